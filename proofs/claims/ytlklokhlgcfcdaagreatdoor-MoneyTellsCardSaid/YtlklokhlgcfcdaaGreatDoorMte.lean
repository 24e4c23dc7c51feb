import Derived.Test.YtlklokhlgcfcdaaGreatDoorMtd
set_option linter.unusedVariables false
set_option linter.unusedSimpArgs false
section
namespace Go.Proofs.YtlklokhlgcfcdaaGreatDoor
open Go.Ev
noncomputable section
abbrev zem:Type:=(List zt) × Int × Int × Int
abbrev zB3:zem→St:=fun (v0,v1,v6,v7)=>St.mk [(0,.dat (.sl zw) v0),(1,.dat tI v1),(6,.dat tU v6),(7,.dat tI v7)] []
def zen (k0:zem→Option (Int × (Int × Unit))):zem→Option (Int × (Int × Unit)):=fun (v0,v1,v6,v7) =>
  bif decide (v7 < ((List.length v0):Int)) then inR v7 ((List.length v0):Int) (bif (ix zQ v0 v7).1 then inR v7 ((List.length v0):Int) (bif (ix zQ v0 v7).2.2.2.1.1 == v1 then inR v7 ((List.length v0):Int) (Option.bind (vl (v6,(ix zQ v0 v7).2.2.2.1.2.1,())) fun q0=>bif q0.2.1 != 0 then some (0,q0.2.1,()) else k0 (v0,v1,q0.1,wI (v7 + 1))) else k0 (v0,v1,v6,wI (v7 + 1))) else k0 (v0,v1,v6,wI (v7 + 1))) else some (v6,0,())
abbrev zrf (K:Nat):zem→Option (Int × (Int × Unit)):=zg zen K
theorem zB4 (K:Nat):∀ n,evV Es1 K Tryz.f178 0 (ch [tU,tI]) [1,1,1,0,1,0] [] zB3 n = zg zen n:=zp fun n0 (v0,v1,v6,v7)=>by kernel_rfl
def zjT (L0:zem→Option (Int × (Int × Unit))):((List zt) × (Int × Unit))→Option (Int × (Int × Unit)):=fun (x0,x1,()) =>
  bif decide (x1 < 0) then some (0,1,()) else bif decide (x1 > 3) then some (0,1,()) else L0 (x0,x1,0,0)
def zjU:((List zt) × Int × Unit)→Option (Int × Int × Unit):=zjT (zrf K0)
abbrev zvh:Fun:=⟨178,(ch [(.sl zw),tI]),(ch [tU,tI]),0,zjU⟩
theorem zGC:Sq zvh:=ml1 (d:=false) (S:=fun K=>zjT (zrf K)) Tryz.func178 (by kernel_rfl) (fun K=>tr1 (T:=zjT) (zB4 K K) fun (x0,x1,())=>by kernel_rfl) rfl
abbrev zeo:Type:=Int × Int × Int × Int × Int × zb
abbrev zrg:zeo→St:=fun (v1,v6,v7,v8,v10,o0)=>St.mk [(1,.dat tI v1),(2,.bp 0 []),(6,.dat tU v6),(7,.dat tU v7),(8,.dat tI v8),(10,.dat tI v10)] [.bx (.dat zn o0) false]
abbrev zep:Type:=Int × Int × Int × Int × Int × zb
abbrev zB5:zep→St:=fun (v1,v6,v7,v8,v9,o0)=>St.mk [(1,.dat tI v1),(2,.bp 0 []),(6,.dat tU v6),(7,.dat tU v7),(8,.dat tI v8),(9,.dat tI v9)] [.bx (.dat zn o0) false]
def zeq (k1:zeo→Option (Int × (Int × Unit))):zeo→Option (Int × (Int × Unit)):=fun (v1,v6,v7,v8,v10,o0) =>
  bif decide (v10 < ((List.length o0.2.1):Int)) then bif v8 == 0 then inR v10 ((List.length o0.2.1):Int) (inR v1 (↑4:Int) (Option.bind (vl (v7,List.getD (ix za o0.2.1 v10).2.2.2.2.2.2.2.2.1 (Int.toNat v1) (0:Int),())) fun q1=>k1 (v1,v6,q1.1,q1.2.1,wI (v10 + 1),o0))) else bif v8 != 0 then some (0,v8,()) else Option.bind (zfr (v6,v7,())) fun q2=>some (q2.1,q2.2.1,()) else bif v8 != 0 then some (0,v8,()) else Option.bind (zfr (v6,v7,())) fun q3=>some (q3.1,q3.2.1,())
abbrev zaS (K:Nat):zeo→Option (Int × (Int × Unit)):=zg zeq K
theorem zB6 (K:Nat):∀ n,evV Es1 K Tryz.f102 0 (ch [tU,tI]) [1,1,1,1,1,1,0,1,0] [] zrg n = zg zeq n:=zp fun n1 (v1,v6,v7,v8,v10,o0)=>by kernel_rfl
def zaT (L1:zeo→Option (Int × (Int × Unit))) (k0:zep→Option (Int × (Int × Unit))):zep→Option (Int × (Int × Unit)):=fun (v1,v6,v7,v8,v9,o0) =>
  bif decide (v9 < ((List.length o0.2.1):Int)) then bif v8 == 0 then inR v9 ((List.length o0.2.1):Int) (inR v1 (↑4:Int) (Option.bind (vl (v6,List.getD (ix za o0.2.1 v9).2.2.2.2.2.2.2.1 (Int.toNat v1) (0:Int),())) fun q0=>k0 (v1,q0.1,v7,q0.2.1,wI (v9 + 1),o0))) else L1 (v1,v6,v7,v8,0,o0) else L1 (v1,v6,v7,v8,0,o0)
abbrev zrh (K:Nat):zep→Option (Int × (Int × Unit)):=zg (fun k0=>zaT (zaS K) k0) K
theorem zB7 (K:Nat):∀ n,evV Es1 K Tryz.f102 0 (ch [tU,tI]) [1,1,1,1,1,0,1,0] [] zB5 n = zg (fun k0=>zaT (zaS K) k0) n:=qB (B:=fun L1 k0=>zaT L1 k0) (V1:=fun n0=>evV Es1 K Tryz.f102 0 (ch [tU,tI]) [1,1,1,1,1,1,0,1,0] [] zrg K) (W1:=fun k0=>(zaS K)) (fun n0=>zB6 K K) fun n0 (v1,v6,v7,v8,v9,o0)=>by kernel_rfl
def zjV (L0:zep→Option (Int × (Int × Unit))):(zb × (Int × Unit))→Option (Int × (Int × Unit)):=fun (x0,x1,()) =>
  bif decide (x1 < 0) then some (0,1,()) else bif decide (x1 > 3) then some (0,1,()) else L0 (x1,0,0,0,0,x0)
def zjW:(zb × Int × Unit)→Option (Int × Int × Unit):=zjV (zrh K0)
abbrev zvi:Fun:=⟨102,(ch [zn,tI]),(ch [tU,tI]),0,zjW⟩
theorem zGD:Sq zvi:=ml1 (d:=false) (S:=fun K=>zjV (zrh K)) Tryz.func102 (by kernel_rfl) (fun K=>tr1 (T:=zjV) (zB7 K K) fun (x0,x1,())=>by kernel_rfl) rfl
def zjX:(zf × (pMe × Unit))→Option (Bool × Unit):=fun (x0,x1,()) =>
  bif decide (x1.1 ≥ 0) then bif decide (x1.1 < ((List.length x0.2.1):Int)) then inR x1.1 ((List.length x0.2.1):Int) (bif x1.2.1 == ix (0:Int) x0.2.1 x1.1 then Option.bind (jU (x0,x1.2.2.1,())) fun q0=>bif q0.1 then some (true,()) else some (false,()) else some (false,())) else some (false,()) else some (false,())
abbrev zvj:Fun:=⟨55,(ch [zu,tMe]),(ch [.bool]),0,zjX⟩
theorem zGE:Sq zvj:=ms1 (d:=false) (K:=0) Tryz.func55 (by kernel_rfl) (funext fun (x0,x1,())=>by kernel_rfl)
def zdy:(zb × (Int × (Int × (Int × (Int × Unit)))))→Option (zb × Unit):=fun (x0,x1,x2,x3,x4,()) =>
  inR x1 ((List.length x0.2.1):Int) (bif decide ((0:Nat) + List.length (ix za x0.2.1 x1).2.2.2.2.2.1 ≤ lim) then inR x2 ((List.length ([] ++ (ix za x0.2.1 x1).2.2.2.2.2.1)):Int) (inR x3 (↑4:Int) (inR x2 ((List.length ([] ++ (ix za x0.2.1 x1).2.2.2.2.2.1)):Int) (inR x3 (↑4:Int) (Option.bind (za8 (x0,x1,(u5 (ix za x0.2.1 x1) (List.set ([] ++ (ix za x0.2.1 x1).2.2.2.2.2.1) (Int.toNat x2) (List.set (List.getD ([] ++ (ix za x0.2.1 x1).2.2.2.2.2.1) (Int.toNat x2) (ze (.arr 4 tU))) (Int.toNat x3) (wU (List.getD (List.getD ([] ++ (ix za x0.2.1 x1).2.2.2.2.2.1) (Int.toNat x2) (ze (.arr 4 tU))) (Int.toNat x3) (0:Int) + x4))))),())) fun q0=>some (q0.1,()))))) else none)
abbrev zw2:Fun:=⟨48,(ch [zn,tI,tI,tI,tU]),(ch [zn]),0,zdy⟩
theorem zIv:Sq zw2:=ms1 (d:=false) (K:=0) Tryz.func48 (by kernel_rfl) (funext fun (x0,x1,x2,x3,x4,())=>by kernel_rfl)
def zjY:(zb × (Int × (Int × (Int × (Int × Unit)))))→Option (zb × Unit):=fun (x0,x1,x2,x3,x4,()) =>
  inR x1 ((List.length x0.2.1):Int) (bif decide ((0:Nat) + List.length (ix za x0.2.1 x1).2.2.2.2.2.1 ≤ lim) then inR x2 ((List.length ([] ++ (ix za x0.2.1 x1).2.2.2.2.2.1)):Int) (inR x3 (↑4:Int) (inR x2 ((List.length ([] ++ (ix za x0.2.1 x1).2.2.2.2.2.1)):Int) (inR x3 (↑4:Int) (Option.bind (za8 (x0,x1,(u5 (ix za x0.2.1 x1) (List.set ([] ++ (ix za x0.2.1 x1).2.2.2.2.2.1) (Int.toNat x2) (List.set (List.getD ([] ++ (ix za x0.2.1 x1).2.2.2.2.2.1) (Int.toNat x2) (ze (.arr 4 tU))) (Int.toNat x3) (wU (List.getD (List.getD ([] ++ (ix za x0.2.1 x1).2.2.2.2.2.1) (Int.toNat x2) (ze (.arr 4 tU))) (Int.toNat x3) (0:Int) - x4))))),())) fun q0=>some (q0.1,()))))) else none)
abbrev zvk:Fun:=⟨51,(ch [zn,tI,tI,tI,tU]),(ch [zn]),0,zjY⟩
theorem zGF:Sq zvk:=ms1 (d:=false) (K:=0) Tryz.func51 (by kernel_rfl) (funext fun (x0,x1,x2,x3,x4,())=>by kernel_rfl)
abbrev yz:Type:=Int × zl × zl
abbrev zkL:yz→St:=fun (v6,o0,o1)=>St.mk [(2,.bp 0 []),(3,.bp 1 []),(6,.dat tI v6)] [.bx (.dat zm o0) false,.bx (.dat zm o1) false]
abbrev yA:Type:=Int × zl × zl
abbrev zt2:yA→St:=fun (v5,o0,o1)=>St.mk [(2,.bp 0 []),(3,.bp 1 []),(5,.dat tI v5)] [.bx (.dat zm o0) false,.bx (.dat zm o1) false]
def yB (k1:yz→Option (Bool × Unit)):yz→Option (Bool × Unit):=fun (v6,o0,o1) =>
  bif decide (v6 < ((List.length o0.2.2.2.2.2.2.1):Int)) then inR v6 ((List.length o0.2.2.2.2.2.2.1):Int) (inR v6 ((List.length o1.2.2.2.2.2.2.1):Int) (bif !eqI zM (ix zF4 o0.2.2.2.2.2.2.1 v6) (ix zF4 o1.2.2.2.2.2.2.1 v6) then some (false,()) else k1 (wI (v6 + 1),o0,o1))) else some (true,())
abbrev zbK (K:Nat):yz→Option (Bool × Unit):=zg yB K
theorem zt3 (K:Nat):∀ n,evV Es1 K Tryz.f29 0 (ch [.bool]) [1,1,1,1,0,1,0] [] zkL n = zg yB n:=zp fun n1 (v6,o0,o1)=>by kernel_rfl
def vb (L1:yz→Option (Bool × Unit)) (k0:yA→Option (Bool × Unit)):yA→Option (Bool × Unit):=fun (v5,o0,o1) =>
  bif decide (v5 < ((List.length o0.2.2.2.2.2.1):Int)) then inR v5 ((List.length o0.2.2.2.2.2.1):Int) (inR v5 ((List.length o1.2.2.2.2.2.1):Int) (bif !eqI (.arr 4 tU) (List.getD o0.2.2.2.2.2.1 (Int.toNat v5) (ze (.arr 4 tU))) (List.getD o1.2.2.2.2.2.1 (Int.toNat v5) (ze (.arr 4 tU))) then some (false,()) else k0 (wI (v5 + 1),o0,o1))) else L1 (0,o0,o1)
abbrev zfW (K:Nat):yA→Option (Bool × Unit):=zg (fun k0=>vb (zbK K) k0) K
theorem zt4 (K:Nat):∀ n,evV Es1 K Tryz.f29 0 (ch [.bool]) [1,1,1,0,1,0] [] zt2 n = zg (fun k0=>vb (zbK K) k0) n:=qB (B:=fun L1 k0=>vb L1 k0) (V1:=fun n0=>evV Es1 K Tryz.f29 0 (ch [.bool]) [1,1,1,1,0,1,0] [] zkL K) (W1:=fun k0=>(zbK K)) (fun n0=>zt3 K K) fun n0 (v5,o0,o1)=>by kernel_rfl
def zdN (L0:yA→Option (Bool × Unit)):(zl × (zl × Unit))→Option (Bool × Unit):=fun (x0,x1,()) =>
  Option.bind (zhw (x0.1,x1.1,())) fun q0=>bif q0.1 then Option.bind (zhy (x0.2.1,x1.2.1,())) fun q1=>bif q1.1 then Option.bind (znM (x0.2.2.1,x1.2.2.1,())) fun q2=>bif q2.1 then Option.bind (znO (x0.2.2.2.1,x1.2.2.2.1,())) fun q3=>bif q3.1 then Option.bind (znQ (x0.2.2.2.2.1,x1.2.2.2.2.1,())) fun q4=>bif q4.1 then bif ((List.length x0.2.2.2.2.2.1):Int) != ((List.length x1.2.2.2.2.2.1):Int) then some (false,()) else bif ((List.length x0.2.2.2.2.2.2.1):Int) != ((List.length x1.2.2.2.2.2.2.1):Int) then some (false,()) else bif !eqI (.arr 4 tU) x0.2.2.2.2.2.2.2.1 x1.2.2.2.2.2.2.2.1 then some (false,()) else bif !eqI (.arr 4 tU) x0.2.2.2.2.2.2.2.2.1 x1.2.2.2.2.2.2.2.2.1 then some (false,()) else L0 (0,x0,x1) else some (false,()) else some (false,()) else some (false,()) else some (false,()) else some (false,())
def zdO:(zl × zl × Unit)→Option (Bool × Unit):=zdN (zfW K0)
abbrev zmL:Fun:=⟨29,(ch [zm,zm]),(ch [.bool]),0,zdO⟩
theorem zwo:Sq zmL:=ml1 (d:=false) (S:=fun K=>zdN (zfW K)) Tryz.func29 (by kernel_rfl) (fun K=>tr1 (T:=zdN) (zt4 K K) fun (x0,x1,())=>by kernel_rfl) rfl
abbrev L2:List Fun:=zs0 :: znR :: zho :: zmK :: zjK :: zpa :: zi9 :: zhT :: zq7 :: zf2 :: zkK :: znS :: zu4 :: zhp :: zhU :: zu5 :: zu6 :: zhV :: zlT :: zhW :: zq8 :: zq9 :: zhq :: zwZ :: zu8 :: znT :: zhr :: znU :: zhs :: znV :: zw0 :: zhZ :: zja :: znW :: znX :: znY :: zpb :: znZ :: zpc :: zz0 :: zs1 :: zrb :: zn0 :: zrc :: zrd :: zvc :: zs2 :: zs3 :: zs4 :: zvd :: zve :: zw1 :: zvf :: zvg :: zvh :: zvi :: zvj :: zw2 :: zvk :: zmL :: L1
theorem h2:Sds Tryz.prog E0 L2:=⟨zDP,zxX,zoz,zwn,zsm,zzX,zq6,zqh,zBT,zmY,zt1,zxY,zGr,zoA,zqi,zGs,zGt,zqj,zu7,zqk,zBU,zBV,zoB,zIs,zGu,zxZ,zoC,zx0,zoD,zx1,zIt,zql,zra,zx2,zx3,zx4,zzY,zx5,zzZ,zKw,zDQ,zBW,zx8,zBX,zBY,zGx,zDR,zDS,zDT,zGy,zGz,zIu,zGA,zGB,zGC,zGD,zGE,zIv,zGF,zwo,h1⟩
theorem ms2 {d:Bool} {F:Fun} {f:Go.Func} {K:Nat} (hf:Tryz.prog.funcs[F.id]? = some f) (ho:jl f = true) (h:evF (En E0 d L2) K f F.md F.a F.r = F.spec):Sd Tryz.prog E0 F:=mkS h2 hf ho h
theorem ml2 {d:Bool} {F:Fun} {f:Go.Func} {S:Nat→F.a.I→Option F.r.I} (hf:Tryz.prog.funcs[F.id]? = some f) (ho:jl f = true) (h:∀ K,evF (En E0 d L2) K f F.md F.a F.r = S K) (e:S K0 = F.spec):Sd Tryz.prog E0 F:=mkS h2 hf ho ((h K0).trans e)
abbrev Es2:Env:=En E0 false L2
def zlt:(zy × (zy × Unit))→Option (Int × Unit):=fun (x0,x1,()) =>
  Option.bind (zax (x0.1,x1.1,())) fun q0=>Option.bind (vU (x0.2.1,x1.2.1,())) fun q1=>Option.bind (zdZ (zj (zj (List.replicate 2 (0:Int)) 0 q0.1) 1 q1.1,())) fun q2=>some (q2.1,())
abbrev zw3:Fun:=⟨184,(ch [zq,zq]),(ch [tI]),0,zlt⟩
theorem zIw:Sq zw3:=ms2 (d:=false) (K:=0) Tryz.func184 (by kernel_rfl) (funext fun (x0,x1,())=>by kernel_rfl)
def yh:(zf × Unit)→Option (Bool × Unit):=fun (x0,()) =>
  Option.bind (qt (((List.length x0.2.1):Int),1,8,())) fun q0=>bif q0.1 then Option.bind (qK (x0.2.1,some fun z=>zcj (z.1,some x0,()),())) fun q1=>bif q1.1 then some (false,()) else some (true,()) else some (false,())
abbrev zs6:Fun:=⟨105,(ch [zu]),(ch [.bool]),0,yh⟩
theorem zDW:Sq zs6:=ms2 (d:=false) (K:=0) Tryz.func105 (by kernel_rfl) (funext fun (x0,())=>by kernel_rfl)
def zmZ:(ByteArray × ((Option ((Int × Unit)→Option (Bool × Unit))) × Unit))→Option (Bool × Unit):=fun (x0,x1,()) =>
  Option.bind (vm (List.map (fun b=>(↑(UInt8.toNat b):Int)) (Array.toList (ByteArray.data x0)),some fun z=>zjv (z.1,some x1,()),())) fun q0=>bif q0.1 then some (false,()) else some (true,())
abbrev zz7:Fun:=⟨257,(ch [.str,(.fn (ch [(.int .u8)]) (ch [.bool]))]),(ch [.bool]),0,zmZ⟩
theorem zKx:Sq zz7:=ms2 (d:=false) (K:=0) Tryz.func257 (by kernel_rfl) (funext fun (x0,x1,())=>by kernel_rfl)
abbrev zbh:Type:=Int × (List z7) × Int × Int × zf × Int
abbrev zyf:zbh→St:=fun (v4,v11,v12,v13,o0,o1)=>St.mk [(1,.bp 0 []),(3,.bp 1 []),(4,.dat tI v4),(11,.dat (.sl yo) v11),(12,.dat tI v12),(13,.dat tI v13)] [.bx (.dat zu o0) false,.bx (.dat tU o1) false]
def zbi (k0:zbh→Option (Bool × Unit)):zbh→Option (Bool × Unit):=fun (v4,v11,v12,v13,o0,o1) =>
  bif decide (v13 < v12) then inR v13 ((List.length v11):Int) (Option.bind (zjx ((ix qF v11 v13).1,())) fun q0=>bif q0.2.1 != 0 then some (false,()) else bif decide ((ix qF v11 v13).1 ≤ v4) then some (false,()) else Option.bind (qt ((ix qF v11 v13).2.1,0,wI (((List.length o0.2.2.1):Int) - 1),())) fun q1=>bif q1.1 then Option.bind (zbJ (o0.1,q0.1,())) fun q2=>bif q2.1 then k0 ((ix qF v11 v13).1,v11,v12,wI (v13 + 1),o0,wU (↑(BitVec.toNat (BitVec.ofInt (IntKind.bits IntKind.u64) o1 ||| BitVec.ofInt (IntKind.bits IntKind.u64) q0.1.2.1)):Int)) else some (false,()) else some (false,())) else bif decide (((List.length o0.2.2.2.1):Int) ≤ 8) then Option.bind (yl (o0.1,some fun z=>ziJ (z.1,some o1,()),())) fun q3=>bif q3.1 then some (false,()) else some (true,()) else some (false,())
abbrev zn3 (K:Nat):zbh→Option (Bool × Unit):=zg zbi K
theorem zyg (K:Nat):∀ n,evV Es2 K Tryz.f107 0 (ch [.bool]) [1,1,1,0,1,0] [] zyf n = zg zbi n:=zp fun n0 (v4,v11,v12,v13,o0,o1)=>by kernel_rfl
def zk5 (L0:zbh→Option (Bool × Unit)):(zf × Unit)→Option (Bool × Unit):=fun (x0,()) =>
  L0 ((-1),x0.2.2.2.1,((List.length x0.2.2.2.1):Int),0,x0,0)
def vF:(zf × Unit)→Option (Bool × Unit):=zk5 (zn3 K0)
abbrev zri:Fun:=⟨107,(ch [zu]),(ch [.bool]),0,vF⟩
theorem zB8:Sq zri:=ml2 (d:=false) (S:=fun K=>zk5 (zn3 K)) Tryz.func107 (by kernel_rfl) (fun K=>tr1 (T:=zk5) (zyg K K) fun (x0,())=>by kernel_rfl) rfl
abbrev zbj:Type:=Int × (List zaw) × Int × Int
abbrev zyh:zbj→St:=fun (v3,v23,v24,v25)=>St.mk [(3,.dat tU v3),(23,.dat (.sl zb3) v23),(24,.dat tI v24),(25,.dat tI v25)] []
def zff (k0:zbj→Option (Bool × Unit)):zbj→Option (Bool × Unit):=fun (v3,v23,v24,v25) =>
  bif decide (v25 < v24) then inR v25 ((List.length v23):Int) (bif decide ((ix qe v23 v25).2.2.2.2.2.1 > v3) then some (false,()) else Option.bind (zjy (ix qe v23 v25,())) fun q0=>Option.bind (qK (q0.1,some ze9,())) fun q1=>bif q1.1 then some (false,()) else k0 (wU (v3 - (ix qe v23 v25).2.2.2.2.2.1),v23,v24,wI (v25 + 1))) else some (true,())
abbrev ziP (K:Nat):zbj→Option (Bool × Unit):=zg zff K
theorem zyi (K:Nat):∀ n,evV Es2 K Tryz.f108 0 (ch [.bool]) [1,1,1,0,1,0] [] zyh n = zg zff n:=zp fun n0 (v3,v23,v24,v25)=>by kernel_rfl
def zg6 (L0:zbj→Option (Bool × Unit)):(zf × Unit)→Option (Bool × Unit):=fun (x0,()) =>
  bif ((List.length x0.2.2.2.2.1):Int) != ((List.length x0.1):Int) then some (false,()) else bif decide (0 < ((List.length x0.2.2.2.2.1):Int)) then bif decide ((ix qe x0.2.2.2.2.1 0).1 < 1) then some (false,()) else L0 (4611686018427387904,x0.2.2.2.2.1,((List.length x0.2.2.2.2.1):Int),0) else none
def vG:(zf × Unit)→Option (Bool × Unit):=zg6 (ziP K0)
abbrev zrj:Fun:=⟨108,(ch [zu]),(ch [.bool]),0,vG⟩
theorem zB9:Sq zrj:=ml2 (d:=false) (S:=fun K=>zg6 (ziP K)) Tryz.func108 (by kernel_rfl) (fun K=>tr1 (T:=zg6) (zyi K K) fun (x0,())=>by kernel_rfl) rfl
def zhz:((List zl) × ((Option ((zl × Unit)→Option (Bool × Unit))) × Unit))→Option (Bool × Unit):=fun (x0,x1,()) =>
  Option.bind (j3 (x0,some fun z=>zbC (z.1,some x1,()),())) fun q0=>bif q0.1 then some (false,()) else some (true,())
abbrev zmM:Fun:=⟨110,(ch [(.sl zm),(.fn (ch [zm]) (ch [.bool]))]),(ch [.bool]),0,zhz⟩
theorem zwp:Sq zmM:=ms2 (d:=false) (K:=0) Tryz.func110 (by kernel_rfl) (funext fun (x0,x1,())=>by kernel_rfl)
abbrev zer:Type:=(List z9) × (List z9) × Int × Int
abbrev zCa:zer→St:=fun (v0,v5,v6,v7)=>St.mk [(0,.dat (.sl zT) v0),(5,.dat (.sl zT) v5),(6,.dat tI v6),(7,.dat tI v7)] []
def zes (k0:zer→Option (Bool × Unit)):zer→Option (Bool × Unit):=fun (v0,v5,v6,v7) =>
  bif decide (v7 < v6) then inR v7 ((List.length v5):Int) (Option.bind (zjL (ix qh v5 v7,())) fun q0=>bif q0.1 then some (false,()) else bif (ix qh v5 v7).1 then Option.bind (zjM (v0,(ix qh v5 v7).2.1,(ix qh v5 v7).2.2.2.1,())) fun q1=>bif q1.1 != v7 then some (false,()) else k0 (v0,v5,v6,wI (v7 + 1)) else k0 (v0,v5,v6,wI (v7 + 1))) else some (true,())
abbrev zrk (K:Nat):zer→Option (Bool × Unit):=zg zes K
theorem zCb (K:Nat):∀ n,evV Es2 K Tryz.f113 0 (ch [.bool]) [1,0,1,0] [] zCa n = zg zes n:=zp fun n0 (v0,v5,v6,v7)=>by kernel_rfl
def zn4 (L0:zer→Option (Bool × Unit)):((List z9) × Unit)→Option (Bool × Unit):=fun (x0,()) =>
  L0 (x0,x0,((List.length x0):Int),0)
def zn5:((List z9) × Unit)→Option (Bool × Unit):=zn4 (zrk K0)
abbrev zvl:Fun:=⟨113,(ch [(.sl zT)]),(ch [.bool]),0,zn5⟩
theorem zGG:Sq zvl:=ml2 (d:=false) (S:=fun K=>zn4 (zrk K)) Tryz.func113 (by kernel_rfl) (fun K=>tr1 (T:=zn4) (zCb K K) fun (x0,())=>by kernel_rfl) rfl
def zlu:(zt × Unit)→Option (Bool × Unit):=fun (x0,()) =>
  Option.bind (zgV (x0.2.1,())) fun q0=>bif q0.1 then Option.bind (zgV (x0.2.2.1,())) fun q1=>bif q1.1 then bif x0.2.1 != x0.2.2.1 then Option.bind (zhX (x0.2.2.2.1,())) fun q2=>bif q2.1 then Option.bind (zhX (x0.2.2.2.2.1,())) fun q3=>bif q3.1 then Option.bind (zgr (x0.2.2.2.1,())) fun q4=>bif q4.1 then Option.bind (zgr (x0.2.2.2.2.1,())) fun q5=>bif q5.1 then some (false,()) else some (true,()) else some (true,()) else some (false,()) else some (false,()) else some (false,()) else some (false,()) else some (false,())
abbrev zw4:Fun:=⟨208,(ch [zw]),(ch [.bool]),0,zlu⟩
theorem zIx:Sq zw4:=ms2 (d:=false) (K:=0) Tryz.func208 (by kernel_rfl) (funext fun (x0,())=>by kernel_rfl)
def zh0:(Int × (Int × (Int × Unit)))→Option (Int × (Int × Unit)):=fun (x0,x1,x2,()) =>
  bif x0 != 1 then bif x0 != 2 then some (0,1,()) else bif x1 == 0 then some (0,1,()) else bif x2 == 0 then some (0,1,()) else Option.bind (zgu (x1,x2,())) fun q0=>bif q0.2.1 != 0 then some (0,q0.2.1,()) else bif x0 == 2 then some (x1,0,()) else some (q0.1,0,()) else bif x1 == 0 then some (0,1,()) else bif x2 == 0 then some (0,1,()) else Option.bind (zgu (x1,x2,())) fun q1=>bif q1.2.1 != 0 then some (0,q1.2.1,()) else bif x0 == 2 then some (x1,0,()) else some (q1.1,0,())
abbrev zw5:Fun:=⟨278,(ch [tI,tU,tU]),(ch [tU,tI]),0,zh0⟩
theorem zIy:Sq zw5:=ms2 (d:=false) (K:=0) Tryz.func278 (by kernel_rfl) (funext fun (x0,x1,x2,())=>by kernel_rfl)
def zim:(zF × (zF × Unit))→Option (Int × Unit):=fun (x0,x1,()) =>
  Option.bind (vU (x0.1,x1.1,())) fun q0=>Option.bind (zax (x0.2.1,x1.2.1,())) fun q1=>Option.bind (zdZ (zj (zj (List.replicate 2 (0:Int)) 0 q0.1) 1 q1.1,())) fun q2=>some (q2.1,())
abbrev zs7:Fun:=⟨212,(ch [zv,zv]),(ch [tI]),0,zim⟩
theorem zDX:Sq zs7:=ms2 (d:=false) (K:=0) Tryz.func212 (by kernel_rfl) (funext fun (x0,x1,())=>by kernel_rfl)
def zhA:((List zo) × ((Option ((zo × Unit)→Option (Bool × Unit))) × Unit))→Option (Bool × Unit):=fun (x0,x1,()) =>
  Option.bind (j4 (x0,some fun z=>zbG (z.1,some x1,()),())) fun q0=>bif q0.1 then some (false,()) else some (true,())
abbrev zmN:Fun:=⟨120,(ch [(.sl zr),(.fn (ch [zr]) (ch [.bool]))]),(ch [.bool]),0,zhA⟩
theorem zwq:Sq zmN:=ms2 (d:=false) (K:=0) Tryz.func120 (by kernel_rfl) (funext fun (x0,x1,())=>by kernel_rfl)
def zdP:((List zF) × ((Option ((zF × Unit)→Option (Bool × Unit))) × Unit))→Option (Bool × Unit):=fun (x0,x1,()) =>
  Option.bind (j5 (x0,some fun z=>zbH (z.1,some x1,()),())) fun q0=>bif q0.1 then some (false,()) else some (true,())
abbrev zmO:Fun:=⟨124,(ch [(.sl zv),(.fn (ch [zv]) (ch [.bool]))]),(ch [.bool]),0,zdP⟩
theorem zwr:Sq zmO:=ms2 (d:=false) (K:=0) Tryz.func124 (by kernel_rfl) (funext fun (x0,x1,())=>by kernel_rfl)
def zad:((List Int) × ((Option ((Int × Unit)→Option (Bool × Unit))) × Unit))→Option (Bool × Unit):=fun (x0,x1,()) =>
  Option.bind (qK (x0,some fun z=>zdL (z.1,some x1,()),())) fun q0=>bif q0.1 then some (false,()) else some (true,())
abbrev zpi:Fun:=⟨126,(ch [(.sl tI),(.fn (ch [tI]) (ch [.bool]))]),(ch [.bool]),0,zad⟩
theorem zz8:Sq zpi:=ms2 (d:=false) (K:=0) Tryz.func126 (by kernel_rfl) (funext fun (x0,x1,())=>by kernel_rfl)
def vX:(z7 × ((Option qT) × ((Option Int) × Unit)))→Option (Bool × Unit):=fun (x0,x1,x2,()) =>
  Option.bind x1 fun q0=>Option.bind (zfl (q0.2.1,x0,())) fun q1=>bif q1.1 then Option.bind x1 fun q2=>Option.bind x2 fun q3=>Option.bind (zhY (q2,x0.1,q3,())) fun q4=>bif q4.1 then some (true,()) else some (false,()) else some (false,())
abbrev zpj:Fun:=⟨218,(ch [zM,(.ptr qo),(.ptr tI)]),(ch [.bool]),0,vX⟩
theorem zz9:Sq zpj:=ms2 (d:=false) (K:=0) Tryz.func218 (by kernel_rfl) (funext fun (x0,x1,x2,())=>by kernel_rfl)
def ziQ:((List z9) × ((Option ((z9 × Unit)→Option (Bool × Unit))) × Unit))→Option (Bool × Unit):=fun (x0,x1,()) =>
  Option.bind (vn (x0,some fun z=>zb6 (z.1,some x1,()),())) fun q0=>bif q0.1 then some (false,()) else some (true,())
abbrev zn6:Fun:=⟨129,(ch [(.sl zT),(.fn (ch [zT]) (ch [.bool]))]),(ch [.bool]),0,ziQ⟩
theorem zyj:Sq zn6:=ms2 (d:=false) (K:=0) Tryz.func129 (by kernel_rfl) (funext fun (x0,x1,())=>by kernel_rfl)
def yN:((List qa) × ((Option ((qa × Unit)→Option (Bool × Unit))) × Unit))→Option (Bool × Unit):=fun (x0,x1,()) =>
  Option.bind (jt (x0,some fun z=>zb8 (z.1,some x1,()),())) fun q0=>bif q0.1 then some (false,()) else some (true,())
abbrev zn7:Fun:=⟨131,(ch [(.sl zG),(.fn (ch [zG]) (ch [.bool]))]),(ch [.bool]),0,yN⟩
theorem zyk:Sq zn7:=ms2 (d:=false) (K:=0) Tryz.func131 (by kernel_rfl) (funext fun (x0,x1,())=>by kernel_rfl)
def zjZ:((List z7) × ((Option ((z7 × Unit)→Option (Bool × Unit))) × Unit))→Option (Bool × Unit):=fun (x0,x1,()) =>
  Option.bind (vE (x0,some fun z=>zdM (z.1,some x1,()),())) fun q0=>bif q0.1 then some (false,()) else some (true,())
abbrev zpk:Fun:=⟨133,(ch [(.sl zM),(.fn (ch [zM]) (ch [.bool]))]),(ch [.bool]),0,zjZ⟩
theorem zAa:Sq zpk:=ms2 (d:=false) (K:=0) Tryz.func133 (by kernel_rfl) (funext fun (x0,x1,())=>by kernel_rfl)
def vu:(qq × ((Option qT) × ((Option Int) × Unit)))→Option (Bool × Unit):=fun (x0,x1,x2,()) =>
  bif x0.1 then Option.bind x1 fun q0=>Option.bind x2 fun q1=>Option.bind (zhY (q0,x0.2.1,q1,())) fun q2=>bif q2.1 then Option.bind x1 fun q3=>Option.bind (qV (q3,x0.2.2.1,())) fun q4=>bif q4.1 then Option.bind x1 fun q5=>Option.bind (qV (q5,x0.2.2.2.1,())) fun q6=>bif q6.1 then some (true,()) else some (false,()) else some (false,()) else some (false,()) else some (true,())
abbrev zn8:Fun:=⟨136,(ch [zX,(.ptr qo),(.ptr tI)]),(ch [.bool]),0,vu⟩
theorem zyl:Sq zn8:=ms2 (d:=false) (K:=0) Tryz.func136 (by kernel_rfl) (funext fun (x0,x1,x2,())=>by kernel_rfl)
def yO:((List qq) × ((Option ((qq × Unit)→Option (Bool × Unit))) × Unit))→Option (Bool × Unit):=fun (x0,x1,()) =>
  Option.bind (ju (x0,some fun z=>zca (z.1,some x1,()),())) fun q0=>bif q0.1 then some (false,()) else some (true,())
abbrev zn9:Fun:=⟨135,(ch [(.sl zX),(.fn (ch [zX]) (ch [.bool]))]),(ch [.bool]),0,yO⟩
theorem zym:Sq zn9:=ms2 (d:=false) (K:=0) Tryz.func135 (by kernel_rfl) (funext fun (x0,x1,())=>by kernel_rfl)
def qL:((List zt) × ((Option ((zt × Unit)→Option (Bool × Unit))) × Unit))→Option (Bool × Unit):=fun (x0,x1,()) =>
  Option.bind (jg (x0,some fun z=>zbI (z.1,some x1,()),())) fun q0=>bif q0.1 then some (false,()) else some (true,())
abbrev zmP:Fun:=⟨138,(ch [(.sl zw),(.fn (ch [zw]) (ch [.bool]))]),(ch [.bool]),0,qL⟩
theorem zws:Sq zmP:=ms2 (d:=false) (K:=0) Tryz.func138 (by kernel_rfl) (funext fun (x0,x1,())=>by kernel_rfl)
abbrev yC:Type:=(Option zb4) × Int × Int × List Int
abbrev zt5:yC→St:=fun (v0,v12,v13,o0)=>St.mk [(0,.dat (.ptr vQ) v0),(3,.ow 0),(12,.dat tI v12),(13,.dat tI v13)] [.row tI o0 false]
def yD (k0:yC→Option ((List Int) × Unit)):yC→Option ((List Int) × Unit):=fun (v0,v12,v13,o0) =>
  bif decide (v13 < v12) then Option.bind (vV (v0,v13,())) fun q2=>bif q2.1 then bif decide (List.length o0 + List.length (zj (List.replicate 1 (0:Int)) 0 v13) ≤ lim) then k0 (v0,v12,wI (v13 + 1),o0 ++ zj (List.replicate 1 (0:Int)) 0 v13) else none else k0 (v0,v12,wI (v13 + 1),o0) else some (o0,())
abbrev zkM (K:Nat):yC→Option ((List Int) × Unit):=zg yD K
theorem zt6 (K:Nat):∀ n,evV Es2 K Tryz.f143 0 (ch [(.sl tI)]) [1,1,1,0,1,0] [] zt5 n = zg yD n:=zp fun n0 (v0,v12,v13,o0)=>by kernel_rfl
def zhB (L0:yC→Option ((List Int) × Unit)):((Option zb4) × Unit)→Option ((List Int) × Unit):=fun (x0,()) =>
  Option.bind (ze6 (x0,())) fun q0=>bif q0.1 then Option.bind x0 fun q1=>L0 (x0,((List.length q1.1):Int),0,[]) else some ([],())
def zdQ:((Option zb4) × Unit)→Option ((List Int) × Unit):=zhB (zkM K0)
abbrev zmQ:Fun:=⟨143,(ch [(.ptr vQ)]),(ch [(.sl tI)]),0,zdQ⟩
theorem zwt:Sq zmQ:=ml2 (d:=false) (S:=fun K=>zhB (zkM K)) Tryz.func143 (by kernel_rfl) (fun K=>tr1 (T:=zhB) (zt6 K K) fun (x0,())=>by kernel_rfl) rfl
def zm0:((List zo) × Unit)→Option ((Option zeW) × Unit):=fun (x0,()) =>
  Option.bind (ziK (x0,some zjG,())) fun q0=>some (q0.1,())
abbrev zAb:Fun:=⟨227,(ch [(.sl zr)]),(ch [(.ptr yT)]),0,zm0⟩
theorem zKy:Sq zAb:=ms2 (d:=false) (K:=0) Tryz.func227 (by kernel_rfl) (funext fun (x0,())=>by kernel_rfl)
abbrev yE:Type:=(Option zeW) × Int × Int × List Int
abbrev zt7:yE→St:=fun (v0,v12,v13,o0)=>St.mk [(0,.dat (.ptr yT) v0),(3,.ow 0),(12,.dat tI v12),(13,.dat tI v13)] [.row tI o0 false]
def yF (k0:yE→Option ((List Int) × Unit)):yE→Option ((List Int) × Unit):=fun (v0,v12,v13,o0) =>
  bif decide (v13 < v12) then Option.bind (zf3 (v0,v13,())) fun q2=>bif q2.1 then bif decide (List.length o0 + List.length (zj (List.replicate 1 (0:Int)) 0 v13) ≤ lim) then k0 (v0,v12,wI (v13 + 1),o0 ++ zj (List.replicate 1 (0:Int)) 0 v13) else none else k0 (v0,v12,wI (v13 + 1),o0) else some (o0,())
abbrev zkN (K:Nat):yE→Option ((List Int) × Unit):=zg yF K
theorem zt8 (K:Nat):∀ n,evV Es2 K Tryz.f228 0 (ch [(.sl tI)]) [1,1,1,0,1,0] [] zt7 n = zg yF n:=zp fun n0 (v0,v12,v13,o0)=>by kernel_rfl
def zhC (L0:yE→Option ((List Int) × Unit)):((Option zeW) × Unit)→Option ((List Int) × Unit):=fun (x0,()) =>
  Option.bind (ze7 (x0,())) fun q0=>bif q0.1 then Option.bind x0 fun q1=>L0 (x0,((List.length q1.1):Int),0,[]) else some ([],())
def zhD:((Option zeW) × Unit)→Option ((List Int) × Unit):=zhC (zkN K0)
abbrev zmR:Fun:=⟨228,(ch [(.ptr yT)]),(ch [(.sl tI)]),0,zhD⟩
theorem zwu:Sq zmR:=ml2 (d:=false) (S:=fun K=>zhC (zkN K)) Tryz.func228 (by kernel_rfl) (fun K=>tr1 (T:=zhC) (zt8 K K) fun (x0,())=>by kernel_rfl) rfl
def zlv:((List zt) × Unit)→Option ((Option zb4) × Unit):=fun (x0,()) =>
  Option.bind (yK (x0,some zid,())) fun q0=>some (q0.1,())
abbrev zw6:Fun:=⟨146,(ch [(.sl zw)]),(ch [(.ptr vQ)]),0,zlv⟩
theorem zIz:Sq zw6:=ms2 (d:=false) (K:=0) Tryz.func146 (by kernel_rfl) (funext fun (x0,())=>by kernel_rfl)
abbrev zbk:Type:=Int × (Option ((zl × Unit)→Option ((List Int) × Unit))) × (List zl) × Int × Int × List Int
abbrev zyn:zbk→St:=fun (v1,v2,v12,v13,v14,o0)=>St.mk [(1,.dat tI v1),(2,.dat (.fn (.pair zm .unit) (.pair (.arr 4 tU) .unit)) v2),(8,.ow 0),(12,.dat (.sl zm) v12),(13,.dat tI v13),(14,.dat tI v14)] [.row tU o0 false]
def zbl (k0:zbk→Option (Int × (Int × Unit))):zbk→Option (Int × (Int × Unit)):=fun (v1,v2,v12,v13,v14,o0) =>
  bif decide (v14 < v13) then inR v14 ((List.length v12):Int) (Option.bind v2 fun q0=>Option.bind (q0 (ix za v12 v14,())) fun q1=>inR v1 (↑4:Int) (bif decide (List.length o0 + List.length (zj (List.replicate 1 (0:Int)) 0 (ix (0:Int) q1.1 v1)) ≤ lim) then k0 (v1,v2,v12,v13,wI (v14 + 1),o0 ++ zj (List.replicate 1 (0:Int)) 0 (ix (0:Int) q1.1 v1)) else none)) else Option.bind (zg0 (o0,())) fun q2=>some (q2.1,q2.2.1,())
abbrev zoa (K:Nat):zbk→Option (Int × (Int × Unit)):=zg zbl K
theorem zyo (K:Nat):∀ n,evV Es2 K Tryz.f83 0 (ch [tU,tI]) [1,1,0,1,0] [] zyn n = zg zbl n:=zp fun n0 (v1,v2,v12,v13,v14,o0)=>by kernel_rfl
def zk6 (L0:zbk→Option (Int × (Int × Unit))):(zb × (Int × ((Option ((zl × Unit)→Option ((List Int) × Unit))) × Unit)))→Option (Int × (Int × Unit)):=fun (x0,x1,x2,()) =>
  L0 (x1,x2,x0.2.1,((List.length x0.2.1):Int),0,[])
def zg7:(zb × (Int × ((Option ((zl × Unit)→Option ((List Int) × Unit))) × Unit)))→Option (Int × Int × Unit):=zk6 (zoa K0)
abbrev zrl:Fun:=⟨83,(ch [zn,tI,(.fn (ch [zm]) (ch [(.arr 4 tU)]))]),(ch [tU,tI]),0,zg7⟩
theorem zCc:Sq zrl:=ml2 (d:=false) (S:=fun K=>zk6 (zoa K)) Tryz.func83 (by kernel_rfl) (fun K=>tr1 (T:=zk6) (zyo K K) fun (x0,x1,x2,())=>by kernel_rfl) rfl
def zdz:((List Int) × (Int × (Int × Unit)))→Option ((List Int) × (Int × Unit)):=fun (x0,x1,x2,()) =>
  Option.bind (zfs (x0,x1,x2,some zfI,())) fun q0=>some (q0.1,q0.2.1,())
abbrev zw7:Fun:=⟨155,(ch [(.arr 4 tU),tI,tU]),(ch [(.arr 4 tU),tI]),0,zdz⟩
theorem zIA:Sq zw7:=ms2 (d:=false) (K:=0) Tryz.func155 (by kernel_rfl) (funext fun (x0,x1,x2,())=>by kernel_rfl)
def zdA:((List Int) × (Int × (Int × Unit)))→Option ((List Int) × (Int × Unit)):=fun (x0,x1,x2,()) =>
  Option.bind (zfs (x0,x1,x2,some za7,())) fun q0=>some (q0.1,q0.2.1,())
abbrev zw8:Fun:=⟨157,(ch [(.arr 4 tU),tI,tU]),(ch [(.arr 4 tU),tI]),0,zdA⟩
theorem zIB:Sq zw8:=ms2 (d:=false) (K:=0) Tryz.func157 (by kernel_rfl) (funext fun (x0,x1,x2,())=>by kernel_rfl)
abbrev zcu:Type:=Int × zf
abbrev zAc:zcu→St:=fun (v3,o0)=>St.mk [(1,.bp 0 []),(3,.dat tI v3)] [.bx (.dat zu o0) false]
def zf4 (k0:zcu→Option (Bool × Unit)):zcu→Option (Bool × Unit):=fun (v3,o0) =>
  bif decide (v3 < ((List.length o0.2.1):Int)) then inR v3 ((List.length o0.2.1):Int) (bif decide (ix (0:Int) o0.2.1 v3 < 0) then some (false,()) else inR v3 ((List.length o0.2.1):Int) (bif decide (ix (0:Int) o0.2.1 v3 ≥ ((List.length o0.1):Int)) then some (false,()) else k0 (wI (v3 + 1),o0))) else bif ((List.length o0.2.2.2.2.1):Int) != ((List.length o0.1):Int) then some (false,()) else Option.bind (zk3 (o0.2.2.2.2.1,())) fun q3=>bif q3.1 then bif decide (o0.2.2.2.2.2.1 ≥ 0) then bif decide (o0.2.2.2.2.2.1 ≤ 24) then bif decide (o0.2.2.2.2.2.2.1 ≥ 0) then bif decide (o0.2.2.2.2.2.2.1 ≤ 48) then bif decide (o0.2.2.2.2.2.2.2.1 ≥ 1) then bif decide (o0.2.2.2.2.2.2.2.1 ≤ 4) then bif decide (o0.2.2.2.2.2.2.2.2.1 ≥ 1) then bif decide (o0.2.2.2.2.2.2.2.2.1 ≤ 16) then some (true,()) else some (false,()) else some (false,()) else some (false,()) else some (false,()) else some (false,()) else some (false,()) else some (false,()) else some (false,()) else some (false,())
abbrev zj0 (K:Nat):zcu→Option (Bool × Unit):=zg zf4 K
theorem zAd (K:Nat):∀ n,evV Es2 K Tryz.f97 0 (ch [.bool]) [1,1,0,1,0] [] zAc n = zg zf4 n:=zp fun n0 (v3,o0)=>by kernel_rfl
def zin (L0:zcu→Option (Bool × Unit)):(zf × Unit)→Option (Bool × Unit):=fun (x0,()) =>
  Option.bind (zg2 (x0.1,())) fun q0=>bif q0.1 then bif decide (((List.length x0.2.1):Int) < 1) then some (false,()) else bif decide (((List.length x0.2.1):Int) > 8) then some (false,()) else Option.bind (zfd (x0.2.2.1,())) fun q1=>bif q1.1 then Option.bind (zg4 (x0.2.2.2.1,x0.1,((List.length x0.2.2.1):Int),())) fun q2=>bif q2.1 then L0 (0,x0) else some (false,()) else some (false,()) else some (false,())
def zfv:(zf × Unit)→Option (Bool × Unit):=zin (zj0 K0)
abbrev zs8:Fun:=⟨97,(ch [zu]),(ch [.bool]),0,zfv⟩
theorem zDY:Sq zs8:=ml2 (d:=false) (S:=fun K=>zin (zj0 K)) Tryz.func97 (by kernel_rfl) (fun K=>tr1 (T:=zin) (zAd K K) fun (x0,())=>by kernel_rfl) rfl
def zh1:(zo × Unit)→Option (Bool × Unit):=fun (x0,()) =>
  Option.bind (zgy (x0.2.2.2.1,x0.2.2.2.2.2.2.2.1,x0.2.2.2.2.2.2.1,())) fun q0=>bif decide (x0.2.2.2.2.1 ≥ 0) then bif decide (x0.2.2.2.2.1 < 4) then bif decide (x0.2.2.2.2.2.1 ≥ 0) then bif decide (x0.2.2.2.2.2.1 < 4) then bif x0.2.2.2.2.1 != x0.2.2.2.2.2.1 then bif q0.2.1 == 0 then bif x0.2.2.2.2.2.2.2.2.1 == q0.1 then Option.bind (zhR (x0.2.1,())) fun q1=>bif q1.1 then Option.bind (zhR (x0.2.2.1,())) fun q2=>bif q2.1 then bif decide (x0.2.2.2.2.2.2.2.2.2.1 ≥ 0) then some (true,()) else some (false,()) else some (false,()) else some (false,()) else some (false,()) else some (false,()) else bif q0.2.1 == 0 then bif x0.2.2.2.2.2.2.2.2.1 == q0.1 then some (false,()) else some (false,()) else some (false,()) else bif q0.2.1 == 0 then bif x0.2.2.2.2.2.2.2.2.1 == q0.1 then some (false,()) else some (false,()) else some (false,()) else bif q0.2.1 == 0 then bif x0.2.2.2.2.2.2.2.2.1 == q0.1 then some (false,()) else some (false,()) else some (false,()) else bif q0.2.1 == 0 then bif x0.2.2.2.2.2.2.2.2.1 == q0.1 then some (false,()) else some (false,()) else some (false,()) else bif q0.2.1 == 0 then bif x0.2.2.2.2.2.2.2.2.1 == q0.1 then some (false,()) else some (false,()) else some (false,())
abbrev zw9:Fun:=⟨242,(ch [zr]),(ch [.bool]),0,zh1⟩
theorem zIC:Sq zw9:=ms2 (d:=false) (K:=0) Tryz.func242 (by kernel_rfl) (funext fun (x0,())=>by kernel_rfl)
def zlw:(zF × Unit)→Option (Bool × Unit):=fun (x0,()) =>
  bif decide (x0.1 > 4611686018427387904) then some (false,()) else Option.bind (zdw (x0.2.1,())) fun q0=>bif q0.1 then Option.bind (zdw (x0.2.2.1,())) fun q1=>bif q1.1 then Option.bind (zdw (x0.2.2.2.1,())) fun q2=>bif q2.1 then bif x0.2.2.2.2.1 == 3 then Option.bind (zdw (x0.2.2.2.2.2.2.2.2.2.1,())) fun q3=>bif q3.1 then bif x0.2.2.2.2.2.1 == 0 then bif x0.2.2.2.2.2.2.1 == 0 then bif x0.2.2.2.2.2.2.2.1 == 0 then bif x0.2.2.2.2.2.2.2.2.1 == 0 then some (true,()) else some (false,()) else some (false,()) else some (false,()) else some (false,()) else some (false,()) else Option.bind (zgy (x0.2.2.2.2.1,x0.2.2.2.2.2.2.2.1,x0.2.2.2.2.2.2.2.2.1,())) fun q4=>bif q4.2.1 == 0 then bif x0.2.2.2.2.2.2.2.2.2.1 == 0 then bif decide (x0.2.2.2.2.2.1 ≥ 0) then bif decide (x0.2.2.2.2.2.1 < 4) then bif decide (x0.2.2.2.2.2.2.1 ≥ 0) then bif decide (x0.2.2.2.2.2.2.1 < 4) then bif x0.2.2.2.2.2.1 != x0.2.2.2.2.2.2.1 then some (true,()) else some (false,()) else some (false,()) else some (false,()) else some (false,()) else some (false,()) else some (false,()) else some (false,()) else some (false,()) else some (false,()) else some (false,())
abbrev zxa:Fun:=⟨244,(ch [zv]),(ch [.bool]),0,zlw⟩
theorem zID:Sq zxa:=ms2 (d:=false) (K:=0) Tryz.func244 (by kernel_rfl) (funext fun (x0,())=>by kernel_rfl)
abbrev zcv:Type:=(List qq) × Int
abbrev zAe:zcv→St:=fun (v0,v3)=>St.mk [(0,.dat (.sl zX) v0),(3,.dat tI v3)] []
def zcw (k0:zcv→Option (Bool × Unit)):zcv→Option (Bool × Unit):=fun (v0,v3) =>
  bif decide (v3 < ((List.length v0):Int)) then inR v3 ((List.length v0):Int) (bif (ix zaC v0 v3).1 then Option.bind (zfK ((ix zaC v0 v3).2.1,())) fun q0=>bif q0.1 then Option.bind (zfK ((ix zaC v0 v3).2.2.1,())) fun q1=>bif q1.1 then Option.bind (zfK ((ix zaC v0 v3).2.2.2.1,())) fun q2=>bif q2.1 then Option.bind (zjO ((ix zaC v0 v3).2.2.2.2.1,())) fun q3=>bif q3.1 then bif (ix zaC v0 v3).1 then k0 (v0,wI (v3 + 1)) else bif !eqI zX (ix zaC v0 v3) (ze zX) then some (false,()) else k0 (v0,wI (v3 + 1)) else some (false,()) else some (false,()) else some (false,()) else some (false,()) else bif (ix zaC v0 v3).1 then k0 (v0,wI (v3 + 1)) else bif !eqI zX (ix zaC v0 v3) (ze zX) then some (false,()) else k0 (v0,wI (v3 + 1))) else some (true,())
abbrev zpl (K:Nat):zcv→Option (Bool × Unit):=zg zcw K
theorem zAf (K:Nat):∀ n,evV Es2 K Tryz.f172 0 (ch [.bool]) [1,0,1,0] [] zAe n = zg zcw n:=zp fun n0 (v0,v3)=>by kernel_rfl
def zmd (L0:zcv→Option (Bool × Unit)):((List qq) × Unit)→Option (Bool × Unit):=fun (x0,()) =>
  L0 (x0,0)
def zme:((List qq) × Unit)→Option (Bool × Unit):=zmd (zpl K0)
abbrev zs9:Fun:=⟨172,(ch [(.sl zX)]),(ch [.bool]),0,zme⟩
theorem zDZ:Sq zs9:=ml2 (d:=false) (S:=fun K=>zmd (zpl K)) Tryz.func172 (by kernel_rfl) (fun K=>tr1 (T:=zmd) (zAf K K) fun (x0,())=>by kernel_rfl) rfl
abbrev zcx:Type:=(List zt) × Int
abbrev zAg:zcx→St:=fun (v0,v3)=>St.mk [(0,.dat (.sl zw) v0),(3,.dat tI v3)] []
def zcy (k0:zcx→Option (Bool × Unit)):zcx→Option (Bool × Unit):=fun (v0,v3) =>
  bif decide (v3 < ((List.length v0):Int)) then inR v3 ((List.length v0):Int) (bif (ix zQ v0 v3).1 then inR v3 ((List.length v0):Int) (Option.bind (zjP (ix zQ v0 v3,())) fun q0=>bif q0.1 then inR v3 ((List.length v0):Int) (bif (ix zQ v0 v3).1 then k0 (v0,wI (v3 + 1)) else inR v3 ((List.length v0):Int) (bif !eqI zw (ix zQ v0 v3) (ze zw) then some (false,()) else k0 (v0,wI (v3 + 1)))) else some (false,())) else inR v3 ((List.length v0):Int) (bif (ix zQ v0 v3).1 then k0 (v0,wI (v3 + 1)) else inR v3 ((List.length v0):Int) (bif !eqI zw (ix zQ v0 v3) (ze zw) then some (false,()) else k0 (v0,wI (v3 + 1))))) else some (true,())
abbrev zpm (K:Nat):zcx→Option (Bool × Unit):=zg zcy K
theorem zAh (K:Nat):∀ n,evV Es2 K Tryz.f173 0 (ch [.bool]) [1,0,1,0] [] zAg n = zg zcy n:=zp fun n0 (v0,v3)=>by kernel_rfl
def zmf (L0:zcx→Option (Bool × Unit)):((List zt) × Unit)→Option (Bool × Unit):=fun (x0,()) =>
  L0 (x0,0)
def zmg:((List zt) × Unit)→Option (Bool × Unit):=zmf (zpm K0)
abbrev zta:Fun:=⟨173,(ch [(.sl zw)]),(ch [.bool]),0,zmg⟩
theorem zD0:Sq zta:=ml2 (d:=false) (S:=fun K=>zmf (zpm K)) Tryz.func173 (by kernel_rfl) (fun K=>tr1 (T:=zmf) (zAh K K) fun (x0,())=>by kernel_rfl) rfl
def zfL:(zf × (Int × (Int × Unit)))→Option (Bool × Unit):=fun (x0,x1,x2,()) =>
  bif decide (x1 ≥ 0) then bif decide (x2 ≥ 0) then bif decide (x1 < ((List.length x0.1):Int)) then bif decide (x2 < ((List.length x0.1):Int)) then inR x1 ((List.length x0.1):Int) (inR x2 ((List.length x0.1):Int) (Option.bind (zqn (ix je x0.1 x1,ix je x0.1 x2,())) fun q0=>bif q0.1 then some (true,()) else some (false,()))) else some (false,()) else some (false,()) else some (false,()) else some (false,())
abbrev zxb:Fun:=⟨50,(ch [zu,tI,tI]),(ch [.bool]),0,zfL⟩
theorem zIE:Sq zxb:=ms2 (d:=false) (K:=0) Tryz.func50 (by kernel_rfl) (funext fun (x0,x1,x2,())=>by kernel_rfl)
abbrev zet:Type:=Int × Int × Int × Int × zb
abbrev zrm:zet→St:=fun (v1,v6,v8,v11,o0)=>St.mk [(1,.dat tI v1),(2,.bp 0 []),(6,.dat tU v6),(8,.dat tI v8),(11,.dat tI v11)] [.bx (.dat zn o0) false]
abbrev yP:Type:=Int × Int × Int × zb
abbrev zrn:yP→St:=fun (v1,v6,v8,o0)=>St.mk [(1,.dat tI v1),(2,.bp 0 []),(6,.dat tU v6),(8,.dat tI v8)] [.bx (.dat zn o0) false]
def zeu (k0:yP→Option (Int × (Int × Unit))) (k1:zet→Option (Int × (Int × Unit))):zet→Option (Int × (Int × Unit)):=fun (v1,v6,v8,v11,o0) =>
  inR v8 ((List.length o0.2.1):Int) (bif decide (v11 < ((List.length (ix za o0.2.1 v8).2.2.2.2.2.1):Int)) then inR v8 ((List.length o0.2.1):Int) (inR v11 ((List.length (ix za o0.2.1 v8).2.2.2.2.2.1):Int) (inR v1 (↑4:Int) (Option.bind (vl (v6,List.getD (List.getD (ix za o0.2.1 v8).2.2.2.2.2.1 (Int.toNat v11) (ze (.arr 4 tU))) (Int.toNat v1) (0:Int),())) fun q3=>bif q3.2.1 != 0 then some (0,q3.2.1,()) else k1 (v1,q3.1,v8,wI (v11 + 1),o0)))) else k0 (v1,v6,wI (v8 + 1),o0))
abbrev zev (K:Nat) (k0:yP→Option (Int × (Int × Unit))):zet→Option (Int × (Int × Unit)):=zg (fun k1=>zeu k0 k1) K
theorem zCd (K:Nat) (n0:Nat):∀ n,evV Es2 K Tryz.f101 0 (ch [tU,tI]) [1,1,1,0,1,0,0,1,0,0,1,1,1,1,1,0] [n0] zrm n = zg (fun k1=>zeu (evV Es2 K Tryz.f101 0 (ch [tU,tI]) [1,1,1,0,1,0] [] zrn n0) k1) n:=zp fun n1 (v1,v6,v8,v11,o0)=>by kernel_rfl
def zaU (L1:zet→Option (Int × (Int × Unit))) (k0:yP→Option (Int × (Int × Unit))):yP→Option (Int × (Int × Unit)):=fun (v1,v6,v8,o0) =>
  bif decide (v8 < ((List.length o0.2.1):Int)) then inR v8 ((List.length o0.2.1):Int) (Option.bind (zjU ((ix za o0.2.1 v8).2.2.2.2.1,v1,())) fun q1=>bif q1.2.1 != 0 then some (0,q1.2.1,()) else Option.bind (vl (v6,q1.1,())) fun q2=>bif q2.2.1 != 0 then some (0,q2.2.1,()) else L1 (v1,q2.1,v8,0,o0)) else some (v6,0,())
abbrev zro (K:Nat):yP→Option (Int × (Int × Unit)):=zg (fun k0=>zaU (zev K k0) k0) K
theorem zCe (K:Nat):∀ n,evV Es2 K Tryz.f101 0 (ch [tU,tI]) [1,1,1,0,1,0] [] zrn n = zg (fun k0=>zaU (zev K k0) k0) n:=qB (B:=fun L1 k0=>zaU L1 k0) (V1:=fun n0=>evV Es2 K Tryz.f101 0 (ch [tU,tI]) [1,1,1,0,1,0,0,1,0,0,1,1,1,1,1,0] [n0] zrm K) (W1:=fun k0=>(zev K k0)) (fun n0=>zCd K n0 K) fun n0 (v1,v6,v8,o0)=>by kernel_rfl
def zj1 (L0:yP→Option (Int × (Int × Unit))):(zb × (Int × Unit))→Option (Int × (Int × Unit)):=fun (x0,x1,()) =>
  Option.bind (zjS (x0.2.2.2.1,x1,())) fun q0=>bif q0.2.1 != 0 then some (0,q0.2.1,()) else L0 (x1,q0.1,0,x0)
def zj2:(zb × Int × Unit)→Option (Int × Int × Unit):=zj1 (zro K0)
abbrev zvm:Fun:=⟨101,(ch [zn,tI]),(ch [tU,tI]),0,zj2⟩
theorem zGH:Sq zvm:=ml2 (d:=false) (S:=fun K=>zj1 (zro K)) Tryz.func101 (by kernel_rfl) (fun K=>tr1 (T:=zj1) (zCe K K) fun (x0,x1,())=>by kernel_rfl) rfl
abbrev zew:Type:=Int × zb × zb
abbrev zrp:zew→St:=fun (v6,o0,o1)=>St.mk [(2,.bp 0 []),(3,.bp 1 []),(6,.dat tI v6)] [.bx (.dat zn o0) false,.bx (.dat zn o1) false]
abbrev zex:Type:=Int × zb × zb
abbrev zCf:zex→St:=fun (v5,o0,o1)=>St.mk [(2,.bp 0 []),(3,.bp 1 []),(5,.dat tI v5)] [.bx (.dat zn o0) false,.bx (.dat zn o1) false]
def zey (k1:zew→Option (Bool × Unit)):zew→Option (Bool × Unit):=fun (v6,o0,o1) =>
  bif decide (v6 < ((List.length o0.2.2.2.2.2.1):Int)) then inR v6 ((List.length o0.2.2.2.2.2.1):Int) (inR v6 ((List.length o1.2.2.2.2.2.1):Int) (bif ix (0:Int) o0.2.2.2.2.2.1 v6 != ix (0:Int) o1.2.2.2.2.2.1 v6 then some (false,()) else k1 (wI (v6 + 1),o0,o1))) else some (true,())
abbrev zg8 (K:Nat):zew→Option (Bool × Unit):=zg zey K
theorem zCg (K:Nat):∀ n,evV Es2 K Tryz.f6 0 (ch [.bool]) [1,1,1,0,1,0] [] zrp n = zg zey n:=zp fun n1 (v6,o0,o1)=>by kernel_rfl
def zaV (L1:zew→Option (Bool × Unit)) (k0:zex→Option (Bool × Unit)):zex→Option (Bool × Unit):=fun (v5,o0,o1) =>
  bif decide (v5 < ((List.length o0.2.1):Int)) then inR v5 ((List.length o0.2.1):Int) (inR v5 ((List.length o1.2.1):Int) (Option.bind (zdO (ix za o0.2.1 v5,ix za o1.2.1 v5,())) fun q3=>bif q3.1 then k0 (wI (v5 + 1),o0,o1) else some (false,()))) else L1 (0,o0,o1)
abbrev zk7 (K:Nat):zex→Option (Bool × Unit):=zg (fun k0=>zaV (zg8 K) k0) K
theorem zCh (K:Nat):∀ n,evV Es2 K Tryz.f6 0 (ch [.bool]) [1,1,0,1,0] [] zCf n = zg (fun k0=>zaV (zg8 K) k0) n:=qB (B:=fun L1 k0=>zaV L1 k0) (V1:=fun n0=>evV Es2 K Tryz.f6 0 (ch [.bool]) [1,1,1,0,1,0] [] zrp K) (W1:=fun k0=>(zg8 K)) (fun n0=>zCg K K) fun n0 (v5,o0,o1)=>by kernel_rfl
def zj3 (L0:zex→Option (Bool × Unit)):(zb × (zb × Unit))→Option (Bool × Unit):=fun (x0,x1,()) =>
  bif x0.1 != x1.1 then some (false,()) else bif ((List.length x0.2.1):Int) != ((List.length x1.2.1):Int) then some (false,()) else bif ((List.length x0.2.2.2.2.2.1):Int) != ((List.length x1.2.2.2.2.2.1):Int) then some (false,()) else Option.bind (znG (x0.2.2.1,x1.2.2.1,())) fun q0=>bif q0.1 then Option.bind (znI (x0.2.2.2.1,x1.2.2.2.1,())) fun q1=>bif q1.1 then Option.bind (znK (x0.2.2.2.2.1,x1.2.2.2.2.1,())) fun q2=>bif q2.1 then L0 (0,x0,x1) else some (false,()) else some (false,()) else some (false,())
def ql:(zb × zb × Unit)→Option (Bool × Unit):=zj3 (zk7 K0)
abbrev zvn:Fun:=⟨6,(ch [zn,zn]),(ch [.bool]),0,ql⟩
theorem zGI:Sq zvn:=ml2 (d:=false) (S:=fun K=>zj3 (zk7 K)) Tryz.func6 (by kernel_rfl) (fun K=>tr1 (T:=zj3) (zCh K K) fun (x0,x1,())=>by kernel_rfl) rfl
abbrev L3:List Fun:=zw3 :: zs6 :: zz7 :: zri :: zrj :: zmM :: zvl :: zw4 :: zw5 :: zs7 :: zmN :: zmO :: zpi :: zpj :: zn6 :: zn7 :: zpk :: zn8 :: zn9 :: zmP :: zmQ :: zAb :: zmR :: zw6 :: zrl :: zw7 :: zw8 :: zs8 :: zw9 :: zxa :: zs9 :: zta :: zxb :: zvm :: zvn :: L2
theorem h3:Sds Tryz.prog E0 L3:=⟨zIw,zDW,zKx,zB8,zB9,zwp,zGG,zIx,zIy,zDX,zwq,zwr,zz8,zz9,zyj,zyk,zAa,zyl,zym,zws,zwt,zKy,zwu,zIz,zCc,zIA,zIB,zDY,zIC,zID,zDZ,zD0,zIE,zGH,zGI,h2⟩
theorem ms3 {d:Bool} {F:Fun} {f:Go.Func} {K:Nat} (hf:Tryz.prog.funcs[F.id]? = some f) (ho:jl f = true) (h:evF (En E0 d L3) K f F.md F.a F.r = F.spec):Sd Tryz.prog E0 F:=mkS h3 hf ho h
theorem ml3 {d:Bool} {F:Fun} {f:Go.Func} {S:Nat→F.a.I→Option F.r.I} (hf:Tryz.prog.funcs[F.id]? = some f) (ho:jl f = true) (h:∀ K,evF (En E0 d L3) K f F.md F.a F.r = S K) (e:S K0 = F.spec):Sd Tryz.prog E0 F:=mkS h3 hf ho ((h K0).trans e)
abbrev Es3:Env:=En E0 false L3
end
end Go.Proofs.YtlklokhlgcfcdaaGreatDoor
end
section
namespace Go.Proofs.YtlklokhlgcfcdaaGreatDoor
open Go.Ev
noncomputable section
abbrev zbm:Type:=Int × zf
abbrev zyp:zbm→St:=fun (v4,o0)=>St.mk [(1,.bp 0 []),(4,.dat tI v4)] [.bx (.dat zu o0) false]
def zfg (k0:zbm→Option (Bool × Unit)):zbm→Option (Bool × Unit):=fun (v4,o0) =>
  bif decide (v4 < ((List.length o0.1):Int)) then inR (wI (v4 - 1)) ((List.length o0.1):Int) (inR v4 ((List.length o0.1):Int) (Option.bind (zlt (List.getD o0.1 (Int.toNat (wI (v4 - 1))) (ze zq),ix je o0.1 v4,())) fun q2=>bif decide (q2.1 ≥ 0) then some (false,()) else k0 (wI (v4 + 1),o0))) else some (true,())
abbrev ziR (K:Nat):zbm→Option (Bool × Unit):=zg zfg K
theorem zyq (K:Nat):∀ n,evV Es3 K Tryz.f104 0 (ch [.bool]) [1,1,1,0,1,0] [] zyp n = zg zfg n:=zp fun n0 (v4,o0)=>by kernel_rfl
def zg9 (L0:zbm→Option (Bool × Unit)):(zf × Unit)→Option (Bool × Unit):=fun (x0,()) =>
  Option.bind (qt (((List.length x0.1):Int),1,8,())) fun q0=>bif q0.1 then bif decide (0 < ((List.length x0.1):Int)) then bif !eqI zq (ix je x0.1 0) (ze zq) then some (false,()) else Option.bind (yl (x0.1,some ze8,())) fun q1=>bif q1.1 then some (false,()) else L0 (1,x0) else none else some (false,())
def vH:(zf × Unit)→Option (Bool × Unit):=zg9 (ziR K0)
abbrev zrq:Fun:=⟨104,(ch [zu]),(ch [.bool]),0,vH⟩
theorem zCi:Sq zrq:=ml3 (d:=false) (S:=fun K=>zg9 (ziR K)) Tryz.func104 (by kernel_rfl) (fun K=>tr1 (T:=zg9) (zyq K K) fun (x0,())=>by kernel_rfl) rfl
def zbn:(ByteArray × Unit)→Option (Bool × Unit):=fun (x0,()) =>
  bif decide ((↑(ByteArray.size x0):Int) < 1) then some (false,()) else bif decide ((↑(ByteArray.size x0):Int) > 12) then some (false,()) else bif decide (0 < (↑(ByteArray.size x0):Int)) then Option.bind (zgn ((↑(UInt8.toNat (List.getD (Array.toList (ByteArray.data x0)) (Int.toNat 0) 0)):Int),())) fun q0=>bif q0.1 then Option.bind (zmZ (x0,some zgY,())) fun q1=>bif q1.1 then some (true,()) else some (false,()) else some (false,()) else none
abbrev zvo:Fun:=⟨187,(ch [.str]),(ch [.bool]),0,zbn⟩
theorem zGJ:Sq zvo:=ms3 (d:=false) (K:=0) Tryz.func187 (by kernel_rfl) (funext fun (x0,())=>by kernel_rfl)
def zlx:(ByteArray × Unit)→Option (Bool × Unit):=fun (x0,()) =>
  bif decide ((↑(ByteArray.size x0):Int) ≥ 1) then bif decide ((↑(ByteArray.size x0):Int) ≤ 40) then Option.bind (zmZ (x0,some zjB,())) fun q0=>bif q0.1 then Option.bind (zgZ (x0,ByteArray.mk #[32],())) fun q1=>bif ByteArray.toList q1.1 == ByteArray.toList x0 then some (true,()) else some (false,()) else some (false,()) else some (false,()) else some (false,())
abbrev zxc:Fun:=⟨273,(ch [.str]),(ch [.bool]),0,zlx⟩
theorem zIF:Sq zxc:=ms3 (d:=false) (K:=0) Tryz.func273 (by kernel_rfl) (funext fun (x0,())=>by kernel_rfl)
def zf5:(zt × Unit)→Option (Bool × Unit):=fun (x0,()) =>
  bif x0.1 then Option.bind (zlu (x0,())) fun q0=>bif q0.1 then some (false,()) else some (true,()) else bif !eqI zw x0 (ze zw) then some (true,()) else some (false,())
abbrev zpn:Fun:=⟨207,(ch [zw]),(ch [.bool]),0,zf5⟩
theorem zAi:Sq zpn:=ms3 (d:=false) (K:=0) Tryz.func207 (by kernel_rfl) (funext fun (x0,())=>by kernel_rfl)
def zm1:(zo × Unit)→Option (Bool × Unit):=fun (x0,()) =>
  Option.bind (zh0 (x0.2.2.2.1,x0.2.2.2.2.2.2.2.1,x0.2.2.2.2.2.2.1,())) fun q0=>bif q0.2.1 == 0 then bif q0.1 == x0.2.2.2.2.2.2.2.2.1 then Option.bind (zlO (x0.2.1,())) fun q1=>bif q1.1 then Option.bind (zlO (x0.2.2.1,())) fun q2=>bif q2.1 then Option.bind (qU (x0.2.2.2.2.1,())) fun q3=>bif q3.1 then Option.bind (qU (x0.2.2.2.2.2.1,())) fun q4=>bif q4.1 then bif x0.2.2.2.2.1 != x0.2.2.2.2.2.1 then bif decide (x0.2.2.2.2.2.2.2.2.2.1 ≥ 0) then some (true,()) else some (false,()) else some (false,()) else some (false,()) else some (false,()) else some (false,()) else some (false,()) else some (false,()) else some (false,())
abbrev zAj:Fun:=⟨210,(ch [zr]),(ch [.bool]),0,zm1⟩
theorem zKz:Sq zAj:=ms3 (d:=false) (K:=0) Tryz.func210 (by kernel_rfl) (funext fun (x0,())=>by kernel_rfl)
def zly:(zF × Unit)→Option (Bool × Unit):=fun (x0,()) =>
  bif decide (x0.1 > 4611686018427387904) then some (false,()) else Option.bind (ze2 (x0.2.1,())) fun q0=>bif q0.1 then Option.bind (ze2 (x0.2.2.1,())) fun q1=>bif q1.1 then Option.bind (ze2 (x0.2.2.2.1,())) fun q2=>bif q2.1 then Option.bind (ze2 (x0.2.2.2.2.2.2.2.2.2.1,())) fun q3=>bif q3.1 then bif x0.2.2.2.2.1 == 3 then bif eqI zv x0 (x0.1,x0.2.1,x0.2.2.1,x0.2.2.2.1,x0.2.2.2.2.1,(ze zv).2.2.2.2.2.1,(ze zv).2.2.2.2.2.2.1,(ze zv).2.2.2.2.2.2.2.1,(ze zv).2.2.2.2.2.2.2.2.1,x0.2.2.2.2.2.2.2.2.2.1,(ze zv).2.2.2.2.2.2.2.2.2.2) then some (true,()) else some (false,()) else Option.bind (zh0 (x0.2.2.2.2.1,x0.2.2.2.2.2.2.2.1,x0.2.2.2.2.2.2.2.2.1,())) fun q4=>bif q4.2.1 == 0 then bif x0.2.2.2.2.2.2.2.2.2.1 == 0 then bif x0.2.2.2.2.2.1 != x0.2.2.2.2.2.2.1 then Option.bind (qU (x0.2.2.2.2.2.1,())) fun q5=>bif q5.1 then Option.bind (qU (x0.2.2.2.2.2.2.1,())) fun q6=>bif q6.1 then some (true,()) else some (false,()) else some (false,()) else some (false,()) else some (false,()) else some (false,()) else some (false,()) else some (false,()) else some (false,()) else some (false,())
abbrev zxd:Fun:=⟨211,(ch [zv]),(ch [.bool]),0,zly⟩
theorem zIG:Sq zxd:=ms3 (d:=false) (K:=0) Tryz.func211 (by kernel_rfl) (funext fun (x0,())=>by kernel_rfl)
def zmh:(qT × (Int × Unit))→Option ((Option ((z7 × Unit)→Option (Bool × Unit))) × Unit):=fun (x0,x1,()) =>
  some (some fun z=>vX (z.1,some x0,some x1,()),())
abbrev ztb:Fun:=⟨128,(ch [qo,tI]),(ch [(.fn (ch [zM]) (ch [.bool]))]),0,zmh⟩
theorem zD1:Sq ztb:=ms3 (d:=false) (K:=0) Tryz.func128 (by kernel_rfl) (funext fun (x0,x1,())=>by kernel_rfl)
abbrev vv:Type:=(List zl) × Int × Int × qT
abbrev zyr:vv→St:=fun (v10,v11,v12,o0)=>St.mk [(1,.bp 0 []),(10,.dat (.sl zm) v10),(11,.dat tI v11),(12,.dat tI v12)] [.bx (.dat qo o0) true]
abbrev zfh:Type:=(List zl) × Int × Int × qT
abbrev zys:zfh→St:=fun (v10,v11,v12,o0)=>St.mk [(1,.bp 0 []),(10,.dat (.sl zm) v10),(11,.dat tI v11),(12,.dat tI v12)] [.bx (.dat qo o0) false]
def qY (k1:vv→Option (Bool × Unit)):vv→Option (Bool × Unit):=fun (v10,v11,v12,o0) =>
  bif decide (v12 < v11) then inR v12 ((List.length v10):Int) (Option.bind (yN ((ix za v10 v12).2.2.1,some fun z=>zba (z.1,some o0,()),())) fun q3=>bif q3.1 then Option.bind (yO ((ix za v10 v12).2.2.2.1,some fun z=>vu (z.1,some o0,some v12,()),())) fun q4=>bif q4.1 then Option.bind (qL ((ix za v10 v12).2.2.2.2.1,some fun z=>qJ (z.1,some o0,()),())) fun q5=>bif q5.1 then k1 (v10,v11,wI (v12 + 1),o0) else some (false,()) else Option.bind (qL ((ix za v10 v12).2.2.2.2.1,some fun z=>qJ (z.1,some o0,()),())) fun q6=>bif q6.1 then some (false,()) else some (false,()) else Option.bind (yO ((ix za v10 v12).2.2.2.1,some fun z=>vu (z.1,some o0,some v12,()),())) fun q7=>bif q7.1 then Option.bind (qL ((ix za v10 v12).2.2.2.2.1,some fun z=>qJ (z.1,some o0,()),())) fun q8=>bif q8.1 then some (false,()) else some (false,()) else Option.bind (qL ((ix za v10 v12).2.2.2.2.1,some fun z=>qJ (z.1,some o0,()),())) fun q9=>bif q9.1 then some (false,()) else some (false,())) else some (true,())
theorem zyt (K:Nat):∀ n,evV Es3 K Tryz.f75 0 (ch [.bool]) [1,0,1,0] [] zyr n = zg qY n:=zp fun n1 (v10,v11,v12,o0)=>by kernel_rfl
def zob (k1:vv→Option (Bool × Unit)):zfh→Option (Bool × Unit):=fun (v10,v11,v12,o0) =>
  bif decide (v12 < v11) then inR v12 ((List.length v10):Int) (Option.bind (yN ((ix za v10 v12).2.2.1,some fun z=>zba (z.1,some o0,()),())) fun q0=>bif q0.1 then Option.bind (yO ((ix za v10 v12).2.2.2.1,some fun z=>vu (z.1,some o0,some v12,()),())) fun q1=>bif q1.1 then Option.bind (qL ((ix za v10 v12).2.2.2.2.1,some fun z=>qJ (z.1,some o0,()),())) fun q2=>bif q2.1 then k1 (v10,v11,wI (v12 + 1),o0) else some (false,()) else Option.bind (qL ((ix za v10 v12).2.2.2.2.1,some fun z=>qJ (z.1,some o0,()),())) fun q10=>bif q10.1 then some (false,()) else some (false,()) else Option.bind (yO ((ix za v10 v12).2.2.2.1,some fun z=>vu (z.1,some o0,some v12,()),())) fun q11=>bif q11.1 then Option.bind (qL ((ix za v10 v12).2.2.2.2.1,some fun z=>qJ (z.1,some o0,()),())) fun q12=>bif q12.1 then some (false,()) else some (false,()) else Option.bind (qL ((ix za v10 v12).2.2.2.2.1,some fun z=>qJ (z.1,some o0,()),())) fun q13=>bif q13.1 then some (false,()) else some (false,())) else some (true,())
abbrev zoc (K:Nat):zfh→Option (Bool × Unit):=zzy zob qY K
theorem zyu (K:Nat):∀ n,evV Es3 K Tryz.f75 0 (ch [.bool]) [1,0,1,0] [] zys n = zzy zob qY n:=zLS (zyt K) fun n0 (v10,v11,v12,o0)=>by kernel_rfl
def zk8 (L0:zfh→Option (Bool × Unit)):(qT × Unit)→Option (Bool × Unit):=fun (x0,()) =>
  L0 (x0.2.1.2.1,((List.length x0.2.1.2.1):Int),0,x0)
def zaW:(qT × Unit)→Option (Bool × Unit):=zk8 (zoc K0)
abbrev zrr:Fun:=⟨75,(ch [qo]),(ch [.bool]),0,zaW⟩
theorem zCj:Sq zrr:=ml3 (d:=false) (S:=fun K=>zk8 (zoc K)) Tryz.func75 (by kernel_rfl) (fun K=>tr1 (T:=zk8) (zyu K K) fun (x0,())=>by kernel_rfl) rfl
abbrev zcz:Type:=(List zl) × Int × Int × (List Int) × Int × Int × zl
abbrev zpo:zcz→St:=fun (v14,v15,v16,v55,v56,v57,o0)=>St.mk [(4,.bp 0 []),(14,.dat (.sl zm) v14),(15,.dat tI v15),(16,.dat tI v16),(55,.dat (.sl tI) v55),(56,.dat tI v56),(57,.dat tI v57)] [.bx (.dat zm o0) false]
abbrev zcA:Type:=(Option zb4) × (List zl) × Int × Int × (List qa) × Int × Int × zl
abbrev zpp:zcA→St:=fun (v5,v14,v15,v16,v24,v25,v26,o0)=>St.mk [(4,.bp 0 []),(5,.dat (.ptr vQ) v5),(14,.dat (.sl zm) v14),(15,.dat tI v15),(16,.dat tI v16),(24,.dat (.sl zG) v24),(25,.dat tI v25),(26,.dat tI v26)] [.bx (.dat zm o0) false]
abbrev jE:Type:=(List zl) × Int × Int
abbrev zae:jE→St:=fun (v14,v15,v16)=>St.mk [(14,.dat (.sl zm) v14),(15,.dat tI v15),(16,.dat tI v16)] []
def zcC (k0:jE→Option (Bool × Unit)) (k2:zcz→Option (Bool × Unit)):zcz→Option (Bool × Unit):=fun (v14,v15,v16,v55,v56,v57,o0) =>
  bif decide (v57 < v56) then inR v57 ((List.length v55):Int) (inR (ix (0:Int) v55 v57) ((List.length o0.2.2.2.2.1):Int) (inR (ix (0:Int) v55 v57) ((List.length o0.2.2.2.2.1):Int) (bif decide ((List.getD o0.2.2.2.2.1 (Int.toNat (ix (0:Int) v55 v57)) (ze zw)).2.2.2.1.2.2.1 ≥ ((List.length o0.2.2.1):Int)) then some (false,()) else bif decide ((List.getD o0.2.2.2.2.1 (Int.toNat (ix (0:Int) v55 v57)) (ze zw)).2.2.2.2.1.2.2.1 ≥ ((List.length o0.2.2.1):Int)) then some (false,()) else bif decide ((List.getD o0.2.2.2.2.1 (Int.toNat (ix (0:Int) v55 v57)) (ze zw)).2.2.2.1.2.2.1 ≥ 0) then inR (List.getD o0.2.2.2.2.1 (Int.toNat (ix (0:Int) v55 v57)) (ze zw)).2.2.2.1.2.2.1 ((List.length o0.2.2.1):Int) (bif (List.getD o0.2.2.1 (Int.toNat (List.getD o0.2.2.2.2.1 (Int.toNat (ix (0:Int) v55 v57)) (ze zw)).2.2.2.1.2.2.1) (ze zG)).2.2.1 != 3 then some (false,()) else inR (List.getD o0.2.2.2.2.1 (Int.toNat (ix (0:Int) v55 v57)) (ze zw)).2.2.2.1.2.2.1 ((List.length o0.2.2.1):Int) (bif (List.getD o0.2.2.1 (Int.toNat (List.getD o0.2.2.2.2.1 (Int.toNat (ix (0:Int) v55 v57)) (ze zw)).2.2.2.1.2.2.1) (ze zG)).2.2.2.1 != ix (0:Int) v55 v57 then some (false,()) else k2 (v14,v15,v16,v55,v56,wI (v57 + 1),o0))) else k2 (v14,v15,v16,v55,v56,wI (v57 + 1),o0)))) else k0 (v14,v15,wI (v16 + 1))
abbrev zcD (K:Nat) (k0:jE→Option (Bool × Unit)):zcz→Option (Bool × Unit):=zg (fun k2=>zcC k0 k2) K
theorem zAk (K:Nat) (n0:Nat):∀ n,evV Es3 K Tryz.f76 0 (ch [.bool]) [1,0,1,0,0,1,1,0,0,1,1,1,1,0] [n0] zpo n = zg (fun k2=>zcC (evV Es3 K Tryz.f76 0 (ch [.bool]) [1,0,1,0] [] zae n0) k2) n:=zp fun n2 (v14,v15,v16,v55,v56,v57,o0)=>by kernel_rfl
def zaf (L2:zcz→Option (Bool × Unit)) (k0:jE→Option (Bool × Unit)) (k1:zcA→Option (Bool × Unit)):zcA→Option (Bool × Unit):=fun (v5,v14,v15,v16,v24,v25,v26,o0) =>
  bif decide (v26 < v25) then inR v26 ((List.length v24):Int) (bif (ix zz v24 v26).2.2.1 == 3 then Option.bind (vV (v5,(ix zz v24 v26).2.2.2.1,())) fun q1=>bif q1.1 then inR (ix zz v24 v26).2.2.2.1 ((List.length o0.2.2.2.2.1):Int) (bif (List.getD o0.2.2.2.2.1 (Int.toNat (ix zz v24 v26).2.2.2.1) (ze zw)).2.2.2.1.2.2.1 != v26 then some (false,()) else k1 (v5,v14,v15,v16,v24,v25,wI (v26 + 1),o0)) else some (false,()) else k1 (v5,v14,v15,v16,v24,v25,wI (v26 + 1),o0)) else Option.bind (zdQ (v5,())) fun q2=>L2 (v14,v15,v16,q2.1,((List.length q2.1):Int),0,o0)
abbrev zcE (K:Nat) (k0:jE→Option (Bool × Unit)):zcA→Option (Bool × Unit):=zg (fun k1=>zaf (zcD K k0) k0 k1) K
theorem zAl (K:Nat) (n0:Nat):∀ n,evV Es3 K Tryz.f76 0 (ch [.bool]) [1,0,1,0,0,1,1,0,0,1,1,0,1,0] [n0] zpp n = zg (fun k1=>zaf (zcD K (evV Es3 K Tryz.f76 0 (ch [.bool]) [1,0,1,0] [] zae n0)) (evV Es3 K Tryz.f76 0 (ch [.bool]) [1,0,1,0] [] zae n0) k1) n:=qB (B:=fun L2 k1=>zaf L2 (evV Es3 K Tryz.f76 0 (ch [.bool]) [1,0,1,0] [] zae n0) k1) (V1:=fun n1=>evV Es3 K Tryz.f76 0 (ch [.bool]) [1,0,1,0,0,1,1,0,0,1,1,1,1,0] [n0] zpo K) (W1:=fun k1=>(zcD K (evV Es3 K Tryz.f76 0 (ch [.bool]) [1,0,1,0] [] zae n0))) (fun n1=>zAk K n0 K) fun n1 (v5,v14,v15,v16,v24,v25,v26,o0)=>by kernel_rfl
def zag (L1:zcA→Option (Bool × Unit)) (k0:jE→Option (Bool × Unit)):jE→Option (Bool × Unit):=fun (v14,v15,v16) =>
  bif decide (v16 < v15) then inR v16 ((List.length v14):Int) (Option.bind (yK ((ix za v14 v16).2.2.2.2.1,some vT,())) fun q0=>L1 (q0.1,v14,v15,v16,(ix za v14 v16).2.2.1,((List.length (ix za v14 v16).2.2.1):Int),0,ix za v14 v16)) else some (true,())
abbrev zpq (K:Nat):jE→Option (Bool × Unit):=zg (fun k0=>zag (zcE K k0) k0) K
theorem zAm (K:Nat):∀ n,evV Es3 K Tryz.f76 0 (ch [.bool]) [1,0,1,0] [] zae n = zg (fun k0=>zag (zcE K k0) k0) n:=qB (B:=fun L1 k0=>zag L1 k0) (V1:=fun n0=>evV Es3 K Tryz.f76 0 (ch [.bool]) [1,0,1,0,0,1,1,0,0,1,1,0,1,0] [n0] zpp K) (W1:=fun k0=>(zcE K k0)) (fun n0=>zAl K n0 K) fun n0 (v14,v15,v16)=>by kernel_rfl
def zmi (L0:jE→Option (Bool × Unit)):(qT × Unit)→Option (Bool × Unit):=fun (x0,()) =>
  L0 (x0.2.1.2.1,((List.length x0.2.1.2.1):Int),0)
def zfw:(qT × Unit)→Option (Bool × Unit):=zmi (zpq K0)
abbrev ztc:Fun:=⟨76,(ch [qo]),(ch [.bool]),0,zfw⟩
theorem zD2:Sq ztc:=ml3 (d:=false) (S:=fun K=>zmi (zpq K)) Tryz.func76 (by kernel_rfl) (fun K=>tr1 (T:=zmi) (zAm K K) fun (x0,())=>by kernel_rfl) rfl
def zj4:((List zo) × Unit)→Option ((List Int) × Unit):=fun (x0,()) =>
  Option.bind (zm0 (x0,())) fun q0=>Option.bind (zhD (q0.1,())) fun q1=>some (q1.1,())
abbrev zvp:Fun:=⟨144,(ch [(.sl zr)]),(ch [(.sl tI)]),0,zj4⟩
theorem zGK:Sq zvp:=ms3 (d:=false) (K:=0) Tryz.func144 (by kernel_rfl) (funext fun (x0,())=>by kernel_rfl)
abbrev zez:Type:=(List zt) × Int × (List Int) × Int × Int × List Int
abbrev zCk:zez→St:=fun (v0,v1,v14,v15,v16,o0)=>St.mk [(0,.dat (.sl zw) v0),(1,.dat tI v1),(6,.ow 0),(14,.dat (.sl tI) v14),(15,.dat tI v15),(16,.dat tI v16)] [.row tU o0 false]
def zeA (k0:zez→Option (Int × (Int × Unit))):zez→Option (Int × (Int × Unit)):=fun (v0,v1,v14,v15,v16,o0) =>
  bif decide (v16 < v15) then inR v16 ((List.length v14):Int) (inR (ix (0:Int) v14 v16) ((List.length v0):Int) (bif (List.getD v0 (Int.toNat (ix (0:Int) v14 v16)) (ze zw)).2.2.2.1.1 == v1 then inR (ix (0:Int) v14 v16) ((List.length v0):Int) (bif decide (List.length o0 + List.length (zj (List.replicate 1 (0:Int)) 0 (List.getD v0 (Int.toNat (ix (0:Int) v14 v16)) (ze zw)).2.2.2.1.2.1) ≤ lim) then k0 (v0,v1,v14,v15,wI (v16 + 1),o0 ++ zj (List.replicate 1 (0:Int)) 0 (List.getD v0 (Int.toNat (ix (0:Int) v14 v16)) (ze zw)).2.2.2.1.2.1) else none) else k0 (v0,v1,v14,v15,wI (v16 + 1),o0))) else Option.bind (zg0 (o0,())) fun q3=>some (q3.1,q3.2.1,())
abbrev zrs (K:Nat):zez→Option (Int × (Int × Unit)):=zg zeA K
theorem zCl (K:Nat):∀ n,evV Es3 K Tryz.f81 0 (ch [tU,tI]) [1,1,1,0,1,0] [] zCk n = zg zeA n:=zp fun n0 (v0,v1,v14,v15,v16,o0)=>by kernel_rfl
def zj5 (L0:zez→Option (Int × (Int × Unit))):((List zt) × (Int × Unit))→Option (Int × (Int × Unit)):=fun (x0,x1,()) =>
  Option.bind (qU (x1,())) fun q0=>bif q0.1 then Option.bind (zlv (x0,())) fun q1=>Option.bind (zdQ (q1.1,())) fun q2=>L0 (x0,x1,q2.1,((List.length q2.1):Int),0,[]) else some (0,1,())
def zj6:((List zt) × Int × Unit)→Option (Int × Int × Unit):=zj5 (zrs K0)
abbrev zvq:Fun:=⟨81,(ch [(.sl zw),tI]),(ch [tU,tI]),0,zj6⟩
theorem zGL:Sq zvq:=ml3 (d:=false) (S:=fun K=>zj5 (zrs K)) Tryz.func81 (by kernel_rfl) (fun K=>tr1 (T:=zj5) (zCl K K) fun (x0,x1,())=>by kernel_rfl) rfl
def zj7:(zb × (Int × Unit))→Option (Int × (Int × Unit)):=fun (x0,x1,()) =>
  Option.bind (qU (x1,())) fun q0=>bif q0.1 then Option.bind (zg7 (x0,x1,some zkZ,())) fun q1=>bif q1.2.1 != 0 then some (0,q1.2.1,()) else Option.bind (zg7 (x0,x1,some zk0,())) fun q2=>bif q2.2.1 != 0 then some (0,q2.2.1,()) else Option.bind (za7 (q1.1,q2.1,())) fun q3=>some (q3.1,q3.2.1,()) else some (0,1,())
abbrev zvr:Fun:=⟨41,(ch [zn,tI]),(ch [tU,tI]),0,zj7⟩
theorem zGM:Sq zvr:=ms3 (d:=false) (K:=0) Tryz.func41 (by kernel_rfl) (funext fun (x0,x1,())=>by kernel_rfl)
abbrev zcF:Type:=(List (List Int)) × Int × Int × zf
abbrev zpr:zcF→St:=fun (v1,v5,v6,o0)=>St.mk [(1,.dat (.sl (.sl tI)) v1),(2,.bp 0 []),(5,.dat tI v5),(6,.dat tI v6)] [.bx (.dat zu o0) false]
abbrev vY:Type:=(List (List Int)) × Int × zf
abbrev zps:vY→St:=fun (v1,v5,o0)=>St.mk [(1,.dat (.sl (.sl tI)) v1),(2,.bp 0 []),(5,.dat tI v5)] [.bx (.dat zu o0) false]
def zf6 (k0:vY→Option (Bool × Unit)) (k1:zcF→Option (Bool × Unit)):zcF→Option (Bool × Unit):=fun (v1,v5,v6,o0) =>
  inR v5 ((List.length v1):Int) (bif decide (v6 < ((List.length (List.getD v1 (Int.toNat v5) ([]:List Int))):Int)) then inR v5 ((List.length v1):Int) (inR v6 ((List.length (List.getD v1 (Int.toNat v5) ([]:List Int))):Int) (bif decide (List.getD (List.getD v1 (Int.toNat v5) ([]:List Int)) (Int.toNat v6) (0:Int) < 0) then some (false,()) else inR v5 ((List.length v1):Int) (inR v6 ((List.length (List.getD v1 (Int.toNat v5) ([]:List Int))):Int) (bif decide (List.getD (List.getD v1 (Int.toNat v5) ([]:List Int)) (Int.toNat v6) (0:Int) > 2) then some (false,()) else k1 (v1,v5,wI (v6 + 1),o0))))) else k0 (v1,wI (v5 + 1),o0))
abbrev zf7 (K:Nat) (k0:vY→Option (Bool × Unit)):zcF→Option (Bool × Unit):=zg (fun k1=>zf6 k0 k1) K
theorem zAn (K:Nat) (n0:Nat):∀ n,evV Es3 K Tryz.f165 0 (ch [.bool]) [1,1,0,1,0,0,1,0,0,1,1,0] [n0] zpr n = zg (fun k1=>zf6 (evV Es3 K Tryz.f165 0 (ch [.bool]) [1,1,0,1,0] [] zps n0) k1) n:=zp fun n1 (v1,v5,v6,o0)=>by kernel_rfl
def zcG (L1:zcF→Option (Bool × Unit)) (k0:vY→Option (Bool × Unit)):vY→Option (Bool × Unit):=fun (v1,v5,o0) =>
  bif decide (v5 < ((List.length v1):Int)) then inR v5 ((List.length v1):Int) (bif ((List.length (List.getD v1 (Int.toNat v5) ([]:List Int))):Int) != ((List.length o0.2.2.1):Int) then some (false,()) else inR v5 ((List.length v1):Int) (inR v5 ((List.length o0.2.2.2.1):Int) (inR (ix qF o0.2.2.2.1 v5).2.1 ((List.length (List.getD v1 (Int.toNat v5) ([]:List Int))):Int) (bif List.getD (List.getD v1 (Int.toNat v5) ([]:List Int)) (Int.toNat (ix qF o0.2.2.2.1 v5).2.1) (0:Int) != 2 then some (false,()) else L1 (v1,v5,0,o0))))) else some (true,())
abbrev zj8 (K:Nat):vY→Option (Bool × Unit):=zg (fun k0=>zcG (zf7 K k0) k0) K
theorem zAo (K:Nat):∀ n,evV Es3 K Tryz.f165 0 (ch [.bool]) [1,1,0,1,0] [] zps n = zg (fun k0=>zcG (zf7 K k0) k0) n:=qB (B:=fun L1 k0=>zcG L1 k0) (V1:=fun n0=>evV Es3 K Tryz.f165 0 (ch [.bool]) [1,1,0,1,0,0,1,0,0,1,1,0] [n0] zpr K) (W1:=fun k0=>(zf7 K k0)) (fun n0=>zAn K n0 K) fun n0 (v1,v5,o0)=>by kernel_rfl
def zio (L0:vY→Option (Bool × Unit)):(zf × ((List (List Int)) × Unit))→Option (Bool × Unit):=fun (x0,x1,()) =>
  Option.bind (zfv (x0,())) fun q0=>bif q0.1 then bif ((List.length x1):Int) != ((List.length x0.2.2.2.1):Int) then some (false,()) else L0 (x1,0,x0) else some (false,())
def ziq:(zf × (List (List Int)) × Unit)→Option (Bool × Unit):=zio (zj8 K0)
abbrev ztd:Fun:=⟨165,(ch [zu,(.sl (.sl tI))]),(ch [.bool]),0,ziq⟩
theorem zD3:Sq ztd:=ml3 (d:=false) (S:=fun K=>zio (zj8 K)) Tryz.func165 (by kernel_rfl) (fun K=>tr1 (T:=zio) (zAo K K) fun (x0,x1,())=>by kernel_rfl) rfl
abbrev zcH:Type:=(List zo) × Int
abbrev zAp:zcH→St:=fun (v0,v3)=>St.mk [(0,.dat (.sl zr) v0),(3,.dat tI v3)] []
def zcI (k0:zcH→Option (Bool × Unit)):zcH→Option (Bool × Unit):=fun (v0,v3) =>
  bif decide (v3 < ((List.length v0):Int)) then inR v3 ((List.length v0):Int) (bif (ix zH v0 v3).1 then inR v3 ((List.length v0):Int) (bif (ix zH v0 v3).1 then inR v3 ((List.length v0):Int) (Option.bind (zh1 (ix zH v0 v3,())) fun q0=>bif q0.1 then inR v3 ((List.length v0):Int) (Option.bind (zlr (v0,v3,(ix zH v0 v3).2.2.2.2.2.2.2.2.2.1,())) fun q1=>bif q1.1 then some (false,()) else k0 (v0,wI (v3 + 1))) else some (false,())) else k0 (v0,wI (v3 + 1))) else inR v3 ((List.length v0):Int) (bif !eqI zr (ix zH v0 v3) (ze zr) then some (false,()) else inR v3 ((List.length v0):Int) (bif (ix zH v0 v3).1 then inR v3 ((List.length v0):Int) (Option.bind (zh1 (ix zH v0 v3,())) fun q2=>bif q2.1 then inR v3 ((List.length v0):Int) (Option.bind (zlr (v0,v3,(ix zH v0 v3).2.2.2.2.2.2.2.2.2.1,())) fun q3=>bif q3.1 then some (false,()) else k0 (v0,wI (v3 + 1))) else some (false,())) else k0 (v0,wI (v3 + 1))))) else some (true,())
abbrev zpt (K:Nat):zcH→Option (Bool × Unit):=zg zcI K
theorem zAq (K:Nat):∀ n,evV Es3 K Tryz.f166 0 (ch [.bool]) [1,0,1,0] [] zAp n = zg zcI n:=zp fun n0 (v0,v3)=>by kernel_rfl
def zmj (L0:zcH→Option (Bool × Unit)):((List zo) × Unit)→Option (Bool × Unit):=fun (x0,()) =>
  L0 (x0,0)
def zmk:((List zo) × Unit)→Option (Bool × Unit):=zmj (zpt K0)
abbrev zte:Fun:=⟨166,(ch [(.sl zr)]),(ch [.bool]),0,zmk⟩
theorem zD4:Sq zte:=ml3 (d:=false) (S:=fun K=>zmj (zpt K)) Tryz.func166 (by kernel_rfl) (fun K=>tr1 (T:=zmj) (zAq K K) fun (x0,())=>by kernel_rfl) rfl
abbrev zcJ:Type:=(List zF) × Int
abbrev zAr:zcJ→St:=fun (v0,v3)=>St.mk [(0,.dat (.sl zv) v0),(3,.dat tI v3)] []
def zcK (k0:zcJ→Option (Bool × Unit)):zcJ→Option (Bool × Unit):=fun (v0,v3) =>
  bif decide (v3 < ((List.length v0):Int)) then inR v3 ((List.length v0):Int) (Option.bind (zlw (ix vP v0 v3,())) fun q0=>bif q0.1 then bif decide (v3 > 0) then inR v3 ((List.length v0):Int) (inR (wI (v3 - 1)) ((List.length v0):Int) (Option.bind (zgW (ix vP v0 v3,List.getD v0 (Int.toNat (wI (v3 - 1))) (ze zv),())) fun q1=>bif q1.1 then k0 (v0,wI (v3 + 1)) else some (false,()))) else k0 (v0,wI (v3 + 1)) else some (false,())) else some (true,())
abbrev zpu (K:Nat):zcJ→Option (Bool × Unit):=zg zcK K
theorem zAs (K:Nat):∀ n,evV Es3 K Tryz.f167 0 (ch [.bool]) [1,0,1,0] [] zAr n = zg zcK n:=zp fun n0 (v0,v3)=>by kernel_rfl
def zml (L0:zcJ→Option (Bool × Unit)):((List zF) × Unit)→Option (Bool × Unit):=fun (x0,()) =>
  L0 (x0,0)
def zmm:((List zF) × Unit)→Option (Bool × Unit):=zml (zpu K0)
abbrev ztf:Fun:=⟨167,(ch [(.sl zv)]),(ch [.bool]),0,zmm⟩
theorem zD5:Sq ztf:=ml3 (d:=false) (S:=fun K=>zml (zpu K)) Tryz.func167 (by kernel_rfl) (fun K=>tr1 (T:=zml) (zAs K K) fun (x0,())=>by kernel_rfl) rfl
def zao:(zf × (zb × (z7 × (Int × Unit))))→Option (Bool × Unit):=fun (x0,x1,x2,x3,()) =>
  Option.bind (zfq (x1,x2,())) fun q0=>bif q0.1 then Option.bind (zfL (x0,x2.1,x3,())) fun q1=>bif q1.1 then some (true,()) else some (false,()) else some (false,())
abbrev ztg:Fun:=⟨174,(ch [zu,zn,zM,tI]),(ch [.bool]),0,zao⟩
theorem zD6:Sq ztg:=ms3 (d:=false) (K:=0) Tryz.func174 (by kernel_rfl) (funext fun (x0,x1,x2,x3,())=>by kernel_rfl)
abbrev L4:List Fun:=zrq :: zvo :: zxc :: zpn :: zAj :: zxd :: ztb :: zrr :: ztc :: zvp :: zvq :: zvr :: ztd :: zte :: ztf :: ztg :: L3
theorem h4:Sds Tryz.prog E0 L4:=⟨zCi,zGJ,zIF,zAi,zKz,zIG,zD1,zCj,zD2,zGK,zGL,zGM,zD3,zD4,zD5,zD6,h3⟩
theorem ms4 {d:Bool} {F:Fun} {f:Go.Func} {K:Nat} (hf:Tryz.prog.funcs[F.id]? = some f) (ho:jl f = true) (h:evF (En E0 d L4) K f F.md F.a F.r = F.spec):Sd Tryz.prog E0 F:=mkS h4 hf ho h
theorem ml4 {d:Bool} {F:Fun} {f:Go.Func} {S:Nat→F.a.I→Option F.r.I} (hf:Tryz.prog.funcs[F.id]? = some f) (ho:jl f = true) (h:∀ K,evF (En E0 d L4) K f F.md F.a F.r = S K) (e:S K0 = F.spec):Sd Tryz.prog E0 F:=mkS h4 hf ho ((h K0).trans e)
abbrev Es4:Env:=En E0 false L4
def zcL:(qx × Unit)→Option (Bool × Unit):=fun (x0,()) =>
  Option.bind (zbn (x0.1,())) fun q0=>bif q0.1 then Option.bind (zbn (x0.2.1,())) fun q1=>bif q1.1 then Option.bind (qt (x0.2.2.1,0,3,())) fun q2=>bif q2.1 then some (false,()) else some (true,()) else some (true,()) else some (true,())
abbrev zlW:Fun:=⟨186,(ch [qC]),(ch [.bool]),0,zcL⟩
theorem zvs:Sq zlW:=ms4 (d:=false) (K:=0) Tryz.func186 (by kernel_rfl) (funext fun (x0,())=>by kernel_rfl)
def zha:(qS × Unit)→Option (Bool × Unit):=fun (x0,()) =>
  bif x0.1 then Option.bind (zbn (x0.2.1,())) fun q0=>bif q0.1 then bif x0.1 then some (false,()) else bif !ByteArray.toList x0.2.1 == ByteArray.toList (ByteArray.mk #[]) then some (true,()) else some (false,()) else some (true,()) else bif x0.1 then some (false,()) else bif !ByteArray.toList x0.2.1 == ByteArray.toList (ByteArray.mk #[]) then some (true,()) else some (false,())
abbrev zrt:Fun:=⟨199,(ch [qk]),(ch [.bool]),0,zha⟩
theorem zCm:Sq zrt:=ms4 (d:=false) (K:=0) Tryz.func199 (by kernel_rfl) (funext fun (x0,())=>by kernel_rfl)
def zir:(qa × Unit)→Option (Bool × Unit):=fun (x0,()) =>
  bif x0.1 then Option.bind (zbn (x0.2.1,())) fun q0=>bif q0.1 then Option.bind (zsg (x0,())) fun q1=>Option.bind (zck (q1.1,())) fun q2=>bif q2.1 then some (false,()) else some (true,()) else some (true,()) else bif !eqI zG x0 (ze zG) then some (true,()) else some (false,())
abbrev zth:Fun:=⟨203,(ch [zG]),(ch [.bool]),0,zir⟩
theorem zD7:Sq zth:=ms4 (d:=false) (K:=0) Tryz.func203 (by kernel_rfl) (funext fun (x0,())=>by kernel_rfl)
def zj9:(qq × Unit)→Option (Bool × Unit):=fun (x0,()) =>
  bif x0.1 then Option.bind (zk1 (x0,())) fun q0=>bif q0.1 then Option.bind (zlx (x0.2.2.2.2.1,())) fun q1=>bif q1.1 then some (false,()) else some (true,()) else some (true,()) else bif !eqI zX x0 (ze zX) then some (true,()) else some (false,())
abbrev zvt:Fun:=⟨205,(ch [zX]),(ch [.bool]),0,zj9⟩
theorem zGN:Sq zvt:=ms4 (d:=false) (K:=0) Tryz.func205 (by kernel_rfl) (funext fun (x0,())=>by kernel_rfl)
def zis:((List zt) × Unit)→Option (Bool × Unit):=fun (x0,()) =>
  Option.bind (jg (x0,some zf5,())) fun q0=>bif q0.1 then some (false,()) else some (true,())
abbrev zti:Fun:=⟨116,(ch [(.sl zw)]),(ch [.bool]),0,zis⟩
theorem zD8:Sq zti:=ms4 (d:=false) (K:=0) Tryz.func116 (by kernel_rfl) (funext fun (x0,())=>by kernel_rfl)
abbrev zeB:Type:=Int × (List zo) × Int × Int × List (Int × Int)
abbrev zCn:zeB→St:=fun (v4,v8,v9,v10,o0)=>St.mk [(3,.om 0),(4,.dat tI v4),(8,.dat (.sl zr) v8),(9,.dat tI v9),(10,.dat tI v10)] [.mp tI tI o0]
def zeC (k0:zeB→Option (Bool × Unit)):zeB→Option (Bool × Unit):=fun (v4,v8,v9,v10,o0) =>
  bif decide (v10 < v9) then inR v10 ((List.length v8):Int) (bif (ix zH v8 v10).1 then Option.bind (zm1 (ix zH v8 v10,())) fun q0=>bif q0.1 then bif (ix zH v8 v10).1 then bif (ix zH v8 v10).1 then k0 (wI (v4 + 1),v8,v9,wI (v10 + 1),jL tI o0 (ix zH v8 v10).2.2.2.2.2.2.2.2.2.1 (wI (zaA tI (0:Int) o0 (ix zH v8 v10).2.2.2.2.2.2.2.2.2.1 + 1))) else k0 (v4,v8,v9,wI (v10 + 1),o0) else bif !eqI zr (ix zH v8 v10) (ze zr) then some (false,()) else bif (ix zH v8 v10).1 then k0 (wI (v4 + 1),v8,v9,wI (v10 + 1),jL tI o0 (ix zH v8 v10).2.2.2.2.2.2.2.2.2.1 (wI (zaA tI (0:Int) o0 (ix zH v8 v10).2.2.2.2.2.2.2.2.2.1 + 1))) else k0 (v4,v8,v9,wI (v10 + 1),o0) else some (false,()) else bif (ix zH v8 v10).1 then bif (ix zH v8 v10).1 then k0 (wI (v4 + 1),v8,v9,wI (v10 + 1),jL tI o0 (ix zH v8 v10).2.2.2.2.2.2.2.2.2.1 (wI (zaA tI (0:Int) o0 (ix zH v8 v10).2.2.2.2.2.2.2.2.2.1 + 1))) else k0 (v4,v8,v9,wI (v10 + 1),o0) else bif !eqI zr (ix zH v8 v10) (ze zr) then some (false,()) else bif (ix zH v8 v10).1 then k0 (wI (v4 + 1),v8,v9,wI (v10 + 1),jL tI o0 (ix zH v8 v10).2.2.2.2.2.2.2.2.2.1 (wI (zaA tI (0:Int) o0 (ix zH v8 v10).2.2.2.2.2.2.2.2.2.1 + 1))) else k0 (v4,v8,v9,wI (v10 + 1),o0)) else bif ((List.length o0):Int) == v4 then some (true,()) else some (false,())
abbrev zru (K:Nat):zeB→Option (Bool × Unit):=zg zeC K
theorem zCo (K:Nat):∀ n,evV Es4 K Tryz.f118 0 (ch [.bool]) [1,1,1,0,1,0] [] zCn n = zg zeC n:=zp fun n0 (v4,v8,v9,v10,o0)=>by kernel_rfl
def zod (L0:zeB→Option (Bool × Unit)):((List zo) × Unit)→Option (Bool × Unit):=fun (x0,()) =>
  L0 (0,x0,((List.length x0):Int),0,[])
def zoe:((List zo) × Unit)→Option (Bool × Unit):=zod (zru K0)
abbrev zvu:Fun:=⟨118,(ch [(.sl zr)]),(ch [.bool]),0,zoe⟩
theorem zGO:Sq zvu:=ml4 (d:=false) (S:=fun K=>zod (zru K)) Tryz.func118 (by kernel_rfl) (fun K=>tr1 (T:=zod) (zCo K K) fun (x0,())=>by kernel_rfl) rfl
abbrev zcM:Type:=(List zF) × (List zF) × Int × Int
abbrev zAt:zcM→St:=fun (v0,v5,v6,v7)=>St.mk [(0,.dat (.sl zv) v0),(5,.dat (.sl zv) v5),(6,.dat tI v6),(7,.dat tI v7)] []
def zcN (k0:zcM→Option (Bool × Unit)):zcM→Option (Bool × Unit):=fun (v0,v5,v6,v7) =>
  bif decide (v7 < v6) then inR v7 ((List.length v5):Int) (Option.bind (zly (ix vP v5 v7,())) fun q0=>bif q0.1 then bif decide (v7 > 0) then inR (wI (v7 - 1)) ((List.length v0):Int) (Option.bind (zim (List.getD v0 (Int.toNat (wI (v7 - 1))) (ze zv),ix vP v5 v7,())) fun q1=>bif decide (q1.1 ≥ 0) then some (false,()) else k0 (v0,v5,v6,wI (v7 + 1))) else k0 (v0,v5,v6,wI (v7 + 1)) else some (false,())) else some (true,())
abbrev zpv (K:Nat):zcM→Option (Bool × Unit):=zg zcN K
theorem zAu (K:Nat):∀ n,evV Es4 K Tryz.f119 0 (ch [.bool]) [1,0,1,0] [] zAt n = zg zcN n:=zp fun n0 (v0,v5,v6,v7)=>by kernel_rfl
def zmn (L0:zcM→Option (Bool × Unit)):((List zF) × Unit)→Option (Bool × Unit):=fun (x0,()) =>
  L0 (x0,x0,((List.length x0):Int),0)
def zmo:((List zF) × Unit)→Option (Bool × Unit):=zmn (zpv K0)
abbrev ztj:Fun:=⟨119,(ch [(.sl zv)]),(ch [.bool]),0,zmo⟩
theorem zD9:Sq ztj:=ml4 (d:=false) (S:=fun K=>zmn (zpv K)) Tryz.func119 (by kernel_rfl) (fun K=>tr1 (T:=zmn) (zAu K K) fun (x0,())=>by kernel_rfl) rfl
abbrev zcO:Type:=(List zl) × Int × Int × qT
abbrev zAv:zcO→St:=fun (v10,v11,v12,o0)=>St.mk [(1,.bp 0 []),(10,.dat (.sl zm) v10),(11,.dat tI v11),(12,.dat tI v12)] [.bx (.dat qo o0) false]
def zcP (k0:zcO→Option (Bool × Unit)):zcO→Option (Bool × Unit):=fun (v10,v11,v12,o0) =>
  bif decide (v12 < v11) then inR v12 ((List.length v10):Int) (Option.bind (zmh (o0,v12,())) fun q0=>Option.bind (ziQ ((ix za v10 v12).2.1,some fun z=>zfZ (z.1,some q0.1,()),())) fun q1=>bif q1.1 then Option.bind (yN ((ix za v10 v12).2.2.1,some fun z=>zb7 (z.1,some q0.1,()),())) fun q2=>bif q2.1 then Option.bind (zjZ ((ix za v10 v12).2.2.2.2.2.2.1,q0.1,())) fun q3=>bif q3.1 then k0 (v10,v11,wI (v12 + 1),o0) else some (false,()) else some (false,()) else Option.bind (yN ((ix za v10 v12).2.2.1,some fun z=>zb7 (z.1,some q0.1,()),())) fun q4=>bif q4.1 then some (false,()) else some (false,())) else some (true,())
abbrev zpw (K:Nat):zcO→Option (Bool × Unit):=zg zcP K
theorem zAw (K:Nat):∀ n,evV Es4 K Tryz.f74 0 (ch [.bool]) [1,0,1,0] [] zAv n = zg zcP n:=zp fun n0 (v10,v11,v12,o0)=>by kernel_rfl
def zmp (L0:zcO→Option (Bool × Unit)):(qT × Unit)→Option (Bool × Unit):=fun (x0,()) =>
  L0 (x0.2.1.2.1,((List.length x0.2.1.2.1):Int),0,x0)
def zfx:(qT × Unit)→Option (Bool × Unit):=zmp (zpw K0)
abbrev ztk:Fun:=⟨74,(ch [qo]),(ch [.bool]),0,zfx⟩
theorem zEa:Sq ztk:=ml4 (d:=false) (S:=fun K=>zmp (zpw K)) Tryz.func74 (by kernel_rfl) (fun K=>tr1 (T:=zmp) (zAw K K) fun (x0,())=>by kernel_rfl) rfl
abbrev zfy:Type:=(List zo) × Int × (List Int) × Int × Int × List Int
abbrev zEb:zfy→St:=fun (v0,v1,v13,v14,v15,o0)=>St.mk [(0,.dat (.sl zr) v0),(1,.dat tI v1),(6,.ow 0),(13,.dat (.sl tI) v13),(14,.dat tI v14),(15,.dat tI v15)] [.row tU o0 false]
def zfz (k0:zfy→Option (Int × (Int × Unit))):zfy→Option (Int × (Int × Unit)):=fun (v0,v1,v13,v14,v15,o0) =>
  bif decide (v15 < v14) then inR v15 ((List.length v13):Int) (inR (ix (0:Int) v13 v15) ((List.length v0):Int) (Option.bind (zic (List.getD v0 (Int.toNat (ix (0:Int) v13 v15)) (ze zr),())) fun q2=>bif q2.1 == v1 then inR (ix (0:Int) v13 v15) ((List.length v0):Int) (bif decide (List.length o0 + List.length (zj (List.replicate 1 (0:Int)) 0 (List.getD v0 (Int.toNat (ix (0:Int) v13 v15)) (ze zr)).2.2.2.2.2.2.2.2.1) ≤ lim) then k0 (v0,v1,v13,v14,wI (v15 + 1),o0 ++ zj (List.replicate 1 (0:Int)) 0 (List.getD v0 (Int.toNat (ix (0:Int) v13 v15)) (ze zr)).2.2.2.2.2.2.2.2.1) else none) else k0 (v0,v1,v13,v14,wI (v15 + 1),o0))) else Option.bind (zg0 (o0,())) fun q3=>some (q3.1,q3.2.1,())
abbrev ztl (K:Nat):zfy→Option (Int × (Int × Unit)):=zg zfz K
theorem zEc (K:Nat):∀ n,evV Es4 K Tryz.f80 0 (ch [tU,tI]) [1,1,1,0,1,0] [] zEb n = zg zfz n:=zp fun n0 (v0,v1,v13,v14,v15,o0)=>by kernel_rfl
def zlz (L0:zfy→Option (Int × (Int × Unit))):((List zo) × (Int × Unit))→Option (Int × (Int × Unit)):=fun (x0,x1,()) =>
  Option.bind (qU (x1,())) fun q0=>bif q0.1 then Option.bind (zj4 (x0,())) fun q1=>L0 (x0,x1,q1.1,((List.length q1.1):Int),0,[]) else some (0,1,())
def zlA:((List zo) × Int × Unit)→Option (Int × Int × Unit):=zlz (ztl K0)
abbrev zxe:Fun:=⟨80,(ch [(.sl zr),tI]),(ch [tU,tI]),0,zlA⟩
theorem zIH:Sq zxe:=ml4 (d:=false) (S:=fun K=>zlz (ztl K)) Tryz.func80 (by kernel_rfl) (fun K=>tr1 (T:=zlz) (zEc K K) fun (x0,x1,())=>by kernel_rfl) rfl
abbrev zbo:Type:=Int × zf × zb
abbrev zof:zbo→St:=fun (v9,o0,o1)=>St.mk [(2,.bp 0 []),(3,.bp 1 []),(9,.dat tI v9)] [.bx (.dat zu o0) false,.bx (.dat zn o1) false]
abbrev zbp:Type:=Int × zf × zb
abbrev zog:zbp→St:=fun (v7,o0,o1)=>St.mk [(2,.bp 0 []),(3,.bp 1 []),(7,.dat tI v7)] [.bx (.dat zu o0) false,.bx (.dat zn o1) false]
abbrev zbq:Type:=Int × zf × zb
abbrev zyv:zbq→St:=fun (v5,o0,o1)=>St.mk [(2,.bp 0 []),(3,.bp 1 []),(5,.dat tI v5)] [.bx (.dat zu o0) false,.bx (.dat zn o1) false]
def zfi (k2:zbo→Option (Bool × Unit)):zbo→Option (Bool × Unit):=fun (v9,o0,o1) =>
  bif decide (v9 < ((List.length o1.2.2.2.2.2.1):Int)) then inR v9 ((List.length o1.2.2.2.2.2.1):Int) (bif ix (0:Int) o1.2.2.2.2.2.1 v9 != -1 then inR v9 ((List.length o1.2.2.2.2.2.1):Int) (Option.bind (jU (o0,ix (0:Int) o1.2.2.2.2.2.1 v9,())) fun q6=>bif q6.1 then k2 (wI (v9 + 1),o0,o1) else some (false,())) else k2 (wI (v9 + 1),o0,o1)) else some (true,())
abbrev zbr (K:Nat):zbo→Option (Bool × Unit):=zg zfi K
theorem zyw (K:Nat):∀ n,evV Es4 K Tryz.f99 0 (ch [.bool]) [1,1,1,1,0,1,0] [] zof n = zg zfi n:=zp fun n2 (v9,o0,o1)=>by kernel_rfl
def zbs (L2:zbo→Option (Bool × Unit)) (k1:zbp→Option (Bool × Unit)):zbp→Option (Bool × Unit):=fun (v7,o0,o1) =>
  bif decide (v7 < ((List.length o1.2.2.2.2.1):Int)) then inR v7 ((List.length o1.2.2.2.2.1):Int) (bif decide ((ix vP o1.2.2.2.2.1 v7).2.1 ≥ ((List.length o0.2.1):Int)) then some (false,()) else inR (ix vP o1.2.2.2.2.1 v7).2.1 ((List.length o0.2.1):Int) (bif (ix vP o1.2.2.2.2.1 v7).2.2.1 != List.getD o0.2.1 (Int.toNat (ix vP o1.2.2.2.2.1 v7).2.1) (0:Int) then some (false,()) else Option.bind (jU (o0,(ix vP o1.2.2.2.2.1 v7).2.2.2.1,())) fun q5=>bif q5.1 then bif decide ((ix vP o1.2.2.2.2.1 v7).1 > o1.1) then some (false,()) else k1 (wI (v7 + 1),o0,o1) else some (false,()))) else L2 (0,o0,o1)
abbrev zbt (K:Nat):zbp→Option (Bool × Unit):=zg (fun k1=>zbs (zbr K) k1) K
theorem zyx (K:Nat):∀ n,evV Es4 K Tryz.f99 0 (ch [.bool]) [1,1,1,0,1,0] [] zog n = zg (fun k1=>zbs (zbr K) k1) n:=qB (B:=fun L2 k1=>zbs L2 k1) (V1:=fun n1=>evV Es4 K Tryz.f99 0 (ch [.bool]) [1,1,1,1,0,1,0] [] zof K) (W1:=fun k1=>(zbr K)) (fun n1=>zyw K K) fun n1 (v7,o0,o1)=>by kernel_rfl
def zbu (L1:zbp→Option (Bool × Unit)) (k0:zbq→Option (Bool × Unit)):zbq→Option (Bool × Unit):=fun (v5,o0,o1) =>
  bif decide (v5 < ((List.length o1.2.2.2.1):Int)) then inR v5 ((List.length o1.2.2.2.1):Int) (bif (ix zH o1.2.2.2.1 v5).1 then bif decide ((ix zH o1.2.2.2.1 v5).2.1 ≥ ((List.length o0.1):Int)) then some (false,()) else Option.bind (jU (o0,(ix zH o1.2.2.2.1 v5).2.2.1,())) fun q4=>bif q4.1 then bif decide ((ix zH o1.2.2.2.1 v5).2.2.2.2.2.2.2.2.2.1 ≥ ((List.length o1.2.2.2.2.1):Int)) then some (false,()) else k0 (wI (v5 + 1),o0,o1) else some (false,()) else k0 (wI (v5 + 1),o0,o1)) else L1 (0,o0,o1)
abbrev ziS (K:Nat):zbq→Option (Bool × Unit):=zg (fun k0=>zbu (zbt K) k0) K
theorem zyy (K:Nat):∀ n,evV Es4 K Tryz.f99 0 (ch [.bool]) [1,1,0,1,0] [] zyv n = zg (fun k0=>zbu (zbt K) k0) n:=qB (B:=fun L1 k0=>zbu L1 k0) (V1:=fun n0=>evV Es4 K Tryz.f99 0 (ch [.bool]) [1,1,1,0,1,0] [] zog K) (W1:=fun k0=>(zbt K)) (fun n0=>zyx K K) fun n0 (v5,o0,o1)=>by kernel_rfl
def zhb (L0:zbq→Option (Bool × Unit)):(zf × (zb × Unit))→Option (Bool × Unit):=fun (x0,x1,()) =>
  Option.bind (ziq (x0,x1.2.2.1,())) fun q0=>bif q0.1 then Option.bind (zmk (x1.2.2.2.1,())) fun q1=>bif q1.1 then Option.bind (zmm (x1.2.2.2.2.1,())) fun q2=>bif q2.1 then Option.bind (zfq (x1,ze zM,())) fun q3=>bif q3.1 then L0 (0,x0,x1) else some (false,()) else some (false,()) else some (false,()) else some (false,())
def zhc:(zf × zb × Unit)→Option (Bool × Unit):=zhb (ziS K0)
abbrev zrv:Fun:=⟨99,(ch [zu,zn]),(ch [.bool]),0,zhc⟩
theorem zCp:Sq zrv:=ml4 (d:=false) (S:=fun K=>zhb (ziS K)) Tryz.func99 (by kernel_rfl) (fun K=>tr1 (T:=zhb) (zyy K K) fun (x0,x1,())=>by kernel_rfl) rfl
def zka:(zf × (zb × (Int × (Int × Unit))))→Option (Bool × Unit):=fun (x0,x1,x2,x3,()) =>
  inR x2 ((List.length x1.2.1):Int) (inR x3 ((List.length (ix za x1.2.1 x2).2.2.1):Int) (bif (List.getD (ix za x1.2.1 x2).2.2.1 (Int.toNat x3) (ze zG)).1 then bif (List.getD (ix za x1.2.1 x2).2.2.1 (Int.toNat x3) (ze zG)).2.2.1 == 1 then Option.bind (jU (x0,(List.getD (ix za x1.2.1 x2).2.2.1 (Int.toNat x3) (ze zG)).2.2.2.1,())) fun q0=>bif q0.1 then some (true,()) else some (false,()) else bif (List.getD (ix za x1.2.1 x2).2.2.1 (Int.toNat x3) (ze zG)).2.2.1 == 2 then Option.bind (zao (x0,x1,(List.getD (ix za x1.2.1 x2).2.2.1 (Int.toNat x3) (ze zG)).2.2.2.2.1,x2,())) fun q1=>bif q1.1 then some (true,()) else some (false,()) else bif decide ((List.getD (ix za x1.2.1 x2).2.2.1 (Int.toNat x3) (ze zG)).2.2.2.1 < ((List.length (ix za x1.2.1 x2).2.2.2.2.1):Int)) then inR (List.getD (ix za x1.2.1 x2).2.2.1 (Int.toNat x3) (ze zG)).2.2.2.1 ((List.length (ix za x1.2.1 x2).2.2.2.2.1):Int) (bif (List.getD (ix za x1.2.1 x2).2.2.2.2.1 (Int.toNat (List.getD (ix za x1.2.1 x2).2.2.1 (Int.toNat x3) (ze zG)).2.2.2.1) (ze zw)).1 then inR (List.getD (ix za x1.2.1 x2).2.2.1 (Int.toNat x3) (ze zG)).2.2.2.1 ((List.length (ix za x1.2.1 x2).2.2.2.2.1):Int) (bif (List.getD (ix za x1.2.1 x2).2.2.2.2.1 (Int.toNat (List.getD (ix za x1.2.1 x2).2.2.1 (Int.toNat x3) (ze zG)).2.2.2.1) (ze zw)).2.2.2.1.2.2.1 == x3 then some (true,()) else some (false,())) else some (false,())) else some (false,()) else some (true,())))
abbrev zvv:Fun:=⟨175,(ch [zu,zn,tI,tI]),(ch [.bool]),0,zka⟩
theorem zGP:Sq zvv:=ms4 (d:=false) (K:=0) Tryz.func175 (by kernel_rfl) (funext fun (x0,x1,x2,x3,())=>by kernel_rfl)
abbrev L5:List Fun:=zlW :: zrt :: zth :: zvt :: zti :: zvu :: ztj :: ztk :: zxe :: zrv :: zvv :: L4
theorem h5:Sds Tryz.prog E0 L5:=⟨zvs,zCm,zD7,zGN,zD8,zGO,zD9,zEa,zIH,zCp,zGP,h4⟩
theorem ms5 {d:Bool} {F:Fun} {f:Go.Func} {K:Nat} (hf:Tryz.prog.funcs[F.id]? = some f) (ho:jl f = true) (h:evF (En E0 d L5) K f F.md F.a F.r = F.spec):Sd Tryz.prog E0 F:=mkS h5 hf ho h
theorem ml5 {d:Bool} {F:Fun} {f:Go.Func} {S:Nat→F.a.I→Option F.r.I} (hf:Tryz.prog.funcs[F.id]? = some f) (ho:jl f = true) (h:∀ K,evF (En E0 d L5) K f F.md F.a F.r = S K) (e:S K0 = F.spec):Sd Tryz.prog E0 F:=mkS h5 hf ho ((h K0).trans e)
abbrev Es5:Env:=En E0 false L5
def jR:(zf × Unit)→Option (Bool × Unit):=fun (x0,()) =>
  Option.bind (qt (((List.length x0.2.2.1):Int),1,8,())) fun q0=>bif q0.1 then Option.bind (zaI (x0.2.2.1,some zcL,())) fun q1=>bif q1.1 then some (false,()) else Option.bind (zhu (x0,())) fun q2=>Option.bind (zny (q2.1,())) fun q3=>bif q3.1 then some (true,()) else some (false,()) else some (false,())
abbrev zoh:Fun:=⟨106,(ch [zu]),(ch [.bool]),0,jR⟩
theorem zyz:Sq zoh:=ms5 (d:=false) (K:=0) Tryz.func106 (by kernel_rfl) (funext fun (x0,())=>by kernel_rfl)
def zkb:((List qS) × Unit)→Option (Bool × Unit):=fun (x0,()) =>
  Option.bind (zdx (x0,some zha,())) fun q0=>bif q0.1 then some (false,()) else some (true,())
abbrev zvw:Fun:=⟨112,(ch [(.sl qk)]),(ch [.bool]),0,zkb⟩
theorem zGQ:Sq zvw:=ms5 (d:=false) (K:=0) Tryz.func112 (by kernel_rfl) (funext fun (x0,())=>by kernel_rfl)
def zit:((List qa) × Unit)→Option (Bool × Unit):=fun (x0,()) =>
  Option.bind (jt (x0,some zir,())) fun q0=>bif q0.1 then some (false,()) else some (true,())
abbrev ztm:Fun:=⟨114,(ch [(.sl zG)]),(ch [.bool]),0,zit⟩
theorem zEd:Sq ztm:=ms5 (d:=false) (K:=0) Tryz.func114 (by kernel_rfl) (funext fun (x0,())=>by kernel_rfl)
def zkc:((List qq) × Unit)→Option (Bool × Unit):=fun (x0,()) =>
  Option.bind (ju (x0,some zj9,())) fun q0=>bif q0.1 then some (false,()) else some (true,())
abbrev zvx:Fun:=⟨115,(ch [(.sl zX)]),(ch [.bool]),0,zkc⟩
theorem zGR:Sq zvx:=ms5 (d:=false) (K:=0) Tryz.func115 (by kernel_rfl) (funext fun (x0,())=>by kernel_rfl)
abbrev zeD:Type:=Int × (List zl) × Int × Int × (List (List Int)) × Int × Int × List Int
abbrev zrw:zeD→St:=fun (v1,v31,v32,v33,v52,v53,v54,o0)=>St.mk [(1,.dat tI v1),(8,.ow 0),(31,.dat (.sl zm) v31),(32,.dat tI v32),(33,.dat tI v33),(52,.dat (.sl (.arr 4 tU)) v52),(53,.dat tI v53),(54,.dat tI v54)] [.row tU o0 false]
abbrev yQ:Type:=Int × (List zl) × Int × Int × List Int
abbrev zrx:yQ→St:=fun (v1,v31,v32,v33,o0)=>St.mk [(1,.dat tI v1),(8,.ow 0),(31,.dat (.sl zm) v31),(32,.dat tI v32),(33,.dat tI v33)] [.row tU o0 false]
def zeE (k0:yQ→Option (Int × (Int × Unit))) (k1:zeD→Option (Int × (Int × Unit))):zeD→Option (Int × (Int × Unit)):=fun (v1,v31,v32,v33,v52,v53,v54,o0) =>
  bif decide (v54 < v53) then inR v54 ((List.length v52):Int) (inR v1 (↑4:Int) (bif decide (List.length o0 + List.length (zj (List.replicate 1 (0:Int)) 0 (List.getD (List.getD v52 (Int.toNat v54) (ze (.arr 4 tU))) (Int.toNat v1) (0:Int))) ≤ lim) then k1 (v1,v31,v32,v33,v52,v53,wI (v54 + 1),o0 ++ zj (List.replicate 1 (0:Int)) 0 (List.getD (List.getD v52 (Int.toNat v54) (ze (.arr 4 tU))) (Int.toNat v1) (0:Int))) else none)) else k0 (v1,v31,v32,wI (v33 + 1),o0)
abbrev zeF (K:Nat) (k0:yQ→Option (Int × (Int × Unit))):zeD→Option (Int × (Int × Unit)):=zg (fun k1=>zeE k0 k1) K
theorem zCq (K:Nat) (n0:Nat):∀ n,evV Es5 K Tryz.f40 0 (ch [tU,tI]) [1,1,1,1,1,0,1,0,0,1,1,0,0,1,1,1,1,1,0] [n0] zrw n = zg (fun k1=>zeE (evV Es5 K Tryz.f40 0 (ch [tU,tI]) [1,1,1,1,1,0,1,0] [] zrx n0) k1) n:=zp fun n1 (v1,v31,v32,v33,v52,v53,v54,o0)=>by kernel_rfl
def zaX (L1:zeD→Option (Int × (Int × Unit))) (k0:yQ→Option (Int × (Int × Unit))):yQ→Option (Int × (Int × Unit)):=fun (v1,v31,v32,v33,o0) =>
  bif decide (v33 < v32) then inR v33 ((List.length v31):Int) (Option.bind (zj6 ((ix za v31 v33).2.2.2.2.1,v1,())) fun q2=>bif q2.2.1 != 0 then some (0,q2.2.1,()) else bif decide (List.length o0 + List.length (zj (List.replicate 1 (0:Int)) 0 q2.1) ≤ lim) then L1 (v1,v31,v32,v33,(ix za v31 v33).2.2.2.2.2.1,((List.length (ix za v31 v33).2.2.2.2.2.1):Int),0,o0 ++ zj (List.replicate 1 (0:Int)) 0 q2.1) else none) else Option.bind (zg0 (o0,())) fun q3=>some (q3.1,q3.2.1,())
abbrev zry (K:Nat):yQ→Option (Int × (Int × Unit)):=zg (fun k0=>zaX (zeF K k0) k0) K
theorem zCr (K:Nat):∀ n,evV Es5 K Tryz.f40 0 (ch [tU,tI]) [1,1,1,1,1,0,1,0] [] zrx n = zg (fun k0=>zaX (zeF K k0) k0) n:=qB (B:=fun L1 k0=>zaX L1 k0) (V1:=fun n0=>evV Es5 K Tryz.f40 0 (ch [tU,tI]) [1,1,1,1,1,0,1,0,0,1,1,0,0,1,1,1,1,1,0] [n0] zrw K) (W1:=fun k0=>(zeF K k0)) (fun n0=>zCq K n0 K) fun n0 (v1,v31,v32,v33,o0)=>by kernel_rfl
def zkd (L0:yQ→Option (Int × (Int × Unit))):(zb × (Int × Unit))→Option (Int × (Int × Unit)):=fun (x0,x1,()) =>
  Option.bind (qU (x1,())) fun q0=>bif q0.1 then Option.bind (zlA (x0.2.2.2.1,x1,())) fun q1=>bif q1.2.1 != 0 then some (0,q1.2.1,()) else L0 (x1,x0.2.1,((List.length x0.2.1):Int),0,[q1.1]) else some (0,1,())
def zke:(zb × Int × Unit)→Option (Int × Int × Unit):=zkd (zry K0)
abbrev zvy:Fun:=⟨40,(ch [zn,tI]),(ch [tU,tI]),0,zke⟩
theorem zGS:Sq zvy:=ml5 (d:=false) (S:=fun K=>zkd (zry K)) Tryz.func40 (by kernel_rfl) (fun K=>tr1 (T:=zkd) (zCr K K) fun (x0,x1,())=>by kernel_rfl) rfl
end
end Go.Proofs.YtlklokhlgcfcdaaGreatDoor
end
section
namespace Go.Proofs.YtlklokhlgcfcdaaGreatDoor
open Go.Ev
noncomputable section
abbrev zcQ:Type:=Int × Int × zf × zb × zl
abbrev zpx:zcQ→St:=fun (v2,v14,o0,o1,o2)=>St.mk [(2,.dat tI v2),(3,.bp 0 []),(4,.bp 1 []),(7,.bp 2 []),(14,.dat tI v14)] [.bx (.dat zu o0) false,.bx (.dat zn o1) false,.bx (.dat zm o2) false]
abbrev zcR:Type:=Int × Int × zf × zb × zl
abbrev zpy:zcR→St:=fun (v2,v12,o0,o1,o2)=>St.mk [(2,.dat tI v2),(3,.bp 0 []),(4,.bp 1 []),(7,.bp 2 []),(12,.dat tI v12)] [.bx (.dat zu o0) false,.bx (.dat zn o1) false,.bx (.dat zm o2) false]
abbrev zcS:Type:=Int × Int × zf × zb × zl
abbrev zpz:zcS→St:=fun (v2,v11,o0,o1,o2)=>St.mk [(2,.dat tI v2),(3,.bp 0 []),(4,.bp 1 []),(7,.bp 2 []),(11,.dat tI v11)] [.bx (.dat zu o0) false,.bx (.dat zn o1) false,.bx (.dat zm o2) false]
abbrev zcT:Type:=Int × Int × zf × zb × zl
abbrev zpA:zcT→St:=fun (v2,v10,o0,o1,o2)=>St.mk [(2,.dat tI v2),(3,.bp 0 []),(4,.bp 1 []),(7,.bp 2 []),(10,.dat tI v10)] [.bx (.dat zu o0) false,.bx (.dat zn o1) false,.bx (.dat zm o2) false]
abbrev zcU:Type:=Int × Int × zf × zb × zl
abbrev zAx:zcU→St:=fun (v2,v8,o0,o1,o2)=>St.mk [(2,.dat tI v2),(3,.bp 0 []),(4,.bp 1 []),(7,.bp 2 []),(8,.dat tI v8)] [.bx (.dat zu o0) false,.bx (.dat zn o1) false,.bx (.dat zm o2) false]
def zf8 (k4:zcQ→Option (Bool × Unit)):zcQ→Option (Bool × Unit):=fun (v2,v14,o0,o1,o2) =>
  bif decide (v14 < ((List.length o2.2.2.2.2.2.2.1):Int)) then inR v14 ((List.length o2.2.2.2.2.2.2.1):Int) (Option.bind (zao (o0,o1,ix zF4 o2.2.2.2.2.2.2.1 v14,v2,())) fun q12=>bif q12.1 then k4 (v2,wI (v14 + 1),o0,o1,o2) else some (false,())) else some (true,())
abbrev zcV (K:Nat):zcQ→Option (Bool × Unit):=zg zf8 K
theorem zAy (K:Nat):∀ n,evV Es5 K Tryz.f100 0 (ch [.bool]) [1,1,1,1,1,1,1,0,1,0] [] zpx n = zg zf8 n:=zp fun n4 (v2,v14,o0,o1,o2)=>by kernel_rfl
def zcW (L4:zcQ→Option (Bool × Unit)) (k3:zcR→Option (Bool × Unit)):zcR→Option (Bool × Unit):=fun (v2,v12,o0,o1,o2) =>
  bif decide (v12 < ((List.length o2.2.2.2.1):Int)) then inR v12 ((List.length o2.2.2.2.1):Int) (bif (ix zaC o2.2.2.2.1 v12).1 then Option.bind (zfL (o0,(ix zaC o2.2.2.2.1 v12).2.1,v2,())) fun q9=>bif q9.1 then Option.bind (jU (o0,(ix zaC o2.2.2.2.1 v12).2.2.1,())) fun q10=>bif q10.1 then Option.bind (jU (o0,(ix zaC o2.2.2.2.1 v12).2.2.2.1,())) fun q11=>bif q11.1 then k3 (v2,wI (v12 + 1),o0,o1,o2) else some (false,()) else some (false,()) else some (false,()) else k3 (v2,wI (v12 + 1),o0,o1,o2)) else L4 (v2,0,o0,o1,o2)
abbrev zcX (K:Nat):zcR→Option (Bool × Unit):=zg (fun k3=>zcW (zcV K) k3) K
theorem zAz (K:Nat):∀ n,evV Es5 K Tryz.f100 0 (ch [.bool]) [1,1,1,1,1,1,0,1,0] [] zpy n = zg (fun k3=>zcW (zcV K) k3) n:=qB (B:=fun L4 k3=>zcW L4 k3) (V1:=fun n3=>evV Es5 K Tryz.f100 0 (ch [.bool]) [1,1,1,1,1,1,1,0,1,0] [] zpx K) (W1:=fun k3=>(zcV K)) (fun n3=>zAy K K) fun n3 (v2,v12,o0,o1,o2)=>by kernel_rfl
def zcY (L3:zcR→Option (Bool × Unit)) (k2:zcS→Option (Bool × Unit)):zcS→Option (Bool × Unit):=fun (v2,v11,o0,o1,o2) =>
  bif decide (v11 < ((List.length o2.2.2.2.2.1):Int)) then Option.bind (zjQ (o0,o2,v11,())) fun q8=>bif q8.1 then k2 (v2,wI (v11 + 1),o0,o1,o2) else some (false,()) else L3 (v2,0,o0,o1,o2)
abbrev zcZ (K:Nat):zcS→Option (Bool × Unit):=zg (fun k2=>zcY (zcX K) k2) K
theorem zAA (K:Nat):∀ n,evV Es5 K Tryz.f100 0 (ch [.bool]) [1,1,1,1,1,0,1,0] [] zpz n = zg (fun k2=>zcY (zcX K) k2) n:=qB (B:=fun L3 k2=>zcY L3 k2) (V1:=fun n2=>evV Es5 K Tryz.f100 0 (ch [.bool]) [1,1,1,1,1,1,0,1,0] [] zpy K) (W1:=fun k2=>(zcX K)) (fun n2=>zAz K K) fun n2 (v2,v11,o0,o1,o2)=>by kernel_rfl
def zc0 (L2:zcS→Option (Bool × Unit)) (k1:zcT→Option (Bool × Unit)):zcT→Option (Bool × Unit):=fun (v2,v10,o0,o1,o2) =>
  bif decide (v10 < ((List.length o2.2.2.1):Int)) then Option.bind (zka (o0,o1,v2,v10,())) fun q7=>bif q7.1 then k1 (v2,wI (v10 + 1),o0,o1,o2) else some (false,()) else L2 (v2,0,o0,o1,o2)
abbrev zc1 (K:Nat):zcT→Option (Bool × Unit):=zg (fun k1=>zc0 (zcZ K) k1) K
theorem zAB (K:Nat):∀ n,evV Es5 K Tryz.f100 0 (ch [.bool]) [1,1,1,1,0,1,0] [] zpA n = zg (fun k1=>zc0 (zcZ K) k1) n:=qB (B:=fun L2 k1=>zc0 L2 k1) (V1:=fun n1=>evV Es5 K Tryz.f100 0 (ch [.bool]) [1,1,1,1,1,0,1,0] [] zpz K) (W1:=fun k1=>(zcZ K)) (fun n1=>zAA K K) fun n1 (v2,v10,o0,o1,o2)=>by kernel_rfl
def zc2 (L1:zcT→Option (Bool × Unit)) (k0:zcU→Option (Bool × Unit)):zcU→Option (Bool × Unit):=fun (v2,v8,o0,o1,o2) =>
  bif decide (v8 < ((List.length o2.2.1):Int)) then inR v8 ((List.length o2.2.1):Int) (bif (ix qh o2.2.1 v8).1 then Option.bind (zao (o0,o1,(ix qh o2.2.1 v8).2.1,v2,())) fun q5=>bif q5.1 then Option.bind (zao (o0,o1,(ix qh o2.2.1 v8).2.2.1,v2,())) fun q6=>bif q6.1 then k0 (v2,wI (v8 + 1),o0,o1,o2) else some (false,()) else some (false,()) else k0 (v2,wI (v8 + 1),o0,o1,o2)) else L1 (v2,0,o0,o1,o2)
abbrev zkf (K:Nat):zcU→Option (Bool × Unit):=zg (fun k0=>zc2 (zc1 K) k0) K
theorem zAC (K:Nat):∀ n,evV Es5 K Tryz.f100 0 (ch [.bool]) [1,1,1,0,1,0] [] zAx n = zg (fun k0=>zc2 (zc1 K) k0) n:=qB (B:=fun L1 k0=>zc2 L1 k0) (V1:=fun n0=>evV Es5 K Tryz.f100 0 (ch [.bool]) [1,1,1,1,0,1,0] [] zpA K) (W1:=fun k0=>(zc1 K)) (fun n0=>zAB K K) fun n0 (v2,v8,o0,o1,o2)=>by kernel_rfl
def ziu (L0:zcU→Option (Bool × Unit)):(zf × (zb × (Int × Unit)))→Option (Bool × Unit):=fun (x0,x1,x2,()) =>
  inR x2 ((List.length x1.2.1):Int) (Option.bind (zl8 ((ix za x1.2.1 x2).1,())) fun q0=>bif q0.1 then Option.bind (zma ((ix za x1.2.1 x2).2.1,())) fun q1=>bif q1.1 then Option.bind (zmc ((ix za x1.2.1 x2).2.2.1,())) fun q2=>bif q2.1 then Option.bind (zme ((ix za x1.2.1 x2).2.2.2.1,())) fun q3=>bif q3.1 then Option.bind (zmg ((ix za x1.2.1 x2).2.2.2.2.1,())) fun q4=>bif q4.1 then L0 (x2,0,x0,x1,ix za x1.2.1 x2) else some (false,()) else some (false,()) else some (false,()) else some (false,()) else some (false,()))
def zfA:(zf × zb × Int × Unit)→Option (Bool × Unit):=ziu (zkf K0)
abbrev ztn:Fun:=⟨100,(ch [zu,zn,tI]),(ch [.bool]),0,zfA⟩
theorem zEe:Sq ztn:=ml5 (d:=false) (S:=fun K=>ziu (zkf K)) Tryz.func100 (by kernel_rfl) (fun K=>tr1 (T:=ziu) (zAC K K) fun (x0,x1,x2,())=>by kernel_rfl) rfl
abbrev L6:List Fun:=zoh :: zvw :: ztm :: zvx :: zvy :: ztn :: L5
theorem h6:Sds Tryz.prog E0 L6:=⟨zyz,zGQ,zEd,zGR,zGS,zEe,h5⟩
theorem ms6 {d:Bool} {F:Fun} {f:Go.Func} {K:Nat} (hf:Tryz.prog.funcs[F.id]? = some f) (ho:jl f = true) (h:evF (En E0 d L6) K f F.md F.a F.r = F.spec):Sd Tryz.prog E0 F:=mkS h6 hf ho h
theorem ml6 {d:Bool} {F:Fun} {f:Go.Func} {S:Nat→F.a.I→Option F.r.I} (hf:Tryz.prog.funcs[F.id]? = some f) (ho:jl f = true) (h:∀ K,evF (En E0 d L6) K f F.md F.a F.r = S K) (e:S K0 = F.spec):Sd Tryz.prog E0 F:=mkS h6 hf ho ((h K0).trans e)
abbrev Es6:Env:=En E0 false L6
abbrev zc3:Type:=Int × Int × zf × List (Option ((zf × Unit)→Option (Bool × Unit)))
abbrev zAD:zc3→St:=fun (v6,v7,o0,o1)=>St.mk [(1,.bp 0 []),(5,.ow 1),(6,.dat tI v6),(7,.dat tI v7)] [.bx (.dat zu o0) false,.row (.fn (.pair zu .unit) (.pair .bool .unit)) o1 false]
def zf9 (k0:zc3→Option (Bool × Unit)):zc3→Option (Bool × Unit):=fun (v6,v7,o0,o1) =>
  bif decide (v7 < v6) then inR v7 ((List.length o1):Int) (Option.bind (List.getD o1 (Int.toNat v7) (ze (.fn (.pair zu .unit) (.pair .bool .unit)))) fun q0=>Option.bind (q0 (o0,())) fun q1=>bif q1.1 then k0 (v6,wI (v7 + 1),o0,o1) else some (false,())) else some (true,())
abbrev zpB (K:Nat):zc3→Option (Bool × Unit):=zg zf9 K
theorem zAE (K:Nat):∀ n,evV Es6 K Tryz.f68 0 (ch [.bool]) [1,0,1,0] [] zAD n = zg zf9 n:=zp fun n0 (v6,v7,o0,o1)=>by kernel_rfl
def zmq (L0:zc3→Option (Bool × Unit)):(zf × Unit)→Option (Bool × Unit):=fun (x0,()) =>
  L0 (((List.length (zj (zj (zj (zj (zj (zj (List.replicate 6 (ze (.fn (.pair zu .unit) (.pair .bool .unit)))) 0 (some vH)) 1 (some yh)) 2 (some jR)) 3 (some vF)) 4 (some vG)) 5 (some y4))):Int),0,x0,[some vH,some yh,some jR,some vF,some vG,some y4])
def zap:(zf × Unit)→Option (Bool × Unit):=zmq (zpB K0)
abbrev zto:Fun:=⟨68,(ch [zu]),(ch [.bool]),0,zap⟩
theorem zEf:Sq zto:=ml6 (d:=false) (S:=fun K=>zmq (zpB K)) Tryz.func68 (by kernel_rfl) (fun K=>tr1 (T:=zmq) (zAE K K) fun (x0,())=>by kernel_rfl) rfl
def zga:(zl × Unit)→Option (Bool × Unit):=fun (x0,()) =>
  Option.bind (zkb (x0.1,())) fun q0=>bif q0.1 then Option.bind (zn5 (x0.2.1,())) fun q1=>bif q1.1 then Option.bind (zit (x0.2.2.1,())) fun q2=>bif q2.1 then Option.bind (zkc (x0.2.2.2.1,())) fun q3=>bif q3.1 then Option.bind (zis (x0.2.2.2.2.1,())) fun q4=>bif q4.1 then some (true,()) else some (false,()) else some (false,()) else some (false,()) else some (false,()) else some (false,())
abbrev zpC:Fun:=⟨111,(ch [zm]),(ch [.bool]),0,zga⟩
theorem zAF:Sq zpC:=ms6 (d:=false) (K:=0) Tryz.func111 (by kernel_rfl) (funext fun (x0,())=>by kernel_rfl)
abbrev zc4:Type:=Int × Int × (List zl) × Int × Int × qT
abbrev zpD:zc4→St:=fun (v3,v10,v15,v16,v17,o0)=>St.mk [(1,.bp 0 []),(3,.dat tI v3),(10,.dat tI v10),(15,.dat (.sl zm) v15),(16,.dat tI v16),(17,.dat tI v17)] [.bx (.dat qo o0) false]
abbrev vZ:Type:=Int × qT
abbrev zpE:vZ→St:=fun (v10,o0)=>St.mk [(1,.bp 0 []),(10,.dat tI v10)] [.bx (.dat qo o0) false]
def zc5 (k0:vZ→Option (Bool × Unit)) (k1:zc4→Option (Bool × Unit)):zc4→Option (Bool × Unit):=fun (v3,v10,v15,v16,v17,o0) =>
  bif decide (v17 < v16) then inR v17 ((List.length v15):Int) (inR v3 (↑4:Int) (inR v17 ((List.length o0.1.2.2.2.2.1):Int) (bif decide (List.getD (ix za v15 v17).2.2.2.2.2.2.2.1 (Int.toNat v3) (0:Int) > (ix qe o0.1.2.2.2.2.1 v17).2.2.2.2.2.1) then some (false,()) else k1 (v3,v10,v15,v16,wI (v17 + 1),o0)))) else Option.bind (zke (o0.2.1,v3,())) fun q0=>Option.bind (zj7 (o0.2.1,v3,())) fun q1=>bif q0.2.1 != 0 then some (false,()) else bif q1.2.1 != 0 then some (false,()) else bif q0.1 != q1.1 then some (false,()) else k0 (wI (v10 + 1),o0)
abbrev zc6 (K:Nat) (k0:vZ→Option (Bool × Unit)):zc4→Option (Bool × Unit):=zg (fun k1=>zc5 k0 k1) K
theorem zAG (K:Nat) (n0:Nat):∀ n,evV Es6 K Tryz.f77 0 (ch [.bool]) [1,0,1,0,0,1,1,0,0,1,0,1,0] [n0] zpD n = zg (fun k1=>zc5 (evV Es6 K Tryz.f77 0 (ch [.bool]) [1,0,1,0] [] zpE n0) k1) n:=zp fun n1 (v3,v10,v15,v16,v17,o0)=>by kernel_rfl
def zc7 (L1:zc4→Option (Bool × Unit)) (k0:vZ→Option (Bool × Unit)):vZ→Option (Bool × Unit):=fun (v10,o0) =>
  bif decide (v10 < 4) then L1 (v10,v10,o0.2.1.2.1,((List.length o0.2.1.2.1):Int),0,o0) else some (true,())
abbrev zpF (K:Nat):vZ→Option (Bool × Unit):=zg (fun k0=>zc7 (zc6 K k0) k0) K
theorem zAH (K:Nat):∀ n,evV Es6 K Tryz.f77 0 (ch [.bool]) [1,0,1,0] [] zpE n = zg (fun k0=>zc7 (zc6 K k0) k0) n:=qB (B:=fun L1 k0=>zc7 L1 k0) (V1:=fun n0=>evV Es6 K Tryz.f77 0 (ch [.bool]) [1,0,1,0,0,1,1,0,0,1,0,1,0] [n0] zpD K) (W1:=fun k0=>(zc6 K k0)) (fun n0=>zAG K n0 K) fun n0 (v10,o0)=>by kernel_rfl
def zmr (L0:vZ→Option (Bool × Unit)):(qT × Unit)→Option (Bool × Unit):=fun (x0,()) =>
  L0 (0,x0)
def zfB:(qT × Unit)→Option (Bool × Unit):=zmr (zpF K0)
abbrev ztp:Fun:=⟨77,(ch [qo]),(ch [.bool]),0,zfB⟩
theorem zEg:Sq ztp:=ml6 (d:=false) (S:=fun K=>zmr (zpF K)) Tryz.func77 (by kernel_rfl) (fun K=>tr1 (T:=zmr) (zAH K K) fun (x0,())=>by kernel_rfl) rfl
abbrev zc8:Type:=Int × Int × zf × zb
abbrev zpG:zc8→St:=fun (v5,v6,o0,o1)=>St.mk [(2,.bp 0 []),(3,.bp 1 []),(5,.dat tI v5),(6,.dat tI v6)] [.bx (.dat zu o0) false,.bx (.dat zn o1) false]
abbrev zc9:Type:=Int × zb
abbrev zpH:zc9→St:=fun (v7,o0)=>St.mk [(3,.bp 0 []),(7,.dat tI v7)] [.bx (.dat zn o0) false]
abbrev ya:Type:=Int × zf × zb
abbrev zpI:ya→St:=fun (v5,o0,o1)=>St.mk [(2,.bp 0 []),(3,.bp 1 []),(5,.dat tI v5)] [.bx (.dat zu o0) false,.bx (.dat zn o1) false]
def zgb (k0:ya→Option (Bool × Unit)) (k1:zc8→Option (Bool × Unit)):zc8→Option (Bool × Unit):=fun (v5,v6,o0,o1) =>
  bif decide (v6 < 4) then inR v5 ((List.length o1.2.1):Int) (inR v6 (↑4:Int) (inR v5 ((List.length o0.2.2.2.2.1):Int) (bif decide (List.getD (ix za o1.2.1 v5).2.2.2.2.2.2.2.1 (Int.toNat v6) (0:Int) > (ix qe o0.2.2.2.2.1 v5).2.2.2.2.2.1) then some (false,()) else k1 (v5,wI (v6 + 1),o0,o1)))) else k0 (wI (v5 + 1),o0,o1)
abbrev zgc (K:Nat) (k0:ya→Option (Bool × Unit)):zc8→Option (Bool × Unit):=zg (fun k1=>zgb k0 k1) K
theorem zAI (K:Nat) (n0:Nat):∀ n,evV Es6 K Tryz.f54 0 (ch [.bool]) [1,1,0,1,0,0,1,0,0,1,1,0] [n0] zpG n = zg (fun k1=>zgb (evV Es6 K Tryz.f54 0 (ch [.bool]) [1,1,0,1,0] [] zpI n0) k1) n:=zp fun n1 (v5,v6,o0,o1)=>by kernel_rfl
def zkg (k2:zc9→Option (Bool × Unit)):zc9→Option (Bool × Unit):=fun (v7,o0) =>
  bif decide (v7 < 4) then Option.bind (zj2 (o0,v7,())) fun q4=>Option.bind (zjW (o0,v7,())) fun q5=>bif q4.2.1 != 0 then some (false,()) else bif q5.2.1 != 0 then some (false,()) else bif q4.1 != q5.1 then some (false,()) else k2 (wI (v7 + 1),o0) else some (true,())
abbrev zda (K:Nat):zc9→Option (Bool × Unit):=zg zkg K
theorem zAJ (K:Nat):∀ n,evV Es6 K Tryz.f54 0 (ch [.bool]) [1,1,1,0,1,0] [] zpH n = zg zkg n:=zp fun n2 (v7,o0)=>by kernel_rfl
def zdb (L1:zc8→Option (Bool × Unit)) (L2:zc9→Option (Bool × Unit)) (k0:ya→Option (Bool × Unit)):ya→Option (Bool × Unit):=fun (v5,o0,o1) =>
  bif decide (v5 < ((List.length o1.2.1):Int)) then Option.bind (zfA (o0,o1,v5,())) fun q3=>bif q3.1 then L1 (v5,0,o0,o1) else some (false,()) else L2 (0,o1)
abbrev zkh (K:Nat):ya→Option (Bool × Unit):=zg (fun k0=>zdb (zgc K k0) (zda K) k0) K
theorem zAK (K:Nat):∀ n,evV Es6 K Tryz.f54 0 (ch [.bool]) [1,1,0,1,0] [] zpI n = zg (fun k0=>zdb (zgc K k0) (zda K) k0) n:=zLR (B:=fun L1 L2 k0=>zdb L1 L2 k0) (V1:=fun n0=>evV Es6 K Tryz.f54 0 (ch [.bool]) [1,1,0,1,0,0,1,0,0,1,1,0] [n0] zpG K) (V2:=fun n0=>evV Es6 K Tryz.f54 0 (ch [.bool]) [1,1,1,0,1,0] [] zpH K) (W1:=fun k0=>(zgc K k0)) (W2:=fun k0=>(zda K)) (fun n0=>zAI K n0 K) (fun n0=>zAJ K K) fun n0 (v5,o0,o1)=>by kernel_rfl
def ziv (L0:ya→Option (Bool × Unit)):(zf × (zb × Unit))→Option (Bool × Unit):=fun (x0,x1,()) =>
  Option.bind (zfv (x0,())) fun q0=>bif q0.1 then Option.bind (zii (x0,x1,())) fun q1=>bif q1.1 then Option.bind (zhc (x0,x1,())) fun q2=>bif q2.1 then L0 (0,x0,x1) else some (false,()) else some (false,()) else some (false,())
def ziw:(zf × zb × Unit)→Option (Bool × Unit):=ziv (zkh K0)
abbrev ztq:Fun:=⟨54,(ch [zu,zn]),(ch [.bool]),0,ziw⟩
theorem zEh:Sq ztq:=ml6 (d:=false) (S:=fun K=>ziv (zkh K)) Tryz.func54 (by kernel_rfl) (fun K=>tr1 (T:=ziv) (zAK K K) fun (x0,x1,())=>by kernel_rfl) rfl
abbrev L7:List Fun:=zto :: zpC :: ztp :: ztq :: L6
theorem h7:Sds Tryz.prog E0 L7:=⟨zEf,zAF,zEg,zEh,h6⟩
theorem ms7 {d:Bool} {F:Fun} {f:Go.Func} {K:Nat} (hf:Tryz.prog.funcs[F.id]? = some f) (ho:jl f = true) (h:evF (En E0 d L7) K f F.md F.a F.r = F.spec):Sd Tryz.prog E0 F:=mkS h7 hf ho h
theorem ml7 {d:Bool} {F:Fun} {f:Go.Func} {S:Nat→F.a.I→Option F.r.I} (hf:Tryz.prog.funcs[F.id]? = some f) (ho:jl f = true) (h:∀ K,evF (En E0 d L7) K f F.md F.a F.r = S K) (e:S K0 = F.spec):Sd Tryz.prog E0 F:=mkS h7 hf ho ((h K0).trans e)
abbrev Es7:Env:=En E0 false L7
abbrev Ed7:Env:=En E0 true L7
abbrev zdc:Type:=Int × (List zl) × Int × Int × qT
abbrev zAL:zdc→St:=fun (v3,v65,v66,v67,o0)=>St.mk [(1,.bp 0 []),(3,.dat tI v3),(65,.dat (.sl zm) v65),(66,.dat tI v66),(67,.dat tI v67)] [.bx (.dat qo o0) false]
def zgd (k0:zdc→Option (Bool × Unit)):zdc→Option (Bool × Unit):=fun (v3,v65,v66,v67,o0) =>
  bif decide (v67 < v66) then inR v67 ((List.length v65):Int) (inR v67 ((List.length o0.1.2.2.2.2.1):Int) (bif ((List.length (ix za v65 v67).1):Int) != (ix qe o0.1.2.2.2.2.1 v67).1 then some (false,()) else bif ((List.length (ix za v65 v67).2.1):Int) != (ix qe o0.1.2.2.2.2.1 v67).2.1 then some (false,()) else bif ((List.length (ix za v65 v67).2.2.1):Int) != (ix qe o0.1.2.2.2.2.1 v67).2.2.1 then some (false,()) else bif ((List.length (ix za v65 v67).2.2.2.1):Int) != (ix qe o0.1.2.2.2.2.1 v67).2.2.2.1 then some (false,()) else bif ((List.length (ix za v65 v67).2.2.2.2.1):Int) != (ix qe o0.1.2.2.2.2.1 v67).2.2.2.2.1 then some (false,()) else bif ((List.length (ix za v65 v67).2.2.2.2.2.1):Int) != v3 then some (false,()) else bif ((List.length (ix za v65 v67).2.2.2.2.2.2.1):Int) != v3 then some (false,()) else k0 (v3,v65,v66,wI (v67 + 1),o0))) else some (true,())
abbrev zki (K:Nat):zdc→Option (Bool × Unit):=zg zgd K
theorem zAM (K:Nat):∀ n,evV Es7 K Tryz.f71 0 (ch [.bool]) [1,1,1,0,1,0] [] zAL n = zg zgd n:=zp fun n0 (v3,v65,v66,v67,o0)=>by kernel_rfl
def zix (L0:zdc→Option (Bool × Unit)):(qT × Unit)→Option (Bool × Unit):=fun (x0,()) =>
  Option.bind (zap (x0.1,())) fun q0=>bif q0.1 then bif ((List.length x0.2.1.2.1):Int) != ((List.length x0.1.1):Int) then some (false,()) else bif ((List.length x0.2.1.2.2.2.1):Int) != x0.1.2.2.2.2.2.1 then some (false,()) else bif decide (((List.length x0.2.1.2.2.2.2.1):Int) > x0.1.2.2.2.2.2.2.1) then some (false,()) else bif ((List.length x0.2.1.2.2.2.2.2.1):Int) != ((List.length x0.1.2.1):Int) then some (false,()) else bif decide (x0.2.1.1 > 4611686018427387904) then some (false,()) else L0 (((List.length x0.1.2.2.1):Int),x0.2.1.2.1,((List.length x0.2.1.2.1):Int),0,x0) else some (false,())
def zbQ:(qT × Unit)→Option (Bool × Unit):=zix (zki K0)
abbrev ztr:Fun:=⟨71,(ch [qo]),(ch [.bool]),0,zbQ⟩
theorem zEi:Sq ztr:=ml7 (d:=false) (S:=fun K=>zix (zki K)) Tryz.func71 (by kernel_rfl) (fun K=>tr1 (T:=zix) (zAM K K) fun (x0,())=>by kernel_rfl) rfl
def zbR:(qT × Unit)→Option (Bool × Unit):=fun (x0,()) =>
  Option.bind (zhz (x0.2.1.2.1,some zga,())) fun q0=>bif q0.1 then some (true,()) else some (false,())
abbrev zts:Fun:=⟨72,(ch [qo]),(ch [.bool]),0,zbR⟩
theorem zEj:Sq zts:=ms7 (d:=false) (K:=0) Tryz.func72 (by kernel_rfl) (funext fun (x0,())=>by kernel_rfl)
abbrev zeG:Type:=(Option ((Int × Unit)→Option (Bool × Unit))) × (List (List Int)) × Int × Int × zf
abbrev zCs:zeG→St:=fun (v5,v19,v20,v21,o0)=>St.mk [(2,.bp 0 []),(5,.dat (.fn (.pair tI .unit) (.pair .bool .unit)) v5),(19,.dat (.sl (.sl tI)) v19),(20,.dat tI v20),(21,.dat tI v21)] [.bx (.dat zu o0) false]
def zhd (k0:zeG→Option (Bool × Unit)):zeG→Option (Bool × Unit):=fun (v5,v19,v20,v21,o0) =>
  bif decide (v21 < v20) then inR v21 ((List.length v19):Int) (bif ((List.length (List.getD v19 (Int.toNat v21) ([]:List Int))):Int) != ((List.length o0.2.2.1):Int) then some (false,()) else Option.bind (qK (List.getD v19 (Int.toNat v21) ([]:List Int),v5,())) fun q1=>bif q1.1 then some (false,()) else inR v21 ((List.length o0.2.2.2.1):Int) (inR (ix qF o0.2.2.2.1 v21).2.1 ((List.length (List.getD v19 (Int.toNat v21) ([]:List Int))):Int) (bif List.getD (List.getD v19 (Int.toNat v21) ([]:List Int)) (Int.toNat (ix qF o0.2.2.2.1 v21).2.1) (0:Int) != 2 then some (false,()) else k0 (v5,v19,v20,wI (v21 + 1),o0)))) else some (true,())
abbrev zk9 (K:Nat):zeG→Option (Bool × Unit):=zg zhd K
theorem zCt (K:Nat):∀ n,evV Es7 K Tryz.f117 0 (ch [.bool]) [1,1,1,0,1,0] [] zCs n = zg zhd n:=zp fun n0 (v5,v19,v20,v21,o0)=>by kernel_rfl
def zkj (L0:zeG→Option (Bool × Unit)):(zf × ((List (List Int)) × Unit))→Option (Bool × Unit):=fun (x0,x1,()) =>
  Option.bind (zap (x0,())) fun q0=>bif q0.1 then bif ((List.length x1):Int) != ((List.length x0.2.2.2.1):Int) then some (false,()) else L0 (some zaQ,x1,((List.length x1):Int),0,x0) else some (false,())
def zkk:(zf × (List (List Int)) × Unit)→Option (Bool × Unit):=zkj (zk9 K0)
abbrev zvz:Fun:=⟨117,(ch [zu,(.sl (.sl tI))]),(ch [.bool]),0,zkk⟩
theorem zGT:Sq zvz:=ml7 (d:=false) (S:=fun K=>zkj (zk9 K)) Tryz.func117 (by kernel_rfl) (fun K=>tr1 (T:=zkj) (zCt K K) fun (x0,x1,())=>by kernel_rfl) rfl
def zdd:(zf × (Int × Unit))→Option (Bool × Unit):=fun (x0,x1,()) =>
  Option.bind (zap (x0,())) fun q0=>bif q0.1 then Option.bind (qt (x1,0,wI (((List.length x0.1):Int) - 1),())) fun q1=>bif q1.1 then some (true,()) else some (false,()) else some (false,())
abbrev zpJ:Fun:=⟨158,(ch [zu,tI]),(ch [.bool]),0,zdd⟩
theorem zAN:Sq zpJ:=ms7 (d:=false) (K:=0) Tryz.func158 (by kernel_rfl) (funext fun (x0,x1,())=>by kernel_rfl)
def zaO:(zf × (zb × (pMe × Unit)))→Option (Bool × Unit):=fun (x0,x1,x2,()) =>
  Option.bind (ziw (x0,x1,())) fun q0=>bif q0.1 then Option.bind (zjX (x0,x2,())) fun q1=>bif q1.1 then some (true,()) else some (false,()) else some (false,())
abbrev zxf:Fun:=⟨12,(ch [zu,zn,tMe]),(ch [.bool]),0,zaO⟩
theorem zII:Sq zxf:=ms7 (d:=false) (K:=0) Tryz.func12 (by kernel_rfl) (funext fun (x0,x1,x2,())=>by kernel_rfl)
abbrev zgz:Type:=(List z7) × Int × Int × zf × List (List Int) × Nat
abbrev zGU:zgz→St:=fun (v11,v12,v13,o0,o1,c1)=>St.mk [(1,.bp 0 []),(3,.ow 1),(11,.dat (.sl yo) v11),(12,.dat tI v12),(13,.dat tI v13)] [.bx (.dat zu o0) false,.drow (.sl tI) o1 c1]
def zvA (k0:zgz→Option ((List (List Int)) × Unit)):zgz→Option ((List (List Int)) × Unit):=fun (v11,v12,v13,o0,o1,c1) =>
  bif decide (v13 < v12) then inR v13 ((List.length v11):Int) (bif decide (((List.length o0.2.2.1):Int) ≤ ((List.length o0.2.2.1):Int)) then bif decide (((List.length o0.2.2.1):Int) ≤ (↑lim:Int)) then inR (ix qF v11 v13).2.1 ((List.length (List.replicate (Int.toNat ((List.length o0.2.2.1):Int)) (0:Int))):Int) (bif decide (List.length o1 + List.length [List.set (List.replicate (Int.toNat ((List.length o0.2.2.1):Int)) (0:Int)) (Int.toNat (ix qF v11 v13).2.1) 2] ≤ lim) then bif decide (c1 = List.length o1) then k0 (v11,v12,wI (v13 + 1),o0,o1 ++ [List.set (List.replicate (Int.toNat ((List.length o0.2.2.1):Int)) (0:Int)) (Int.toNat (ix qF v11 v13).2.1) 2],c1 + (0 + 1)) else none else none) else none else none) else bif decide (c1 = List.length o1) then some (o1,()) else none
abbrev zvB (K:Nat):zgz→Option ((List (List Int)) × Unit):=zg zvA K
theorem zGV (K:Nat):∀ n,evV Ed7 K Tryz.f69 4 (ch [(.sl (.sl tI))]) [1,1,1,0,1,0] [] zGU n = zg zvA n:=zp fun n0 (v11,v12,v13,o0,o1,c1)=>by kernel_rfl
def zso (L0:zgz→Option ((List (List Int)) × Unit)):(zf × Unit)→Option ((List (List Int)) × Unit):=fun (x0,()) =>
  Option.bind (zap (x0,())) fun q0=>bif q0.1 then L0 (x0.2.2.2.1,((List.length x0.2.2.2.1):Int),0,x0,[],0) else some ([],())
def zAO:(zf × Unit)→Option ((List (List Int)) × Unit):=zso (zvB K0)
abbrev zAP:Fun:=⟨69,(ch [zu]),(ch [(.sl (.sl tI))]),4,zAO⟩
theorem zKA:Sq zAP:=ml7 (d:=true) (S:=fun K=>zso (zvB K)) Tryz.func69 (by kernel_rfl) (fun K=>tr1 (T:=zso) (zGV K K) fun (x0,())=>by kernel_rfl) rfl
abbrev L8:List Fun:=ztr :: zts :: zvz :: zpJ :: zxf :: zAP :: L7
theorem h8:Sds Tryz.prog E0 L8:=⟨zEi,zEj,zGT,zAN,zII,zKA,h7⟩
theorem ms8 {d:Bool} {F:Fun} {f:Go.Func} {K:Nat} (hf:Tryz.prog.funcs[F.id]? = some f) (ho:jl f = true) (h:evF (En E0 d L8) K f F.md F.a F.r = F.spec):Sd Tryz.prog E0 F:=mkS h8 hf ho h
theorem ml8 {d:Bool} {F:Fun} {f:Go.Func} {S:Nat→F.a.I→Option F.r.I} (hf:Tryz.prog.funcs[F.id]? = some f) (ho:jl f = true) (h:∀ K,evF (En E0 d L8) K f F.md F.a F.r = S K) (e:S K0 = F.spec):Sd Tryz.prog E0 F:=mkS h8 hf ho ((h K0).trans e)
theorem mk8 {d:Bool} {js:List Nat} {F:Fun} {f:Go.Func} {S:Nat→F.a.I→Option F.r.I} (hf:Tryz.prog.funcs[F.id]? = some f) (ho:jl f = true) (h:∀ K,evF (Ej E0 d js L8) K f F.md F.a F.r = S K) (e:S K0 = F.spec):Sd Tryz.prog E0 F:=zNP h8 hf ho ((h K0).trans e)
abbrev Ed8:Env:=En E0 true L8
def zaY:(qT × Unit)→Option (Bool × Unit):=fun (x0,()) =>
  Option.bind (zkk (x0.1,x0.2.1.2.2.1,())) fun q0=>bif q0.1 then Option.bind (zoe (x0.2.1.2.2.2.1,())) fun q1=>bif q1.1 then Option.bind (zmo (x0.2.1.2.2.2.2.1,())) fun q2=>bif q2.1 then Option.bind (zfl (x0.2.1,ze zM,())) fun q3=>bif q3.1 then Option.bind (zhA (x0.2.1.2.2.2.1,some fun z=>zfa (z.1,some x0,()),())) fun q4=>bif q4.1 then Option.bind (zdP (x0.2.1.2.2.2.2.1,some fun z=>za9 (z.1,some x0,()),())) fun q5=>bif q5.1 then Option.bind (zad (x0.2.1.2.2.2.2.2.1,some fun z=>vq (z.1,some x0,()),())) fun q6=>bif q6.1 then some (true,()) else some (false,()) else Option.bind (zad (x0.2.1.2.2.2.2.2.1,some fun z=>vq (z.1,some x0,()),())) fun q7=>bif q7.1 then some (false,()) else some (false,()) else Option.bind (zdP (x0.2.1.2.2.2.2.1,some fun z=>za9 (z.1,some x0,()),())) fun q8=>bif q8.1 then Option.bind (zad (x0.2.1.2.2.2.2.2.1,some fun z=>vq (z.1,some x0,()),())) fun q9=>bif q9.1 then some (false,()) else some (false,()) else Option.bind (zad (x0.2.1.2.2.2.2.2.1,some fun z=>vq (z.1,some x0,()),())) fun q10=>bif q10.1 then some (false,()) else some (false,()) else some (false,()) else some (false,()) else some (false,()) else some (false,())
abbrev zrz:Fun:=⟨73,(ch [qo]),(ch [.bool]),0,zaY⟩
theorem zCu:Sq zrz:=ms8 (d:=false) (K:=0) Tryz.func73 (by kernel_rfl) (funext fun (x0,())=>by kernel_rfl)
def zlB:(zf × (Int × (Int × Unit)))→Option (Bool × Unit):=fun (x0,x1,x2,()) =>
  Option.bind (zdd (x0,x1,())) fun q0=>bif q0.1 then Option.bind (zdd (x0,x2,())) fun q1=>bif q1.1 then inR x1 ((List.length x0.1):Int) (inR x2 ((List.length x0.1):Int) (Option.bind (zhQ (ix je x0.1 x1,ix je x0.1 x2,())) fun q2=>bif q2.1 then some (true,()) else some (false,()))) else some (false,()) else some (false,())
abbrev zxg:Fun:=⟨95,(ch [zu,tI,tI]),(ch [.bool]),0,zlB⟩
theorem zIJ:Sq zxg:=ms8 (d:=false) (K:=0) Tryz.func95 (by kernel_rfl) (funext fun (x0,x1,x2,())=>by kernel_rfl)
abbrev ziy:Type:=Int × Int × Int × Int × Int × Bool × zb × pMe × zb × zl
abbrev zEk:ziy→St:=fun (v3,v4,v5,v6,v7,v150,o0,o1,o2,o3)=>St.mk [(3,.dat tI v3),(4,.dat tI v4),(5,.dat tI v5),(6,.dat tI v6),(7,.dat tU v7),(9,.bp 0 []),(10,.bp 1 []),(16,.bp 2 []),(18,.bp 3 []),(150,.dat .bool v150)] [.bx (.dat zn o0) false,.bx (.dat tMe o1) false,.bx (.dat zn o2) false,.bx (.dat zm o3) false]
abbrev ziz:Type:=Int × Int × Int × Int × Int × Bool × zf × zb × pMe × zb
abbrev zEl:ziz→St:=fun (v3,v4,v5,v6,v7,v77,o0,o1,o2,o3)=>St.mk [(3,.dat tI v3),(4,.dat tI v4),(5,.dat tI v5),(6,.dat tI v6),(7,.dat tU v7),(8,.bp 0 []),(9,.bp 1 []),(10,.bp 2 []),(16,.bp 3 []),(77,.dat .bool v77)] [.bx (.dat zu o0) false,.bx (.dat zn o1) false,.bx (.dat tMe o2) false,.bx (.dat zn o3) false]
abbrev ziA:Type:=Int × Int × Int × Int × Int × Bool × zf × zb × pMe × zb
abbrev zEm:ziA→St:=fun (v3,v4,v5,v6,v7,v38,o0,o1,o2,o3)=>St.mk [(3,.dat tI v3),(4,.dat tI v4),(5,.dat tI v5),(6,.dat tI v6),(7,.dat tU v7),(8,.bp 0 []),(9,.bp 1 []),(10,.bp 2 []),(16,.bp 3 []),(38,.dat .bool v38)] [.bx (.dat zu o0) false,.bx (.dat zn o1) false,.bx (.dat tMe o2) false,.bx (.dat zn o3) false]
def yi:ziy→Option (zb × (Int × Unit)):=fun (v3,v4,v5,v6,v7,v150,o0,o1,o2,o3) =>
  bif v150 then some ((0,[],[],[],[],[],()),5,()) else inR o1.2.2.1 ((List.length o3.2.2.2.2.2.1):Int) (inR v6 (↑4:Int) (bif decide (List.getD (List.getD o3.2.2.2.2.2.1 (Int.toNat o1.2.2.1) (ze (.arr 4 tU))) (Int.toNat v6) (0:Int) < v7) then some ((0,[],[],[],[],[],()),6,()) else Option.bind (zjY (o0,o1.2.1,o1.2.2.1,v6,v7,())) fun q4=>bif v3 == 3 then Option.bind (zdy (q4.1,o1.2.1,v5,v6,v7,())) fun q5=>some (q5.1,0,()) else bif v3 == 4 then Option.bind (zdy (q4.1,v4,v5,v6,v7,())) fun q6=>some (q6.1,0,()) else inR o1.2.1 ((List.length q4.1.2.1):Int) (inR v6 (↑4:Int) (inR v6 (↑4:Int) (Option.bind (za8 (q4.1,o1.2.1,(u8 (ix za q4.1.2.1 o1.2.1) (List.set (ix za q4.1.2.1 o1.2.1).2.2.2.2.2.2.2.2.1 (Int.toNat v6) (wU (List.getD (ix za q4.1.2.1 o1.2.1).2.2.2.2.2.2.2.2.1 (Int.toNat v6) (0:Int) + v7)))),())) fun q7=>some (q7.1,0,()))))))
abbrev ztt (K:Nat):ziy→Option (zb × (Int × Unit)):=gt yi K
theorem zEn (K:Nat):∀ n,evW (Ej E0 false [1,3,14] L8) K Tryz.f10 0 (ch [zn,tI]) [1,1,1,1,1,0,0] [] zEk n = gt yi n:=zLT fun n2 (v3,v4,v5,v6,v7,v150,o0,o1,o2,o3)=>by kernel_rfl
def zaq (L2:ziy→Option (zb × (Int × Unit))):ziz→Option (zb × (Int × Unit)):=fun (v3,v4,v5,v6,v7,v77,o0,o1,o2,o3) =>
  bif v77 then some ((0,[],[],[],[],[],()),1,()) else inR o2.2.1 ((List.length o1.2.1):Int) (bif v3 == 1 then inR o2.2.2.1 ((List.length o0.2.2.1):Int) (bif (ix qn o0.2.2.1 o2.2.2.1).2.2.2.1 then inR v6 (↑4:Int) (Option.bind (vl (List.getD (ix za o1.2.1 o2.2.1).2.2.2.2.2.2.2.1 (Int.toNat v6) (0:Int),v7,())) fun q1=>bif q1.2.1 != 0 then some ((0,[],[],[],[],[],()),8,()) else inR o2.2.1 ((List.length o0.2.2.2.2.1):Int) (bif decide (q1.1 > (ix qe o0.2.2.2.2.1 o2.2.1).2.2.2.2.2.1) then some ((0,[],[],[],[],[],()),8,()) else inR v6 (↑4:Int) (Option.bind (za8 (o1,o2.2.1,(u7 (ix za o1.2.1 o2.2.1) (List.set (ix za o1.2.1 o2.2.1).2.2.2.2.2.2.2.1 (Int.toNat v6) q1.1)),())) fun q2=>Option.bind (zdy (q2.1,o2.2.1,o2.2.2.1,v6,v7,())) fun q3=>some (q3.1,0,())))) else some ((0,[],[],[],[],[],()),5,())) else bif v3 == 4 then bif v4 == o2.2.1 then L2 (v3,v4,v5,v6,v7,true,o1,o2,o3,ix za o1.2.1 o2.2.1) else Option.bind (zfL (o0,o2.2.1,v4,())) fun q8=>bif q8.1 then L2 (v3,v4,v5,v6,v7,false,o1,o2,o3,ix za o1.2.1 o2.2.1) else L2 (v3,v4,v5,v6,v7,true,o1,o2,o3,ix za o1.2.1 o2.2.1) else L2 (v3,v4,v5,v6,v7,false,o1,o2,o3,ix za o1.2.1 o2.2.1))
abbrev ztu (K:Nat):ziz→Option (zb × (Int × Unit)):=gt (zaq (ztt K)) K
theorem zEo (K:Nat):∀ n,evW (Ej E0 false [1,3,14] L8) K Tryz.f10 0 (ch [zn,tI]) [1,1,0,0] [] zEl n = gt (zaq (ztt K)) n:=zJH (B:=fun L2=>zaq L2) (zEn K K) fun n1 (v3,v4,v5,v6,v7,v77,o0,o1,o2,o3)=>by kernel_rfl
def vo (L1:ziz→Option (zb × (Int × Unit))):ziA→Option (zb × (Int × Unit)):=fun (v3,v4,v5,v6,v7,v38,o0,o1,o2,o3) =>
  bif v38 then some ((0,[],[],[],[],[],()),1,()) else bif decide (v3 > 2) then bif decide (v5 < 0) then L1 (v3,v4,v5,v6,v7,true,o0,o1,o2,o3) else bif decide (v5 ≥ ((List.length o0.2.2.1):Int)) then L1 (v3,v4,v5,v6,v7,true,o0,o1,o2,o3) else bif v3 == 3 then bif v5 == o2.2.2.1 then L1 (v3,v4,v5,v6,v7,true,o0,o1,o2,o3) else bif v3 == 4 then bif decide (v4 < 0) then L1 (v3,v4,v5,v6,v7,true,o0,o1,o2,o3) else bif decide (v4 ≥ ((List.length o0.1):Int)) then L1 (v3,v4,v5,v6,v7,true,o0,o1,o2,o3) else L1 (v3,v4,v5,v6,v7,false,o0,o1,o2,o3) else L1 (v3,v4,v5,v6,v7,false,o0,o1,o2,o3) else bif v3 == 4 then bif decide (v4 < 0) then L1 (v3,v4,v5,v6,v7,true,o0,o1,o2,o3) else bif decide (v4 ≥ ((List.length o0.1):Int)) then L1 (v3,v4,v5,v6,v7,true,o0,o1,o2,o3) else L1 (v3,v4,v5,v6,v7,false,o0,o1,o2,o3) else L1 (v3,v4,v5,v6,v7,false,o0,o1,o2,o3) else bif v3 == 3 then bif v5 == o2.2.2.1 then L1 (v3,v4,v5,v6,v7,true,o0,o1,o2,o3) else bif v3 == 4 then bif decide (v4 < 0) then L1 (v3,v4,v5,v6,v7,true,o0,o1,o2,o3) else bif decide (v4 ≥ ((List.length o0.1):Int)) then L1 (v3,v4,v5,v6,v7,true,o0,o1,o2,o3) else L1 (v3,v4,v5,v6,v7,false,o0,o1,o2,o3) else L1 (v3,v4,v5,v6,v7,false,o0,o1,o2,o3) else bif v3 == 4 then bif decide (v4 < 0) then L1 (v3,v4,v5,v6,v7,true,o0,o1,o2,o3) else bif decide (v4 ≥ ((List.length o0.1):Int)) then L1 (v3,v4,v5,v6,v7,true,o0,o1,o2,o3) else L1 (v3,v4,v5,v6,v7,false,o0,o1,o2,o3) else L1 (v3,v4,v5,v6,v7,false,o0,o1,o2,o3)
abbrev ztv (K:Nat):ziA→Option (zb × (Int × Unit)):=gt (vo (ztu K)) K
theorem zEp (K:Nat):∀ n,evW (Ej E0 false [1,3,14] L8) K Tryz.f10 0 (ch [zn,tI]) [1,0,0] [] zEm n = gt (vo (ztu K)) n:=zJH (B:=fun L1=>vo L1) (zEo K K) fun n0 (v3,v4,v5,v6,v7,v38,o0,o1,o2,o3)=>by kernel_rfl
def zh2 (L0:ziA→Option (zb × (Int × Unit))):(zf × (zb × (pMe × (Int × (Int × (Int × (Int × (Int × Unit))))))))→Option (zb × (Int × Unit)):=fun (x0,x1,x2,x3,x4,x5,x6,x7,()) =>
  Option.bind (zaO (x0,x1,x2,())) fun q0=>bif q0.1 then bif decide (x6 < 0) then L0 (x3,x4,x5,x6,x7,true,x0,x1,x2,0,[],[],[],[],[],()) else bif decide (x6 > 3) then L0 (x3,x4,x5,x6,x7,true,x0,x1,x2,0,[],[],[],[],[],()) else bif x7 == 0 then L0 (x3,x4,x5,x6,x7,true,x0,x1,x2,0,[],[],[],[],[],()) else L0 (x3,x4,x5,x6,x7,false,x0,x1,x2,0,[],[],[],[],[],()) else L0 (x3,x4,x5,x6,x7,true,x0,x1,x2,0,[],[],[],[],[],())
def zdB:(zf × zb × pMe × Int × Int × Int × Int × Int × Unit)→Option (zb × Int × Unit):=zh2 (ztv K0)
abbrev zxh:Fun:=⟨10,(ch [zu,zn,tMe,tI,tI,tI,tI,tU]),(ch [zn,tI]),0,zdB⟩
theorem zIK:Sq zxh:=mk8 (d:=false) (js:=[1,3,14]) (S:=fun K=>zh2 (ztv K)) Tryz.func10 (by kernel_rfl) (fun K=>tr1 (T:=zh2) (zEp K K) fun (x0,x1,x2,x3,x4,x5,x6,x7,())=>by kernel_rfl) rfl
abbrev zfC:Type:=Int × Int × Int × Int × List zl × Nat × List (List Int) × Nat × List zo × List zF × List Int × List zl × Nat × List (List Int) × Nat × List zo × List zF × List Int
abbrev ztw:zfC→St:=fun (v42,v43,o0_0,o1_0,o2,c2,o3,c3,o4,o5,o6,o7,c7,o8,c8,o9,o10,o11)=>St.mk [(2,.bp 0 []),(4,.bp 1 []),(42,.dat tI v42),(43,.dat tI v43)] [.bx (.fld (.pair tU (.pair (.sl zm) (.pair (.sl (.sl tI)) (.pair (.sl zr) (.pair (.sl zv) (.pair (.sl tI) .unit)))))) [.dat tU o0_0,.ow 2,.ow 3,.ow 4,.ow 5,.ow 6]) false,.bx (.fld (.pair tU (.pair (.sl zm) (.pair (.sl (.sl tI)) (.pair (.sl zr) (.pair (.sl zv) (.pair (.sl tI) .unit)))))) [.dat tU o1_0,.ow 7,.ow 8,.ow 9,.ow 10,.ow 11]) false,.drow zm o2 c2,.drow (.sl tI) o3 c3,.row zr o4 false,.row zv o5 false,.row tI o6 false,.drow zm o7 c7,.drow (.sl tI) o8 c8,.row zr o9 false,.row zv o10 false,.row tI o11 false]
abbrev zfD:Type:=(List zaw) × Int × Int × zf × Int × Int × List zl × Nat × List (List Int) × Nat × List zo × List zF × List Int × List zl × Nat × List (List Int) × Nat × List zo × List zF × List Int
abbrev zEq:zfD→St:=fun (v18,v19,v20,o0,o1_0,o2_0,o3,c3,o4,c4,o5,o6,o7,o8,c8,o9,c9,o10,o11,o12)=>St.mk [(1,.bp 0 []),(2,.bp 1 []),(4,.bp 2 []),(18,.dat (.sl zb3) v18),(19,.dat tI v19),(20,.dat tI v20)] [.bx (.dat zu o0) false,.bx (.fld (.pair tU (.pair (.sl zm) (.pair (.sl (.sl tI)) (.pair (.sl zr) (.pair (.sl zv) (.pair (.sl tI) .unit)))))) [.dat tU o1_0,.ow 3,.ow 4,.ow 5,.ow 6,.ow 7]) false,.bx (.fld (.pair tU (.pair (.sl zm) (.pair (.sl (.sl tI)) (.pair (.sl zr) (.pair (.sl zv) (.pair (.sl tI) .unit)))))) [.dat tU o2_0,.ow 8,.ow 9,.ow 10,.ow 11,.ow 12]) false,.drow zm o3 c3,.drow (.sl tI) o4 c4,.row zr o5 false,.row zv o6 false,.row tI o7 false,.drow zm o8 c8,.drow (.sl tI) o9 c9,.row zr o10 false,.row zv o11 false,.row tI o12 false]
def ztx (k1:zfC→Option (zb × (Int × Unit))):zfC→Option (zb × (Int × Unit)):=fun (v42,v43,o0_0,o1_0,o2,c2,o3,c3,o4,o5,o6,o7,c7,o8,c8,o9,o10,o11) =>
  bif decide (v43 < v42) then bif decide (List.length o11 + List.length (zj (List.replicate 1 (0:Int)) 0 (-1)) ≤ lim) then k1 (v42,wI (v43 + 1),o0_0,o1_0,o2,c2,o3,c3,o4,o5,o6,o7,c7,o8,c8,o9,o10,o11 ++ zj (List.replicate 1 (0:Int)) 0 (-1)) else none else bif decide (c7 = List.length o7) then bif decide (c8 = List.length o8) then some ((o1_0,o7,o8,o9,o10,o11,()),0,()) else none else none
abbrev zms (K:Nat):zfC→Option (zb × (Int × Unit)):=zg ztx K
theorem zEr (K:Nat):∀ n,evV Ed8 K Tryz.f37 3 (ch [zn,tI]) [1,1,1,1,1,0,1,0] [] ztw n = zg ztx n:=zp fun n1 (v42,v43,o0_0,o1_0,o2,c2,o3,c3,o4,o5,o6,o7,c7,o8,c8,o9,o10,o11)=>by kernel_rfl
def zmt (L1:zfC→Option (zb × (Int × Unit))) (k0:zfD→Option (zb × (Int × Unit))):zfD→Option (zb × (Int × Unit)):=fun (v18,v19,v20,o0,o1_0,o2_0,o3,c3,o4,c4,o5,o6,o7,o8,c8,o9,c9,o10,o11,o12) =>
  bif decide (v20 < v19) then inR v20 ((List.length v18):Int) (Option.bind (zsY (o0,ix qe v18 v20,())) fun q2=>bif decide (List.length o8 + List.length [(q2.1.1,q2.1.2.1,q2.1.2.2.1,q2.1.2.2.2.1,q2.1.2.2.2.2.1,q2.1.2.2.2.2.2.1,q2.1.2.2.2.2.2.2.1,q2.1.2.2.2.2.2.2.2.1,q2.1.2.2.2.2.2.2.2.2.1,())] ≤ lim) then bif decide (c8 = List.length o8) then k0 (v18,v19,wI (v20 + 1),o0,o1_0,o2_0,o3,c3,o4,c4,o5,o6,o7,o8 ++ [(q2.1.1,q2.1.2.1,q2.1.2.2.1,q2.1.2.2.2.1,q2.1.2.2.2.2.1,q2.1.2.2.2.2.2.1,q2.1.2.2.2.2.2.2.1,q2.1.2.2.2.2.2.2.2.1,q2.1.2.2.2.2.2.2.2.2.1,())],c8 + (0 + 1),o9,c9,o10,o11,o12) else none else none) else bif decide (0 < ((List.length o8):Int)) then bif decide (c8 ≤ Int.toNat 0) then bif decide (0 < ((List.length (ix za o8 0).1):Int)) then none else none else bif decide (0 < ((List.length (ix za o8 0).1):Int)) then L1 (((List.length o0.2.1):Int),0,o1_0,o2_0,o3,c3,o4,c4,o5,o6,o7,List.set o8 (Int.toNat 0) (List.set (ix za o8 0).1 (Int.toNat 0) (true,ByteArray.mk #[112,108,97,122,97],(ze qk).2.2),(ix za o8 0).2),c8,o9,c9,o10,o11,o12) else none else none
abbrev zty (K:Nat):zfD→Option (zb × (Int × Unit)):=zg (fun k0=>zmt (zms K) k0) K
theorem zEs (K:Nat):∀ n,evV Ed8 K Tryz.f37 3 (ch [zn,tI]) [1,1,1,0,1,0] [] zEq n = zg (fun k0=>zmt (zms K) k0) n:=qB (B:=fun L1 k0=>zmt L1 k0) (V1:=fun n0=>evV Ed8 K Tryz.f37 3 (ch [zn,tI]) [1,1,1,1,1,0,1,0] [] ztw K) (W1:=fun k0=>(zms K)) (fun n0=>zEr K K) fun n0 (v18,v19,v20,o0,o1_0,o2_0,o3,c3,o4,c4,o5,o6,o7,o8,c8,o9,c9,o10,o11,o12)=>by kernel_rfl
def zqo (L0:zfD→Option (zb × (Int × Unit))):(zf × Unit)→Option (zb × (Int × Unit)):=fun (x0,()) =>
  Option.bind (zap (x0,())) fun q0=>bif q0.1 then Option.bind (zAO (x0,())) fun q1=>bif decide (0 ≤ x0.2.2.2.2.2.1) then bif decide (x0.2.2.2.2.2.1 ≤ x0.2.2.2.2.2.1) then bif decide (x0.2.2.2.2.2.1 ≤ (↑lim:Int)) then L0 (x0.2.2.2.2.1,((List.length x0.2.2.2.2.1):Int),0,x0,0,0,[],0,[],0,[],[],[],[],0,q1.1,List.length q1.1,List.replicate (Int.toNat x0.2.2.2.2.2.1) (ze zr),[],[]) else none else none else none else some ((0,[],[],[],[],[],()),1,())
def zxi:(zf × Unit)→Option (zb × Int × Unit):=zqo (zty K0)
abbrev zxj:Fun:=⟨37,(ch [zu]),(ch [zn,tI]),3,zxi⟩
theorem zIL:Sq zxj:=ml8 (d:=true) (S:=fun K=>zqo (zty K)) Tryz.func37 (by kernel_rfl) (fun K=>tr1 (T:=zqo) (zEs K K) fun (x0,())=>by kernel_rfl) rfl
abbrev L9:List Fun:=zrz :: zxg :: zxh :: zxj :: L8
theorem h9:Sds Tryz.prog E0 L9:=⟨zCu,zIJ,zIK,zIL,h8⟩
theorem ml9 {d:Bool} {F:Fun} {f:Go.Func} {S:Nat→F.a.I→Option F.r.I} (hf:Tryz.prog.funcs[F.id]? = some f) (ho:jl f = true) (h:∀ K,evF (En E0 d L9) K f F.md F.a F.r = S K) (e:S K0 = F.spec):Sd Tryz.prog E0 F:=mkS h9 hf ho ((h K0).trans e)
abbrev Es9:Env:=En E0 false L9
abbrev zde:Type:=Bool × Int × Int × List (Option (Unit→Option (Bool × Unit)))
abbrev zAQ:zde→St:=fun (v6,v27,v28,o0)=>St.mk [(6,.dat .bool v6),(26,.ow 0),(27,.dat tI v27),(28,.dat tI v28)] [.row (.fn .unit (.pair .bool .unit)) o0 false]
def zge (k0:zde→Option (Bool × Unit)):zde→Option (Bool × Unit):=fun (v6,v27,v28,o0) =>
  bif decide (v28 < v27) then inR v28 ((List.length o0):Int) (Option.bind (List.getD o0 (Int.toNat v28) (ze (.fn .unit (.pair .bool .unit)))) fun q0=>Option.bind (q0 ()) fun q1=>bif q1.1 then k0 (true,v27,wI (v28 + 1),o0) else some (false,())) else some (v6,())
abbrev zpK (K:Nat):zde→Option (Bool × Unit):=zg zge K
theorem zAR (K:Nat):∀ n,evV Es9 K Tryz.f38 0 (ch [.bool]) [1,0,1,1,1,0,1,0] [] zAQ n = zg zge n:=zp fun n0 (v6,v27,v28,o0)=>by kernel_rfl
def zmu (L0:zde→Option (Bool × Unit)):(zf × (zb × Unit))→Option (Bool × Unit):=fun (x0,x1,()) =>
  L0 (true,((List.length (zj (zj (zj (zj (zj (zj (zj (List.replicate 7 (ze (.fn .unit (.pair .bool .unit)))) 0 (some fun z=>zbQ ((x0,x1,(ze qo).2.2),()))) 1 (some fun z=>zbR ((x0,x1,(ze qo).2.2),()))) 2 (some fun z=>zaY ((x0,x1,(ze qo).2.2),()))) 3 (some fun z=>zfx ((x0,x1,(ze qo).2.2),()))) 4 (some fun z=>zaW ((x0,x1,(ze qo).2.2),()))) 5 (some fun z=>zfw ((x0,x1,(ze qo).2.2),()))) 6 (some fun z=>zfB ((x0,x1,(ze qo).2.2),())))):Int),0,[some fun z=>zbQ ((x0,x1,(ze qo).2.2),()),some fun z=>zbR ((x0,x1,(ze qo).2.2),()),some fun z=>zaY ((x0,x1,(ze qo).2.2),()),some fun z=>zfx ((x0,x1,(ze qo).2.2),()),some fun z=>zaW ((x0,x1,(ze qo).2.2),()),some fun z=>zfw ((x0,x1,(ze qo).2.2),()),some fun z=>zfB ((x0,x1,(ze qo).2.2),())])
def ziB:(zf × zb × Unit)→Option (Bool × Unit):=zmu (zpK K0)
abbrev ztz:Fun:=⟨38,(ch [zu,zn]),(ch [.bool]),0,ziB⟩
theorem zEt:Sq ztz:=ml9 (d:=false) (S:=fun K=>zmu (zpK K)) Tryz.func38 (by kernel_rfl) (fun K=>tr1 (T:=zmu) (zAR K K) fun (x0,x1,())=>by kernel_rfl) rfl
abbrev L10:List Fun:=ztz :: L9
theorem h10:Sds Tryz.prog E0 L10:=⟨zEt,h9⟩
theorem zOi {d:Bool} {F:Fun} {f:Go.Func} {K:Nat} (hf:Tryz.prog.funcs[F.id]? = some f) (ho:jl f = true) (h:evF (En E0 d L10) K f F.md F.a F.r = F.spec):Sd Tryz.prog E0 F:=mkS h10 hf ho h
def zeH:(zf × (zb × (pMe × Unit)))→Option (Bool × Unit):=fun (x0,x1,x2,()) =>
  Option.bind (ziB (x0,x1,())) fun q0=>bif q0.1 then bif decide (x2.1 ≥ 0) then bif decide (x2.1 < ((List.length x0.2.1):Int)) then inR x2.1 ((List.length x0.2.1):Int) (bif x2.2.1 == ix (0:Int) x0.2.1 x2.1 then bif decide (x2.2.2.1 ≥ 0) then bif decide (x2.2.2.1 < ((List.length x0.2.2.1):Int)) then some (true,()) else some (false,()) else some (false,()) else some (false,())) else some (false,()) else some (false,()) else some (false,())
abbrev zvC:Fun:=⟨52,(ch [zu,zn,tMe]),(ch [.bool]),0,zeH⟩
theorem zGW:Sq zvC:=zOi (d:=false) (K:=0) Tryz.func52 (by kernel_rfl) (funext fun (x0,x1,x2,())=>by kernel_rfl)
abbrev L11:List Fun:=zvC :: L10
theorem h11:Sds Tryz.prog E0 L11:=⟨zGW,h10⟩
theorem zOj {d:Bool} {F:Fun} {f:Go.Func} {K:Nat} (hf:Tryz.prog.funcs[F.id]? = some f) (ho:jl f = true) (h:evF (En E0 d L11) K f F.md F.a F.r = F.spec):Sd Tryz.prog E0 F:=mkS h11 hf ho h
theorem zOk {d:Bool} {js:List Nat} {fs:List (Nat × Go.Func)} {n:Nat} {F:Fun} {f:Go.Func} {K:Nat} (hfs:FOk Tryz.prog fs) (hf:Tryz.prog.funcs[F.id]? = some f) (ho:jl f = true) (h:evF ((Ej E0 d js L11).inl fs n) K f F.md F.a F.r = F.spec):Sd Tryz.prog E0 F:=Sd.mkI zFc h11 hfs hf ho h
def zdC:(zf × (zb × (pMe × (Int × (Int × Unit)))))→Option (Bool × Unit):=fun (x0,x1,x2,x3,x4,()) =>
  Option.bind (zeH (x0,x1,x2,())) fun q0=>bif q0.1 then Option.bind (qU (x3,())) fun q1=>bif q1.1 then bif decide (x4 > 0) then some (true,()) else some (false,()) else some (false,()) else some (false,())
abbrev zxk:Fun:=⟨88,(ch [zu,zn,tMe,tI,tU]),(ch [.bool]),0,zdC⟩
theorem zIM:Sq zxk:=zOj (d:=false) (K:=0) Tryz.func88 (by kernel_rfl) (funext fun (x0,x1,x2,x3,x4,())=>by kernel_rfl)
def yj:(zf × (zb × (pMe × Unit)))→Option ((List Int) × (Int × Unit)):=fun (x0,x1,x2,()) =>
  Option.bind (zeH (x0,x1,x2,())) fun q0=>bif q0.1 then inR x2.2.1 ((List.length x1.2.1):Int) (inR x2.2.2.1 ((List.length (ix za x1.2.1 x2.2.1).2.2.2.2.2.1):Int) (some (List.getD (ix za x1.2.1 x2.2.1).2.2.2.2.2.1 (Int.toNat x2.2.2.1) (ze (.arr 4 tU)),0,()))) else some ([0,0,0,0],1,())
abbrev ztA:Fun:=⟨11,(ch [zu,zn,tMe]),(ch [(.arr 4 tU),tI]),0,yj⟩
theorem zEu:Sq ztA:=zOk (d:=false) (js:=[]) (fs:=[(53,Tryz.f53)]) (n:=1) ⟨⟨Tryz.func53,by kernel_rfl⟩,trivial⟩ (K:=0) Tryz.func11 (by kernel_rfl) (funext fun (x0,x1,x2,())=>by kernel_rfl)
abbrev L12:List Fun:=zxk :: ztA :: L11
theorem h12:Sds Tryz.prog E0 L12:=⟨zIM,zEu,h11⟩
end
end Go.Proofs.YtlklokhlgcfcdaaGreatDoor
end
section
namespace Go.Proofs.YtlklokhlgcfcdaaGreatDoor
open Go.Ev
noncomputable section
theorem zKB {d:Bool} {js:List Nat} {fs:List (Nat × Go.Func)} {n:Nat} {F:Fun} {f:Go.Func} {K:Nat} (hfs:FOk Tryz.prog fs) (hf:Tryz.prog.funcs[F.id]? = some f) (ho:jl f = true) (h:evF ((Ej E0 d js L12).inl fs n) K f F.md F.a F.r = F.spec):Sd Tryz.prog E0 F:=Sd.mkI zFc h12 hfs hf ho h
def y7:(zf × (zb × (pMe × (Int × (Int × Unit)))))→Option (zb × (Int × Unit)):=fun (x0,x1,x2,x3,x4,()) =>
  Option.bind (zdC (x0,x1,x2,x3,x4,())) fun q0=>bif q0.1 then inR x2.2.1 ((List.length x0.2.2.2.2.1):Int) (inR x2.2.1 ((List.length x1.2.1):Int) (inR x3 (↑4:Int) (inR x2.2.2.1 ((List.length x0.2.2.1):Int) (bif (ix qn x0.2.2.1 x2.2.2.1).2.2.2.1 then bif decide (x4 ≤ wU ((ix qe x0.2.2.2.2.1 x2.2.1).2.2.2.2.2.1 - List.getD (ix za x1.2.1 x2.2.1).2.2.2.2.2.2.2.1 (Int.toNat x3) (0:Int))) then Option.bind (qA (x1,())) fun q1=>inR x2.2.1 ((List.length q1.1.2.1):Int) (inR x3 (↑4:Int) (inR x2.2.1 ((List.length q1.1.2.1):Int) (inR x3 (↑4:Int) (inR x2.2.1 ((List.length (List.set q1.1.2.1 (Int.toNat x2.2.1) (u7 (ix za q1.1.2.1 x2.2.1) (List.set (ix za q1.1.2.1 x2.2.1).2.2.2.2.2.2.2.1 (Int.toNat x3) (wU (List.getD (ix za q1.1.2.1 x2.2.1).2.2.2.2.2.2.2.1 (Int.toNat x3) (0:Int) + x4)))))):Int) (bif decide (List.length q1.1.2.1 ≤ Int.toNat x2.2.1) then none else inR x2.2.2.1 ((List.length (List.getD (List.set q1.1.2.1 (Int.toNat x2.2.1) (u7 (ix za q1.1.2.1 x2.2.1) (List.set (ix za q1.1.2.1 x2.2.1).2.2.2.2.2.2.2.1 (Int.toNat x3) (wU (List.getD (ix za q1.1.2.1 x2.2.1).2.2.2.2.2.2.2.1 (Int.toNat x3) (0:Int) + x4))))) (Int.toNat x2.2.1) (ze zm)).2.2.2.2.2.1):Int) (Option.bind (zdz (List.getD (List.getD (List.set q1.1.2.1 (Int.toNat x2.2.1) (u7 (ix za q1.1.2.1 x2.2.1) (List.set (ix za q1.1.2.1 x2.2.1).2.2.2.2.2.2.2.1 (Int.toNat x3) (wU (List.getD (ix za q1.1.2.1 x2.2.1).2.2.2.2.2.2.2.1 (Int.toNat x3) (0:Int) + x4))))) (Int.toNat x2.2.1) (ze zm)).2.2.2.2.2.1 (Int.toNat x2.2.2.1) (ze (.arr 4 tU)),x3,x4,())) fun q2=>inR x2.2.1 ((List.length (List.set q1.1.2.1 (Int.toNat x2.2.1) (u7 (ix za q1.1.2.1 x2.2.1) (List.set (ix za q1.1.2.1 x2.2.1).2.2.2.2.2.2.2.1 (Int.toNat x3) (wU (List.getD (ix za q1.1.2.1 x2.2.1).2.2.2.2.2.2.2.1 (Int.toNat x3) (0:Int) + x4)))))):Int) (bif decide (List.length q1.1.2.1 ≤ Int.toNat x2.2.1) then none else inR x2.2.2.1 ((List.length (List.getD (List.set q1.1.2.1 (Int.toNat x2.2.1) (u7 (ix za q1.1.2.1 x2.2.1) (List.set (ix za q1.1.2.1 x2.2.1).2.2.2.2.2.2.2.1 (Int.toNat x3) (wU (List.getD (ix za q1.1.2.1 x2.2.1).2.2.2.2.2.2.2.1 (Int.toNat x3) (0:Int) + x4))))) (Int.toNat x2.2.1) (ze zm)).2.2.2.2.2.1):Int) (bif q2.2.1 != 0 then some ((0,[],[],[],[],[],()),q2.2.1,()) else bif decide (List.length q1.1.2.1 = List.length (List.set (List.set q1.1.2.1 (Int.toNat x2.2.1) (u7 (ix za q1.1.2.1 x2.2.1) (List.set (ix za q1.1.2.1 x2.2.1).2.2.2.2.2.2.2.1 (Int.toNat x3) (wU (List.getD (ix za q1.1.2.1 x2.2.1).2.2.2.2.2.2.2.1 (Int.toNat x3) (0:Int) + x4))))) (Int.toNat x2.2.1) (u5 (List.getD (List.set q1.1.2.1 (Int.toNat x2.2.1) (u7 (ix za q1.1.2.1 x2.2.1) (List.set (ix za q1.1.2.1 x2.2.1).2.2.2.2.2.2.2.1 (Int.toNat x3) (wU (List.getD (ix za q1.1.2.1 x2.2.1).2.2.2.2.2.2.2.1 (Int.toNat x3) (0:Int) + x4))))) (Int.toNat x2.2.1) (ze zm)) (List.set (List.getD (List.set q1.1.2.1 (Int.toNat x2.2.1) (u7 (ix za q1.1.2.1 x2.2.1) (List.set (ix za q1.1.2.1 x2.2.1).2.2.2.2.2.2.2.1 (Int.toNat x3) (wU (List.getD (ix za q1.1.2.1 x2.2.1).2.2.2.2.2.2.2.1 (Int.toNat x3) (0:Int) + x4))))) (Int.toNat x2.2.1) (ze zm)).2.2.2.2.2.1 (Int.toNat x2.2.2.1) q2.1)))) then bif decide (List.length q1.1.2.2.1 = List.length q1.1.2.2.1) then some ((u1 q1.1 (List.set (List.set q1.1.2.1 (Int.toNat x2.2.1) (u7 (ix za q1.1.2.1 x2.2.1) (List.set (ix za q1.1.2.1 x2.2.1).2.2.2.2.2.2.2.1 (Int.toNat x3) (wU (List.getD (ix za q1.1.2.1 x2.2.1).2.2.2.2.2.2.2.1 (Int.toNat x3) (0:Int) + x4))))) (Int.toNat x2.2.1) (u5 (List.getD (List.set q1.1.2.1 (Int.toNat x2.2.1) (u7 (ix za q1.1.2.1 x2.2.1) (List.set (ix za q1.1.2.1 x2.2.1).2.2.2.2.2.2.2.1 (Int.toNat x3) (wU (List.getD (ix za q1.1.2.1 x2.2.1).2.2.2.2.2.2.2.1 (Int.toNat x3) (0:Int) + x4))))) (Int.toNat x2.2.1) (ze zm)) (List.set (List.getD (List.set q1.1.2.1 (Int.toNat x2.2.1) (u7 (ix za q1.1.2.1 x2.2.1) (List.set (ix za q1.1.2.1 x2.2.1).2.2.2.2.2.2.2.1 (Int.toNat x3) (wU (List.getD (ix za q1.1.2.1 x2.2.1).2.2.2.2.2.2.2.1 (Int.toNat x3) (0:Int) + x4))))) (Int.toNat x2.2.1) (ze zm)).2.2.2.2.2.1 (Int.toNat x2.2.2.1) q2.1)))),0,()) else none else none)))))))) else Option.bind (qA (x1,())) fun q3=>some ((0,[],[],[],[],[],()),8,()) else bif decide (x4 ≤ wU ((ix qe x0.2.2.2.2.1 x2.2.1).2.2.2.2.2.1 - List.getD (ix za x1.2.1 x2.2.1).2.2.2.2.2.2.2.1 (Int.toNat x3) (0:Int))) then Option.bind (qA (x1,())) fun q4=>some ((0,[],[],[],[],[],()),5,()) else Option.bind (qA (x1,())) fun q5=>some ((0,[],[],[],[],[],()),5,()))))) else some ((0,[],[],[],[],[],()),1,())
abbrev zvD:Fun:=⟨43,(ch [zu,zn,tMe,tI,tU]),(ch [zn,tI]),3,y7⟩
theorem zGX:Sq zvD:=zKB (d:=true) (js:=[999999]) (fs:=[(90,Tryz.f90),(91,Tryz.f91),(92,Tryz.f92),(89,Tryz.f89),(153,Tryz.f153),(154,Tryz.f154),(53,Tryz.f53)]) (n:=3) ⟨⟨Tryz.func90,by kernel_rfl⟩,⟨Tryz.func91,by kernel_rfl⟩,⟨Tryz.func92,by kernel_rfl⟩,⟨Tryz.func89,by kernel_rfl⟩,⟨Tryz.func153,by kernel_rfl⟩,⟨Tryz.func154,by kernel_rfl⟩,⟨Tryz.func53,by kernel_rfl⟩,trivial⟩ (K:=0) Tryz.func43 (by kernel_rfl) (funext fun (x0,x1,x2,x3,x4,())=>by kernel_rfl)
def zbv:(zf × (zb × (pMe × (Int × (Int × Unit)))))→Option (zb × (Int × Unit)):=fun (x0,x1,x2,x3,x4,()) =>
  Option.bind (zdC (x0,x1,x2,x3,x4,())) fun q0=>bif q0.1 then Option.bind (qA (x1,())) fun q1=>inR x2.2.1 ((List.length q1.1.2.1):Int) (bif decide (List.length q1.1.2.1 ≤ Int.toNat x2.2.1) then none else inR x2.2.2.1 ((List.length (ix za q1.1.2.1 x2.2.1).2.2.2.2.2.1):Int) (Option.bind (zdA (List.getD (ix za q1.1.2.1 x2.2.1).2.2.2.2.2.1 (Int.toNat x2.2.2.1) (ze (.arr 4 tU)),x3,x4,())) fun q2=>inR x2.2.1 ((List.length q1.1.2.1):Int) (bif decide (List.length q1.1.2.1 ≤ Int.toNat x2.2.1) then none else inR x2.2.2.1 ((List.length (ix za q1.1.2.1 x2.2.1).2.2.2.2.2.1):Int) (bif q2.2.1 != 0 then some ((0,[],[],[],[],[],()),q2.2.1,()) else inR x2.2.1 ((List.length (List.set q1.1.2.1 (Int.toNat x2.2.1) (u5 (ix za q1.1.2.1 x2.2.1) (List.set (ix za q1.1.2.1 x2.2.1).2.2.2.2.2.1 (Int.toNat x2.2.2.1) q2.1)))):Int) (inR x3 (↑4:Int) (inR x2.2.1 ((List.length (List.set q1.1.2.1 (Int.toNat x2.2.1) (u5 (ix za q1.1.2.1 x2.2.1) (List.set (ix za q1.1.2.1 x2.2.1).2.2.2.2.2.1 (Int.toNat x2.2.2.1) q2.1)))):Int) (inR x3 (↑4:Int) (bif decide (List.length q1.1.2.1 = List.length (List.set (List.set q1.1.2.1 (Int.toNat x2.2.1) (u5 (ix za q1.1.2.1 x2.2.1) (List.set (ix za q1.1.2.1 x2.2.1).2.2.2.2.2.1 (Int.toNat x2.2.2.1) q2.1))) (Int.toNat x2.2.1) (u8 (List.getD (List.set q1.1.2.1 (Int.toNat x2.2.1) (u5 (ix za q1.1.2.1 x2.2.1) (List.set (ix za q1.1.2.1 x2.2.1).2.2.2.2.2.1 (Int.toNat x2.2.2.1) q2.1))) (Int.toNat x2.2.1) (ze zm)) (List.set (List.getD (List.set q1.1.2.1 (Int.toNat x2.2.1) (u5 (ix za q1.1.2.1 x2.2.1) (List.set (ix za q1.1.2.1 x2.2.1).2.2.2.2.2.1 (Int.toNat x2.2.2.1) q2.1))) (Int.toNat x2.2.1) (ze zm)).2.2.2.2.2.2.2.2.1 (Int.toNat x3) (wU (List.getD (List.getD (List.set q1.1.2.1 (Int.toNat x2.2.1) (u5 (ix za q1.1.2.1 x2.2.1) (List.set (ix za q1.1.2.1 x2.2.1).2.2.2.2.2.1 (Int.toNat x2.2.2.1) q2.1))) (Int.toNat x2.2.1) (ze zm)).2.2.2.2.2.2.2.2.1 (Int.toNat x3) (0:Int) + x4)))))) then bif decide (List.length q1.1.2.2.1 = List.length q1.1.2.2.1) then some ((u1 q1.1 (List.set (List.set q1.1.2.1 (Int.toNat x2.2.1) (u5 (ix za q1.1.2.1 x2.2.1) (List.set (ix za q1.1.2.1 x2.2.1).2.2.2.2.2.1 (Int.toNat x2.2.2.1) q2.1))) (Int.toNat x2.2.1) (u8 (List.getD (List.set q1.1.2.1 (Int.toNat x2.2.1) (u5 (ix za q1.1.2.1 x2.2.1) (List.set (ix za q1.1.2.1 x2.2.1).2.2.2.2.2.1 (Int.toNat x2.2.2.1) q2.1))) (Int.toNat x2.2.1) (ze zm)) (List.set (List.getD (List.set q1.1.2.1 (Int.toNat x2.2.1) (u5 (ix za q1.1.2.1 x2.2.1) (List.set (ix za q1.1.2.1 x2.2.1).2.2.2.2.2.1 (Int.toNat x2.2.2.1) q2.1))) (Int.toNat x2.2.1) (ze zm)).2.2.2.2.2.2.2.2.1 (Int.toNat x3) (wU (List.getD (List.getD (List.set q1.1.2.1 (Int.toNat x2.2.1) (u5 (ix za q1.1.2.1 x2.2.1) (List.set (ix za q1.1.2.1 x2.2.1).2.2.2.2.2.1 (Int.toNat x2.2.2.1) q2.1))) (Int.toNat x2.2.1) (ze zm)).2.2.2.2.2.2.2.2.1 (Int.toNat x3) (0:Int) + x4)))))),0,()) else none else none)))))))) else some ((0,[],[],[],[],[],()),1,())
abbrev zvE:Fun:=⟨44,(ch [zu,zn,tMe,tI,tU]),(ch [zn,tI]),3,zbv⟩
theorem zGY:Sq zvE:=zKB (d:=true) (js:=[999999]) (fs:=[(90,Tryz.f90),(94,Tryz.f94),(93,Tryz.f93),(156,Tryz.f156),(53,Tryz.f53)]) (n:=3) ⟨⟨Tryz.func90,by kernel_rfl⟩,⟨Tryz.func94,by kernel_rfl⟩,⟨Tryz.func93,by kernel_rfl⟩,⟨Tryz.func156,by kernel_rfl⟩,⟨Tryz.func53,by kernel_rfl⟩,trivial⟩ (K:=0) Tryz.func44 (by kernel_rfl) (funext fun (x0,x1,x2,x3,x4,())=>by kernel_rfl)
def zdD:(zf × (zb × (pMe × (Int × (Int × (Int × Unit))))))→Option (zb × (Int × Unit)):=fun (x0,x1,x2,x3,x4,x5,()) =>
  Option.bind (zdC (x0,x1,x2,x4,x5,())) fun q0=>bif q0.1 then bif x3 == x2.2.2.1 then some ((0,[],[],[],[],[],()),1,()) else Option.bind (zeH (x0,x1,(x2.1,x2.2.1,x3,(ze tMe).2.2.2),())) fun q1=>bif q1.1 then Option.bind (qA (x1,())) fun q2=>inR x2.2.1 ((List.length q2.1.2.1):Int) (bif decide (List.length q2.1.2.1 ≤ Int.toNat x2.2.1) then none else inR x2.2.2.1 ((List.length (ix za q2.1.2.1 x2.2.1).2.2.2.2.2.1):Int) (Option.bind (zdA (List.getD (ix za q2.1.2.1 x2.2.1).2.2.2.2.2.1 (Int.toNat x2.2.2.1) (ze (.arr 4 tU)),x4,x5,())) fun q3=>inR x2.2.1 ((List.length q2.1.2.1):Int) (bif decide (List.length q2.1.2.1 ≤ Int.toNat x2.2.1) then none else inR x2.2.2.1 ((List.length (ix za q2.1.2.1 x2.2.1).2.2.2.2.2.1):Int) (bif q3.2.1 != 0 then some ((0,[],[],[],[],[],()),q3.2.1,()) else inR x2.2.1 ((List.length (List.set q2.1.2.1 (Int.toNat x2.2.1) (u5 (ix za q2.1.2.1 x2.2.1) (List.set (ix za q2.1.2.1 x2.2.1).2.2.2.2.2.1 (Int.toNat x2.2.2.1) q3.1)))):Int) (bif decide (List.length q2.1.2.1 ≤ Int.toNat x2.2.1) then none else inR x3 ((List.length (List.getD (List.set q2.1.2.1 (Int.toNat x2.2.1) (u5 (ix za q2.1.2.1 x2.2.1) (List.set (ix za q2.1.2.1 x2.2.1).2.2.2.2.2.1 (Int.toNat x2.2.2.1) q3.1))) (Int.toNat x2.2.1) (ze zm)).2.2.2.2.2.1):Int) (Option.bind (zdz (List.getD (List.getD (List.set q2.1.2.1 (Int.toNat x2.2.1) (u5 (ix za q2.1.2.1 x2.2.1) (List.set (ix za q2.1.2.1 x2.2.1).2.2.2.2.2.1 (Int.toNat x2.2.2.1) q3.1))) (Int.toNat x2.2.1) (ze zm)).2.2.2.2.2.1 (Int.toNat x3) (ze (.arr 4 tU)),x4,x5,())) fun q4=>inR x2.2.1 ((List.length (List.set q2.1.2.1 (Int.toNat x2.2.1) (u5 (ix za q2.1.2.1 x2.2.1) (List.set (ix za q2.1.2.1 x2.2.1).2.2.2.2.2.1 (Int.toNat x2.2.2.1) q3.1)))):Int) (bif decide (List.length q2.1.2.1 ≤ Int.toNat x2.2.1) then none else inR x3 ((List.length (List.getD (List.set q2.1.2.1 (Int.toNat x2.2.1) (u5 (ix za q2.1.2.1 x2.2.1) (List.set (ix za q2.1.2.1 x2.2.1).2.2.2.2.2.1 (Int.toNat x2.2.2.1) q3.1))) (Int.toNat x2.2.1) (ze zm)).2.2.2.2.2.1):Int) (bif q4.2.1 != 0 then some ((0,[],[],[],[],[],()),q4.2.1,()) else bif decide (List.length q2.1.2.1 = List.length (List.set (List.set q2.1.2.1 (Int.toNat x2.2.1) (u5 (ix za q2.1.2.1 x2.2.1) (List.set (ix za q2.1.2.1 x2.2.1).2.2.2.2.2.1 (Int.toNat x2.2.2.1) q3.1))) (Int.toNat x2.2.1) (u5 (List.getD (List.set q2.1.2.1 (Int.toNat x2.2.1) (u5 (ix za q2.1.2.1 x2.2.1) (List.set (ix za q2.1.2.1 x2.2.1).2.2.2.2.2.1 (Int.toNat x2.2.2.1) q3.1))) (Int.toNat x2.2.1) (ze zm)) (List.set (List.getD (List.set q2.1.2.1 (Int.toNat x2.2.1) (u5 (ix za q2.1.2.1 x2.2.1) (List.set (ix za q2.1.2.1 x2.2.1).2.2.2.2.2.1 (Int.toNat x2.2.2.1) q3.1))) (Int.toNat x2.2.1) (ze zm)).2.2.2.2.2.1 (Int.toNat x3) q4.1)))) then bif decide (List.length q2.1.2.2.1 = List.length q2.1.2.2.1) then some ((u1 q2.1 (List.set (List.set q2.1.2.1 (Int.toNat x2.2.1) (u5 (ix za q2.1.2.1 x2.2.1) (List.set (ix za q2.1.2.1 x2.2.1).2.2.2.2.2.1 (Int.toNat x2.2.2.1) q3.1))) (Int.toNat x2.2.1) (u5 (List.getD (List.set q2.1.2.1 (Int.toNat x2.2.1) (u5 (ix za q2.1.2.1 x2.2.1) (List.set (ix za q2.1.2.1 x2.2.1).2.2.2.2.2.1 (Int.toNat x2.2.2.1) q3.1))) (Int.toNat x2.2.1) (ze zm)) (List.set (List.getD (List.set q2.1.2.1 (Int.toNat x2.2.1) (u5 (ix za q2.1.2.1 x2.2.1) (List.set (ix za q2.1.2.1 x2.2.1).2.2.2.2.2.1 (Int.toNat x2.2.2.1) q3.1))) (Int.toNat x2.2.1) (ze zm)).2.2.2.2.2.1 (Int.toNat x3) q4.1)))),0,()) else none else none)))))))) else some ((0,[],[],[],[],[],()),1,()) else some ((0,[],[],[],[],[],()),1,())
abbrev zxl:Fun:=⟨45,(ch [zu,zn,tMe,tI,tI,tU]),(ch [zn,tI]),3,zdD⟩
theorem zIN:Sq zxl:=zKB (d:=true) (js:=[999999]) (fs:=[(90,Tryz.f90),(94,Tryz.f94),(92,Tryz.f92),(156,Tryz.f156),(154,Tryz.f154),(53,Tryz.f53)]) (n:=3) ⟨⟨Tryz.func90,by kernel_rfl⟩,⟨Tryz.func94,by kernel_rfl⟩,⟨Tryz.func92,by kernel_rfl⟩,⟨Tryz.func156,by kernel_rfl⟩,⟨Tryz.func154,by kernel_rfl⟩,⟨Tryz.func53,by kernel_rfl⟩,trivial⟩ (K:=0) Tryz.func45 (by kernel_rfl) (funext fun (x0,x1,x2,x3,x4,x5,())=>by kernel_rfl)
def zbw:(zf × (zb × (pMe × (Int × (Int × (Int × (Int × Unit)))))))→Option (zb × (Int × Unit)):=fun (x0,x1,x2,x3,x4,x5,x6,()) =>
  Option.bind (zdC (x0,x1,x2,x5,x6,())) fun q0=>bif q0.1 then bif decide (x3 < 0) then some ((0,[],[],[],[],[],()),1,()) else bif decide (x3 ≥ ((List.length x0.1):Int)) then some ((0,[],[],[],[],[],()),1,()) else bif decide (x4 < 0) then some ((0,[],[],[],[],[],()),1,()) else bif decide (x4 ≥ ((List.length x0.2.2.1):Int)) then some ((0,[],[],[],[],[],()),1,()) else bif x3 != x2.2.1 then Option.bind (zlB (x0,x2.2.1,x3,())) fun q1=>bif q1.1 then Option.bind (qA (x1,())) fun q2=>inR x2.2.1 ((List.length q2.1.2.1):Int) (bif decide (List.length q2.1.2.1 ≤ Int.toNat x2.2.1) then none else inR x2.2.2.1 ((List.length (ix za q2.1.2.1 x2.2.1).2.2.2.2.2.1):Int) (Option.bind (zdA (List.getD (ix za q2.1.2.1 x2.2.1).2.2.2.2.2.1 (Int.toNat x2.2.2.1) (ze (.arr 4 tU)),x5,x6,())) fun q3=>inR x2.2.1 ((List.length q2.1.2.1):Int) (bif decide (List.length q2.1.2.1 ≤ Int.toNat x2.2.1) then none else inR x2.2.2.1 ((List.length (ix za q2.1.2.1 x2.2.1).2.2.2.2.2.1):Int) (bif q3.2.1 != 0 then some ((0,[],[],[],[],[],()),q3.2.1,()) else inR x3 ((List.length (List.set q2.1.2.1 (Int.toNat x2.2.1) (u5 (ix za q2.1.2.1 x2.2.1) (List.set (ix za q2.1.2.1 x2.2.1).2.2.2.2.2.1 (Int.toNat x2.2.2.1) q3.1)))):Int) (bif decide (List.length q2.1.2.1 ≤ Int.toNat x3) then none else inR x4 ((List.length (List.getD (List.set q2.1.2.1 (Int.toNat x2.2.1) (u5 (ix za q2.1.2.1 x2.2.1) (List.set (ix za q2.1.2.1 x2.2.1).2.2.2.2.2.1 (Int.toNat x2.2.2.1) q3.1))) (Int.toNat x3) (ze zm)).2.2.2.2.2.1):Int) (Option.bind (zdz (List.getD (List.getD (List.set q2.1.2.1 (Int.toNat x2.2.1) (u5 (ix za q2.1.2.1 x2.2.1) (List.set (ix za q2.1.2.1 x2.2.1).2.2.2.2.2.1 (Int.toNat x2.2.2.1) q3.1))) (Int.toNat x3) (ze zm)).2.2.2.2.2.1 (Int.toNat x4) (ze (.arr 4 tU)),x5,x6,())) fun q4=>inR x3 ((List.length (List.set q2.1.2.1 (Int.toNat x2.2.1) (u5 (ix za q2.1.2.1 x2.2.1) (List.set (ix za q2.1.2.1 x2.2.1).2.2.2.2.2.1 (Int.toNat x2.2.2.1) q3.1)))):Int) (bif decide (List.length q2.1.2.1 ≤ Int.toNat x3) then none else inR x4 ((List.length (List.getD (List.set q2.1.2.1 (Int.toNat x2.2.1) (u5 (ix za q2.1.2.1 x2.2.1) (List.set (ix za q2.1.2.1 x2.2.1).2.2.2.2.2.1 (Int.toNat x2.2.2.1) q3.1))) (Int.toNat x3) (ze zm)).2.2.2.2.2.1):Int) (bif q4.2.1 != 0 then some ((0,[],[],[],[],[],()),q4.2.1,()) else bif decide (List.length q2.1.2.1 = List.length (List.set (List.set q2.1.2.1 (Int.toNat x2.2.1) (u5 (ix za q2.1.2.1 x2.2.1) (List.set (ix za q2.1.2.1 x2.2.1).2.2.2.2.2.1 (Int.toNat x2.2.2.1) q3.1))) (Int.toNat x3) (u5 (List.getD (List.set q2.1.2.1 (Int.toNat x2.2.1) (u5 (ix za q2.1.2.1 x2.2.1) (List.set (ix za q2.1.2.1 x2.2.1).2.2.2.2.2.1 (Int.toNat x2.2.2.1) q3.1))) (Int.toNat x3) (ze zm)) (List.set (List.getD (List.set q2.1.2.1 (Int.toNat x2.2.1) (u5 (ix za q2.1.2.1 x2.2.1) (List.set (ix za q2.1.2.1 x2.2.1).2.2.2.2.2.1 (Int.toNat x2.2.2.1) q3.1))) (Int.toNat x3) (ze zm)).2.2.2.2.2.1 (Int.toNat x4) q4.1)))) then bif decide (List.length q2.1.2.2.1 = List.length q2.1.2.2.1) then some ((u1 q2.1 (List.set (List.set q2.1.2.1 (Int.toNat x2.2.1) (u5 (ix za q2.1.2.1 x2.2.1) (List.set (ix za q2.1.2.1 x2.2.1).2.2.2.2.2.1 (Int.toNat x2.2.2.1) q3.1))) (Int.toNat x3) (u5 (List.getD (List.set q2.1.2.1 (Int.toNat x2.2.1) (u5 (ix za q2.1.2.1 x2.2.1) (List.set (ix za q2.1.2.1 x2.2.1).2.2.2.2.2.1 (Int.toNat x2.2.2.1) q3.1))) (Int.toNat x3) (ze zm)) (List.set (List.getD (List.set q2.1.2.1 (Int.toNat x2.2.1) (u5 (ix za q2.1.2.1 x2.2.1) (List.set (ix za q2.1.2.1 x2.2.1).2.2.2.2.2.1 (Int.toNat x2.2.2.1) q3.1))) (Int.toNat x3) (ze zm)).2.2.2.2.2.1 (Int.toNat x4) q4.1)))),0,()) else none else none)))))))) else Option.bind (qA (x1,())) fun q5=>some ((0,[],[],[],[],[],()),5,()) else Option.bind (qA (x1,())) fun q6=>some ((0,[],[],[],[],[],()),5,()) else some ((0,[],[],[],[],[],()),1,())
abbrev zvF:Fun:=⟨46,(ch [zu,zn,tMe,tI,tI,tI,tU]),(ch [zn,tI]),3,zbw⟩
theorem zGZ:Sq zvF:=zKB (d:=true) (js:=[999999]) (fs:=[(90,Tryz.f90),(91,Tryz.f91),(94,Tryz.f94),(92,Tryz.f92),(153,Tryz.f153),(156,Tryz.f156),(154,Tryz.f154),(53,Tryz.f53)]) (n:=3) ⟨⟨Tryz.func90,by kernel_rfl⟩,⟨Tryz.func91,by kernel_rfl⟩,⟨Tryz.func94,by kernel_rfl⟩,⟨Tryz.func92,by kernel_rfl⟩,⟨Tryz.func153,by kernel_rfl⟩,⟨Tryz.func156,by kernel_rfl⟩,⟨Tryz.func154,by kernel_rfl⟩,⟨Tryz.func53,by kernel_rfl⟩,trivial⟩ (K:=0) Tryz.func46 (by kernel_rfl) (funext fun (x0,x1,x2,x3,x4,x5,x6,())=>by kernel_rfl)
abbrev L13:List Fun:=zvD :: zvE :: zxl :: zvF :: L12
theorem h13:Sds Tryz.prog E0 L13:=⟨zGX,zGY,zIN,zGZ,h12⟩
theorem zNQ {d:Bool} {F:Fun} {f:Go.Func} {K:Nat} (hf:Tryz.prog.funcs[F.id]? = some f) (ho:jl f = true) (h:evF (En E0 d L13) K f F.md F.a F.r = F.spec):Sd Tryz.prog E0 F:=mkS h13 hf ho h
def zfj:(zf × (zb × (pMe × (zav × Unit))))→Option (zb × (Int × Unit)):=fun (x0,x1,x2,x3,()) =>
  bif x3.1 == 1 then Option.bind (y7 (x0,x1,x2,x3.2.2.2.1,x3.2.2.2.2.1,())) fun q0=>some q0 else bif x3.1 == 2 then Option.bind (zbv (x0,x1,x2,x3.2.2.2.1,x3.2.2.2.2.1,())) fun q1=>some q1 else bif x3.1 == 3 then Option.bind (zdD (x0,x1,x2,x3.2.2.1,x3.2.2.2.1,x3.2.2.2.2.1,())) fun q2=>some q2 else Option.bind (zbw (x0,x1,x2,x3.2.1,x3.2.2.1,x3.2.2.2.1,x3.2.2.2.2.1,())) fun q3=>some q3
abbrev zAS:Fun:=⟨9,(ch [zu,zn,tMe,j8]),(ch [zn,tI]),0,zfj⟩
theorem zKC:Sq zAS:=zNQ (d:=false) (K:=0) Tryz.func9 (by kernel_rfl) (funext fun (x0,x1,x2,x3,())=>by kernel_rfl)
def jm:Unit→Option (Bool × Unit):=fun () =>
  Option.bind (zsW ()) fun q0=>Option.bind (zxi (q0.1,())) fun q1=>Option.bind (y7 (q0.1,q1.1,(1,1,(ze tMe).2.2),2,5,())) fun q2=>Option.bind (zbv (q0.1,q2.1,(1,1,(ze tMe).2.2),2,2,())) fun q3=>Option.bind (yj (q0.1,q3.1,(1,1,(ze tMe).2.2),())) fun q4=>Option.bind (zdD (q0.1,q3.1,(1,1,(ze tMe).2.2),1,2,1,())) fun q5=>Option.bind (zbw (q0.1,q5.1,(1,1,(ze tMe).2.2),2,1,2,2,())) fun q6=>Option.bind (zbw (q0.1,q5.1,(1,1,(ze tMe).2.2),0,1,2,2,())) fun q7=>Option.bind (zbv (q0.1,q6.1,(1,1,(ze tMe).2.2),2,1,())) fun q8=>Option.bind (y7 (q0.1,q1.1,(u2 (u0 (ze tMe) 0) 1),2,5,())) fun q9=>Option.bind (y7 (q0.1,q2.1,(1,1,(ze tMe).2.2),2,996,())) fun q10=>Option.bind (zdD (q0.1,q3.1,(1,1,(ze tMe).2.2),0,2,1,())) fun q11=>bif q1.2.1 != 0 then some (false,()) else bif q2.2.1 != 0 then some (false,()) else bif q3.2.1 != 0 then some (false,()) else bif q4.2.1 != 0 then some (false,()) else bif q5.2.1 != 0 then some (false,()) else bif q6.2.1 != 0 then some (false,()) else bif ((List.length q6.1.2.1):Int) != 3 then some (false,()) else bif eqI (.arr 4 tU) q4.1 (zj (zj (zj (ze (.arr 4 tU)) 0 0) 1 0) 2 3) then bif decide (2 < ((List.length q6.1.2.1):Int)) then bif decide (1 < ((List.length (ix za q6.1.2.1 2).2.2.2.2.2.1):Int)) then bif List.getD (List.getD (ix za q6.1.2.1 2).2.2.2.2.2.1 (Int.toNat 1) (ze (.arr 4 tU))) (Int.toNat 2) (0:Int) == 2 then bif decide (1 < ((List.length q6.1.2.1):Int)) then bif decide (1 < ((List.length (ix za q6.1.2.1 1).2.2.2.2.2.1):Int)) then bif List.getD (List.getD (ix za q6.1.2.1 1).2.2.2.2.2.1 (Int.toNat 1) (ze (.arr 4 tU))) (Int.toNat 2) (0:Int) == 1 then bif q7.2.1 == 5 then bif q8.2.1 == 6 then bif q9.2.1 == 5 then bif q10.2.1 == 8 then bif q11.2.1 == 1 then bif decide (1 < ((List.length q1.1.2.1):Int)) then bif List.getD (ix za q1.1.2.1 1).2.2.2.2.2.2.2.1 (Int.toNat 2) (0:Int) == 0 then bif decide (1 < ((List.length q6.1.2.1):Int)) then bif List.getD (ix za q6.1.2.1 1).2.2.2.2.2.2.2.2.1 (Int.toNat 2) (0:Int) == 2 then some (true,()) else some (false,()) else none else some (false,()) else none else some (false,()) else some (false,()) else some (false,()) else some (false,()) else some (false,()) else some (false,()) else none else none else some (false,()) else none else none else some (false,())
abbrev ztB:Fun:=⟨13,.unit,(ch [.bool]),0,jm⟩
theorem zEv:Sq ztB:=zNQ (d:=false) (K:=0) Tryz.func13 (by kernel_rfl) (funext fun ()=>by kernel_rfl)
abbrev L14:List Fun:=zAS :: ztB :: L13
theorem h14:Sds Tryz.prog E0 L14:=⟨zKC,zEv,h13⟩
theorem zOl {d:Bool} {F:Fun} {f:Go.Func} {K:Nat} (hf:Tryz.prog.funcs[F.id]? = some f) (ho:jl f = true) (h:evF (En E0 d L14) K f F.md F.a F.r = F.spec):Sd Tryz.prog E0 F:=mkS h14 hf ho h
def zdf:(zf × (zb × (pMe × (zav × Unit))))→Option (Bool × Unit):=fun (x0,x1,x2,x3,()) =>
  Option.bind (qA (x1,())) fun q0=>bif decide (x3.1 < 1) then Option.bind (zfj (x0,x1,x2,x3,())) fun q1=>Option.bind (zdB (x0,q0.1,x2,4,x3.2.1,x3.2.2.1,x3.2.2.2.1,x3.2.2.2.2.1,())) fun q2=>Option.bind (yj (x0,x1,x2,())) fun q3=>Option.bind (zaO (x0,x1,x2,())) fun q4=>bif q4.1 then bif q3.2.1 != 0 then some (false,()) else inR x2.2.1 ((List.length x1.2.1):Int) (inR x2.2.2.1 ((List.length (ix za x1.2.1 x2.2.1).2.2.2.2.2.1):Int) (bif !eqI (.arr 4 tU) q3.1 (List.getD (ix za x1.2.1 x2.2.1).2.2.2.2.2.1 (Int.toNat x2.2.2.1) (ze (.arr 4 tU))) then some (false,()) else Option.bind (jm ()) fun q5=>bif q5.1 then Option.bind (ql (q1.1,q2.1,())) fun q6=>bif q6.1 then bif q1.2.1 == q2.2.1 then Option.bind (ql (x1,q0.1,())) fun q7=>bif q7.1 then some (true,()) else some (false,()) else some (false,()) else some (false,()) else some (false,()))) else bif q3.2.1 != 1 then some (false,()) else bif !eqI (.arr 4 tU) q3.1 (ze (.arr 4 tU)) then some (false,()) else Option.bind (jm ()) fun q8=>bif q8.1 then Option.bind (ql (q1.1,q2.1,())) fun q9=>bif q9.1 then bif q1.2.1 == q2.2.1 then Option.bind (ql (x1,q0.1,())) fun q10=>bif q10.1 then some (true,()) else some (false,()) else some (false,()) else some (false,()) else some (false,()) else bif decide (x3.1 > 3) then Option.bind (zfj (x0,x1,x2,x3,())) fun q11=>Option.bind (zdB (x0,q0.1,x2,4,x3.2.1,x3.2.2.1,x3.2.2.2.1,x3.2.2.2.2.1,())) fun q12=>Option.bind (yj (x0,x1,x2,())) fun q13=>Option.bind (zaO (x0,x1,x2,())) fun q14=>bif q14.1 then bif q13.2.1 != 0 then some (false,()) else inR x2.2.1 ((List.length x1.2.1):Int) (inR x2.2.2.1 ((List.length (ix za x1.2.1 x2.2.1).2.2.2.2.2.1):Int) (bif !eqI (.arr 4 tU) q13.1 (List.getD (ix za x1.2.1 x2.2.1).2.2.2.2.2.1 (Int.toNat x2.2.2.1) (ze (.arr 4 tU))) then some (false,()) else Option.bind (jm ()) fun q15=>bif q15.1 then Option.bind (ql (q11.1,q12.1,())) fun q16=>bif q16.1 then bif q11.2.1 == q12.2.1 then Option.bind (ql (x1,q0.1,())) fun q17=>bif q17.1 then some (true,()) else some (false,()) else some (false,()) else some (false,()) else some (false,()))) else bif q13.2.1 != 1 then some (false,()) else bif !eqI (.arr 4 tU) q13.1 (ze (.arr 4 tU)) then some (false,()) else Option.bind (jm ()) fun q18=>bif q18.1 then Option.bind (ql (q11.1,q12.1,())) fun q19=>bif q19.1 then bif q11.2.1 == q12.2.1 then Option.bind (ql (x1,q0.1,())) fun q20=>bif q20.1 then some (true,()) else some (false,()) else some (false,()) else some (false,()) else some (false,()) else Option.bind (zfj (x0,x1,x2,x3,())) fun q21=>Option.bind (zdB (x0,q0.1,x2,x3.1,x3.2.1,x3.2.2.1,x3.2.2.2.1,x3.2.2.2.2.1,())) fun q22=>Option.bind (yj (x0,x1,x2,())) fun q23=>Option.bind (zaO (x0,x1,x2,())) fun q24=>bif q24.1 then bif q23.2.1 != 0 then some (false,()) else inR x2.2.1 ((List.length x1.2.1):Int) (inR x2.2.2.1 ((List.length (ix za x1.2.1 x2.2.1).2.2.2.2.2.1):Int) (bif !eqI (.arr 4 tU) q23.1 (List.getD (ix za x1.2.1 x2.2.1).2.2.2.2.2.1 (Int.toNat x2.2.2.1) (ze (.arr 4 tU))) then some (false,()) else Option.bind (jm ()) fun q25=>bif q25.1 then Option.bind (ql (q21.1,q22.1,())) fun q26=>bif q26.1 then bif q21.2.1 == q22.2.1 then Option.bind (ql (x1,q0.1,())) fun q27=>bif q27.1 then some (true,()) else some (false,()) else some (false,()) else some (false,()) else some (false,()))) else bif q23.2.1 != 1 then some (false,()) else bif !eqI (.arr 4 tU) q23.1 (ze (.arr 4 tU)) then some (false,()) else Option.bind (jm ()) fun q28=>bif q28.1 then Option.bind (ql (q21.1,q22.1,())) fun q29=>bif q29.1 then bif q21.2.1 == q22.2.1 then Option.bind (ql (x1,q0.1,())) fun q30=>bif q30.1 then some (true,()) else some (false,()) else some (false,()) else some (false,()) else some (false,())
abbrev zvG:Fun:=⟨4,(ch [zu,zn,tMe,j8]),(ch [.bool]),0,zdf⟩
theorem zvH:Sq zvG:=zOl (d:=false) (K:=0) Tryz.func4 (by kernel_rfl) (funext fun (x0,x1,x2,x3,())=>by kernel_rfl)
end
end Go.Proofs.YtlklokhlgcfcdaaGreatDoor
end
section
namespace Go.Proofs.YtlklokhlgcfcdaaGreatDoor
open Go.Ev
theorem zAT {l:List Int} {g:Int × Unit→Option (Bool × Unit)} {p:Int→Bool} (hl:l.length ≤ Go.maxLen) (hp:∀ x ∈ l,g (x,()) = some (p x,())):zb5 (l,some g,()) = some (vf p l 0,()):=qQ (τ:=tI) (B:=zeY) (fun _ _ _ _ _=>rfl) hl hp
theorem zdg {l:List Int} {g:Int × Unit→Option (Bool × Unit)} {p:Int→Bool} (hl:l.length ≤ Go.maxLen) (hp:∀ x ∈ l,g (x,()) = some (p x,())):qK (l,some g,()) = some (l.any p,()):=qs (τ:=tI) (f:=zb5) (zAT hl hp)
theorem zwv {l:List zy} {g:zy × Unit→Option (Bool × Unit)} {p:zy→Bool} (hl:l.length ≤ Go.maxLen) (hp:∀ x ∈ l,g (x,()) = some (p x,())):zaD (l,some g,()) = some (vf p l 0,()):=qQ (τ:=zq) (B:=zdo) (fun _ _ _ _ _=>rfl) hl hp
theorem zkl {l:List zy} {g:zy × Unit→Option (Bool × Unit)} {p:zy→Bool} (hl:l.length ≤ Go.maxLen) (hp:∀ x ∈ l,g (x,()) = some (p x,())):yl (l,some g,()) = some (l.any p,()):=qs (τ:=zq) (f:=zaD) (zwv hl hp)
theorem zt9 {l:List qx} {g:qx × Unit→Option (Bool × Unit)} {p:qx→Bool} (hl:l.length ≤ Go.maxLen) (hp:∀ x ∈ l,g (x,()) = some (p x,())):yU (l,some g,()) = some (vf p l 0,()):=qQ (τ:=qC) (B:=za6) (fun _ _ _ _ _=>rfl) hl hp
theorem zqp {l:List qx} {g:qx × Unit→Option (Bool × Unit)} {p:qx→Bool} (hl:l.length ≤ Go.maxLen) (hp:∀ x ∈ l,g (x,()) = some (p x,())):zaI (l,some g,()) = some (l.any p,()):=qs (τ:=qC) (f:=yU) (zt9 hl hp)
theorem zww {l:List zl} {g:zl × Unit→Option (Bool × Unit)} {p:zl→Bool} (hl:l.length ≤ Go.maxLen) (hp:∀ x ∈ l,g (x,()) = some (p x,())):zaE (l,some g,()) = some (vf p l 0,()):=qQ (τ:=zm) (B:=zdq) (fun _ _ _ _ _=>rfl) hl hp
theorem zsp {l:List zl} {g:zl × Unit→Option (Bool × Unit)} {p:zl→Bool} (hl:l.length ≤ Go.maxLen) (hp:∀ x ∈ l,g (x,()) = some (p x,())):j3 (l,some g,()) = some (l.any p,()):=qs (τ:=zm) (f:=zaE) (zww hl hp)
theorem zyA {l:List qS} {g:qS × Unit→Option (Bool × Unit)} {p:qS→Bool} (hl:l.length ≤ Go.maxLen) (hp:∀ x ∈ l,g (x,()) = some (p x,())):zbD (l,some g,()) = some (vf p l 0,()):=qQ (τ:=qk) (B:=zd3) (fun _ _ _ _ _=>rfl) hl hp
theorem zua {l:List qS} {g:qS × Unit→Option (Bool × Unit)} {p:qS→Bool} (hl:l.length ≤ Go.maxLen) (hp:∀ x ∈ l,g (x,()) = some (p x,())):zdx (l,some g,()) = some (l.any p,()):=qs (τ:=qk) (f:=zbD) (zyA hl hp)
theorem zyB {l:List qa} {g:qa × Unit→Option (Bool × Unit)} {p:qa→Bool} (hl:l.length ≤ Go.maxLen) (hp:∀ x ∈ l,g (x,()) = some (p x,())):zbE (l,some g,()) = some (vf p l 0,()):=qQ (τ:=zG) (B:=zd5) (fun _ _ _ _ _=>rfl) hl hp
theorem zkO {l:List qa} {g:qa × Unit→Option (Bool × Unit)} {p:qa→Bool} (hl:l.length ≤ Go.maxLen) (hp:∀ x ∈ l,g (x,()) = some (p x,())):jt (l,some g,()) = some (l.any p,()):=qs (τ:=zG) (f:=zbE) (zyB hl hp)
theorem zyC {l:List qq} {g:qq × Unit→Option (Bool × Unit)} {p:qq→Bool} (hl:l.length ≤ Go.maxLen) (hp:∀ x ∈ l,g (x,()) = some (p x,())):zbF (l,some g,()) = some (vf p l 0,()):=qQ (τ:=zX) (B:=zd6) (fun _ _ _ _ _=>rfl) hl hp
theorem zkP {l:List qq} {g:qq × Unit→Option (Bool × Unit)} {p:qq→Bool} (hl:l.length ≤ Go.maxLen) (hp:∀ x ∈ l,g (x,()) = some (p x,())):ju (l,some g,()) = some (l.any p,()):=qs (τ:=zX) (f:=zbF) (zyC hl hp)
theorem zwx {l:List zt} {g:zt × Unit→Option (Bool × Unit)} {p:zt→Bool} (hl:l.length ≤ Go.maxLen) (hp:∀ x ∈ l,g (x,()) = some (p x,())):zaF (l,some g,()) = some (vf p l 0,()):=qQ (τ:=zw) (B:=zdt) (fun _ _ _ _ _=>rfl) hl hp
theorem zkm {l:List zt} {g:zt × Unit→Option (Bool × Unit)} {p:zt→Bool} (hl:l.length ≤ Go.maxLen) (hp:∀ x ∈ l,g (x,()) = some (p x,())):jg (l,some g,()) = some (l.any p,()):=qs (τ:=zw) (f:=zaF) (zwx hl hp)
theorem zwy {l:List zo} {g:zo × Unit→Option (Bool × Unit)} {p:zo→Bool} (hl:l.length ≤ Go.maxLen) (hp:∀ x ∈ l,g (x,()) = some (p x,())):zaG (l,some g,()) = some (vf p l 0,()):=qQ (τ:=zr) (B:=zdu) (fun _ _ _ _ _=>rfl) hl hp
theorem zsq {l:List zo} {g:zo × Unit→Option (Bool × Unit)} {p:zo→Bool} (hl:l.length ≤ Go.maxLen) (hp:∀ x ∈ l,g (x,()) = some (p x,())):j4 (l,some g,()) = some (l.any p,()):=qs (τ:=zr) (f:=zaG) (zwy hl hp)
theorem zwz {l:List zF} {g:zF × Unit→Option (Bool × Unit)} {p:zF→Bool} (hl:l.length ≤ Go.maxLen) (hp:∀ x ∈ l,g (x,()) = some (p x,())):zaH (l,some g,()) = some (vf p l 0,()):=qQ (τ:=zv) (B:=zdv) (fun _ _ _ _ _=>rfl) hl hp
theorem zsr {l:List zF} {g:zF × Unit→Option (Bool × Unit)} {p:zF→Bool} (hl:l.length ≤ Go.maxLen) (hp:∀ x ∈ l,g (x,()) = some (p x,())):j5 (l,some g,()) = some (l.any p,()):=qs (τ:=zv) (f:=zaH) (zwz hl hp)
theorem zoi {l:List z9} {g:z9 × Unit→Option (Bool × Unit)} {p:z9→Bool} (hl:l.length ≤ Go.maxLen) (hp:∀ x ∈ l,g (x,()) = some (p x,())):yr (l,some g,()) = some (vf p l 0,()):=qQ (τ:=zT) (B:=zd4) (fun _ _ _ _ _=>rfl) hl hp
theorem zub {l:List z9} {g:z9 × Unit→Option (Bool × Unit)} {p:z9→Bool} (hl:l.length ≤ Go.maxLen) (hp:∀ x ∈ l,g (x,()) = some (p x,())):vn (l,some g,()) = some (l.any p,()):=qs (τ:=zT) (f:=yr) (zoi hl hp)
theorem zAU {l:List vJ} {g:vJ × Unit→Option (Bool × Unit)} {p:vJ→Bool} (hl:l.length ≤ Go.maxLen) (hp:∀ x ∈ l,g (x,()) = some (p x,())):zb9 (l,some g,()) = some (vf p l 0,()):=qQ (τ:=zM) (B:=ze5) (fun _ _ _ _ _=>rfl) hl hp
theorem zvI {l:List vJ} {g:vJ × Unit→Option (Bool × Unit)} {p:vJ→Bool} (hl:l.length ≤ Go.maxLen) (hp:∀ x ∈ l,g (x,()) = some (p x,())):vE (l,some g,()) = some (l.any p,()):=qs (τ:=zM) (f:=zb9) (zAU hl hp)
theorem zyD {l:List Int} {g:Int × Unit→Option (Bool × Unit)} {p:Int→Bool} (hl:l.length ≤ Go.maxLen) (hp:∀ x ∈ l,g (x,()) = some (p x,())):zbB (l,some g,()) = some (vf p l 0,()):=qQ (τ:=(Ty.int .u8)) (B:=zd0) (fun _ _ _ _ _=>rfl) hl hp
theorem zuc {l:List Int} {g:Int × Unit→Option (Bool × Unit)} {p:Int→Bool} (hl:l.length ≤ Go.maxLen) (hp:∀ x ∈ l,g (x,()) = some (p x,())):vm (l,some g,()) = some (l.any p,()):=qs (τ:=(Ty.int .u8)) (f:=zbB) (zyD hl hp)
theorem zIO {l:List zl} {g:zl × Unit→Option (Bool × Unit)} {p:zl→Bool} (hl:l.length ≤ Go.maxLen) (hp:∀ x ∈ l,g (x,()) = some (p x,())):zhz (l,some g,()) = some (l.all p,()):=by
  have h:j3 (l,some fun z=>zbC (z.1,some (some g),()),()) = some (l.any fun x=>!p x,()):=zsp hl fun x hx=>by
    show Option.bind (g (x,())) (fun q=>bif q.1 then some (false,()) else some (true,())) = _
    rw [hp x hx]; cases p x <;> rfl
  show Option.bind (j3 (l,some fun z=>zbC (z.1,some (some g),()),())) (fun q=>bif q.1 then some (false,()) else some (true,())) = _
  rw [h,← va]; cases l.any fun x=>!p x <;> rfl
theorem zIP {l:List zo} {g:zo × Unit→Option (Bool × Unit)} {p:zo→Bool} (hl:l.length ≤ Go.maxLen) (hp:∀ x ∈ l,g (x,()) = some (p x,())):zhA (l,some g,()) = some (l.all p,()):=by
  have h:j4 (l,some fun z=>zbG (z.1,some (some g),()),()) = some (l.any fun x=>!p x,()):=zsq hl fun x hx=>by
    show Option.bind (g (x,())) (fun q=>bif q.1 then some (false,()) else some (true,())) = _
    rw [hp x hx]; cases p x <;> rfl
  show Option.bind (j4 (l,some fun z=>zbG (z.1,some (some g),()),())) (fun q=>bif q.1 then some (false,()) else some (true,())) = _
  rw [h,← va]; cases l.any fun x=>!p x <;> rfl
theorem zIQ {l:List zF} {g:zF × Unit→Option (Bool × Unit)} {p:zF→Bool} (hl:l.length ≤ Go.maxLen) (hp:∀ x ∈ l,g (x,()) = some (p x,())):zdP (l,some g,()) = some (l.all p,()):=by
  have h:j5 (l,some fun z=>zbH (z.1,some (some g),()),()) = some (l.any fun x=>!p x,()):=zsr hl fun x hx=>by
    show Option.bind (g (x,())) (fun q=>bif q.1 then some (false,()) else some (true,())) = _
    rw [hp x hx]; cases p x <;> rfl
  show Option.bind (j5 (l,some fun z=>zbH (z.1,some (some g),()),())) (fun q=>bif q.1 then some (false,()) else some (true,())) = _
  rw [h,← va]; cases l.any fun x=>!p x <;> rfl
theorem zLX {l:List Int} {g:Int × Unit→Option (Bool × Unit)} {p:Int→Bool} (hl:l.length ≤ Go.maxLen) (hp:∀ x ∈ l,g (x,()) = some (p x,())):zad (l,some g,()) = some (l.all p,()):=by
  have h:qK (l,some fun z=>zdL (z.1,some (some g),()),()) = some (l.any fun x=>!p x,()):=zdg hl fun x hx=>by
    show Option.bind (g (x,())) (fun q=>bif q.1 then some (false,()) else some (true,())) = _
    rw [hp x hx]; cases p x <;> rfl
  show Option.bind (qK (l,some fun z=>zdL (z.1,some (some g),()),())) (fun q=>bif q.1 then some (false,()) else some (true,())) = _
  rw [h,← va]; cases l.any fun x=>!p x <;> rfl
theorem zKD {l:List z9} {g:z9 × Unit→Option (Bool × Unit)} {p:z9→Bool} (hl:l.length ≤ Go.maxLen) (hp:∀ x ∈ l,g (x,()) = some (p x,())):ziQ (l,some g,()) = some (l.all p,()):=by
  have h:vn (l,some fun z=>zb6 (z.1,some (some g),()),()) = some (l.any fun x=>!p x,()):=zub hl fun x hx=>by
    show Option.bind (g (x,())) (fun q=>bif q.1 then some (false,()) else some (true,())) = _
    rw [hp x hx]; cases p x <;> rfl
  show Option.bind (vn (l,some fun z=>zb6 (z.1,some (some g),()),())) (fun q=>bif q.1 then some (false,()) else some (true,())) = _
  rw [h,← va]; cases l.any fun x=>!p x <;> rfl
theorem zAV {l:List qa} {g:qa × Unit→Option (Bool × Unit)} {p:qa→Bool} (hl:l.length ≤ Go.maxLen) (hp:∀ x ∈ l,g (x,()) = some (p x,())):yN (l,some g,()) = some (l.all p,()):=by
  have h:jt (l,some fun z=>zb8 (z.1,some (some g),()),()) = some (l.any fun x=>!p x,()):=zkO hl fun x hx=>by
    show Option.bind (g (x,())) (fun q=>bif q.1 then some (false,()) else some (true,())) = _
    rw [hp x hx]; cases p x <;> rfl
  show Option.bind (jt (l,some fun z=>zb8 (z.1,some (some g),()),())) (fun q=>bif q.1 then some (false,()) else some (true,())) = _
  rw [h,← va]; cases l.any fun x=>!p x <;> rfl
theorem zLY {l:List vJ} {g:vJ × Unit→Option (Bool × Unit)} {p:vJ→Bool} (hl:l.length ≤ Go.maxLen) (hp:∀ x ∈ l,g (x,()) = some (p x,())):zjZ (l,some g,()) = some (l.all p,()):=by
  have h:vE (l,some fun z=>zdM (z.1,some (some g),()),()) = some (l.any fun x=>!p x,()):=zvI hl fun x hx=>by
    show Option.bind (g (x,())) (fun q=>bif q.1 then some (false,()) else some (true,())) = _
    rw [hp x hx]; cases p x <;> rfl
  show Option.bind (vE (l,some fun z=>zdM (z.1,some (some g),()),())) (fun q=>bif q.1 then some (false,()) else some (true,())) = _
  rw [h,← va]; cases l.any fun x=>!p x <;> rfl
theorem zKE {l:List qq} {g:qq × Unit→Option (Bool × Unit)} {p:qq→Bool} (hl:l.length ≤ Go.maxLen) (hp:∀ x ∈ l,g (x,()) = some (p x,())):yO (l,some g,()) = some (l.all p,()):=by
  have h:ju (l,some fun z=>zca (z.1,some (some g),()),()) = some (l.any fun x=>!p x,()):=zkP hl fun x hx=>by
    show Option.bind (g (x,())) (fun q=>bif q.1 then some (false,()) else some (true,())) = _
    rw [hp x hx]; cases p x <;> rfl
  show Option.bind (ju (l,some fun z=>zca (z.1,some (some g),()),())) (fun q=>bif q.1 then some (false,()) else some (true,())) = _
  rw [h,← va]; cases l.any fun x=>!p x <;> rfl
theorem zIR {l:List zt} {g:zt × Unit→Option (Bool × Unit)} {p:zt→Bool} (hl:l.length ≤ Go.maxLen) (hp:∀ x ∈ l,g (x,()) = some (p x,())):qL (l,some g,()) = some (l.all p,()):=by
  have h:jg (l,some fun z=>zbI (z.1,some (some g),()),()) = some (l.any fun x=>!p x,()):=zkm hl fun x hx=>by
    show Option.bind (g (x,())) (fun q=>bif q.1 then some (false,()) else some (true,())) = _
    rw [hp x hx]; cases p x <;> rfl
  show Option.bind (jg (l,some fun z=>zbI (z.1,some (some g),()),())) (fun q=>bif q.1 then some (false,()) else some (true,())) = _
  rw [h,← va]; cases l.any fun x=>!p x <;> rfl
theorem ztC {l:List zo} (hl:l.length * 80 ≤ 140737488355328):za4 (l,()) = some (l,()):=yf (τ:=zr) hl rfl
theorem zEw {l:List zo} (hl:l.length ≤ lim):za4 (l,()) = some (l,()):=ztC (by unfold lim at hl; omega)
theorem zEx {l:List zF} (hl:l.length * 80 ≤ 140737488355328):ziF (l,()) = some (l,()):=yf (τ:=zv) hl rfl
theorem zxm {l:List Int} (hl:l.length * 8 ≤ 140737488355328):zgT (l,()) = some (l,()):=yf (τ:=tI) hl rfl
theorem zG0 {l:List (List Int)} (hl:l.length * 24 ≤ 140737488355328):zjo (l,()) = some (l,()):=yf (τ:=(Ty.sl tI)) hl rfl
theorem zEy {l:List zl} (hl:l.length * 232 ≤ 140737488355328):ziG (l,()) = some (l,()):=yf (τ:=zm) hl rfl
theorem zG1 {l:List qS} (hl:l.length * 24 ≤ 140737488355328):zjp (l,()) = some (l,()):=yf (τ:=qk) hl rfl
theorem zG2 {l:List z9} (hl:l.length * 48 ≤ 140737488355328):zjq (l,()) = some (l,()):=yf (τ:=zT) hl rfl
theorem zG3 {l:List qa} (hl:l.length * 56 ≤ 140737488355328):zjr (l,()) = some (l,()):=yf (τ:=zG) hl rfl
theorem zG4 {l:List qq} (hl:l.length * 48 ≤ 140737488355328):zjs (l,()) = some (l,()):=yf (τ:=zX) hl rfl
theorem ztD {l:List zt} (hl:l.length * 72 ≤ 140737488355328):za5 (l,()) = some (l,()):=yf (τ:=zw) hl rfl
theorem ztE {l:List zt} (hl:l.length ≤ lim):za5 (l,()) = some (l,()):=ztD (by unfold lim at hl; omega)
theorem zKF {l:List (List Int)} (hl:l.length * 32 ≤ 140737488355328):zl5 (l,()) = some (l,()):=yf (τ:=(Ty.arr 4 tU)) hl rfl
theorem zIS {l:List vJ} (hl:l.length * 16 ≤ 140737488355328):zkY (l,()) = some (l,()):=yf (τ:=zM) hl rfl
end Go.Proofs.YtlklokhlgcfcdaaGreatDoor
end
section
namespace Go.Proofs.YtlklokhlgcfcdaaGreatDoor
open Go.Ev
theorem zv8:∃ m,K0 = m + 8:=⟨Go.maxLen - 6,by unfold K0 Go.maxLen; omega⟩
def zS (x a b:Int):Bool:=decide (a ≤ x ∧ x ≤ b)
theorem zfk (x a b:Int):qt (x,a,b,()) = some (zS x a b,()):=by
  simp only [qt,zS]; grind
def zah (a:zy):Bool:=zS a.1 0 3
theorem zEz (a:zy):zib (a,()) = some (zah a,()):=by
  simp only [zib,zah,zS]; grind
theorem zKG (a:zy):ze8 (a,()) = some (!zah a,()):=by
  simp only [ze8,zEz,Option.bind_some]; grind
theorem zEA (a:zy):zie (a,()) = some (zah a,()):=by
  rw [zA]
  simp only [zie,zah,zS]
  grind
def zkn (x y:Int):Int:=bif decide (x < y) then -1 else bif decide (y < x) then 1 else 0
theorem zIT (x:Int):zaa (x,()) = some (false,()):=by
  simp only [zaa]; grind
theorem zCv (x:Int):vy (x,()) = some (false,()):=by
  simp only [vy]; grind
theorem ztF (x y:Int):zax (x,y,()) = some (zkn x y,()):=by
  simp only [zax,zIT,Option.bind_some,zkn]; grind
theorem zoj (x y:Int):vU (x,y,()) = some (zkn x y,()):=by
  simp only [vU,zCv,Option.bind_some,zkn]; grind
def orV (a b:Int):Int:=bif a != 0 then a else b
theorem zNR (a b:Int):zdZ ([a,b],()) = some (orV a b,()):=by
  show zg jb K0 (0,[a,b],2,0) = _
  obtain ⟨m,hm⟩:=zv8
  rw [hm]
  show jb (jb (jb (zg jb (m + 5)))) (0,[a,b],2,0) = _
  have h:jb (jb (jb (zg jb (m + 5)))) (0,[a,b],2,0) = bif a != 0 then some (a,()) else bif b != 0 then some (b,()) else some (0,()):=by kernel_rfl
  rw [h]; unfold orV; grind
def zgA (a b:zy):Int:=orV (zkn a.1 b.1) (zkn a.2.1 b.2.1)
theorem zIU (a b:zy):zlt (a,b,()) = some (zgA a b,()):=by
  simp only [zlt,ztF,zoj,Option.bind_some]
  show Option.bind (zdZ ([zkn a.1 b.1,zkn a.2.1 b.2.1],())) _ = _
  rw [zNR]; rfl
theorem zpL (a b:zy):eqI zq a b = ((a.1:Int) == b.1 && (a.2.1:Int) == b.2.1):=by
  show cond ((a.1:Int) == b.1) (cond ((a.2.1:Int) == b.2.1) true false) false = _
  cases ((a.1:Int) == b.1) <;> cases ((a.2.1:Int) == b.2.1) <;> rfl
theorem zIV (a b:zy):zlq (a,b,()) = some (zgA a b,()):=by
  simp only [zlq,zpL,zgA,orV,zkn]; grind
def zbS (l:List zy):Bool:=zS (l.length:Int) 1 8 && (eqI zq (l.getD 0 (ze zq)) (ze zq) && (l.all zah && zU (fun i=>decide (zgA (l.getD (i - 1) (ze zq)) (l.getD i (ze zq)) < 0)) 1 (l.length - 1)))
theorem zKH {α:Type} {d:α} {l:List α}:ix d l 0 = l.getD 0 d:=rfl
theorem zMI (r:zf):vH (r,()) = some (zbS r.1,()):=by
  simp only [vH,zg9,zfk,Option.bind_some]
  by_cases hw:zS (List.length r.1:Int) 1 8 = true
  · have hb:1 ≤ List.length r.1 ∧ List.length r.1 ≤ 8:=by unfold zS at hw; grind
    have hl:List.length r.1 ≤ Go.maxLen:=by unfold Go.maxLen; omega
    have hloop:ziR K0 (1,r) = bif zU (fun i=>decide (zgA (List.getD r.1 (i - 1) (ze zq)) (List.getD r.1 i (ze zq)) < 0)) 1 (List.length r.1 - 1) then some (true,()) else some (false,()) :=
      z6 (i0:=1) hl hb.1 (fun i=>(i,r)) (fun k i h1 h2=>by
        simp only [zfg]
        rw [ltT h2,zi2 h1 (by omega),zi (by omega),zi h2,zE,Int.toNat_natCast,zIU]
        simp only [cond_true,Option.bind_some]; grind) (fun k=>by simp only [zfg]; rw [ltF]; rfl)
    rw [zkl (p:=fun a=>!zah a) hl fun x _=>zKG x,hloop,zKH]
    have:=va (l:=r.1) (p:=zah)
    unfold zbS
    simp only [Option.bind_some]
    grind
  · unfold zbS; grind
theorem zCw (l:List zy):zg2 (l,()) = some (zbS l,()):=by
  simp only [zg2,zg1]
  by_cases hw:zS (List.length l:Int) 1 8 = true
  · have hb:1 ≤ List.length l ∧ List.length l ≤ 8:=by unfold zS at hw; grind
    have hl:List.length l ≤ Go.maxLen:=by unfold Go.maxLen; omega
    have hloop:ziL K0 (l,1) = bif zU (fun i=>zah (List.getD l i (ze zq)) && decide (zgA (List.getD l (i - 1) (ze zq)) (List.getD l i (ze zq)) < 0)) 1 (List.length l - 1) then some (true,()) else some (false,()) :=
      z6 (i0:=1) hl hb.1 (fun i=>(l,i)) (fun k i h1 h2=>by
        simp only [zfb]
        rw [ltT h2,zi2 h1 (by omega),zi h2,zi (by omega),zi h2,zE,Int.toNat_natCast,zIV,zEA]
        simp only [cond_true,Option.bind_some]; grind) (fun k=>by simp only [zfb]; rw [ltF]; rfl)
    rw [hloop,zKH]
    have h0:eqI zq (l.getD 0 (ze zq)) (ze zq) = true→zah (l.getD 0 (ze zq)) = true:=fun h=>by
      rw [zpL] at h
      have:(l.getD 0 (ze zq)).1 = (0:Int):=by have:(ze zq).1 = (0:Int):=rfl; grind
      unfold zah zS; grind
    have hsplit:zah (l.getD 0 (ze zq)) = true→zU (fun i=>zah (List.getD l i (ze zq)) && decide (zgA (List.getD l (i - 1) (ze zq)) (List.getD l i (ze zq)) < 0)) 1 (List.length l - 1) = (l.all zah && zU (fun i=>decide (zgA (l.getD (i - 1) (ze zq)) (l.getD i (ze zq)) < 0)) 1 (l.length - 1)):=fun h0=>by
      rw [Bool.eq_iff_iff,Bool.and_eq_true,qP,qP,List.all_eq_true]
      constructor
      · intro h
        refine ⟨fun x hx=>?_,fun j h1 h2=>?_⟩
        · obtain ⟨i,hi,rfl⟩:=List.mem_iff_getElem.1 hx
          have e:l.getD i (ze zq) = l[i]:=by simp [List.getD,hi]
          rw [← e]
          by_cases hz:i = 0
          · subst hz; exact h0
          · have:=h i (by omega) (by omega); grind
        · have:=h j h1 h2; grind
      · rintro ⟨h1,h2⟩ j h3 h4
        have:=h2 j h3 h4
        have:=h1 _ (zV (d:=ze zq) (show j < l.length by omega))
        grind
    unfold zbS
    grind
  · unfold zbS zS at *; grind
end Go.Proofs.YtlklokhlgcfcdaaGreatDoor
end
section
namespace Go.Proofs.YtlklokhlgcfcdaaGreatDoor
open Go.Ev
def small (c:Int):Bool:=decide (97 ≤ c ∧ c ≤ 122)
def zv9 (c:Int):Bool:=decide (48 ≤ c ∧ c ≤ 57)
theorem zJI (c:Int):zgn (c,()) = some (small c,()):=by
  simp only [zgn,small]; grind
theorem zNi (c:Int):zjw (c,()) = some (zv9 c,()):=by
  simp only [zjw,zv9]; grind
def zFd (c:Int):Bool:=small c || zv9 c
theorem zNS (c:Int):zgY (c,()) = some (zFd c,()):=by
  simp only [zgY,zJI,zNi,Option.bind_some,zFd]; grind
def zgB (s:ByteArray):List Int:=List.map (fun b:UInt8=>(b.toNat:Int)) s.data.toList
def chr (s:ByteArray) (i:Nat):Int:=(((s.data.toList).getD i 0).toNat:Int)
theorem zmv (s:ByteArray):(zgB s).length = s.size:=by unfold zgB; rw [List.length_map]; rfl
theorem zna (s:ByteArray):s.data.toList.length = s.size:=rfl
theorem zAW (s:ByteArray) (p:Int→Bool):(zgB s).all p = zU (fun i=>p (chr s i)) 0 s.size:=by
  rw [Bool.eq_iff_iff,qP,List.all_eq_true]
  have key:∀ i,i < s.size→(zgB s)[i]? = some (chr s i):=fun i hi=>by
    unfold zgB chr
    rw [List.getElem?_map,List.getElem?_eq_getElem (by rw [zna]; exact hi)]
    simp [List.getD,zna,hi]
  constructor
  · intro h j _ hj
    exact h _ (List.mem_of_getElem? (key j (by omega)))
  · intro h x hx
    obtain ⟨i,hi,rfl⟩:=List.mem_iff_getElem.1 hx
    rw [zmv] at hi
    have:=key i hi
    rw [List.getElem?_eq_getElem (by rw [zmv]; exact hi)] at this
    rw [Option.some.inj this]
    exact h i (by omega) (by omega)
theorem zAX {s:ByteArray} {g:Int × Unit→Option (Bool × Unit)} {p:Int→Bool} (hl:s.size ≤ Go.maxLen) (hp:∀ c,g (c,()) = some (p c,())):zmZ (s,some g,()) = some ((zgB s).all p,()):=by
  have h:vm (zgB s,some fun z=>zjv (z.1,some (some g),()),()) = some ((zgB s).any fun x=>!p x,()):=zuc (by rw [zmv]; exact hl) fun x hx=>by
    show Option.bind (g (x,())) (fun q=>bif q.1 then some (false,()) else some (true,())) = _
    rw [hp x]; cases p x <;> rfl
  show Option.bind (vm (zgB s,some fun z=>zjv (z.1,some (some g),()),())) (fun q=>bif q.1 then some (false,()) else some (true,())) = _
  rw [h,← va]; cases (zgB s).any fun x=>!p x <;> rfl
def zko (s:ByteArray):Bool:=decide (1 ≤ s.size) && (decide (s.size ≤ 12) && zU (fun i=>small (chr s i) || (decide (i ≠ 0) && zv9 (chr s i))) 0 s.size)
theorem zMJ (s:ByteArray):zko s = (decide (1 ≤ s.size) && (decide (s.size ≤ 12) && (small (chr s 0) && (zgB s).all zFd))):=by
  rw [zAW,zko,Bool.eq_iff_iff]
  simp only [Bool.and_eq_true,decide_eq_true_eq,qP,zFd]
  constructor
  · rintro ⟨h1,h2,h3⟩
    have:=h3 0 (by omega) (by omega)
    refine ⟨h1,h2,by grind,fun j h4 h5=>?_⟩
    have:=h3 j h4 h5
    grind
  · rintro ⟨h1,h2,h3,h4⟩
    refine ⟨h1,h2,fun j h5 h6=>?_⟩
    have:=h4 j h5 h6
    by_cases e:j = 0
    · subst e; grind
    · grind
theorem zok (s:ByteArray):zbn (s,()) = some (zko s,()):=by
  rw [zA]
  simp only [zbn]
  rw [zMJ]
  by_cases h1:s.size < 1
  · grind
  by_cases h2:s.size > 12
  · grind
  rw [zAX (by unfold Go.maxLen; omega) zNS]
  have hc:((UInt8.toNat (List.getD s.data.toList (Int.toNat 0) 0):Nat):Int) = chr s 0:=rfl
  rw [hc,zJI]
  simp only [Option.bind_some]
  grind
theorem zmw (s:ByteArray):zB (s,()) = some (zko s,()):=by
  rw [zA]
  simp only [zB,zif]
  unfold zko
  by_cases h1:s.size < 1
  · have:s.size = 0:=by omega
    grind
  by_cases h2:s.size > 12
  · grind
  have hloop:zjH K0 (s,0) = bif zU (fun i=>small (chr s i) || (decide (i ≠ 0) && zv9 (chr s i))) 0 (s.size - 0) then some (true,()) else some (false,()) :=
    z6 (i0:=0) (n:=s.size) (by unfold Go.maxLen; omega) (Nat.zero_le _) (fun i=>(s,i)) (fun k i h3 h4=>by
      simp only [zf0]
      have hc:((UInt8.toNat (List.getD s.data.toList (Int.toNat (i:Int)) 0):Nat):Int) = chr s i:=by rw [Int.toNat_natCast]; rfl
      rw [hc]
      simp only [ltT h4,zi h4,cond_true,small,zv9]
      grind) (fun k=>by simp only [zf0]; rw [ltF]; rfl)
  rw [hloop]
  grind
def zdh (a:qx):Bool:=zko a.1 && (zko a.2.1 && zS a.2.2.1 0 3)
theorem zG5 (a:qx):zcL (a,()) = some (!zdh a,()):=by
  simp only [zcL,zok,zfk,Option.bind_some,zdh]; grind
theorem zjj {α:Type} (d x:α):zj (List.replicate 1 d) 0 x = [x]:=rfl
theorem zNT {n:Nat} (h:n ≤ 1000000):decide (n ≤ lim) = true:=decide_eq_true (by unfold lim; omega)
theorem zIW (r:zf) (h:r.2.2.1.length ≤ 1000):zhu (r,()) = some (r.2.2.1.map (·.1),()):=by
  have hl:r.2.2.1.length ≤ Go.maxLen:=by unfold Go.maxLen; omega
  have:=zfH (B:=yq) (α:=List ByteArray) (len:=r.2.2.1.length) hl (fun i o=>(r.2.2.1,(r.2.2.1.length:Int),i,o)) (fun i o=>some (o ++ (r.2.2.1.drop i).map (·.1),())) (fun i o=>o.length ≤ i) (fun k i s hi hI hk=>by
    simp only [yq]
    rw [ltT hi,zi hi,zE,zjj,zNT (by simp; omega)]
    simp only [cond_true]
    rw [hk _ (by simp; omega),zb2 qn hi]
    simp) (fun k s _=>by
    simp only [yq]
    rw [ltF,List.drop_of_length_le (Nat.le_refl _)]
    simp) [] (Nat.le_refl _)
  exact this
def zgC:List ByteArray→Bool
  | []=>true
  | x :: l=>!(l.any fun y=>eqI .str x y) && zgC l
theorem zrA (x y:ByteArray):eqI .str x y = (x.toList == y.toList):=rfl
theorem zLZ (o:List (ByteArray × Int)) (x z:ByteArray) (v:Int):jI .str (jL .str o x v) z = (jI .str o z || eqI .str z x):=by
  induction o with
  | nil=>simp only [jL,jI]; cases eqI .str z x <;> rfl
  | cons e o ih =>
    simp only [jL,jI]
    cases h:eqI .str x e.1 with
    | true =>
      simp only [cond_true,jI]
      have:eqI .str z e.1 = eqI .str z x:=by rw [zrA] at *; rw [zrA]; have:=eq_of_beq h; rw [this]
      cases h2:eqI .str z e.1 with
      | true=>rfl
      | false=>rw [← this,h2]; simp
    | false =>
      simp only [cond_false,jI,ih]
      cases eqI .str z e.1 <;> rfl
theorem zG6 (o:List (ByteArray × Int)) (x:ByteArray) (v:Int):(jL .str o x v).length = o.length + (bif jI .str o x then 0 else 1):=by
  induction o with
  | nil=>rfl
  | cons e o ih =>
    simp only [jL,jI]
    cases h:eqI .str x e.1 with
    | true=>simp only [cond_true,List.length_cons,Nat.add_zero]
    | false =>
      simp only [cond_false,List.length_cons,ih]
      generalize (bif jI .str o x then 0 else 1) = n
      omega
def zss:List ByteArray→List (ByteArray × Int)→Nat
  | [],o=>o.length
  | x :: l,o=>zss l (jL .str o x (wI (zaA .str (0:Int) o x + 1)))
theorem zJJ:∀ (l:List ByteArray) (o:List (ByteArray × Int)),zss l o ≤ o.length + l.length
  | [],o=>Nat.le_refl _
  | x :: l,o=>by
    have h:=zJJ l (jL .str o x (wI (zaA .str (0:Int) o x + 1)))
    rw [zG6] at h
    simp only [zss,List.length_cons]
    cases hm:jI .str o x <;> (rw [hm] at h; simp only [cond_true,cond_false] at h; omega)
theorem zJK:∀ (l:List ByteArray) (o:List (ByteArray × Int)),(zss l o == o.length + l.length) = (zgC l && l.all fun x=>!jI .str o x)
  | [],o=>by simp [zss,zgC]
  | x :: l,o=>by
    have h:=zJJ l (jL .str o x (wI (zaA .str (0:Int) o x + 1)))
    have ih:=zJK l (jL .str o x (wI (zaA .str (0:Int) o x + 1)))
    rw [zG6] at h ih
    simp only [zss,List.length_cons,zgC,List.all_cons]
    cases hm:jI .str o x with
    | true =>
      rw [hm] at h
      simp only [cond_true] at h
      have:(zss l (jL .str o x (wI (zaA .str (0:Int) o x + 1))) == o.length + (l.length + 1)) = false:=by
        simp only [beq_eq_false_iff_ne]; omega
      rw [this]
      simp
    | false =>
      rw [hm] at ih
      simp only [cond_false] at ih
      rw [show o.length + (l.length + 1) = o.length + 1 + l.length by omega,ih]
      simp only [zLZ,Bool.not_or,Bool.not_false,Bool.true_and]
      have:(l.all fun z=>!jI .str o z && !eqI .str z x) = ((l.all fun z=>!jI .str o z) && !(l.any fun y=>eqI .str x y)):=by
        rw [Bool.eq_iff_iff]
        simp only [List.all_eq_true,Bool.and_eq_true,Bool.not_eq_true',List.any_eq_false,Bool.not_eq_true]
        have hs:∀ z,eqI .str z x = eqI .str x z:=fun z=>by rw [zrA,zrA]; exact Bool.beq_comm
        grind
      rw [this]
      cases zgC l <;> cases (l.all fun z=>!jI .str o z) <;> cases (l.any fun y=>eqI .str x y) <;> rfl
theorem zL0 (m n:Nat):(((m:Nat):Int) == ((n:Nat):Int)) = (m == n):=by
  rw [Bool.eq_iff_iff]; simp only [beq_iff_eq]; omega
theorem zNj (l:List ByteArray) (h:l.length ≤ 1000):zny (l,()) = some (zgC l,()):=by
  have:=zoW (B:=zd2) (l:=l) (α:=List (ByteArray × Int)) (ze .str) (fun i o=>(l,l,(l.length:Int),i,o)) (fun rest o=>some (zss rest o == l.length,())) (by unfold Go.maxLen; omega) (fun k i x rest s hi hx _ hr hk=>by
    simp only [zd2]
    rw [ltT hi,zi hi,Int.toNat_natCast,hx]
    simp only [cond_true]
    exact hk _) (fun k s=>by
    simp only [zd2]
    rw [ltF]
    simp only [cond_false,zss]
    rw [zL0]
    cases s.length == l.length <;> rfl) []
  refine this.trans ?_
  have h2:=zJK l []
  simp only [List.length_nil,Nat.zero_add] at h2
  rw [h2]
  simp [jI]
def zeN (l:List qx):Bool:=zS (l.length:Int) 1 8 && (l.all zdh && zgC (l.map (·.1)))
theorem zKI (r:zf):jR (r,()) = some (zeN r.2.2.1,()):=by
  rw [zA]
  simp only [jR,zfk,Option.bind_some]
  unfold zeN
  by_cases hw:zS (List.length r.2.2.1:Int) 1 8 = true
  · have hb:1 ≤ List.length r.2.2.1 ∧ List.length r.2.2.1 ≤ 8:=by unfold zS at hw; grind
    rw [zqp (p:=fun a=>!zdh a) (by unfold Go.maxLen; omega) fun x _=>zG5 x,zIW r (by omega)]
    simp only [Option.bind_some]
    rw [zNj _ (by simp; omega)]
    simp only [Option.bind_some]
    have:=va (l:=r.2.2.1) (p:=zdh)
    grind
  · grind
theorem zAY:∀ {l:List ByteArray},zgC l = true ↔ ∀ i j:Nat,i < j→j < l.length→eqI .str (l.getD i (ze .str)) (l.getD j (ze .str)) = false
  | []=>by simp [zgC]
  | x :: l=>by
    simp only [zgC,Bool.and_eq_true,Bool.not_eq_true',List.any_eq_false,zAY (l:=l)]
    constructor
    · rintro ⟨h1,h2⟩ i j hij hj
      cases j with
      | zero=>omega
      | succ j =>
        simp only [List.length_cons] at hj
        cases i with
        | zero =>
          have:=h1 (l.getD j (ze .str)) (zV (by omega))
          simpa using this
        | succ i=>exact h2 i j (by omega) (by omega)
    · intro h
      refine ⟨fun y hy=>?_,fun i j h1 h2=>h (i + 1) (j + 1) (by omega) (by simp only [List.length_cons]; omega)⟩
      obtain ⟨j,hj,rfl⟩:=List.mem_iff_getElem.1 hy
      have:=h 0 (j + 1) (by omega) (by simp only [List.length_cons]; omega)
      simpa [List.getD,hj] using this
theorem zyE (l:List qx):zfd (l,()) = some (zeN l,()):=by
  rw [zA]
  simp only [zfd,zfc]
  unfold zeN
  by_cases h1:l.length < 1
  · unfold zS; grind
  by_cases h2:l.length > 8
  · unfold zS; grind
  have hl:l.length ≤ Go.maxLen:=by unfold Go.maxLen; omega
  have inner:∀ k0 (j:Nat),j < l.length→zcm K0 k0 (l,(j:Int),0) = bif zU (fun i=>!eqI .str (l.getD i qn).1 (l.getD j qn).1) 0 j then k0 (l,wI ((j:Int) + 1)) else some (false,()):=fun k0 j hj =>
    z6 (i0:=0) (n:=j) (by omega) (Nat.zero_le _) (fun i=>(l,(j:Int),i)) (fun k i h3 h4=>by
      simp only [zcl]
      rw [ltT h4,zi (by omega),zi hj,zE,zE,← zrA]
      simp only [cond_true]
      cases eqI .str (l.getD i qn).1 (l.getD j qn).1 <;> rfl) (fun k=>by simp only [zcl]; rw [ltF]; rfl)
  have hloop:zgx K0 (l,0) = bif zU (fun j=>zdh (l.getD j qn) && zU (fun i=>!eqI .str (l.getD i qn).1 (l.getD j qn).1) 0 j) 0 (l.length - 0) then some (true,()) else some (false,()) :=
    z6 (i0:=0) hl (Nat.zero_le _) (fun i=>(l,i)) (fun k i h3 h4=>by
      simp only [y6]
      rw [ltT h4]
      simp only [zi h4,zE,zmw,Option.bind_some,cond_true]
      rw [inner k i h4]
      unfold zdh zS
      grind) (fun k=>by simp only [y6]; rw [ltF]; rfl)
  rw [hloop]
  have hw:zS (l.length:Int) 1 8 = true:=by unfold zS; grind
  have key:zU (fun j=>zdh (l.getD j qn) && zU (fun i=>!eqI .str (l.getD i qn).1 (l.getD j qn).1) 0 j) 0 (l.length - 0) = (l.all zdh && zgC (l.map (·.1))):=by
    have hm:∀ i,i < l.length→(l.map (·.1)).getD i (ze .str) = (l.getD i qn).1:=fun i hi=>by simp [List.getD,hi]
    rw [Bool.eq_iff_iff,Bool.and_eq_true,qP,zAY,List.all_eq_true]
    constructor
    · intro h
      refine ⟨fun x hx=>?_,fun i j h3 h4=>?_⟩
      · obtain ⟨i,hi,rfl⟩:=List.mem_iff_getElem.1 hx
        have e:l.getD i qn = l[i]:=by simp [List.getD,hi]
        rw [← e]
        have:=h i (by omega) (by omega)
        grind
      · rw [List.length_map] at h4
        rw [hm i (by omega),hm j h4]
        have:=h j (by omega) (by omega)
        simp only [Bool.and_eq_true,qP] at this
        have:=this.2 i (by omega) (by omega)
        simpa using this
    · rintro ⟨h3,h4⟩ j h5 h6
      simp only [Bool.and_eq_true,qP]
      refine ⟨h3 _ (zV (by omega)),fun i h7 h8=>?_⟩
      have:=h4 i j (by omega) (by rw [List.length_map]; omega)
      rw [hm i (by omega),hm j (by omega)] at this
      rw [this]; rfl
  rw [key,hw]
  grind
def zlX (r:zf):Bool:=zS (r.2.1.length:Int) 1 8 && r.2.1.all fun i=>decide (0 ≤ i) && decide (i < (r.1.length:Int))
theorem zNk (r:zf) (h:r.1.length ≤ 1000):yh (r,()) = some (zlX r,()):=by
  rw [zA]
  simp only [yh,zfk,Option.bind_some]
  unfold zlX
  by_cases hw:zS (List.length r.2.1:Int) 1 8 = true
  · have hb:1 ≤ List.length r.2.1 ∧ List.length r.2.1 ≤ 8:=by unfold zS at hw; grind
    have hq:∀ x:Int,(fun z:Int × Unit=>zcj (z.1,some r,())) (x,()) = some (!(decide (0 ≤ x) && decide (x < (r.1.length:Int))),()):=fun x=>by
      show zcj _ = _
      simp only [zcj,zfk,Option.bind_some]
      have:wI (((List.length r.1:Nat):Int) - 1) = (r.1.length:Int) - 1:=by
        unfold wI
        exact IntWalk.i64_in _ (by omega)
      rw [this]
      unfold zS
      grind
    rw [zdg (by unfold Go.maxLen; omega) fun x _=>hq x]
    simp only [Option.bind_some]
    have:=va (l:=r.2.1) (p:=fun i=>decide (0 ≤ i) && decide (i < (r.1.length:Int)))
    grind
  · grind
def zwa (r:zf):Bool:=zS r.2.2.2.2.2.1 0 24 && (zS r.2.2.2.2.2.2.1 0 48 && (zS r.2.2.2.2.2.2.2.1 1 4 && zS r.2.2.2.2.2.2.2.2.1 1 16))
theorem zNU (r:zf):y4 (r,()) = some (zwa r,()):=by
  simp only [y4,zfk,Option.bind_some,zwa]; grind
def zrB (q:zaw):Bool:=zS q.1 0 12 && (zS q.2.1 0 12 && (zS q.2.2.1 0 12 && (zS q.2.2.2.1 0 12 && zS q.2.2.2.2.1 0 12)))
def zhe:Int→List zaw→Bool
  | _,[]=>true
  | left,q :: l=>zrB q && (decide (q.2.2.2.2.2.1 ≤ left) && zhe (wU (left - q.2.2.2.2.2.1)) l)
theorem zKJ (x:Int):ze9 (x,()) = some (!zS x 0 12,()):=by
  simp only [ze9,zfk,Option.bind_some]; grind
def zfM (n:Nat) (l:List zaw):Bool:=decide (l.length = n) && (decide (0 < l.length) && (decide (1 ≤ (l.getD 0 qe).1) && zhe 4611686018427387904 l))
theorem zMK (r:zf) (h:1 ≤ r.1.length ∧ r.1.length ≤ 1000):vG (r,()) = some (zfM r.1.length r.2.2.2.2.1,()):=by
  rw [zA]
  simp only [vG,zg6]
  unfold zfM
  by_cases hn:r.2.2.2.2.1.length = r.1.length
  · have hl:r.2.2.2.2.1.length ≤ Go.maxLen:=by unfold Go.maxLen; omega
    have hloop:ziP K0 (4611686018427387904,r.2.2.2.2.1,(r.2.2.2.2.1.length:Int),0) = some (zhe 4611686018427387904 r.2.2.2.2.1,()) :=
      zoW (l:=r.2.2.2.2.1) (α:=Int) qe (fun i s=>(s,r.2.2.2.2.1,(r.2.2.2.2.1.length:Int),i)) (fun rest s=>some (zhe s rest,())) hl (fun k i x rest s hi hx _ hr hk=>by
        simp only [zff]
        rw [ltT hi,zi hi]
        simp only [zE,hx,cond_true]
        have hnum:zjy (x,()) = some ([x.1,x.2.1,x.2.2.1,x.2.2.2.1,x.2.2.2.2.1],()):=rfl
        rw [hnum]
        simp only [Option.bind_some]
        rw [zdg (p:=fun n=>!zS n 0 12) (l:=[x.1,x.2.1,x.2.2.1,x.2.2.2.1,x.2.2.2.2.1]) (by unfold Go.maxLen; simp) fun n _=>zKJ n]
        simp only [Option.bind_some,hk,zhe,zrB,List.any_cons,List.any_nil]
        grind) (fun k s=>by simp only [zff]; rw [ltF]; rfl) _
    rw [hloop,zKH]
    have h1:(((List.length r.2.2.2.2.1:Nat):Int) != ((List.length r.1:Nat):Int)) = false:=by rw [zia]; simp [hn]
    rw [h1]
    grind
  · have h1:(((List.length r.2.2.2.2.1:Nat):Int) != ((List.length r.1:Nat):Int)) = true:=by rw [zia]; simp [hn]
    rw [h1]
    grind
theorem zEB (x:Int):yg (x,()) = some (zS x 0 12,()):=by
  simp only [yg,zS]; grind
theorem zCx (l:List zaw) (hl:l.length ≤ Go.maxLen):zk3 (l,()) = some (zfM l.length l,()):=by
  rw [zA]
  show zg (yM) K0 (l,4611686018427387904,0) = _
  have hloop:zg (yM) K0 (l,4611686018427387904,0) = some (zhe 4611686018427387904 l && (decide (0 < l.length) && decide (1 ≤ (l.getD 0 qe).1)),()) :=
    zoW (l:=l) (α:=Int) qe (fun i s=>(l,s,i)) (fun rest s=>some (zhe s rest && (decide (0 < l.length) && decide (1 ≤ (l.getD 0 qe).1)),())) hl (fun k i x rest s hi hx _ hr hk=>by
      simp only [yM]
      rw [ltT hi,zi hi]
      simp only [zE,hx,cond_true,zEB,Option.bind_some,hk,zhe,zrB]
      grind) (fun k s=>by
      simp only [yM]
      rw [ltF,zKH]
      simp only [zhe]
      grind) _
  rw [hloop]
  unfold zfM
  grind
end Go.Proofs.YtlklokhlgcfcdaaGreatDoor
end
section
namespace Go.Proofs.YtlklokhlgcfcdaaGreatDoor
open Go.Ev
def zyF (b:Int):Int:=((2 ^ b.toNat:Nat):Int)
def yG (b:Int):Bool:=decide (0 ≤ b) && decide (b < 64)
theorem zL1 {b:Int} (h:yG b = true):Go.IntKind.wrap .u64 (1 * 2 ^ (min (Int.toNat b) (Go.IntKind.bits .u64))) = zyF b:=by
  unfold yG at h
  simp only [Bool.and_eq_true,decide_eq_true_eq] at h
  obtain ⟨n,rfl⟩:=Int.eq_ofNat_of_zero_le h.1
  have hn:n < 64:=by omega
  unfold zyF
  rw [Int.toNat_natCast]
  have hm:min n (Go.IntKind.bits .u64) = n:=Nat.min_eq_left (by show n ≤ 64; omega)
  rw [hm]
  have:∀ n:Fin 64,Go.IntKind.wrap .u64 (1 * 2 ^ n.val) = ((2 ^ n.val:Nat):Int):=by decide +kernel
  exact this ⟨n,hn⟩
theorem zdR {n:Int} (h:0 ≤ n ∧ n < 18446744073709551616):Go.IntKind.wrap .u64 n = n:=by
  show n % ((2 ^ 64:Nat):Int) = n
  exact Int.emod_eq_of_lt h.1 (by have:((2 ^ 64:Nat):Int) = 18446744073709551616:=by decide
                                  omega)
def zmx (c:Int) (b:Nat):Bool:=c.toNat.testBit b
theorem has_eq (c b:Int) (hc:0 ≤ c) (hb:0 ≤ b ∧ b < 64):(Int.tmod (Int.fdiv c (2 ^ min (Int.toNat (Go.IntKind.wrap .u64 b)) (Go.IntKind.bits .u64))) 2 == 1) = zmx c b.toNat:=by
  obtain ⟨n,rfl⟩:=Int.eq_ofNat_of_zero_le hc
  obtain ⟨m,rfl⟩:=Int.eq_ofNat_of_zero_le hb.1
  rw [zdR (by omega)]
  have hm:min (Int.toNat (m:Int)) (Go.IntKind.bits .u64) = m:=Nat.min_eq_left (by show (m:Int).toNat ≤ 64; omega)
  rw [hm]
  unfold zmx
  have h2:Int.fdiv (n:Int) (2 ^ m) = ((n / 2 ^ m:Nat):Int):=by
    rw [show ((2:Int) ^ m) = ((2 ^ m:Nat):Int) by simp]
    rw [Int.fdiv_eq_ediv_of_nonneg _ (Int.natCast_nonneg _)]
    rfl
  have h3:Int.tmod ((n / 2 ^ m:Nat):Int) 2 = ((n / 2 ^ m % 2:Nat):Int):=by
    rw [Int.tmod_eq_emod_of_nonneg (Int.natCast_nonneg _)]
    rfl
  rw [h2,h3,Int.toNat_natCast,Int.toNat_natCast,Nat.testBit_eq_decide_div_mod_eq]
  have:(((n / 2 ^ m % 2:Nat):Int) == 1) = decide (n / 2 ^ m % 2 = 1):=by
    by_cases h:n / 2 ^ m % 2 = 1
    · rw [h]; rfl
    · rw [decide_eq_false h]
      cases hx:(((n / 2 ^ m % 2:Nat):Int) == 1) with
      | false=>rfl
      | true=>exact absurd (Int.ofNat.inj (by simpa using hx)) h
  exact this
def zhf (a b:Int):Int:=Go.IntKind.wrap .u64 (BitVec.toNat (BitVec.ofInt (Go.IntKind.bits .u64) a &&& ~~~BitVec.ofInt (Go.IntKind.bits .u64) b):Int)
def orI (a b:Int):Int:=Go.IntKind.wrap .u64 (BitVec.toNat (BitVec.ofInt (Go.IntKind.bits .u64) a ||| BitVec.ofInt (Go.IntKind.bits .u64) b):Int)
def zm2:Int→List z7→Int
  | a,[]=>a
  | a,g :: gs=>zm2 (orI a (zyF g.1)) gs
theorem zlY (n:Nat):BitVec.ofInt (Go.IntKind.bits .u64) (n:Int) = BitVec.ofNat 64 n:=by
  show BitVec.ofInt 64 (n:Int) = BitVec.ofNat 64 n
  apply BitVec.eq_of_toNat_eq
  rw [BitVec.toNat_ofInt,BitVec.toNat_ofNat]
  omega
theorem zM0 (x:BitVec 64):Go.IntKind.wrap .u64 (x.toNat:Int) = (x.toNat:Int):=by
  have:=x.isLt
  exact zdR (by omega)
theorem zNl (a b:Nat) (ha:a < 2 ^ 64) (hb:b < 2 ^ 64):orI (a:Int) (b:Int) = ((a ||| b:Nat):Int):=by
  unfold orI
  rw [zlY,zlY]
  show Go.IntKind.wrap .u64 ((BitVec.ofNat 64 a ||| BitVec.ofNat 64 b).toNat:Int) = _
  rw [zM0,BitVec.toNat_or,BitVec.toNat_ofNat,BitVec.toNat_ofNat,Nat.mod_eq_of_lt ha,Nat.mod_eq_of_lt hb]
theorem zxn (c m:Nat) (hc:c < 2 ^ 64) (hm:m < 2 ^ 64):(zhf (c:Int) (m:Int) != 0) = !((List.range' 0 64).all fun i=>!c.testBit i || m.testBit i):=by
  unfold zhf
  rw [zlY,zlY]
  show (Go.IntKind.wrap .u64 ((BitVec.ofNat 64 c &&& ~~~BitVec.ofNat 64 m).toNat:Int) != 0) = _
  rw [zM0]
  have hbit:∀ i,i < 64→(BitVec.ofNat 64 c &&& ~~~BitVec.ofNat 64 m).getLsbD i = (c.testBit i && !m.testBit i):=by
    intro i hi
    rw [BitVec.getLsbD_and,BitVec.getLsbD_not,BitVec.getLsbD_ofNat,BitVec.getLsbD_ofNat]
    simp [hi]
  by_cases h:((List.range' 0 64).all fun i=>!c.testBit i || m.testBit i) = true
  · rw [h]
    have h0:(BitVec.ofNat 64 c &&& ~~~BitVec.ofNat 64 m) = 0#64:=by
      apply BitVec.eq_of_getLsbD_eq
      intro i hi
      rw [hbit i hi]
      have:=List.all_eq_true.1 h i (by simp [List.mem_range'_1]; omega)
      revert this
      cases c.testBit i <;> cases m.testBit i <;> simp
    rw [h0]
    rfl
  · have h':=h
    simp only [Bool.not_eq_true] at h'
    rw [h']
    have:(BitVec.ofNat 64 c &&& ~~~BitVec.ofNat 64 m).toNat ≠ 0:=by
      intro h0
      apply h
      rw [List.all_eq_true]
      intro i hi
      simp only [List.mem_range'_1] at hi
      have hb:=hbit i (by omega)
      have e0:(BitVec.ofNat 64 c &&& ~~~BitVec.ofNat 64 m) = 0#64:=BitVec.eq_of_toNat_eq (by rw [h0]; rfl)
      rw [e0] at hb
      revert hb
      cases c.testBit i <;> cases m.testBit i <;> simp
    rw [Bool.not_false,bne_iff_ne]
    omega
theorem zML {b:Int} (h:yG b = true):∃ n:Nat,b = n ∧ n < 64 ∧ zyF b = ((2 ^ n:Nat):Int):=by
  unfold yG at h
  simp only [Bool.and_eq_true,decide_eq_true_eq] at h
  obtain ⟨n,rfl⟩:=Int.eq_ofNat_of_zero_le h.1
  exact ⟨n,rfl,by omega,rfl⟩
theorem zAZ:∀ (l:List z7) (m:Nat),m < 2 ^ 64→(∀ g ∈ l,yG g.1 = true)→∃ k:Nat,zm2 (m:Int) l = (k:Int) ∧ k < 2 ^ 64 ∧ ∀ i:Nat,k.testBit i = (m.testBit i || l.any fun g=>g.1 == (i:Int))
  | [],m,hm,_=>⟨m,rfl,hm,fun i=>by simp⟩
  | g :: l,m,hm,h=>by
    obtain ⟨n,hn,hn64,hv⟩:=zML (h g (by simp))
    have hp:2 ^ n < 2 ^ 64:=Nat.pow_lt_pow_right (by omega) hn64
    obtain ⟨k,hk,hk64,hb⟩:=zAZ l (m ||| 2 ^ n) (Nat.or_lt_two_pow hm hp) fun g hg=>h g (by simp [hg])
    refine ⟨k,?_,hk64,fun i=>?_⟩
    · simp only [zm2]
      rw [hv,zNl m (2 ^ n) hm hp]
      exact hk
    · rw [hb i,Nat.testBit_or,Nat.testBit_two_pow,List.any_cons,hn,Bool.or_assoc]
      congr 2
      by_cases e:n = i
      · subst e; simp
      · rw [decide_eq_false e]
        symm
        simp only [beq_eq_false_iff_ne,ne_eq]
        omega
def zwb (l:List z7) (c:Int) (i k:Nat):Bool:=(List.range' i k).all fun b=>!zmx c b || l.any fun g=>g.1 == (b:Int)
def zvJ (labels:List zy) (l:List z7):Bool:=labels.all fun a=>zwb l a.2.1 0 64
def zol (l:List zy):Prop:=∀ a ∈ l,0 ≤ a.2.1 ∧ a.2.1 < 18446744073709551616
theorem zNV (labels:List zy) (l:List z7) (hl:zol labels) (h:∀ g ∈ l,yG g.1 = true):(labels.any fun a=>zhf a.2.1 (zm2 0 l) != 0) = !zvJ labels l:=by
  obtain ⟨k,hk,hk64,hb⟩:=zAZ l 0 (by decide) h
  have hk':zm2 0 l = (k:Int):=hk
  rw [hk']
  unfold zvJ
  have key:∀ ls:List zy,zol ls→(ls.any fun a=>zhf a.2.1 (k:Int) != 0) = !(ls.all fun a=>zwb l a.2.1 0 64):=by
    intro ls
    induction ls with
    | nil=>intro _; rfl
    | cons a ls ih =>
      intro ha
      have h1:=ha a (by simp)
      rw [List.any_cons,List.all_cons,ih fun b hb=>ha b (by simp [hb]),Bool.not_and]
      congr 1
      obtain ⟨c,hc⟩:=Int.eq_ofNat_of_zero_le h1.1
      rw [hc,zxn c k (by omega) hk64]
      congr 1
      unfold zwb
      congr 1
      funext i
      rw [hb i]
      unfold zmx
      simp
  exact key labels hl
def zst (b:Int):zy:=(0,zyF b,())
theorem zG7 (b:Int):zjx (b,()) = some (bif yG b then (zst b,0,()) else ((0,0,()),1,())):=by
  simp only [zjx]
  cases h:yG b with
  | true =>
    have hs:wU (1 * 2 ^ min (Int.toNat b) (Go.IntKind.bits .u64)) = zyF b:=zL1 h
    rw [hs]
    simp only [yG,Bool.and_eq_true,decide_eq_true_eq] at h
    simp only [zst]
    grind
  | false =>
    simp only [yG,Bool.and_eq_false_iff,decide_eq_false_iff_not] at h
    grind
theorem zKK (a:zy) (c:Int):ziJ (a,some c,()) = some (zhf a.2.1 c != 0,()):=by
  rw [zA]; rfl
theorem zKL (a b:zy):eqI zq a b = eqI zq b a:=by
  rw [zpL,zpL]
  grind
theorem zG8 {σ α:Type} {B:(σ→Option (Int × Unit))→σ→Option (Int × Unit)} {l:List α} (d:α) {p:α→Bool} (st:Int→σ) (hl:l.length ≤ Go.maxLen)
    (hin:∀ k (i:Nat) x,i < l.length→l.getD i d = x→x ∈ l→B k (st i) = bif p x then some ((i:Int),()) else k (st (wI (i + 1)))) (hout:∀ k,B k (st l.length) = some (-1,())):zg B K0 (st 0) = some (vf p l 0,()):=by
  have:=zfH (α:=Unit) (B:=B) hl (fun i _=>st i) (fun i _=>some (vf p (l.drop i) i,())) (fun _ _=>True) (fun k i s hi _ h=>?_) (fun k s _=>?_) () trivial
  · simpa using this
  · rw [hin k i _ hi rfl (zV hi),h () trivial,zb2 d hi]
    simp only [vf]
    cases p (l.getD i d) <;> rfl
  · rw [hout,List.drop_of_length_le (Nat.le_refl _)]; rfl
theorem zMM {σ α ρ:Type} {B:(σ→Option ρ)→σ→Option ρ} {l:List α} (d:α) {p:α→Bool} {fin hit:Option ρ} (st:Int→σ) (hl:l.length ≤ Go.maxLen)
    (hin:∀ k (i:Nat) x,i < l.length→l.getD i d = x→x ∈ l→B k (st i) = bif p x then hit else k (st (wI (i + 1)))) (hout:∀ k,B k (st l.length) = fin):zg B K0 (st 0) = bif l.any p then hit else fin:=by
  have:=jA (B:=B) (p:=fun x=>!p x) (fin:=fin) (bad:=hit) d st hl (fun k i x h1 h2 h3=>by
    rw [hin k i x h1 h2 h3]; cases p x <;> rfl) hout
  rw [this,← List.not_any_eq_all_not]
  cases l.any p <;> rfl
theorem zyG {l:List zy} {a:zy} (hl:l.length ≤ Go.maxLen):zbJ (l,a,()) = some (l.any fun y=>eqI zq a y,()):=by
  have h:ziI (l,a,()) = some (vf (fun y=>eqI zq a y) l 0,()) :=
    zG8 (B:=y3) (l:=l) je (fun i=>(l,(l.length:Int),i,a)) hl (fun k i x hi hx _=>by
      simp only [y3]
      rw [ltT hi,zi hi,zE,hx]; rfl) (fun k=>by simp only [y3]; rw [ltF]; rfl)
  rw [zA]
  simp only [zbJ,h,Option.bind_some]
  rw [zxN (p:=fun y=>eqI zq a y) l 0 (Int.le_refl 0)]
theorem zDc {α:Type} {p:α→Bool}:∀ (xs:List α) (i:Int),0 ≤ i→decide (vf p xs i < 0) = !xs.any p
  | [],_,_=>rfl
  | x :: xs,i,h=>by
    have ih:=zDc (p:=p) xs (i + 1) (by omega)
    simp only [vf,List.any_cons]
    by_cases hp:p x = true
    · simp [hp]; omega
    · simp only [Bool.not_eq_true] at hp
      simpa [hp] using ih
theorem zG9 (b:Int) (h:yG b = true):zgt (b,()) = some (zst b,()):=by
  simp only [zgt]
  have hs:=zL1 h
  simp only [yG,Bool.and_eq_true,decide_eq_true_eq] at h
  have hw:wU b = b:=zdR (by omega)
  rw [hw,decide_eq_false (by omega),cond_false]
  exact congrArg (fun z:Int=>some (((0,z,()),()):zy × Unit)) hs
theorem zEC {l:List zy} {a:zy} (hl:l.length ≤ Go.maxLen):zig (l,a,()) = some (vf (fun y=>eqI zq y a) l 0,()) :=
  zG8 (B:=zcd) (l:=l) je (fun i=>(l,i,a)) hl (fun k i x hi hx _=>by
      simp only [zcd]
      rw [ltT hi,zi hi,zE,hx]; rfl) (fun k=>by simp only [zcd]; rw [ltF]; rfl)
theorem zIX {l:List z7} {b:Int} (hl:l.length ≤ Go.maxLen):zqf (l,b,()) = some (l.any fun g=>(g.1:Int) == b,()):=by
  rw [zA]
  exact zMM (B:=zfn) (l:=l) qF (fun i=>(l,b,i)) hl (fun k i x hi hx _=>by
      simp only [zfn]
      rw [ltT hi,zi hi,zE,hx]; rfl) (fun k=>by simp only [zfn]; rw [ltF]; rfl)
theorem zqq (a:zy) (b:Int) (ha:0 ≤ a.2.1) (hb:0 ≤ b ∧ b < 64):zfJ (a,b,()) = some (zmx a.2.1 b.toNat,()):=by
  rw [zA]
  simp only [zfJ]
  have hh:=has_eq a.2.1 b ha hb
  have hw:wU b = b:=zdR (by omega)
  rw [hw,decide_eq_false (by omega),cond_false,← hh]
  have hw':Go.IntKind.wrap .u64 b = b:=hw
  rw [hw']
def zyH (labels:List zy) (n:Nat) (last:Int) (g:z7):Bool:=yG g.1 && (decide (last < g.1) && (zS g.2.1 0 ((n:Int) - 1) && labels.any fun y=>eqI zq (zst g.1) y))
def zgD (labels:List zy) (n:Nat):Int→List z7→Bool
  | _,[]=>true
  | last,g :: gs=>zyH labels n last g && zgD labels n g.1 gs
def znb (labels:List zy) (n:Nat) (l:List z7):Bool:=decide (l.length ≤ 8) && (zgD labels n (-1) l && zvJ labels l)
theorem zDd {labels:List zy} {m:Nat}:∀ (l:List z7) (last:Int),zgD labels m last l = true→∀ g ∈ l,yG g.1 = true
  | [],_,_,g,hg=>by cases hg
  | a :: l,last,h,g,hg=>by
    simp only [zgD,zyH,Bool.and_eq_true] at h
    rcases List.mem_cons.1 hg with rfl | hg
    · exact h.1.1
    · exact zDd l a.1 h.2 g hg
theorem zMN (r:zf) (h1:r.1.length ≤ Go.maxLen) (h2:r.2.2.1.length ≤ 1000000) (h3:r.2.2.2.1.length ≤ Go.maxLen) (hL:zol r.1):vF (r,()) = some (znb r.1 r.2.2.1.length r.2.2.2.1,()):=by
  have hloop:vF (r,()) = some (zgD r.1 r.2.2.1.length (-1) r.2.2.2.1 && (decide (r.2.2.2.1.length ≤ 8) && !(r.1.any fun a=>zhf a.2.1 (zm2 0 r.2.2.2.1) != 0)),()) :=
    zoW (B := zbi) (l:=r.2.2.2.1) (α:=Int × Int) qF (fun i s=>(s.1,r.2.2.2.1,(r.2.2.2.1.length:Int),i,r,s.2))
      (fun rest s=>some (zgD r.1 r.2.2.1.length s.1 rest && (decide (r.2.2.2.1.length ≤ 8) && !(r.1.any fun a=>zhf a.2.1 (zm2 s.2 rest) != 0)),())) h3 (fun k i x rest s hi hx _ hr hk=>by
        simp only [zbi]
        have hw:wI (((List.length r.2.2.1:Nat):Int) - 1) = (r.2.2.1.length:Int) - 1:=by
          unfold wI
          exact IntWalk.i64_in _ (by omega)
        rw [ltT hi,zi hi,hw]
        simp only [zE,hx,cond_true,zG7,Option.bind_some,zgD,zyH,zm2]
        cases hb:yG x.1 with
        | false=>rfl
        | true =>
          simp only [cond_true,zfk,Option.bind_some,Bool.true_and,zyG h1]
          have hk':=hk (x.1,orI s.2 (zyF x.1))
          have e:decide (s.1 < x.1) = !decide ((x.1:Int) ≤ s.1):=by grind
          rw [e]
          cases decide ((x.1:Int) ≤ s.1) with
          | true=>rfl
          | false =>
            cases zS x.2.1 0 ((r.2.2.1.length:Int) - 1) with
            | false=>rfl
            | true =>
              cases (r.1.any fun y=>eqI zq (zst x.1) y) with
              | false=>rfl
              | true=>exact hk') (fun k s=>by
        simp only [zbi]
        rw [ltF]
        simp only [cond_false,zgD,zm2,Bool.true_and]
        rw [zkl (p:=fun a=>zhf a.2.1 s.2 != 0) h1 fun x _=>zKK x s.2,Option.bind_some]
        grind) (-1,0)
  rw [hloop]
  unfold znb
  cases hr:zgD r.1 r.2.2.1.length (-1) r.2.2.2.1 with
  | false=>simp
  | true =>
    rw [zNV r.1 r.2.2.2.1 hL (zDd _ _ hr)]
    simp
theorem zA0 {labels:List zy} {n:Nat}:∀ {l:List z7} {last:Int},zgD labels n last l = zU (fun i=>zyH labels n (if i = 0 then last else (l.getD (i - 1) qF).1) (l.getD i qF)) 0 l.length:=by
  intro l
  induction l with
  | nil=>intro last; rfl
  | cons a l ih =>
    intro last
    simp only [zgD,List.length_cons,zU,ih]
    rw [Bool.eq_iff_iff]
    simp only [Bool.and_eq_true,qP]
    constructor
    · rintro ⟨h1,h2⟩
      refine ⟨h1,fun j h3 h4=>?_⟩
      obtain ⟨i,rfl⟩:∃ i,j = i + 1:=⟨j - 1,by omega⟩
      have:=h2 i (by omega) (by omega)
      rw [if_neg (by omega)]
      by_cases e:i = 0
      · subst e; simpa using this
      · rw [if_neg e] at this
        obtain ⟨m,rfl⟩:∃ m,i = m + 1:=⟨i - 1,by omega⟩
        exact this
    · rintro ⟨h1,h2⟩
      refine ⟨h1,fun j h3 h4=>?_⟩
      have:=h2 (j + 1) (by omega) (by omega)
      rw [if_neg (by omega)] at this
      by_cases e:j = 0
      · subst e; simpa using this
      · rw [if_neg e]
        obtain ⟨m,rfl⟩:∃ m,j = m + 1:=⟨j - 1,by omega⟩
        exact this
theorem zCy (l:List z7) (labels:List zy) (n:Nat) (h1:labels.length ≤ Go.maxLen) (hL:zol labels):zg4 (l,labels,(n:Int),()) = some (znb labels n l,()):=by
  rw [zA]
  simp only [zg4,zg3]
  unfold znb
  by_cases h8:l.length ≤ 8
  · have hl:l.length ≤ Go.maxLen:=by unfold Go.maxLen; omega
    have bits:∀ k1 (j:Nat),j < labels.length→zg (yL k1) K0 (l,labels,(j:Int),0) = bif zwb l (labels.getD j je).2.1 0 64 then k1 (l,labels,wI ((j:Int) + 1)) else some (false,()):=fun k1 j hj=>by
      have hc:=(hL _ (zV (d:=je) hj)).1
      have:=zC9 (B:=yL k1) (n:=64) (by unfold Go.maxLen; omega) (p:=fun b=>!zmx (labels.getD j je).2.1 b || l.any fun g=>(g.1:Int) == (b:Int)) (fin:=k1 (l,labels,wI ((j:Int) + 1))) (bad:=some (false,())) (fun i=>(l,labels,(j:Int),i)) (fun k i hi=>by
        simp only [yL]
        rw [decide_eq_true (by omega),zi hj,zE,zqq _ _ hc (by omega),zIX hl,Int.toNat_natCast]
        simp only [cond_true,Option.bind_some]
        grind) (fun k=>by
        simp only [yL]
        rfl)
      rw [this]
      unfold zwb
      rw [List.range_eq_range']
    have cover:zfe K0 (l,labels,0) = some (zvJ labels l,()):=by
      rw [zA]
      exact jA (l:=labels) je (p:=fun a=>zwb l a.2.1 0 64) (fun i=>(l,labels,i)) h1 (fun k i x hi hx _=>by
        simp only [zbe]
        rw [ltT hi,cond_true]
        refine (bits k i hi).trans ?_
        rw [hx]) (fun k=>by simp only [zbe]; rw [ltF]; rfl)
    have hloop:ziO K0 (l,labels,(n:Int),0) = bif zU (fun i=>zyH labels n (if i = 0 then -1 else (l.getD (i - 1) qF).1) (l.getD i qF)) 0 (l.length - 0) then some (zvJ labels l,()) else some (false,()) :=
      z6 (i0:=0) hl (Nat.zero_le _) (fun i=>(l,labels,(n:Int),i)) (fun k i h3 h4=>by
        simp only [zbf]
        rw [ltT h4]
        simp only [zi h4,cond_true,zE,zyH]
        by_cases hb:yG (l.getD i qF).1 = true
        · rw [zG9 _ hb,Option.bind_some,zEC h1,Option.bind_some,hb]
          have ha:(labels.any fun y=>eqI zq y (zst (l.getD i qF).1)) = labels.any fun y=>eqI zq (zst (l.getD i qF).1) y:=by congr 1; funext y; exact zKL _ _
          rw [zDc labels 0 (Int.le_refl 0),ha]
          simp only [yG,Bool.and_eq_true,decide_eq_true_eq] at hb
          by_cases hi0:i = 0
          · subst hi0
            unfold zS
            grind
          · rw [zi2 (by omega) (by unfold Go.maxLen; omega),zi (by omega),Int.toNat_natCast,if_neg hi0]
            unfold zS
            grind
        · simp only [Bool.not_eq_true] at hb
          rw [hb]
          simp only [yG,Bool.and_eq_false_iff,decide_eq_false_iff_not] at hb
          grind) (fun k=>by
        simp only [zbf]
        rw [ltF,cond_false]
        exact cover)
    rw [hloop,zA0]
    grind
  · grind
def qZ (r:zf):Bool:=zbS r.1 && (zlX r && (zeN r.2.2.1 && (znb r.1 r.2.2.1.length r.2.2.2.1 && (zfM r.1.length r.2.2.2.2.1 && zwa r))))
structure qg (r:zf):Prop where
  labels:zol r.1
  guilds:r.2.2.2.1.length ≤ Go.maxLen
  quotas:r.2.2.2.2.1.length ≤ Go.maxLen
theorem zmy (r:zf) (h:qg r):zap (r,()) = some (qZ r,()):=by
  rw [zA]
  show zg zf9 K0 (6,0,r,[some vH,some yh,some jR,some vF,some vG,some y4]) = _
  obtain ⟨m,hm⟩:=zv8
  have hu:zg zf9 (m + 8) (6,0,r,[some vH,some yh,some jR,some vF,some vG,some y4]) =
    Option.bind (vH (r,())) fun q=>bif q.1 then Option.bind (yh (r,())) fun q=>bif q.1 then Option.bind (jR (r,())) fun q=>bif q.1 then Option.bind (vF (r,())) fun q=>bif q.1 then Option.bind (vG (r,())) fun q=>bif q.1 then Option.bind (y4 (r,())) fun q=>bif q.1 then some (true,()) else some (false,()) else some (false,()) else some (false,()) else some (false,()) else some (false,()) else some (false,()):=by kernel_rfl
  rw [hm,hu,zMI]
  unfold qZ
  simp only [Option.bind_some]
  cases h1:zbS r.1 with
  | false=>rfl
  | true =>
    have hb:1 ≤ r.1.length ∧ r.1.length ≤ 8:=by unfold zbS zS at h1; grind
    rw [zNk r (by omega),zKI]
    simp only [Option.bind_some,cond_true]
    cases zlX r with
    | false=>rfl
    | true =>
      cases h2:zeN r.2.2.1 with
      | false=>rfl
      | true =>
        have hc:r.2.2.1.length ≤ 8:=by unfold zeN zS at h2; grind
        rw [zMN r (by unfold Go.maxLen; omega) (by omega) h.guilds h.labels,zMK r (by omega),zNU]
        simp only [Option.bind_some]
        grind
theorem ztG (r:zf) (h:qg r):zfv (r,()) = some (qZ r,()):=by
  rw [zA]
  simp only [zfv,zin,zCw,zyE,Option.bind_some]
  unfold qZ
  cases h1:zbS r.1 with
  | false=>rfl
  | true =>
    have hb:1 ≤ r.1.length ∧ r.1.length ≤ 8:=by unfold zbS zS at h1; grind
    rw [zCy _ _ _ (by unfold Go.maxLen; omega) h.labels]
    simp only [Option.bind_some]
    by_cases hw:zS (List.length r.2.1:Int) 1 8 = true
    · have hloop:zj0 K0 (0,r) = bif (r.2.1.all fun i=>decide (0 ≤ i) && decide (i < (r.1.length:Int))) then some (zfM r.1.length r.2.2.2.2.1 && zwa r,()) else some (false,()) :=
        jA (l:=r.2.1) (0:Int) (fun i=>(i,r)) (by unfold zS at hw; unfold Go.maxLen; grind) (fun k i x hi hx _=>by
          simp only [zf4]
          rw [ltT hi,zi hi,zi hi,zE,hx]
          grind) (fun k=>by
          simp only [zf4]
          rw [ltF,zCx _ h.quotas,zia]
          simp only [Option.bind_some,zfM,zwa,zS]
          by_cases hn:r.2.2.2.2.1.length = r.1.length
          · rw [hn]; grind
          · grind)
      rw [hloop]
      unfold zlX
      unfold zS at hw ⊢
      grind
    · unfold zlX
      unfold zS at hw ⊢
      grind
end Go.Proofs.YtlklokhlgcfcdaaGreatDoor
end
section
namespace Go.Proofs.YtlklokhlgcfcdaaGreatDoor
open Go.Ev
def qW (x:Int):Bool:=decide (0 ≤ x ∧ x ≤ 127)
theorem zKM (x:Int):ze0 (x,()) = some (qW x,()):=by simp only [ze0,qW]; grind
theorem zIY (x:Int):zhS (x,()) = some (qW x,()):=by simp only [zhS,qW]; grind
theorem zL2 (x:Int):zi8 (x,()) = some (qW x,()):=by simp only [zi8,qW]; grind
theorem zIZ (x:Int):zfK (x,()) = some (qW x,()):=by simp only [zfK,qW]; grind
def zpM (x:vJ):Bool:=qW x.1 && qW x.2.1
theorem zNm (x:vJ):zgp (x,()) = some (zpM x,()):=by simp only [zgp,zpM,qW]; grind
theorem ztH (x:vJ):qH (x,()) = some (zpM x,()):=by simp only [qH,zpM,qW]; grind
def zFe (x:Int):Bool:=decide (0 ≤ x ∧ x ≤ 5)
theorem zNn (x:Int):zjA (x,()) = some (zFe x,()):=by simp only [zjA,zFe]; grind
def zom (s:ByteArray):Bool:=ByteArray.toList s == ByteArray.toList (ByteArray.mk #[])
def zkp (x:qS):Bool:=bif x.1 then zko x.2.1 else zom x.2.1
theorem zI0 {s:ByteArray} (h:zom s = true):zko s = false:=by
  unfold zom at h
  have:=eq_of_beq h
  rw [Go.ByteArray.toList_eq,Go.ByteArray.toList_eq] at this
  have h2:s.size = 0:=by
    rw [← zna,this]; rfl
  unfold zko; rw [h2]; rfl
theorem zL3 (x:qS):zha (x,()) = some (!zkp x,()):=by
  rw [zA]
  simp only [zha,zok,Option.bind_some,zkp,zom]
  grind
theorem zHa {l:List qS} (hl:l.length ≤ Go.maxLen):zkb (l,()) = some (l.all zkp,()):=by
  rw [zA]
  simp only [zkb]
  rw [zua (p:=fun x=>!zkp x) hl fun x _=>zL3 x,Option.bind_some,← va]
  cases l.any fun x=>!zkp x <;> rfl
theorem zED {l:List qS} (hl:l.length ≤ Go.maxLen):zl8 (l,()) = some (l.all zkp,()):=by
  rw [zA]
  exact jA (B:=zco) (l:=l) zgS (fun i=>(l,i)) hl (fun k i x hi hx _=>by
    simp only [zco]
    rw [ltT hi]
    simp only [zi hi,zE,hx,zmw,Option.bind_some,cond_true,zkp]
    have:=@zI0 x.2.1
    unfold zom at this ⊢
    grind) (fun k=>by simp only [zco]; rw [ltF]; rfl)
theorem zNo (a b:vJ):eqI zM a b = ((a.1:Int) == b.1 && (a.2.1:Int) == b.2.1):=by
  show cond ((a.1:Int) == b.1) (cond ((a.2.1:Int) == b.2.1) true false) false = _
  cases ((a.1:Int) == b.1) <;> cases ((a.2.1:Int) == b.2.1) <;> rfl
def zvK (x:z9):Bool:=bif x.1 then zpM x.2.1 && (zpM x.2.2.1 && zFe x.2.2.2.1) else eqI zT x (ze zT)
theorem zHb (x:z9):zjL (x,()) = some (!zvK x,()):=by
  rw [zA]
  simp only [zjL,zNm,zNn,Option.bind_some,zvK]
  grind
def zhg (a b:z9):Bool:=a.1 && (eqI zM a.2.1 b.2.1 && (a.2.2.2.1:Int) == b.2.2.2.1)
theorem zCz (x:z9) (r:vJ) (d:Int):zgU (x,some r,some d,()) = some (x.1 && (eqI zM x.2.1 r && (x.2.2.2.1:Int) == d),()):=by
  rw [zA]
  simp only [zgU,Option.bind_some]
  grind
theorem zNp {α:Type} {d:α} {p:α→Bool}:∀ (l:List α) (i:Nat) (a:Int),i < l.length→p (l.getD i d) = true→((vf p l a) == a + (i:Int)) = zU (fun j=>!p (l.getD j d)) 0 i:=by
  intro l
  induction l with
  | nil=>intro i a h; simp at h
  | cons x l ih =>
    intro i a h hp
    cases i with
    | zero =>
      have hx:p x = true:=hp
      simp only [vf,hx,cond_true,zU]
      simp
    | succ i =>
      have h':i < l.length:=by simpa using h
      have hp':p (l.getD i d) = true:=hp
      have:=ih i (a + 1) h' hp'
      have e:a + 1 + (i:Int) = a + ((i + 1:Nat):Int):=by omega
      rw [e] at this
      simp only [vf]
      rw [Bool.eq_iff_iff,qP]
      rw [Bool.eq_iff_iff,qP] at this
      cases hx:p x with
      | true =>
        simp only [cond_true]
        constructor
        · intro h1
          have:=eq_of_beq h1
          omega
        · intro h1
          have h2:(!p x) = true:=h1 0 (by omega) (by omega)
          rw [hx] at h2; cases h2
      | false =>
        simp only [cond_false]
        rw [this]
        constructor
        · intro h1 j _ h2
          cases j with
          | zero=>show (!p x) = true; rw [hx]; rfl
          | succ j=>exact h1 j (by omega) (by omega)
        · intro h1 j _ h2
          exact h1 (j + 1) (by omega) (by omega)
def zA1 (l:List z9):Bool:=zU (fun i=>zvK (l.getD i qh) && bif (l.getD i qh).1 then zU (fun j=>!zhg (l.getD j qh) (l.getD i qh)) 0 i else true) 0 (l.length - 0)
theorem zHc {l:List z9} (hl:l.length ≤ Go.maxLen):zn5 (l,()) = some (zA1 l,()):=by
  rw [zA]
  exact z6 (B:=zes) (i0:=0) hl (Nat.zero_le _) (fun i=>(l,l,(l.length:Int),i)) (fun k i h1 h2=>by
    simp only [zes]
    rw [ltT h2,zi h2]
    simp only [zE,zHb,Option.bind_some,cond_true]
    cases he:zvK (l.getD i qh) with
    | false=>rfl
    | true =>
      cases hs:(l.getD i qh).1 with
      | false=>rfl
      | true =>
        have hi:zjM (l,(l.getD i qh).2.1,(l.getD i qh).2.2.2.1,()) = some (vf (fun x=>zhg x (l.getD i qh)) l 0,()):=by
          simp only [zjM]
          rw [zoi (p:=fun x=>zhg x (l.getD i qh)) hl fun x _=>zCz x _ _]
          rfl
        have hp:zhg (l.getD i qh) (l.getD i qh) = true:=by
          unfold zhg; rw [zNo,hs]; simp
        have:=zNp (d:=qh) (p:=fun x=>zhg x (l.getD i qh)) l i 0 h2 hp
        rw [Int.zero_add] at this
        rw [hi,← this]
        simp only [Option.bind_some,Bool.not_true,cond_false,cond_true,Bool.true_and,bne]
        cases (vf (fun x=>zhg x (l.getD i qh)) l 0 == (i:Int)) <;> rfl) (fun k=>by simp only [zes]; rw [ltF]; rfl)
theorem zEE {l:List z9} (hl:l.length ≤ Go.maxLen):zma (l,()) = some (zA1 l,()):=by
  rw [zA]
  have inner:∀ k0 (i:Nat),i < l.length→zcr K0 k0 (l,(i:Int),0,l.getD i qh) = bif zU (fun j=>!((l.getD i qh).1 && zhg (l.getD j qh) (l.getD i qh))) 0 (i - 0) then k0 (l,wI ((i:Int) + 1)) else some (false,()):=fun k0 i hi =>
    z6 (B:=zcq k0) (i0:=0) (n:=i) (by omega) (Nat.zero_le _) (fun j=>(l,(i:Int),j,l.getD i qh)) (fun k j h1 h2=>by
      simp only [zcq]
      rw [ltT h2]
      simp only [zi (show j < l.length by omega),zE,cond_true,zhg]
      grind) (fun k=>by simp only [zcq]; rw [ltF]; rfl)
  exact z6 (B:=fun k=>zac (zcr K0 k) k) (i0:=0) hl (Nat.zero_le _) (fun i=>(l,i)) (fun k i h1 h2=>by
    simp only [zac]
    rw [ltT h2]
    simp only [zi h2,zE,ztH,Option.bind_some,cond_true,zvK,zFe]
    have:=inner k i h2
    rw [this]
    cases hs:(l.getD i qh).1 with
    | false =>
      simp only [Bool.false_and,Bool.not_false,cond_false,Bool.and_true]
      have:zU (fun _=>true) 0 (i - 0) = true:=qP.2 fun _ _ _=>rfl
      rw [this]
      grind
    | true =>
      simp only [Bool.true_and,cond_true,Nat.sub_zero]
      grind) (fun k=>by simp only [zac]; rw [ltF]; rfl)
def zla (k n:Int) (r:vJ):Bool:=((k == 1 || k == 3) && (qW n && eqI zM r (ze zM))) || (k == 2 && (n == 0 && zpM r))
def yb (x:qa):Bool:=bif x.1 then zko x.2.1 && zla x.2.2.1 x.2.2.2.1 x.2.2.2.2.1 else eqI zG x (ze zG)
theorem zHd (x:zBu):zck (x,()) = some (zla x.1 x.2.1 x.2.2.1,()):=by
  rw [zA]
  simp only [zck,zKM,Option.bind_some,zla,zpM]
  grind
theorem zEF (x:qa):zir (x,()) = some (!yb x,()):=by
  rw [zA]
  have h:zsg (x,()) = some ((x.2.2.1,x.2.2.2.1,x.2.2.2.2.1,()),()):=rfl
  simp only [zir,zok,Option.bind_some,yb,h,zHd]
  grind
theorem zEG {l:List qa} (hl:l.length ≤ Go.maxLen):zit (l,()) = some (l.all yb,()):=by
  rw [zA]
  simp only [zit]
  rw [zkO (p:=fun x=>!yb x) hl fun x _=>zEF x,Option.bind_some,← va]
  cases l.any fun x=>!yb x <;> rfl
theorem zEH {l:List qa} (hl:l.length ≤ Go.maxLen):zmc (l,()) = some (l.all yb,()):=by
  rw [zA]
  exact jA (B:=zct) (l:=l) zz (fun i=>(l,i)) hl (fun k i x hi hx _=>by
    simp only [zct]
    rw [ltT hi]
    simp only [zi hi,zE,hx,zmw,zIY,ztH,Option.bind_some,cond_true,yb,zla]
    grind) (fun k=>by simp only [zct]; rw [ltF]; rfl)
def zrC (c:Int):Bool:=decide (32 ≤ c ∧ c ≤ 126)
theorem zNq (c:Int):zjB (c,()) = some (zrC c,()):=by simp only [zjB,zrC]; grind
theorem zN8 (c:Int):zls (c,()) = some (zrC c,()):=by simp only [zls,zrC]; grind
def zA2 (s:ByteArray):Bool:=decide (1 ≤ s.size ∧ s.size ≤ 40) && ((chr s 0 != 32 && chr s (s.size - 1) != 32) && zU (fun i=>zrC (chr s i)) 0 s.size)
theorem zA3 (a b:ByteArray) (h:a.size < b.size):(ByteArray.toList a == ByteArray.toList b) = false:=by
  rw [beq_eq_false_iff_ne]
  intro e
  rw [Go.ByteArray.toList_eq,Go.ByteArray.toList_eq] at e
  have:=congrArg List.length e
  rw [zna,zna] at this
  omega
theorem zN9 (s:ByteArray):∀ (n:Nat) (t:ByteArray),t.size ≤ n→∀ fuel,n < fuel→∃ r,zg zR fuel (t,32) = some (r,()) ∧ r.size ≤ t.size ∧ (chr t 0 ≠ 32→r = t) ∧ (1 ≤ t.size→chr t 0 = 32→r.size < t.size):=by
  intro n
  induction n with
  | zero =>
    intro t ht fuel hf
    obtain ⟨f,rfl⟩:∃ f,fuel = f + 1:=⟨fuel - 1,by omega⟩
    refine ⟨t,?_,Nat.le_refl _,fun _=>rfl,fun h=>by omega⟩
    show zR _ (t,32) = _
    simp only [zR]
    rw [decide_eq_false (by omega)]; rfl
  | succ n ih =>
    intro t ht fuel hf
    obtain ⟨f,rfl⟩:∃ f,fuel = f + 1:=⟨fuel - 1,by omega⟩
    by_cases h0:t.size = 0
    · refine ⟨t,?_,Nat.le_refl _,fun _=>rfl,fun h=>by omega⟩
      show zR _ (t,32) = _
      simp only [zR]
      rw [decide_eq_false (by omega)]; rfl
    have hc:((UInt8.toNat (List.getD t.data.toList (Int.toNat 0) 0):Nat):Int) = chr t 0:=rfl
    by_cases h32:chr t 0 = 32
    · have hsz:(ByteArray.extract t (Int.toNat 1) t.size).size = t.size - 1:=by
        rw [ByteArray.size_extract]
        show min t.size t.size - 1 = _
        omega
      obtain ⟨r,h1,h2,-⟩:=ih (ByteArray.extract t (Int.toNat 1) t.size) (by rw [hsz]; omega) f (by omega)
      refine ⟨r,?_,by omega,fun h=>absurd h32 h,fun _ _=>by omega⟩
      show zR (zg zR f) (t,32) = _
      simp only [zR]
      rw [hc,h32,h1]
      grind
    · refine ⟨t,?_,Nat.le_refl _,fun _=>rfl,fun _ h=>absurd h h32⟩
      show zR (zg zR f) (t,32) = _
      simp only [zR]
      rw [hc,decide_eq_true (by omega),decide_eq_true (by omega)]
      grind
theorem zOa:∀ (n:Nat) (t:ByteArray),t.size ≤ n→n ≤ 100→∀ fuel,n < fuel→∃ r,zg zN fuel (t,32) = some (r,()) ∧ r.size ≤ t.size ∧ (chr t (t.size - 1) ≠ 32→r = t) ∧ (1 ≤ t.size→chr t (t.size - 1) = 32→r.size < t.size):=by
  intro n
  induction n with
  | zero =>
    intro t ht _ fuel hf
    obtain ⟨f,rfl⟩:∃ f,fuel = f + 1:=⟨fuel - 1,by omega⟩
    refine ⟨t,?_,Nat.le_refl _,fun _=>rfl,fun h=>by omega⟩
    show zN _ (t,32) = _
    simp only [zN]
    rw [decide_eq_false (by omega)]; rfl
  | succ n ih =>
    intro t ht hn fuel hf
    obtain ⟨f,rfl⟩:∃ f,fuel = f + 1:=⟨fuel - 1,by omega⟩
    by_cases h0:t.size = 0
    · refine ⟨t,?_,Nat.le_refl _,fun _=>rfl,fun h=>by omega⟩
      show zN _ (t,32) = _
      simp only [zN]
      rw [decide_eq_false (by omega)]; rfl
    have hw:wI ((t.size:Int) - 1) = ((t.size - 1:Nat):Int):=zi2 (by omega) (by unfold Go.maxLen; omega)
    have hc:((UInt8.toNat (List.getD t.data.toList (Int.toNat ((t.size - 1:Nat):Int)) 0):Nat):Int) = chr t (t.size - 1):=by rw [Int.toNat_natCast]; rfl
    by_cases h32:chr t (t.size - 1) = 32
    · have hsz:(ByteArray.extract t 0 (Int.toNat ((t.size - 1:Nat):Int))).size = t.size - 1:=by
        rw [ByteArray.size_extract,Int.toNat_natCast]
        omega
      obtain ⟨r,h1,h2,-⟩:=ih (ByteArray.extract t 0 (Int.toNat ((t.size - 1:Nat):Int))) (by rw [hsz]; omega) (by omega) f (by omega)
      refine ⟨r,?_,by omega,fun h=>absurd h32 h,fun _ _=>by omega⟩
      show zN (zg zN f) (t,32) = _
      simp only [zN]
      rw [hw,hc,h32,h1,zi (by omega)]
      grind
    · refine ⟨t,?_,Nat.le_refl _,fun _=>rfl,fun _ h=>absurd h h32⟩
      show zN (zg zN f) (t,32) = _
      simp only [zN]
      rw [hw,hc,zi (by omega),decide_eq_true (by omega)]
      grind
theorem zNW (s:ByteArray) (h:1 ≤ s.size ∧ s.size ≤ 40):∃ r,zgZ (s,ByteArray.mk #[32],()) = some (r,()) ∧ (ByteArray.toList r == ByteArray.toList s) = (chr s 0 != 32 && chr s (s.size - 1) != 32):=by
  obtain ⟨r,h1,h2,h3,h4⟩:=zOa s.size s (Nat.le_refl _) (by omega) K0 (zFb (by unfold Go.maxLen; omega))
  obtain ⟨r',h5,h6,h7,h8⟩:=zN9 s r.size r (Nat.le_refl _) K0 (zFb (by unfold Go.maxLen; omega))
  refine ⟨r',?_,?_⟩
  · simp only [zgZ]
    have e0:(ByteArray.toList s == ByteArray.toList (ByteArray.mk #[])) = false:=by
      cases he:zom s with
      | false=>exact he
      | true =>
        unfold zom at he
        have:=eq_of_beq he
        rw [Go.ByteArray.toList_eq,Go.ByteArray.toList_eq] at this
        have h2:s.size = 0:=by
          rw [← zna,this]; rfl
        omega
    have e1:(ByteArray.toList (ByteArray.mk #[32]) == ByteArray.toList (ByteArray.mk #[])) = false:=by
      rw [Go.ByteArray.toList_eq,Go.ByteArray.toList_eq]; rfl
    have p1:zbN (s,32,()) = some (r,()):=h1
    have p2:zds (r,32,()) = some (r',()):=h5
    have z1:((ByteArray.size (ByteArray.mk #[32]):Nat):Int) = 1:=rfl
    have z2:((UInt8.toNat (List.getD (Array.toList (ByteArray.data (ByteArray.mk #[32]))) (Int.toNat 0) 0):Nat):Int) = 32:=rfl
    rw [e0,e1,z1,z2,p1,Option.bind_some,p2]
    rfl
  · by_cases hl:chr s (s.size - 1) = 32
    · have:=h4 h.1 hl
      rw [zA3 r' s (by omega),hl]; simp
    · obtain rfl:=h3 hl
      by_cases hf:chr r 0 = 32
      · have:=h8 h.1 hf
        rw [zA3 r' r (by omega),hf]; simp
      · rw [h7 hf]
        simp [hf,hl]
theorem zI1 (s:ByteArray):zlx (s,()) = some (zA2 s,()):=by
  rw [zA]
  simp only [zlx]
  unfold zA2
  by_cases hb:1 ≤ s.size ∧ s.size ≤ 40
  · obtain ⟨r,h1,h2⟩:=zNW s hb
    rw [zAX (by unfold Go.maxLen; omega) zNq,h1,zAW,← h2]
    simp only [Option.bind_some]
    grind
  · grind
theorem zHe (s:ByteArray):zjO (s,()) = some (zA2 s,()):=by
  rw [zA]
  simp only [zjO,zjN]
  unfold zA2
  by_cases hb:1 ≤ s.size ∧ s.size ≤ 40
  · have hw:wI ((s.size:Int) - 1) = ((s.size - 1:Nat):Int):=zi2 hb.1 (by unfold Go.maxLen; omega)
    have hc:((UInt8.toNat (List.getD s.data.toList (Int.toNat ((s.size - 1:Nat):Int)) 0):Nat):Int) = chr s (s.size - 1):=by rw [Int.toNat_natCast]; rfl
    have hc0:((UInt8.toNat (List.getD s.data.toList (Int.toNat 0) 0):Nat):Int) = chr s 0:=rfl
    have hloop:zk4 K0 (s,0) = bif zU (fun i=>zrC (chr s i)) 0 (s.size - 0) then some (true,()) else some (false,()) :=
      z6 (i0:=0) (n:=s.size) (by unfold Go.maxLen; omega) (Nat.zero_le _) (fun i=>(s,i)) (fun k i h1 h2=>by
        simp only [zg5]
        have hc:((UInt8.toNat (List.getD s.data.toList (Int.toNat (i:Int)) 0):Nat):Int) = chr s i:=by rw [Int.toNat_natCast]; rfl
        rw [hc,ltT h2,zi h2,zN8]; rfl) (fun k=>by simp only [zg5]; rw [ltF]; rfl)
    rw [hw,zi (by omega),hc,hc0,hloop]
    grind
  · grind
def zkq (x:qq):Bool:=bif x.1 then (qW x.2.1 && (qW x.2.2.1 && qW x.2.2.2.1)) && zA2 x.2.2.2.2.1 else eqI zX x (ze zX)
theorem zHf (x:qq):zj9 (x,()) = some (!zkq x,()):=by
  rw [zA]
  simp only [zj9,zk1,zL2,zI1,Option.bind_some,zkq]
  grind
theorem zHg {l:List qq} (hl:l.length ≤ Go.maxLen):zkc (l,()) = some (l.all zkq,()):=by
  rw [zA]
  simp only [zkc]
  rw [zkP (p:=fun x=>!zkq x) hl fun x _=>zHf x,Option.bind_some,← va]
  cases l.any fun x=>!zkq x <;> rfl
theorem zEI {l:List qq} (hl:l.length ≤ Go.maxLen):zme (l,()) = some (l.all zkq,()):=by
  rw [zA]
  exact jA (B:=zcw) (l:=l) zaC (fun i=>(l,i)) hl (fun k i x hi hx _=>by
    simp only [zcw]
    rw [ltT hi]
    simp only [zi hi,zE,hx,zHe,zIZ,Option.bind_some,cond_true,zkq]
    grind) (fun k=>by simp only [zcw]; rw [ltF]; rfl)
end Go.Proofs.YtlklokhlgcfcdaaGreatDoor
end
section
namespace Go.Proofs.YtlklokhlgcfcdaaGreatDoor
open Go.Ev
abbrev M62:Int:=4611686018427387904
abbrev U64:Int:=18446744073709551616
def zY (x:Int):Bool:=decide (0 ≤ x ∧ x ≤ 3)
theorem yc (x:Int):qU (x,()) = some (zY x,()):=by simp only [qU,zY]; grind
def zm3 (a b:Int):Int × Int × Unit:=bif decide (a + b > M62) then (0,7,()) else (a + b,0,())
theorem zxo {a b:Int} (ha:0 ≤ a) (hb:0 ≤ b ∧ b < U64):zfI (a,b,()) = some (zm3 a b):=by
  simp only [zfI,extA,extB,zm3,cond_true]
  have h0:0 ≤ (a + b) / 18446744073709551616:=by omega
  have h1:((a + b) / 18446744073709551616 != 0) = decide (18446744073709551616 ≤ a + b):=by
    rw [Bool.eq_iff_iff]; simp only [bne_iff_ne,ne_eq,decide_eq_true_eq]; omega
  have h2:a + b < 18446744073709551616→(a + b) % 18446744073709551616 = a + b:=fun h=>by omega
  unfold M62 at *
  unfold U64 at *
  grind
theorem zbx {a b:Int} (ha:0 ≤ a ∧ a < U64) (hb:0 ≤ b ∧ b < U64):vl (a,b,()) = some (zm3 a b):=by
  simp only [vl,zm3]
  unfold M62
  unfold U64 at *
  by_cases h1:a > 4611686018427387904
  · grind
  · have hw:wU (4611686018427387904 - a) = 4611686018427387904 - a:=zdR (by omega)
    rw [hw]
    by_cases h2:b > 4611686018427387904 - a
    · grind
    · have hw:wU (a + b) = a + b:=zdR (by omega)
      rw [hw]
      grind
def zrD (a b:Int):Int × Int × Unit:=bif decide (a * b > M62) then (0,7,()) else (a * b,0,())
theorem zOb (a b:Nat) (ha:a < 18446744073709551616) (hb:b < 18446744073709551616):zdK ((a:Int),(b:Int),()) = some ((((a * b) / 18446744073709551616:Nat):Int),(((a * b) % 18446744073709551616:Nat):Int),()):=by
  have e32:((2:Int) ^ min (Int.toNat 32) (Go.IntKind.bits .u64)) = 4294967296:=rfl
  have hand:∀ x:Nat,x < 18446744073709551616→wU (BitVec.toNat (BitVec.ofInt (Go.IntKind.bits .u64) (x:Int) &&& BitVec.ofInt (Go.IntKind.bits .u64) 4294967295):Int) = ((x % 4294967296:Nat):Int):=fun x hx=>by
    have h1:BitVec.ofInt (Go.IntKind.bits .u64) 4294967295 = BitVec.ofNat 64 4294967295:=rfl
    rw [zlY,h1]
    have h2:(BitVec.ofNat 64 x &&& BitVec.ofNat 64 4294967295).toNat = x % 4294967296:=by
      rw [BitVec.toNat_and,BitVec.toNat_ofNat,BitVec.toNat_ofNat,Nat.mod_eq_of_lt (show x < 2 ^ 64 by omega)]
      exact Nat.and_two_pow_sub_one_eq_mod x 32
    have h3:((BitVec.ofNat 64 x &&& BitVec.ofNat 64 4294967295:BitVec (Go.IntKind.bits .u64)).toNat:Int) = ((x % 4294967296:Nat):Int):=congrArg _ h2
    exact (congrArg wU h3).trans (zdR (by omega))
  have hdiv:∀ x:Nat,Int.fdiv (x:Int) 4294967296 = ((x / 4294967296:Nat):Int):=fun x=>by
    rw [Int.fdiv_eq_ediv_of_nonneg _ (by omega)]; rfl
  have hw:∀ x:Nat,x < 18446744073709551616→wU (x:Int) = (x:Int):=fun x hx=>zdR (by omega)
  have hmod:wU ((a:Int) * (b:Int)) = (((a * b) % 18446744073709551616:Nat):Int):=by
    rw [show ((a:Int) * (b:Int)) = ((a * b:Nat):Int) by simp]
    show ((a * b:Nat):Int) % ((2 ^ 64:Nat):Int) = _
    rfl
  simp only [zdK,e32]
  have ha1:a / 4294967296 ≤ 4294967295:=by omega
  have ha0:a % 4294967296 ≤ 4294967295:=by omega
  have hb1:b / 4294967296 ≤ 4294967295:=by omega
  have hb0:b % 4294967296 ≤ 4294967295:=by omega
  have hp:=Nat.mul_le_mul ha1 hb1
  have hq:=Nat.mul_le_mul ha1 hb0
  have hr:=Nat.mul_le_mul ha0 hb1
  have hs:=Nat.mul_le_mul ha0 hb0
  have hab:a * b = (a / 4294967296 * (b / 4294967296)) * 18446744073709551616 + (a / 4294967296 * (b % 4294967296) + a % 4294967296 * (b / 4294967296)) * 4294967296 + a % 4294967296 * (b % 4294967296):=by
    conv=>lhs; rw [← Nat.div_add_mod a 4294967296,← Nat.div_add_mod b 4294967296]
    grind
  rw [hmod,hab,hand a ha,hand b hb,hdiv a,hdiv b]
  generalize a / 4294967296 = a1 at *
  generalize a % 4294967296 = a0 at *
  generalize b / 4294967296 = b1 at *
  generalize b % 4294967296 = b0 at *
  simp only [← Int.natCast_mul]
  generalize a1 * b1 = p at *
  generalize a1 * b0 = q at *
  generalize a0 * b1 = r at *
  generalize a0 * b0 = s at *
  rw [hw p (by omega),hw q (by omega),hw r (by omega),hw s (by omega),hdiv s]
  simp only [← Int.natCast_add]
  rw [hw (q + s / 4294967296) (by omega),hdiv (q + s / 4294967296),hand _ (by omega)]
  simp only [← Int.natCast_add]
  rw [hw (p + (q + s / 4294967296) / 4294967296) (by omega),hw ((q + s / 4294967296) % 4294967296 + r) (by omega),hdiv]
  simp only [← Int.natCast_add]
  rw [hw _ (by omega)]
  have:p + (q + s / 4294967296) / 4294967296 + ((q + s / 4294967296) % 4294967296 + r) / 4294967296 = (p * 18446744073709551616 + (q + r) * 4294967296 + s) / 18446744073709551616:=by omega
  rw [this]
theorem zHh {a b:Int} (ha:0 ≤ a ∧ a < U64) (hb:0 ≤ b ∧ b < U64):zgu (a,b,()) = some (zrD a b):=by
  obtain ⟨m,rfl⟩:=Int.eq_ofNat_of_zero_le ha.1
  obtain ⟨n,rfl⟩:=Int.eq_ofNat_of_zero_le hb.1
  unfold U64 at *
  simp only [zgu]
  rw [zOb m n (by omega) (by omega),Option.bind_some]
  unfold zrD M62
  have e:((m:Int) * (n:Int)) = ((m * n:Nat):Int):=by simp
  rw [e]
  generalize m * n = p
  by_cases h:p < 18446744073709551616
  · have h1:p / 18446744073709551616 = 0:=by omega
    have h2:p % 18446744073709551616 = p:=by omega
    simp only [h1,h2]
    grind
  · have h1:(((p / 18446744073709551616:Nat):Int) != 0) = true:=by simp only [bne_iff_ne,ne_eq]; omega
    simp only [h1]
    grind
theorem zEJ {a b:Int} (ha:0 ≤ a ∧ a < U64) (hb:0 ≤ b ∧ b < U64):zij (a,b,()) = some (zrD a b):=by
  obtain ⟨m,rfl⟩:=Int.eq_ofNat_of_zero_le ha.1
  obtain ⟨n,rfl⟩:=Int.eq_ofNat_of_zero_le hb.1
  unfold U64 at *
  simp only [zij,zrD]
  unfold M62
  by_cases h0:m = 0
  · subst h0
    simp only [Int.natCast_zero,Int.zero_mul]
    rfl
  · have e:((m:Int) * (n:Int)) = ((m * n:Nat):Int):=by simp
    have hd:Int.tdiv 4611686018427387904 (m:Int) = ((4611686018427387904 / m:Nat):Int):=rfl
    have hle:4611686018427387904 / m ≤ 4611686018427387904:=Nat.div_le_self _ _
    have h1:4611686018427387904 / m < n ↔ 4611686018427387904 < m * n:=by
      have:=Nat.div_lt_iff_lt_mul (x:=4611686018427387904) (y:=n) (k:=m) (by omega)
      rw [Nat.mul_comm] at this
      exact this
    rw [hd]
    generalize 4611686018427387904 / m = q at *
    have hw:wU ((q:Nat):Int) = (q:Int):=zdR (by omega)
    have b1:(((m:Nat):Int) != 0) = true:=by simp only [bne_iff_ne,ne_eq]; omega
    have b2:(((m:Nat):Int) == 0) = false:=by simp only [beq_eq_false_iff_ne,ne_eq]; omega
    rw [hw,b1,b2,e]
    by_cases h2:m * n > 4611686018427387904
    · have:=h1.2 h2
      rw [decide_eq_true (by omega),decide_eq_true (by omega)]
      rfl
    · have h3:¬ q < n:=fun h=>h2 (h1.1 h)
      have hw2:wU ((m * n:Nat):Int) = ((m * n:Nat):Int):=zdR (by omega)
      rw [decide_eq_false (by omega),decide_eq_false (by omega),hw2]
      rfl
def zlb:Int→List Int→Int × Int × Unit
  | a,[]=>(a,0,())
  | a,x :: l=>bif decide (a + x > M62) then (0,7,()) else zlb (a + x) l
theorem jY {σ α β ρ:Type} {B:(σ→Option ρ)→σ→Option ρ} {l:List β} (d:β) (I:Nat→α→Prop) (st:Int→α→σ) (G:List β→α→Option ρ) (hl:l.length ≤ Go.maxLen)
    (hin:∀ k (i:Nat) x rest s,i < l.length→I i s→l.getD i d = x→x ∈ l→l.drop (i + 1) = rest→(∀ s',I (i + 1) s'→k (st (wI (i + 1)) s') = G rest s')→B k (st i s) = G (x :: rest) s) (hout:∀ k s,I l.length s→B k (st l.length s) = G [] s) (s:α) (h0:I 0 s):zg B K0 (st 0 s) = G l s:=by
  have:=zfH (B:=B) hl st (fun i s=>G (l.drop i) s) I (fun k i s hi hI h=>?_) (fun k s hI=>?_) s h0
  · simpa using this
  · rw [zb2 d hi]
    exact hin k i _ _ s hi hI rfl (zV hi) rfl fun s' hI'=>h s' hI'
  · rw [hout _ _ hI,List.drop_of_length_le (Nat.le_refl _)]
theorem zm4 {l:List Int} (hl:l.length ≤ Go.maxLen) (h:∀ x ∈ l,0 ≤ x ∧ x < U64):zg0 (l,()) = some (zlb 0 l) :=
  jY (B:=zgw) (l:=l) (α:=Int) (0:Int) (fun _ s=>0 ≤ s) (fun i s=>(s,l,(l.length:Int),i)) (fun rest s=>some (zlb s rest)) hl (fun k i x rest s hi hI hx hm hr hk=>by
    simp only [zgw]
    have hxx:=h x hm
    rw [ltT hi,zi hi,zE,hx,zxo hI hxx]
    simp only [cond_true,Option.bind_some,zm3,zlb]
    by_cases hb:s + x > M62
    · rw [decide_eq_true hb]; rfl
    · rw [decide_eq_false hb]
      exact hk (s + x) (by omega)) (fun k s _=>by simp only [zgw]; rw [ltF]; rfl) 0 (Int.le_refl 0)
def zCA (a b:zy):Bool:=decide (a.1 ≤ b.1) && (List.range' 0 64).all fun i=>!zmx a.2.1 i || zmx b.2.1 i
def zon (a:zy):Prop:=0 ≤ a.2.1 ∧ a.2.1 < U64
theorem zxp {a b:zy} (ha:zon a) (hb:zon b):zhQ (a,b,()) = some (zCA a b,()):=by
  rw [zA]
  simp only [zhQ]
  unfold zCA
  unfold zon U64 at *
  obtain ⟨m,hm⟩:=Int.eq_ofNat_of_zero_le ha.1
  obtain ⟨n,hn⟩:=Int.eq_ofNat_of_zero_le hb.1
  have h1:=zxn m n (by omega) (by omega)
  unfold zhf at h1
  have h2:(wU (BitVec.toNat (BitVec.ofInt (Go.IntKind.bits .u64) (a.2.1:Int) &&& ~~~BitVec.ofInt (Go.IntKind.bits .u64) (b.2.1:Int)):Int) == 0) = (List.range' 0 64).all fun i=>!zmx a.2.1 i || zmx b.2.1 i:=by
    rw [hm,hn]
    have h3:∀ z:Int,(z != 0) = !(z == 0):=fun z=>rfl
    rw [h3] at h1
    have h4:=congrArg (!·) h1
    simp only [Bool.not_not] at h4
    exact h4
  rw [h2]
  grind
theorem zI2 {a b:zy} (ha:zon a) (hb:zon b):zqn (a,b,()) = some (zCA a b,()):=by
  rw [zA]
  unfold zCA
  unfold zon U64 at *
  have hr:List.range 64 = List.range' 0 64:=List.range_eq_range'
  rw [← hr]
  have hloop:=zC9 (B:=zfu) (n:=64) (by unfold Go.maxLen; omega) (p:=fun i=>!zmx a.2.1 i || zmx b.2.1 i) (fin:=bif decide (a.1 ≤ b.1) then some (true,()) else some (false,())) (bad:=some (false,())) (fun i=>(i,a,b)) (fun k i hi=>by
    simp only [zfu]
    rw [decide_eq_true (by omega),zqq _ _ ha.1 (by omega),zqq _ _ hb.1 (by omega),Int.toNat_natCast]
    simp only [cond_true,Option.bind_some]
    grind) (fun k=>by simp only [zfu]; rfl)
  refine hloop.trans ?_
  grind
theorem zA4 (x:Int):zgV (x,()) = some (qW x,()):=by simp only [zgV,qW]; grind
theorem zI3 (x:Int):jp (x,()) = some (qW x,()):=by simp only [jp,qW]; grind
def zh3 (x:zjn):Bool:=zY x.1 && (decide (x.2.1 ≤ M62) && decide (-1 ≤ x.2.2.1 ∧ x.2.2.1 ≤ 127))
theorem zI4 (x:zjn):zhX (x,()) = some (zh3 x,()):=by
  rw [zA]
  simp only [zhX,yc,zA4,Option.bind_some,zh3,qW]
  unfold M62
  grind
theorem zI5 (x:zjn):jq (x,()) = some (zh3 x,()):=by
  rw [zA]
  simp only [jq,zh3,zY]
  unfold M62
  grind
def zpN (x:zjn):Bool:=(x.2.1:Int) == 0 && (x.2.2.1:Int) == -1
theorem zHi (x:zjn):zgr (x,()) = some (zpN x,()):=by
  rw [zA]
  simp only [zgr,zpN]
  have h:eqI zdJ x (x.1,(ze zdJ).2.1,-1,(ze zdJ).2.2.2) = ((x.2.1:Int) == 0 && (x.2.2.1:Int) == -1):=by
    show cond ((x.1:Int) == x.1) (cond ((x.2.1:Int) == 0) (cond ((x.2.2.1:Int) == -1) true false) false) false = _
    rw [beq_self_eq_true]
    cases ((x.2.1:Int) == 0) <;> cases ((x.2.2.1:Int) == -1) <;> rfl
  rw [h]
def zoo (x:zt):Bool:=(qW x.2.1 && (qW x.2.2.1 && (x.2.1:Int) != x.2.2.1)) && ((zh3 x.2.2.2.1 && zh3 x.2.2.2.2.1) && !(zpN x.2.2.2.1 && zpN x.2.2.2.2.1))
def zhh (x:zt):Prop:=(0 ≤ x.2.2.2.1.2.1 ∧ x.2.2.2.1.2.1 < U64) ∧ (0 ≤ x.2.2.2.2.1.2.1 ∧ x.2.2.2.2.1.2.1 < U64)
theorem zI6 (x:zt):zlu (x,()) = some (zoo x,()):=by
  rw [zA]
  simp only [zlu,zA4,zI4,zHi,Option.bind_some,zoo]
  grind
theorem zHj {x:zt} (h:zhh x):zjP (x,()) = some (zoo x,()):=by
  rw [zA]
  simp only [zjP,zI3,zI5,Option.bind_some,zoo]
  have h1:zh3 x.2.2.2.1 = true→zpN x.2.2.2.1 = !(decide (x.2.2.2.1.2.1 > 0) || decide (x.2.2.2.1.2.2.1 ≥ 0)):=fun hp=>by
    unfold zh3 at hp; unfold zpN; unfold zhh at h; grind
  have h2:zh3 x.2.2.2.2.1 = true→zpN x.2.2.2.2.1 = !(decide (x.2.2.2.2.1.2.1 > 0) || decide (x.2.2.2.2.1.2.2.1 ≥ 0)):=fun hp=>by
    unfold zh3 at hp; unfold zpN; unfold zhh at h; grind
  generalize decide (x.2.2.2.1.2.1 > 0) = c1 at *
  generalize decide (x.2.2.2.1.2.2.1 ≥ 0) = c2 at *
  generalize decide (x.2.2.2.2.1.2.1 > 0) = c3 at *
  generalize decide (x.2.2.2.2.1.2.2.1 ≥ 0) = c4 at *
  cases c1 <;> cases c2 <;> cases c3 <;> cases c4 <;> grind
def zhi (x:zt):Bool:=bif x.1 then zoo x else eqI zw x (ze zw)
theorem zA5 (x:zt):zf5 (x,()) = some (!zhi x,()):=by
  rw [zA]
  simp only [zf5,zI6,Option.bind_some,zhi]
  grind
theorem zEK {l:List zt} (hl:l.length ≤ Go.maxLen):zis (l,()) = some (l.all zhi,()):=by
  rw [zA]
  simp only [zis]
  rw [zkm (p:=fun x=>!zhi x) hl fun x _=>zA5 x,Option.bind_some,← va]
  cases l.any fun x=>!zhi x <;> rfl
theorem zEL {l:List zt} (hl:l.length ≤ Go.maxLen) (h:∀ x ∈ l,zhh x):zmg (l,()) = some (l.all zhi,()):=by
  rw [zA]
  exact jA (B:=zcy) (l:=l) zQ (fun i=>(l,i)) hl (fun k i x hi hx hm=>by
    simp only [zcy]
    rw [ltT hi]
    simp only [zi hi,zE,hx,zHj (h x hm),Option.bind_some,cond_true,zhi]
    grind) (fun k=>by simp only [zcy]; rw [ltF]; rfl)
end Go.Proofs.YtlklokhlgcfcdaaGreatDoor
end
section
namespace Go.Proofs.YtlklokhlgcfcdaaGreatDoor
open Go.Ev
theorem zlc {α:Type} {p:α→Bool} {x:α} {l:List α}:(x :: l).filter p = bif p x then x :: l.filter p else l.filter p:=by
  rw [List.filter_cons]; cases p x <;> rfl
def qM {α:Type} (p:α→Bool):Nat→List α→List Int
  | _,[]=>[]
  | i,x :: l=>bif p x then (i:Int) :: qM p (i + 1) l else qM p (i + 1) l
theorem zm5 {α:Type} {p:α→Bool}:∀ (l:List α) (i:Nat),(qM p i l).length ≤ l.length
  | [],_=>Nat.le_refl _
  | x :: l,i=>by
    have:=zm5 (p:=p) l (i + 1)
    simp only [qM,List.length_cons]
    cases p x <;> simp <;> omega
theorem zm6 {α:Type} {p:α→Bool}:∀ (l:List α) (i:Nat),∀ z ∈ qM p i l,∃ j:Nat,z = (j:Int) ∧ i ≤ j ∧ j < i + l.length
  | [],i,z,h=>by cases h
  | x :: l,i,z,h=>by
    simp only [qM] at h
    have ih:=zm6 (p:=p) l (i + 1)
    cases hp:p x with
    | true =>
      rw [hp,cond_true] at h
      rcases List.mem_cons.1 h with rfl | h
      · exact ⟨i,rfl,Nat.le_refl _,by simp⟩
      · obtain ⟨j,h1,h2,h3⟩:=ih z h
        exact ⟨j,h1,by omega,by simp; omega⟩
    | false =>
      rw [hp,cond_false] at h
      obtain ⟨j,h1,h2,h3⟩:=ih z h
      exact ⟨j,h1,by omega,by simp; omega⟩
theorem zmz {α β:Type} {p q:α→Bool} {g:α→β} (d:α) (L:List α):∀ (l:List α) (i:Nat),(∀ j,j < l.length→L.getD (i + j) d = l.getD j d)→((qM p i l).filter fun z=>q (L.getD z.toNat d)).map (fun z=>g (L.getD z.toNat d)) = (l.filter fun x=>p x && q x).map g
  | [],_,_=>rfl
  | x :: l,i,h=>by
    have ih:=zmz (p:=p) (q:=q) (g:=g) d L l (i + 1) fun j hj=>by
      have:=h (j + 1) (by simp; omega)
      rw [show i + 1 + j = i + (j + 1) by omega,this]; rfl
    have h0:L.getD i d = x:=h 0 (by simp)
    simp only [qM,zlc]
    cases hp:p x with
    | false=>simp only [cond_false,Bool.false_and]; exact ih
    | true =>
      simp only [cond_true,Bool.true_and,zlc,Int.toNat_natCast,h0]
      cases hq:q x with
      | false=>exact ih
      | true=>simp only [cond_true,List.map_cons,Int.toNat_natCast,h0,ih]
theorem zvL {l:List zt} {g:zt × Unit→Option (Bool × Unit)}:ze6 (some (l,some g,()),()) = some (true,()):=rfl
theorem zxq {l:List zt} {g:zt × Unit→Option (Bool × Unit)} {p:zt→Bool} (hg:∀ x,g (x,()) = some (p x,())) {i:Nat} (hi:i < l.length):vV (some (l,some g,()),(i:Int),()) = some (p (l.getD i zQ),()):=by
  rw [zA]
  simp only [vV,zvL,Option.bind_some,cond_true]
  rw [decide_eq_true (by omega),ltT hi,zi hi,zE,hg]
  simp only [cond_true,Option.bind_some]
theorem ztI {l:List zt} {g:zt × Unit→Option (Bool × Unit)} {p:zt→Bool} (hl:l.length ≤ lim) (hg:∀ x,g (x,()) = some (p x,())):zdQ (some (l,some g,()),()) = some (qM p 0 l,()):=by
  have hl':l.length ≤ Go.maxLen:=by unfold lim at hl; unfold Go.maxLen; omega
  have:=zfH (B:=yD) (α:=List Int) hl' (fun i o=>(some (l,some g,()),(l.length:Int),i,o)) (fun i o=>some (o ++ qM p i (l.drop i),())) (fun i o=>o.length ≤ i) (fun k i o hi hI hk=>by
    simp only [yD]
    rw [ltT hi,zxq hg hi,zjj,zb2 zQ hi]
    simp only [cond_true,Option.bind_some,qM]
    rw [decide_eq_true (by simp; omega)]
    cases hp:p (l.getD i zQ) with
    | false =>
      simp only [cond_false]
      exact hk o (by omega)
    | true =>
      simp only [cond_true]
      rw [hk _ (by simp; omega)]
      simp) (fun k o _=>by
    simp only [yD]
    rw [ltF,List.drop_of_length_le (Nat.le_refl _)]
    simp [qM]) [] (Nat.le_refl _)
  refine Eq.trans ?_ (this.trans ?_)
  · rfl
  · simp
theorem zHk {l:List zo} {g:zo × Unit→Option (Bool × Unit)}:ze7 (some (l,some g,()),()) = some (true,()):=rfl
theorem zI7 {l:List zo} {g:zo × Unit→Option (Bool × Unit)} {p:zo→Bool} (hg:∀ x,g (x,()) = some (p x,())) {i:Nat} (hi:i < l.length):zf3 (some (l,some g,()),(i:Int),()) = some (p (l.getD i zH),()):=by
  rw [zA]
  simp only [zf3,zHk,Option.bind_some,cond_true]
  rw [decide_eq_true (by omega),ltT hi,zi hi,zE,hg]
  simp only [cond_true,Option.bind_some]
theorem zEM {l:List zo} {g:zo × Unit→Option (Bool × Unit)} {p:zo→Bool} (hl:l.length ≤ lim) (hg:∀ x,g (x,()) = some (p x,())):zhD (some (l,some g,()),()) = some (qM p 0 l,()):=by
  have hl':l.length ≤ Go.maxLen:=by unfold lim at hl; unfold Go.maxLen; omega
  have:=zfH (B:=yF) (α:=List Int) hl' (fun i o=>(some (l,some g,()),(l.length:Int),i,o)) (fun i o=>some (o ++ qM p i (l.drop i),())) (fun i o=>o.length ≤ i) (fun k i o hi hI hk=>by
    simp only [yF]
    rw [ltT hi,zI7 hg hi,zjj,zb2 zH hi]
    simp only [cond_true,Option.bind_some,qM]
    rw [decide_eq_true (by simp; omega)]
    cases hp:p (l.getD i zH) with
    | false =>
      simp only [cond_false]
      exact hk o (by omega)
    | true =>
      simp only [cond_true]
      rw [hk _ (by simp; omega)]
      simp) (fun k o _=>by
    simp only [yF]
    rw [ltF,List.drop_of_length_le (Nat.le_refl _)]
    simp [qM]) [] (Nat.le_refl _)
  refine Eq.trans ?_ (this.trans ?_)
  · rfl
  · simp
def zjb (l:List zt) (c:Int):Int × Int × Unit:=bif zY c then zlb 0 ((l.filter fun x=>x.1 && (x.2.2.2.1.1:Int) == c).map fun x=>x.2.2.2.1.2.1) else (0,1,())
theorem zI8 (l:List zt) (hl:l.length ≤ lim):zlv (l,()) = some (some (l,some zid,()),()):=by
  simp only [zlv,yK,ztE hl,Option.bind_some]
  rfl
theorem zEN (x:zt):zid (x,()) = some (x.1,()):=by
  rw [zA]; rfl
theorem zHl {l:List zt} (hl:l.length ≤ lim) (h:∀ x ∈ l,zhh x) (c:Int):zj6 (l,c,()) = some (zjb l c):=by
  have hl':l.length ≤ Go.maxLen:=by unfold lim at hl; unfold Go.maxLen; omega
  simp only [zj6,zj5,yc,Option.bind_some]
  unfold zjb
  cases hc:zY c with
  | false=>rfl
  | true =>
    simp only [cond_true]
    rw [zI8 l hl,Option.bind_some,ztI hl zEN,Option.bind_some]
    have hsl:=zm5 (p:=fun x:zt=>x.1) l 0
    have hsm:=zm6 (p:=fun x:zt=>x.1) l 0
    have hloop:=jY (B:=zeA) (l:=qM (fun x:zt=>x.1) 0 l) (α:=List Int) (0:Int) (fun i o=>o.length ≤ i ∧ ∀ x ∈ o,0 ≤ x ∧ x < U64) (fun i o=>(l,c,qM (fun x:zt=>x.1) 0 l,((qM (fun x:zt=>x.1) 0 l).length:Int),i,o))
      (fun rest o=>some (zlb 0 (o ++ (rest.filter fun z=>((l.getD z.toNat zQ).2.2.2.1.1:Int) == c).map fun z=>(l.getD z.toNat zQ).2.2.2.1.2.1))) (by omega) (fun k i x rest o hi hI hx hm hr hk=>by
        simp only [zeA]
        obtain ⟨j,rfl,-,hj⟩:=hsm x hm
        rw [ltT hi,zi hi,zE,hx,zi (by omega),zi (by omega),Int.toNat_natCast,zjj]
        have hxx:=(h (l.getD j zQ) (zV (by omega))).1
        simp only [cond_true,zlc,Int.toNat_natCast]
        rw [decide_eq_true (by simp; omega)]
        simp only [cond_true]
        cases hq:((l.getD j zQ).2.2.2.1.1:Int) == c with
        | false =>
          exact hk o ⟨by omega,hI.2⟩
        | true =>
          simp only [cond_true,List.map_cons,Int.toNat_natCast]
          refine (hk _ ⟨by simp; omega,fun x hx=>?_⟩).trans ?_
          · rcases List.mem_append.1 hx with hx | hx
            · exact hI.2 x hx
            · rcases List.mem_singleton.1 hx with rfl
              exact hxx
          · rw [List.append_assoc]; rfl) (fun k o hI=>by
        simp only [zeA]
        rw [ltF]
        simp only [cond_false]
        rw [zm4 (by omega) hI.2,List.filter_nil,List.map_nil,List.append_nil]
        rfl) [] ⟨Nat.le_refl _,fun x hx=>by cases hx⟩
    refine hloop.trans ?_
    rw [List.nil_append,zmz (q:=fun x:zt=>(x.2.2.2.1.1:Int) == c) (g:=fun x:zt=>x.2.2.2.1.2.1) zQ l l 0 fun j _=>by rw [Nat.zero_add]]
theorem zHm {l:List zt} (hl:l.length ≤ Go.maxLen) (h:∀ x ∈ l,zhh x) (c:Int):zjU (l,c,()) = some (zjb l c):=by
  simp only [zjU,zjT]
  unfold zjb
  cases hc:zY c with
  | false=>unfold zY at hc; grind
  | true =>
    have hloop:=jY (B:=zen) (l:=l) (α:=Int) zQ (fun _ s=>0 ≤ s ∧ s ≤ M62) (fun i s=>(l,c,s,i)) (fun rest s=>some (zlb s ((rest.filter fun x=>x.1 && (x.2.2.2.1.1:Int) == c).map fun x=>x.2.2.2.1.2.1))) hl (fun k i x rest s hi hI hx hm hr hk=>by
      simp only [zen]
      have hxx:=(h x hm).1
      rw [ltT hi]
      simp only [zi hi,zE,hx,cond_true,zlc]
      unfold M62 at *
      unfold U64 at *
      rw [zbx (by unfold U64; omega) (by unfold U64; omega)]
      cases hl:x.1 with
      | false=>exact hk s hI
      | true =>
        cases hq:(x.2.2.2.1.1:Int) == c with
        | false=>exact hk s hI
        | true =>
          simp only [cond_true,Option.bind_some,zm3,Bool.and_self,List.map_cons,zlb]
          unfold M62
          by_cases hb:s + x.2.2.2.1.2.1 > 4611686018427387904
          · rw [decide_eq_true hb]; rfl
          · rw [decide_eq_false hb]
            exact hk (s + x.2.2.2.1.2.1) (by omega)) (fun k s _=>by simp only [zen]; rw [ltF]; rfl) 0 (by unfold M62; omega)
    refine Eq.trans ?_ hloop
    unfold zY at hc
    grind
end Go.Proofs.YtlklokhlgcfcdaaGreatDoor
end
section
namespace Go.Proofs.YtlklokhlgcfcdaaGreatDoor
open Go.Ev
def zyI (x:Int):Bool:=decide (0 ≤ x ∧ x ≤ 2)
theorem zCB (x:Int):zaQ (x,()) = some (!zyI x,()):=by simp only [zaQ,zyI]; grind
def zvM (r:zf) (i:Nat) (row:List Int):Bool:=decide (row.length = r.2.2.1.length) && (row.all zyI && row.getD (Int.toNat (r.2.2.2.1.getD i qF).2.1) (0:Int) == 2)
def zop (r:zf) (l:List (List Int)):Bool:=decide (l.length = r.2.2.2.1.length) && zU (fun i=>zvM r i (l.getD i [])) 0 (l.length - 0)
structure zhj (r:zf):Prop where
  labels:1 ≤ r.1.length ∧ r.1.length ≤ 8
  lines:1 ≤ r.2.1.length ∧ r.2.1.length ≤ 8
  accounts:1 ≤ r.2.2.1.length ∧ r.2.2.1.length ≤ 8
  guilds:r.2.2.2.1.length ≤ 8
  quotas:r.2.2.2.2.1.length = r.1.length
  heads:∀ i,i < r.2.2.2.1.length→0 ≤ (r.2.2.2.1.getD i qF).2.1 ∧ (r.2.2.2.1.getD i qF).2.1 < (r.2.2.1.length:Int)
theorem jS {r:zf} (h:qZ r = true):zhj r:=by
  simp only [qZ,Bool.and_eq_true] at h
  obtain ⟨h1,h2,h3,h4,h5,-⟩:=h
  simp only [zbS,zlX,zeN,znb,zfM,zS,Bool.and_eq_true,decide_eq_true_eq,zA0,qP] at h1 h2 h3 h4 h5
  refine ⟨by omega,by omega,by omega,h4.1,by omega,fun i hi=>?_⟩
  have:=h4.2.1 i (by omega) (by omega)
  simp only [zyH,zS,Bool.and_eq_true,decide_eq_true_eq] at this
  omega
theorem ixR {n:Nat} {x:Int} {ρ:Type} {y:Option ρ} (h:0 ≤ x ∧ x < (n:Int)):inR x (n:Int) y = y:=zLU h.1 h.2
theorem zHn {r:zf} (hr:qg r) (l:List (List Int)):zkk (r,l,()) = some (qZ r && zop r l,()):=by
  rw [zA]
  simp only [zkk,zkj,zmy r hr,Option.bind_some]
  cases hb:qZ r with
  | false=>rfl
  | true =>
    have ok:=jS hb
    rw [zia]
    unfold zop
    by_cases hn:l.length = r.2.2.2.1.length
    · have hg:=ok.guilds
      have hloop:zk9 K0 (some zaQ,l,(l.length:Int),0,r) = bif zU (fun i=>zvM r i (l.getD i [])) 0 (l.length - 0) then some (true,()) else some (false,()) :=
        z6 (i0:=0) (n:=l.length) (by unfold Go.maxLen; omega) (Nat.zero_le _) (fun i=>(some zaQ,l,(l.length:Int),i,r)) (fun k i h1 h2=>by
          simp only [zhd]
          rw [ltT h2,zi h2,Int.toNat_natCast,zia]
          unfold zvM
          by_cases hm:(l.getD i []).length = r.2.2.1.length
          · have ha:=ok.accounts
            have hh:=ok.heads i (by omega)
            rw [zdg (p:=fun x=>!zyI x) (l:=l.getD i []) (by unfold Go.maxLen; omega) fun x _=>zCB x,zi (by omega),zE,ixR (by rw [hm]; exact hh)]
            have:=va (l:=l.getD i []) (p:=zyI)
            simp only [Option.bind_some,cond_true]
            grind
          · grind) (fun k=>by simp only [zhd]; rw [ltF]; rfl)
      rw [hloop]
      grind
    · grind
theorem zEO {r:zf} (hr:qg r) (l:List (List Int)):ziq (r,l,()) = some (qZ r && zop r l,()):=by
  rw [zA]
  simp only [ziq,zio,ztG r hr,Option.bind_some]
  cases hb:qZ r with
  | false=>rfl
  | true =>
    have ok:=jS hb
    rw [zia]
    unfold zop
    by_cases hn:l.length = r.2.2.2.1.length
    · have hg:=ok.guilds
      have ha:=ok.accounts
      have inner:∀ k0 (i:Nat),i < l.length→(l.getD i []).length = r.2.2.1.length→zf7 K0 k0 (l,(i:Int),0,r) = bif (l.getD i []).all zyI then k0 (l,wI ((i:Int) + 1),r) else some (false,()):=fun k0 i hi hm =>
        jA (l:=l.getD i []) (0:Int) (fun j=>(l,(i:Int),j,r)) (by unfold Go.maxLen; omega) (fun k j x h1 h2 _=>by
          simp only [zf6]
          have h2':List.getD (l.getD i []) j (0:Int) = x:=h2
          simp only [zi hi,Int.toNat_natCast,ltT h1,zi h1,h2',cond_true,zyI]
          grind) (fun k=>by
          simp only [zf6]
          simp only [zi hi,Int.toNat_natCast]
          rw [ltF]; rfl)
      have hloop:zj8 K0 (l,0,r) = bif zU (fun i=>zvM r i (l.getD i [])) 0 (l.length - 0) then some (true,()) else some (false,()) :=
        z6 (i0:=0) (n:=l.length) (by unfold Go.maxLen; omega) (Nat.zero_le _) (fun i=>(l,i,r)) (fun k i h1 h2=>by
          simp only [zcG]
          rw [ltT h2]
          simp only [zi h2,Int.toNat_natCast]
          rw [zia]
          unfold zvM
          by_cases hm:(l.getD i []).length = r.2.2.1.length
          · have hh:=ok.heads i (by omega)
            have hi:=inner k i h2 hm
            rw [zi (by omega),zE,ixR (by rw [hm]; exact hh),hi]
            simp only [cond_true]
            grind
          · grind) (fun k=>by simp only [zcG]; rw [ltF]; rfl)
      rw [hloop]
      grind
    · grind
theorem zL4 (x:Int):zlO (x,()) = some (qW x,()):=by simp only [zlO,qW]; grind
theorem zI9 (x:Int):zhR (x,()) = some (qW x,()):=by simp only [zhR,qW]; grind
theorem zKN (x:Int):ze2 (x,()) = some (qW x,()):=by simp only [ze2,qW]; grind
theorem zJa (x:Int):zdw (x,()) = some (qW x,()):=by simp only [zdw,qW]; grind
def zkr (k a b:Int):Int × Int × Unit:=bif (k != 1 && k != 2) || (a == 0 || b == 0) then (0,1,()) else bif decide (a * b > M62) then (0,7,()) else bif k == 2 then (a,0,()) else (a * b,0,())
theorem zxr {k a b:Int} (ha:0 ≤ a ∧ a < U64) (hb:0 ≤ b ∧ b < U64):zh0 (k,a,b,()) = some (zkr k a b):=by
  simp only [zh0,zHh ha hb,Option.bind_some,zrD,zkr]
  generalize a * b = p
  cases h:decide (p > M62) <;> simp only [cond_true,cond_false] <;> grind
theorem zvN {k a b:Int} (ha:0 ≤ a ∧ a < U64) (hb:0 ≤ b ∧ b < U64):zgy (k,a,b,()) = some (zkr k a b):=by
  simp only [zgy,zEJ ha hb,Option.bind_some,zrD,zkr]
  generalize a * b = p
  cases h:decide (p > M62) <;> simp only [cond_true,cond_false] <;> grind
def qu (x:Int):Prop:=0 ≤ x ∧ x < U64
structure zhk (x:zo):Prop where
  amount:qu x.2.2.2.2.2.2.1
  price:qu x.2.2.2.2.2.2.2.1
  held:qu x.2.2.2.2.2.2.2.2.1
def ziT (x:zo):Bool:=((zkr x.2.2.2.1 x.2.2.2.2.2.2.2.1 x.2.2.2.2.2.2.1).2.1 == 0 && (zkr x.2.2.2.1 x.2.2.2.2.2.2.2.1 x.2.2.2.2.2.2.1).1 == x.2.2.2.2.2.2.2.2.1) && ((qW x.2.1 && qW x.2.2.1) && ((zY x.2.2.2.2.1 && zY x.2.2.2.2.2.1) && ((x.2.2.2.2.1:Int) != x.2.2.2.2.2.1 && decide (0 ≤ x.2.2.2.2.2.2.2.2.2.1))))
theorem zKO {x:zo} (h:zhk x):zm1 (x,()) = some (ziT x,()):=by
  rw [zA]
  simp only [zm1,zxr h.price h.amount,zL4,yc,Option.bind_some,ziT]
  generalize zkr x.2.2.2.1 x.2.2.2.2.2.2.2.1 x.2.2.2.2.2.2.1 = n
  grind
theorem zJb {x:zo} (h:zhk x):zh1 (x,()) = some (ziT x,()):=by
  rw [zA]
  simp only [zh1,zvN h.price h.amount,zI9,Option.bind_some,ziT]
  generalize zkr x.2.2.2.1 x.2.2.2.2.2.2.2.1 x.2.2.2.2.2.2.1 = n
  unfold zY
  grind
def zld (x:zo):Bool:=bif x.1 then ziT x else eqI zr x (ze zr)
def zqr (l:List zo):List Int:=(l.filter fun x=>x.1).map fun x=>x.2.2.2.2.2.2.2.2.2.1
theorem zKP (o:List (Int × Int)) (x z v:Int):jI tI (jL tI o x v) z = (jI tI o z || z == x):=by
  induction o with
  | nil=>simp only [jL,jI]; show (bif z == x then true else false) = (false || z == x); cases z == x <;> rfl
  | cons e o ih =>
    obtain ⟨e1,e2⟩:=e
    have hx:∀ y:Int,eqI tI y e1 = (y == e1):=fun y=>rfl
    simp only [jL,jI,hx]
    cases h:x == e1 with
    | true =>
      have:=eq_of_beq h
      subst this
      simp only [cond_true,jI,hx]
      cases z == x <;> simp
    | false =>
      simp only [cond_false,jI,ih,hx]
      cases z == e1 <;> rfl
theorem zDe (o:List (Int × Int)) (x v:Int):(jL tI o x v).length = o.length + (bif jI tI o x then 0 else 1):=by
  induction o with
  | nil=>rfl
  | cons e o ih =>
    simp only [jL,jI]
    cases h:eqI tI x e.1 with
    | true=>simp only [cond_true,List.length_cons,Nat.add_zero]
    | false =>
      simp only [cond_false,List.length_cons,ih]
      generalize (bif jI tI o x then 0 else 1) = n
      omega
def zqs:List Int→List (Int × Int)→Nat
  | [],o=>o.length
  | x :: l,o=>zqs l (jL tI o x (wI (zaA tI (0:Int) o x + 1)))
theorem zJL:∀ (l:List Int) (o:List (Int × Int)),zqs l o ≤ o.length + l.length
  | [],o=>Nat.le_refl _
  | x :: l,o=>by
    have h:=zJL l (jL tI o x (wI (zaA tI (0:Int) o x + 1)))
    rw [zDe] at h
    simp only [zqs,List.length_cons]
    cases hm:jI tI o x <;> (rw [hm] at h; simp only [cond_true,cond_false] at h; omega)
theorem zJM:∀ (l:List Int) (o:List (Int × Int)),zqs l o = o.length + l.length ↔ (l.Pairwise (· ≠ ·) ∧ ∀ x ∈ l,jI tI o x = false)
  | [],o=>by simp [zqs]
  | x :: l,o=>by
    have h:=zJL l (jL tI o x (wI (zaA tI (0:Int) o x + 1)))
    have ih:=zJM l (jL tI o x (wI (zaA tI (0:Int) o x + 1)))
    rw [zDe] at h ih
    simp only [zqs,List.length_cons,List.pairwise_cons]
    cases hm:jI tI o x with
    | true =>
      rw [hm] at h
      simp only [cond_true] at h
      constructor
      · intro h1; omega
      · rintro ⟨-,h1⟩
        have:=h1 x (by simp)
        rw [hm] at this; cases this
    | false =>
      rw [hm] at ih
      simp only [cond_false] at ih
      rw [show o.length + (l.length + 1) = o.length + 1 + l.length by omega,ih]
      simp only [zKP]
      constructor
      · rintro ⟨h1,h2⟩
        refine ⟨⟨fun z hz=>?_,h1⟩,fun z hz=>?_⟩
        · have:=h2 z hz
          simp only [Bool.or_eq_false_iff,beq_eq_false_iff_ne] at this
          exact fun e=>this.2 e.symm
        · rcases List.mem_cons.1 hz with rfl | hz
          · exact hm
          · have:=h2 z hz
            simp only [Bool.or_eq_false_iff] at this
            exact this.1
      · rintro ⟨⟨h1,h2⟩,h3⟩
        refine ⟨h2,fun z hz=>?_⟩
        simp only [Bool.or_eq_false_iff,beq_eq_false_iff_ne]
        exact ⟨h3 z (by simp [hz]),fun e=>h1 z hz e.symm⟩
def zfN (l:List zo):Bool:=l.all zld && zqs (zqr l) [] == (zqr l).length
theorem zHo {l:List zo} (hl:l.length ≤ 1000000) (h:∀ x ∈ l,zhk x):zoe (l,()) = some (zfN l,()):=by
  have hloop:=jY (B:=zeC) (l:=l) (α:=Nat × List (Int × Int)) zH (fun i s=>s.1 ≤ i) (fun i s=>((s.1:Int),l,(l.length:Int),i,s.2))
    (fun rest s=>some (rest.all zld && zqs (zqr rest) s.2 == s.1 + (zqr rest).length,())) (by unfold Go.maxLen; omega) (fun k i x rest s hi hI hx hm hr hk=>by
      obtain ⟨n,o⟩:=s
      simp only [zeC]
      have hn:n ≤ i:=hI
      have hw:wI ((n:Int) + 1) = ((n + 1:Nat):Int):=by
        unfold wI
        rw [IntWalk.i64_in _ (by omega)]; rfl
      rw [ltT hi,zi hi]
      simp only [zE,hx,cond_true,zKO (h x hm),Option.bind_some,hw,zqr,zlc,List.all_cons,zld]
      cases hlive:x.1 with
      | false =>
        simp only [cond_false]
        have:=hk (n,o) (by show n ≤ i + 1; omega)
        cases eqI zr x (ze zr) with
        | false=>rfl
        | true=>exact this
      | true =>
        simp only [cond_true,List.map_cons,zqs,List.length_cons]
        have:=hk (n + 1,jL tI o x.2.2.2.2.2.2.2.2.2.1 (wI (zaA tI (0:Int) o x.2.2.2.2.2.2.2.2.2.1 + 1))) (by show n + 1 ≤ i + 1; omega)
        cases ziT x with
        | false=>rfl
        | true =>
          refine this.trans ?_
          simp only [zqr,Bool.true_and]
          rw [show n + 1 + (List.map (fun x:zo=>x.2.2.2.2.2.2.2.2.2.1) (List.filter (fun x=>x.1) rest)).length = n + ((List.map (fun x:zo=>x.2.2.2.2.2.2.2.2.2.1) (List.filter (fun x=>x.1) rest)).length + 1) by omega]) (fun k s _=>by
      obtain ⟨n,o⟩:=s
      simp only [zeC]
      rw [ltF]
      simp only [cond_false,zqr,List.filter_nil,List.map_nil,zqs,List.length_nil,List.all_nil,Bool.true_and,Nat.add_zero]
      rw [zL0]
      cases o.length == n <;> rfl) (0,[]) (Nat.le_refl _)
  refine hloop.trans ?_
  unfold zfN
  rw [Nat.zero_add]
theorem zJc {l:List zo} (hl:l.length ≤ Go.maxLen) (n:Nat) (hn:n ≤ l.length) (b:Int):zlr (l,(n:Int),b,()) = some (!zU (fun j=>!((l.getD j zH).1 && ((l.getD j zH).2.2.2.2.2.2.2.2.2.1:Int) == b)) 0 (n - 0),()):=by
  have hloop:=z6 (B:=zfp) (i0:=0) (n:=n) (p:=fun j=>!((l.getD j zH).1 && ((l.getD j zH).2.2.2.2.2.2.2.2.2.1:Int) == b)) (fin:=some (false,())) (bad:=some (true,())) (by omega) (Nat.zero_le _) (fun i=>(l,(n:Int),b,i)) (fun k i h1 h2=>by
    simp only [zfp]
    rw [ltT h2]
    simp only [zi (show i < l.length by omega),zE,cond_true]
    grind) (fun k=>by simp only [zfp]; rw [ltF]; rfl)
  refine hloop.trans ?_
  cases zU (fun j=>!((l.getD j zH).1 && ((l.getD j zH).2.2.2.2.2.2.2.2.2.1:Int) == b)) 0 (n - 0) <;> rfl
theorem zKQ {l:List zo}:(zqr l).Pairwise (· ≠ ·) ↔ ∀ i j:Nat,i < j→j < l.length→(l.getD i zH).1 = true→(l.getD j zH).1 = true→(l.getD i zH).2.2.2.2.2.2.2.2.2.1 ≠ (l.getD j zH).2.2.2.2.2.2.2.2.2.1:=by
  unfold zqr
  rw [List.pairwise_map,List.pairwise_filter,List.pairwise_iff_getElem]
  have e:∀ i (h:i < l.length),l.getD i zH = l[i]:=fun i h=>by simp [List.getD,h]
  constructor
  · intro h i j hij hj h1 h2
    rw [e i (by omega)] at h1 ⊢
    rw [e j hj] at h2 ⊢
    exact h i j (by omega) hj hij h1 h2
  · intro h i j hi hj hij h1 h2
    have:=h i j hij hj (by rw [e i hi]; exact h1) (by rw [e j hj]; exact h2)
    rw [e i hi,e j hj] at this
    exact this
theorem zKR (l:List zo):zfN l = zU (fun i=>zld (l.getD i zH) && (!(l.getD i zH).1 || zU (fun j=>!((l.getD j zH).1 && ((l.getD j zH).2.2.2.2.2.2.2.2.2.1:Int) == (l.getD i zH).2.2.2.2.2.2.2.2.2.1)) 0 (i - 0))) 0 (l.length - 0):=by
  rw [Bool.eq_iff_iff,qP]
  unfold zfN
  have hc:=zJM (zqr l) []
  simp only [List.length_nil,Nat.zero_add] at hc
  simp only [Bool.and_eq_true,List.all_eq_true,beq_iff_eq,hc,zKQ]
  constructor
  · rintro ⟨h1,h2,-⟩ i _ hi
    refine ⟨h1 _ (zV (by omega)),?_⟩
    cases hlive:(l.getD i zH).1 with
    | false=>rfl
    | true =>
      simp only [Bool.not_true,Bool.false_or,qP]
      intro j _ hj
      cases hj1:(l.getD j zH).1 with
      | false=>rfl
      | true =>
        have:=h2 j i (by omega) (by omega) hj1 hlive
        simp only [Bool.true_and,Bool.not_eq_true',beq_eq_false_iff_ne]
        exact this
  · intro h
    refine ⟨fun x hx=>?_,fun i j hij hj h1 h2=>?_,fun x _=>rfl⟩
    · obtain ⟨i,hi,rfl⟩:=List.mem_iff_getElem.1 hx
      have e:l.getD i zH = l[i]:=by simp [List.getD,hi]
      rw [← e]
      exact (h i (by omega) (by omega)).1
    · have:=(h j (by omega) (by omega)).2
      rw [h2] at this
      simp only [Bool.not_true,Bool.false_or,qP] at this
      have:=this i (by omega) (by omega)
      rw [h1] at this
      simp only [Bool.true_and,Bool.not_eq_true',beq_eq_false_iff_ne] at this
      exact this
theorem zEP {l:List zo} (hl:l.length ≤ Go.maxLen) (h:∀ x ∈ l,zhk x):zmk (l,()) = some (zfN l,()):=by
  rw [zA,zKR]
  exact z6 (B:=zcI) (i0:=0) hl (Nat.zero_le _) (fun i=>(l,i)) (fun k i h1 h2=>by
    simp only [zcI]
    rw [ltT h2]
    simp only [zi h2,zE,cond_true]
    rw [zJb (h _ (zV h2)),zJc hl i (by omega)]
    simp only [Option.bind_some,zld]
    grind) (fun k=>by simp only [zcI]; rw [ltF]; rfl)
structure znc (x:zF):Prop where
  amount:qu x.2.2.2.2.2.2.2.1
  price:qu x.2.2.2.2.2.2.2.2.1
def zhl (x:zF):Bool:=(decide (x.1 ≤ M62) && (qW x.2.1 && (qW x.2.2.1 && (qW x.2.2.2.1 && qW x.2.2.2.2.2.2.2.2.2.1)))) && bif (x.2.2.2.2.1:Int) == 3 then ((x.2.2.2.2.2.1:Int) == 0 && (x.2.2.2.2.2.2.1:Int) == 0) && ((x.2.2.2.2.2.2.2.1:Int) == 0 && (x.2.2.2.2.2.2.2.2.1:Int) == 0)
  else ((zkr x.2.2.2.2.1 x.2.2.2.2.2.2.2.1 x.2.2.2.2.2.2.2.2.1).2.1 == 0 && (x.2.2.2.2.2.2.2.2.2.1:Int) == 0) && ((x.2.2.2.2.2.1:Int) != x.2.2.2.2.2.2.1 && (zY x.2.2.2.2.2.1 && zY x.2.2.2.2.2.2.1))
theorem zL5 (x:zF):eqI zv x (x.1,x.2.1,x.2.2.1,x.2.2.2.1,x.2.2.2.2.1,(ze zv).2.2.2.2.2.1,(ze zv).2.2.2.2.2.2.1,(ze zv).2.2.2.2.2.2.2.1,(ze zv).2.2.2.2.2.2.2.2.1,x.2.2.2.2.2.2.2.2.2.1,(ze zv).2.2.2.2.2.2.2.2.2.2) = (((x.2.2.2.2.2.1:Int) == 0 && (x.2.2.2.2.2.2.1:Int) == 0) && ((x.2.2.2.2.2.2.2.1:Int) == 0 && (x.2.2.2.2.2.2.2.2.1:Int) == 0)):=by
  show cond ((x.1:Int) == x.1) (cond ((x.2.1:Int) == x.2.1) (cond ((x.2.2.1:Int) == x.2.2.1) (cond ((x.2.2.2.1:Int) == x.2.2.2.1) (cond ((x.2.2.2.2.1:Int) == x.2.2.2.2.1) (cond ((x.2.2.2.2.2.1:Int) == 0) (cond ((x.2.2.2.2.2.2.1:Int) == 0) (cond ((x.2.2.2.2.2.2.2.1:Int) == 0) (cond ((x.2.2.2.2.2.2.2.2.1:Int) == 0) (cond ((x.2.2.2.2.2.2.2.2.2.1:Int) == x.2.2.2.2.2.2.2.2.2.1) true false) false) false) false) false) false) false) false) false) false = _
  simp only [beq_self_eq_true,cond_true]
  cases ((x.2.2.2.2.2.1:Int) == 0) <;> cases ((x.2.2.2.2.2.2.1:Int) == 0) <;> cases ((x.2.2.2.2.2.2.2.1:Int) == 0) <;> cases ((x.2.2.2.2.2.2.2.2.1:Int) == 0) <;> rfl
theorem zJd {x:zF} (h:znc x):zly (x,()) = some (zhl x,()):=by
  rw [zA]
  simp only [zly,zxr h.amount h.price,zKN,yc,Option.bind_some,zhl]
  rw [zL5 x]
  generalize zkr x.2.2.2.2.1 x.2.2.2.2.2.2.2.1 x.2.2.2.2.2.2.2.2.1 = n
  unfold M62
  grind
theorem zJe {x:zF} (h:znc x):zlw (x,()) = some (zhl x,()):=by
  rw [zA]
  simp only [zlw,zvN h.amount h.price,zJa,Option.bind_some,zhl]
  have hz:(x.2.2.2.2.2.2.2.2.2.1:Int) == 0→qW x.2.2.2.2.2.2.2.2.2.1 = true:=fun h=>by unfold qW; grind
  generalize zkr x.2.2.2.2.1 x.2.2.2.2.2.2.2.1 x.2.2.2.2.2.2.2.2.1 = n
  unfold M62 zY
  grind
def zA6 (a b:zF):Int:=orV (zkn a.1 b.1) (zkn a.2.1 b.2.1)
theorem zEQ (a b:zF):zim (a,b,()) = some (zA6 a b,()):=by
  simp only [zim,ztF,zoj,Option.bind_some]
  show Option.bind (zdZ ([zkn a.1 b.1,zkn a.2.1 b.2.1],())) _ = _
  rw [zNR]; rfl
theorem zCC (a b:zF):zgW (a,b,()) = some (!decide (zA6 b a ≥ 0),()):=by
  rw [zA]
  simp only [zgW,zA6,orV,zkn]
  grind
def ziU (l:List zF):Bool:=zU (fun i=>zhl (l.getD i vP) && (decide (i = 0) || !decide (zA6 (l.getD (i - 1) vP) (l.getD i vP) ≥ 0))) 0 (l.length - 0)
theorem zER {l:List zF} (hl:l.length ≤ Go.maxLen) (h:∀ x ∈ l,znc x):zmo (l,()) = some (ziU l,()):=by
  rw [zA]
  exact z6 (B:=zcN) (i0:=0) hl (Nat.zero_le _) (fun i=>(l,l,(l.length:Int),i)) (fun k i h1 h2=>by
    simp only [zcN]
    rw [ltT h2,zi h2,zE,zJd (h _ (zV h2))]
    by_cases h0:i = 0
    · subst h0
      simp only [cond_true,Option.bind_some]
      grind
    · rw [zi2 (by omega) (by omega),zi (by omega),Int.toNat_natCast,zEQ]
      simp only [cond_true,Option.bind_some]
      grind) (fun k=>by simp only [zcN]; rw [ltF]; rfl)
theorem zES {l:List zF} (hl:l.length ≤ Go.maxLen) (h:∀ x ∈ l,znc x):zmm (l,()) = some (ziU l,()):=by
  rw [zA]
  exact z6 (B:=zcK) (i0:=0) hl (Nat.zero_le _) (fun i=>(l,i)) (fun k i h1 h2=>by
    simp only [zcK]
    rw [ltT h2,zi h2,zE,zJe (h _ (zV h2))]
    by_cases h0:i = 0
    · subst h0
      simp only [cond_true,Option.bind_some]
      grind
    · rw [zi2 (by omega) (by omega),zi h2,zi (by omega),Int.toNat_natCast,zCC]
      simp only [cond_true,Option.bind_some]
      grind) (fun k=>by simp only [zcK]; rw [ltF]; rfl)
end Go.Proofs.YtlklokhlgcfcdaaGreatDoor
end
section
namespace Go.Proofs.YtlklokhlgcfcdaaGreatDoor
open Go.Ev
def zsu (a:List Int):Prop:=∀ x ∈ a,qu x
theorem vw {a:List Int} (h:zsu a) (i:Nat):qu (a.getD i 0):=by
  by_cases hi:i < a.length
  · exact h _ (zV hi)
  · rw [List.getD_eq_getElem?_getD,List.getElem?_eq_none (by omega)]
    unfold qu U64; decide
end Go.Proofs.YtlklokhlgcfcdaaGreatDoor
end
