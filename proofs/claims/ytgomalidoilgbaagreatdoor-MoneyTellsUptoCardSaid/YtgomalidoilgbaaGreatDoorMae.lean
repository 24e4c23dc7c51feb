import Derived.Test.YtgomalidoilgbaaGreatDoorMad
set_option linter.unusedVariables false
set_option linter.unusedSimpArgs false
section
namespace Go.Proofs.YtgomalidoilgbaaGreatDoor
open Go.Ev
noncomputable section
abbrev zel:Type:=(List zv) × Int × Int × Int
abbrev zB6:zel→St:=fun (v0,v1,v6,v7)=>St.mk [(0,.dat (.sl zx) v0),(1,.dat tI v1),(6,.dat tU v6),(7,.dat tI v7)] []
def zem (k0:zel→Option (Int × (Int × Unit))):zel→Option (Int × (Int × Unit)):=fun (v0,v1,v6,v7) =>
  bif decide (v7 < ((List.length v0):Int)) then inR v7 ((List.length v0):Int) (bif (ix zS v0 v7).1 then inR v7 ((List.length v0):Int) (bif (ix zS v0 v7).2.2.2.1.1 == v1 then inR v7 ((List.length v0):Int) (Option.bind (vj (v6,(ix zS v0 v7).2.2.2.1.2.1,())) fun q0=>bif q0.2.1 != 0 then some (0,q0.2.1,()) else k0 (v0,v1,q0.1,wI (v7 + 1))) else k0 (v0,v1,v6,wI (v7 + 1))) else k0 (v0,v1,v6,wI (v7 + 1))) else some (v6,0,())
abbrev zro (K:Nat):zel→Option (Int × (Int × Unit)):=zg zem K
theorem zB7 (K:Nat):∀ n,evV Es1 K Tryz.f180 0 (ch [tU,tI]) [1,1,1,0,1,0] [] zB6 n = zg zem n:=zr fun n0 (v0,v1,v6,v7)=>by kernel_rfl
def zjV (L0:zel→Option (Int × (Int × Unit))):((List zv) × (Int × Unit))→Option (Int × (Int × Unit)):=fun (x0,x1,()) =>
  bif decide (x1 < 0) then some (0,1,()) else bif decide (x1 > 3) then some (0,1,()) else L0 (x0,x1,0,0)
def zjW:((List zv) × Int × Unit)→Option (Int × Int × Unit):=zjV (zro K0)
abbrev zvm:Fun:=⟨180,(ch [(.sl zx),tI]),(ch [tU,tI]),0,zjW⟩
theorem zGB:Sq zvm:=ml1 (d:=false) (S:=fun K=>zjV (zro K)) Tryz.func180 (by kernel_rfl) (fun K=>tr1 (T:=zjV) (zB7 K K) fun (x0,x1,())=>by kernel_rfl) rfl
abbrev zen:Type:=Int × Int × Int × Int × Int × zb
abbrev zrp:zen→St:=fun (v1,v6,v7,v8,v10,o0)=>St.mk [(1,.dat tI v1),(2,.bp 0 []),(6,.dat tU v6),(7,.dat tU v7),(8,.dat tI v8),(10,.dat tI v10)] [.bx (.dat zh o0) false]
abbrev zeo:Type:=Int × Int × Int × Int × Int × zb
abbrev zB8:zeo→St:=fun (v1,v6,v7,v8,v9,o0)=>St.mk [(1,.dat tI v1),(2,.bp 0 []),(6,.dat tU v6),(7,.dat tU v7),(8,.dat tI v8),(9,.dat tI v9)] [.bx (.dat zh o0) false]
def zep (k1:zen→Option (Int × (Int × Unit))):zen→Option (Int × (Int × Unit)):=fun (v1,v6,v7,v8,v10,o0) =>
  bif decide (v10 < ((List.length o0.2.1):Int)) then bif v8 == 0 then inR v10 ((List.length o0.2.1):Int) (inR v1 (↑4:Int) (Option.bind (vj (v7,List.getD (ix za o0.2.1 v10).2.2.2.2.2.2.2.2.1 (Int.toNat v1) (0:Int),())) fun q1=>k1 (v1,v6,q1.1,q1.2.1,wI (v10 + 1),o0))) else bif v8 != 0 then some (0,v8,()) else Option.bind (zfr (v6,v7,())) fun q2=>some (q2.1,q2.2.1,()) else bif v8 != 0 then some (0,v8,()) else Option.bind (zfr (v6,v7,())) fun q3=>some (q3.1,q3.2.1,())
abbrev zaU (K:Nat):zen→Option (Int × (Int × Unit)):=zg zep K
theorem zB9 (K:Nat):∀ n,evV Es1 K Tryz.f90 0 (ch [tU,tI]) [1,1,1,1,1,1,0,1,0] [] zrp n = zg zep n:=zr fun n1 (v1,v6,v7,v8,v10,o0)=>by kernel_rfl
def zaV (L1:zen→Option (Int × (Int × Unit))) (k0:zeo→Option (Int × (Int × Unit))):zeo→Option (Int × (Int × Unit)):=fun (v1,v6,v7,v8,v9,o0) =>
  bif decide (v9 < ((List.length o0.2.1):Int)) then bif v8 == 0 then inR v9 ((List.length o0.2.1):Int) (inR v1 (↑4:Int) (Option.bind (vj (v6,List.getD (ix za o0.2.1 v9).2.2.2.2.2.2.2.1 (Int.toNat v1) (0:Int),())) fun q0=>k0 (v1,q0.1,v7,q0.2.1,wI (v9 + 1),o0))) else L1 (v1,v6,v7,v8,0,o0) else L1 (v1,v6,v7,v8,0,o0)
abbrev zrq (K:Nat):zeo→Option (Int × (Int × Unit)):=zg (fun k0=>zaV (zaU K) k0) K
theorem zCa (K:Nat):∀ n,evV Es1 K Tryz.f90 0 (ch [tU,tI]) [1,1,1,1,1,0,1,0] [] zB8 n = zg (fun k0=>zaV (zaU K) k0) n:=qC (B:=fun L1 k0=>zaV L1 k0) (V1:=fun n0=>evV Es1 K Tryz.f90 0 (ch [tU,tI]) [1,1,1,1,1,1,0,1,0] [] zrp K) (W1:=fun k0=>(zaU K)) (fun n0=>zB9 K K) fun n0 (v1,v6,v7,v8,v9,o0)=>by kernel_rfl
def zjX (L0:zeo→Option (Int × (Int × Unit))):(zb × (Int × Unit))→Option (Int × (Int × Unit)):=fun (x0,x1,()) =>
  bif decide (x1 < 0) then some (0,1,()) else bif decide (x1 > 3) then some (0,1,()) else L0 (x1,0,0,0,0,x0)
def zjY:(zb × Int × Unit)→Option (Int × Int × Unit):=zjX (zrq K0)
abbrev zvn:Fun:=⟨90,(ch [zh,tI]),(ch [tU,tI]),0,zjY⟩
theorem zGC:Sq zvn:=ml1 (d:=false) (S:=fun K=>zjX (zrq K)) Tryz.func90 (by kernel_rfl) (fun K=>tr1 (T:=zjX) (zCa K K) fun (x0,x1,())=>by kernel_rfl) rfl
def zjZ:(zf × (pMe × Unit))→Option (Bool × Unit):=fun (x0,x1,()) =>
  bif decide (x1.1 ≥ 0) then bif decide (x1.1 < ((List.length x0.2.1):Int)) then inR x1.1 ((List.length x0.2.1):Int) (bif x1.2.1 == ix (0:Int) x0.2.1 x1.1 then Option.bind (jU (x0,x1.2.2.1,())) fun q0=>bif q0.1 then some (true,()) else some (false,()) else some (false,())) else some (false,()) else some (false,())
abbrev zvo:Fun:=⟨78,(ch [zo,tMe]),(ch [.bool]),0,zjZ⟩
theorem zGD:Sq zvo:=ms1 (d:=false) (K:=0) Tryz.func78 (by kernel_rfl) (funext fun (x0,x1,())=>by kernel_rfl)
def zdy:(zb × (Int × (Int × (Int × (Int × Unit)))))→Option (zb × Unit):=fun (x0,x1,x2,x3,x4,()) =>
  inR x1 ((List.length x0.2.1):Int) (bif decide ((0:Nat) + List.length (ix za x0.2.1 x1).2.2.2.2.2.1 ≤ lim) then inR x2 ((List.length ([] ++ (ix za x0.2.1 x1).2.2.2.2.2.1)):Int) (inR x3 (↑4:Int) (inR x2 ((List.length ([] ++ (ix za x0.2.1 x1).2.2.2.2.2.1)):Int) (inR x3 (↑4:Int) (Option.bind (za9 (x0,x1,(u5 (ix za x0.2.1 x1) (List.set ([] ++ (ix za x0.2.1 x1).2.2.2.2.2.1) (Int.toNat x2) (List.set (List.getD ([] ++ (ix za x0.2.1 x1).2.2.2.2.2.1) (Int.toNat x2) (ze (.arr 4 tU))) (Int.toNat x3) (wU (List.getD (List.getD ([] ++ (ix za x0.2.1 x1).2.2.2.2.2.1) (Int.toNat x2) (ze (.arr 4 tU))) (Int.toNat x3) (0:Int) + x4))))),())) fun q0=>some (q0.1,()))))) else none)
abbrev zw6:Fun:=⟨73,(ch [zh,tI,tI,tI,tU]),(ch [zh]),0,zdy⟩
theorem zIs:Sq zw6:=ms1 (d:=false) (K:=0) Tryz.func73 (by kernel_rfl) (funext fun (x0,x1,x2,x3,x4,())=>by kernel_rfl)
def zj0:(zb × (Int × (Int × (Int × (Int × Unit)))))→Option (zb × Unit):=fun (x0,x1,x2,x3,x4,()) =>
  inR x1 ((List.length x0.2.1):Int) (bif decide ((0:Nat) + List.length (ix za x0.2.1 x1).2.2.2.2.2.1 ≤ lim) then inR x2 ((List.length ([] ++ (ix za x0.2.1 x1).2.2.2.2.2.1)):Int) (inR x3 (↑4:Int) (inR x2 ((List.length ([] ++ (ix za x0.2.1 x1).2.2.2.2.2.1)):Int) (inR x3 (↑4:Int) (Option.bind (za9 (x0,x1,(u5 (ix za x0.2.1 x1) (List.set ([] ++ (ix za x0.2.1 x1).2.2.2.2.2.1) (Int.toNat x2) (List.set (List.getD ([] ++ (ix za x0.2.1 x1).2.2.2.2.2.1) (Int.toNat x2) (ze (.arr 4 tU))) (Int.toNat x3) (wU (List.getD (List.getD ([] ++ (ix za x0.2.1 x1).2.2.2.2.2.1) (Int.toNat x2) (ze (.arr 4 tU))) (Int.toNat x3) (0:Int) - x4))))),())) fun q0=>some (q0.1,()))))) else none)
abbrev zvp:Fun:=⟨76,(ch [zh,tI,tI,tI,tU]),(ch [zh]),0,zj0⟩
theorem zGE:Sq zvp:=ms1 (d:=false) (K:=0) Tryz.func76 (by kernel_rfl) (funext fun (x0,x1,x2,x3,x4,())=>by kernel_rfl)
abbrev yz:Type:=Int × zn × zn
abbrev zkO:yz→St:=fun (v6,o0,o1)=>St.mk [(2,.bp 0 []),(3,.bp 1 []),(6,.dat tI v6)] [.bx (.dat zl o0) false,.bx (.dat zl o1) false]
abbrev yA:Type:=Int × zn × zn
abbrev zt9:yA→St:=fun (v5,o0,o1)=>St.mk [(2,.bp 0 []),(3,.bp 1 []),(5,.dat tI v5)] [.bx (.dat zl o0) false,.bx (.dat zl o1) false]
def yB (k1:yz→Option (Bool × Unit)):yz→Option (Bool × Unit):=fun (v6,o0,o1) =>
  bif decide (v6 < ((List.length o0.2.2.2.2.2.2.1):Int)) then inR v6 ((List.length o0.2.2.2.2.2.2.1):Int) (inR v6 ((List.length o1.2.2.2.2.2.2.1):Int) (bif !eqI zL (ix zF3 o0.2.2.2.2.2.2.1 v6) (ix zF3 o1.2.2.2.2.2.2.1 v6) then some (false,()) else k1 (wI (v6 + 1),o0,o1))) else some (true,())
abbrev zbK (K:Nat):yz→Option (Bool × Unit):=zg yB K
theorem zua (K:Nat):∀ n,evV Es1 K Tryz.f57 0 (ch [.bool]) [1,1,1,1,0,1,0] [] zkO n = zg yB n:=zr fun n1 (v6,o0,o1)=>by kernel_rfl
def va (L1:yz→Option (Bool × Unit)) (k0:yA→Option (Bool × Unit)):yA→Option (Bool × Unit):=fun (v5,o0,o1) =>
  bif decide (v5 < ((List.length o0.2.2.2.2.2.1):Int)) then inR v5 ((List.length o0.2.2.2.2.2.1):Int) (inR v5 ((List.length o1.2.2.2.2.2.1):Int) (bif !eqI (.arr 4 tU) (List.getD o0.2.2.2.2.2.1 (Int.toNat v5) (ze (.arr 4 tU))) (List.getD o1.2.2.2.2.2.1 (Int.toNat v5) (ze (.arr 4 tU))) then some (false,()) else k0 (wI (v5 + 1),o0,o1))) else L1 (0,o0,o1)
abbrev zfX (K:Nat):yA→Option (Bool × Unit):=zg (fun k0=>va (zbK K) k0) K
theorem zub (K:Nat):∀ n,evV Es1 K Tryz.f57 0 (ch [.bool]) [1,1,1,0,1,0] [] zt9 n = zg (fun k0=>va (zbK K) k0) n:=qC (B:=fun L1 k0=>va L1 k0) (V1:=fun n0=>evV Es1 K Tryz.f57 0 (ch [.bool]) [1,1,1,1,0,1,0] [] zkO K) (W1:=fun k0=>(zbK K)) (fun n0=>zua K K) fun n0 (v5,o0,o1)=>by kernel_rfl
def zdM (L0:yA→Option (Bool × Unit)):(zn × (zn × Unit))→Option (Bool × Unit):=fun (x0,x1,()) =>
  Option.bind (zhy (x0.1,x1.1,())) fun q0=>bif q0.1 then Option.bind (zhA (x0.2.1,x1.2.1,())) fun q1=>bif q1.1 then Option.bind (znS (x0.2.2.1,x1.2.2.1,())) fun q2=>bif q2.1 then Option.bind (znU (x0.2.2.2.1,x1.2.2.2.1,())) fun q3=>bif q3.1 then Option.bind (znW (x0.2.2.2.2.1,x1.2.2.2.2.1,())) fun q4=>bif q4.1 then bif ((List.length x0.2.2.2.2.2.1):Int) != ((List.length x1.2.2.2.2.2.1):Int) then some (false,()) else bif ((List.length x0.2.2.2.2.2.2.1):Int) != ((List.length x1.2.2.2.2.2.2.1):Int) then some (false,()) else bif !eqI (.arr 4 tU) x0.2.2.2.2.2.2.2.1 x1.2.2.2.2.2.2.2.1 then some (false,()) else bif !eqI (.arr 4 tU) x0.2.2.2.2.2.2.2.2.1 x1.2.2.2.2.2.2.2.2.1 then some (false,()) else L0 (0,x0,x1) else some (false,()) else some (false,()) else some (false,()) else some (false,()) else some (false,())
def zdN:(zn × zn × Unit)→Option (Bool × Unit):=zdM (zfX K0)
abbrev zmQ:Fun:=⟨57,(ch [zl,zl]),(ch [.bool]),0,zdN⟩
theorem zws:Sq zmQ:=ml1 (d:=false) (S:=fun K=>zdM (zfX K)) Tryz.func57 (by kernel_rfl) (fun K=>tr1 (T:=zdM) (zub K K) fun (x0,x1,())=>by kernel_rfl) rfl
abbrev L2:List Fun:=zs9 :: znX :: zhq :: zmP :: zjM :: zph :: zi9 :: zhT :: zrg :: zf3 :: zkN :: znY :: zu9 :: zhr :: zhU :: zva :: zvb :: zhV :: zlX :: zhW :: zrh :: zri :: zhs :: zw3 :: zvd :: znZ :: zht :: zn0 :: zhu :: zn1 :: zw4 :: zhZ :: zja :: zn2 :: zn3 :: zn4 :: zpi :: zn5 :: zpj :: zz3 :: zta :: zrk :: zn6 :: zrl :: zrm :: zvh :: ztb :: ztc :: ztd :: zvi :: zvj :: zw5 :: zvk :: zvl :: zvm :: zvn :: zvo :: zw6 :: zvp :: zmQ :: L1
theorem h2:Sds Tryz.prog E0 L2:=⟨zDS,zx0,zoF,zwr,zsv,zz0,zrf,zqp,zBW,zm3,zt8,zx1,zGq,zoG,zqq,zGr,zGs,zqr,zvc,zqs,zBX,zBY,zoH,zIp,zGt,zx2,zoI,zx3,zoJ,zx4,zIq,zqt,zrj,zx5,zx6,zx7,zz1,zx8,zz2,zKq,zDT,zBZ,zyb,zB0,zB1,zGw,zDU,zDV,zDW,zGx,zGy,zIr,zGz,zGA,zGB,zGC,zGD,zIs,zGE,zws,h1⟩
theorem ms2 {d:Bool} {F:Fun} {f:Go.Func} {K:Nat} (hf:Tryz.prog.funcs[F.id]? = some f) (ho:jA f = true) (h:evF (En E0 d L2) K f F.md F.a F.r = F.spec):Sd Tryz.prog E0 F:=mkS h2 hf ho h
theorem ml2 {d:Bool} {F:Fun} {f:Go.Func} {S:Nat→F.a.I→Option F.r.I} (hf:Tryz.prog.funcs[F.id]? = some f) (ho:jA f = true) (h:∀ K,evF (En E0 d L2) K f F.md F.a F.r = S K) (e:S K0 = F.spec):Sd Tryz.prog E0 F:=mkS h2 hf ho ((h K0).trans e)
abbrev Es2:Env:=En E0 false L2
def zlx:(zz × (zz × Unit))→Option (Int × Unit):=fun (x0,x1,()) =>
  Option.bind (zax (x0.1,x1.1,())) fun q0=>Option.bind (vS (x0.2.1,x1.2.1,())) fun q1=>Option.bind (zdY (zk (zk (List.replicate 2 (0:Int)) 0 q0.1) 1 q1.1,())) fun q2=>some (q2.1,())
abbrev zw7:Fun:=⟨321,(ch [zq,zq]),(ch [tI]),0,zlx⟩
theorem zIt:Sq zw7:=ms2 (d:=false) (K:=0) Tryz.func321 (by kernel_rfl) (funext fun (x0,x1,())=>by kernel_rfl)
def yg:(zf × Unit)→Option (Bool × Unit):=fun (x0,()) =>
  Option.bind (qt (((List.length x0.2.1):Int),1,8,())) fun q0=>bif q0.1 then Option.bind (qK (x0.2.1,some fun z=>zck (z.1,some x0,()),())) fun q1=>bif q1.1 then some (false,()) else some (true,()) else some (false,())
abbrev ztf:Fun:=⟨209,(ch [zo]),(ch [.bool]),0,yg⟩
theorem zDZ:Sq ztf:=ms2 (d:=false) (K:=0) Tryz.func209 (by kernel_rfl) (funext fun (x0,())=>by kernel_rfl)
def zm4:(ByteArray × ((Option ((Int × Unit)→Option (Bool × Unit))) × Unit))→Option (Bool × Unit):=fun (x0,x1,()) =>
  Option.bind (vk (List.map (fun b=>(↑(UInt8.toNat b):Int)) (Array.toList (ByteArray.data x0)),some fun z=>zjx (z.1,some x1,()),())) fun q0=>bif q0.1 then some (false,()) else some (true,())
abbrev zAa:Fun:=⟨392,(ch [.str,(.fn (ch [(.int .u8)]) (ch [.bool]))]),(ch [.bool]),0,zm4⟩
theorem zKr:Sq zAa:=ms2 (d:=false) (K:=0) Tryz.func392 (by kernel_rfl) (funext fun (x0,x1,())=>by kernel_rfl)
abbrev zbi:Type:=Int × (List z8) × Int × Int × zf × Int
abbrev zyi:zbi→St:=fun (v4,v11,v12,v13,o0,o1)=>St.mk [(1,.bp 0 []),(3,.bp 1 []),(4,.dat tI v4),(11,.dat (.sl yo) v11),(12,.dat tI v12),(13,.dat tI v13)] [.bx (.dat zo o0) false,.bx (.dat tU o1) false]
def zbj (k0:zbi→Option (Bool × Unit)):zbi→Option (Bool × Unit):=fun (v4,v11,v12,v13,o0,o1) =>
  bif decide (v13 < v12) then inR v13 ((List.length v11):Int) (Option.bind (zjz ((ix qG v11 v13).1,())) fun q0=>bif q0.2.1 != 0 then some (false,()) else bif decide ((ix qG v11 v13).1 ≤ v4) then some (false,()) else Option.bind (qt ((ix qG v11 v13).2.1,0,wI (((List.length o0.2.2.1):Int) - 1),())) fun q1=>bif q1.1 then Option.bind (zbJ (o0.1,q0.1,())) fun q2=>bif q2.1 then k0 ((ix qG v11 v13).1,v11,v12,wI (v13 + 1),o0,wU (↑(BitVec.toNat (BitVec.ofInt (IntKind.bits IntKind.u64) o1 ||| BitVec.ofInt (IntKind.bits IntKind.u64) q0.1.2.1)):Int)) else some (false,()) else some (false,())) else bif decide (((List.length o0.2.2.2.1):Int) ≤ 8) then Option.bind (yl (o0.1,some fun z=>ziJ (z.1,some o1,()),())) fun q3=>bif q3.1 then some (false,()) else some (true,()) else some (false,())
abbrev zn9 (K:Nat):zbi→Option (Bool × Unit):=zg zbj K
theorem zyj (K:Nat):∀ n,evV Es2 K Tryz.f211 0 (ch [.bool]) [1,1,1,0,1,0] [] zyi n = zg zbj n:=zr fun n0 (v4,v11,v12,v13,o0,o1)=>by kernel_rfl
def zk7 (L0:zbi→Option (Bool × Unit)):(zf × Unit)→Option (Bool × Unit):=fun (x0,()) =>
  L0 ((-1),x0.2.2.2.1,((List.length x0.2.2.2.1):Int),0,x0,0)
def vD:(zf × Unit)→Option (Bool × Unit):=zk7 (zn9 K0)
abbrev zrr:Fun:=⟨211,(ch [zo]),(ch [.bool]),0,vD⟩
theorem zCb:Sq zrr:=ml2 (d:=false) (S:=fun K=>zk7 (zn9 K)) Tryz.func211 (by kernel_rfl) (fun K=>tr1 (T:=zk7) (zyj K K) fun (x0,())=>by kernel_rfl) rfl
abbrev zbk:Type:=Int × (List zaw) × Int × Int
abbrev zyk:zbk→St:=fun (v3,v23,v24,v25)=>St.mk [(3,.dat tU v3),(23,.dat (.sl za6) v23),(24,.dat tI v24),(25,.dat tI v25)] []
def zff (k0:zbk→Option (Bool × Unit)):zbk→Option (Bool × Unit):=fun (v3,v23,v24,v25) =>
  bif decide (v25 < v24) then inR v25 ((List.length v23):Int) (bif decide ((ix qg v23 v25).2.2.2.2.2.1 > v3) then some (false,()) else Option.bind (zjA (ix qg v23 v25,())) fun q0=>Option.bind (qK (q0.1,some ze9,())) fun q1=>bif q1.1 then some (false,()) else k0 (wU (v3 - (ix qg v23 v25).2.2.2.2.2.1),v23,v24,wI (v25 + 1))) else some (true,())
abbrev ziP (K:Nat):zbk→Option (Bool × Unit):=zg zff K
theorem zyl (K:Nat):∀ n,evV Es2 K Tryz.f212 0 (ch [.bool]) [1,1,1,0,1,0] [] zyk n = zg zff n:=zr fun n0 (v3,v23,v24,v25)=>by kernel_rfl
def zg7 (L0:zbk→Option (Bool × Unit)):(zf × Unit)→Option (Bool × Unit):=fun (x0,()) =>
  bif ((List.length x0.2.2.2.2.1):Int) != ((List.length x0.1):Int) then some (false,()) else bif decide (0 < ((List.length x0.2.2.2.2.1):Int)) then bif decide ((ix qg x0.2.2.2.2.1 0).1 < 1) then some (false,()) else L0 (4611686018427387904,x0.2.2.2.2.1,((List.length x0.2.2.2.2.1):Int),0) else none
def vE:(zf × Unit)→Option (Bool × Unit):=zg7 (ziP K0)
abbrev zrs:Fun:=⟨212,(ch [zo]),(ch [.bool]),0,vE⟩
theorem zCc:Sq zrs:=ml2 (d:=false) (S:=fun K=>zg7 (ziP K)) Tryz.func212 (by kernel_rfl) (fun K=>tr1 (T:=zg7) (zyl K K) fun (x0,())=>by kernel_rfl) rfl
def zhB:((List zn) × ((Option ((zn × Unit)→Option (Bool × Unit))) × Unit))→Option (Bool × Unit):=fun (x0,x1,()) =>
  Option.bind (j3 (x0,some fun z=>zbC (z.1,some x1,()),())) fun q0=>bif q0.1 then some (false,()) else some (true,())
abbrev zmR:Fun:=⟨232,(ch [(.sl zl),(.fn (ch [zl]) (ch [.bool]))]),(ch [.bool]),0,zhB⟩
theorem zwt:Sq zmR:=ms2 (d:=false) (K:=0) Tryz.func232 (by kernel_rfl) (funext fun (x0,x1,())=>by kernel_rfl)
abbrev zeq:Type:=(List qb) × (List qb) × Int × Int
abbrev zCd:zeq→St:=fun (v0,v5,v6,v7)=>St.mk [(0,.dat (.sl zO) v0),(5,.dat (.sl zO) v5),(6,.dat tI v6),(7,.dat tI v7)] []
def zer (k0:zeq→Option (Bool × Unit)):zeq→Option (Bool × Unit):=fun (v0,v5,v6,v7) =>
  bif decide (v7 < v6) then inR v7 ((List.length v5):Int) (Option.bind (zjN (ix qj v5 v7,())) fun q0=>bif q0.1 then some (false,()) else bif (ix qj v5 v7).1 then Option.bind (zjO (v0,(ix qj v5 v7).2.1,(ix qj v5 v7).2.2.2.1,())) fun q1=>bif q1.1 != v7 then some (false,()) else k0 (v0,v5,v6,wI (v7 + 1)) else k0 (v0,v5,v6,wI (v7 + 1))) else some (true,())
abbrev zrt (K:Nat):zeq→Option (Bool × Unit):=zg zer K
theorem zCe (K:Nat):∀ n,evV Es2 K Tryz.f235 0 (ch [.bool]) [1,0,1,0] [] zCd n = zg zer n:=zr fun n0 (v0,v5,v6,v7)=>by kernel_rfl
def zoa (L0:zeq→Option (Bool × Unit)):((List qb) × Unit)→Option (Bool × Unit):=fun (x0,()) =>
  L0 (x0,x0,((List.length x0):Int),0)
def zob:((List qb) × Unit)→Option (Bool × Unit):=zoa (zrt K0)
abbrev zvq:Fun:=⟨235,(ch [(.sl zO)]),(ch [.bool]),0,zob⟩
theorem zGF:Sq zvq:=ml2 (d:=false) (S:=fun K=>zoa (zrt K)) Tryz.func235 (by kernel_rfl) (fun K=>tr1 (T:=zoa) (zCe K K) fun (x0,())=>by kernel_rfl) rfl
def zly:(zv × Unit)→Option (Bool × Unit):=fun (x0,()) =>
  Option.bind (zgW (x0.2.1,())) fun q0=>bif q0.1 then Option.bind (zgW (x0.2.2.1,())) fun q1=>bif q1.1 then bif x0.2.1 != x0.2.2.1 then Option.bind (zhX (x0.2.2.2.1,())) fun q2=>bif q2.1 then Option.bind (zhX (x0.2.2.2.2.1,())) fun q3=>bif q3.1 then Option.bind (zgs (x0.2.2.2.1,())) fun q4=>bif q4.1 then Option.bind (zgs (x0.2.2.2.2.1,())) fun q5=>bif q5.1 then some (false,()) else some (true,()) else some (true,()) else some (false,()) else some (false,()) else some (false,()) else some (false,()) else some (false,())
abbrev zw8:Fun:=⟨351,(ch [zx]),(ch [.bool]),0,zly⟩
theorem zIu:Sq zw8:=ms2 (d:=false) (K:=0) Tryz.func351 (by kernel_rfl) (funext fun (x0,())=>by kernel_rfl)
def zh0:(Int × (Int × (Int × Unit)))→Option (Int × (Int × Unit)):=fun (x0,x1,x2,()) =>
  bif x0 != 1 then bif x0 != 2 then some (0,1,()) else bif x1 == 0 then some (0,1,()) else bif x2 == 0 then some (0,1,()) else Option.bind (zgv (x1,x2,())) fun q0=>bif q0.2.1 != 0 then some (0,q0.2.1,()) else bif x0 == 2 then some (x1,0,()) else some (q0.1,0,()) else bif x1 == 0 then some (0,1,()) else bif x2 == 0 then some (0,1,()) else Option.bind (zgv (x1,x2,())) fun q1=>bif q1.2.1 != 0 then some (0,q1.2.1,()) else bif x0 == 2 then some (x1,0,()) else some (q1.1,0,())
abbrev zw9:Fun:=⟨306,(ch [tI,tU,tU]),(ch [tU,tI]),0,zh0⟩
theorem zIv:Sq zw9:=ms2 (d:=false) (K:=0) Tryz.func306 (by kernel_rfl) (funext fun (x0,x1,x2,())=>by kernel_rfl)
def zim:(zH × (zH × Unit))→Option (Int × Unit):=fun (x0,x1,()) =>
  Option.bind (vS (x0.1,x1.1,())) fun q0=>Option.bind (zax (x0.2.1,x1.2.1,())) fun q1=>Option.bind (zdY (zk (zk (List.replicate 2 (0:Int)) 0 q0.1) 1 q1.1,())) fun q2=>some (q2.1,())
abbrev ztg:Fun:=⟨354,(ch [zu,zu]),(ch [tI]),0,zim⟩
theorem zD0:Sq ztg:=ms2 (d:=false) (K:=0) Tryz.func354 (by kernel_rfl) (funext fun (x0,x1,())=>by kernel_rfl)
def zhC:((List zt) × ((Option ((zt × Unit)→Option (Bool × Unit))) × Unit))→Option (Bool × Unit):=fun (x0,x1,()) =>
  Option.bind (j4 (x0,some fun z=>zbG (z.1,some x1,()),())) fun q0=>bif q0.1 then some (false,()) else some (true,())
abbrev zmS:Fun:=⟨242,(ch [(.sl zp),(.fn (ch [zp]) (ch [.bool]))]),(ch [.bool]),0,zhC⟩
theorem zwu:Sq zmS:=ms2 (d:=false) (K:=0) Tryz.func242 (by kernel_rfl) (funext fun (x0,x1,())=>by kernel_rfl)
def zdO:((List zH) × ((Option ((zH × Unit)→Option (Bool × Unit))) × Unit))→Option (Bool × Unit):=fun (x0,x1,()) =>
  Option.bind (j5 (x0,some fun z=>zbH (z.1,some x1,()),())) fun q0=>bif q0.1 then some (false,()) else some (true,())
abbrev zmT:Fun:=⟨246,(ch [(.sl zu),(.fn (ch [zu]) (ch [.bool]))]),(ch [.bool]),0,zdO⟩
theorem zwv:Sq zmT:=ms2 (d:=false) (K:=0) Tryz.func246 (by kernel_rfl) (funext fun (x0,x1,())=>by kernel_rfl)
def zad:((List Int) × ((Option ((Int × Unit)→Option (Bool × Unit))) × Unit))→Option (Bool × Unit):=fun (x0,x1,()) =>
  Option.bind (qK (x0,some fun z=>zdK (z.1,some x1,()),())) fun q0=>bif q0.1 then some (false,()) else some (true,())
abbrev zpp:Fun:=⟨248,(ch [(.sl tI),(.fn (ch [tI]) (ch [.bool]))]),(ch [.bool]),0,zad⟩
theorem zAb:Sq zpp:=ms2 (d:=false) (K:=0) Tryz.func248 (by kernel_rfl) (funext fun (x0,x1,())=>by kernel_rfl)
def vV:(z8 × ((Option qU) × ((Option Int) × Unit)))→Option (Bool × Unit):=fun (x0,x1,x2,()) =>
  Option.bind x1 fun q0=>Option.bind (zfl (q0.2.1,x0,())) fun q1=>bif q1.1 then Option.bind x1 fun q2=>Option.bind x2 fun q3=>Option.bind (zhY (q2,x0.1,q3,())) fun q4=>bif q4.1 then some (true,()) else some (false,()) else some (false,())
abbrev zpq:Fun:=⟨360,(ch [zL,(.ptr qp),(.ptr tI)]),(ch [.bool]),0,vV⟩
theorem zAc:Sq zpq:=ms2 (d:=false) (K:=0) Tryz.func360 (by kernel_rfl) (funext fun (x0,x1,x2,())=>by kernel_rfl)
def ziQ:((List qb) × ((Option ((qb × Unit)→Option (Bool × Unit))) × Unit))→Option (Bool × Unit):=fun (x0,x1,()) =>
  Option.bind (vl (x0,some fun z=>zb7 (z.1,some x1,()),())) fun q0=>bif q0.1 then some (false,()) else some (true,())
abbrev zoc:Fun:=⟨251,(ch [(.sl zO),(.fn (ch [zO]) (ch [.bool]))]),(ch [.bool]),0,ziQ⟩
theorem zym:Sq zoc:=ms2 (d:=false) (K:=0) Tryz.func251 (by kernel_rfl) (funext fun (x0,x1,())=>by kernel_rfl)
def yN:((List qc) × ((Option ((qc × Unit)→Option (Bool × Unit))) × Unit))→Option (Bool × Unit):=fun (x0,x1,()) =>
  Option.bind (jt (x0,some fun z=>zb9 (z.1,some x1,()),())) fun q0=>bif q0.1 then some (false,()) else some (true,())
abbrev zod:Fun:=⟨253,(ch [(.sl zw),(.fn (ch [zw]) (ch [.bool]))]),(ch [.bool]),0,yN⟩
theorem zyn:Sq zod:=ms2 (d:=false) (K:=0) Tryz.func253 (by kernel_rfl) (funext fun (x0,x1,())=>by kernel_rfl)
def zj1:((List z8) × ((Option ((z8 × Unit)→Option (Bool × Unit))) × Unit))→Option (Bool × Unit):=fun (x0,x1,()) =>
  Option.bind (vC (x0,some fun z=>zdL (z.1,some x1,()),())) fun q0=>bif q0.1 then some (false,()) else some (true,())
abbrev zpr:Fun:=⟨255,(ch [(.sl zL),(.fn (ch [zL]) (ch [.bool]))]),(ch [.bool]),0,zj1⟩
theorem zAd:Sq zpr:=ms2 (d:=false) (K:=0) Tryz.func255 (by kernel_rfl) (funext fun (x0,x1,())=>by kernel_rfl)
def vq:(qq × ((Option qU) × ((Option Int) × Unit)))→Option (Bool × Unit):=fun (x0,x1,x2,()) =>
  bif x0.1 then Option.bind x1 fun q0=>Option.bind x2 fun q1=>Option.bind (zhY (q0,x0.2.1,q1,())) fun q2=>bif q2.1 then Option.bind x1 fun q3=>Option.bind (qW (q3,x0.2.2.1,())) fun q4=>bif q4.1 then Option.bind x1 fun q5=>Option.bind (qW (q5,x0.2.2.2.1,())) fun q6=>bif q6.1 then some (true,()) else some (false,()) else some (false,()) else some (false,()) else some (true,())
abbrev zoe:Fun:=⟨258,(ch [zV,(.ptr qp),(.ptr tI)]),(ch [.bool]),0,vq⟩
theorem zyo:Sq zoe:=ms2 (d:=false) (K:=0) Tryz.func258 (by kernel_rfl) (funext fun (x0,x1,x2,())=>by kernel_rfl)
def yO:((List qq) × ((Option ((qq × Unit)→Option (Bool × Unit))) × Unit))→Option (Bool × Unit):=fun (x0,x1,()) =>
  Option.bind (ju (x0,some fun z=>zcb (z.1,some x1,()),())) fun q0=>bif q0.1 then some (false,()) else some (true,())
abbrev zof:Fun:=⟨257,(ch [(.sl zV),(.fn (ch [zV]) (ch [.bool]))]),(ch [.bool]),0,yO⟩
theorem zyp:Sq zof:=ms2 (d:=false) (K:=0) Tryz.func257 (by kernel_rfl) (funext fun (x0,x1,())=>by kernel_rfl)
def qM:((List zv) × ((Option ((zv × Unit)→Option (Bool × Unit))) × Unit))→Option (Bool × Unit):=fun (x0,x1,()) =>
  Option.bind (jh (x0,some fun z=>zbI (z.1,some x1,()),())) fun q0=>bif q0.1 then some (false,()) else some (true,())
abbrev zmU:Fun:=⟨260,(ch [(.sl zx),(.fn (ch [zx]) (ch [.bool]))]),(ch [.bool]),0,qM⟩
theorem zww:Sq zmU:=ms2 (d:=false) (K:=0) Tryz.func260 (by kernel_rfl) (funext fun (x0,x1,())=>by kernel_rfl)
abbrev yC:Type:=(Option zb5) × Int × Int × List Int
abbrev zuc:yC→St:=fun (v0,v12,v13,o0)=>St.mk [(0,.dat (.ptr vO) v0),(3,.ow 0),(12,.dat tI v12),(13,.dat tI v13)] [.row tI o0 false]
def yD (k0:yC→Option ((List Int) × Unit)):yC→Option ((List Int) × Unit):=fun (v0,v12,v13,o0) =>
  bif decide (v13 < v12) then Option.bind (vT (v0,v13,())) fun q2=>bif q2.1 then bif decide (List.length o0 + List.length (zk (List.replicate 1 (0:Int)) 0 v13) ≤ lim) then k0 (v0,v12,wI (v13 + 1),o0 ++ zk (List.replicate 1 (0:Int)) 0 v13) else none else k0 (v0,v12,wI (v13 + 1),o0) else some (o0,())
abbrev zkP (K:Nat):yC→Option ((List Int) × Unit):=zg yD K
theorem zud (K:Nat):∀ n,evV Es2 K Tryz.f265 0 (ch [(.sl tI)]) [1,1,1,0,1,0] [] zuc n = zg yD n:=zr fun n0 (v0,v12,v13,o0)=>by kernel_rfl
def zhD (L0:yC→Option ((List Int) × Unit)):((Option zb5) × Unit)→Option ((List Int) × Unit):=fun (x0,()) =>
  Option.bind (ze6 (x0,())) fun q0=>bif q0.1 then Option.bind x0 fun q1=>L0 (x0,((List.length q1.1):Int),0,[]) else some ([],())
def zdP:((Option zb5) × Unit)→Option ((List Int) × Unit):=zhD (zkP K0)
abbrev zmV:Fun:=⟨265,(ch [(.ptr vO)]),(ch [(.sl tI)]),0,zdP⟩
theorem zwx:Sq zmV:=ml2 (d:=false) (S:=fun K=>zhD (zkP K)) Tryz.func265 (by kernel_rfl) (fun K=>tr1 (T:=zhD) (zud K K) fun (x0,())=>by kernel_rfl) rfl
def zm5:((List zt) × Unit)→Option ((Option zeU) × Unit):=fun (x0,()) =>
  Option.bind (ziK (x0,some zjI,())) fun q0=>some (q0.1,())
abbrev zAe:Fun:=⟨369,(ch [(.sl zp)]),(ch [(.ptr yT)]),0,zm5⟩
theorem zKs:Sq zAe:=ms2 (d:=false) (K:=0) Tryz.func369 (by kernel_rfl) (funext fun (x0,())=>by kernel_rfl)
abbrev yE:Type:=(Option zeU) × Int × Int × List Int
abbrev zue:yE→St:=fun (v0,v12,v13,o0)=>St.mk [(0,.dat (.ptr yT) v0),(3,.ow 0),(12,.dat tI v12),(13,.dat tI v13)] [.row tI o0 false]
def yF (k0:yE→Option ((List Int) × Unit)):yE→Option ((List Int) × Unit):=fun (v0,v12,v13,o0) =>
  bif decide (v13 < v12) then Option.bind (zf4 (v0,v13,())) fun q2=>bif q2.1 then bif decide (List.length o0 + List.length (zk (List.replicate 1 (0:Int)) 0 v13) ≤ lim) then k0 (v0,v12,wI (v13 + 1),o0 ++ zk (List.replicate 1 (0:Int)) 0 v13) else none else k0 (v0,v12,wI (v13 + 1),o0) else some (o0,())
abbrev zkQ (K:Nat):yE→Option ((List Int) × Unit):=zg yF K
theorem zuf (K:Nat):∀ n,evV Es2 K Tryz.f370 0 (ch [(.sl tI)]) [1,1,1,0,1,0] [] zue n = zg yF n:=zr fun n0 (v0,v12,v13,o0)=>by kernel_rfl
def zhE (L0:yE→Option ((List Int) × Unit)):((Option zeU) × Unit)→Option ((List Int) × Unit):=fun (x0,()) =>
  Option.bind (ze7 (x0,())) fun q0=>bif q0.1 then Option.bind x0 fun q1=>L0 (x0,((List.length q1.1):Int),0,[]) else some ([],())
def zhF:((Option zeU) × Unit)→Option ((List Int) × Unit):=zhE (zkQ K0)
abbrev zmW:Fun:=⟨370,(ch [(.ptr yT)]),(ch [(.sl tI)]),0,zhF⟩
theorem zwy:Sq zmW:=ml2 (d:=false) (S:=fun K=>zhE (zkQ K)) Tryz.func370 (by kernel_rfl) (fun K=>tr1 (T:=zhE) (zuf K K) fun (x0,())=>by kernel_rfl) rfl
def zlz:((List zv) × Unit)→Option ((Option zb5) × Unit):=fun (x0,()) =>
  Option.bind (yK (x0,some zid,())) fun q0=>some (q0.1,())
abbrev zxa:Fun:=⟨268,(ch [(.sl zx)]),(ch [(.ptr vO)]),0,zlz⟩
theorem zIw:Sq zxa:=ms2 (d:=false) (K:=0) Tryz.func268 (by kernel_rfl) (funext fun (x0,())=>by kernel_rfl)
abbrev zbl:Type:=Int × (Option ((zn × Unit)→Option ((List Int) × Unit))) × (List zn) × Int × Int × List Int
abbrev zyq:zbl→St:=fun (v1,v2,v12,v13,v14,o0)=>St.mk [(1,.dat tI v1),(2,.dat (.fn (.pair zl .unit) (.pair (.arr 4 tU) .unit)) v2),(8,.ow 0),(12,.dat (.sl zl) v12),(13,.dat tI v13),(14,.dat tI v14)] [.row tU o0 false]
def zbm (k0:zbl→Option (Int × (Int × Unit))):zbl→Option (Int × (Int × Unit)):=fun (v1,v2,v12,v13,v14,o0) =>
  bif decide (v14 < v13) then inR v14 ((List.length v12):Int) (Option.bind v2 fun q0=>Option.bind (q0 (ix za v12 v14,())) fun q1=>inR v1 (↑4:Int) (bif decide (List.length o0 + List.length (zk (List.replicate 1 (0:Int)) 0 (ix (0:Int) q1.1 v1)) ≤ lim) then k0 (v1,v2,v12,v13,wI (v14 + 1),o0 ++ zk (List.replicate 1 (0:Int)) 0 (ix (0:Int) q1.1 v1)) else none)) else Option.bind (zg1 (o0,())) fun q2=>some (q2.1,q2.2.1,())
abbrev zog (K:Nat):zbl→Option (Int × (Int × Unit)):=zg zbm K
theorem zyr (K:Nat):∀ n,evV Es2 K Tryz.f148 0 (ch [tU,tI]) [1,1,0,1,0] [] zyq n = zg zbm n:=zr fun n0 (v1,v2,v12,v13,v14,o0)=>by kernel_rfl
def zk8 (L0:zbl→Option (Int × (Int × Unit))):(zb × (Int × ((Option ((zn × Unit)→Option ((List Int) × Unit))) × Unit)))→Option (Int × (Int × Unit)):=fun (x0,x1,x2,()) =>
  L0 (x1,x2,x0.2.1,((List.length x0.2.1):Int),0,[])
def zg8:(zb × (Int × ((Option ((zn × Unit)→Option ((List Int) × Unit))) × Unit)))→Option (Int × Int × Unit):=zk8 (zog K0)
abbrev zru:Fun:=⟨148,(ch [zh,tI,(.fn (ch [zl]) (ch [(.arr 4 tU)]))]),(ch [tU,tI]),0,zg8⟩
theorem zCf:Sq zru:=ml2 (d:=false) (S:=fun K=>zk8 (zog K)) Tryz.func148 (by kernel_rfl) (fun K=>tr1 (T:=zk8) (zyr K K) fun (x0,x1,x2,())=>by kernel_rfl) rfl
def zdz:((List Int) × (Int × (Int × Unit)))→Option ((List Int) × (Int × Unit)):=fun (x0,x1,x2,()) =>
  Option.bind (zfs (x0,x1,x2,some zfJ,())) fun q0=>some (q0.1,q0.2.1,())
abbrev zxb:Fun:=⟨162,(ch [(.arr 4 tU),tI,tU]),(ch [(.arr 4 tU),tI]),0,zdz⟩
theorem zIx:Sq zxb:=ms2 (d:=false) (K:=0) Tryz.func162 (by kernel_rfl) (funext fun (x0,x1,x2,())=>by kernel_rfl)
def zdA:((List Int) × (Int × (Int × Unit)))→Option ((List Int) × (Int × Unit)):=fun (x0,x1,x2,()) =>
  Option.bind (zfs (x0,x1,x2,some za8,())) fun q0=>some (q0.1,q0.2.1,())
abbrev zxc:Fun:=⟨160,(ch [(.arr 4 tU),tI,tU]),(ch [(.arr 4 tU),tI]),0,zdA⟩
theorem zIy:Sq zxc:=ms2 (d:=false) (K:=0) Tryz.func160 (by kernel_rfl) (funext fun (x0,x1,x2,())=>by kernel_rfl)
abbrev zcv:Type:=Int × zf
abbrev zAf:zcv→St:=fun (v3,o0)=>St.mk [(1,.bp 0 []),(3,.dat tI v3)] [.bx (.dat zo o0) false]
def zf5 (k0:zcv→Option (Bool × Unit)):zcv→Option (Bool × Unit):=fun (v3,o0) =>
  bif decide (v3 < ((List.length o0.2.1):Int)) then inR v3 ((List.length o0.2.1):Int) (bif decide (ix (0:Int) o0.2.1 v3 < 0) then some (false,()) else inR v3 ((List.length o0.2.1):Int) (bif decide (ix (0:Int) o0.2.1 v3 ≥ ((List.length o0.1):Int)) then some (false,()) else k0 (wI (v3 + 1),o0))) else bif ((List.length o0.2.2.2.2.1):Int) != ((List.length o0.1):Int) then some (false,()) else Option.bind (zk5 (o0.2.2.2.2.1,())) fun q3=>bif q3.1 then bif decide (o0.2.2.2.2.2.1 ≥ 0) then bif decide (o0.2.2.2.2.2.1 ≤ 24) then bif decide (o0.2.2.2.2.2.2.1 ≥ 0) then bif decide (o0.2.2.2.2.2.2.1 ≤ 48) then bif decide (o0.2.2.2.2.2.2.2.1 ≥ 1) then bif decide (o0.2.2.2.2.2.2.2.1 ≤ 4) then bif decide (o0.2.2.2.2.2.2.2.2.1 ≥ 1) then bif decide (o0.2.2.2.2.2.2.2.2.1 ≤ 16) then some (true,()) else some (false,()) else some (false,()) else some (false,()) else some (false,()) else some (false,()) else some (false,()) else some (false,()) else some (false,()) else some (false,())
abbrev zj2 (K:Nat):zcv→Option (Bool × Unit):=zg zf5 K
theorem zAg (K:Nat):∀ n,evV Es2 K Tryz.f85 0 (ch [.bool]) [1,1,0,1,0] [] zAf n = zg zf5 n:=zr fun n0 (v3,o0)=>by kernel_rfl
def zin (L0:zcv→Option (Bool × Unit)):(zf × Unit)→Option (Bool × Unit):=fun (x0,()) =>
  Option.bind (zg3 (x0.1,())) fun q0=>bif q0.1 then bif decide (((List.length x0.2.1):Int) < 1) then some (false,()) else bif decide (((List.length x0.2.1):Int) > 8) then some (false,()) else Option.bind (zfd (x0.2.2.1,())) fun q1=>bif q1.1 then Option.bind (zg5 (x0.2.2.2.1,x0.1,((List.length x0.2.2.1):Int),())) fun q2=>bif q2.1 then L0 (0,x0) else some (false,()) else some (false,()) else some (false,())
def zfv:(zf × Unit)→Option (Bool × Unit):=zin (zj2 K0)
abbrev zth:Fun:=⟨85,(ch [zo]),(ch [.bool]),0,zfv⟩
theorem zD1:Sq zth:=ml2 (d:=false) (S:=fun K=>zin (zj2 K)) Tryz.func85 (by kernel_rfl) (fun K=>tr1 (T:=zin) (zAg K K) fun (x0,())=>by kernel_rfl) rfl
def zh1:(zt × Unit)→Option (Bool × Unit):=fun (x0,()) =>
  Option.bind (zgz (x0.2.2.2.1,x0.2.2.2.2.2.2.2.1,x0.2.2.2.2.2.2.1,())) fun q0=>bif decide (x0.2.2.2.2.1 ≥ 0) then bif decide (x0.2.2.2.2.1 < 4) then bif decide (x0.2.2.2.2.2.1 ≥ 0) then bif decide (x0.2.2.2.2.2.1 < 4) then bif x0.2.2.2.2.1 != x0.2.2.2.2.2.1 then bif q0.2.1 == 0 then bif x0.2.2.2.2.2.2.2.2.1 == q0.1 then Option.bind (zhR (x0.2.1,())) fun q1=>bif q1.1 then Option.bind (zhR (x0.2.2.1,())) fun q2=>bif q2.1 then bif decide (x0.2.2.2.2.2.2.2.2.2.1 ≥ 0) then some (true,()) else some (false,()) else some (false,()) else some (false,()) else some (false,()) else some (false,()) else bif q0.2.1 == 0 then bif x0.2.2.2.2.2.2.2.2.1 == q0.1 then some (false,()) else some (false,()) else some (false,()) else bif q0.2.1 == 0 then bif x0.2.2.2.2.2.2.2.2.1 == q0.1 then some (false,()) else some (false,()) else some (false,()) else bif q0.2.1 == 0 then bif x0.2.2.2.2.2.2.2.2.1 == q0.1 then some (false,()) else some (false,()) else some (false,()) else bif q0.2.1 == 0 then bif x0.2.2.2.2.2.2.2.2.1 == q0.1 then some (false,()) else some (false,()) else some (false,()) else bif q0.2.1 == 0 then bif x0.2.2.2.2.2.2.2.2.1 == q0.1 then some (false,()) else some (false,()) else some (false,())
abbrev zxd:Fun:=⟨292,(ch [zp]),(ch [.bool]),0,zh1⟩
theorem zIz:Sq zxd:=ms2 (d:=false) (K:=0) Tryz.func292 (by kernel_rfl) (funext fun (x0,())=>by kernel_rfl)
def zlA:(zH × Unit)→Option (Bool × Unit):=fun (x0,()) =>
  bif decide (x0.1 > 4611686018427387904) then some (false,()) else Option.bind (zdw (x0.2.1,())) fun q0=>bif q0.1 then Option.bind (zdw (x0.2.2.1,())) fun q1=>bif q1.1 then Option.bind (zdw (x0.2.2.2.1,())) fun q2=>bif q2.1 then bif x0.2.2.2.2.1 == 3 then Option.bind (zdw (x0.2.2.2.2.2.2.2.2.2.1,())) fun q3=>bif q3.1 then bif x0.2.2.2.2.2.1 == 0 then bif x0.2.2.2.2.2.2.1 == 0 then bif x0.2.2.2.2.2.2.2.1 == 0 then bif x0.2.2.2.2.2.2.2.2.1 == 0 then some (true,()) else some (false,()) else some (false,()) else some (false,()) else some (false,()) else some (false,()) else Option.bind (zgz (x0.2.2.2.2.1,x0.2.2.2.2.2.2.2.1,x0.2.2.2.2.2.2.2.2.1,())) fun q4=>bif q4.2.1 == 0 then bif x0.2.2.2.2.2.2.2.2.2.1 == 0 then bif decide (x0.2.2.2.2.2.1 ≥ 0) then bif decide (x0.2.2.2.2.2.1 < 4) then bif decide (x0.2.2.2.2.2.2.1 ≥ 0) then bif decide (x0.2.2.2.2.2.2.1 < 4) then bif x0.2.2.2.2.2.1 != x0.2.2.2.2.2.2.1 then some (true,()) else some (false,()) else some (false,()) else some (false,()) else some (false,()) else some (false,()) else some (false,()) else some (false,()) else some (false,()) else some (false,()) else some (false,())
abbrev zxe:Fun:=⟨294,(ch [zu]),(ch [.bool]),0,zlA⟩
theorem zIA:Sq zxe:=ms2 (d:=false) (K:=0) Tryz.func294 (by kernel_rfl) (funext fun (x0,())=>by kernel_rfl)
abbrev zcw:Type:=(List qq) × Int
abbrev zAh:zcw→St:=fun (v0,v3)=>St.mk [(0,.dat (.sl zV) v0),(3,.dat tI v3)] []
def zcx (k0:zcw→Option (Bool × Unit)):zcw→Option (Bool × Unit):=fun (v0,v3) =>
  bif decide (v3 < ((List.length v0):Int)) then inR v3 ((List.length v0):Int) (bif (ix zaC v0 v3).1 then Option.bind (zfL ((ix zaC v0 v3).2.1,())) fun q0=>bif q0.1 then Option.bind (zfL ((ix zaC v0 v3).2.2.1,())) fun q1=>bif q1.1 then Option.bind (zfL ((ix zaC v0 v3).2.2.2.1,())) fun q2=>bif q2.1 then Option.bind (zjQ ((ix zaC v0 v3).2.2.2.2.1,())) fun q3=>bif q3.1 then bif (ix zaC v0 v3).1 then k0 (v0,wI (v3 + 1)) else bif !eqI zV (ix zaC v0 v3) (ze zV) then some (false,()) else k0 (v0,wI (v3 + 1)) else some (false,()) else some (false,()) else some (false,()) else some (false,()) else bif (ix zaC v0 v3).1 then k0 (v0,wI (v3 + 1)) else bif !eqI zV (ix zaC v0 v3) (ze zV) then some (false,()) else k0 (v0,wI (v3 + 1))) else some (true,())
abbrev zps (K:Nat):zcw→Option (Bool × Unit):=zg zcx K
theorem zAi (K:Nat):∀ n,evV Es2 K Tryz.f174 0 (ch [.bool]) [1,0,1,0] [] zAh n = zg zcx n:=zr fun n0 (v0,v3)=>by kernel_rfl
def zmh (L0:zcw→Option (Bool × Unit)):((List qq) × Unit)→Option (Bool × Unit):=fun (x0,()) =>
  L0 (x0,0)
def zmi:((List qq) × Unit)→Option (Bool × Unit):=zmh (zps K0)
abbrev zti:Fun:=⟨174,(ch [(.sl zV)]),(ch [.bool]),0,zmi⟩
theorem zD2:Sq zti:=ml2 (d:=false) (S:=fun K=>zmh (zps K)) Tryz.func174 (by kernel_rfl) (fun K=>tr1 (T:=zmh) (zAi K K) fun (x0,())=>by kernel_rfl) rfl
abbrev zcy:Type:=(List zv) × Int
abbrev zAj:zcy→St:=fun (v0,v3)=>St.mk [(0,.dat (.sl zx) v0),(3,.dat tI v3)] []
def zcz (k0:zcy→Option (Bool × Unit)):zcy→Option (Bool × Unit):=fun (v0,v3) =>
  bif decide (v3 < ((List.length v0):Int)) then inR v3 ((List.length v0):Int) (bif (ix zS v0 v3).1 then inR v3 ((List.length v0):Int) (Option.bind (zjR (ix zS v0 v3,())) fun q0=>bif q0.1 then inR v3 ((List.length v0):Int) (bif (ix zS v0 v3).1 then k0 (v0,wI (v3 + 1)) else inR v3 ((List.length v0):Int) (bif !eqI zx (ix zS v0 v3) (ze zx) then some (false,()) else k0 (v0,wI (v3 + 1)))) else some (false,())) else inR v3 ((List.length v0):Int) (bif (ix zS v0 v3).1 then k0 (v0,wI (v3 + 1)) else inR v3 ((List.length v0):Int) (bif !eqI zx (ix zS v0 v3) (ze zx) then some (false,()) else k0 (v0,wI (v3 + 1))))) else some (true,())
abbrev zpt (K:Nat):zcy→Option (Bool × Unit):=zg zcz K
theorem zAk (K:Nat):∀ n,evV Es2 K Tryz.f175 0 (ch [.bool]) [1,0,1,0] [] zAj n = zg zcz n:=zr fun n0 (v0,v3)=>by kernel_rfl
def zmj (L0:zcy→Option (Bool × Unit)):((List zv) × Unit)→Option (Bool × Unit):=fun (x0,()) =>
  L0 (x0,0)
def zmk:((List zv) × Unit)→Option (Bool × Unit):=zmj (zpt K0)
abbrev ztj:Fun:=⟨175,(ch [(.sl zx)]),(ch [.bool]),0,zmk⟩
theorem zD3:Sq ztj:=ml2 (d:=false) (S:=fun K=>zmj (zpt K)) Tryz.func175 (by kernel_rfl) (fun K=>tr1 (T:=zmj) (zAk K K) fun (x0,())=>by kernel_rfl) rfl
def zfM:(zf × (Int × (Int × Unit)))→Option (Bool × Unit):=fun (x0,x1,x2,()) =>
  bif decide (x1 ≥ 0) then bif decide (x2 ≥ 0) then bif decide (x1 < ((List.length x0.1):Int)) then bif decide (x2 < ((List.length x0.1):Int)) then inR x1 ((List.length x0.1):Int) (inR x2 ((List.length x0.1):Int) (Option.bind (zqv (ix jg x0.1 x1,ix jg x0.1 x2,())) fun q0=>bif q0.1 then some (true,()) else some (false,()))) else some (false,()) else some (false,()) else some (false,()) else some (false,())
abbrev zxf:Fun:=⟨75,(ch [zo,tI,tI]),(ch [.bool]),0,zfM⟩
theorem zIB:Sq zxf:=ms2 (d:=false) (K:=0) Tryz.func75 (by kernel_rfl) (funext fun (x0,x1,x2,())=>by kernel_rfl)
abbrev zes:Type:=Int × Int × Int × Int × zb
abbrev zrv:zes→St:=fun (v1,v6,v8,v11,o0)=>St.mk [(1,.dat tI v1),(2,.bp 0 []),(6,.dat tU v6),(8,.dat tI v8),(11,.dat tI v11)] [.bx (.dat zh o0) false]
abbrev yP:Type:=Int × Int × Int × zb
abbrev zrw:yP→St:=fun (v1,v6,v8,o0)=>St.mk [(1,.dat tI v1),(2,.bp 0 []),(6,.dat tU v6),(8,.dat tI v8)] [.bx (.dat zh o0) false]
def zet (k0:yP→Option (Int × (Int × Unit))) (k1:zes→Option (Int × (Int × Unit))):zes→Option (Int × (Int × Unit)):=fun (v1,v6,v8,v11,o0) =>
  inR v8 ((List.length o0.2.1):Int) (bif decide (v11 < ((List.length (ix za o0.2.1 v8).2.2.2.2.2.1):Int)) then inR v8 ((List.length o0.2.1):Int) (inR v11 ((List.length (ix za o0.2.1 v8).2.2.2.2.2.1):Int) (inR v1 (↑4:Int) (Option.bind (vj (v6,List.getD (List.getD (ix za o0.2.1 v8).2.2.2.2.2.1 (Int.toNat v11) (ze (.arr 4 tU))) (Int.toNat v1) (0:Int),())) fun q3=>bif q3.2.1 != 0 then some (0,q3.2.1,()) else k1 (v1,q3.1,v8,wI (v11 + 1),o0)))) else k0 (v1,v6,wI (v8 + 1),o0))
abbrev zeu (K:Nat) (k0:yP→Option (Int × (Int × Unit))):zes→Option (Int × (Int × Unit)):=zg (fun k1=>zet k0 k1) K
theorem zCg (K:Nat) (n0:Nat):∀ n,evV Es2 K Tryz.f89 0 (ch [tU,tI]) [1,1,1,0,1,0,0,1,0,0,1,1,1,1,1,0] [n0] zrv n = zg (fun k1=>zet (evV Es2 K Tryz.f89 0 (ch [tU,tI]) [1,1,1,0,1,0] [] zrw n0) k1) n:=zr fun n1 (v1,v6,v8,v11,o0)=>by kernel_rfl
def zaW (L1:zes→Option (Int × (Int × Unit))) (k0:yP→Option (Int × (Int × Unit))):yP→Option (Int × (Int × Unit)):=fun (v1,v6,v8,o0) =>
  bif decide (v8 < ((List.length o0.2.1):Int)) then inR v8 ((List.length o0.2.1):Int) (Option.bind (zjW ((ix za o0.2.1 v8).2.2.2.2.1,v1,())) fun q1=>bif q1.2.1 != 0 then some (0,q1.2.1,()) else Option.bind (vj (v6,q1.1,())) fun q2=>bif q2.2.1 != 0 then some (0,q2.2.1,()) else L1 (v1,q2.1,v8,0,o0)) else some (v6,0,())
abbrev zrx (K:Nat):yP→Option (Int × (Int × Unit)):=zg (fun k0=>zaW (zeu K k0) k0) K
theorem zCh (K:Nat):∀ n,evV Es2 K Tryz.f89 0 (ch [tU,tI]) [1,1,1,0,1,0] [] zrw n = zg (fun k0=>zaW (zeu K k0) k0) n:=qC (B:=fun L1 k0=>zaW L1 k0) (V1:=fun n0=>evV Es2 K Tryz.f89 0 (ch [tU,tI]) [1,1,1,0,1,0,0,1,0,0,1,1,1,1,1,0] [n0] zrv K) (W1:=fun k0=>(zeu K k0)) (fun n0=>zCg K n0 K) fun n0 (v1,v6,v8,o0)=>by kernel_rfl
def zj3 (L0:yP→Option (Int × (Int × Unit))):(zb × (Int × Unit))→Option (Int × (Int × Unit)):=fun (x0,x1,()) =>
  Option.bind (zjU (x0.2.2.2.1,x1,())) fun q0=>bif q0.2.1 != 0 then some (0,q0.2.1,()) else L0 (x1,q0.1,0,x0)
def zj4:(zb × Int × Unit)→Option (Int × Int × Unit):=zj3 (zrx K0)
abbrev zvr:Fun:=⟨89,(ch [zh,tI]),(ch [tU,tI]),0,zj4⟩
theorem zGG:Sq zvr:=ml2 (d:=false) (S:=fun K=>zj3 (zrx K)) Tryz.func89 (by kernel_rfl) (fun K=>tr1 (T:=zj3) (zCh K K) fun (x0,x1,())=>by kernel_rfl) rfl
abbrev zev:Type:=Int × zb × zb
abbrev zry:zev→St:=fun (v6,o0,o1)=>St.mk [(2,.bp 0 []),(3,.bp 1 []),(6,.dat tI v6)] [.bx (.dat zh o0) false,.bx (.dat zh o1) false]
abbrev zew:Type:=Int × zb × zb
abbrev zCi:zew→St:=fun (v5,o0,o1)=>St.mk [(2,.bp 0 []),(3,.bp 1 []),(5,.dat tI v5)] [.bx (.dat zh o0) false,.bx (.dat zh o1) false]
def zex (k1:zev→Option (Bool × Unit)):zev→Option (Bool × Unit):=fun (v6,o0,o1) =>
  bif decide (v6 < ((List.length o0.2.2.2.2.2.1):Int)) then inR v6 ((List.length o0.2.2.2.2.2.1):Int) (inR v6 ((List.length o1.2.2.2.2.2.1):Int) (bif ix (0:Int) o0.2.2.2.2.2.1 v6 != ix (0:Int) o1.2.2.2.2.2.1 v6 then some (false,()) else k1 (wI (v6 + 1),o0,o1))) else some (true,())
abbrev zg9 (K:Nat):zev→Option (Bool × Unit):=zg zex K
theorem zCj (K:Nat):∀ n,evV Es2 K Tryz.f13 0 (ch [.bool]) [1,1,1,0,1,0] [] zry n = zg zex n:=zr fun n1 (v6,o0,o1)=>by kernel_rfl
def zaX (L1:zev→Option (Bool × Unit)) (k0:zew→Option (Bool × Unit)):zew→Option (Bool × Unit):=fun (v5,o0,o1) =>
  bif decide (v5 < ((List.length o0.2.1):Int)) then inR v5 ((List.length o0.2.1):Int) (inR v5 ((List.length o1.2.1):Int) (Option.bind (zdN (ix za o0.2.1 v5,ix za o1.2.1 v5,())) fun q3=>bif q3.1 then k0 (wI (v5 + 1),o0,o1) else some (false,()))) else L1 (0,o0,o1)
abbrev zk9 (K:Nat):zew→Option (Bool × Unit):=zg (fun k0=>zaX (zg9 K) k0) K
theorem zCk (K:Nat):∀ n,evV Es2 K Tryz.f13 0 (ch [.bool]) [1,1,0,1,0] [] zCi n = zg (fun k0=>zaX (zg9 K) k0) n:=qC (B:=fun L1 k0=>zaX L1 k0) (V1:=fun n0=>evV Es2 K Tryz.f13 0 (ch [.bool]) [1,1,1,0,1,0] [] zry K) (W1:=fun k0=>(zg9 K)) (fun n0=>zCj K K) fun n0 (v5,o0,o1)=>by kernel_rfl
def zj5 (L0:zew→Option (Bool × Unit)):(zb × (zb × Unit))→Option (Bool × Unit):=fun (x0,x1,()) =>
  bif x0.1 != x1.1 then some (false,()) else bif ((List.length x0.2.1):Int) != ((List.length x1.2.1):Int) then some (false,()) else bif ((List.length x0.2.2.2.2.2.1):Int) != ((List.length x1.2.2.2.2.2.1):Int) then some (false,()) else Option.bind (znM (x0.2.2.1,x1.2.2.1,())) fun q0=>bif q0.1 then Option.bind (znO (x0.2.2.2.1,x1.2.2.2.1,())) fun q1=>bif q1.1 then Option.bind (znQ (x0.2.2.2.2.1,x1.2.2.2.2.1,())) fun q2=>bif q2.1 then L0 (0,x0,x1) else some (false,()) else some (false,()) else some (false,())
def qm:(zb × zb × Unit)→Option (Bool × Unit):=zj5 (zk9 K0)
abbrev zvs:Fun:=⟨13,(ch [zh,zh]),(ch [.bool]),0,qm⟩
theorem zGH:Sq zvs:=ml2 (d:=false) (S:=fun K=>zj5 (zk9 K)) Tryz.func13 (by kernel_rfl) (fun K=>tr1 (T:=zj5) (zCk K K) fun (x0,x1,())=>by kernel_rfl) rfl
abbrev L3:List Fun:=zw7 :: ztf :: zAa :: zrr :: zrs :: zmR :: zvq :: zw8 :: zw9 :: ztg :: zmS :: zmT :: zpp :: zpq :: zoc :: zod :: zpr :: zoe :: zof :: zmU :: zmV :: zAe :: zmW :: zxa :: zru :: zxb :: zxc :: zth :: zxd :: zxe :: zti :: ztj :: zxf :: zvr :: zvs :: L2
theorem h3:Sds Tryz.prog E0 L3:=⟨zIt,zDZ,zKr,zCb,zCc,zwt,zGF,zIu,zIv,zD0,zwu,zwv,zAb,zAc,zym,zyn,zAd,zyo,zyp,zww,zwx,zKs,zwy,zIw,zCf,zIx,zIy,zD1,zIz,zIA,zD2,zD3,zIB,zGG,zGH,h2⟩
theorem ms3 {d:Bool} {F:Fun} {f:Go.Func} {K:Nat} (hf:Tryz.prog.funcs[F.id]? = some f) (ho:jA f = true) (h:evF (En E0 d L3) K f F.md F.a F.r = F.spec):Sd Tryz.prog E0 F:=mkS h3 hf ho h
theorem ml3 {d:Bool} {F:Fun} {f:Go.Func} {S:Nat→F.a.I→Option F.r.I} (hf:Tryz.prog.funcs[F.id]? = some f) (ho:jA f = true) (h:∀ K,evF (En E0 d L3) K f F.md F.a F.r = S K) (e:S K0 = F.spec):Sd Tryz.prog E0 F:=mkS h3 hf ho ((h K0).trans e)
abbrev Es3:Env:=En E0 false L3
end
end Go.Proofs.YtgomalidoilgbaaGreatDoor
end
section
namespace Go.Proofs.YtgomalidoilgbaaGreatDoor
open Go.Ev
noncomputable section
abbrev zbn:Type:=Int × zf
abbrev zys:zbn→St:=fun (v4,o0)=>St.mk [(1,.bp 0 []),(4,.dat tI v4)] [.bx (.dat zo o0) false]
def zfg (k0:zbn→Option (Bool × Unit)):zbn→Option (Bool × Unit):=fun (v4,o0) =>
  bif decide (v4 < ((List.length o0.1):Int)) then inR (wI (v4 - 1)) ((List.length o0.1):Int) (inR v4 ((List.length o0.1):Int) (Option.bind (zlx (List.getD o0.1 (Int.toNat (wI (v4 - 1))) (ze zq),ix jg o0.1 v4,())) fun q2=>bif decide (q2.1 ≥ 0) then some (false,()) else k0 (wI (v4 + 1),o0))) else some (true,())
abbrev ziR (K:Nat):zbn→Option (Bool × Unit):=zg zfg K
theorem zyt (K:Nat):∀ n,evV Es3 K Tryz.f208 0 (ch [.bool]) [1,1,1,0,1,0] [] zys n = zg zfg n:=zr fun n0 (v4,o0)=>by kernel_rfl
def zha (L0:zbn→Option (Bool × Unit)):(zf × Unit)→Option (Bool × Unit):=fun (x0,()) =>
  Option.bind (qt (((List.length x0.1):Int),1,8,())) fun q0=>bif q0.1 then bif decide (0 < ((List.length x0.1):Int)) then bif !eqI zq (ix jg x0.1 0) (ze zq) then some (false,()) else Option.bind (yl (x0.1,some ze8,())) fun q1=>bif q1.1 then some (false,()) else L0 (1,x0) else none else some (false,())
def vF:(zf × Unit)→Option (Bool × Unit):=zha (ziR K0)
abbrev zrz:Fun:=⟨208,(ch [zo]),(ch [.bool]),0,vF⟩
theorem zCl:Sq zrz:=ml3 (d:=false) (S:=fun K=>zha (ziR K)) Tryz.func208 (by kernel_rfl) (fun K=>tr1 (T:=zha) (zyt K K) fun (x0,())=>by kernel_rfl) rfl
def zbo:(ByteArray × Unit)→Option (Bool × Unit):=fun (x0,()) =>
  bif decide ((↑(ByteArray.size x0):Int) < 1) then some (false,()) else bif decide ((↑(ByteArray.size x0):Int) > 12) then some (false,()) else bif decide (0 < (↑(ByteArray.size x0):Int)) then Option.bind (zgo ((↑(UInt8.toNat (List.getD (Array.toList (ByteArray.data x0)) (Int.toNat 0) 0)):Int),())) fun q0=>bif q0.1 then Option.bind (zm4 (x0,some zgZ,())) fun q1=>bif q1.1 then some (true,()) else some (false,()) else some (false,()) else none
abbrev zvt:Fun:=⟨324,(ch [.str]),(ch [.bool]),0,zbo⟩
theorem zGI:Sq zvt:=ms3 (d:=false) (K:=0) Tryz.func324 (by kernel_rfl) (funext fun (x0,())=>by kernel_rfl)
def zlB:(ByteArray × Unit)→Option (Bool × Unit):=fun (x0,()) =>
  bif decide ((↑(ByteArray.size x0):Int) ≥ 1) then bif decide ((↑(ByteArray.size x0):Int) ≤ 40) then Option.bind (zm4 (x0,some zjD,())) fun q0=>bif q0.1 then Option.bind (zg0 (x0,ByteArray.mk #[32],())) fun q1=>bif ByteArray.toList q1.1 == ByteArray.toList x0 then some (true,()) else some (false,()) else some (false,()) else some (false,()) else some (false,())
abbrev zxg:Fun:=⟨412,(ch [.str]),(ch [.bool]),0,zlB⟩
theorem zIC:Sq zxg:=ms3 (d:=false) (K:=0) Tryz.func412 (by kernel_rfl) (funext fun (x0,())=>by kernel_rfl)
def zf6:(zv × Unit)→Option (Bool × Unit):=fun (x0,()) =>
  bif x0.1 then Option.bind (zly (x0,())) fun q0=>bif q0.1 then some (false,()) else some (true,()) else bif !eqI zx x0 (ze zx) then some (true,()) else some (false,())
abbrev zpu:Fun:=⟨350,(ch [zx]),(ch [.bool]),0,zf6⟩
theorem zAl:Sq zpu:=ms3 (d:=false) (K:=0) Tryz.func350 (by kernel_rfl) (funext fun (x0,())=>by kernel_rfl)
def zm6:(zt × Unit)→Option (Bool × Unit):=fun (x0,()) =>
  Option.bind (zh0 (x0.2.2.2.1,x0.2.2.2.2.2.2.2.1,x0.2.2.2.2.2.2.1,())) fun q0=>bif q0.2.1 == 0 then bif q0.1 == x0.2.2.2.2.2.2.2.2.1 then Option.bind (zlS (x0.2.1,())) fun q1=>bif q1.1 then Option.bind (zlS (x0.2.2.1,())) fun q2=>bif q2.1 then Option.bind (qV (x0.2.2.2.2.1,())) fun q3=>bif q3.1 then Option.bind (qV (x0.2.2.2.2.2.1,())) fun q4=>bif q4.1 then bif x0.2.2.2.2.1 != x0.2.2.2.2.2.1 then bif decide (x0.2.2.2.2.2.2.2.2.2.1 ≥ 0) then some (true,()) else some (false,()) else some (false,()) else some (false,()) else some (false,()) else some (false,()) else some (false,()) else some (false,()) else some (false,())
abbrev zAm:Fun:=⟨353,(ch [zp]),(ch [.bool]),0,zm6⟩
theorem zKt:Sq zAm:=ms3 (d:=false) (K:=0) Tryz.func353 (by kernel_rfl) (funext fun (x0,())=>by kernel_rfl)
def zlC:(zH × Unit)→Option (Bool × Unit):=fun (x0,()) =>
  bif decide (x0.1 > 4611686018427387904) then some (false,()) else Option.bind (ze2 (x0.2.1,())) fun q0=>bif q0.1 then Option.bind (ze2 (x0.2.2.1,())) fun q1=>bif q1.1 then Option.bind (ze2 (x0.2.2.2.1,())) fun q2=>bif q2.1 then Option.bind (ze2 (x0.2.2.2.2.2.2.2.2.2.1,())) fun q3=>bif q3.1 then bif x0.2.2.2.2.1 == 3 then bif eqI zu x0 (x0.1,x0.2.1,x0.2.2.1,x0.2.2.2.1,x0.2.2.2.2.1,(ze zu).2.2.2.2.2.1,(ze zu).2.2.2.2.2.2.1,(ze zu).2.2.2.2.2.2.2.1,(ze zu).2.2.2.2.2.2.2.2.1,x0.2.2.2.2.2.2.2.2.2.1,(ze zu).2.2.2.2.2.2.2.2.2.2) then some (true,()) else some (false,()) else Option.bind (zh0 (x0.2.2.2.2.1,x0.2.2.2.2.2.2.2.1,x0.2.2.2.2.2.2.2.2.1,())) fun q4=>bif q4.2.1 == 0 then bif x0.2.2.2.2.2.2.2.2.2.1 == 0 then bif x0.2.2.2.2.2.1 != x0.2.2.2.2.2.2.1 then Option.bind (qV (x0.2.2.2.2.2.1,())) fun q5=>bif q5.1 then Option.bind (qV (x0.2.2.2.2.2.2.1,())) fun q6=>bif q6.1 then some (true,()) else some (false,()) else some (false,()) else some (false,()) else some (false,()) else some (false,()) else some (false,()) else some (false,()) else some (false,()) else some (false,())
abbrev zxh:Fun:=⟨206,(ch [zu]),(ch [.bool]),0,zlC⟩
theorem zID:Sq zxh:=ms3 (d:=false) (K:=0) Tryz.func206 (by kernel_rfl) (funext fun (x0,())=>by kernel_rfl)
def zml:(qU × (Int × Unit))→Option ((Option ((z8 × Unit)→Option (Bool × Unit))) × Unit):=fun (x0,x1,()) =>
  some (some fun z=>vV (z.1,some x0,some x1,()),())
abbrev ztk:Fun:=⟨250,(ch [qp,tI]),(ch [(.fn (ch [zL]) (ch [.bool]))]),0,zml⟩
theorem zD4:Sq ztk:=ms3 (d:=false) (K:=0) Tryz.func250 (by kernel_rfl) (funext fun (x0,x1,())=>by kernel_rfl)
abbrev vt:Type:=(List zn) × Int × Int × qU
abbrev zyu:vt→St:=fun (v10,v11,v12,o0)=>St.mk [(1,.bp 0 []),(10,.dat (.sl zl) v10),(11,.dat tI v11),(12,.dat tI v12)] [.bx (.dat qp o0) true]
abbrev zfh:Type:=(List zn) × Int × Int × qU
abbrev zyv:zfh→St:=fun (v10,v11,v12,o0)=>St.mk [(1,.bp 0 []),(10,.dat (.sl zl) v10),(11,.dat tI v11),(12,.dat tI v12)] [.bx (.dat qp o0) false]
def qZ (k1:vt→Option (Bool × Unit)):vt→Option (Bool × Unit):=fun (v10,v11,v12,o0) =>
  bif decide (v12 < v11) then inR v12 ((List.length v10):Int) (Option.bind (yN ((ix za v10 v12).2.2.1,some fun z=>zbb (z.1,some o0,()),())) fun q3=>bif q3.1 then Option.bind (yO ((ix za v10 v12).2.2.2.1,some fun z=>vq (z.1,some o0,some v12,()),())) fun q4=>bif q4.1 then Option.bind (qM ((ix za v10 v12).2.2.2.2.1,some fun z=>qJ (z.1,some o0,()),())) fun q5=>bif q5.1 then k1 (v10,v11,wI (v12 + 1),o0) else some (false,()) else Option.bind (qM ((ix za v10 v12).2.2.2.2.1,some fun z=>qJ (z.1,some o0,()),())) fun q6=>bif q6.1 then some (false,()) else some (false,()) else Option.bind (yO ((ix za v10 v12).2.2.2.1,some fun z=>vq (z.1,some o0,some v12,()),())) fun q7=>bif q7.1 then Option.bind (qM ((ix za v10 v12).2.2.2.2.1,some fun z=>qJ (z.1,some o0,()),())) fun q8=>bif q8.1 then some (false,()) else some (false,()) else Option.bind (qM ((ix za v10 v12).2.2.2.2.1,some fun z=>qJ (z.1,some o0,()),())) fun q9=>bif q9.1 then some (false,()) else some (false,())) else some (true,())
theorem zyw (K:Nat):∀ n,evV Es3 K Tryz.f125 0 (ch [.bool]) [1,0,1,0] [] zyu n = zg qZ n:=zr fun n1 (v10,v11,v12,o0)=>by kernel_rfl
def zoh (k1:vt→Option (Bool × Unit)):zfh→Option (Bool × Unit):=fun (v10,v11,v12,o0) =>
  bif decide (v12 < v11) then inR v12 ((List.length v10):Int) (Option.bind (yN ((ix za v10 v12).2.2.1,some fun z=>zbb (z.1,some o0,()),())) fun q0=>bif q0.1 then Option.bind (yO ((ix za v10 v12).2.2.2.1,some fun z=>vq (z.1,some o0,some v12,()),())) fun q1=>bif q1.1 then Option.bind (qM ((ix za v10 v12).2.2.2.2.1,some fun z=>qJ (z.1,some o0,()),())) fun q2=>bif q2.1 then k1 (v10,v11,wI (v12 + 1),o0) else some (false,()) else Option.bind (qM ((ix za v10 v12).2.2.2.2.1,some fun z=>qJ (z.1,some o0,()),())) fun q10=>bif q10.1 then some (false,()) else some (false,()) else Option.bind (yO ((ix za v10 v12).2.2.2.1,some fun z=>vq (z.1,some o0,some v12,()),())) fun q11=>bif q11.1 then Option.bind (qM ((ix za v10 v12).2.2.2.2.1,some fun z=>qJ (z.1,some o0,()),())) fun q12=>bif q12.1 then some (false,()) else some (false,()) else Option.bind (qM ((ix za v10 v12).2.2.2.2.1,some fun z=>qJ (z.1,some o0,()),())) fun q13=>bif q13.1 then some (false,()) else some (false,())) else some (true,())
abbrev zoi (K:Nat):zfh→Option (Bool × Unit):=zzA zoh qZ K
theorem zyx (K:Nat):∀ n,evV Es3 K Tryz.f125 0 (ch [.bool]) [1,0,1,0] [] zyv n = zzA zoh qZ n:=zLM (zyw K) fun n0 (v10,v11,v12,o0)=>by kernel_rfl
def zla (L0:zfh→Option (Bool × Unit)):(qU × Unit)→Option (Bool × Unit):=fun (x0,()) =>
  L0 (x0.2.1.2.1,((List.length x0.2.1.2.1):Int),0,x0)
def zaY:(qU × Unit)→Option (Bool × Unit):=zla (zoi K0)
abbrev zrA:Fun:=⟨125,(ch [qp]),(ch [.bool]),0,zaY⟩
theorem zCm:Sq zrA:=ml3 (d:=false) (S:=fun K=>zla (zoi K)) Tryz.func125 (by kernel_rfl) (fun K=>tr1 (T:=zla) (zyx K K) fun (x0,())=>by kernel_rfl) rfl
abbrev zcA:Type:=(List zn) × Int × Int × (List Int) × Int × Int × zn
abbrev zpv:zcA→St:=fun (v14,v15,v16,v55,v56,v57,o0)=>St.mk [(4,.bp 0 []),(14,.dat (.sl zl) v14),(15,.dat tI v15),(16,.dat tI v16),(55,.dat (.sl tI) v55),(56,.dat tI v56),(57,.dat tI v57)] [.bx (.dat zl o0) false]
abbrev zcC:Type:=(Option zb5) × (List zn) × Int × Int × (List qc) × Int × Int × zn
abbrev zpw:zcC→St:=fun (v5,v14,v15,v16,v24,v25,v26,o0)=>St.mk [(4,.bp 0 []),(5,.dat (.ptr vO) v5),(14,.dat (.sl zl) v14),(15,.dat tI v15),(16,.dat tI v16),(24,.dat (.sl zw) v24),(25,.dat tI v25),(26,.dat tI v26)] [.bx (.dat zl o0) false]
abbrev jF:Type:=(List zn) × Int × Int
abbrev zae:jF→St:=fun (v14,v15,v16)=>St.mk [(14,.dat (.sl zl) v14),(15,.dat tI v15),(16,.dat tI v16)] []
def zcD (k0:jF→Option (Bool × Unit)) (k2:zcA→Option (Bool × Unit)):zcA→Option (Bool × Unit):=fun (v14,v15,v16,v55,v56,v57,o0) =>
  bif decide (v57 < v56) then inR v57 ((List.length v55):Int) (inR (ix (0:Int) v55 v57) ((List.length o0.2.2.2.2.1):Int) (inR (ix (0:Int) v55 v57) ((List.length o0.2.2.2.2.1):Int) (bif decide ((List.getD o0.2.2.2.2.1 (Int.toNat (ix (0:Int) v55 v57)) (ze zx)).2.2.2.1.2.2.1 ≥ ((List.length o0.2.2.1):Int)) then some (false,()) else bif decide ((List.getD o0.2.2.2.2.1 (Int.toNat (ix (0:Int) v55 v57)) (ze zx)).2.2.2.2.1.2.2.1 ≥ ((List.length o0.2.2.1):Int)) then some (false,()) else bif decide ((List.getD o0.2.2.2.2.1 (Int.toNat (ix (0:Int) v55 v57)) (ze zx)).2.2.2.1.2.2.1 ≥ 0) then inR (List.getD o0.2.2.2.2.1 (Int.toNat (ix (0:Int) v55 v57)) (ze zx)).2.2.2.1.2.2.1 ((List.length o0.2.2.1):Int) (bif (List.getD o0.2.2.1 (Int.toNat (List.getD o0.2.2.2.2.1 (Int.toNat (ix (0:Int) v55 v57)) (ze zx)).2.2.2.1.2.2.1) (ze zw)).2.2.1 != 3 then some (false,()) else inR (List.getD o0.2.2.2.2.1 (Int.toNat (ix (0:Int) v55 v57)) (ze zx)).2.2.2.1.2.2.1 ((List.length o0.2.2.1):Int) (bif (List.getD o0.2.2.1 (Int.toNat (List.getD o0.2.2.2.2.1 (Int.toNat (ix (0:Int) v55 v57)) (ze zx)).2.2.2.1.2.2.1) (ze zw)).2.2.2.1 != ix (0:Int) v55 v57 then some (false,()) else k2 (v14,v15,v16,v55,v56,wI (v57 + 1),o0))) else k2 (v14,v15,v16,v55,v56,wI (v57 + 1),o0)))) else k0 (v14,v15,wI (v16 + 1))
abbrev zcE (K:Nat) (k0:jF→Option (Bool × Unit)):zcA→Option (Bool × Unit):=zg (fun k2=>zcD k0 k2) K
theorem zAn (K:Nat) (n0:Nat):∀ n,evV Es3 K Tryz.f126 0 (ch [.bool]) [1,0,1,0,0,1,1,0,0,1,1,1,1,0] [n0] zpv n = zg (fun k2=>zcD (evV Es3 K Tryz.f126 0 (ch [.bool]) [1,0,1,0] [] zae n0) k2) n:=zr fun n2 (v14,v15,v16,v55,v56,v57,o0)=>by kernel_rfl
def zaf (L2:zcA→Option (Bool × Unit)) (k0:jF→Option (Bool × Unit)) (k1:zcC→Option (Bool × Unit)):zcC→Option (Bool × Unit):=fun (v5,v14,v15,v16,v24,v25,v26,o0) =>
  bif decide (v26 < v25) then inR v26 ((List.length v24):Int) (bif (ix zB v24 v26).2.2.1 == 3 then Option.bind (vT (v5,(ix zB v24 v26).2.2.2.1,())) fun q1=>bif q1.1 then inR (ix zB v24 v26).2.2.2.1 ((List.length o0.2.2.2.2.1):Int) (bif (List.getD o0.2.2.2.2.1 (Int.toNat (ix zB v24 v26).2.2.2.1) (ze zx)).2.2.2.1.2.2.1 != v26 then some (false,()) else k1 (v5,v14,v15,v16,v24,v25,wI (v26 + 1),o0)) else some (false,()) else k1 (v5,v14,v15,v16,v24,v25,wI (v26 + 1),o0)) else Option.bind (zdP (v5,())) fun q2=>L2 (v14,v15,v16,q2.1,((List.length q2.1):Int),0,o0)
abbrev zcF (K:Nat) (k0:jF→Option (Bool × Unit)):zcC→Option (Bool × Unit):=zg (fun k1=>zaf (zcE K k0) k0 k1) K
theorem zAo (K:Nat) (n0:Nat):∀ n,evV Es3 K Tryz.f126 0 (ch [.bool]) [1,0,1,0,0,1,1,0,0,1,1,0,1,0] [n0] zpw n = zg (fun k1=>zaf (zcE K (evV Es3 K Tryz.f126 0 (ch [.bool]) [1,0,1,0] [] zae n0)) (evV Es3 K Tryz.f126 0 (ch [.bool]) [1,0,1,0] [] zae n0) k1) n:=qC (B:=fun L2 k1=>zaf L2 (evV Es3 K Tryz.f126 0 (ch [.bool]) [1,0,1,0] [] zae n0) k1) (V1:=fun n1=>evV Es3 K Tryz.f126 0 (ch [.bool]) [1,0,1,0,0,1,1,0,0,1,1,1,1,0] [n0] zpv K) (W1:=fun k1=>(zcE K (evV Es3 K Tryz.f126 0 (ch [.bool]) [1,0,1,0] [] zae n0))) (fun n1=>zAn K n0 K) fun n1 (v5,v14,v15,v16,v24,v25,v26,o0)=>by kernel_rfl
def zag (L1:zcC→Option (Bool × Unit)) (k0:jF→Option (Bool × Unit)):jF→Option (Bool × Unit):=fun (v14,v15,v16) =>
  bif decide (v16 < v15) then inR v16 ((List.length v14):Int) (Option.bind (yK ((ix za v14 v16).2.2.2.2.1,some vR,())) fun q0=>L1 (q0.1,v14,v15,v16,(ix za v14 v16).2.2.1,((List.length (ix za v14 v16).2.2.1):Int),0,ix za v14 v16)) else some (true,())
abbrev zpx (K:Nat):jF→Option (Bool × Unit):=zg (fun k0=>zag (zcF K k0) k0) K
theorem zAp (K:Nat):∀ n,evV Es3 K Tryz.f126 0 (ch [.bool]) [1,0,1,0] [] zae n = zg (fun k0=>zag (zcF K k0) k0) n:=qC (B:=fun L1 k0=>zag L1 k0) (V1:=fun n0=>evV Es3 K Tryz.f126 0 (ch [.bool]) [1,0,1,0,0,1,1,0,0,1,1,0,1,0] [n0] zpw K) (W1:=fun k0=>(zcF K k0)) (fun n0=>zAo K n0 K) fun n0 (v14,v15,v16)=>by kernel_rfl
def zmm (L0:jF→Option (Bool × Unit)):(qU × Unit)→Option (Bool × Unit):=fun (x0,()) =>
  L0 (x0.2.1.2.1,((List.length x0.2.1.2.1):Int),0)
def zfw:(qU × Unit)→Option (Bool × Unit):=zmm (zpx K0)
abbrev ztl:Fun:=⟨126,(ch [qp]),(ch [.bool]),0,zfw⟩
theorem zD5:Sq ztl:=ml3 (d:=false) (S:=fun K=>zmm (zpx K)) Tryz.func126 (by kernel_rfl) (fun K=>tr1 (T:=zmm) (zAp K K) fun (x0,())=>by kernel_rfl) rfl
def zj6:((List zt) × Unit)→Option ((List Int) × Unit):=fun (x0,()) =>
  Option.bind (zm5 (x0,())) fun q0=>Option.bind (zhF (q0.1,())) fun q1=>some (q1.1,())
abbrev zvu:Fun:=⟨266,(ch [(.sl zp)]),(ch [(.sl tI)]),0,zj6⟩
theorem zGJ:Sq zvu:=ms3 (d:=false) (K:=0) Tryz.func266 (by kernel_rfl) (funext fun (x0,())=>by kernel_rfl)
abbrev zey:Type:=(List zv) × Int × (List Int) × Int × Int × List Int
abbrev zCn:zey→St:=fun (v0,v1,v14,v15,v16,o0)=>St.mk [(0,.dat (.sl zx) v0),(1,.dat tI v1),(6,.ow 0),(14,.dat (.sl tI) v14),(15,.dat tI v15),(16,.dat tI v16)] [.row tU o0 false]
def zez (k0:zey→Option (Int × (Int × Unit))):zey→Option (Int × (Int × Unit)):=fun (v0,v1,v14,v15,v16,o0) =>
  bif decide (v16 < v15) then inR v16 ((List.length v14):Int) (inR (ix (0:Int) v14 v16) ((List.length v0):Int) (bif (List.getD v0 (Int.toNat (ix (0:Int) v14 v16)) (ze zx)).2.2.2.1.1 == v1 then inR (ix (0:Int) v14 v16) ((List.length v0):Int) (bif decide (List.length o0 + List.length (zk (List.replicate 1 (0:Int)) 0 (List.getD v0 (Int.toNat (ix (0:Int) v14 v16)) (ze zx)).2.2.2.1.2.1) ≤ lim) then k0 (v0,v1,v14,v15,wI (v16 + 1),o0 ++ zk (List.replicate 1 (0:Int)) 0 (List.getD v0 (Int.toNat (ix (0:Int) v14 v16)) (ze zx)).2.2.2.1.2.1) else none) else k0 (v0,v1,v14,v15,wI (v16 + 1),o0))) else Option.bind (zg1 (o0,())) fun q3=>some (q3.1,q3.2.1,())
abbrev zrB (K:Nat):zey→Option (Int × (Int × Unit)):=zg zez K
theorem zCo (K:Nat):∀ n,evV Es3 K Tryz.f130 0 (ch [tU,tI]) [1,1,1,0,1,0] [] zCn n = zg zez n:=zr fun n0 (v0,v1,v14,v15,v16,o0)=>by kernel_rfl
def zj7 (L0:zey→Option (Int × (Int × Unit))):((List zv) × (Int × Unit))→Option (Int × (Int × Unit)):=fun (x0,x1,()) =>
  Option.bind (qV (x1,())) fun q0=>bif q0.1 then Option.bind (zlz (x0,())) fun q1=>Option.bind (zdP (q1.1,())) fun q2=>L0 (x0,x1,q2.1,((List.length q2.1):Int),0,[]) else some (0,1,())
def zj8:((List zv) × Int × Unit)→Option (Int × Int × Unit):=zj7 (zrB K0)
abbrev zvv:Fun:=⟨130,(ch [(.sl zx),tI]),(ch [tU,tI]),0,zj8⟩
theorem zGK:Sq zvv:=ml3 (d:=false) (S:=fun K=>zj7 (zrB K)) Tryz.func130 (by kernel_rfl) (fun K=>tr1 (T:=zj7) (zCo K K) fun (x0,x1,())=>by kernel_rfl) rfl
def zj9:(zb × (Int × Unit))→Option (Int × (Int × Unit)):=fun (x0,x1,()) =>
  Option.bind (qV (x1,())) fun q0=>bif q0.1 then Option.bind (zg8 (x0,x1,some zk1,())) fun q1=>bif q1.2.1 != 0 then some (0,q1.2.1,()) else Option.bind (zg8 (x0,x1,some zk2,())) fun q2=>bif q2.2.1 != 0 then some (0,q2.2.1,()) else Option.bind (za8 (q1.1,q2.1,())) fun q3=>some (q3.1,q3.2.1,()) else some (0,1,())
abbrev zvw:Fun:=⟨67,(ch [zh,tI]),(ch [tU,tI]),0,zj9⟩
theorem zGL:Sq zvw:=ms3 (d:=false) (K:=0) Tryz.func67 (by kernel_rfl) (funext fun (x0,x1,())=>by kernel_rfl)
abbrev zcG:Type:=(List (List Int)) × Int × Int × zf
abbrev zpy:zcG→St:=fun (v1,v5,v6,o0)=>St.mk [(1,.dat (.sl (.sl tI)) v1),(2,.bp 0 []),(5,.dat tI v5),(6,.dat tI v6)] [.bx (.dat zo o0) false]
abbrev vW:Type:=(List (List Int)) × Int × zf
abbrev zpz:vW→St:=fun (v1,v5,o0)=>St.mk [(1,.dat (.sl (.sl tI)) v1),(2,.bp 0 []),(5,.dat tI v5)] [.bx (.dat zo o0) false]
def zf7 (k0:vW→Option (Bool × Unit)) (k1:zcG→Option (Bool × Unit)):zcG→Option (Bool × Unit):=fun (v1,v5,v6,o0) =>
  inR v5 ((List.length v1):Int) (bif decide (v6 < ((List.length (List.getD v1 (Int.toNat v5) ([]:List Int))):Int)) then inR v5 ((List.length v1):Int) (inR v6 ((List.length (List.getD v1 (Int.toNat v5) ([]:List Int))):Int) (bif decide (List.getD (List.getD v1 (Int.toNat v5) ([]:List Int)) (Int.toNat v6) (0:Int) < 0) then some (false,()) else inR v5 ((List.length v1):Int) (inR v6 ((List.length (List.getD v1 (Int.toNat v5) ([]:List Int))):Int) (bif decide (List.getD (List.getD v1 (Int.toNat v5) ([]:List Int)) (Int.toNat v6) (0:Int) > 2) then some (false,()) else k1 (v1,v5,wI (v6 + 1),o0))))) else k0 (v1,wI (v5 + 1),o0))
abbrev zf8 (K:Nat) (k0:vW→Option (Bool × Unit)):zcG→Option (Bool × Unit):=zg (fun k1=>zf7 k0 k1) K
theorem zAq (K:Nat) (n0:Nat):∀ n,evV Es3 K Tryz.f167 0 (ch [.bool]) [1,1,0,1,0,0,1,0,0,1,1,0] [n0] zpy n = zg (fun k1=>zf7 (evV Es3 K Tryz.f167 0 (ch [.bool]) [1,1,0,1,0] [] zpz n0) k1) n:=zr fun n1 (v1,v5,v6,o0)=>by kernel_rfl
def zcH (L1:zcG→Option (Bool × Unit)) (k0:vW→Option (Bool × Unit)):vW→Option (Bool × Unit):=fun (v1,v5,o0) =>
  bif decide (v5 < ((List.length v1):Int)) then inR v5 ((List.length v1):Int) (bif ((List.length (List.getD v1 (Int.toNat v5) ([]:List Int))):Int) != ((List.length o0.2.2.1):Int) then some (false,()) else inR v5 ((List.length v1):Int) (inR v5 ((List.length o0.2.2.2.1):Int) (inR (ix qG o0.2.2.2.1 v5).2.1 ((List.length (List.getD v1 (Int.toNat v5) ([]:List Int))):Int) (bif List.getD (List.getD v1 (Int.toNat v5) ([]:List Int)) (Int.toNat (ix qG o0.2.2.2.1 v5).2.1) (0:Int) != 2 then some (false,()) else L1 (v1,v5,0,o0))))) else some (true,())
abbrev zka (K:Nat):vW→Option (Bool × Unit):=zg (fun k0=>zcH (zf8 K k0) k0) K
theorem zAr (K:Nat):∀ n,evV Es3 K Tryz.f167 0 (ch [.bool]) [1,1,0,1,0] [] zpz n = zg (fun k0=>zcH (zf8 K k0) k0) n:=qC (B:=fun L1 k0=>zcH L1 k0) (V1:=fun n0=>evV Es3 K Tryz.f167 0 (ch [.bool]) [1,1,0,1,0,0,1,0,0,1,1,0] [n0] zpy K) (W1:=fun k0=>(zf8 K k0)) (fun n0=>zAq K n0 K) fun n0 (v1,v5,o0)=>by kernel_rfl
def zio (L0:vW→Option (Bool × Unit)):(zf × ((List (List Int)) × Unit))→Option (Bool × Unit):=fun (x0,x1,()) =>
  Option.bind (zfv (x0,())) fun q0=>bif q0.1 then bif ((List.length x1):Int) != ((List.length x0.2.2.2.1):Int) then some (false,()) else L0 (x1,0,x0) else some (false,())
def ziq:(zf × (List (List Int)) × Unit)→Option (Bool × Unit):=zio (zka K0)
abbrev ztm:Fun:=⟨167,(ch [zo,(.sl (.sl tI))]),(ch [.bool]),0,ziq⟩
theorem zD6:Sq ztm:=ml3 (d:=false) (S:=fun K=>zio (zka K)) Tryz.func167 (by kernel_rfl) (fun K=>tr1 (T:=zio) (zAr K K) fun (x0,x1,())=>by kernel_rfl) rfl
abbrev zcI:Type:=(List zt) × Int
abbrev zAs:zcI→St:=fun (v0,v3)=>St.mk [(0,.dat (.sl zp) v0),(3,.dat tI v3)] []
def zcJ (k0:zcI→Option (Bool × Unit)):zcI→Option (Bool × Unit):=fun (v0,v3) =>
  bif decide (v3 < ((List.length v0):Int)) then inR v3 ((List.length v0):Int) (bif (ix zI v0 v3).1 then inR v3 ((List.length v0):Int) (bif (ix zI v0 v3).1 then inR v3 ((List.length v0):Int) (Option.bind (zh1 (ix zI v0 v3,())) fun q0=>bif q0.1 then inR v3 ((List.length v0):Int) (Option.bind (zlv (v0,v3,(ix zI v0 v3).2.2.2.2.2.2.2.2.2.1,())) fun q1=>bif q1.1 then some (false,()) else k0 (v0,wI (v3 + 1))) else some (false,())) else k0 (v0,wI (v3 + 1))) else inR v3 ((List.length v0):Int) (bif !eqI zp (ix zI v0 v3) (ze zp) then some (false,()) else inR v3 ((List.length v0):Int) (bif (ix zI v0 v3).1 then inR v3 ((List.length v0):Int) (Option.bind (zh1 (ix zI v0 v3,())) fun q2=>bif q2.1 then inR v3 ((List.length v0):Int) (Option.bind (zlv (v0,v3,(ix zI v0 v3).2.2.2.2.2.2.2.2.2.1,())) fun q3=>bif q3.1 then some (false,()) else k0 (v0,wI (v3 + 1))) else some (false,())) else k0 (v0,wI (v3 + 1))))) else some (true,())
abbrev zpA (K:Nat):zcI→Option (Bool × Unit):=zg zcJ K
theorem zAt (K:Nat):∀ n,evV Es3 K Tryz.f168 0 (ch [.bool]) [1,0,1,0] [] zAs n = zg zcJ n:=zr fun n0 (v0,v3)=>by kernel_rfl
def zmn (L0:zcI→Option (Bool × Unit)):((List zt) × Unit)→Option (Bool × Unit):=fun (x0,()) =>
  L0 (x0,0)
def zmo:((List zt) × Unit)→Option (Bool × Unit):=zmn (zpA K0)
abbrev ztn:Fun:=⟨168,(ch [(.sl zp)]),(ch [.bool]),0,zmo⟩
theorem zD7:Sq ztn:=ml3 (d:=false) (S:=fun K=>zmn (zpA K)) Tryz.func168 (by kernel_rfl) (fun K=>tr1 (T:=zmn) (zAt K K) fun (x0,())=>by kernel_rfl) rfl
abbrev zcK:Type:=(List zH) × Int
abbrev zAu:zcK→St:=fun (v0,v3)=>St.mk [(0,.dat (.sl zu) v0),(3,.dat tI v3)] []
def zcL (k0:zcK→Option (Bool × Unit)):zcK→Option (Bool × Unit):=fun (v0,v3) =>
  bif decide (v3 < ((List.length v0):Int)) then inR v3 ((List.length v0):Int) (Option.bind (zlA (ix vN v0 v3,())) fun q0=>bif q0.1 then bif decide (v3 > 0) then inR v3 ((List.length v0):Int) (inR (wI (v3 - 1)) ((List.length v0):Int) (Option.bind (zgX (ix vN v0 v3,List.getD v0 (Int.toNat (wI (v3 - 1))) (ze zu),())) fun q1=>bif q1.1 then k0 (v0,wI (v3 + 1)) else some (false,()))) else k0 (v0,wI (v3 + 1)) else some (false,())) else some (true,())
abbrev zpB (K:Nat):zcK→Option (Bool × Unit):=zg zcL K
theorem zAv (K:Nat):∀ n,evV Es3 K Tryz.f169 0 (ch [.bool]) [1,0,1,0] [] zAu n = zg zcL n:=zr fun n0 (v0,v3)=>by kernel_rfl
def zmp (L0:zcK→Option (Bool × Unit)):((List zH) × Unit)→Option (Bool × Unit):=fun (x0,()) =>
  L0 (x0,0)
def zmq:((List zH) × Unit)→Option (Bool × Unit):=zmp (zpB K0)
abbrev zto:Fun:=⟨169,(ch [(.sl zu)]),(ch [.bool]),0,zmq⟩
theorem zD8:Sq zto:=ml3 (d:=false) (S:=fun K=>zmp (zpB K)) Tryz.func169 (by kernel_rfl) (fun K=>tr1 (T:=zmp) (zAv K K) fun (x0,())=>by kernel_rfl) rfl
def zao:(zf × (zb × (z8 × (Int × Unit))))→Option (Bool × Unit):=fun (x0,x1,x2,x3,()) =>
  Option.bind (zfq (x1,x2,())) fun q0=>bif q0.1 then Option.bind (zfM (x0,x2.1,x3,())) fun q1=>bif q1.1 then some (true,()) else some (false,()) else some (false,())
abbrev ztp:Fun:=⟨176,(ch [zo,zh,zL,tI]),(ch [.bool]),0,zao⟩
theorem zD9:Sq ztp:=ms3 (d:=false) (K:=0) Tryz.func176 (by kernel_rfl) (funext fun (x0,x1,x2,x3,())=>by kernel_rfl)
abbrev L4:List Fun:=zrz :: zvt :: zxg :: zpu :: zAm :: zxh :: ztk :: zrA :: ztl :: zvu :: zvv :: zvw :: ztm :: ztn :: zto :: ztp :: L3
theorem h4:Sds Tryz.prog E0 L4:=⟨zCl,zGI,zIC,zAl,zKt,zID,zD4,zCm,zD5,zGJ,zGK,zGL,zD6,zD7,zD8,zD9,h3⟩
theorem ms4 {d:Bool} {F:Fun} {f:Go.Func} {K:Nat} (hf:Tryz.prog.funcs[F.id]? = some f) (ho:jA f = true) (h:evF (En E0 d L4) K f F.md F.a F.r = F.spec):Sd Tryz.prog E0 F:=mkS h4 hf ho h
theorem ml4 {d:Bool} {F:Fun} {f:Go.Func} {S:Nat→F.a.I→Option F.r.I} (hf:Tryz.prog.funcs[F.id]? = some f) (ho:jA f = true) (h:∀ K,evF (En E0 d L4) K f F.md F.a F.r = S K) (e:S K0 = F.spec):Sd Tryz.prog E0 F:=mkS h4 hf ho ((h K0).trans e)
abbrev Es4:Env:=En E0 false L4
def zcM:(qy × Unit)→Option (Bool × Unit):=fun (x0,()) =>
  Option.bind (zbo (x0.1,())) fun q0=>bif q0.1 then Option.bind (zbo (x0.2.1,())) fun q1=>bif q1.1 then Option.bind (qt (x0.2.2.1,0,3,())) fun q2=>bif q2.1 then some (false,()) else some (true,()) else some (true,()) else some (true,())
abbrev zl0:Fun:=⟨323,(ch [qD]),(ch [.bool]),0,zcM⟩
theorem zvx:Sq zl0:=ms4 (d:=false) (K:=0) Tryz.func323 (by kernel_rfl) (funext fun (x0,())=>by kernel_rfl)
def zhb:(qT × Unit)→Option (Bool × Unit):=fun (x0,()) =>
  bif x0.1 then Option.bind (zbo (x0.2.1,())) fun q0=>bif q0.1 then bif x0.1 then some (false,()) else bif !ByteArray.toList x0.2.1 == ByteArray.toList (ByteArray.mk #[]) then some (true,()) else some (false,()) else some (true,()) else bif x0.1 then some (false,()) else bif !ByteArray.toList x0.2.1 == ByteArray.toList (ByteArray.mk #[]) then some (true,()) else some (false,())
abbrev zrC:Fun:=⟨342,(ch [qa]),(ch [.bool]),0,zhb⟩
theorem zCp:Sq zrC:=ms4 (d:=false) (K:=0) Tryz.func342 (by kernel_rfl) (funext fun (x0,())=>by kernel_rfl)
def zir:(qc × Unit)→Option (Bool × Unit):=fun (x0,()) =>
  bif x0.1 then Option.bind (zbo (x0.2.1,())) fun q0=>bif q0.1 then Option.bind (zsp (x0,())) fun q1=>Option.bind (zcl (q1.1,())) fun q2=>bif q2.1 then some (false,()) else some (true,()) else some (true,()) else bif !eqI zw x0 (ze zw) then some (true,()) else some (false,())
abbrev ztq:Fun:=⟨346,(ch [zw]),(ch [.bool]),0,zir⟩
theorem zEa:Sq ztq:=ms4 (d:=false) (K:=0) Tryz.func346 (by kernel_rfl) (funext fun (x0,())=>by kernel_rfl)
def zkb:(qq × Unit)→Option (Bool × Unit):=fun (x0,()) =>
  bif x0.1 then Option.bind (zk3 (x0,())) fun q0=>bif q0.1 then Option.bind (zlB (x0.2.2.2.2.1,())) fun q1=>bif q1.1 then some (false,()) else some (true,()) else some (true,()) else bif !eqI zV x0 (ze zV) then some (true,()) else some (false,())
abbrev zvy:Fun:=⟨348,(ch [zV]),(ch [.bool]),0,zkb⟩
theorem zGM:Sq zvy:=ms4 (d:=false) (K:=0) Tryz.func348 (by kernel_rfl) (funext fun (x0,())=>by kernel_rfl)
def zis:((List zv) × Unit)→Option (Bool × Unit):=fun (x0,()) =>
  Option.bind (jh (x0,some zf6,())) fun q0=>bif q0.1 then some (false,()) else some (true,())
abbrev ztr:Fun:=⟨238,(ch [(.sl zx)]),(ch [.bool]),0,zis⟩
theorem zEb:Sq ztr:=ms4 (d:=false) (K:=0) Tryz.func238 (by kernel_rfl) (funext fun (x0,())=>by kernel_rfl)
abbrev zeA:Type:=Int × (List zt) × Int × Int × List (Int × Int)
abbrev zCq:zeA→St:=fun (v4,v8,v9,v10,o0)=>St.mk [(3,.om 0),(4,.dat tI v4),(8,.dat (.sl zp) v8),(9,.dat tI v9),(10,.dat tI v10)] [.mp tI tI o0]
def zeB (k0:zeA→Option (Bool × Unit)):zeA→Option (Bool × Unit):=fun (v4,v8,v9,v10,o0) =>
  bif decide (v10 < v9) then inR v10 ((List.length v8):Int) (bif (ix zI v8 v10).1 then Option.bind (zm6 (ix zI v8 v10,())) fun q0=>bif q0.1 then bif (ix zI v8 v10).1 then bif (ix zI v8 v10).1 then k0 (wI (v4 + 1),v8,v9,wI (v10 + 1),jM tI o0 (ix zI v8 v10).2.2.2.2.2.2.2.2.2.1 (wI (zaA tI (0:Int) o0 (ix zI v8 v10).2.2.2.2.2.2.2.2.2.1 + 1))) else k0 (v4,v8,v9,wI (v10 + 1),o0) else bif !eqI zp (ix zI v8 v10) (ze zp) then some (false,()) else bif (ix zI v8 v10).1 then k0 (wI (v4 + 1),v8,v9,wI (v10 + 1),jM tI o0 (ix zI v8 v10).2.2.2.2.2.2.2.2.2.1 (wI (zaA tI (0:Int) o0 (ix zI v8 v10).2.2.2.2.2.2.2.2.2.1 + 1))) else k0 (v4,v8,v9,wI (v10 + 1),o0) else some (false,()) else bif (ix zI v8 v10).1 then bif (ix zI v8 v10).1 then k0 (wI (v4 + 1),v8,v9,wI (v10 + 1),jM tI o0 (ix zI v8 v10).2.2.2.2.2.2.2.2.2.1 (wI (zaA tI (0:Int) o0 (ix zI v8 v10).2.2.2.2.2.2.2.2.2.1 + 1))) else k0 (v4,v8,v9,wI (v10 + 1),o0) else bif !eqI zp (ix zI v8 v10) (ze zp) then some (false,()) else bif (ix zI v8 v10).1 then k0 (wI (v4 + 1),v8,v9,wI (v10 + 1),jM tI o0 (ix zI v8 v10).2.2.2.2.2.2.2.2.2.1 (wI (zaA tI (0:Int) o0 (ix zI v8 v10).2.2.2.2.2.2.2.2.2.1 + 1))) else k0 (v4,v8,v9,wI (v10 + 1),o0)) else bif ((List.length o0):Int) == v4 then some (true,()) else some (false,())
abbrev zrD (K:Nat):zeA→Option (Bool × Unit):=zg zeB K
theorem zCr (K:Nat):∀ n,evV Es4 K Tryz.f240 0 (ch [.bool]) [1,1,1,0,1,0] [] zCq n = zg zeB n:=zr fun n0 (v4,v8,v9,v10,o0)=>by kernel_rfl
def zoj (L0:zeA→Option (Bool × Unit)):((List zt) × Unit)→Option (Bool × Unit):=fun (x0,()) =>
  L0 (0,x0,((List.length x0):Int),0,[])
def zok:((List zt) × Unit)→Option (Bool × Unit):=zoj (zrD K0)
abbrev zvz:Fun:=⟨240,(ch [(.sl zp)]),(ch [.bool]),0,zok⟩
theorem zGN:Sq zvz:=ml4 (d:=false) (S:=fun K=>zoj (zrD K)) Tryz.func240 (by kernel_rfl) (fun K=>tr1 (T:=zoj) (zCr K K) fun (x0,())=>by kernel_rfl) rfl
abbrev zcN:Type:=(List zH) × (List zH) × Int × Int
abbrev zAw:zcN→St:=fun (v0,v5,v6,v7)=>St.mk [(0,.dat (.sl zu) v0),(5,.dat (.sl zu) v5),(6,.dat tI v6),(7,.dat tI v7)] []
def zcO (k0:zcN→Option (Bool × Unit)):zcN→Option (Bool × Unit):=fun (v0,v5,v6,v7) =>
  bif decide (v7 < v6) then inR v7 ((List.length v5):Int) (Option.bind (zlC (ix vN v5 v7,())) fun q0=>bif q0.1 then bif decide (v7 > 0) then inR (wI (v7 - 1)) ((List.length v0):Int) (Option.bind (zim (List.getD v0 (Int.toNat (wI (v7 - 1))) (ze zu),ix vN v5 v7,())) fun q1=>bif decide (q1.1 ≥ 0) then some (false,()) else k0 (v0,v5,v6,wI (v7 + 1))) else k0 (v0,v5,v6,wI (v7 + 1)) else some (false,())) else some (true,())
abbrev zpC (K:Nat):zcN→Option (Bool × Unit):=zg zcO K
theorem zAx (K:Nat):∀ n,evV Es4 K Tryz.f241 0 (ch [.bool]) [1,0,1,0] [] zAw n = zg zcO n:=zr fun n0 (v0,v5,v6,v7)=>by kernel_rfl
def zmr (L0:zcN→Option (Bool × Unit)):((List zH) × Unit)→Option (Bool × Unit):=fun (x0,()) =>
  L0 (x0,x0,((List.length x0):Int),0)
def zms:((List zH) × Unit)→Option (Bool × Unit):=zmr (zpC K0)
abbrev zts:Fun:=⟨241,(ch [(.sl zu)]),(ch [.bool]),0,zms⟩
theorem zEc:Sq zts:=ml4 (d:=false) (S:=fun K=>zmr (zpC K)) Tryz.func241 (by kernel_rfl) (fun K=>tr1 (T:=zmr) (zAx K K) fun (x0,())=>by kernel_rfl) rfl
abbrev zcP:Type:=(List zn) × Int × Int × qU
abbrev zAy:zcP→St:=fun (v10,v11,v12,o0)=>St.mk [(1,.bp 0 []),(10,.dat (.sl zl) v10),(11,.dat tI v11),(12,.dat tI v12)] [.bx (.dat qp o0) false]
def zcQ (k0:zcP→Option (Bool × Unit)):zcP→Option (Bool × Unit):=fun (v10,v11,v12,o0) =>
  bif decide (v12 < v11) then inR v12 ((List.length v10):Int) (Option.bind (zml (o0,v12,())) fun q0=>Option.bind (ziQ ((ix za v10 v12).2.1,some fun z=>zf0 (z.1,some q0.1,()),())) fun q1=>bif q1.1 then Option.bind (yN ((ix za v10 v12).2.2.1,some fun z=>zb8 (z.1,some q0.1,()),())) fun q2=>bif q2.1 then Option.bind (zj1 ((ix za v10 v12).2.2.2.2.2.2.1,q0.1,())) fun q3=>bif q3.1 then k0 (v10,v11,wI (v12 + 1),o0) else some (false,()) else some (false,()) else Option.bind (yN ((ix za v10 v12).2.2.1,some fun z=>zb8 (z.1,some q0.1,()),())) fun q4=>bif q4.1 then some (false,()) else some (false,())) else some (true,())
abbrev zpD (K:Nat):zcP→Option (Bool × Unit):=zg zcQ K
theorem zAz (K:Nat):∀ n,evV Es4 K Tryz.f124 0 (ch [.bool]) [1,0,1,0] [] zAy n = zg zcQ n:=zr fun n0 (v10,v11,v12,o0)=>by kernel_rfl
def zmt (L0:zcP→Option (Bool × Unit)):(qU × Unit)→Option (Bool × Unit):=fun (x0,()) =>
  L0 (x0.2.1.2.1,((List.length x0.2.1.2.1):Int),0,x0)
def zfx:(qU × Unit)→Option (Bool × Unit):=zmt (zpD K0)
abbrev ztt:Fun:=⟨124,(ch [qp]),(ch [.bool]),0,zfx⟩
theorem zEd:Sq ztt:=ml4 (d:=false) (S:=fun K=>zmt (zpD K)) Tryz.func124 (by kernel_rfl) (fun K=>tr1 (T:=zmt) (zAz K K) fun (x0,())=>by kernel_rfl) rfl
abbrev zfy:Type:=(List zt) × Int × (List Int) × Int × Int × List Int
abbrev zEe:zfy→St:=fun (v0,v1,v13,v14,v15,o0)=>St.mk [(0,.dat (.sl zp) v0),(1,.dat tI v1),(6,.ow 0),(13,.dat (.sl tI) v13),(14,.dat tI v14),(15,.dat tI v15)] [.row tU o0 false]
def zfz (k0:zfy→Option (Int × (Int × Unit))):zfy→Option (Int × (Int × Unit)):=fun (v0,v1,v13,v14,v15,o0) =>
  bif decide (v15 < v14) then inR v15 ((List.length v13):Int) (inR (ix (0:Int) v13 v15) ((List.length v0):Int) (Option.bind (zic (List.getD v0 (Int.toNat (ix (0:Int) v13 v15)) (ze zp),())) fun q2=>bif q2.1 == v1 then inR (ix (0:Int) v13 v15) ((List.length v0):Int) (bif decide (List.length o0 + List.length (zk (List.replicate 1 (0:Int)) 0 (List.getD v0 (Int.toNat (ix (0:Int) v13 v15)) (ze zp)).2.2.2.2.2.2.2.2.1) ≤ lim) then k0 (v0,v1,v13,v14,wI (v15 + 1),o0 ++ zk (List.replicate 1 (0:Int)) 0 (List.getD v0 (Int.toNat (ix (0:Int) v13 v15)) (ze zp)).2.2.2.2.2.2.2.2.1) else none) else k0 (v0,v1,v13,v14,wI (v15 + 1),o0))) else Option.bind (zg1 (o0,())) fun q3=>some (q3.1,q3.2.1,())
abbrev ztu (K:Nat):zfy→Option (Int × (Int × Unit)):=zg zfz K
theorem zEf (K:Nat):∀ n,evV Es4 K Tryz.f129 0 (ch [tU,tI]) [1,1,1,0,1,0] [] zEe n = zg zfz n:=zr fun n0 (v0,v1,v13,v14,v15,o0)=>by kernel_rfl
def zlD (L0:zfy→Option (Int × (Int × Unit))):((List zt) × (Int × Unit))→Option (Int × (Int × Unit)):=fun (x0,x1,()) =>
  Option.bind (qV (x1,())) fun q0=>bif q0.1 then Option.bind (zj6 (x0,())) fun q1=>L0 (x0,x1,q1.1,((List.length q1.1):Int),0,[]) else some (0,1,())
def zlE:((List zt) × Int × Unit)→Option (Int × Int × Unit):=zlD (ztu K0)
abbrev zxi:Fun:=⟨129,(ch [(.sl zp),tI]),(ch [tU,tI]),0,zlE⟩
theorem zIE:Sq zxi:=ml4 (d:=false) (S:=fun K=>zlD (ztu K)) Tryz.func129 (by kernel_rfl) (fun K=>tr1 (T:=zlD) (zEf K K) fun (x0,x1,())=>by kernel_rfl) rfl
abbrev zbp:Type:=Int × zf × zb
abbrev zol:zbp→St:=fun (v9,o0,o1)=>St.mk [(2,.bp 0 []),(3,.bp 1 []),(9,.dat tI v9)] [.bx (.dat zo o0) false,.bx (.dat zh o1) false]
abbrev zbq:Type:=Int × zf × zb
abbrev zom:zbq→St:=fun (v7,o0,o1)=>St.mk [(2,.bp 0 []),(3,.bp 1 []),(7,.dat tI v7)] [.bx (.dat zo o0) false,.bx (.dat zh o1) false]
abbrev zbr:Type:=Int × zf × zb
abbrev zyy:zbr→St:=fun (v5,o0,o1)=>St.mk [(2,.bp 0 []),(3,.bp 1 []),(5,.dat tI v5)] [.bx (.dat zo o0) false,.bx (.dat zh o1) false]
def zfi (k2:zbp→Option (Bool × Unit)):zbp→Option (Bool × Unit):=fun (v9,o0,o1) =>
  bif decide (v9 < ((List.length o1.2.2.2.2.2.1):Int)) then inR v9 ((List.length o1.2.2.2.2.2.1):Int) (bif ix (0:Int) o1.2.2.2.2.2.1 v9 != -1 then inR v9 ((List.length o1.2.2.2.2.2.1):Int) (Option.bind (jU (o0,ix (0:Int) o1.2.2.2.2.2.1 v9,())) fun q6=>bif q6.1 then k2 (wI (v9 + 1),o0,o1) else some (false,())) else k2 (wI (v9 + 1),o0,o1)) else some (true,())
abbrev zbs (K:Nat):zbp→Option (Bool × Unit):=zg zfi K
theorem zyz (K:Nat):∀ n,evV Es4 K Tryz.f87 0 (ch [.bool]) [1,1,1,1,0,1,0] [] zol n = zg zfi n:=zr fun n2 (v9,o0,o1)=>by kernel_rfl
def zbt (L2:zbp→Option (Bool × Unit)) (k1:zbq→Option (Bool × Unit)):zbq→Option (Bool × Unit):=fun (v7,o0,o1) =>
  bif decide (v7 < ((List.length o1.2.2.2.2.1):Int)) then inR v7 ((List.length o1.2.2.2.2.1):Int) (bif decide ((ix vN o1.2.2.2.2.1 v7).2.1 ≥ ((List.length o0.2.1):Int)) then some (false,()) else inR (ix vN o1.2.2.2.2.1 v7).2.1 ((List.length o0.2.1):Int) (bif (ix vN o1.2.2.2.2.1 v7).2.2.1 != List.getD o0.2.1 (Int.toNat (ix vN o1.2.2.2.2.1 v7).2.1) (0:Int) then some (false,()) else Option.bind (jU (o0,(ix vN o1.2.2.2.2.1 v7).2.2.2.1,())) fun q5=>bif q5.1 then bif decide ((ix vN o1.2.2.2.2.1 v7).1 > o1.1) then some (false,()) else k1 (wI (v7 + 1),o0,o1) else some (false,()))) else L2 (0,o0,o1)
abbrev zbu (K:Nat):zbq→Option (Bool × Unit):=zg (fun k1=>zbt (zbs K) k1) K
theorem zyA (K:Nat):∀ n,evV Es4 K Tryz.f87 0 (ch [.bool]) [1,1,1,0,1,0] [] zom n = zg (fun k1=>zbt (zbs K) k1) n:=qC (B:=fun L2 k1=>zbt L2 k1) (V1:=fun n1=>evV Es4 K Tryz.f87 0 (ch [.bool]) [1,1,1,1,0,1,0] [] zol K) (W1:=fun k1=>(zbs K)) (fun n1=>zyz K K) fun n1 (v7,o0,o1)=>by kernel_rfl
def zbv (L1:zbq→Option (Bool × Unit)) (k0:zbr→Option (Bool × Unit)):zbr→Option (Bool × Unit):=fun (v5,o0,o1) =>
  bif decide (v5 < ((List.length o1.2.2.2.1):Int)) then inR v5 ((List.length o1.2.2.2.1):Int) (bif (ix zI o1.2.2.2.1 v5).1 then bif decide ((ix zI o1.2.2.2.1 v5).2.1 ≥ ((List.length o0.1):Int)) then some (false,()) else Option.bind (jU (o0,(ix zI o1.2.2.2.1 v5).2.2.1,())) fun q4=>bif q4.1 then bif decide ((ix zI o1.2.2.2.1 v5).2.2.2.2.2.2.2.2.2.1 ≥ ((List.length o1.2.2.2.2.1):Int)) then some (false,()) else k0 (wI (v5 + 1),o0,o1) else some (false,()) else k0 (wI (v5 + 1),o0,o1)) else L1 (0,o0,o1)
abbrev ziS (K:Nat):zbr→Option (Bool × Unit):=zg (fun k0=>zbv (zbu K) k0) K
theorem zyB (K:Nat):∀ n,evV Es4 K Tryz.f87 0 (ch [.bool]) [1,1,0,1,0] [] zyy n = zg (fun k0=>zbv (zbu K) k0) n:=qC (B:=fun L1 k0=>zbv L1 k0) (V1:=fun n0=>evV Es4 K Tryz.f87 0 (ch [.bool]) [1,1,1,0,1,0] [] zom K) (W1:=fun k0=>(zbu K)) (fun n0=>zyA K K) fun n0 (v5,o0,o1)=>by kernel_rfl
def zhc (L0:zbr→Option (Bool × Unit)):(zf × (zb × Unit))→Option (Bool × Unit):=fun (x0,x1,()) =>
  Option.bind (ziq (x0,x1.2.2.1,())) fun q0=>bif q0.1 then Option.bind (zmo (x1.2.2.2.1,())) fun q1=>bif q1.1 then Option.bind (zmq (x1.2.2.2.2.1,())) fun q2=>bif q2.1 then Option.bind (zfq (x1,ze zL,())) fun q3=>bif q3.1 then L0 (0,x0,x1) else some (false,()) else some (false,()) else some (false,()) else some (false,())
def zhd:(zf × zb × Unit)→Option (Bool × Unit):=zhc (ziS K0)
abbrev zrE:Fun:=⟨87,(ch [zo,zh]),(ch [.bool]),0,zhd⟩
theorem zCs:Sq zrE:=ml4 (d:=false) (S:=fun K=>zhc (ziS K)) Tryz.func87 (by kernel_rfl) (fun K=>tr1 (T:=zhc) (zyB K K) fun (x0,x1,())=>by kernel_rfl) rfl
def zkc:(zf × (zb × (Int × (Int × Unit))))→Option (Bool × Unit):=fun (x0,x1,x2,x3,()) =>
  inR x2 ((List.length x1.2.1):Int) (inR x3 ((List.length (ix za x1.2.1 x2).2.2.1):Int) (bif (List.getD (ix za x1.2.1 x2).2.2.1 (Int.toNat x3) (ze zw)).1 then bif (List.getD (ix za x1.2.1 x2).2.2.1 (Int.toNat x3) (ze zw)).2.2.1 == 1 then Option.bind (jU (x0,(List.getD (ix za x1.2.1 x2).2.2.1 (Int.toNat x3) (ze zw)).2.2.2.1,())) fun q0=>bif q0.1 then some (true,()) else some (false,()) else bif (List.getD (ix za x1.2.1 x2).2.2.1 (Int.toNat x3) (ze zw)).2.2.1 == 2 then Option.bind (zao (x0,x1,(List.getD (ix za x1.2.1 x2).2.2.1 (Int.toNat x3) (ze zw)).2.2.2.2.1,x2,())) fun q1=>bif q1.1 then some (true,()) else some (false,()) else bif decide ((List.getD (ix za x1.2.1 x2).2.2.1 (Int.toNat x3) (ze zw)).2.2.2.1 < ((List.length (ix za x1.2.1 x2).2.2.2.2.1):Int)) then inR (List.getD (ix za x1.2.1 x2).2.2.1 (Int.toNat x3) (ze zw)).2.2.2.1 ((List.length (ix za x1.2.1 x2).2.2.2.2.1):Int) (bif (List.getD (ix za x1.2.1 x2).2.2.2.2.1 (Int.toNat (List.getD (ix za x1.2.1 x2).2.2.1 (Int.toNat x3) (ze zw)).2.2.2.1) (ze zx)).1 then inR (List.getD (ix za x1.2.1 x2).2.2.1 (Int.toNat x3) (ze zw)).2.2.2.1 ((List.length (ix za x1.2.1 x2).2.2.2.2.1):Int) (bif (List.getD (ix za x1.2.1 x2).2.2.2.2.1 (Int.toNat (List.getD (ix za x1.2.1 x2).2.2.1 (Int.toNat x3) (ze zw)).2.2.2.1) (ze zx)).2.2.2.1.2.2.1 == x3 then some (true,()) else some (false,())) else some (false,())) else some (false,()) else some (true,())))
abbrev zvA:Fun:=⟨177,(ch [zo,zh,tI,tI]),(ch [.bool]),0,zkc⟩
theorem zGO:Sq zvA:=ms4 (d:=false) (K:=0) Tryz.func177 (by kernel_rfl) (funext fun (x0,x1,x2,x3,())=>by kernel_rfl)
abbrev L5:List Fun:=zl0 :: zrC :: ztq :: zvy :: ztr :: zvz :: zts :: ztt :: zxi :: zrE :: zvA :: L4
theorem h5:Sds Tryz.prog E0 L5:=⟨zvx,zCp,zEa,zGM,zEb,zGN,zEc,zEd,zIE,zCs,zGO,h4⟩
theorem ms5 {d:Bool} {F:Fun} {f:Go.Func} {K:Nat} (hf:Tryz.prog.funcs[F.id]? = some f) (ho:jA f = true) (h:evF (En E0 d L5) K f F.md F.a F.r = F.spec):Sd Tryz.prog E0 F:=mkS h5 hf ho h
theorem ml5 {d:Bool} {F:Fun} {f:Go.Func} {S:Nat→F.a.I→Option F.r.I} (hf:Tryz.prog.funcs[F.id]? = some f) (ho:jA f = true) (h:∀ K,evF (En E0 d L5) K f F.md F.a F.r = S K) (e:S K0 = F.spec):Sd Tryz.prog E0 F:=mkS h5 hf ho ((h K0).trans e)
abbrev Es5:Env:=En E0 false L5
def jS:(zf × Unit)→Option (Bool × Unit):=fun (x0,()) =>
  Option.bind (qt (((List.length x0.2.2.1):Int),1,8,())) fun q0=>bif q0.1 then Option.bind (zaI (x0.2.2.1,some zcM,())) fun q1=>bif q1.1 then some (false,()) else Option.bind (zhw (x0,())) fun q2=>Option.bind (znE (q2.1,())) fun q3=>bif q3.1 then some (true,()) else some (false,()) else some (false,())
abbrev zon:Fun:=⟨210,(ch [zo]),(ch [.bool]),0,jS⟩
theorem zyC:Sq zon:=ms5 (d:=false) (K:=0) Tryz.func210 (by kernel_rfl) (funext fun (x0,())=>by kernel_rfl)
def zkd:((List qT) × Unit)→Option (Bool × Unit):=fun (x0,()) =>
  Option.bind (zdx (x0,some zhb,())) fun q0=>bif q0.1 then some (false,()) else some (true,())
abbrev zvB:Fun:=⟨234,(ch [(.sl qa)]),(ch [.bool]),0,zkd⟩
theorem zGP:Sq zvB:=ms5 (d:=false) (K:=0) Tryz.func234 (by kernel_rfl) (funext fun (x0,())=>by kernel_rfl)
def zit:((List qc) × Unit)→Option (Bool × Unit):=fun (x0,()) =>
  Option.bind (jt (x0,some zir,())) fun q0=>bif q0.1 then some (false,()) else some (true,())
abbrev ztv:Fun:=⟨236,(ch [(.sl zw)]),(ch [.bool]),0,zit⟩
theorem zEg:Sq ztv:=ms5 (d:=false) (K:=0) Tryz.func236 (by kernel_rfl) (funext fun (x0,())=>by kernel_rfl)
def zke:((List qq) × Unit)→Option (Bool × Unit):=fun (x0,()) =>
  Option.bind (ju (x0,some zkb,())) fun q0=>bif q0.1 then some (false,()) else some (true,())
abbrev zvC:Fun:=⟨237,(ch [(.sl zV)]),(ch [.bool]),0,zke⟩
theorem zGQ:Sq zvC:=ms5 (d:=false) (K:=0) Tryz.func237 (by kernel_rfl) (funext fun (x0,())=>by kernel_rfl)
abbrev zeC:Type:=Int × (List zn) × Int × Int × (List (List Int)) × Int × Int × List Int
abbrev zrF:zeC→St:=fun (v1,v31,v32,v33,v52,v53,v54,o0)=>St.mk [(1,.dat tI v1),(8,.ow 0),(31,.dat (.sl zl) v31),(32,.dat tI v32),(33,.dat tI v33),(52,.dat (.sl (.arr 4 tU)) v52),(53,.dat tI v53),(54,.dat tI v54)] [.row tU o0 false]
abbrev yQ:Type:=Int × (List zn) × Int × Int × List Int
abbrev zrG:yQ→St:=fun (v1,v31,v32,v33,o0)=>St.mk [(1,.dat tI v1),(8,.ow 0),(31,.dat (.sl zl) v31),(32,.dat tI v32),(33,.dat tI v33)] [.row tU o0 false]
def zeD (k0:yQ→Option (Int × (Int × Unit))) (k1:zeC→Option (Int × (Int × Unit))):zeC→Option (Int × (Int × Unit)):=fun (v1,v31,v32,v33,v52,v53,v54,o0) =>
  bif decide (v54 < v53) then inR v54 ((List.length v52):Int) (inR v1 (↑4:Int) (bif decide (List.length o0 + List.length (zk (List.replicate 1 (0:Int)) 0 (List.getD (List.getD v52 (Int.toNat v54) (ze (.arr 4 tU))) (Int.toNat v1) (0:Int))) ≤ lim) then k1 (v1,v31,v32,v33,v52,v53,wI (v54 + 1),o0 ++ zk (List.replicate 1 (0:Int)) 0 (List.getD (List.getD v52 (Int.toNat v54) (ze (.arr 4 tU))) (Int.toNat v1) (0:Int))) else none)) else k0 (v1,v31,v32,wI (v33 + 1),o0)
abbrev zeE (K:Nat) (k0:yQ→Option (Int × (Int × Unit))):zeC→Option (Int × (Int × Unit)):=zg (fun k1=>zeD k0 k1) K
theorem zCt (K:Nat) (n0:Nat):∀ n,evV Es5 K Tryz.f38 0 (ch [tU,tI]) [1,1,1,1,1,0,1,0,0,1,1,0,0,1,1,1,1,1,0] [n0] zrF n = zg (fun k1=>zeD (evV Es5 K Tryz.f38 0 (ch [tU,tI]) [1,1,1,1,1,0,1,0] [] zrG n0) k1) n:=zr fun n1 (v1,v31,v32,v33,v52,v53,v54,o0)=>by kernel_rfl
def zaZ (L1:zeC→Option (Int × (Int × Unit))) (k0:yQ→Option (Int × (Int × Unit))):yQ→Option (Int × (Int × Unit)):=fun (v1,v31,v32,v33,o0) =>
  bif decide (v33 < v32) then inR v33 ((List.length v31):Int) (Option.bind (zj8 ((ix za v31 v33).2.2.2.2.1,v1,())) fun q2=>bif q2.2.1 != 0 then some (0,q2.2.1,()) else bif decide (List.length o0 + List.length (zk (List.replicate 1 (0:Int)) 0 q2.1) ≤ lim) then L1 (v1,v31,v32,v33,(ix za v31 v33).2.2.2.2.2.1,((List.length (ix za v31 v33).2.2.2.2.2.1):Int),0,o0 ++ zk (List.replicate 1 (0:Int)) 0 q2.1) else none) else Option.bind (zg1 (o0,())) fun q3=>some (q3.1,q3.2.1,())
abbrev zrH (K:Nat):yQ→Option (Int × (Int × Unit)):=zg (fun k0=>zaZ (zeE K k0) k0) K
theorem zCu (K:Nat):∀ n,evV Es5 K Tryz.f38 0 (ch [tU,tI]) [1,1,1,1,1,0,1,0] [] zrG n = zg (fun k0=>zaZ (zeE K k0) k0) n:=qC (B:=fun L1 k0=>zaZ L1 k0) (V1:=fun n0=>evV Es5 K Tryz.f38 0 (ch [tU,tI]) [1,1,1,1,1,0,1,0,0,1,1,0,0,1,1,1,1,1,0] [n0] zrF K) (W1:=fun k0=>(zeE K k0)) (fun n0=>zCt K n0 K) fun n0 (v1,v31,v32,v33,o0)=>by kernel_rfl
def zkf (L0:yQ→Option (Int × (Int × Unit))):(zb × (Int × Unit))→Option (Int × (Int × Unit)):=fun (x0,x1,()) =>
  Option.bind (qV (x1,())) fun q0=>bif q0.1 then Option.bind (zlE (x0.2.2.2.1,x1,())) fun q1=>bif q1.2.1 != 0 then some (0,q1.2.1,()) else L0 (x1,x0.2.1,((List.length x0.2.1):Int),0,[q1.1]) else some (0,1,())
def zkg:(zb × Int × Unit)→Option (Int × Int × Unit):=zkf (zrH K0)
abbrev zvD:Fun:=⟨38,(ch [zh,tI]),(ch [tU,tI]),0,zkg⟩
theorem zGR:Sq zvD:=ml5 (d:=false) (S:=fun K=>zkf (zrH K)) Tryz.func38 (by kernel_rfl) (fun K=>tr1 (T:=zkf) (zCu K K) fun (x0,x1,())=>by kernel_rfl) rfl
end
end Go.Proofs.YtgomalidoilgbaaGreatDoor
end
section
namespace Go.Proofs.YtgomalidoilgbaaGreatDoor
open Go.Ev
noncomputable section
abbrev zcR:Type:=Int × Int × zf × zb × zn
abbrev zpE:zcR→St:=fun (v2,v14,o0,o1,o2)=>St.mk [(2,.dat tI v2),(3,.bp 0 []),(4,.bp 1 []),(7,.bp 2 []),(14,.dat tI v14)] [.bx (.dat zo o0) false,.bx (.dat zh o1) false,.bx (.dat zl o2) false]
abbrev zcS:Type:=Int × Int × zf × zb × zn
abbrev zpF:zcS→St:=fun (v2,v12,o0,o1,o2)=>St.mk [(2,.dat tI v2),(3,.bp 0 []),(4,.bp 1 []),(7,.bp 2 []),(12,.dat tI v12)] [.bx (.dat zo o0) false,.bx (.dat zh o1) false,.bx (.dat zl o2) false]
abbrev zcT:Type:=Int × Int × zf × zb × zn
abbrev zpG:zcT→St:=fun (v2,v11,o0,o1,o2)=>St.mk [(2,.dat tI v2),(3,.bp 0 []),(4,.bp 1 []),(7,.bp 2 []),(11,.dat tI v11)] [.bx (.dat zo o0) false,.bx (.dat zh o1) false,.bx (.dat zl o2) false]
abbrev zcU:Type:=Int × Int × zf × zb × zn
abbrev zpH:zcU→St:=fun (v2,v10,o0,o1,o2)=>St.mk [(2,.dat tI v2),(3,.bp 0 []),(4,.bp 1 []),(7,.bp 2 []),(10,.dat tI v10)] [.bx (.dat zo o0) false,.bx (.dat zh o1) false,.bx (.dat zl o2) false]
abbrev zcV:Type:=Int × Int × zf × zb × zn
abbrev zAA:zcV→St:=fun (v2,v8,o0,o1,o2)=>St.mk [(2,.dat tI v2),(3,.bp 0 []),(4,.bp 1 []),(7,.bp 2 []),(8,.dat tI v8)] [.bx (.dat zo o0) false,.bx (.dat zh o1) false,.bx (.dat zl o2) false]
def zf9 (k4:zcR→Option (Bool × Unit)):zcR→Option (Bool × Unit):=fun (v2,v14,o0,o1,o2) =>
  bif decide (v14 < ((List.length o2.2.2.2.2.2.2.1):Int)) then inR v14 ((List.length o2.2.2.2.2.2.2.1):Int) (Option.bind (zao (o0,o1,ix zF3 o2.2.2.2.2.2.2.1 v14,v2,())) fun q12=>bif q12.1 then k4 (v2,wI (v14 + 1),o0,o1,o2) else some (false,())) else some (true,())
abbrev zcW (K:Nat):zcR→Option (Bool × Unit):=zg zf9 K
theorem zAB (K:Nat):∀ n,evV Es5 K Tryz.f88 0 (ch [.bool]) [1,1,1,1,1,1,1,0,1,0] [] zpE n = zg zf9 n:=zr fun n4 (v2,v14,o0,o1,o2)=>by kernel_rfl
def zcX (L4:zcR→Option (Bool × Unit)) (k3:zcS→Option (Bool × Unit)):zcS→Option (Bool × Unit):=fun (v2,v12,o0,o1,o2) =>
  bif decide (v12 < ((List.length o2.2.2.2.1):Int)) then inR v12 ((List.length o2.2.2.2.1):Int) (bif (ix zaC o2.2.2.2.1 v12).1 then Option.bind (zfM (o0,(ix zaC o2.2.2.2.1 v12).2.1,v2,())) fun q9=>bif q9.1 then Option.bind (jU (o0,(ix zaC o2.2.2.2.1 v12).2.2.1,())) fun q10=>bif q10.1 then Option.bind (jU (o0,(ix zaC o2.2.2.2.1 v12).2.2.2.1,())) fun q11=>bif q11.1 then k3 (v2,wI (v12 + 1),o0,o1,o2) else some (false,()) else some (false,()) else some (false,()) else k3 (v2,wI (v12 + 1),o0,o1,o2)) else L4 (v2,0,o0,o1,o2)
abbrev zcY (K:Nat):zcS→Option (Bool × Unit):=zg (fun k3=>zcX (zcW K) k3) K
theorem zAC (K:Nat):∀ n,evV Es5 K Tryz.f88 0 (ch [.bool]) [1,1,1,1,1,1,0,1,0] [] zpF n = zg (fun k3=>zcX (zcW K) k3) n:=qC (B:=fun L4 k3=>zcX L4 k3) (V1:=fun n3=>evV Es5 K Tryz.f88 0 (ch [.bool]) [1,1,1,1,1,1,1,0,1,0] [] zpE K) (W1:=fun k3=>(zcW K)) (fun n3=>zAB K K) fun n3 (v2,v12,o0,o1,o2)=>by kernel_rfl
def zcZ (L3:zcS→Option (Bool × Unit)) (k2:zcT→Option (Bool × Unit)):zcT→Option (Bool × Unit):=fun (v2,v11,o0,o1,o2) =>
  bif decide (v11 < ((List.length o2.2.2.2.2.1):Int)) then Option.bind (zjS (o0,o2,v11,())) fun q8=>bif q8.1 then k2 (v2,wI (v11 + 1),o0,o1,o2) else some (false,()) else L3 (v2,0,o0,o1,o2)
abbrev zc0 (K:Nat):zcT→Option (Bool × Unit):=zg (fun k2=>zcZ (zcY K) k2) K
theorem zAD (K:Nat):∀ n,evV Es5 K Tryz.f88 0 (ch [.bool]) [1,1,1,1,1,0,1,0] [] zpG n = zg (fun k2=>zcZ (zcY K) k2) n:=qC (B:=fun L3 k2=>zcZ L3 k2) (V1:=fun n2=>evV Es5 K Tryz.f88 0 (ch [.bool]) [1,1,1,1,1,1,0,1,0] [] zpF K) (W1:=fun k2=>(zcY K)) (fun n2=>zAC K K) fun n2 (v2,v11,o0,o1,o2)=>by kernel_rfl
def zc1 (L2:zcT→Option (Bool × Unit)) (k1:zcU→Option (Bool × Unit)):zcU→Option (Bool × Unit):=fun (v2,v10,o0,o1,o2) =>
  bif decide (v10 < ((List.length o2.2.2.1):Int)) then Option.bind (zkc (o0,o1,v2,v10,())) fun q7=>bif q7.1 then k1 (v2,wI (v10 + 1),o0,o1,o2) else some (false,()) else L2 (v2,0,o0,o1,o2)
abbrev zc2 (K:Nat):zcU→Option (Bool × Unit):=zg (fun k1=>zc1 (zc0 K) k1) K
theorem zAE (K:Nat):∀ n,evV Es5 K Tryz.f88 0 (ch [.bool]) [1,1,1,1,0,1,0] [] zpH n = zg (fun k1=>zc1 (zc0 K) k1) n:=qC (B:=fun L2 k1=>zc1 L2 k1) (V1:=fun n1=>evV Es5 K Tryz.f88 0 (ch [.bool]) [1,1,1,1,1,0,1,0] [] zpG K) (W1:=fun k1=>(zc0 K)) (fun n1=>zAD K K) fun n1 (v2,v10,o0,o1,o2)=>by kernel_rfl
def zc3 (L1:zcU→Option (Bool × Unit)) (k0:zcV→Option (Bool × Unit)):zcV→Option (Bool × Unit):=fun (v2,v8,o0,o1,o2) =>
  bif decide (v8 < ((List.length o2.2.1):Int)) then inR v8 ((List.length o2.2.1):Int) (bif (ix qj o2.2.1 v8).1 then Option.bind (zao (o0,o1,(ix qj o2.2.1 v8).2.1,v2,())) fun q5=>bif q5.1 then Option.bind (zao (o0,o1,(ix qj o2.2.1 v8).2.2.1,v2,())) fun q6=>bif q6.1 then k0 (v2,wI (v8 + 1),o0,o1,o2) else some (false,()) else some (false,()) else k0 (v2,wI (v8 + 1),o0,o1,o2)) else L1 (v2,0,o0,o1,o2)
abbrev zkh (K:Nat):zcV→Option (Bool × Unit):=zg (fun k0=>zc3 (zc2 K) k0) K
theorem zAF (K:Nat):∀ n,evV Es5 K Tryz.f88 0 (ch [.bool]) [1,1,1,0,1,0] [] zAA n = zg (fun k0=>zc3 (zc2 K) k0) n:=qC (B:=fun L1 k0=>zc3 L1 k0) (V1:=fun n0=>evV Es5 K Tryz.f88 0 (ch [.bool]) [1,1,1,1,0,1,0] [] zpH K) (W1:=fun k0=>(zc2 K)) (fun n0=>zAE K K) fun n0 (v2,v8,o0,o1,o2)=>by kernel_rfl
def ziu (L0:zcV→Option (Bool × Unit)):(zf × (zb × (Int × Unit)))→Option (Bool × Unit):=fun (x0,x1,x2,()) =>
  inR x2 ((List.length x1.2.1):Int) (Option.bind (zmc ((ix za x1.2.1 x2).1,())) fun q0=>bif q0.1 then Option.bind (zme ((ix za x1.2.1 x2).2.1,())) fun q1=>bif q1.1 then Option.bind (zmg ((ix za x1.2.1 x2).2.2.1,())) fun q2=>bif q2.1 then Option.bind (zmi ((ix za x1.2.1 x2).2.2.2.1,())) fun q3=>bif q3.1 then Option.bind (zmk ((ix za x1.2.1 x2).2.2.2.2.1,())) fun q4=>bif q4.1 then L0 (x2,0,x0,x1,ix za x1.2.1 x2) else some (false,()) else some (false,()) else some (false,()) else some (false,()) else some (false,()))
def zfA:(zf × zb × Int × Unit)→Option (Bool × Unit):=ziu (zkh K0)
abbrev ztw:Fun:=⟨88,(ch [zo,zh,tI]),(ch [.bool]),0,zfA⟩
theorem zEh:Sq ztw:=ml5 (d:=false) (S:=fun K=>ziu (zkh K)) Tryz.func88 (by kernel_rfl) (fun K=>tr1 (T:=ziu) (zAF K K) fun (x0,x1,x2,())=>by kernel_rfl) rfl
abbrev L6:List Fun:=zon :: zvB :: ztv :: zvC :: zvD :: ztw :: L5
theorem h6:Sds Tryz.prog E0 L6:=⟨zyC,zGP,zEg,zGQ,zGR,zEh,h5⟩
theorem ms6 {d:Bool} {F:Fun} {f:Go.Func} {K:Nat} (hf:Tryz.prog.funcs[F.id]? = some f) (ho:jA f = true) (h:evF (En E0 d L6) K f F.md F.a F.r = F.spec):Sd Tryz.prog E0 F:=mkS h6 hf ho h
theorem ml6 {d:Bool} {F:Fun} {f:Go.Func} {S:Nat→F.a.I→Option F.r.I} (hf:Tryz.prog.funcs[F.id]? = some f) (ho:jA f = true) (h:∀ K,evF (En E0 d L6) K f F.md F.a F.r = S K) (e:S K0 = F.spec):Sd Tryz.prog E0 F:=mkS h6 hf ho ((h K0).trans e)
abbrev Es6:Env:=En E0 false L6
abbrev zc4:Type:=Int × Int × zf × List (Option ((zf × Unit)→Option (Bool × Unit)))
abbrev zAG:zc4→St:=fun (v6,v7,o0,o1)=>St.mk [(1,.bp 0 []),(5,.ow 1),(6,.dat tI v6),(7,.dat tI v7)] [.bx (.dat zo o0) false,.row (.fn (.pair zo .unit) (.pair .bool .unit)) o1 false]
def zga (k0:zc4→Option (Bool × Unit)):zc4→Option (Bool × Unit):=fun (v6,v7,o0,o1) =>
  bif decide (v7 < v6) then inR v7 ((List.length o1):Int) (Option.bind (List.getD o1 (Int.toNat v7) (ze (.fn (.pair zo .unit) (.pair .bool .unit)))) fun q0=>Option.bind (q0 (o0,())) fun q1=>bif q1.1 then k0 (v6,wI (v7 + 1),o0,o1) else some (false,())) else some (true,())
abbrev zpI (K:Nat):zc4→Option (Bool × Unit):=zg zga K
theorem zAH (K:Nat):∀ n,evV Es6 K Tryz.f102 0 (ch [.bool]) [1,0,1,0] [] zAG n = zg zga n:=zr fun n0 (v6,v7,o0,o1)=>by kernel_rfl
def zmu (L0:zc4→Option (Bool × Unit)):(zf × Unit)→Option (Bool × Unit):=fun (x0,()) =>
  L0 (((List.length (zk (zk (zk (zk (zk (zk (List.replicate 6 (ze (.fn (.pair zo .unit) (.pair .bool .unit)))) 0 (some vF)) 1 (some yg)) 2 (some jS)) 3 (some vD)) 4 (some vE)) 5 (some y4))):Int),0,x0,[some vF,some yg,some jS,some vD,some vE,some y4])
def zap:(zf × Unit)→Option (Bool × Unit):=zmu (zpI K0)
abbrev ztx:Fun:=⟨102,(ch [zo]),(ch [.bool]),0,zap⟩
theorem zEi:Sq ztx:=ml6 (d:=false) (S:=fun K=>zmu (zpI K)) Tryz.func102 (by kernel_rfl) (fun K=>tr1 (T:=zmu) (zAH K K) fun (x0,())=>by kernel_rfl) rfl
def zgb:(zn × Unit)→Option (Bool × Unit):=fun (x0,()) =>
  Option.bind (zkd (x0.1,())) fun q0=>bif q0.1 then Option.bind (zob (x0.2.1,())) fun q1=>bif q1.1 then Option.bind (zit (x0.2.2.1,())) fun q2=>bif q2.1 then Option.bind (zke (x0.2.2.2.1,())) fun q3=>bif q3.1 then Option.bind (zis (x0.2.2.2.2.1,())) fun q4=>bif q4.1 then some (true,()) else some (false,()) else some (false,()) else some (false,()) else some (false,()) else some (false,())
abbrev zpJ:Fun:=⟨233,(ch [zl]),(ch [.bool]),0,zgb⟩
theorem zAI:Sq zpJ:=ms6 (d:=false) (K:=0) Tryz.func233 (by kernel_rfl) (funext fun (x0,())=>by kernel_rfl)
abbrev zc5:Type:=Int × Int × (List zn) × Int × Int × qU
abbrev zpK:zc5→St:=fun (v3,v10,v15,v16,v17,o0)=>St.mk [(1,.bp 0 []),(3,.dat tI v3),(10,.dat tI v10),(15,.dat (.sl zl) v15),(16,.dat tI v16),(17,.dat tI v17)] [.bx (.dat qp o0) false]
abbrev vX:Type:=Int × qU
abbrev zpL:vX→St:=fun (v10,o0)=>St.mk [(1,.bp 0 []),(10,.dat tI v10)] [.bx (.dat qp o0) false]
def zc6 (k0:vX→Option (Bool × Unit)) (k1:zc5→Option (Bool × Unit)):zc5→Option (Bool × Unit):=fun (v3,v10,v15,v16,v17,o0) =>
  bif decide (v17 < v16) then inR v17 ((List.length v15):Int) (inR v3 (↑4:Int) (inR v17 ((List.length o0.1.2.2.2.2.1):Int) (bif decide (List.getD (ix za v15 v17).2.2.2.2.2.2.2.1 (Int.toNat v3) (0:Int) > (ix qg o0.1.2.2.2.2.1 v17).2.2.2.2.2.1) then some (false,()) else k1 (v3,v10,v15,v16,wI (v17 + 1),o0)))) else Option.bind (zkg (o0.2.1,v3,())) fun q0=>Option.bind (zj9 (o0.2.1,v3,())) fun q1=>bif q0.2.1 != 0 then some (false,()) else bif q1.2.1 != 0 then some (false,()) else bif q0.1 != q1.1 then some (false,()) else k0 (wI (v10 + 1),o0)
abbrev zc7 (K:Nat) (k0:vX→Option (Bool × Unit)):zc5→Option (Bool × Unit):=zg (fun k1=>zc6 k0 k1) K
theorem zAJ (K:Nat) (n0:Nat):∀ n,evV Es6 K Tryz.f127 0 (ch [.bool]) [1,0,1,0,0,1,1,0,0,1,0,1,0] [n0] zpK n = zg (fun k1=>zc6 (evV Es6 K Tryz.f127 0 (ch [.bool]) [1,0,1,0] [] zpL n0) k1) n:=zr fun n1 (v3,v10,v15,v16,v17,o0)=>by kernel_rfl
def zc8 (L1:zc5→Option (Bool × Unit)) (k0:vX→Option (Bool × Unit)):vX→Option (Bool × Unit):=fun (v10,o0) =>
  bif decide (v10 < 4) then L1 (v10,v10,o0.2.1.2.1,((List.length o0.2.1.2.1):Int),0,o0) else some (true,())
abbrev zpM (K:Nat):vX→Option (Bool × Unit):=zg (fun k0=>zc8 (zc7 K k0) k0) K
theorem zAK (K:Nat):∀ n,evV Es6 K Tryz.f127 0 (ch [.bool]) [1,0,1,0] [] zpL n = zg (fun k0=>zc8 (zc7 K k0) k0) n:=qC (B:=fun L1 k0=>zc8 L1 k0) (V1:=fun n0=>evV Es6 K Tryz.f127 0 (ch [.bool]) [1,0,1,0,0,1,1,0,0,1,0,1,0] [n0] zpK K) (W1:=fun k0=>(zc7 K k0)) (fun n0=>zAJ K n0 K) fun n0 (v10,o0)=>by kernel_rfl
def zmv (L0:vX→Option (Bool × Unit)):(qU × Unit)→Option (Bool × Unit):=fun (x0,()) =>
  L0 (0,x0)
def zfB:(qU × Unit)→Option (Bool × Unit):=zmv (zpM K0)
abbrev zty:Fun:=⟨127,(ch [qp]),(ch [.bool]),0,zfB⟩
theorem zEj:Sq zty:=ml6 (d:=false) (S:=fun K=>zmv (zpM K)) Tryz.func127 (by kernel_rfl) (fun K=>tr1 (T:=zmv) (zAK K K) fun (x0,())=>by kernel_rfl) rfl
abbrev zc9:Type:=Int × Int × zf × zb
abbrev zpN:zc9→St:=fun (v5,v6,o0,o1)=>St.mk [(2,.bp 0 []),(3,.bp 1 []),(5,.dat tI v5),(6,.dat tI v6)] [.bx (.dat zo o0) false,.bx (.dat zh o1) false]
abbrev zda:Type:=Int × zb
abbrev zpO:zda→St:=fun (v7,o0)=>St.mk [(3,.bp 0 []),(7,.dat tI v7)] [.bx (.dat zh o0) false]
abbrev vY:Type:=Int × zf × zb
abbrev zpP:vY→St:=fun (v5,o0,o1)=>St.mk [(2,.bp 0 []),(3,.bp 1 []),(5,.dat tI v5)] [.bx (.dat zo o0) false,.bx (.dat zh o1) false]
def zgc (k0:vY→Option (Bool × Unit)) (k1:zc9→Option (Bool × Unit)):zc9→Option (Bool × Unit):=fun (v5,v6,o0,o1) =>
  bif decide (v6 < 4) then inR v5 ((List.length o1.2.1):Int) (inR v6 (↑4:Int) (inR v5 ((List.length o0.2.2.2.2.1):Int) (bif decide (List.getD (ix za o1.2.1 v5).2.2.2.2.2.2.2.1 (Int.toNat v6) (0:Int) > (ix qg o0.2.2.2.2.1 v5).2.2.2.2.2.1) then some (false,()) else k1 (v5,wI (v6 + 1),o0,o1)))) else k0 (wI (v5 + 1),o0,o1)
abbrev zgd (K:Nat) (k0:vY→Option (Bool × Unit)):zc9→Option (Bool × Unit):=zg (fun k1=>zgc k0 k1) K
theorem zAL (K:Nat) (n0:Nat):∀ n,evV Es6 K Tryz.f22 0 (ch [.bool]) [1,1,0,1,0,0,1,0,0,1,1,0] [n0] zpN n = zg (fun k1=>zgc (evV Es6 K Tryz.f22 0 (ch [.bool]) [1,1,0,1,0] [] zpP n0) k1) n:=zr fun n1 (v5,v6,o0,o1)=>by kernel_rfl
def zki (k2:zda→Option (Bool × Unit)):zda→Option (Bool × Unit):=fun (v7,o0) =>
  bif decide (v7 < 4) then Option.bind (zj4 (o0,v7,())) fun q4=>Option.bind (zjY (o0,v7,())) fun q5=>bif q4.2.1 != 0 then some (false,()) else bif q5.2.1 != 0 then some (false,()) else bif q4.1 != q5.1 then some (false,()) else k2 (wI (v7 + 1),o0) else some (true,())
abbrev zdb (K:Nat):zda→Option (Bool × Unit):=zg zki K
theorem zAM (K:Nat):∀ n,evV Es6 K Tryz.f22 0 (ch [.bool]) [1,1,1,0,1,0] [] zpO n = zg zki n:=zr fun n2 (v7,o0)=>by kernel_rfl
def zdc (L1:zc9→Option (Bool × Unit)) (L2:zda→Option (Bool × Unit)) (k0:vY→Option (Bool × Unit)):vY→Option (Bool × Unit):=fun (v5,o0,o1) =>
  bif decide (v5 < ((List.length o1.2.1):Int)) then Option.bind (zfA (o0,o1,v5,())) fun q3=>bif q3.1 then L1 (v5,0,o0,o1) else some (false,()) else L2 (0,o1)
abbrev zkj (K:Nat):vY→Option (Bool × Unit):=zg (fun k0=>zdc (zgd K k0) (zdb K) k0) K
theorem zAN (K:Nat):∀ n,evV Es6 K Tryz.f22 0 (ch [.bool]) [1,1,0,1,0] [] zpP n = zg (fun k0=>zdc (zgd K k0) (zdb K) k0) n:=zLL (B:=fun L1 L2 k0=>zdc L1 L2 k0) (V1:=fun n0=>evV Es6 K Tryz.f22 0 (ch [.bool]) [1,1,0,1,0,0,1,0,0,1,1,0] [n0] zpN K) (V2:=fun n0=>evV Es6 K Tryz.f22 0 (ch [.bool]) [1,1,1,0,1,0] [] zpO K) (W1:=fun k0=>(zgd K k0)) (W2:=fun k0=>(zdb K)) (fun n0=>zAL K n0 K) (fun n0=>zAM K K) fun n0 (v5,o0,o1)=>by kernel_rfl
def ziv (L0:vY→Option (Bool × Unit)):(zf × (zb × Unit))→Option (Bool × Unit):=fun (x0,x1,()) =>
  Option.bind (zfv (x0,())) fun q0=>bif q0.1 then Option.bind (zii (x0,x1,())) fun q1=>bif q1.1 then Option.bind (zhd (x0,x1,())) fun q2=>bif q2.1 then L0 (0,x0,x1) else some (false,()) else some (false,()) else some (false,())
def ziw:(zf × zb × Unit)→Option (Bool × Unit):=ziv (zkj K0)
abbrev ztz:Fun:=⟨22,(ch [zo,zh]),(ch [.bool]),0,ziw⟩
theorem zEk:Sq ztz:=ml6 (d:=false) (S:=fun K=>ziv (zkj K)) Tryz.func22 (by kernel_rfl) (fun K=>tr1 (T:=ziv) (zAN K K) fun (x0,x1,())=>by kernel_rfl) rfl
abbrev L7:List Fun:=ztx :: zpJ :: zty :: ztz :: L6
theorem h7:Sds Tryz.prog E0 L7:=⟨zEi,zAI,zEj,zEk,h6⟩
theorem ms7 {d:Bool} {F:Fun} {f:Go.Func} {K:Nat} (hf:Tryz.prog.funcs[F.id]? = some f) (ho:jA f = true) (h:evF (En E0 d L7) K f F.md F.a F.r = F.spec):Sd Tryz.prog E0 F:=mkS h7 hf ho h
theorem ml7 {d:Bool} {F:Fun} {f:Go.Func} {S:Nat→F.a.I→Option F.r.I} (hf:Tryz.prog.funcs[F.id]? = some f) (ho:jA f = true) (h:∀ K,evF (En E0 d L7) K f F.md F.a F.r = S K) (e:S K0 = F.spec):Sd Tryz.prog E0 F:=mkS h7 hf ho ((h K0).trans e)
abbrev Es7:Env:=En E0 false L7
abbrev Ed7:Env:=En E0 true L7
abbrev zdd:Type:=Int × (List zn) × Int × Int × qU
abbrev zAO:zdd→St:=fun (v3,v65,v66,v67,o0)=>St.mk [(1,.bp 0 []),(3,.dat tI v3),(65,.dat (.sl zl) v65),(66,.dat tI v66),(67,.dat tI v67)] [.bx (.dat qp o0) false]
def zge (k0:zdd→Option (Bool × Unit)):zdd→Option (Bool × Unit):=fun (v3,v65,v66,v67,o0) =>
  bif decide (v67 < v66) then inR v67 ((List.length v65):Int) (inR v67 ((List.length o0.1.2.2.2.2.1):Int) (bif ((List.length (ix za v65 v67).1):Int) != (ix qg o0.1.2.2.2.2.1 v67).1 then some (false,()) else bif ((List.length (ix za v65 v67).2.1):Int) != (ix qg o0.1.2.2.2.2.1 v67).2.1 then some (false,()) else bif ((List.length (ix za v65 v67).2.2.1):Int) != (ix qg o0.1.2.2.2.2.1 v67).2.2.1 then some (false,()) else bif ((List.length (ix za v65 v67).2.2.2.1):Int) != (ix qg o0.1.2.2.2.2.1 v67).2.2.2.1 then some (false,()) else bif ((List.length (ix za v65 v67).2.2.2.2.1):Int) != (ix qg o0.1.2.2.2.2.1 v67).2.2.2.2.1 then some (false,()) else bif ((List.length (ix za v65 v67).2.2.2.2.2.1):Int) != v3 then some (false,()) else bif ((List.length (ix za v65 v67).2.2.2.2.2.2.1):Int) != v3 then some (false,()) else k0 (v3,v65,v66,wI (v67 + 1),o0))) else some (true,())
abbrev zkk (K:Nat):zdd→Option (Bool × Unit):=zg zge K
theorem zAP (K:Nat):∀ n,evV Es7 K Tryz.f121 0 (ch [.bool]) [1,1,1,0,1,0] [] zAO n = zg zge n:=zr fun n0 (v3,v65,v66,v67,o0)=>by kernel_rfl
def zix (L0:zdd→Option (Bool × Unit)):(qU × Unit)→Option (Bool × Unit):=fun (x0,()) =>
  Option.bind (zap (x0.1,())) fun q0=>bif q0.1 then bif ((List.length x0.2.1.2.1):Int) != ((List.length x0.1.1):Int) then some (false,()) else bif ((List.length x0.2.1.2.2.2.1):Int) != x0.1.2.2.2.2.2.1 then some (false,()) else bif decide (((List.length x0.2.1.2.2.2.2.1):Int) > x0.1.2.2.2.2.2.2.1) then some (false,()) else bif ((List.length x0.2.1.2.2.2.2.2.1):Int) != ((List.length x0.1.2.1):Int) then some (false,()) else bif decide (x0.2.1.1 > 4611686018427387904) then some (false,()) else L0 (((List.length x0.1.2.2.1):Int),x0.2.1.2.1,((List.length x0.2.1.2.1):Int),0,x0) else some (false,())
def zbR:(qU × Unit)→Option (Bool × Unit):=zix (zkk K0)
abbrev ztA:Fun:=⟨121,(ch [qp]),(ch [.bool]),0,zbR⟩
theorem zEl:Sq ztA:=ml7 (d:=false) (S:=fun K=>zix (zkk K)) Tryz.func121 (by kernel_rfl) (fun K=>tr1 (T:=zix) (zAP K K) fun (x0,())=>by kernel_rfl) rfl
def zbS:(qU × Unit)→Option (Bool × Unit):=fun (x0,()) =>
  Option.bind (zhB (x0.2.1.2.1,some zgb,())) fun q0=>bif q0.1 then some (true,()) else some (false,())
abbrev ztB:Fun:=⟨122,(ch [qp]),(ch [.bool]),0,zbS⟩
theorem zEm:Sq ztB:=ms7 (d:=false) (K:=0) Tryz.func122 (by kernel_rfl) (funext fun (x0,())=>by kernel_rfl)
abbrev zeF:Type:=(Option ((Int × Unit)→Option (Bool × Unit))) × (List (List Int)) × Int × Int × zf
abbrev zCv:zeF→St:=fun (v5,v19,v20,v21,o0)=>St.mk [(2,.bp 0 []),(5,.dat (.fn (.pair tI .unit) (.pair .bool .unit)) v5),(19,.dat (.sl (.sl tI)) v19),(20,.dat tI v20),(21,.dat tI v21)] [.bx (.dat zo o0) false]
def zhe (k0:zeF→Option (Bool × Unit)):zeF→Option (Bool × Unit):=fun (v5,v19,v20,v21,o0) =>
  bif decide (v21 < v20) then inR v21 ((List.length v19):Int) (bif ((List.length (List.getD v19 (Int.toNat v21) ([]:List Int))):Int) != ((List.length o0.2.2.1):Int) then some (false,()) else Option.bind (qK (List.getD v19 (Int.toNat v21) ([]:List Int),v5,())) fun q1=>bif q1.1 then some (false,()) else inR v21 ((List.length o0.2.2.2.1):Int) (inR (ix qG o0.2.2.2.1 v21).2.1 ((List.length (List.getD v19 (Int.toNat v21) ([]:List Int))):Int) (bif List.getD (List.getD v19 (Int.toNat v21) ([]:List Int)) (Int.toNat (ix qG o0.2.2.2.1 v21).2.1) (0:Int) != 2 then some (false,()) else k0 (v5,v19,v20,wI (v21 + 1),o0)))) else some (true,())
abbrev zlb (K:Nat):zeF→Option (Bool × Unit):=zg zhe K
theorem zCw (K:Nat):∀ n,evV Es7 K Tryz.f239 0 (ch [.bool]) [1,1,1,0,1,0] [] zCv n = zg zhe n:=zr fun n0 (v5,v19,v20,v21,o0)=>by kernel_rfl
def zkl (L0:zeF→Option (Bool × Unit)):(zf × ((List (List Int)) × Unit))→Option (Bool × Unit):=fun (x0,x1,()) =>
  Option.bind (zap (x0,())) fun q0=>bif q0.1 then bif ((List.length x1):Int) != ((List.length x0.2.2.2.1):Int) then some (false,()) else L0 (some zaS,x1,((List.length x1):Int),0,x0) else some (false,())
def zkm:(zf × (List (List Int)) × Unit)→Option (Bool × Unit):=zkl (zlb K0)
abbrev zvE:Fun:=⟨239,(ch [zo,(.sl (.sl tI))]),(ch [.bool]),0,zkm⟩
theorem zGS:Sq zvE:=ml7 (d:=false) (S:=fun K=>zkl (zlb K)) Tryz.func239 (by kernel_rfl) (fun K=>tr1 (T:=zkl) (zCw K K) fun (x0,x1,())=>by kernel_rfl) rfl
def zde:(zf × (Int × Unit))→Option (Bool × Unit):=fun (x0,x1,()) =>
  Option.bind (zap (x0,())) fun q0=>bif q0.1 then Option.bind (qt (x1,0,wI (((List.length x0.1):Int) - 1),())) fun q1=>bif q1.1 then some (true,()) else some (false,()) else some (false,())
abbrev zpQ:Fun:=⟨157,(ch [zo,tI]),(ch [.bool]),0,zde⟩
theorem zAQ:Sq zpQ:=ms7 (d:=false) (K:=0) Tryz.func157 (by kernel_rfl) (funext fun (x0,x1,())=>by kernel_rfl)
def zaP:(zf × (zb × (pMe × Unit)))→Option (Bool × Unit):=fun (x0,x1,x2,()) =>
  Option.bind (ziw (x0,x1,())) fun q0=>bif q0.1 then Option.bind (zjZ (x0,x2,())) fun q1=>bif q1.1 then some (true,()) else some (false,()) else some (false,())
abbrev zxj:Fun:=⟨19,(ch [zo,zh,tMe]),(ch [.bool]),0,zaP⟩
theorem zIF:Sq zxj:=ms7 (d:=false) (K:=0) Tryz.func19 (by kernel_rfl) (funext fun (x0,x1,x2,())=>by kernel_rfl)
abbrev zgA:Type:=(List z8) × Int × Int × zf × List (List Int) × Nat
abbrev zGT:zgA→St:=fun (v11,v12,v13,o0,o1,c1)=>St.mk [(1,.bp 0 []),(3,.ow 1),(11,.dat (.sl yo) v11),(12,.dat tI v12),(13,.dat tI v13)] [.bx (.dat zo o0) false,.drow (.sl tI) o1 c1]
def zvF (k0:zgA→Option ((List (List Int)) × Unit)):zgA→Option ((List (List Int)) × Unit):=fun (v11,v12,v13,o0,o1,c1) =>
  bif decide (v13 < v12) then inR v13 ((List.length v11):Int) (bif decide (((List.length o0.2.2.1):Int) ≤ ((List.length o0.2.2.1):Int)) then bif decide (((List.length o0.2.2.1):Int) ≤ (↑lim:Int)) then inR (ix qG v11 v13).2.1 ((List.length (List.replicate (Int.toNat ((List.length o0.2.2.1):Int)) (0:Int))):Int) (bif decide (List.length o1 + List.length [List.set (List.replicate (Int.toNat ((List.length o0.2.2.1):Int)) (0:Int)) (Int.toNat (ix qG v11 v13).2.1) 2] ≤ lim) then bif decide (c1 = List.length o1) then k0 (v11,v12,wI (v13 + 1),o0,o1 ++ [List.set (List.replicate (Int.toNat ((List.length o0.2.2.1):Int)) (0:Int)) (Int.toNat (ix qG v11 v13).2.1) 2],c1 + (0 + 1)) else none else none) else none else none) else bif decide (c1 = List.length o1) then some (o1,()) else none
abbrev zvG (K:Nat):zgA→Option ((List (List Int)) × Unit):=zg zvF K
theorem zGU (K:Nat):∀ n,evV Ed7 K Tryz.f145 4 (ch [(.sl (.sl tI))]) [1,1,1,0,1,0] [] zGT n = zg zvF n:=zr fun n0 (v11,v12,v13,o0,o1,c1)=>by kernel_rfl
def zsx (L0:zgA→Option ((List (List Int)) × Unit)):(zf × Unit)→Option ((List (List Int)) × Unit):=fun (x0,()) =>
  Option.bind (zap (x0,())) fun q0=>bif q0.1 then L0 (x0.2.2.2.1,((List.length x0.2.2.2.1):Int),0,x0,[],0) else some ([],())
def zAR:(zf × Unit)→Option ((List (List Int)) × Unit):=zsx (zvG K0)
abbrev zAS:Fun:=⟨145,(ch [zo]),(ch [(.sl (.sl tI))]),4,zAR⟩
theorem zKu:Sq zAS:=ml7 (d:=true) (S:=fun K=>zsx (zvG K)) Tryz.func145 (by kernel_rfl) (fun K=>tr1 (T:=zsx) (zGU K K) fun (x0,())=>by kernel_rfl) rfl
abbrev L8:List Fun:=ztA :: ztB :: zvE :: zpQ :: zxj :: zAS :: L7
theorem h8:Sds Tryz.prog E0 L8:=⟨zEl,zEm,zGS,zAQ,zIF,zKu,h7⟩
theorem ms8 {d:Bool} {F:Fun} {f:Go.Func} {K:Nat} (hf:Tryz.prog.funcs[F.id]? = some f) (ho:jA f = true) (h:evF (En E0 d L8) K f F.md F.a F.r = F.spec):Sd Tryz.prog E0 F:=mkS h8 hf ho h
theorem ml8 {d:Bool} {F:Fun} {f:Go.Func} {S:Nat→F.a.I→Option F.r.I} (hf:Tryz.prog.funcs[F.id]? = some f) (ho:jA f = true) (h:∀ K,evF (En E0 d L8) K f F.md F.a F.r = S K) (e:S K0 = F.spec):Sd Tryz.prog E0 F:=mkS h8 hf ho ((h K0).trans e)
theorem mk8 {d:Bool} {js:List Nat} {F:Fun} {f:Go.Func} {S:Nat→F.a.I→Option F.r.I} (hf:Tryz.prog.funcs[F.id]? = some f) (ho:jA f = true) (h:∀ K,evF (Ej E0 d js L8) K f F.md F.a F.r = S K) (e:S K0 = F.spec):Sd Tryz.prog E0 F:=zOm h8 hf ho ((h K0).trans e)
abbrev Ed8:Env:=En E0 true L8
def za0:(qU × Unit)→Option (Bool × Unit):=fun (x0,()) =>
  Option.bind (zkm (x0.1,x0.2.1.2.2.1,())) fun q0=>bif q0.1 then Option.bind (zok (x0.2.1.2.2.2.1,())) fun q1=>bif q1.1 then Option.bind (zms (x0.2.1.2.2.2.2.1,())) fun q2=>bif q2.1 then Option.bind (zfl (x0.2.1,ze zL,())) fun q3=>bif q3.1 then Option.bind (zhC (x0.2.1.2.2.2.1,some fun z=>zfa (z.1,some x0,()),())) fun q4=>bif q4.1 then Option.bind (zdO (x0.2.1.2.2.2.2.1,some fun z=>zba (z.1,some x0,()),())) fun q5=>bif q5.1 then Option.bind (zad (x0.2.1.2.2.2.2.2.1,some fun z=>vo (z.1,some x0,()),())) fun q6=>bif q6.1 then some (true,()) else some (false,()) else Option.bind (zad (x0.2.1.2.2.2.2.2.1,some fun z=>vo (z.1,some x0,()),())) fun q7=>bif q7.1 then some (false,()) else some (false,()) else Option.bind (zdO (x0.2.1.2.2.2.2.1,some fun z=>zba (z.1,some x0,()),())) fun q8=>bif q8.1 then Option.bind (zad (x0.2.1.2.2.2.2.2.1,some fun z=>vo (z.1,some x0,()),())) fun q9=>bif q9.1 then some (false,()) else some (false,()) else Option.bind (zad (x0.2.1.2.2.2.2.2.1,some fun z=>vo (z.1,some x0,()),())) fun q10=>bif q10.1 then some (false,()) else some (false,()) else some (false,()) else some (false,()) else some (false,()) else some (false,())
abbrev zrI:Fun:=⟨123,(ch [qp]),(ch [.bool]),0,za0⟩
theorem zCx:Sq zrI:=ms8 (d:=false) (K:=0) Tryz.func123 (by kernel_rfl) (funext fun (x0,())=>by kernel_rfl)
def zlF:(zf × (Int × (Int × Unit)))→Option (Bool × Unit):=fun (x0,x1,x2,()) =>
  Option.bind (zde (x0,x1,())) fun q0=>bif q0.1 then Option.bind (zde (x0,x2,())) fun q1=>bif q1.1 then inR x1 ((List.length x0.1):Int) (inR x2 ((List.length x0.1):Int) (Option.bind (zhQ (ix jg x0.1 x1,ix jg x0.1 x2,())) fun q2=>bif q2.1 then some (true,()) else some (false,()))) else some (false,()) else some (false,())
abbrev zxk:Fun:=⟨80,(ch [zo,tI,tI]),(ch [.bool]),0,zlF⟩
theorem zIG:Sq zxk:=ms8 (d:=false) (K:=0) Tryz.func80 (by kernel_rfl) (funext fun (x0,x1,x2,())=>by kernel_rfl)
abbrev ziy:Type:=Int × Int × Int × Int × Int × Bool × zb × pMe × zb × zn
abbrev zEn:ziy→St:=fun (v3,v4,v5,v6,v7,v150,o0,o1,o2,o3)=>St.mk [(3,.dat tI v3),(4,.dat tI v4),(5,.dat tI v5),(6,.dat tI v6),(7,.dat tU v7),(9,.bp 0 []),(10,.bp 1 []),(16,.bp 2 []),(18,.bp 3 []),(150,.dat .bool v150)] [.bx (.dat zh o0) false,.bx (.dat tMe o1) false,.bx (.dat zh o2) false,.bx (.dat zl o3) false]
abbrev ziz:Type:=Int × Int × Int × Int × Int × Bool × zf × zb × pMe × zb
abbrev zEo:ziz→St:=fun (v3,v4,v5,v6,v7,v77,o0,o1,o2,o3)=>St.mk [(3,.dat tI v3),(4,.dat tI v4),(5,.dat tI v5),(6,.dat tI v6),(7,.dat tU v7),(8,.bp 0 []),(9,.bp 1 []),(10,.bp 2 []),(16,.bp 3 []),(77,.dat .bool v77)] [.bx (.dat zo o0) false,.bx (.dat zh o1) false,.bx (.dat tMe o2) false,.bx (.dat zh o3) false]
abbrev ziA:Type:=Int × Int × Int × Int × Int × Bool × zf × zb × pMe × zb
abbrev zEp:ziA→St:=fun (v3,v4,v5,v6,v7,v38,o0,o1,o2,o3)=>St.mk [(3,.dat tI v3),(4,.dat tI v4),(5,.dat tI v5),(6,.dat tI v6),(7,.dat tU v7),(8,.bp 0 []),(9,.bp 1 []),(10,.bp 2 []),(16,.bp 3 []),(38,.dat .bool v38)] [.bx (.dat zo o0) false,.bx (.dat zh o1) false,.bx (.dat tMe o2) false,.bx (.dat zh o3) false]
def yh:ziy→Option (zb × (Int × Unit)):=fun (v3,v4,v5,v6,v7,v150,o0,o1,o2,o3) =>
  bif v150 then some ((0,[],[],[],[],[],()),5,()) else inR o1.2.2.1 ((List.length o3.2.2.2.2.2.1):Int) (inR v6 (↑4:Int) (bif decide (List.getD (List.getD o3.2.2.2.2.2.1 (Int.toNat o1.2.2.1) (ze (.arr 4 tU))) (Int.toNat v6) (0:Int) < v7) then some ((0,[],[],[],[],[],()),6,()) else Option.bind (zj0 (o0,o1.2.1,o1.2.2.1,v6,v7,())) fun q4=>bif v3 == 3 then Option.bind (zdy (q4.1,o1.2.1,v5,v6,v7,())) fun q5=>some (q5.1,0,()) else bif v3 == 4 then Option.bind (zdy (q4.1,v4,v5,v6,v7,())) fun q6=>some (q6.1,0,()) else inR o1.2.1 ((List.length q4.1.2.1):Int) (inR v6 (↑4:Int) (inR v6 (↑4:Int) (Option.bind (za9 (q4.1,o1.2.1,(u8 (ix za q4.1.2.1 o1.2.1) (List.set (ix za q4.1.2.1 o1.2.1).2.2.2.2.2.2.2.2.1 (Int.toNat v6) (wU (List.getD (ix za q4.1.2.1 o1.2.1).2.2.2.2.2.2.2.2.1 (Int.toNat v6) (0:Int) + v7)))),())) fun q7=>some (q7.1,0,()))))))
abbrev ztC (K:Nat):ziy→Option (zb × (Int × Unit)):=gt yh K
theorem zEq (K:Nat):∀ n,evW (Ej E0 false [1,3,14] L8) K Tryz.f17 0 (ch [zh,tI]) [1,1,1,1,1,0,0] [] zEn n = gt yh n:=zLN fun n2 (v3,v4,v5,v6,v7,v150,o0,o1,o2,o3)=>by kernel_rfl
def zaq (L2:ziy→Option (zb × (Int × Unit))):ziz→Option (zb × (Int × Unit)):=fun (v3,v4,v5,v6,v7,v77,o0,o1,o2,o3) =>
  bif v77 then some ((0,[],[],[],[],[],()),1,()) else inR o2.2.1 ((List.length o1.2.1):Int) (bif v3 == 1 then inR o2.2.2.1 ((List.length o0.2.2.1):Int) (bif (ix qo o0.2.2.1 o2.2.2.1).2.2.2.1 then inR v6 (↑4:Int) (Option.bind (vj (List.getD (ix za o1.2.1 o2.2.1).2.2.2.2.2.2.2.1 (Int.toNat v6) (0:Int),v7,())) fun q1=>bif q1.2.1 != 0 then some ((0,[],[],[],[],[],()),8,()) else inR o2.2.1 ((List.length o0.2.2.2.2.1):Int) (bif decide (q1.1 > (ix qg o0.2.2.2.2.1 o2.2.1).2.2.2.2.2.1) then some ((0,[],[],[],[],[],()),8,()) else inR v6 (↑4:Int) (Option.bind (za9 (o1,o2.2.1,(u7 (ix za o1.2.1 o2.2.1) (List.set (ix za o1.2.1 o2.2.1).2.2.2.2.2.2.2.1 (Int.toNat v6) q1.1)),())) fun q2=>Option.bind (zdy (q2.1,o2.2.1,o2.2.2.1,v6,v7,())) fun q3=>some (q3.1,0,())))) else some ((0,[],[],[],[],[],()),5,())) else bif v3 == 4 then bif v4 == o2.2.1 then L2 (v3,v4,v5,v6,v7,true,o1,o2,o3,ix za o1.2.1 o2.2.1) else Option.bind (zfM (o0,o2.2.1,v4,())) fun q8=>bif q8.1 then L2 (v3,v4,v5,v6,v7,false,o1,o2,o3,ix za o1.2.1 o2.2.1) else L2 (v3,v4,v5,v6,v7,true,o1,o2,o3,ix za o1.2.1 o2.2.1) else L2 (v3,v4,v5,v6,v7,false,o1,o2,o3,ix za o1.2.1 o2.2.1))
abbrev ztD (K:Nat):ziz→Option (zb × (Int × Unit)):=gt (zaq (ztC K)) K
theorem zEr (K:Nat):∀ n,evW (Ej E0 false [1,3,14] L8) K Tryz.f17 0 (ch [zh,tI]) [1,1,0,0] [] zEo n = gt (zaq (ztC K)) n:=zJC (B:=fun L2=>zaq L2) (zEq K K) fun n1 (v3,v4,v5,v6,v7,v77,o0,o1,o2,o3)=>by kernel_rfl
def vm (L1:ziz→Option (zb × (Int × Unit))):ziA→Option (zb × (Int × Unit)):=fun (v3,v4,v5,v6,v7,v38,o0,o1,o2,o3) =>
  bif v38 then some ((0,[],[],[],[],[],()),1,()) else bif decide (v3 > 2) then bif decide (v5 < 0) then L1 (v3,v4,v5,v6,v7,true,o0,o1,o2,o3) else bif decide (v5 ≥ ((List.length o0.2.2.1):Int)) then L1 (v3,v4,v5,v6,v7,true,o0,o1,o2,o3) else bif v3 == 3 then bif v5 == o2.2.2.1 then L1 (v3,v4,v5,v6,v7,true,o0,o1,o2,o3) else bif v3 == 4 then bif decide (v4 < 0) then L1 (v3,v4,v5,v6,v7,true,o0,o1,o2,o3) else bif decide (v4 ≥ ((List.length o0.1):Int)) then L1 (v3,v4,v5,v6,v7,true,o0,o1,o2,o3) else L1 (v3,v4,v5,v6,v7,false,o0,o1,o2,o3) else L1 (v3,v4,v5,v6,v7,false,o0,o1,o2,o3) else bif v3 == 4 then bif decide (v4 < 0) then L1 (v3,v4,v5,v6,v7,true,o0,o1,o2,o3) else bif decide (v4 ≥ ((List.length o0.1):Int)) then L1 (v3,v4,v5,v6,v7,true,o0,o1,o2,o3) else L1 (v3,v4,v5,v6,v7,false,o0,o1,o2,o3) else L1 (v3,v4,v5,v6,v7,false,o0,o1,o2,o3) else bif v3 == 3 then bif v5 == o2.2.2.1 then L1 (v3,v4,v5,v6,v7,true,o0,o1,o2,o3) else bif v3 == 4 then bif decide (v4 < 0) then L1 (v3,v4,v5,v6,v7,true,o0,o1,o2,o3) else bif decide (v4 ≥ ((List.length o0.1):Int)) then L1 (v3,v4,v5,v6,v7,true,o0,o1,o2,o3) else L1 (v3,v4,v5,v6,v7,false,o0,o1,o2,o3) else L1 (v3,v4,v5,v6,v7,false,o0,o1,o2,o3) else bif v3 == 4 then bif decide (v4 < 0) then L1 (v3,v4,v5,v6,v7,true,o0,o1,o2,o3) else bif decide (v4 ≥ ((List.length o0.1):Int)) then L1 (v3,v4,v5,v6,v7,true,o0,o1,o2,o3) else L1 (v3,v4,v5,v6,v7,false,o0,o1,o2,o3) else L1 (v3,v4,v5,v6,v7,false,o0,o1,o2,o3)
abbrev ztE (K:Nat):ziA→Option (zb × (Int × Unit)):=gt (vm (ztD K)) K
theorem zEs (K:Nat):∀ n,evW (Ej E0 false [1,3,14] L8) K Tryz.f17 0 (ch [zh,tI]) [1,0,0] [] zEp n = gt (vm (ztD K)) n:=zJC (B:=fun L1=>vm L1) (zEr K K) fun n0 (v3,v4,v5,v6,v7,v38,o0,o1,o2,o3)=>by kernel_rfl
def zh2 (L0:ziA→Option (zb × (Int × Unit))):(zf × (zb × (pMe × (Int × (Int × (Int × (Int × (Int × Unit))))))))→Option (zb × (Int × Unit)):=fun (x0,x1,x2,x3,x4,x5,x6,x7,()) =>
  Option.bind (zaP (x0,x1,x2,())) fun q0=>bif q0.1 then bif decide (x6 < 0) then L0 (x3,x4,x5,x6,x7,true,x0,x1,x2,0,[],[],[],[],[],()) else bif decide (x6 > 3) then L0 (x3,x4,x5,x6,x7,true,x0,x1,x2,0,[],[],[],[],[],()) else bif x7 == 0 then L0 (x3,x4,x5,x6,x7,true,x0,x1,x2,0,[],[],[],[],[],()) else L0 (x3,x4,x5,x6,x7,false,x0,x1,x2,0,[],[],[],[],[],()) else L0 (x3,x4,x5,x6,x7,true,x0,x1,x2,0,[],[],[],[],[],())
def zdB:(zf × zb × pMe × Int × Int × Int × Int × Int × Unit)→Option (zb × Int × Unit):=zh2 (ztE K0)
abbrev zxl:Fun:=⟨17,(ch [zo,zh,tMe,tI,tI,tI,tI,tU]),(ch [zh,tI]),0,zdB⟩
theorem zIH:Sq zxl:=mk8 (d:=false) (js:=[1,3,14]) (S:=fun K=>zh2 (ztE K)) Tryz.func17 (by kernel_rfl) (fun K=>tr1 (T:=zh2) (zEs K K) fun (x0,x1,x2,x3,x4,x5,x6,x7,())=>by kernel_rfl) rfl
abbrev zfC:Type:=Int × Int × Int × Int × List zn × Nat × List (List Int) × Nat × List zt × List zH × List Int × List zn × Nat × List (List Int) × Nat × List zt × List zH × List Int
abbrev ztF:zfC→St:=fun (v42,v43,o0_0,o1_0,o2,c2,o3,c3,o4,o5,o6,o7,c7,o8,c8,o9,o10,o11)=>St.mk [(2,.bp 0 []),(4,.bp 1 []),(42,.dat tI v42),(43,.dat tI v43)] [.bx (.fld (.pair tU (.pair (.sl zl) (.pair (.sl (.sl tI)) (.pair (.sl zp) (.pair (.sl zu) (.pair (.sl tI) .unit)))))) [.dat tU o0_0,.ow 2,.ow 3,.ow 4,.ow 5,.ow 6]) false,.bx (.fld (.pair tU (.pair (.sl zl) (.pair (.sl (.sl tI)) (.pair (.sl zp) (.pair (.sl zu) (.pair (.sl tI) .unit)))))) [.dat tU o1_0,.ow 7,.ow 8,.ow 9,.ow 10,.ow 11]) false,.drow zl o2 c2,.drow (.sl tI) o3 c3,.row zp o4 false,.row zu o5 false,.row tI o6 false,.drow zl o7 c7,.drow (.sl tI) o8 c8,.row zp o9 false,.row zu o10 false,.row tI o11 false]
abbrev zfD:Type:=(List zaw) × Int × Int × zf × Int × Int × List zn × Nat × List (List Int) × Nat × List zt × List zH × List Int × List zn × Nat × List (List Int) × Nat × List zt × List zH × List Int
abbrev zEt:zfD→St:=fun (v18,v19,v20,o0,o1_0,o2_0,o3,c3,o4,c4,o5,o6,o7,o8,c8,o9,c9,o10,o11,o12)=>St.mk [(1,.bp 0 []),(2,.bp 1 []),(4,.bp 2 []),(18,.dat (.sl za6) v18),(19,.dat tI v19),(20,.dat tI v20)] [.bx (.dat zo o0) false,.bx (.fld (.pair tU (.pair (.sl zl) (.pair (.sl (.sl tI)) (.pair (.sl zp) (.pair (.sl zu) (.pair (.sl tI) .unit)))))) [.dat tU o1_0,.ow 3,.ow 4,.ow 5,.ow 6,.ow 7]) false,.bx (.fld (.pair tU (.pair (.sl zl) (.pair (.sl (.sl tI)) (.pair (.sl zp) (.pair (.sl zu) (.pair (.sl tI) .unit)))))) [.dat tU o2_0,.ow 8,.ow 9,.ow 10,.ow 11,.ow 12]) false,.drow zl o3 c3,.drow (.sl tI) o4 c4,.row zp o5 false,.row zu o6 false,.row tI o7 false,.drow zl o8 c8,.drow (.sl tI) o9 c9,.row zp o10 false,.row zu o11 false,.row tI o12 false]
def ztG (k1:zfC→Option (zb × (Int × Unit))):zfC→Option (zb × (Int × Unit)):=fun (v42,v43,o0_0,o1_0,o2,c2,o3,c3,o4,o5,o6,o7,c7,o8,c8,o9,o10,o11) =>
  bif decide (v43 < v42) then bif decide (List.length o11 + List.length (zk (List.replicate 1 (0:Int)) 0 (-1)) ≤ lim) then k1 (v42,wI (v43 + 1),o0_0,o1_0,o2,c2,o3,c3,o4,o5,o6,o7,c7,o8,c8,o9,o10,o11 ++ zk (List.replicate 1 (0:Int)) 0 (-1)) else none else bif decide (c7 = List.length o7) then bif decide (c8 = List.length o8) then some ((o1_0,o7,o8,o9,o10,o11,()),0,()) else none else none
abbrev zmw (K:Nat):zfC→Option (zb × (Int × Unit)):=zg ztG K
theorem zEu (K:Nat):∀ n,evV Ed8 K Tryz.f65 3 (ch [zh,tI]) [1,1,1,1,1,0,1,0] [] ztF n = zg ztG n:=zr fun n1 (v42,v43,o0_0,o1_0,o2,c2,o3,c3,o4,o5,o6,o7,c7,o8,c8,o9,o10,o11)=>by kernel_rfl
def zmx (L1:zfC→Option (zb × (Int × Unit))) (k0:zfD→Option (zb × (Int × Unit))):zfD→Option (zb × (Int × Unit)):=fun (v18,v19,v20,o0,o1_0,o2_0,o3,c3,o4,c4,o5,o6,o7,o8,c8,o9,c9,o10,o11,o12) =>
  bif decide (v20 < v19) then inR v20 ((List.length v18):Int) (Option.bind (zs7 (o0,ix qg v18 v20,())) fun q2=>bif decide (List.length o8 + List.length [(q2.1.1,q2.1.2.1,q2.1.2.2.1,q2.1.2.2.2.1,q2.1.2.2.2.2.1,q2.1.2.2.2.2.2.1,q2.1.2.2.2.2.2.2.1,q2.1.2.2.2.2.2.2.2.1,q2.1.2.2.2.2.2.2.2.2.1,())] ≤ lim) then bif decide (c8 = List.length o8) then k0 (v18,v19,wI (v20 + 1),o0,o1_0,o2_0,o3,c3,o4,c4,o5,o6,o7,o8 ++ [(q2.1.1,q2.1.2.1,q2.1.2.2.1,q2.1.2.2.2.1,q2.1.2.2.2.2.1,q2.1.2.2.2.2.2.1,q2.1.2.2.2.2.2.2.1,q2.1.2.2.2.2.2.2.2.1,q2.1.2.2.2.2.2.2.2.2.1,())],c8 + (0 + 1),o9,c9,o10,o11,o12) else none else none) else bif decide (0 < ((List.length o8):Int)) then bif decide (c8 ≤ Int.toNat 0) then bif decide (0 < ((List.length (ix za o8 0).1):Int)) then none else none else bif decide (0 < ((List.length (ix za o8 0).1):Int)) then L1 (((List.length o0.2.1):Int),0,o1_0,o2_0,o3,c3,o4,c4,o5,o6,o7,List.set o8 (Int.toNat 0) (List.set (ix za o8 0).1 (Int.toNat 0) (true,ByteArray.mk #[112,108,97,122,97],(ze qa).2.2),(ix za o8 0).2),c8,o9,c9,o10,o11,o12) else none else none
abbrev ztH (K:Nat):zfD→Option (zb × (Int × Unit)):=zg (fun k0=>zmx (zmw K) k0) K
theorem zEv (K:Nat):∀ n,evV Ed8 K Tryz.f65 3 (ch [zh,tI]) [1,1,1,0,1,0] [] zEt n = zg (fun k0=>zmx (zmw K) k0) n:=qC (B:=fun L1 k0=>zmx L1 k0) (V1:=fun n0=>evV Ed8 K Tryz.f65 3 (ch [zh,tI]) [1,1,1,1,1,0,1,0] [] ztF K) (W1:=fun k0=>(zmw K)) (fun n0=>zEu K K) fun n0 (v18,v19,v20,o0,o1_0,o2_0,o3,c3,o4,c4,o5,o6,o7,o8,c8,o9,c9,o10,o11,o12)=>by kernel_rfl
def zqw (L0:zfD→Option (zb × (Int × Unit))):(zf × Unit)→Option (zb × (Int × Unit)):=fun (x0,()) =>
  Option.bind (zap (x0,())) fun q0=>bif q0.1 then Option.bind (zAR (x0,())) fun q1=>bif decide (0 ≤ x0.2.2.2.2.2.1) then bif decide (x0.2.2.2.2.2.1 ≤ x0.2.2.2.2.2.1) then bif decide (x0.2.2.2.2.2.1 ≤ (↑lim:Int)) then L0 (x0.2.2.2.2.1,((List.length x0.2.2.2.2.1):Int),0,x0,0,0,[],0,[],0,[],[],[],[],0,q1.1,List.length q1.1,List.replicate (Int.toNat x0.2.2.2.2.2.1) (ze zp),[],[]) else none else none else none else some ((0,[],[],[],[],[],()),1,())
def zxm:(zf × Unit)→Option (zb × Int × Unit):=zqw (ztH K0)
abbrev zxn:Fun:=⟨65,(ch [zo]),(ch [zh,tI]),3,zxm⟩
theorem zII:Sq zxn:=ml8 (d:=true) (S:=fun K=>zqw (ztH K)) Tryz.func65 (by kernel_rfl) (fun K=>tr1 (T:=zqw) (zEv K K) fun (x0,())=>by kernel_rfl) rfl
abbrev L9:List Fun:=zrI :: zxk :: zxl :: zxn :: L8
theorem h9:Sds Tryz.prog E0 L9:=⟨zCx,zIG,zIH,zII,h8⟩
theorem ml9 {d:Bool} {F:Fun} {f:Go.Func} {S:Nat→F.a.I→Option F.r.I} (hf:Tryz.prog.funcs[F.id]? = some f) (ho:jA f = true) (h:∀ K,evF (En E0 d L9) K f F.md F.a F.r = S K) (e:S K0 = F.spec):Sd Tryz.prog E0 F:=mkS h9 hf ho ((h K0).trans e)
abbrev Es9:Env:=En E0 false L9
abbrev zdf:Type:=Bool × Int × Int × List (Option (Unit→Option (Bool × Unit)))
abbrev zAT:zdf→St:=fun (v6,v27,v28,o0)=>St.mk [(6,.dat .bool v6),(26,.ow 0),(27,.dat tI v27),(28,.dat tI v28)] [.row (.fn .unit (.pair .bool .unit)) o0 false]
def zgf (k0:zdf→Option (Bool × Unit)):zdf→Option (Bool × Unit):=fun (v6,v27,v28,o0) =>
  bif decide (v28 < v27) then inR v28 ((List.length o0):Int) (Option.bind (List.getD o0 (Int.toNat v28) (ze (.fn .unit (.pair .bool .unit)))) fun q0=>Option.bind (q0 ()) fun q1=>bif q1.1 then k0 (true,v27,wI (v28 + 1),o0) else some (false,())) else some (v6,())
abbrev zpR (K:Nat):zdf→Option (Bool × Unit):=zg zgf K
theorem zAU (K:Nat):∀ n,evV Es9 K Tryz.f37 0 (ch [.bool]) [1,0,1,1,1,0,1,0] [] zAT n = zg zgf n:=zr fun n0 (v6,v27,v28,o0)=>by kernel_rfl
def zmy (L0:zdf→Option (Bool × Unit)):(zf × (zb × Unit))→Option (Bool × Unit):=fun (x0,x1,()) =>
  L0 (true,((List.length (zk (zk (zk (zk (zk (zk (zk (List.replicate 7 (ze (.fn .unit (.pair .bool .unit)))) 0 (some fun z=>zbR ((x0,x1,(ze qp).2.2),()))) 1 (some fun z=>zbS ((x0,x1,(ze qp).2.2),()))) 2 (some fun z=>za0 ((x0,x1,(ze qp).2.2),()))) 3 (some fun z=>zfx ((x0,x1,(ze qp).2.2),()))) 4 (some fun z=>zaY ((x0,x1,(ze qp).2.2),()))) 5 (some fun z=>zfw ((x0,x1,(ze qp).2.2),()))) 6 (some fun z=>zfB ((x0,x1,(ze qp).2.2),())))):Int),0,[some fun z=>zbR ((x0,x1,(ze qp).2.2),()),some fun z=>zbS ((x0,x1,(ze qp).2.2),()),some fun z=>za0 ((x0,x1,(ze qp).2.2),()),some fun z=>zfx ((x0,x1,(ze qp).2.2),()),some fun z=>zaY ((x0,x1,(ze qp).2.2),()),some fun z=>zfw ((x0,x1,(ze qp).2.2),()),some fun z=>zfB ((x0,x1,(ze qp).2.2),())])
def ziB:(zf × zb × Unit)→Option (Bool × Unit):=zmy (zpR K0)
abbrev ztI:Fun:=⟨37,(ch [zo,zh]),(ch [.bool]),0,ziB⟩
theorem zEw:Sq ztI:=ml9 (d:=false) (S:=fun K=>zmy (zpR K)) Tryz.func37 (by kernel_rfl) (fun K=>tr1 (T:=zmy) (zAU K K) fun (x0,x1,())=>by kernel_rfl) rfl
abbrev L10:List Fun:=ztI :: L9
theorem h10:Sds Tryz.prog E0 L10:=⟨zEw,h9⟩
theorem zOn {d:Bool} {F:Fun} {f:Go.Func} {K:Nat} (hf:Tryz.prog.funcs[F.id]? = some f) (ho:jA f = true) (h:evF (En E0 d L10) K f F.md F.a F.r = F.spec):Sd Tryz.prog E0 F:=mkS h10 hf ho h
def zeG:(zf × (zb × (pMe × Unit)))→Option (Bool × Unit):=fun (x0,x1,x2,()) =>
  Option.bind (ziB (x0,x1,())) fun q0=>bif q0.1 then bif decide (x2.1 ≥ 0) then bif decide (x2.1 < ((List.length x0.2.1):Int)) then inR x2.1 ((List.length x0.2.1):Int) (bif x2.2.1 == ix (0:Int) x0.2.1 x2.1 then bif decide (x2.2.2.1 ≥ 0) then bif decide (x2.2.2.1 < ((List.length x0.2.2.1):Int)) then some (true,()) else some (false,()) else some (false,()) else some (false,())) else some (false,()) else some (false,()) else some (false,())
abbrev zvH:Fun:=⟨36,(ch [zo,zh,tMe]),(ch [.bool]),0,zeG⟩
theorem zGV:Sq zvH:=zOn (d:=false) (K:=0) Tryz.func36 (by kernel_rfl) (funext fun (x0,x1,x2,())=>by kernel_rfl)
abbrev L11:List Fun:=zvH :: L10
theorem h11:Sds Tryz.prog E0 L11:=⟨zGV,h10⟩
theorem zOo {d:Bool} {F:Fun} {f:Go.Func} {K:Nat} (hf:Tryz.prog.funcs[F.id]? = some f) (ho:jA f = true) (h:evF (En E0 d L11) K f F.md F.a F.r = F.spec):Sd Tryz.prog E0 F:=mkS h11 hf ho h
theorem zOp {d:Bool} {js:List Nat} {fs:List (Nat × Go.Func)} {n:Nat} {F:Fun} {f:Go.Func} {K:Nat} (hfs:FOk Tryz.prog fs) (hf:Tryz.prog.funcs[F.id]? = some f) (ho:jA f = true) (h:evF ((Ej E0 d js L11).inl fs n) K f F.md F.a F.r = F.spec):Sd Tryz.prog E0 F:=Sd.mkI zFe h11 hfs hf ho h
def zdC:(zf × (zb × (pMe × (Int × (Int × Unit)))))→Option (Bool × Unit):=fun (x0,x1,x2,x3,x4,()) =>
  Option.bind (zeG (x0,x1,x2,())) fun q0=>bif q0.1 then Option.bind (qV (x3,())) fun q1=>bif q1.1 then bif decide (x4 > 0) then some (true,()) else some (false,()) else some (false,()) else some (false,())
abbrev zxo:Fun:=⟨79,(ch [zo,zh,tMe,tI,tU]),(ch [.bool]),0,zdC⟩
theorem zIJ:Sq zxo:=zOo (d:=false) (K:=0) Tryz.func79 (by kernel_rfl) (funext fun (x0,x1,x2,x3,x4,())=>by kernel_rfl)
def yi:(zf × (zb × (pMe × Unit)))→Option ((List Int) × (Int × Unit)):=fun (x0,x1,x2,()) =>
  Option.bind (zeG (x0,x1,x2,())) fun q0=>bif q0.1 then inR x2.2.1 ((List.length x1.2.1):Int) (inR x2.2.2.1 ((List.length (ix za x1.2.1 x2.2.1).2.2.2.2.2.1):Int) (some (List.getD (ix za x1.2.1 x2.2.1).2.2.2.2.2.1 (Int.toNat x2.2.2.1) (ze (.arr 4 tU)),0,()))) else some ([0,0,0,0],1,())
abbrev ztJ:Fun:=⟨18,(ch [zo,zh,tMe]),(ch [(.arr 4 tU),tI]),0,yi⟩
theorem zEx:Sq ztJ:=zOp (d:=false) (js:=[]) (fs:=[(77,Tryz.f77)]) (n:=1) ⟨⟨Tryz.func77,by kernel_rfl⟩,trivial⟩ (K:=0) Tryz.func18 (by kernel_rfl) (funext fun (x0,x1,x2,())=>by kernel_rfl)
abbrev L12:List Fun:=zxo :: ztJ :: L11
theorem h12:Sds Tryz.prog E0 L12:=⟨zIJ,zEx,h11⟩
end
end Go.Proofs.YtgomalidoilgbaaGreatDoor
end
section
namespace Go.Proofs.YtgomalidoilgbaaGreatDoor
open Go.Ev
noncomputable section
theorem zKv {d:Bool} {js:List Nat} {fs:List (Nat × Go.Func)} {n:Nat} {F:Fun} {f:Go.Func} {K:Nat} (hfs:FOk Tryz.prog fs) (hf:Tryz.prog.funcs[F.id]? = some f) (ho:jA f = true) (h:evF ((Ej E0 d js L12).inl fs n) K f F.md F.a F.r = F.spec):Sd Tryz.prog E0 F:=Sd.mkI zFe h12 hfs hf ho h
def y7:(zf × (zb × (pMe × (Int × (Int × Unit)))))→Option (zb × (Int × Unit)):=fun (x0,x1,x2,x3,x4,()) =>
  Option.bind (zdC (x0,x1,x2,x3,x4,())) fun q0=>bif q0.1 then inR x2.2.1 ((List.length x0.2.2.2.2.1):Int) (inR x2.2.1 ((List.length x1.2.1):Int) (inR x3 (↑4:Int) (inR x2.2.2.1 ((List.length x0.2.2.1):Int) (bif (ix qo x0.2.2.1 x2.2.2.1).2.2.2.1 then bif decide (x4 ≤ wU ((ix qg x0.2.2.2.2.1 x2.2.1).2.2.2.2.2.1 - List.getD (ix za x1.2.1 x2.2.1).2.2.2.2.2.2.2.1 (Int.toNat x3) (0:Int))) then Option.bind (qB (x1,())) fun q1=>inR x2.2.1 ((List.length q1.1.2.1):Int) (inR x3 (↑4:Int) (inR x2.2.1 ((List.length q1.1.2.1):Int) (inR x3 (↑4:Int) (inR x2.2.1 ((List.length (List.set q1.1.2.1 (Int.toNat x2.2.1) (u7 (ix za q1.1.2.1 x2.2.1) (List.set (ix za q1.1.2.1 x2.2.1).2.2.2.2.2.2.2.1 (Int.toNat x3) (wU (List.getD (ix za q1.1.2.1 x2.2.1).2.2.2.2.2.2.2.1 (Int.toNat x3) (0:Int) + x4)))))):Int) (bif decide (List.length q1.1.2.1 ≤ Int.toNat x2.2.1) then none else inR x2.2.2.1 ((List.length (List.getD (List.set q1.1.2.1 (Int.toNat x2.2.1) (u7 (ix za q1.1.2.1 x2.2.1) (List.set (ix za q1.1.2.1 x2.2.1).2.2.2.2.2.2.2.1 (Int.toNat x3) (wU (List.getD (ix za q1.1.2.1 x2.2.1).2.2.2.2.2.2.2.1 (Int.toNat x3) (0:Int) + x4))))) (Int.toNat x2.2.1) (ze zl)).2.2.2.2.2.1):Int) (Option.bind (zdz (List.getD (List.getD (List.set q1.1.2.1 (Int.toNat x2.2.1) (u7 (ix za q1.1.2.1 x2.2.1) (List.set (ix za q1.1.2.1 x2.2.1).2.2.2.2.2.2.2.1 (Int.toNat x3) (wU (List.getD (ix za q1.1.2.1 x2.2.1).2.2.2.2.2.2.2.1 (Int.toNat x3) (0:Int) + x4))))) (Int.toNat x2.2.1) (ze zl)).2.2.2.2.2.1 (Int.toNat x2.2.2.1) (ze (.arr 4 tU)),x3,x4,())) fun q2=>inR x2.2.1 ((List.length (List.set q1.1.2.1 (Int.toNat x2.2.1) (u7 (ix za q1.1.2.1 x2.2.1) (List.set (ix za q1.1.2.1 x2.2.1).2.2.2.2.2.2.2.1 (Int.toNat x3) (wU (List.getD (ix za q1.1.2.1 x2.2.1).2.2.2.2.2.2.2.1 (Int.toNat x3) (0:Int) + x4)))))):Int) (bif decide (List.length q1.1.2.1 ≤ Int.toNat x2.2.1) then none else inR x2.2.2.1 ((List.length (List.getD (List.set q1.1.2.1 (Int.toNat x2.2.1) (u7 (ix za q1.1.2.1 x2.2.1) (List.set (ix za q1.1.2.1 x2.2.1).2.2.2.2.2.2.2.1 (Int.toNat x3) (wU (List.getD (ix za q1.1.2.1 x2.2.1).2.2.2.2.2.2.2.1 (Int.toNat x3) (0:Int) + x4))))) (Int.toNat x2.2.1) (ze zl)).2.2.2.2.2.1):Int) (bif q2.2.1 != 0 then some ((0,[],[],[],[],[],()),q2.2.1,()) else bif decide (List.length q1.1.2.1 = List.length (List.set (List.set q1.1.2.1 (Int.toNat x2.2.1) (u7 (ix za q1.1.2.1 x2.2.1) (List.set (ix za q1.1.2.1 x2.2.1).2.2.2.2.2.2.2.1 (Int.toNat x3) (wU (List.getD (ix za q1.1.2.1 x2.2.1).2.2.2.2.2.2.2.1 (Int.toNat x3) (0:Int) + x4))))) (Int.toNat x2.2.1) (u5 (List.getD (List.set q1.1.2.1 (Int.toNat x2.2.1) (u7 (ix za q1.1.2.1 x2.2.1) (List.set (ix za q1.1.2.1 x2.2.1).2.2.2.2.2.2.2.1 (Int.toNat x3) (wU (List.getD (ix za q1.1.2.1 x2.2.1).2.2.2.2.2.2.2.1 (Int.toNat x3) (0:Int) + x4))))) (Int.toNat x2.2.1) (ze zl)) (List.set (List.getD (List.set q1.1.2.1 (Int.toNat x2.2.1) (u7 (ix za q1.1.2.1 x2.2.1) (List.set (ix za q1.1.2.1 x2.2.1).2.2.2.2.2.2.2.1 (Int.toNat x3) (wU (List.getD (ix za q1.1.2.1 x2.2.1).2.2.2.2.2.2.2.1 (Int.toNat x3) (0:Int) + x4))))) (Int.toNat x2.2.1) (ze zl)).2.2.2.2.2.1 (Int.toNat x2.2.2.1) q2.1)))) then bif decide (List.length q1.1.2.2.1 = List.length q1.1.2.2.1) then some ((u1 q1.1 (List.set (List.set q1.1.2.1 (Int.toNat x2.2.1) (u7 (ix za q1.1.2.1 x2.2.1) (List.set (ix za q1.1.2.1 x2.2.1).2.2.2.2.2.2.2.1 (Int.toNat x3) (wU (List.getD (ix za q1.1.2.1 x2.2.1).2.2.2.2.2.2.2.1 (Int.toNat x3) (0:Int) + x4))))) (Int.toNat x2.2.1) (u5 (List.getD (List.set q1.1.2.1 (Int.toNat x2.2.1) (u7 (ix za q1.1.2.1 x2.2.1) (List.set (ix za q1.1.2.1 x2.2.1).2.2.2.2.2.2.2.1 (Int.toNat x3) (wU (List.getD (ix za q1.1.2.1 x2.2.1).2.2.2.2.2.2.2.1 (Int.toNat x3) (0:Int) + x4))))) (Int.toNat x2.2.1) (ze zl)) (List.set (List.getD (List.set q1.1.2.1 (Int.toNat x2.2.1) (u7 (ix za q1.1.2.1 x2.2.1) (List.set (ix za q1.1.2.1 x2.2.1).2.2.2.2.2.2.2.1 (Int.toNat x3) (wU (List.getD (ix za q1.1.2.1 x2.2.1).2.2.2.2.2.2.2.1 (Int.toNat x3) (0:Int) + x4))))) (Int.toNat x2.2.1) (ze zl)).2.2.2.2.2.1 (Int.toNat x2.2.2.1) q2.1)))),0,()) else none else none)))))))) else Option.bind (qB (x1,())) fun q3=>some ((0,[],[],[],[],[],()),8,()) else bif decide (x4 ≤ wU ((ix qg x0.2.2.2.2.1 x2.2.1).2.2.2.2.2.1 - List.getD (ix za x1.2.1 x2.2.1).2.2.2.2.2.2.2.1 (Int.toNat x3) (0:Int))) then Option.bind (qB (x1,())) fun q4=>some ((0,[],[],[],[],[],()),5,()) else Option.bind (qB (x1,())) fun q5=>some ((0,[],[],[],[],[],()),5,()))))) else some ((0,[],[],[],[],[],()),1,())
abbrev zvI:Fun:=⟨69,(ch [zo,zh,tMe,tI,tU]),(ch [zh,tI]),3,y7⟩
theorem zGW:Sq zvI:=zKv (d:=true) (js:=[999999]) (fs:=[(81,Tryz.f81),(82,Tryz.f82),(84,Tryz.f84),(153,Tryz.f153),(158,Tryz.f158),(161,Tryz.f161),(77,Tryz.f77)]) (n:=3) ⟨⟨Tryz.func81,by kernel_rfl⟩,⟨Tryz.func82,by kernel_rfl⟩,⟨Tryz.func84,by kernel_rfl⟩,⟨Tryz.func153,by kernel_rfl⟩,⟨Tryz.func158,by kernel_rfl⟩,⟨Tryz.func161,by kernel_rfl⟩,⟨Tryz.func77,by kernel_rfl⟩,trivial⟩ (K:=0) Tryz.func69 (by kernel_rfl) (funext fun (x0,x1,x2,x3,x4,())=>by kernel_rfl)
def zbw:(zf × (zb × (pMe × (Int × (Int × Unit)))))→Option (zb × (Int × Unit)):=fun (x0,x1,x2,x3,x4,()) =>
  Option.bind (zdC (x0,x1,x2,x3,x4,())) fun q0=>bif q0.1 then Option.bind (qB (x1,())) fun q1=>inR x2.2.1 ((List.length q1.1.2.1):Int) (bif decide (List.length q1.1.2.1 ≤ Int.toNat x2.2.1) then none else inR x2.2.2.1 ((List.length (ix za q1.1.2.1 x2.2.1).2.2.2.2.2.1):Int) (Option.bind (zdA (List.getD (ix za q1.1.2.1 x2.2.1).2.2.2.2.2.1 (Int.toNat x2.2.2.1) (ze (.arr 4 tU)),x3,x4,())) fun q2=>inR x2.2.1 ((List.length q1.1.2.1):Int) (bif decide (List.length q1.1.2.1 ≤ Int.toNat x2.2.1) then none else inR x2.2.2.1 ((List.length (ix za q1.1.2.1 x2.2.1).2.2.2.2.2.1):Int) (bif q2.2.1 != 0 then some ((0,[],[],[],[],[],()),q2.2.1,()) else inR x2.2.1 ((List.length (List.set q1.1.2.1 (Int.toNat x2.2.1) (u5 (ix za q1.1.2.1 x2.2.1) (List.set (ix za q1.1.2.1 x2.2.1).2.2.2.2.2.1 (Int.toNat x2.2.2.1) q2.1)))):Int) (inR x3 (↑4:Int) (inR x2.2.1 ((List.length (List.set q1.1.2.1 (Int.toNat x2.2.1) (u5 (ix za q1.1.2.1 x2.2.1) (List.set (ix za q1.1.2.1 x2.2.1).2.2.2.2.2.1 (Int.toNat x2.2.2.1) q2.1)))):Int) (inR x3 (↑4:Int) (bif decide (List.length q1.1.2.1 = List.length (List.set (List.set q1.1.2.1 (Int.toNat x2.2.1) (u5 (ix za q1.1.2.1 x2.2.1) (List.set (ix za q1.1.2.1 x2.2.1).2.2.2.2.2.1 (Int.toNat x2.2.2.1) q2.1))) (Int.toNat x2.2.1) (u8 (List.getD (List.set q1.1.2.1 (Int.toNat x2.2.1) (u5 (ix za q1.1.2.1 x2.2.1) (List.set (ix za q1.1.2.1 x2.2.1).2.2.2.2.2.1 (Int.toNat x2.2.2.1) q2.1))) (Int.toNat x2.2.1) (ze zl)) (List.set (List.getD (List.set q1.1.2.1 (Int.toNat x2.2.1) (u5 (ix za q1.1.2.1 x2.2.1) (List.set (ix za q1.1.2.1 x2.2.1).2.2.2.2.2.1 (Int.toNat x2.2.2.1) q2.1))) (Int.toNat x2.2.1) (ze zl)).2.2.2.2.2.2.2.2.1 (Int.toNat x3) (wU (List.getD (List.getD (List.set q1.1.2.1 (Int.toNat x2.2.1) (u5 (ix za q1.1.2.1 x2.2.1) (List.set (ix za q1.1.2.1 x2.2.1).2.2.2.2.2.1 (Int.toNat x2.2.2.1) q2.1))) (Int.toNat x2.2.1) (ze zl)).2.2.2.2.2.2.2.2.1 (Int.toNat x3) (0:Int) + x4)))))) then bif decide (List.length q1.1.2.2.1 = List.length q1.1.2.2.1) then some ((u1 q1.1 (List.set (List.set q1.1.2.1 (Int.toNat x2.2.1) (u5 (ix za q1.1.2.1 x2.2.1) (List.set (ix za q1.1.2.1 x2.2.1).2.2.2.2.2.1 (Int.toNat x2.2.2.1) q2.1))) (Int.toNat x2.2.1) (u8 (List.getD (List.set q1.1.2.1 (Int.toNat x2.2.1) (u5 (ix za q1.1.2.1 x2.2.1) (List.set (ix za q1.1.2.1 x2.2.1).2.2.2.2.2.1 (Int.toNat x2.2.2.1) q2.1))) (Int.toNat x2.2.1) (ze zl)) (List.set (List.getD (List.set q1.1.2.1 (Int.toNat x2.2.1) (u5 (ix za q1.1.2.1 x2.2.1) (List.set (ix za q1.1.2.1 x2.2.1).2.2.2.2.2.1 (Int.toNat x2.2.2.1) q2.1))) (Int.toNat x2.2.1) (ze zl)).2.2.2.2.2.2.2.2.1 (Int.toNat x3) (wU (List.getD (List.getD (List.set q1.1.2.1 (Int.toNat x2.2.1) (u5 (ix za q1.1.2.1 x2.2.1) (List.set (ix za q1.1.2.1 x2.2.1).2.2.2.2.2.1 (Int.toNat x2.2.2.1) q2.1))) (Int.toNat x2.2.1) (ze zl)).2.2.2.2.2.2.2.2.1 (Int.toNat x3) (0:Int) + x4)))))),0,()) else none else none)))))))) else some ((0,[],[],[],[],[],()),1,())
abbrev zvJ:Fun:=⟨70,(ch [zo,zh,tMe,tI,tU]),(ch [zh,tI]),3,zbw⟩
theorem zGX:Sq zvJ:=zKv (d:=true) (js:=[999999]) (fs:=[(81,Tryz.f81),(83,Tryz.f83),(154,Tryz.f154),(159,Tryz.f159),(77,Tryz.f77)]) (n:=3) ⟨⟨Tryz.func81,by kernel_rfl⟩,⟨Tryz.func83,by kernel_rfl⟩,⟨Tryz.func154,by kernel_rfl⟩,⟨Tryz.func159,by kernel_rfl⟩,⟨Tryz.func77,by kernel_rfl⟩,trivial⟩ (K:=0) Tryz.func70 (by kernel_rfl) (funext fun (x0,x1,x2,x3,x4,())=>by kernel_rfl)
def zdD:(zf × (zb × (pMe × (Int × (Int × (Int × Unit))))))→Option (zb × (Int × Unit)):=fun (x0,x1,x2,x3,x4,x5,()) =>
  Option.bind (zdC (x0,x1,x2,x4,x5,())) fun q0=>bif q0.1 then bif x3 == x2.2.2.1 then some ((0,[],[],[],[],[],()),1,()) else Option.bind (zeG (x0,x1,(x2.1,x2.2.1,x3,(ze tMe).2.2.2),())) fun q1=>bif q1.1 then Option.bind (qB (x1,())) fun q2=>inR x2.2.1 ((List.length q2.1.2.1):Int) (bif decide (List.length q2.1.2.1 ≤ Int.toNat x2.2.1) then none else inR x2.2.2.1 ((List.length (ix za q2.1.2.1 x2.2.1).2.2.2.2.2.1):Int) (Option.bind (zdA (List.getD (ix za q2.1.2.1 x2.2.1).2.2.2.2.2.1 (Int.toNat x2.2.2.1) (ze (.arr 4 tU)),x4,x5,())) fun q3=>inR x2.2.1 ((List.length q2.1.2.1):Int) (bif decide (List.length q2.1.2.1 ≤ Int.toNat x2.2.1) then none else inR x2.2.2.1 ((List.length (ix za q2.1.2.1 x2.2.1).2.2.2.2.2.1):Int) (bif q3.2.1 != 0 then some ((0,[],[],[],[],[],()),q3.2.1,()) else inR x2.2.1 ((List.length (List.set q2.1.2.1 (Int.toNat x2.2.1) (u5 (ix za q2.1.2.1 x2.2.1) (List.set (ix za q2.1.2.1 x2.2.1).2.2.2.2.2.1 (Int.toNat x2.2.2.1) q3.1)))):Int) (bif decide (List.length q2.1.2.1 ≤ Int.toNat x2.2.1) then none else inR x3 ((List.length (List.getD (List.set q2.1.2.1 (Int.toNat x2.2.1) (u5 (ix za q2.1.2.1 x2.2.1) (List.set (ix za q2.1.2.1 x2.2.1).2.2.2.2.2.1 (Int.toNat x2.2.2.1) q3.1))) (Int.toNat x2.2.1) (ze zl)).2.2.2.2.2.1):Int) (Option.bind (zdz (List.getD (List.getD (List.set q2.1.2.1 (Int.toNat x2.2.1) (u5 (ix za q2.1.2.1 x2.2.1) (List.set (ix za q2.1.2.1 x2.2.1).2.2.2.2.2.1 (Int.toNat x2.2.2.1) q3.1))) (Int.toNat x2.2.1) (ze zl)).2.2.2.2.2.1 (Int.toNat x3) (ze (.arr 4 tU)),x4,x5,())) fun q4=>inR x2.2.1 ((List.length (List.set q2.1.2.1 (Int.toNat x2.2.1) (u5 (ix za q2.1.2.1 x2.2.1) (List.set (ix za q2.1.2.1 x2.2.1).2.2.2.2.2.1 (Int.toNat x2.2.2.1) q3.1)))):Int) (bif decide (List.length q2.1.2.1 ≤ Int.toNat x2.2.1) then none else inR x3 ((List.length (List.getD (List.set q2.1.2.1 (Int.toNat x2.2.1) (u5 (ix za q2.1.2.1 x2.2.1) (List.set (ix za q2.1.2.1 x2.2.1).2.2.2.2.2.1 (Int.toNat x2.2.2.1) q3.1))) (Int.toNat x2.2.1) (ze zl)).2.2.2.2.2.1):Int) (bif q4.2.1 != 0 then some ((0,[],[],[],[],[],()),q4.2.1,()) else bif decide (List.length q2.1.2.1 = List.length (List.set (List.set q2.1.2.1 (Int.toNat x2.2.1) (u5 (ix za q2.1.2.1 x2.2.1) (List.set (ix za q2.1.2.1 x2.2.1).2.2.2.2.2.1 (Int.toNat x2.2.2.1) q3.1))) (Int.toNat x2.2.1) (u5 (List.getD (List.set q2.1.2.1 (Int.toNat x2.2.1) (u5 (ix za q2.1.2.1 x2.2.1) (List.set (ix za q2.1.2.1 x2.2.1).2.2.2.2.2.1 (Int.toNat x2.2.2.1) q3.1))) (Int.toNat x2.2.1) (ze zl)) (List.set (List.getD (List.set q2.1.2.1 (Int.toNat x2.2.1) (u5 (ix za q2.1.2.1 x2.2.1) (List.set (ix za q2.1.2.1 x2.2.1).2.2.2.2.2.1 (Int.toNat x2.2.2.1) q3.1))) (Int.toNat x2.2.1) (ze zl)).2.2.2.2.2.1 (Int.toNat x3) q4.1)))) then bif decide (List.length q2.1.2.2.1 = List.length q2.1.2.2.1) then some ((u1 q2.1 (List.set (List.set q2.1.2.1 (Int.toNat x2.2.1) (u5 (ix za q2.1.2.1 x2.2.1) (List.set (ix za q2.1.2.1 x2.2.1).2.2.2.2.2.1 (Int.toNat x2.2.2.1) q3.1))) (Int.toNat x2.2.1) (u5 (List.getD (List.set q2.1.2.1 (Int.toNat x2.2.1) (u5 (ix za q2.1.2.1 x2.2.1) (List.set (ix za q2.1.2.1 x2.2.1).2.2.2.2.2.1 (Int.toNat x2.2.2.1) q3.1))) (Int.toNat x2.2.1) (ze zl)) (List.set (List.getD (List.set q2.1.2.1 (Int.toNat x2.2.1) (u5 (ix za q2.1.2.1 x2.2.1) (List.set (ix za q2.1.2.1 x2.2.1).2.2.2.2.2.1 (Int.toNat x2.2.2.1) q3.1))) (Int.toNat x2.2.1) (ze zl)).2.2.2.2.2.1 (Int.toNat x3) q4.1)))),0,()) else none else none)))))))) else some ((0,[],[],[],[],[],()),1,()) else some ((0,[],[],[],[],[],()),1,())
abbrev zxp:Fun:=⟨71,(ch [zo,zh,tMe,tI,tI,tU]),(ch [zh,tI]),3,zdD⟩
theorem zIK:Sq zxp:=zKv (d:=true) (js:=[999999]) (fs:=[(81,Tryz.f81),(83,Tryz.f83),(84,Tryz.f84),(159,Tryz.f159),(161,Tryz.f161),(77,Tryz.f77)]) (n:=3) ⟨⟨Tryz.func81,by kernel_rfl⟩,⟨Tryz.func83,by kernel_rfl⟩,⟨Tryz.func84,by kernel_rfl⟩,⟨Tryz.func159,by kernel_rfl⟩,⟨Tryz.func161,by kernel_rfl⟩,⟨Tryz.func77,by kernel_rfl⟩,trivial⟩ (K:=0) Tryz.func71 (by kernel_rfl) (funext fun (x0,x1,x2,x3,x4,x5,())=>by kernel_rfl)
def zbx:(zf × (zb × (pMe × (Int × (Int × (Int × (Int × Unit)))))))→Option (zb × (Int × Unit)):=fun (x0,x1,x2,x3,x4,x5,x6,()) =>
  Option.bind (zdC (x0,x1,x2,x5,x6,())) fun q0=>bif q0.1 then bif decide (x3 < 0) then some ((0,[],[],[],[],[],()),1,()) else bif decide (x3 ≥ ((List.length x0.1):Int)) then some ((0,[],[],[],[],[],()),1,()) else bif decide (x4 < 0) then some ((0,[],[],[],[],[],()),1,()) else bif decide (x4 ≥ ((List.length x0.2.2.1):Int)) then some ((0,[],[],[],[],[],()),1,()) else bif x3 != x2.2.1 then Option.bind (zlF (x0,x2.2.1,x3,())) fun q1=>bif q1.1 then Option.bind (qB (x1,())) fun q2=>inR x2.2.1 ((List.length q2.1.2.1):Int) (bif decide (List.length q2.1.2.1 ≤ Int.toNat x2.2.1) then none else inR x2.2.2.1 ((List.length (ix za q2.1.2.1 x2.2.1).2.2.2.2.2.1):Int) (Option.bind (zdA (List.getD (ix za q2.1.2.1 x2.2.1).2.2.2.2.2.1 (Int.toNat x2.2.2.1) (ze (.arr 4 tU)),x5,x6,())) fun q3=>inR x2.2.1 ((List.length q2.1.2.1):Int) (bif decide (List.length q2.1.2.1 ≤ Int.toNat x2.2.1) then none else inR x2.2.2.1 ((List.length (ix za q2.1.2.1 x2.2.1).2.2.2.2.2.1):Int) (bif q3.2.1 != 0 then some ((0,[],[],[],[],[],()),q3.2.1,()) else inR x3 ((List.length (List.set q2.1.2.1 (Int.toNat x2.2.1) (u5 (ix za q2.1.2.1 x2.2.1) (List.set (ix za q2.1.2.1 x2.2.1).2.2.2.2.2.1 (Int.toNat x2.2.2.1) q3.1)))):Int) (bif decide (List.length q2.1.2.1 ≤ Int.toNat x3) then none else inR x4 ((List.length (List.getD (List.set q2.1.2.1 (Int.toNat x2.2.1) (u5 (ix za q2.1.2.1 x2.2.1) (List.set (ix za q2.1.2.1 x2.2.1).2.2.2.2.2.1 (Int.toNat x2.2.2.1) q3.1))) (Int.toNat x3) (ze zl)).2.2.2.2.2.1):Int) (Option.bind (zdz (List.getD (List.getD (List.set q2.1.2.1 (Int.toNat x2.2.1) (u5 (ix za q2.1.2.1 x2.2.1) (List.set (ix za q2.1.2.1 x2.2.1).2.2.2.2.2.1 (Int.toNat x2.2.2.1) q3.1))) (Int.toNat x3) (ze zl)).2.2.2.2.2.1 (Int.toNat x4) (ze (.arr 4 tU)),x5,x6,())) fun q4=>inR x3 ((List.length (List.set q2.1.2.1 (Int.toNat x2.2.1) (u5 (ix za q2.1.2.1 x2.2.1) (List.set (ix za q2.1.2.1 x2.2.1).2.2.2.2.2.1 (Int.toNat x2.2.2.1) q3.1)))):Int) (bif decide (List.length q2.1.2.1 ≤ Int.toNat x3) then none else inR x4 ((List.length (List.getD (List.set q2.1.2.1 (Int.toNat x2.2.1) (u5 (ix za q2.1.2.1 x2.2.1) (List.set (ix za q2.1.2.1 x2.2.1).2.2.2.2.2.1 (Int.toNat x2.2.2.1) q3.1))) (Int.toNat x3) (ze zl)).2.2.2.2.2.1):Int) (bif q4.2.1 != 0 then some ((0,[],[],[],[],[],()),q4.2.1,()) else bif decide (List.length q2.1.2.1 = List.length (List.set (List.set q2.1.2.1 (Int.toNat x2.2.1) (u5 (ix za q2.1.2.1 x2.2.1) (List.set (ix za q2.1.2.1 x2.2.1).2.2.2.2.2.1 (Int.toNat x2.2.2.1) q3.1))) (Int.toNat x3) (u5 (List.getD (List.set q2.1.2.1 (Int.toNat x2.2.1) (u5 (ix za q2.1.2.1 x2.2.1) (List.set (ix za q2.1.2.1 x2.2.1).2.2.2.2.2.1 (Int.toNat x2.2.2.1) q3.1))) (Int.toNat x3) (ze zl)) (List.set (List.getD (List.set q2.1.2.1 (Int.toNat x2.2.1) (u5 (ix za q2.1.2.1 x2.2.1) (List.set (ix za q2.1.2.1 x2.2.1).2.2.2.2.2.1 (Int.toNat x2.2.2.1) q3.1))) (Int.toNat x3) (ze zl)).2.2.2.2.2.1 (Int.toNat x4) q4.1)))) then bif decide (List.length q2.1.2.2.1 = List.length q2.1.2.2.1) then some ((u1 q2.1 (List.set (List.set q2.1.2.1 (Int.toNat x2.2.1) (u5 (ix za q2.1.2.1 x2.2.1) (List.set (ix za q2.1.2.1 x2.2.1).2.2.2.2.2.1 (Int.toNat x2.2.2.1) q3.1))) (Int.toNat x3) (u5 (List.getD (List.set q2.1.2.1 (Int.toNat x2.2.1) (u5 (ix za q2.1.2.1 x2.2.1) (List.set (ix za q2.1.2.1 x2.2.1).2.2.2.2.2.1 (Int.toNat x2.2.2.1) q3.1))) (Int.toNat x3) (ze zl)) (List.set (List.getD (List.set q2.1.2.1 (Int.toNat x2.2.1) (u5 (ix za q2.1.2.1 x2.2.1) (List.set (ix za q2.1.2.1 x2.2.1).2.2.2.2.2.1 (Int.toNat x2.2.2.1) q3.1))) (Int.toNat x3) (ze zl)).2.2.2.2.2.1 (Int.toNat x4) q4.1)))),0,()) else none else none)))))))) else Option.bind (qB (x1,())) fun q5=>some ((0,[],[],[],[],[],()),5,()) else Option.bind (qB (x1,())) fun q6=>some ((0,[],[],[],[],[],()),5,()) else some ((0,[],[],[],[],[],()),1,())
abbrev zvK:Fun:=⟨21,(ch [zo,zh,tMe,tI,tI,tI,tU]),(ch [zh,tI]),3,zbx⟩
theorem zGY:Sq zvK:=zKv (d:=true) (js:=[999999]) (fs:=[(81,Tryz.f81),(82,Tryz.f82),(83,Tryz.f83),(84,Tryz.f84),(158,Tryz.f158),(159,Tryz.f159),(161,Tryz.f161),(77,Tryz.f77)]) (n:=3) ⟨⟨Tryz.func81,by kernel_rfl⟩,⟨Tryz.func82,by kernel_rfl⟩,⟨Tryz.func83,by kernel_rfl⟩,⟨Tryz.func84,by kernel_rfl⟩,⟨Tryz.func158,by kernel_rfl⟩,⟨Tryz.func159,by kernel_rfl⟩,⟨Tryz.func161,by kernel_rfl⟩,⟨Tryz.func77,by kernel_rfl⟩,trivial⟩ (K:=0) Tryz.func21 (by kernel_rfl) (funext fun (x0,x1,x2,x3,x4,x5,x6,())=>by kernel_rfl)
abbrev L13:List Fun:=zvI :: zvJ :: zxp :: zvK :: L12
theorem h13:Sds Tryz.prog E0 L13:=⟨zGW,zGX,zIK,zGY,h12⟩
theorem zNP {d:Bool} {F:Fun} {f:Go.Func} {K:Nat} (hf:Tryz.prog.funcs[F.id]? = some f) (ho:jA f = true) (h:evF (En E0 d L13) K f F.md F.a F.r = F.spec):Sd Tryz.prog E0 F:=mkS h13 hf ho h
def zfj:(zf × (zb × (pMe × (yc × Unit))))→Option (zb × (Int × Unit)):=fun (x0,x1,x2,x3,()) =>
  bif x3.1 == 1 then Option.bind (y7 (x0,x1,x2,x3.2.2.2.1,x3.2.2.2.2.1,())) fun q0=>some q0 else bif x3.1 == 2 then Option.bind (zbw (x0,x1,x2,x3.2.2.2.1,x3.2.2.2.2.1,())) fun q1=>some q1 else bif x3.1 == 3 then Option.bind (zdD (x0,x1,x2,x3.2.2.1,x3.2.2.2.1,x3.2.2.2.2.1,())) fun q2=>some q2 else Option.bind (zbx (x0,x1,x2,x3.2.1,x3.2.2.1,x3.2.2.2.1,x3.2.2.2.2.1,())) fun q3=>some q3
abbrev zAV:Fun:=⟨16,(ch [zo,zh,tMe,qL]),(ch [zh,tI]),0,zfj⟩
theorem zKw:Sq zAV:=zNP (d:=false) (K:=0) Tryz.func16 (by kernel_rfl) (funext fun (x0,x1,x2,x3,())=>by kernel_rfl)
def jm:Unit→Option (Bool × Unit):=fun () =>
  Option.bind (zs5 ()) fun q0=>Option.bind (zxm (q0.1,())) fun q1=>Option.bind (y7 (q0.1,q1.1,(1,1,(ze tMe).2.2),2,5,())) fun q2=>Option.bind (zbw (q0.1,q2.1,(1,1,(ze tMe).2.2),2,2,())) fun q3=>Option.bind (yi (q0.1,q3.1,(1,1,(ze tMe).2.2),())) fun q4=>Option.bind (zdD (q0.1,q3.1,(1,1,(ze tMe).2.2),1,2,1,())) fun q5=>Option.bind (zbx (q0.1,q5.1,(1,1,(ze tMe).2.2),2,1,2,2,())) fun q6=>Option.bind (zbx (q0.1,q5.1,(1,1,(ze tMe).2.2),0,1,2,2,())) fun q7=>Option.bind (zbw (q0.1,q6.1,(1,1,(ze tMe).2.2),2,1,())) fun q8=>Option.bind (y7 (q0.1,q1.1,(u2 (u0 (ze tMe) 0) 1),2,5,())) fun q9=>Option.bind (y7 (q0.1,q2.1,(1,1,(ze tMe).2.2),2,996,())) fun q10=>Option.bind (zdD (q0.1,q3.1,(1,1,(ze tMe).2.2),0,2,1,())) fun q11=>bif q1.2.1 != 0 then some (false,()) else bif q2.2.1 != 0 then some (false,()) else bif q3.2.1 != 0 then some (false,()) else bif q4.2.1 != 0 then some (false,()) else bif q5.2.1 != 0 then some (false,()) else bif q6.2.1 != 0 then some (false,()) else bif ((List.length q6.1.2.1):Int) != 3 then some (false,()) else bif eqI (.arr 4 tU) q4.1 (zk (zk (zk (ze (.arr 4 tU)) 0 0) 1 0) 2 3) then bif decide (2 < ((List.length q6.1.2.1):Int)) then bif decide (1 < ((List.length (ix za q6.1.2.1 2).2.2.2.2.2.1):Int)) then bif List.getD (List.getD (ix za q6.1.2.1 2).2.2.2.2.2.1 (Int.toNat 1) (ze (.arr 4 tU))) (Int.toNat 2) (0:Int) == 2 then bif decide (1 < ((List.length q6.1.2.1):Int)) then bif decide (1 < ((List.length (ix za q6.1.2.1 1).2.2.2.2.2.1):Int)) then bif List.getD (List.getD (ix za q6.1.2.1 1).2.2.2.2.2.1 (Int.toNat 1) (ze (.arr 4 tU))) (Int.toNat 2) (0:Int) == 1 then bif q7.2.1 == 5 then bif q8.2.1 == 6 then bif q9.2.1 == 5 then bif q10.2.1 == 8 then bif q11.2.1 == 1 then bif decide (1 < ((List.length q1.1.2.1):Int)) then bif List.getD (ix za q1.1.2.1 1).2.2.2.2.2.2.2.1 (Int.toNat 2) (0:Int) == 0 then bif decide (1 < ((List.length q6.1.2.1):Int)) then bif List.getD (ix za q6.1.2.1 1).2.2.2.2.2.2.2.2.1 (Int.toNat 2) (0:Int) == 2 then some (true,()) else some (false,()) else none else some (false,()) else none else some (false,()) else some (false,()) else some (false,()) else some (false,()) else some (false,()) else some (false,()) else none else none else some (false,()) else none else none else some (false,())
abbrev ztK:Fun:=⟨20,.unit,(ch [.bool]),0,jm⟩
theorem zEy:Sq ztK:=zNP (d:=false) (K:=0) Tryz.func20 (by kernel_rfl) (funext fun ()=>by kernel_rfl)
abbrev L14:List Fun:=zAV :: ztK :: L13
theorem h14:Sds Tryz.prog E0 L14:=⟨zKw,zEy,h13⟩
theorem zOq {d:Bool} {F:Fun} {f:Go.Func} {K:Nat} (hf:Tryz.prog.funcs[F.id]? = some f) (ho:jA f = true) (h:evF (En E0 d L14) K f F.md F.a F.r = F.spec):Sd Tryz.prog E0 F:=mkS h14 hf ho h
def P_law30_MoneyTells:(zf × (zb × (pMe × (yc × Unit))))→Option (Bool × Unit):=fun (x0,x1,x2,x3,()) =>
  Option.bind (qB (x1,())) fun q0=>bif decide (x3.1 < 1) then Option.bind (zfj (x0,x1,x2,x3,())) fun q1=>Option.bind (zdB (x0,q0.1,x2,4,x3.2.1,x3.2.2.1,x3.2.2.2.1,x3.2.2.2.2.1,())) fun q2=>Option.bind (yi (x0,x1,x2,())) fun q3=>Option.bind (zaP (x0,x1,x2,())) fun q4=>bif q4.1 then bif q3.2.1 != 0 then some (false,()) else inR x2.2.1 ((List.length x1.2.1):Int) (inR x2.2.2.1 ((List.length (ix za x1.2.1 x2.2.1).2.2.2.2.2.1):Int) (bif !eqI (.arr 4 tU) q3.1 (List.getD (ix za x1.2.1 x2.2.1).2.2.2.2.2.1 (Int.toNat x2.2.2.1) (ze (.arr 4 tU))) then some (false,()) else Option.bind (jm ()) fun q5=>bif q5.1 then Option.bind (qm (q1.1,q2.1,())) fun q6=>bif q6.1 then bif q1.2.1 == q2.2.1 then Option.bind (qm (x1,q0.1,())) fun q7=>bif q7.1 then some (true,()) else some (false,()) else some (false,()) else some (false,()) else some (false,()))) else bif q3.2.1 != 1 then some (false,()) else bif !eqI (.arr 4 tU) q3.1 (ze (.arr 4 tU)) then some (false,()) else Option.bind (jm ()) fun q8=>bif q8.1 then Option.bind (qm (q1.1,q2.1,())) fun q9=>bif q9.1 then bif q1.2.1 == q2.2.1 then Option.bind (qm (x1,q0.1,())) fun q10=>bif q10.1 then some (true,()) else some (false,()) else some (false,()) else some (false,()) else some (false,()) else bif decide (x3.1 > 3) then Option.bind (zfj (x0,x1,x2,x3,())) fun q11=>Option.bind (zdB (x0,q0.1,x2,4,x3.2.1,x3.2.2.1,x3.2.2.2.1,x3.2.2.2.2.1,())) fun q12=>Option.bind (yi (x0,x1,x2,())) fun q13=>Option.bind (zaP (x0,x1,x2,())) fun q14=>bif q14.1 then bif q13.2.1 != 0 then some (false,()) else inR x2.2.1 ((List.length x1.2.1):Int) (inR x2.2.2.1 ((List.length (ix za x1.2.1 x2.2.1).2.2.2.2.2.1):Int) (bif !eqI (.arr 4 tU) q13.1 (List.getD (ix za x1.2.1 x2.2.1).2.2.2.2.2.1 (Int.toNat x2.2.2.1) (ze (.arr 4 tU))) then some (false,()) else Option.bind (jm ()) fun q15=>bif q15.1 then Option.bind (qm (q11.1,q12.1,())) fun q16=>bif q16.1 then bif q11.2.1 == q12.2.1 then Option.bind (qm (x1,q0.1,())) fun q17=>bif q17.1 then some (true,()) else some (false,()) else some (false,()) else some (false,()) else some (false,()))) else bif q13.2.1 != 1 then some (false,()) else bif !eqI (.arr 4 tU) q13.1 (ze (.arr 4 tU)) then some (false,()) else Option.bind (jm ()) fun q18=>bif q18.1 then Option.bind (qm (q11.1,q12.1,())) fun q19=>bif q19.1 then bif q11.2.1 == q12.2.1 then Option.bind (qm (x1,q0.1,())) fun q20=>bif q20.1 then some (true,()) else some (false,()) else some (false,()) else some (false,()) else some (false,()) else Option.bind (zfj (x0,x1,x2,x3,())) fun q21=>Option.bind (zdB (x0,q0.1,x2,x3.1,x3.2.1,x3.2.2.1,x3.2.2.2.1,x3.2.2.2.2.1,())) fun q22=>Option.bind (yi (x0,x1,x2,())) fun q23=>Option.bind (zaP (x0,x1,x2,())) fun q24=>bif q24.1 then bif q23.2.1 != 0 then some (false,()) else inR x2.2.1 ((List.length x1.2.1):Int) (inR x2.2.2.1 ((List.length (ix za x1.2.1 x2.2.1).2.2.2.2.2.1):Int) (bif !eqI (.arr 4 tU) q23.1 (List.getD (ix za x1.2.1 x2.2.1).2.2.2.2.2.1 (Int.toNat x2.2.2.1) (ze (.arr 4 tU))) then some (false,()) else Option.bind (jm ()) fun q25=>bif q25.1 then Option.bind (qm (q21.1,q22.1,())) fun q26=>bif q26.1 then bif q21.2.1 == q22.2.1 then Option.bind (qm (x1,q0.1,())) fun q27=>bif q27.1 then some (true,()) else some (false,()) else some (false,()) else some (false,()) else some (false,()))) else bif q23.2.1 != 1 then some (false,()) else bif !eqI (.arr 4 tU) q23.1 (ze (.arr 4 tU)) then some (false,()) else Option.bind (jm ()) fun q28=>bif q28.1 then Option.bind (qm (q21.1,q22.1,())) fun q29=>bif q29.1 then bif q21.2.1 == q22.2.1 then Option.bind (qm (x1,q0.1,())) fun q30=>bif q30.1 then some (true,()) else some (false,()) else some (false,()) else some (false,()) else some (false,())
abbrev zvL:Fun:=⟨4,(ch [zo,zh,tMe,qL]),(ch [.bool]),0,P_law30_MoneyTells⟩
theorem s_law30_MoneyTells:Sq zvL:=zOq (d:=false) (K:=0) Tryz.func4 (by kernel_rfl) (funext fun (x0,x1,x2,x3,())=>by kernel_rfl)
end
end Go.Proofs.YtgomalidoilgbaaGreatDoor
end
section
namespace Go.Proofs.YtgomalidoilgbaaGreatDoor
open Go.Ev
theorem zAW {l:List Int} {g:Int × Unit→Option (Bool × Unit)} {p:Int→Bool} (hl:l.length ≤ Go.maxLen) (hp:∀ x ∈ l,g (x,()) = some (p x,())):zb6 (l,some g,()) = some (vd p l 0,()):=qQ (τ:=tI) (B:=zeY) (fun _ _ _ _ _=>rfl) hl hp
theorem zdg {l:List Int} {g:Int × Unit→Option (Bool × Unit)} {p:Int→Bool} (hl:l.length ≤ Go.maxLen) (hp:∀ x ∈ l,g (x,()) = some (p x,())):qK (l,some g,()) = some (l.any p,()):=qs (τ:=tI) (f:=zb6) (zAW hl hp)
theorem zwz {l:List zz} {g:zz × Unit→Option (Bool × Unit)} {p:zz→Bool} (hl:l.length ≤ Go.maxLen) (hp:∀ x ∈ l,g (x,()) = some (p x,())):zaD (l,some g,()) = some (vd p l 0,()):=qQ (τ:=zq) (B:=zdo) (fun _ _ _ _ _=>rfl) hl hp
theorem zkn {l:List zz} {g:zz × Unit→Option (Bool × Unit)} {p:zz→Bool} (hl:l.length ≤ Go.maxLen) (hp:∀ x ∈ l,g (x,()) = some (p x,())):yl (l,some g,()) = some (l.any p,()):=qs (τ:=zq) (f:=zaD) (zwz hl hp)
theorem zug {l:List qy} {g:qy × Unit→Option (Bool × Unit)} {p:qy→Bool} (hl:l.length ≤ Go.maxLen) (hp:∀ x ∈ l,g (x,()) = some (p x,())):yU (l,some g,()) = some (vd p l 0,()):=qQ (τ:=qD) (B:=za7) (fun _ _ _ _ _=>rfl) hl hp
theorem zqx {l:List qy} {g:qy × Unit→Option (Bool × Unit)} {p:qy→Bool} (hl:l.length ≤ Go.maxLen) (hp:∀ x ∈ l,g (x,()) = some (p x,())):zaI (l,some g,()) = some (l.any p,()):=qs (τ:=qD) (f:=yU) (zug hl hp)
theorem zwA {l:List zn} {g:zn × Unit→Option (Bool × Unit)} {p:zn→Bool} (hl:l.length ≤ Go.maxLen) (hp:∀ x ∈ l,g (x,()) = some (p x,())):zaE (l,some g,()) = some (vd p l 0,()):=qQ (τ:=zl) (B:=zdq) (fun _ _ _ _ _=>rfl) hl hp
theorem zsy {l:List zn} {g:zn × Unit→Option (Bool × Unit)} {p:zn→Bool} (hl:l.length ≤ Go.maxLen) (hp:∀ x ∈ l,g (x,()) = some (p x,())):j3 (l,some g,()) = some (l.any p,()):=qs (τ:=zl) (f:=zaE) (zwA hl hp)
theorem zyD {l:List qT} {g:qT × Unit→Option (Bool × Unit)} {p:qT→Bool} (hl:l.length ≤ Go.maxLen) (hp:∀ x ∈ l,g (x,()) = some (p x,())):zbD (l,some g,()) = some (vd p l 0,()):=qQ (τ:=qa) (B:=zd2) (fun _ _ _ _ _=>rfl) hl hp
theorem zuh {l:List qT} {g:qT × Unit→Option (Bool × Unit)} {p:qT→Bool} (hl:l.length ≤ Go.maxLen) (hp:∀ x ∈ l,g (x,()) = some (p x,())):zdx (l,some g,()) = some (l.any p,()):=qs (τ:=qa) (f:=zbD) (zyD hl hp)
theorem zyE {l:List qc} {g:qc × Unit→Option (Bool × Unit)} {p:qc→Bool} (hl:l.length ≤ Go.maxLen) (hp:∀ x ∈ l,g (x,()) = some (p x,())):zbE (l,some g,()) = some (vd p l 0,()):=qQ (τ:=zw) (B:=zd4) (fun _ _ _ _ _=>rfl) hl hp
theorem zkR {l:List qc} {g:qc × Unit→Option (Bool × Unit)} {p:qc→Bool} (hl:l.length ≤ Go.maxLen) (hp:∀ x ∈ l,g (x,()) = some (p x,())):jt (l,some g,()) = some (l.any p,()):=qs (τ:=zw) (f:=zbE) (zyE hl hp)
theorem zyF {l:List qq} {g:qq × Unit→Option (Bool × Unit)} {p:qq→Bool} (hl:l.length ≤ Go.maxLen) (hp:∀ x ∈ l,g (x,()) = some (p x,())):zbF (l,some g,()) = some (vd p l 0,()):=qQ (τ:=zV) (B:=zd5) (fun _ _ _ _ _=>rfl) hl hp
theorem zkS {l:List qq} {g:qq × Unit→Option (Bool × Unit)} {p:qq→Bool} (hl:l.length ≤ Go.maxLen) (hp:∀ x ∈ l,g (x,()) = some (p x,())):ju (l,some g,()) = some (l.any p,()):=qs (τ:=zV) (f:=zbF) (zyF hl hp)
theorem zwB {l:List zv} {g:zv × Unit→Option (Bool × Unit)} {p:zv→Bool} (hl:l.length ≤ Go.maxLen) (hp:∀ x ∈ l,g (x,()) = some (p x,())):zaF (l,some g,()) = some (vd p l 0,()):=qQ (τ:=zx) (B:=zdt) (fun _ _ _ _ _=>rfl) hl hp
theorem zko {l:List zv} {g:zv × Unit→Option (Bool × Unit)} {p:zv→Bool} (hl:l.length ≤ Go.maxLen) (hp:∀ x ∈ l,g (x,()) = some (p x,())):jh (l,some g,()) = some (l.any p,()):=qs (τ:=zx) (f:=zaF) (zwB hl hp)
theorem zwC {l:List zt} {g:zt × Unit→Option (Bool × Unit)} {p:zt→Bool} (hl:l.length ≤ Go.maxLen) (hp:∀ x ∈ l,g (x,()) = some (p x,())):zaG (l,some g,()) = some (vd p l 0,()):=qQ (τ:=zp) (B:=zdu) (fun _ _ _ _ _=>rfl) hl hp
theorem zsz {l:List zt} {g:zt × Unit→Option (Bool × Unit)} {p:zt→Bool} (hl:l.length ≤ Go.maxLen) (hp:∀ x ∈ l,g (x,()) = some (p x,())):j4 (l,some g,()) = some (l.any p,()):=qs (τ:=zp) (f:=zaG) (zwC hl hp)
theorem zwD {l:List zH} {g:zH × Unit→Option (Bool × Unit)} {p:zH→Bool} (hl:l.length ≤ Go.maxLen) (hp:∀ x ∈ l,g (x,()) = some (p x,())):zaH (l,some g,()) = some (vd p l 0,()):=qQ (τ:=zu) (B:=zdv) (fun _ _ _ _ _=>rfl) hl hp
theorem zsA {l:List zH} {g:zH × Unit→Option (Bool × Unit)} {p:zH→Bool} (hl:l.length ≤ Go.maxLen) (hp:∀ x ∈ l,g (x,()) = some (p x,())):j5 (l,some g,()) = some (l.any p,()):=qs (τ:=zu) (f:=zaH) (zwD hl hp)
theorem zoo {l:List qb} {g:qb × Unit→Option (Bool × Unit)} {p:qb→Bool} (hl:l.length ≤ Go.maxLen) (hp:∀ x ∈ l,g (x,()) = some (p x,())):yr (l,some g,()) = some (vd p l 0,()):=qQ (τ:=zO) (B:=zd3) (fun _ _ _ _ _=>rfl) hl hp
theorem zui {l:List qb} {g:qb × Unit→Option (Bool × Unit)} {p:qb→Bool} (hl:l.length ≤ Go.maxLen) (hp:∀ x ∈ l,g (x,()) = some (p x,())):vl (l,some g,()) = some (l.any p,()):=qs (τ:=zO) (f:=yr) (zoo hl hp)
theorem zAX {l:List vI} {g:vI × Unit→Option (Bool × Unit)} {p:vI→Bool} (hl:l.length ≤ Go.maxLen) (hp:∀ x ∈ l,g (x,()) = some (p x,())):zca (l,some g,()) = some (vd p l 0,()):=qQ (τ:=zL) (B:=ze5) (fun _ _ _ _ _=>rfl) hl hp
theorem zvM {l:List vI} {g:vI × Unit→Option (Bool × Unit)} {p:vI→Bool} (hl:l.length ≤ Go.maxLen) (hp:∀ x ∈ l,g (x,()) = some (p x,())):vC (l,some g,()) = some (l.any p,()):=qs (τ:=zL) (f:=zca) (zAX hl hp)
theorem zyG {l:List Int} {g:Int × Unit→Option (Bool × Unit)} {p:Int→Bool} (hl:l.length ≤ Go.maxLen) (hp:∀ x ∈ l,g (x,()) = some (p x,())):zbB (l,some g,()) = some (vd p l 0,()):=qQ (τ:=(Ty.int .u8)) (B:=zdZ) (fun _ _ _ _ _=>rfl) hl hp
theorem zuj {l:List Int} {g:Int × Unit→Option (Bool × Unit)} {p:Int→Bool} (hl:l.length ≤ Go.maxLen) (hp:∀ x ∈ l,g (x,()) = some (p x,())):vk (l,some g,()) = some (l.any p,()):=qs (τ:=(Ty.int .u8)) (f:=zbB) (zyG hl hp)
theorem zIL {l:List zn} {g:zn × Unit→Option (Bool × Unit)} {p:zn→Bool} (hl:l.length ≤ Go.maxLen) (hp:∀ x ∈ l,g (x,()) = some (p x,())):zhB (l,some g,()) = some (l.all p,()):=by
  have h:j3 (l,some fun z=>zbC (z.1,some (some g),()),()) = some (l.any fun x=>!p x,()):=zsy hl fun x hx=>by
    show Option.bind (g (x,())) (fun q=>bif q.1 then some (false,()) else some (true,())) = _
    rw [hp x hx]; cases p x <;> rfl
  show Option.bind (j3 (l,some fun z=>zbC (z.1,some (some g),()),())) (fun q=>bif q.1 then some (false,()) else some (true,())) = _
  rw [h,← j9]; cases l.any fun x=>!p x <;> rfl
theorem zIM {l:List zt} {g:zt × Unit→Option (Bool × Unit)} {p:zt→Bool} (hl:l.length ≤ Go.maxLen) (hp:∀ x ∈ l,g (x,()) = some (p x,())):zhC (l,some g,()) = some (l.all p,()):=by
  have h:j4 (l,some fun z=>zbG (z.1,some (some g),()),()) = some (l.any fun x=>!p x,()):=zsz hl fun x hx=>by
    show Option.bind (g (x,())) (fun q=>bif q.1 then some (false,()) else some (true,())) = _
    rw [hp x hx]; cases p x <;> rfl
  show Option.bind (j4 (l,some fun z=>zbG (z.1,some (some g),()),())) (fun q=>bif q.1 then some (false,()) else some (true,())) = _
  rw [h,← j9]; cases l.any fun x=>!p x <;> rfl
theorem zIN {l:List zH} {g:zH × Unit→Option (Bool × Unit)} {p:zH→Bool} (hl:l.length ≤ Go.maxLen) (hp:∀ x ∈ l,g (x,()) = some (p x,())):zdO (l,some g,()) = some (l.all p,()):=by
  have h:j5 (l,some fun z=>zbH (z.1,some (some g),()),()) = some (l.any fun x=>!p x,()):=zsA hl fun x hx=>by
    show Option.bind (g (x,())) (fun q=>bif q.1 then some (false,()) else some (true,())) = _
    rw [hp x hx]; cases p x <;> rfl
  show Option.bind (j5 (l,some fun z=>zbH (z.1,some (some g),()),())) (fun q=>bif q.1 then some (false,()) else some (true,())) = _
  rw [h,← j9]; cases l.any fun x=>!p x <;> rfl
theorem zLR {l:List Int} {g:Int × Unit→Option (Bool × Unit)} {p:Int→Bool} (hl:l.length ≤ Go.maxLen) (hp:∀ x ∈ l,g (x,()) = some (p x,())):zad (l,some g,()) = some (l.all p,()):=by
  have h:qK (l,some fun z=>zdK (z.1,some (some g),()),()) = some (l.any fun x=>!p x,()):=zdg hl fun x hx=>by
    show Option.bind (g (x,())) (fun q=>bif q.1 then some (false,()) else some (true,())) = _
    rw [hp x hx]; cases p x <;> rfl
  show Option.bind (qK (l,some fun z=>zdK (z.1,some (some g),()),())) (fun q=>bif q.1 then some (false,()) else some (true,())) = _
  rw [h,← j9]; cases l.any fun x=>!p x <;> rfl
theorem zKx {l:List qb} {g:qb × Unit→Option (Bool × Unit)} {p:qb→Bool} (hl:l.length ≤ Go.maxLen) (hp:∀ x ∈ l,g (x,()) = some (p x,())):ziQ (l,some g,()) = some (l.all p,()):=by
  have h:vl (l,some fun z=>zb7 (z.1,some (some g),()),()) = some (l.any fun x=>!p x,()):=zui hl fun x hx=>by
    show Option.bind (g (x,())) (fun q=>bif q.1 then some (false,()) else some (true,())) = _
    rw [hp x hx]; cases p x <;> rfl
  show Option.bind (vl (l,some fun z=>zb7 (z.1,some (some g),()),())) (fun q=>bif q.1 then some (false,()) else some (true,())) = _
  rw [h,← j9]; cases l.any fun x=>!p x <;> rfl
theorem zAY {l:List qc} {g:qc × Unit→Option (Bool × Unit)} {p:qc→Bool} (hl:l.length ≤ Go.maxLen) (hp:∀ x ∈ l,g (x,()) = some (p x,())):yN (l,some g,()) = some (l.all p,()):=by
  have h:jt (l,some fun z=>zb9 (z.1,some (some g),()),()) = some (l.any fun x=>!p x,()):=zkR hl fun x hx=>by
    show Option.bind (g (x,())) (fun q=>bif q.1 then some (false,()) else some (true,())) = _
    rw [hp x hx]; cases p x <;> rfl
  show Option.bind (jt (l,some fun z=>zb9 (z.1,some (some g),()),())) (fun q=>bif q.1 then some (false,()) else some (true,())) = _
  rw [h,← j9]; cases l.any fun x=>!p x <;> rfl
theorem zLS {l:List vI} {g:vI × Unit→Option (Bool × Unit)} {p:vI→Bool} (hl:l.length ≤ Go.maxLen) (hp:∀ x ∈ l,g (x,()) = some (p x,())):zj1 (l,some g,()) = some (l.all p,()):=by
  have h:vC (l,some fun z=>zdL (z.1,some (some g),()),()) = some (l.any fun x=>!p x,()):=zvM hl fun x hx=>by
    show Option.bind (g (x,())) (fun q=>bif q.1 then some (false,()) else some (true,())) = _
    rw [hp x hx]; cases p x <;> rfl
  show Option.bind (vC (l,some fun z=>zdL (z.1,some (some g),()),())) (fun q=>bif q.1 then some (false,()) else some (true,())) = _
  rw [h,← j9]; cases l.any fun x=>!p x <;> rfl
theorem zKy {l:List qq} {g:qq × Unit→Option (Bool × Unit)} {p:qq→Bool} (hl:l.length ≤ Go.maxLen) (hp:∀ x ∈ l,g (x,()) = some (p x,())):yO (l,some g,()) = some (l.all p,()):=by
  have h:ju (l,some fun z=>zcb (z.1,some (some g),()),()) = some (l.any fun x=>!p x,()):=zkS hl fun x hx=>by
    show Option.bind (g (x,())) (fun q=>bif q.1 then some (false,()) else some (true,())) = _
    rw [hp x hx]; cases p x <;> rfl
  show Option.bind (ju (l,some fun z=>zcb (z.1,some (some g),()),())) (fun q=>bif q.1 then some (false,()) else some (true,())) = _
  rw [h,← j9]; cases l.any fun x=>!p x <;> rfl
theorem zIO {l:List zv} {g:zv × Unit→Option (Bool × Unit)} {p:zv→Bool} (hl:l.length ≤ Go.maxLen) (hp:∀ x ∈ l,g (x,()) = some (p x,())):qM (l,some g,()) = some (l.all p,()):=by
  have h:jh (l,some fun z=>zbI (z.1,some (some g),()),()) = some (l.any fun x=>!p x,()):=zko hl fun x hx=>by
    show Option.bind (g (x,())) (fun q=>bif q.1 then some (false,()) else some (true,())) = _
    rw [hp x hx]; cases p x <;> rfl
  show Option.bind (jh (l,some fun z=>zbI (z.1,some (some g),()),())) (fun q=>bif q.1 then some (false,()) else some (true,())) = _
  rw [h,← j9]; cases l.any fun x=>!p x <;> rfl
theorem ztL {l:List zt} (hl:l.length ≤ lim):zeV (l,()) = some (l,()):=ye (τ:=zp) hl rfl
theorem zEz {l:List zH} (hl:l.length ≤ lim):ziF (l,()) = some (l,()):=ye (τ:=zu) hl rfl
theorem zxq {l:List Int} (hl:l.length ≤ lim):zgU (l,()) = some (l,()):=ye (τ:=tI) hl rfl
theorem zGZ {l:List (List Int)} (hl:l.length ≤ lim):zjq (l,()) = some (l,()):=ye (τ:=(Ty.sl tI)) hl rfl
theorem zEA {l:List zn} (hl:l.length ≤ lim):ziG (l,()) = some (l,()):=ye (τ:=zl) hl rfl
theorem zG0 {l:List qT} (hl:l.length ≤ lim):zjr (l,()) = some (l,()):=ye (τ:=qa) hl rfl
theorem zG1 {l:List qb} (hl:l.length ≤ lim):zjs (l,()) = some (l,()):=ye (τ:=zO) hl rfl
theorem zG2 {l:List qc} (hl:l.length ≤ lim):zjt (l,()) = some (l,()):=ye (τ:=zw) hl rfl
theorem zG3 {l:List qq} (hl:l.length ≤ lim):zju (l,()) = some (l,()):=ye (τ:=zV) hl rfl
theorem zmz {l:List zv} (hl:l.length ≤ lim):zeW (l,()) = some (l,()):=ye (τ:=zx) hl rfl
theorem zKz {l:List (List Int)} (hl:l.length ≤ lim):zl9 (l,()) = some (l,()):=ye (τ:=(Ty.arr 4 tU)) hl rfl
theorem zIP {l:List vI} (hl:l.length ≤ lim):zk0 (l,()) = some (l,()):=ye (τ:=zL) hl rfl
end Go.Proofs.YtgomalidoilgbaaGreatDoor
end
section
namespace Go.Proofs.YtgomalidoilgbaaGreatDoor
open Go.Ev
theorem zwc:∃ m,K0 = m + 8:=⟨Go.maxLen - 6,by unfold K0 Go.maxLen; omega⟩
def zU (x a b:Int):Bool:=decide (a ≤ x ∧ x ≤ b)
theorem zfk (x a b:Int):qt (x,a,b,()) = some (zU x a b,()):=by
  simp only [qt,zU]; grind
def zah (a:zz):Bool:=zU a.1 0 3
theorem zEB (a:zz):zib (a,()) = some (zah a,()):=by
  simp only [zib,zah,zU]; grind
theorem zKA (a:zz):ze8 (a,()) = some (!zah a,()):=by
  simp only [ze8,zEB,Option.bind_some]; grind
theorem zEC (a:zz):zie (a,()) = some (zah a,()):=by
  rw [zC]
  simp only [zie,zah,zU]
  grind
def zkp (x y:Int):Int:=bif decide (x < y) then -1 else bif decide (y < x) then 1 else 0
theorem zIQ (x:Int):zaa (x,()) = some (false,()):=by
  simp only [zaa]; grind
theorem zCy (x:Int):vw (x,()) = some (false,()):=by
  simp only [vw]; grind
theorem ztM (x y:Int):zax (x,y,()) = some (zkp x y,()):=by
  simp only [zax,zIQ,Option.bind_some,zkp]; grind
theorem zop (x y:Int):vS (x,y,()) = some (zkp x y,()):=by
  simp only [vS,zCy,Option.bind_some,zkp]; grind
def orV (a b:Int):Int:=bif a != 0 then a else b
theorem zNQ (a b:Int):zdY ([a,b],()) = some (orV a b,()):=by
  show zg je K0 (0,[a,b],2,0) = _
  obtain ⟨m,hm⟩:=zwc
  rw [hm]
  show je (je (je (zg je (m + 5)))) (0,[a,b],2,0) = _
  have h:je (je (je (zg je (m + 5)))) (0,[a,b],2,0) = bif a != 0 then some (a,()) else bif b != 0 then some (b,()) else some (0,()):=by kernel_rfl
  rw [h]; unfold orV; grind
def zgB (a b:zz):Int:=orV (zkp a.1 b.1) (zkp a.2.1 b.2.1)
theorem zIR (a b:zz):zlx (a,b,()) = some (zgB a b,()):=by
  simp only [zlx,ztM,zop,Option.bind_some]
  show Option.bind (zdY ([zkp a.1 b.1,zkp a.2.1 b.2.1],())) _ = _
  rw [zNQ]; rfl
theorem zpS (a b:zz):eqI zq a b = ((a.1:Int) == b.1 && (a.2.1:Int) == b.2.1):=by
  show cond ((a.1:Int) == b.1) (cond ((a.2.1:Int) == b.2.1) true false) false = _
  cases ((a.1:Int) == b.1) <;> cases ((a.2.1:Int) == b.2.1) <;> rfl
theorem zIS (a b:zz):zlu (a,b,()) = some (zgB a b,()):=by
  simp only [zlu,zpS,zgB,orV,zkp]; grind
def zbT (l:List zz):Bool:=zU (l.length:Int) 1 8 && (eqI zq (l.getD 0 (ze zq)) (ze zq) && (l.all zah && zW (fun i=>decide (zgB (l.getD (i - 1) (ze zq)) (l.getD i (ze zq)) < 0)) 1 (l.length - 1)))
theorem zKB {α:Type} {d:α} {l:List α}:ix d l 0 = l.getD 0 d:=rfl
theorem zMF (r:zf):vF (r,()) = some (zbT r.1,()):=by
  simp only [vF,zha,zfk,Option.bind_some]
  by_cases hw:zU (List.length r.1:Int) 1 8 = true
  · have hb:1 ≤ List.length r.1 ∧ List.length r.1 ≤ 8:=by unfold zU at hw; grind
    have hl:List.length r.1 ≤ Go.maxLen:=by unfold Go.maxLen; omega
    have hloop:ziR K0 (1,r) = bif zW (fun i=>decide (zgB (List.getD r.1 (i - 1) (ze zq)) (List.getD r.1 i (ze zq)) < 0)) 1 (List.length r.1 - 1) then some (true,()) else some (false,()) :=
      z7 (i0:=1) hl hb.1 (fun i=>(i,r)) (fun k i h1 h2=>by
        simp only [zfg]
        rw [ltT h2,zi2 h1 (by omega),zj (by omega),zj h2,zG,Int.toNat_natCast,zIR]
        simp only [cond_true,Option.bind_some]; grind) (fun k=>by simp only [zfg]; rw [ltF]; rfl)
    rw [zkn (p:=fun a=>!zah a) hl fun x _=>zKA x,hloop,zKB]
    have:=j9 (l:=r.1) (p:=zah)
    unfold zbT
    simp only [Option.bind_some]
    grind
  · unfold zbT; grind
theorem zCz (l:List zz):zg3 (l,()) = some (zbT l,()):=by
  simp only [zg3,zg2]
  by_cases hw:zU (List.length l:Int) 1 8 = true
  · have hb:1 ≤ List.length l ∧ List.length l ≤ 8:=by unfold zU at hw; grind
    have hl:List.length l ≤ Go.maxLen:=by unfold Go.maxLen; omega
    have hloop:ziL K0 (l,1) = bif zW (fun i=>zah (List.getD l i (ze zq)) && decide (zgB (List.getD l (i - 1) (ze zq)) (List.getD l i (ze zq)) < 0)) 1 (List.length l - 1) then some (true,()) else some (false,()) :=
      z7 (i0:=1) hl hb.1 (fun i=>(l,i)) (fun k i h1 h2=>by
        simp only [zfb]
        rw [ltT h2,zi2 h1 (by omega),zj h2,zj (by omega),zj h2,zG,Int.toNat_natCast,zIS,zEC]
        simp only [cond_true,Option.bind_some]; grind) (fun k=>by simp only [zfb]; rw [ltF]; rfl)
    rw [hloop,zKB]
    have h0:eqI zq (l.getD 0 (ze zq)) (ze zq) = true→zah (l.getD 0 (ze zq)) = true:=fun h=>by
      rw [zpS] at h
      have:(l.getD 0 (ze zq)).1 = (0:Int):=by have:(ze zq).1 = (0:Int):=rfl; grind
      unfold zah zU; grind
    have hsplit:zah (l.getD 0 (ze zq)) = true→zW (fun i=>zah (List.getD l i (ze zq)) && decide (zgB (List.getD l (i - 1) (ze zq)) (List.getD l i (ze zq)) < 0)) 1 (List.length l - 1) = (l.all zah && zW (fun i=>decide (zgB (l.getD (i - 1) (ze zq)) (l.getD i (ze zq)) < 0)) 1 (l.length - 1)):=fun h0=>by
      rw [Bool.eq_iff_iff,Bool.and_eq_true,qP,qP,List.all_eq_true]
      constructor
      · intro h
        refine ⟨fun x hx=>?_,fun j h1 h2=>?_⟩
        · obtain ⟨i,hi,rfl⟩:=List.mem_iff_getElem.1 hx
          have e:l.getD i (ze zq) = l[i]:=by simp [List.getD,hi]
          rw [← e]
          by_cases hz:i = 0
          · subst hz; exact h0
          · have:=h i (by omega) (by omega); grind
        · have:=h j h1 h2; grind
      · rintro ⟨h1,h2⟩ j h3 h4
        have:=h2 j h3 h4
        have:=h1 _ (zX (d:=ze zq) (show j < l.length by omega))
        grind
    unfold zbT
    grind
  · unfold zbT zU at *; grind
end Go.Proofs.YtgomalidoilgbaaGreatDoor
end
section
namespace Go.Proofs.YtgomalidoilgbaaGreatDoor
open Go.Ev
def small (c:Int):Bool:=decide (97 ≤ c ∧ c ≤ 122)
def zwd (c:Int):Bool:=decide (48 ≤ c ∧ c ≤ 57)
theorem zJD (c:Int):zgo (c,()) = some (small c,()):=by
  simp only [zgo,small]; grind
theorem zNh (c:Int):zjy (c,()) = some (zwd c,()):=by
  simp only [zjy,zwd]; grind
def zFf (c:Int):Bool:=small c || zwd c
theorem zNR (c:Int):zgZ (c,()) = some (zFf c,()):=by
  simp only [zgZ,zJD,zNh,Option.bind_some,zFf]; grind
def zgC (s:ByteArray):List Int:=List.map (fun b:UInt8=>(b.toNat:Int)) s.data.toList
def chr (s:ByteArray) (i:Nat):Int:=(((s.data.toList).getD i 0).toNat:Int)
theorem zmA (s:ByteArray):(zgC s).length = s.size:=by unfold zgC; rw [List.length_map]; rfl
theorem zng (s:ByteArray):s.data.toList.length = s.size:=rfl
theorem zAZ (s:ByteArray) (p:Int→Bool):(zgC s).all p = zW (fun i=>p (chr s i)) 0 s.size:=by
  rw [Bool.eq_iff_iff,qP,List.all_eq_true]
  have key:∀ i,i < s.size→(zgC s)[i]? = some (chr s i):=fun i hi=>by
    unfold zgC chr
    rw [List.getElem?_map,List.getElem?_eq_getElem (by rw [zng]; exact hi)]
    simp [List.getD,zng,hi]
  constructor
  · intro h j _ hj
    exact h _ (List.mem_of_getElem? (key j (by omega)))
  · intro h x hx
    obtain ⟨i,hi,rfl⟩:=List.mem_iff_getElem.1 hx
    rw [zmA] at hi
    have:=key i hi
    rw [List.getElem?_eq_getElem (by rw [zmA]; exact hi)] at this
    rw [Option.some.inj this]
    exact h i (by omega) (by omega)
theorem zA0 {s:ByteArray} {g:Int × Unit→Option (Bool × Unit)} {p:Int→Bool} (hl:s.size ≤ Go.maxLen) (hp:∀ c,g (c,()) = some (p c,())):zm4 (s,some g,()) = some ((zgC s).all p,()):=by
  have h:vk (zgC s,some fun z=>zjx (z.1,some (some g),()),()) = some ((zgC s).any fun x=>!p x,()):=zuj (by rw [zmA]; exact hl) fun x hx=>by
    show Option.bind (g (x,())) (fun q=>bif q.1 then some (false,()) else some (true,())) = _
    rw [hp x]; cases p x <;> rfl
  show Option.bind (vk (zgC s,some fun z=>zjx (z.1,some (some g),()),())) (fun q=>bif q.1 then some (false,()) else some (true,())) = _
  rw [h,← j9]; cases (zgC s).any fun x=>!p x <;> rfl
def zkq (s:ByteArray):Bool:=decide (1 ≤ s.size) && (decide (s.size ≤ 12) && zW (fun i=>small (chr s i) || (decide (i ≠ 0) && zwd (chr s i))) 0 s.size)
theorem zMG (s:ByteArray):zkq s = (decide (1 ≤ s.size) && (decide (s.size ≤ 12) && (small (chr s 0) && (zgC s).all zFf))):=by
  rw [zAZ,zkq,Bool.eq_iff_iff]
  simp only [Bool.and_eq_true,decide_eq_true_eq,qP,zFf]
  constructor
  · rintro ⟨h1,h2,h3⟩
    have:=h3 0 (by omega) (by omega)
    refine ⟨h1,h2,by grind,fun j h4 h5=>?_⟩
    have:=h3 j h4 h5
    grind
  · rintro ⟨h1,h2,h3,h4⟩
    refine ⟨h1,h2,fun j h5 h6=>?_⟩
    have:=h4 j h5 h6
    by_cases e:j = 0
    · subst e; grind
    · grind
theorem zoq (s:ByteArray):zbo (s,()) = some (zkq s,()):=by
  rw [zC]
  simp only [zbo]
  rw [zMG]
  by_cases h1:s.size < 1
  · grind
  by_cases h2:s.size > 12
  · grind
  rw [zA0 (by unfold Go.maxLen; omega) zNR]
  have hc:((UInt8.toNat (List.getD s.data.toList (Int.toNat 0) 0):Nat):Int) = chr s 0:=rfl
  rw [hc,zJD]
  simp only [Option.bind_some]
  grind
theorem zmB (s:ByteArray):zD (s,()) = some (zkq s,()):=by
  rw [zC]
  simp only [zD,zif]
  unfold zkq
  by_cases h1:s.size < 1
  · have:s.size = 0:=by omega
    grind
  by_cases h2:s.size > 12
  · grind
  have hloop:zjJ K0 (s,0) = bif zW (fun i=>small (chr s i) || (decide (i ≠ 0) && zwd (chr s i))) 0 (s.size - 0) then some (true,()) else some (false,()) :=
    z7 (i0:=0) (n:=s.size) (by unfold Go.maxLen; omega) (Nat.zero_le _) (fun i=>(s,i)) (fun k i h3 h4=>by
      simp only [zf1]
      have hc:((UInt8.toNat (List.getD s.data.toList (Int.toNat (i:Int)) 0):Nat):Int) = chr s i:=by rw [Int.toNat_natCast]; rfl
      rw [hc]
      simp only [ltT h4,zj h4,cond_true,small,zwd]
      grind) (fun k=>by simp only [zf1]; rw [ltF]; rfl)
  rw [hloop]
  grind
def zdh (a:qy):Bool:=zkq a.1 && (zkq a.2.1 && zU a.2.2.1 0 3)
theorem zG4 (a:qy):zcM (a,()) = some (!zdh a,()):=by
  simp only [zcM,zoq,zfk,Option.bind_some,zdh]; grind
theorem zvN {α:Type} (d x:α):zk (List.replicate 1 d) 0 x = [x]:=rfl
theorem zNS {n:Nat} (h:n ≤ 1000000):decide (n ≤ lim) = true:=decide_eq_true (by unfold lim; omega)
theorem zIT (r:zf) (h:r.2.2.1.length ≤ 1000):zhw (r,()) = some (r.2.2.1.map (·.1),()):=by
  have hl:r.2.2.1.length ≤ Go.maxLen:=by unfold Go.maxLen; omega
  have:=zfH (B:=yq) (α:=List ByteArray) (len:=r.2.2.1.length) hl (fun i o=>(r.2.2.1,(r.2.2.1.length:Int),i,o)) (fun i o=>some (o ++ (r.2.2.1.drop i).map (·.1),())) (fun i o=>o.length ≤ i) (fun k i s hi hI hk=>by
    simp only [yq]
    rw [ltT hi,zj hi,zG,zvN,zNS (by simp; omega)]
    simp only [cond_true]
    rw [hk _ (by simp; omega),zb3 qo hi]
    simp) (fun k s _=>by
    simp only [yq]
    rw [ltF,List.drop_of_length_le (Nat.le_refl _)]
    simp) [] (Nat.le_refl _)
  exact this
def zgD:List ByteArray→Bool
  | []=>true
  | x :: l=>!(l.any fun y=>eqI .str x y) && zgD l
theorem zrJ (x y:ByteArray):eqI .str x y = (x.toList == y.toList):=rfl
theorem zLT (o:List (ByteArray × Int)) (x z:ByteArray) (v:Int):jJ .str (jM .str o x v) z = (jJ .str o z || eqI .str z x):=by
  induction o with
  | nil=>simp only [jM,jJ]; cases eqI .str z x <;> rfl
  | cons e o ih =>
    simp only [jM,jJ]
    cases h:eqI .str x e.1 with
    | true =>
      simp only [cond_true,jJ]
      have:eqI .str z e.1 = eqI .str z x:=by rw [zrJ] at *; rw [zrJ]; have:=eq_of_beq h; rw [this]
      cases h2:eqI .str z e.1 with
      | true=>rfl
      | false=>rw [← this,h2]; simp
    | false =>
      simp only [cond_false,jJ,ih]
      cases eqI .str z e.1 <;> rfl
theorem zG5 (o:List (ByteArray × Int)) (x:ByteArray) (v:Int):(jM .str o x v).length = o.length + (bif jJ .str o x then 0 else 1):=by
  induction o with
  | nil=>rfl
  | cons e o ih =>
    simp only [jM,jJ]
    cases h:eqI .str x e.1 with
    | true=>simp only [cond_true,List.length_cons,Nat.add_zero]
    | false =>
      simp only [cond_false,List.length_cons,ih]
      generalize (bif jJ .str o x then 0 else 1) = n
      omega
def zsB:List ByteArray→List (ByteArray × Int)→Nat
  | [],o=>o.length
  | x :: l,o=>zsB l (jM .str o x (wI (zaA .str (0:Int) o x + 1)))
theorem zJE:∀ (l:List ByteArray) (o:List (ByteArray × Int)),zsB l o ≤ o.length + l.length
  | [],o=>Nat.le_refl _
  | x :: l,o=>by
    have h:=zJE l (jM .str o x (wI (zaA .str (0:Int) o x + 1)))
    rw [zG5] at h
    simp only [zsB,List.length_cons]
    cases hm:jJ .str o x <;> (rw [hm] at h; simp only [cond_true,cond_false] at h; omega)
theorem zJF:∀ (l:List ByteArray) (o:List (ByteArray × Int)),(zsB l o == o.length + l.length) = (zgD l && l.all fun x=>!jJ .str o x)
  | [],o=>by simp [zsB,zgD]
  | x :: l,o=>by
    have h:=zJE l (jM .str o x (wI (zaA .str (0:Int) o x + 1)))
    have ih:=zJF l (jM .str o x (wI (zaA .str (0:Int) o x + 1)))
    rw [zG5] at h ih
    simp only [zsB,List.length_cons,zgD,List.all_cons]
    cases hm:jJ .str o x with
    | true =>
      rw [hm] at h
      simp only [cond_true] at h
      have:(zsB l (jM .str o x (wI (zaA .str (0:Int) o x + 1))) == o.length + (l.length + 1)) = false:=by
        simp only [beq_eq_false_iff_ne]; omega
      rw [this]
      simp
    | false =>
      rw [hm] at ih
      simp only [cond_false] at ih
      rw [show o.length + (l.length + 1) = o.length + 1 + l.length by omega,ih]
      simp only [zLT,Bool.not_or,Bool.not_false,Bool.true_and]
      have:(l.all fun z=>!jJ .str o z && !eqI .str z x) = ((l.all fun z=>!jJ .str o z) && !(l.any fun y=>eqI .str x y)):=by
        rw [Bool.eq_iff_iff]
        simp only [List.all_eq_true,Bool.and_eq_true,Bool.not_eq_true',List.any_eq_false,Bool.not_eq_true]
        have hs:∀ z,eqI .str z x = eqI .str x z:=fun z=>by rw [zrJ,zrJ]; exact Bool.beq_comm
        grind
      rw [this]
      cases zgD l <;> cases (l.all fun z=>!jJ .str o z) <;> cases (l.any fun y=>eqI .str x y) <;> rfl
theorem zLU (m n:Nat):(((m:Nat):Int) == ((n:Nat):Int)) = (m == n):=by
  rw [Bool.eq_iff_iff]; simp only [beq_iff_eq]; omega
theorem zNi (l:List ByteArray) (h:l.length ≤ 1000):znE (l,()) = some (zgD l,()):=by
  have:=zo2 (B:=zd1) (l:=l) (α:=List (ByteArray × Int)) (ze .str) (fun i o=>(l,l,(l.length:Int),i,o)) (fun rest o=>some (zsB rest o == l.length,())) (by unfold Go.maxLen; omega) (fun k i x rest s hi hx _ hr hk=>by
    simp only [zd1]
    rw [ltT hi,zj hi,Int.toNat_natCast,hx]
    simp only [cond_true]
    exact hk _) (fun k s=>by
    simp only [zd1]
    rw [ltF]
    simp only [cond_false,zsB]
    rw [zLU]
    cases s.length == l.length <;> rfl) []
  refine this.trans ?_
  have h2:=zJF l []
  simp only [List.length_nil,Nat.zero_add] at h2
  rw [h2]
  simp [jJ]
def zeM (l:List qy):Bool:=zU (l.length:Int) 1 8 && (l.all zdh && zgD (l.map (·.1)))
theorem zKC (r:zf):jS (r,()) = some (zeM r.2.2.1,()):=by
  rw [zC]
  simp only [jS,zfk,Option.bind_some]
  unfold zeM
  by_cases hw:zU (List.length r.2.2.1:Int) 1 8 = true
  · have hb:1 ≤ List.length r.2.2.1 ∧ List.length r.2.2.1 ≤ 8:=by unfold zU at hw; grind
    rw [zqx (p:=fun a=>!zdh a) (by unfold Go.maxLen; omega) fun x _=>zG4 x,zIT r (by omega)]
    simp only [Option.bind_some]
    rw [zNi _ (by simp; omega)]
    simp only [Option.bind_some]
    have:=j9 (l:=r.2.2.1) (p:=zdh)
    grind
  · grind
theorem zA1:∀ {l:List ByteArray},zgD l = true ↔ ∀ i j:Nat,i < j→j < l.length→eqI .str (l.getD i (ze .str)) (l.getD j (ze .str)) = false
  | []=>by simp [zgD]
  | x :: l=>by
    simp only [zgD,Bool.and_eq_true,Bool.not_eq_true',List.any_eq_false,zA1 (l:=l)]
    constructor
    · rintro ⟨h1,h2⟩ i j hij hj
      cases j with
      | zero=>omega
      | succ j =>
        simp only [List.length_cons] at hj
        cases i with
        | zero =>
          have:=h1 (l.getD j (ze .str)) (zX (by omega))
          simpa using this
        | succ i=>exact h2 i j (by omega) (by omega)
    · intro h
      refine ⟨fun y hy=>?_,fun i j h1 h2=>h (i + 1) (j + 1) (by omega) (by simp only [List.length_cons]; omega)⟩
      obtain ⟨j,hj,rfl⟩:=List.mem_iff_getElem.1 hy
      have:=h 0 (j + 1) (by omega) (by simp only [List.length_cons]; omega)
      simpa [List.getD,hj] using this
theorem zyH (l:List qy):zfd (l,()) = some (zeM l,()):=by
  rw [zC]
  simp only [zfd,zfc]
  unfold zeM
  by_cases h1:l.length < 1
  · unfold zU; grind
  by_cases h2:l.length > 8
  · unfold zU; grind
  have hl:l.length ≤ Go.maxLen:=by unfold Go.maxLen; omega
  have inner:∀ k0 (j:Nat),j < l.length→zcn K0 k0 (l,(j:Int),0) = bif zW (fun i=>!eqI .str (l.getD i qo).1 (l.getD j qo).1) 0 j then k0 (l,wI ((j:Int) + 1)) else some (false,()):=fun k0 j hj =>
    z7 (i0:=0) (n:=j) (by omega) (Nat.zero_le _) (fun i=>(l,(j:Int),i)) (fun k i h3 h4=>by
      simp only [zcm]
      rw [ltT h4,zj (by omega),zj hj,zG,zG,← zrJ]
      simp only [cond_true]
      cases eqI .str (l.getD i qo).1 (l.getD j qo).1 <;> rfl) (fun k=>by simp only [zcm]; rw [ltF]; rfl)
  have hloop:zgy K0 (l,0) = bif zW (fun j=>zdh (l.getD j qo) && zW (fun i=>!eqI .str (l.getD i qo).1 (l.getD j qo).1) 0 j) 0 (l.length - 0) then some (true,()) else some (false,()) :=
    z7 (i0:=0) hl (Nat.zero_le _) (fun i=>(l,i)) (fun k i h3 h4=>by
      simp only [y6]
      rw [ltT h4]
      simp only [zj h4,zG,zmB,Option.bind_some,cond_true]
      rw [inner k i h4]
      unfold zdh zU
      grind) (fun k=>by simp only [y6]; rw [ltF]; rfl)
  rw [hloop]
  have hw:zU (l.length:Int) 1 8 = true:=by unfold zU; grind
  have key:zW (fun j=>zdh (l.getD j qo) && zW (fun i=>!eqI .str (l.getD i qo).1 (l.getD j qo).1) 0 j) 0 (l.length - 0) = (l.all zdh && zgD (l.map (·.1))):=by
    have hm:∀ i,i < l.length→(l.map (·.1)).getD i (ze .str) = (l.getD i qo).1:=fun i hi=>by simp [List.getD,hi]
    rw [Bool.eq_iff_iff,Bool.and_eq_true,qP,zA1,List.all_eq_true]
    constructor
    · intro h
      refine ⟨fun x hx=>?_,fun i j h3 h4=>?_⟩
      · obtain ⟨i,hi,rfl⟩:=List.mem_iff_getElem.1 hx
        have e:l.getD i qo = l[i]:=by simp [List.getD,hi]
        rw [← e]
        have:=h i (by omega) (by omega)
        grind
      · rw [List.length_map] at h4
        rw [hm i (by omega),hm j h4]
        have:=h j (by omega) (by omega)
        simp only [Bool.and_eq_true,qP] at this
        have:=this.2 i (by omega) (by omega)
        simpa using this
    · rintro ⟨h3,h4⟩ j h5 h6
      simp only [Bool.and_eq_true,qP]
      refine ⟨h3 _ (zX (by omega)),fun i h7 h8=>?_⟩
      have:=h4 i j (by omega) (by rw [List.length_map]; omega)
      rw [hm i (by omega),hm j (by omega)] at this
      rw [this]; rfl
  rw [key,hw]
  grind
def zl1 (r:zf):Bool:=zU (r.2.1.length:Int) 1 8 && r.2.1.all fun i=>decide (0 ≤ i) && decide (i < (r.1.length:Int))
theorem zNj (r:zf) (h:r.1.length ≤ 1000):yg (r,()) = some (zl1 r,()):=by
  rw [zC]
  simp only [yg,zfk,Option.bind_some]
  unfold zl1
  by_cases hw:zU (List.length r.2.1:Int) 1 8 = true
  · have hb:1 ≤ List.length r.2.1 ∧ List.length r.2.1 ≤ 8:=by unfold zU at hw; grind
    have hq:∀ x:Int,(fun z:Int × Unit=>zck (z.1,some r,())) (x,()) = some (!(decide (0 ≤ x) && decide (x < (r.1.length:Int))),()):=fun x=>by
      show zck _ = _
      simp only [zck,zfk,Option.bind_some]
      have:wI (((List.length r.1:Nat):Int) - 1) = (r.1.length:Int) - 1:=by
        unfold wI
        exact IntWalk.i64_in _ (by omega)
      rw [this]
      unfold zU
      grind
    rw [zdg (by unfold Go.maxLen; omega) fun x _=>hq x]
    simp only [Option.bind_some]
    have:=j9 (l:=r.2.1) (p:=fun i=>decide (0 ≤ i) && decide (i < (r.1.length:Int)))
    grind
  · grind
def zwe (r:zf):Bool:=zU r.2.2.2.2.2.1 0 24 && (zU r.2.2.2.2.2.2.1 0 48 && (zU r.2.2.2.2.2.2.2.1 1 4 && zU r.2.2.2.2.2.2.2.2.1 1 16))
theorem zNT (r:zf):y4 (r,()) = some (zwe r,()):=by
  simp only [y4,zfk,Option.bind_some,zwe]; grind
def zrK (q:zaw):Bool:=zU q.1 0 12 && (zU q.2.1 0 12 && (zU q.2.2.1 0 12 && (zU q.2.2.2.1 0 12 && zU q.2.2.2.2.1 0 12)))
def zhf:Int→List zaw→Bool
  | _,[]=>true
  | left,q :: l=>zrK q && (decide (q.2.2.2.2.2.1 ≤ left) && zhf (wU (left - q.2.2.2.2.2.1)) l)
theorem zKD (x:Int):ze9 (x,()) = some (!zU x 0 12,()):=by
  simp only [ze9,zfk,Option.bind_some]; grind
def zfN (n:Nat) (l:List zaw):Bool:=decide (l.length = n) && (decide (0 < l.length) && (decide (1 ≤ (l.getD 0 qg).1) && zhf 4611686018427387904 l))
theorem zMH (r:zf) (h:1 ≤ r.1.length ∧ r.1.length ≤ 1000):vE (r,()) = some (zfN r.1.length r.2.2.2.2.1,()):=by
  rw [zC]
  simp only [vE,zg7]
  unfold zfN
  by_cases hn:r.2.2.2.2.1.length = r.1.length
  · have hl:r.2.2.2.2.1.length ≤ Go.maxLen:=by unfold Go.maxLen; omega
    have hloop:ziP K0 (4611686018427387904,r.2.2.2.2.1,(r.2.2.2.2.1.length:Int),0) = some (zhf 4611686018427387904 r.2.2.2.2.1,()) :=
      zo2 (l:=r.2.2.2.2.1) (α:=Int) qg (fun i s=>(s,r.2.2.2.2.1,(r.2.2.2.2.1.length:Int),i)) (fun rest s=>some (zhf s rest,())) hl (fun k i x rest s hi hx _ hr hk=>by
        simp only [zff]
        rw [ltT hi,zj hi]
        simp only [zG,hx,cond_true]
        have hnum:zjA (x,()) = some ([x.1,x.2.1,x.2.2.1,x.2.2.2.1,x.2.2.2.2.1],()):=rfl
        rw [hnum]
        simp only [Option.bind_some]
        rw [zdg (p:=fun n=>!zU n 0 12) (l:=[x.1,x.2.1,x.2.2.1,x.2.2.2.1,x.2.2.2.2.1]) (by unfold Go.maxLen; simp) fun n _=>zKD n]
        simp only [Option.bind_some,hk,zhf,zrK,List.any_cons,List.any_nil]
        grind) (fun k s=>by simp only [zff]; rw [ltF]; rfl) _
    rw [hloop,zKB]
    have h1:(((List.length r.2.2.2.2.1:Nat):Int) != ((List.length r.1:Nat):Int)) = false:=by rw [zia]; simp [hn]
    rw [h1]
    grind
  · have h1:(((List.length r.2.2.2.2.1:Nat):Int) != ((List.length r.1:Nat):Int)) = true:=by rw [zia]; simp [hn]
    rw [h1]
    grind
theorem zED (x:Int):yf (x,()) = some (zU x 0 12,()):=by
  simp only [yf,zU]; grind
theorem zCA (l:List zaw) (hl:l.length ≤ Go.maxLen):zk5 (l,()) = some (zfN l.length l,()):=by
  rw [zC]
  show zg (yM) K0 (l,4611686018427387904,0) = _
  have hloop:zg (yM) K0 (l,4611686018427387904,0) = some (zhf 4611686018427387904 l && (decide (0 < l.length) && decide (1 ≤ (l.getD 0 qg).1)),()) :=
    zo2 (l:=l) (α:=Int) qg (fun i s=>(l,s,i)) (fun rest s=>some (zhf s rest && (decide (0 < l.length) && decide (1 ≤ (l.getD 0 qg).1)),())) hl (fun k i x rest s hi hx _ hr hk=>by
      simp only [yM]
      rw [ltT hi,zj hi]
      simp only [zG,hx,cond_true,zED,Option.bind_some,hk,zhf,zrK]
      grind) (fun k s=>by
      simp only [yM]
      rw [ltF,zKB]
      simp only [zhf]
      grind) _
  rw [hloop]
  unfold zfN
  grind
end Go.Proofs.YtgomalidoilgbaaGreatDoor
end
section
namespace Go.Proofs.YtgomalidoilgbaaGreatDoor
open Go.Ev
def zyI (b:Int):Int:=((2 ^ b.toNat:Nat):Int)
def yG (b:Int):Bool:=decide (0 ≤ b) && decide (b < 64)
theorem zLV {b:Int} (h:yG b = true):Go.IntKind.wrap .u64 (1 * 2 ^ (min (Int.toNat b) (Go.IntKind.bits .u64))) = zyI b:=by
  unfold yG at h
  simp only [Bool.and_eq_true,decide_eq_true_eq] at h
  obtain ⟨n,rfl⟩:=Int.eq_ofNat_of_zero_le h.1
  have hn:n < 64:=by omega
  unfold zyI
  rw [Int.toNat_natCast]
  have hm:min n (Go.IntKind.bits .u64) = n:=Nat.min_eq_left (by show n ≤ 64; omega)
  rw [hm]
  have:∀ n:Fin 64,Go.IntKind.wrap .u64 (1 * 2 ^ n.val) = ((2 ^ n.val:Nat):Int):=by decide +kernel
  exact this ⟨n,hn⟩
theorem zdQ {n:Int} (h:0 ≤ n ∧ n < 18446744073709551616):Go.IntKind.wrap .u64 n = n:=by
  show n % ((2 ^ 64:Nat):Int) = n
  exact Int.emod_eq_of_lt h.1 (by have:((2 ^ 64:Nat):Int) = 18446744073709551616:=by decide
                                  omega)
def zmC (c:Int) (b:Nat):Bool:=c.toNat.testBit b
theorem has_eq (c b:Int) (hc:0 ≤ c) (hb:0 ≤ b ∧ b < 64):(Int.tmod (Int.fdiv c (2 ^ min (Int.toNat (Go.IntKind.wrap .u64 b)) (Go.IntKind.bits .u64))) 2 == 1) = zmC c b.toNat:=by
  obtain ⟨n,rfl⟩:=Int.eq_ofNat_of_zero_le hc
  obtain ⟨m,rfl⟩:=Int.eq_ofNat_of_zero_le hb.1
  rw [zdQ (by omega)]
  have hm:min (Int.toNat (m:Int)) (Go.IntKind.bits .u64) = m:=Nat.min_eq_left (by show (m:Int).toNat ≤ 64; omega)
  rw [hm]
  unfold zmC
  have h2:Int.fdiv (n:Int) (2 ^ m) = ((n / 2 ^ m:Nat):Int):=by
    rw [show ((2:Int) ^ m) = ((2 ^ m:Nat):Int) by simp]
    rw [Int.fdiv_eq_ediv_of_nonneg _ (Int.natCast_nonneg _)]
    rfl
  have h3:Int.tmod ((n / 2 ^ m:Nat):Int) 2 = ((n / 2 ^ m % 2:Nat):Int):=by
    rw [Int.tmod_eq_emod_of_nonneg (Int.natCast_nonneg _)]
    rfl
  rw [h2,h3,Int.toNat_natCast,Int.toNat_natCast,Nat.testBit_eq_decide_div_mod_eq]
  have:(((n / 2 ^ m % 2:Nat):Int) == 1) = decide (n / 2 ^ m % 2 = 1):=by
    by_cases h:n / 2 ^ m % 2 = 1
    · rw [h]; rfl
    · rw [decide_eq_false h]
      cases hx:(((n / 2 ^ m % 2:Nat):Int) == 1) with
      | false=>rfl
      | true=>exact absurd (Int.ofNat.inj (by simpa using hx)) h
  exact this
def zhg (a b:Int):Int:=Go.IntKind.wrap .u64 (BitVec.toNat (BitVec.ofInt (Go.IntKind.bits .u64) a &&& ~~~BitVec.ofInt (Go.IntKind.bits .u64) b):Int)
def orI (a b:Int):Int:=Go.IntKind.wrap .u64 (BitVec.toNat (BitVec.ofInt (Go.IntKind.bits .u64) a ||| BitVec.ofInt (Go.IntKind.bits .u64) b):Int)
def zm7:Int→List z8→Int
  | a,[]=>a
  | a,g :: gs=>zm7 (orI a (zyI g.1)) gs
theorem zl2 (n:Nat):BitVec.ofInt (Go.IntKind.bits .u64) (n:Int) = BitVec.ofNat 64 n:=by
  show BitVec.ofInt 64 (n:Int) = BitVec.ofNat 64 n
  apply BitVec.eq_of_toNat_eq
  rw [BitVec.toNat_ofInt,BitVec.toNat_ofNat]
  omega
theorem zMY (x:BitVec 64):Go.IntKind.wrap .u64 (x.toNat:Int) = (x.toNat:Int):=by
  have:=x.isLt
  exact zdQ (by omega)
theorem zNk (a b:Nat) (ha:a < 2 ^ 64) (hb:b < 2 ^ 64):orI (a:Int) (b:Int) = ((a ||| b:Nat):Int):=by
  unfold orI
  rw [zl2,zl2]
  show Go.IntKind.wrap .u64 ((BitVec.ofNat 64 a ||| BitVec.ofNat 64 b).toNat:Int) = _
  rw [zMY,BitVec.toNat_or,BitVec.toNat_ofNat,BitVec.toNat_ofNat,Nat.mod_eq_of_lt ha,Nat.mod_eq_of_lt hb]
theorem zxr (c m:Nat) (hc:c < 2 ^ 64) (hm:m < 2 ^ 64):(zhg (c:Int) (m:Int) != 0) = !((List.range' 0 64).all fun i=>!c.testBit i || m.testBit i):=by
  unfold zhg
  rw [zl2,zl2]
  show (Go.IntKind.wrap .u64 ((BitVec.ofNat 64 c &&& ~~~BitVec.ofNat 64 m).toNat:Int) != 0) = _
  rw [zMY]
  have hbit:∀ i,i < 64→(BitVec.ofNat 64 c &&& ~~~BitVec.ofNat 64 m).getLsbD i = (c.testBit i && !m.testBit i):=by
    intro i hi
    rw [BitVec.getLsbD_and,BitVec.getLsbD_not,BitVec.getLsbD_ofNat,BitVec.getLsbD_ofNat]
    simp [hi]
  by_cases h:((List.range' 0 64).all fun i=>!c.testBit i || m.testBit i) = true
  · rw [h]
    have h0:(BitVec.ofNat 64 c &&& ~~~BitVec.ofNat 64 m) = 0#64:=by
      apply BitVec.eq_of_getLsbD_eq
      intro i hi
      rw [hbit i hi]
      have:=List.all_eq_true.1 h i (by simp [List.mem_range'_1]; omega)
      revert this
      cases c.testBit i <;> cases m.testBit i <;> simp
    rw [h0]
    rfl
  · have h':=h
    simp only [Bool.not_eq_true] at h'
    rw [h']
    have:(BitVec.ofNat 64 c &&& ~~~BitVec.ofNat 64 m).toNat ≠ 0:=by
      intro h0
      apply h
      rw [List.all_eq_true]
      intro i hi
      simp only [List.mem_range'_1] at hi
      have hb:=hbit i (by omega)
      have e0:(BitVec.ofNat 64 c &&& ~~~BitVec.ofNat 64 m) = 0#64:=BitVec.eq_of_toNat_eq (by rw [h0]; rfl)
      rw [e0] at hb
      revert hb
      cases c.testBit i <;> cases m.testBit i <;> simp
    rw [Bool.not_false,bne_iff_ne]
    omega
theorem zMI {b:Int} (h:yG b = true):∃ n:Nat,b = n ∧ n < 64 ∧ zyI b = ((2 ^ n:Nat):Int):=by
  unfold yG at h
  simp only [Bool.and_eq_true,decide_eq_true_eq] at h
  obtain ⟨n,rfl⟩:=Int.eq_ofNat_of_zero_le h.1
  exact ⟨n,rfl,by omega,rfl⟩
theorem zA2:∀ (l:List z8) (m:Nat),m < 2 ^ 64→(∀ g ∈ l,yG g.1 = true)→∃ k:Nat,zm7 (m:Int) l = (k:Int) ∧ k < 2 ^ 64 ∧ ∀ i:Nat,k.testBit i = (m.testBit i || l.any fun g=>g.1 == (i:Int))
  | [],m,hm,_=>⟨m,rfl,hm,fun i=>by simp⟩
  | g :: l,m,hm,h=>by
    obtain ⟨n,hn,hn64,hv⟩:=zMI (h g (by simp))
    have hp:2 ^ n < 2 ^ 64:=Nat.pow_lt_pow_right (by omega) hn64
    obtain ⟨k,hk,hk64,hb⟩:=zA2 l (m ||| 2 ^ n) (Nat.or_lt_two_pow hm hp) fun g hg=>h g (by simp [hg])
    refine ⟨k,?_,hk64,fun i=>?_⟩
    · simp only [zm7]
      rw [hv,zNk m (2 ^ n) hm hp]
      exact hk
    · rw [hb i,Nat.testBit_or,Nat.testBit_two_pow,List.any_cons,hn,Bool.or_assoc]
      congr 2
      by_cases e:n = i
      · subst e; simp
      · rw [decide_eq_false e]
        symm
        simp only [beq_eq_false_iff_ne,ne_eq]
        omega
def zwf (l:List z8) (c:Int) (i k:Nat):Bool:=(List.range' i k).all fun b=>!zmC c b || l.any fun g=>g.1 == (b:Int)
def zvO (labels:List zz) (l:List z8):Bool:=labels.all fun a=>zwf l a.2.1 0 64
def zor (l:List zz):Prop:=∀ a ∈ l,0 ≤ a.2.1 ∧ a.2.1 < 18446744073709551616
theorem zNU (labels:List zz) (l:List z8) (hl:zor labels) (h:∀ g ∈ l,yG g.1 = true):(labels.any fun a=>zhg a.2.1 (zm7 0 l) != 0) = !zvO labels l:=by
  obtain ⟨k,hk,hk64,hb⟩:=zA2 l 0 (by decide) h
  have hk':zm7 0 l = (k:Int):=hk
  rw [hk']
  unfold zvO
  have key:∀ ls:List zz,zor ls→(ls.any fun a=>zhg a.2.1 (k:Int) != 0) = !(ls.all fun a=>zwf l a.2.1 0 64):=by
    intro ls
    induction ls with
    | nil=>intro _; rfl
    | cons a ls ih =>
      intro ha
      have h1:=ha a (by simp)
      rw [List.any_cons,List.all_cons,ih fun b hb=>ha b (by simp [hb]),Bool.not_and]
      congr 1
      obtain ⟨c,hc⟩:=Int.eq_ofNat_of_zero_le h1.1
      rw [hc,zxr c k (by omega) hk64]
      congr 1
      unfold zwf
      congr 1
      funext i
      rw [hb i]
      unfold zmC
      simp
  exact key labels hl
def zsC (b:Int):zz:=(0,zyI b,())
theorem zG6 (b:Int):zjz (b,()) = some (bif yG b then (zsC b,0,()) else ((0,0,()),1,())):=by
  simp only [zjz]
  cases h:yG b with
  | true =>
    have hs:wU (1 * 2 ^ min (Int.toNat b) (Go.IntKind.bits .u64)) = zyI b:=zLV h
    rw [hs]
    simp only [yG,Bool.and_eq_true,decide_eq_true_eq] at h
    simp only [zsC]
    grind
  | false =>
    simp only [yG,Bool.and_eq_false_iff,decide_eq_false_iff_not] at h
    grind
theorem zKE (a:zz) (c:Int):ziJ (a,some c,()) = some (zhg a.2.1 c != 0,()):=by
  rw [zC]; rfl
theorem zKF (a b:zz):eqI zq a b = eqI zq b a:=by
  rw [zpS,zpS]
  grind
theorem zG7 {σ α:Type} {B:(σ→Option (Int × Unit))→σ→Option (Int × Unit)} {l:List α} (d:α) {p:α→Bool} (st:Int→σ) (hl:l.length ≤ Go.maxLen)
    (hin:∀ k (i:Nat) x,i < l.length→l.getD i d = x→x ∈ l→B k (st i) = bif p x then some ((i:Int),()) else k (st (wI (i + 1)))) (hout:∀ k,B k (st l.length) = some (-1,())):zg B K0 (st 0) = some (vd p l 0,()):=by
  have:=zfH (α:=Unit) (B:=B) hl (fun i _=>st i) (fun i _=>some (vd p (l.drop i) i,())) (fun _ _=>True) (fun k i s hi _ h=>?_) (fun k s _=>?_) () trivial
  · simpa using this
  · rw [hin k i _ hi rfl (zX hi),h () trivial,zb3 d hi]
    simp only [vd]
    cases p (l.getD i d) <;> rfl
  · rw [hout,List.drop_of_length_le (Nat.le_refl _)]; rfl
theorem zMJ {σ α ρ:Type} {B:(σ→Option ρ)→σ→Option ρ} {l:List α} (d:α) {p:α→Bool} {fin hit:Option ρ} (st:Int→σ) (hl:l.length ≤ Go.maxLen)
    (hin:∀ k (i:Nat) x,i < l.length→l.getD i d = x→x ∈ l→B k (st i) = bif p x then hit else k (st (wI (i + 1)))) (hout:∀ k,B k (st l.length) = fin):zg B K0 (st 0) = bif l.any p then hit else fin:=by
  have:=jB (B:=B) (p:=fun x=>!p x) (fin:=fin) (bad:=hit) d st hl (fun k i x h1 h2 h3=>by
    rw [hin k i x h1 h2 h3]; cases p x <;> rfl) hout
  rw [this,← List.not_any_eq_all_not]
  cases l.any p <;> rfl
theorem zyJ {l:List zz} {a:zz} (hl:l.length ≤ Go.maxLen):zbJ (l,a,()) = some (l.any fun y=>eqI zq a y,()):=by
  have h:ziI (l,a,()) = some (vd (fun y=>eqI zq a y) l 0,()) :=
    zG7 (B:=y3) (l:=l) jg (fun i=>(l,(l.length:Int),i,a)) hl (fun k i x hi hx _=>by
      simp only [y3]
      rw [ltT hi,zj hi,zG,hx]; rfl) (fun k=>by simp only [y3]; rw [ltF]; rfl)
  rw [zC]
  simp only [zbJ,h,Option.bind_some]
  rw [zxQ (p:=fun y=>eqI zq a y) l 0 (Int.le_refl 0)]
theorem zDg {α:Type} {p:α→Bool}:∀ (xs:List α) (i:Int),0 ≤ i→decide (vd p xs i < 0) = !xs.any p
  | [],_,_=>rfl
  | x :: xs,i,h=>by
    have ih:=zDg (p:=p) xs (i + 1) (by omega)
    simp only [vd,List.any_cons]
    by_cases hp:p x = true
    · simp [hp]; omega
    · simp only [Bool.not_eq_true] at hp
      simpa [hp] using ih
theorem zG8 (b:Int) (h:yG b = true):zgu (b,()) = some (zsC b,()):=by
  simp only [zgu]
  have hs:=zLV h
  simp only [yG,Bool.and_eq_true,decide_eq_true_eq] at h
  have hw:wU b = b:=zdQ (by omega)
  rw [hw,decide_eq_false (by omega),cond_false]
  exact congrArg (fun z:Int=>some (((0,z,()),()):zz × Unit)) hs
theorem zEE {l:List zz} {a:zz} (hl:l.length ≤ Go.maxLen):zig (l,a,()) = some (vd (fun y=>eqI zq y a) l 0,()) :=
  zG7 (B:=zce) (l:=l) jg (fun i=>(l,i,a)) hl (fun k i x hi hx _=>by
      simp only [zce]
      rw [ltT hi,zj hi,zG,hx]; rfl) (fun k=>by simp only [zce]; rw [ltF]; rfl)
theorem zIU {l:List z8} {b:Int} (hl:l.length ≤ Go.maxLen):zqn (l,b,()) = some (l.any fun g=>(g.1:Int) == b,()):=by
  rw [zC]
  exact zMJ (B:=zfn) (l:=l) qG (fun i=>(l,b,i)) hl (fun k i x hi hx _=>by
      simp only [zfn]
      rw [ltT hi,zj hi,zG,hx]; rfl) (fun k=>by simp only [zfn]; rw [ltF]; rfl)
theorem zqy (a:zz) (b:Int) (ha:0 ≤ a.2.1) (hb:0 ≤ b ∧ b < 64):zfK (a,b,()) = some (zmC a.2.1 b.toNat,()):=by
  rw [zC]
  simp only [zfK]
  have hh:=has_eq a.2.1 b ha hb
  have hw:wU b = b:=zdQ (by omega)
  rw [hw,decide_eq_false (by omega),cond_false,← hh]
  have hw':Go.IntKind.wrap .u64 b = b:=hw
  rw [hw']
def zyK (labels:List zz) (n:Nat) (last:Int) (g:z8):Bool:=yG g.1 && (decide (last < g.1) && (zU g.2.1 0 ((n:Int) - 1) && labels.any fun y=>eqI zq (zsC g.1) y))
def zgE (labels:List zz) (n:Nat):Int→List z8→Bool
  | _,[]=>true
  | last,g :: gs=>zyK labels n last g && zgE labels n g.1 gs
def znh (labels:List zz) (n:Nat) (l:List z8):Bool:=decide (l.length ≤ 8) && (zgE labels n (-1) l && zvO labels l)
theorem zDh {labels:List zz} {m:Nat}:∀ (l:List z8) (last:Int),zgE labels m last l = true→∀ g ∈ l,yG g.1 = true
  | [],_,_,g,hg=>by cases hg
  | a :: l,last,h,g,hg=>by
    simp only [zgE,zyK,Bool.and_eq_true] at h
    rcases List.mem_cons.1 hg with rfl | hg
    · exact h.1.1
    · exact zDh l a.1 h.2 g hg
theorem zMK (r:zf) (h1:r.1.length ≤ Go.maxLen) (h2:r.2.2.1.length ≤ 1000000) (h3:r.2.2.2.1.length ≤ Go.maxLen) (hL:zor r.1):vD (r,()) = some (znh r.1 r.2.2.1.length r.2.2.2.1,()):=by
  have hloop:vD (r,()) = some (zgE r.1 r.2.2.1.length (-1) r.2.2.2.1 && (decide (r.2.2.2.1.length ≤ 8) && !(r.1.any fun a=>zhg a.2.1 (zm7 0 r.2.2.2.1) != 0)),()) :=
    zo2 (B := zbj) (l:=r.2.2.2.1) (α:=Int × Int) qG (fun i s=>(s.1,r.2.2.2.1,(r.2.2.2.1.length:Int),i,r,s.2))
      (fun rest s=>some (zgE r.1 r.2.2.1.length s.1 rest && (decide (r.2.2.2.1.length ≤ 8) && !(r.1.any fun a=>zhg a.2.1 (zm7 s.2 rest) != 0)),())) h3 (fun k i x rest s hi hx _ hr hk=>by
        simp only [zbj]
        have hw:wI (((List.length r.2.2.1:Nat):Int) - 1) = (r.2.2.1.length:Int) - 1:=by
          unfold wI
          exact IntWalk.i64_in _ (by omega)
        rw [ltT hi,zj hi,hw]
        simp only [zG,hx,cond_true,zG6,Option.bind_some,zgE,zyK,zm7]
        cases hb:yG x.1 with
        | false=>rfl
        | true =>
          simp only [cond_true,zfk,Option.bind_some,Bool.true_and,zyJ h1]
          have hk':=hk (x.1,orI s.2 (zyI x.1))
          have e:decide (s.1 < x.1) = !decide ((x.1:Int) ≤ s.1):=by grind
          rw [e]
          cases decide ((x.1:Int) ≤ s.1) with
          | true=>rfl
          | false =>
            cases zU x.2.1 0 ((r.2.2.1.length:Int) - 1) with
            | false=>rfl
            | true =>
              cases (r.1.any fun y=>eqI zq (zsC x.1) y) with
              | false=>rfl
              | true=>exact hk') (fun k s=>by
        simp only [zbj]
        rw [ltF]
        simp only [cond_false,zgE,zm7,Bool.true_and]
        rw [zkn (p:=fun a=>zhg a.2.1 s.2 != 0) h1 fun x _=>zKE x s.2,Option.bind_some]
        grind) (-1,0)
  rw [hloop]
  unfold znh
  cases hr:zgE r.1 r.2.2.1.length (-1) r.2.2.2.1 with
  | false=>simp
  | true =>
    rw [zNU r.1 r.2.2.2.1 hL (zDh _ _ hr)]
    simp
theorem zA3 {labels:List zz} {n:Nat}:∀ {l:List z8} {last:Int},zgE labels n last l = zW (fun i=>zyK labels n (if i = 0 then last else (l.getD (i - 1) qG).1) (l.getD i qG)) 0 l.length:=by
  intro l
  induction l with
  | nil=>intro last; rfl
  | cons a l ih =>
    intro last
    simp only [zgE,List.length_cons,zW,ih]
    rw [Bool.eq_iff_iff]
    simp only [Bool.and_eq_true,qP]
    constructor
    · rintro ⟨h1,h2⟩
      refine ⟨h1,fun j h3 h4=>?_⟩
      obtain ⟨i,rfl⟩:∃ i,j = i + 1:=⟨j - 1,by omega⟩
      have:=h2 i (by omega) (by omega)
      rw [if_neg (by omega)]
      by_cases e:i = 0
      · subst e; simpa using this
      · rw [if_neg e] at this
        obtain ⟨m,rfl⟩:∃ m,i = m + 1:=⟨i - 1,by omega⟩
        exact this
    · rintro ⟨h1,h2⟩
      refine ⟨h1,fun j h3 h4=>?_⟩
      have:=h2 (j + 1) (by omega) (by omega)
      rw [if_neg (by omega)] at this
      by_cases e:j = 0
      · subst e; simpa using this
      · rw [if_neg e]
        obtain ⟨m,rfl⟩:∃ m,j = m + 1:=⟨j - 1,by omega⟩
        exact this
theorem zCB (l:List z8) (labels:List zz) (n:Nat) (h1:labels.length ≤ Go.maxLen) (hL:zor labels):zg5 (l,labels,(n:Int),()) = some (znh labels n l,()):=by
  rw [zC]
  simp only [zg5,zg4]
  unfold znh
  by_cases h8:l.length ≤ 8
  · have hl:l.length ≤ Go.maxLen:=by unfold Go.maxLen; omega
    have bits:∀ k1 (j:Nat),j < labels.length→zg (yL k1) K0 (l,labels,(j:Int),0) = bif zwf l (labels.getD j jg).2.1 0 64 then k1 (l,labels,wI ((j:Int) + 1)) else some (false,()):=fun k1 j hj=>by
      have hc:=(hL _ (zX (d:=jg) hj)).1
      have:=zDd (B:=yL k1) (n:=64) (by unfold Go.maxLen; omega) (p:=fun b=>!zmC (labels.getD j jg).2.1 b || l.any fun g=>(g.1:Int) == (b:Int)) (fin:=k1 (l,labels,wI ((j:Int) + 1))) (bad:=some (false,())) (fun i=>(l,labels,(j:Int),i)) (fun k i hi=>by
        simp only [yL]
        rw [decide_eq_true (by omega),zj hj,zG,zqy _ _ hc (by omega),zIU hl,Int.toNat_natCast]
        simp only [cond_true,Option.bind_some]
        grind) (fun k=>by
        simp only [yL]
        rfl)
      rw [this]
      unfold zwf
      rw [List.range_eq_range']
    have cover:zfe K0 (l,labels,0) = some (zvO labels l,()):=by
      rw [zC]
      exact jB (l:=labels) jg (p:=fun a=>zwf l a.2.1 0 64) (fun i=>(l,labels,i)) h1 (fun k i x hi hx _=>by
        simp only [zbf]
        rw [ltT hi,cond_true]
        refine (bits k i hi).trans ?_
        rw [hx]) (fun k=>by simp only [zbf]; rw [ltF]; rfl)
    have hloop:ziO K0 (l,labels,(n:Int),0) = bif zW (fun i=>zyK labels n (if i = 0 then -1 else (l.getD (i - 1) qG).1) (l.getD i qG)) 0 (l.length - 0) then some (zvO labels l,()) else some (false,()) :=
      z7 (i0:=0) hl (Nat.zero_le _) (fun i=>(l,labels,(n:Int),i)) (fun k i h3 h4=>by
        simp only [zbg]
        rw [ltT h4]
        simp only [zj h4,cond_true,zG,zyK]
        by_cases hb:yG (l.getD i qG).1 = true
        · rw [zG8 _ hb,Option.bind_some,zEE h1,Option.bind_some,hb]
          have ha:(labels.any fun y=>eqI zq y (zsC (l.getD i qG).1)) = labels.any fun y=>eqI zq (zsC (l.getD i qG).1) y:=by congr 1; funext y; exact zKF _ _
          rw [zDg labels 0 (Int.le_refl 0),ha]
          simp only [yG,Bool.and_eq_true,decide_eq_true_eq] at hb
          by_cases hi0:i = 0
          · subst hi0
            unfold zU
            grind
          · rw [zi2 (by omega) (by unfold Go.maxLen; omega),zj (by omega),Int.toNat_natCast,if_neg hi0]
            unfold zU
            grind
        · simp only [Bool.not_eq_true] at hb
          rw [hb]
          simp only [yG,Bool.and_eq_false_iff,decide_eq_false_iff_not] at hb
          grind) (fun k=>by
        simp only [zbg]
        rw [ltF,cond_false]
        exact cover)
    rw [hloop,zA3]
    grind
  · grind
def ja (r:zf):Bool:=zbT r.1 && (zl1 r && (zeM r.2.2.1 && (znh r.1 r.2.2.1.length r.2.2.2.1 && (zfN r.1.length r.2.2.2.2.1 && zwe r))))
structure qi (r:zf):Prop where
  labels:zor r.1
  guilds:r.2.2.2.1.length ≤ Go.maxLen
  quotas:r.2.2.2.2.1.length ≤ Go.maxLen
theorem zmD (r:zf) (h:qi r):zap (r,()) = some (ja r,()):=by
  rw [zC]
  show zg zga K0 (6,0,r,[some vF,some yg,some jS,some vD,some vE,some y4]) = _
  obtain ⟨m,hm⟩:=zwc
  have hu:zg zga (m + 8) (6,0,r,[some vF,some yg,some jS,some vD,some vE,some y4]) =
    Option.bind (vF (r,())) fun q=>bif q.1 then Option.bind (yg (r,())) fun q=>bif q.1 then Option.bind (jS (r,())) fun q=>bif q.1 then Option.bind (vD (r,())) fun q=>bif q.1 then Option.bind (vE (r,())) fun q=>bif q.1 then Option.bind (y4 (r,())) fun q=>bif q.1 then some (true,()) else some (false,()) else some (false,()) else some (false,()) else some (false,()) else some (false,()) else some (false,()):=by kernel_rfl
  rw [hm,hu,zMF]
  unfold ja
  simp only [Option.bind_some]
  cases h1:zbT r.1 with
  | false=>rfl
  | true =>
    have hb:1 ≤ r.1.length ∧ r.1.length ≤ 8:=by unfold zbT zU at h1; grind
    rw [zNj r (by omega),zKC]
    simp only [Option.bind_some,cond_true]
    cases zl1 r with
    | false=>rfl
    | true =>
      cases h2:zeM r.2.2.1 with
      | false=>rfl
      | true =>
        have hc:r.2.2.1.length ≤ 8:=by unfold zeM zU at h2; grind
        rw [zMK r (by unfold Go.maxLen; omega) (by omega) h.guilds h.labels,zMH r (by omega),zNT]
        simp only [Option.bind_some]
        grind
theorem ztN (r:zf) (h:qi r):zfv (r,()) = some (ja r,()):=by
  rw [zC]
  simp only [zfv,zin,zCz,zyH,Option.bind_some]
  unfold ja
  cases h1:zbT r.1 with
  | false=>rfl
  | true =>
    have hb:1 ≤ r.1.length ∧ r.1.length ≤ 8:=by unfold zbT zU at h1; grind
    rw [zCB _ _ _ (by unfold Go.maxLen; omega) h.labels]
    simp only [Option.bind_some]
    by_cases hw:zU (List.length r.2.1:Int) 1 8 = true
    · have hloop:zj2 K0 (0,r) = bif (r.2.1.all fun i=>decide (0 ≤ i) && decide (i < (r.1.length:Int))) then some (zfN r.1.length r.2.2.2.2.1 && zwe r,()) else some (false,()) :=
        jB (l:=r.2.1) (0:Int) (fun i=>(i,r)) (by unfold zU at hw; unfold Go.maxLen; grind) (fun k i x hi hx _=>by
          simp only [zf5]
          rw [ltT hi,zj hi,zj hi,zG,hx]
          grind) (fun k=>by
          simp only [zf5]
          rw [ltF,zCA _ h.quotas,zia]
          simp only [Option.bind_some,zfN,zwe,zU]
          by_cases hn:r.2.2.2.2.1.length = r.1.length
          · rw [hn]; grind
          · grind)
      rw [hloop]
      unfold zl1
      unfold zU at hw ⊢
      grind
    · unfold zl1
      unfold zU at hw ⊢
      grind
end Go.Proofs.YtgomalidoilgbaaGreatDoor
end
section
namespace Go.Proofs.YtgomalidoilgbaaGreatDoor
open Go.Ev
def qX (x:Int):Bool:=decide (0 ≤ x ∧ x ≤ 127)
theorem zKG (x:Int):ze0 (x,()) = some (qX x,()):=by simp only [ze0,qX]; grind
theorem zIV (x:Int):zhS (x,()) = some (qX x,()):=by simp only [zhS,qX]; grind
theorem zLW (x:Int):zi8 (x,()) = some (qX x,()):=by simp only [zi8,qX]; grind
theorem zIW (x:Int):zfL (x,()) = some (qX x,()):=by simp only [zfL,qX]; grind
def zpT (x:vI):Bool:=qX x.1 && qX x.2.1
theorem zNl (x:vI):zgq (x,()) = some (zpT x,()):=by simp only [zgq,zpT,qX]; grind
theorem ztO (x:vI):qI (x,()) = some (zpT x,()):=by simp only [qI,zpT,qX]; grind
def zFg (x:Int):Bool:=decide (0 ≤ x ∧ x ≤ 5)
theorem zNm (x:Int):zjC (x,()) = some (zFg x,()):=by simp only [zjC,zFg]; grind
def zos (s:ByteArray):Bool:=ByteArray.toList s == ByteArray.toList (ByteArray.mk #[])
def zkr (x:qT):Bool:=bif x.1 then zkq x.2.1 else zos x.2.1
theorem zIX {s:ByteArray} (h:zos s = true):zkq s = false:=by
  unfold zos at h
  have:=eq_of_beq h
  rw [Go.ByteArray.toList_eq,Go.ByteArray.toList_eq] at this
  have h2:s.size = 0:=by
    rw [← zng,this]; rfl
  unfold zkq; rw [h2]; rfl
theorem zLX (x:qT):zhb (x,()) = some (!zkr x,()):=by
  rw [zC]
  simp only [zhb,zoq,Option.bind_some,zkr,zos]
  grind
theorem zG9 {l:List qT} (hl:l.length ≤ Go.maxLen):zkd (l,()) = some (l.all zkr,()):=by
  rw [zC]
  simp only [zkd]
  rw [zuh (p:=fun x=>!zkr x) hl fun x _=>zLX x,Option.bind_some,← j9]
  cases l.any fun x=>!zkr x <;> rfl
theorem zEF {l:List qT} (hl:l.length ≤ Go.maxLen):zmc (l,()) = some (l.all zkr,()):=by
  rw [zC]
  exact jB (B:=zcp) (l:=l) zgT (fun i=>(l,i)) hl (fun k i x hi hx _=>by
    simp only [zcp]
    rw [ltT hi]
    simp only [zj hi,zG,hx,zmB,Option.bind_some,cond_true,zkr]
    have:=@zIX x.2.1
    unfold zos at this ⊢
    grind) (fun k=>by simp only [zcp]; rw [ltF]; rfl)
theorem zNn (a b:vI):eqI zL a b = ((a.1:Int) == b.1 && (a.2.1:Int) == b.2.1):=by
  show cond ((a.1:Int) == b.1) (cond ((a.2.1:Int) == b.2.1) true false) false = _
  cases ((a.1:Int) == b.1) <;> cases ((a.2.1:Int) == b.2.1) <;> rfl
def zvP (x:qb):Bool:=bif x.1 then zpT x.2.1 && (zpT x.2.2.1 && zFg x.2.2.2.1) else eqI zO x (ze zO)
theorem zHa (x:qb):zjN (x,()) = some (!zvP x,()):=by
  rw [zC]
  simp only [zjN,zNl,zNm,Option.bind_some,zvP]
  grind
def zhh (a b:qb):Bool:=a.1 && (eqI zL a.2.1 b.2.1 && (a.2.2.2.1:Int) == b.2.2.2.1)
theorem zCC (x:qb) (r:vI) (d:Int):zgV (x,some r,some d,()) = some (x.1 && (eqI zL x.2.1 r && (x.2.2.2.1:Int) == d),()):=by
  rw [zC]
  simp only [zgV,Option.bind_some]
  grind
theorem zNo {α:Type} {d:α} {p:α→Bool}:∀ (l:List α) (i:Nat) (a:Int),i < l.length→p (l.getD i d) = true→((vd p l a) == a + (i:Int)) = zW (fun j=>!p (l.getD j d)) 0 i:=by
  intro l
  induction l with
  | nil=>intro i a h; simp at h
  | cons x l ih =>
    intro i a h hp
    cases i with
    | zero =>
      have hx:p x = true:=hp
      simp only [vd,hx,cond_true,zW]
      simp
    | succ i =>
      have h':i < l.length:=by simpa using h
      have hp':p (l.getD i d) = true:=hp
      have:=ih i (a + 1) h' hp'
      have e:a + 1 + (i:Int) = a + ((i + 1:Nat):Int):=by omega
      rw [e] at this
      simp only [vd]
      rw [Bool.eq_iff_iff,qP]
      rw [Bool.eq_iff_iff,qP] at this
      cases hx:p x with
      | true =>
        simp only [cond_true]
        constructor
        · intro h1
          have:=eq_of_beq h1
          omega
        · intro h1
          have h2:(!p x) = true:=h1 0 (by omega) (by omega)
          rw [hx] at h2; cases h2
      | false =>
        simp only [cond_false]
        rw [this]
        constructor
        · intro h1 j _ h2
          cases j with
          | zero=>show (!p x) = true; rw [hx]; rfl
          | succ j=>exact h1 j (by omega) (by omega)
        · intro h1 j _ h2
          exact h1 (j + 1) (by omega) (by omega)
def zA4 (l:List qb):Bool:=zW (fun i=>zvP (l.getD i qj) && bif (l.getD i qj).1 then zW (fun j=>!zhh (l.getD j qj) (l.getD i qj)) 0 i else true) 0 (l.length - 0)
theorem zHb {l:List qb} (hl:l.length ≤ Go.maxLen):zob (l,()) = some (zA4 l,()):=by
  rw [zC]
  exact z7 (B:=zer) (i0:=0) hl (Nat.zero_le _) (fun i=>(l,l,(l.length:Int),i)) (fun k i h1 h2=>by
    simp only [zer]
    rw [ltT h2,zj h2]
    simp only [zG,zHa,Option.bind_some,cond_true]
    cases he:zvP (l.getD i qj) with
    | false=>rfl
    | true =>
      cases hs:(l.getD i qj).1 with
      | false=>rfl
      | true =>
        have hi:zjO (l,(l.getD i qj).2.1,(l.getD i qj).2.2.2.1,()) = some (vd (fun x=>zhh x (l.getD i qj)) l 0,()):=by
          simp only [zjO]
          rw [zoo (p:=fun x=>zhh x (l.getD i qj)) hl fun x _=>zCC x _ _]
          rfl
        have hp:zhh (l.getD i qj) (l.getD i qj) = true:=by
          unfold zhh; rw [zNn,hs]; simp
        have:=zNo (d:=qj) (p:=fun x=>zhh x (l.getD i qj)) l i 0 h2 hp
        rw [Int.zero_add] at this
        rw [hi,← this]
        simp only [Option.bind_some,Bool.not_true,cond_false,cond_true,Bool.true_and,bne]
        cases (vd (fun x=>zhh x (l.getD i qj)) l 0 == (i:Int)) <;> rfl) (fun k=>by simp only [zer]; rw [ltF]; rfl)
theorem zEG {l:List qb} (hl:l.length ≤ Go.maxLen):zme (l,()) = some (zA4 l,()):=by
  rw [zC]
  have inner:∀ k0 (i:Nat),i < l.length→zcs K0 k0 (l,(i:Int),0,l.getD i qj) = bif zW (fun j=>!((l.getD i qj).1 && zhh (l.getD j qj) (l.getD i qj))) 0 (i - 0) then k0 (l,wI ((i:Int) + 1)) else some (false,()):=fun k0 i hi =>
    z7 (B:=zcr k0) (i0:=0) (n:=i) (by omega) (Nat.zero_le _) (fun j=>(l,(i:Int),j,l.getD i qj)) (fun k j h1 h2=>by
      simp only [zcr]
      rw [ltT h2]
      simp only [zj (show j < l.length by omega),zG,cond_true,zhh]
      grind) (fun k=>by simp only [zcr]; rw [ltF]; rfl)
  exact z7 (B:=fun k=>zac (zcs K0 k) k) (i0:=0) hl (Nat.zero_le _) (fun i=>(l,i)) (fun k i h1 h2=>by
    simp only [zac]
    rw [ltT h2]
    simp only [zj h2,zG,ztO,Option.bind_some,cond_true,zvP,zFg]
    have:=inner k i h2
    rw [this]
    cases hs:(l.getD i qj).1 with
    | false =>
      simp only [Bool.false_and,Bool.not_false,cond_false,Bool.and_true]
      have:zW (fun _=>true) 0 (i - 0) = true:=qP.2 fun _ _ _=>rfl
      rw [this]
      grind
    | true =>
      simp only [Bool.true_and,cond_true,Nat.sub_zero]
      grind) (fun k=>by simp only [zac]; rw [ltF]; rfl)
def zlc (k n:Int) (r:vI):Bool:=((k == 1 || k == 3) && (qX n && eqI zL r (ze zL))) || (k == 2 && (n == 0 && zpT r))
def vZ (x:qc):Bool:=bif x.1 then zkq x.2.1 && zlc x.2.2.1 x.2.2.2.1 x.2.2.2.2.1 else eqI zw x (ze zw)
theorem zHc (x:zBx):zcl (x,()) = some (zlc x.1 x.2.1 x.2.2.1,()):=by
  rw [zC]
  simp only [zcl,zKG,Option.bind_some,zlc,zpT]
  grind
theorem zEH (x:qc):zir (x,()) = some (!vZ x,()):=by
  rw [zC]
  have h:zsp (x,()) = some ((x.2.2.1,x.2.2.2.1,x.2.2.2.2.1,()),()):=rfl
  simp only [zir,zoq,Option.bind_some,vZ,h,zHc]
  grind
theorem zEI {l:List qc} (hl:l.length ≤ Go.maxLen):zit (l,()) = some (l.all vZ,()):=by
  rw [zC]
  simp only [zit]
  rw [zkR (p:=fun x=>!vZ x) hl fun x _=>zEH x,Option.bind_some,← j9]
  cases l.any fun x=>!vZ x <;> rfl
theorem zEJ {l:List qc} (hl:l.length ≤ Go.maxLen):zmg (l,()) = some (l.all vZ,()):=by
  rw [zC]
  exact jB (B:=zcu) (l:=l) zB (fun i=>(l,i)) hl (fun k i x hi hx _=>by
    simp only [zcu]
    rw [ltT hi]
    simp only [zj hi,zG,hx,zmB,zIV,ztO,Option.bind_some,cond_true,vZ,zlc]
    grind) (fun k=>by simp only [zcu]; rw [ltF]; rfl)
def zrL (c:Int):Bool:=decide (32 ≤ c ∧ c ≤ 126)
theorem zNp (c:Int):zjD (c,()) = some (zrL c,()):=by simp only [zjD,zrL]; grind
theorem zOc (c:Int):zlw (c,()) = some (zrL c,()):=by simp only [zlw,zrL]; grind
def zA5 (s:ByteArray):Bool:=decide (1 ≤ s.size ∧ s.size ≤ 40) && ((chr s 0 != 32 && chr s (s.size - 1) != 32) && zW (fun i=>zrL (chr s i)) 0 s.size)
theorem zA6 (a b:ByteArray) (h:a.size < b.size):(ByteArray.toList a == ByteArray.toList b) = false:=by
  rw [beq_eq_false_iff_ne]
  intro e
  rw [Go.ByteArray.toList_eq,Go.ByteArray.toList_eq] at e
  have:=congrArg List.length e
  rw [zng,zng] at this
  omega
theorem zOd (s:ByteArray):∀ (n:Nat) (t:ByteArray),t.size ≤ n→∀ fuel,n < fuel→∃ r,zg zT fuel (t,32) = some (r,()) ∧ r.size ≤ t.size ∧ (chr t 0 ≠ 32→r = t) ∧ (1 ≤ t.size→chr t 0 = 32→r.size < t.size):=by
  intro n
  induction n with
  | zero =>
    intro t ht fuel hf
    obtain ⟨f,rfl⟩:∃ f,fuel = f + 1:=⟨fuel - 1,by omega⟩
    refine ⟨t,?_,Nat.le_refl _,fun _=>rfl,fun h=>by omega⟩
    show zT _ (t,32) = _
    simp only [zT]
    rw [decide_eq_false (by omega)]; rfl
  | succ n ih =>
    intro t ht fuel hf
    obtain ⟨f,rfl⟩:∃ f,fuel = f + 1:=⟨fuel - 1,by omega⟩
    by_cases h0:t.size = 0
    · refine ⟨t,?_,Nat.le_refl _,fun _=>rfl,fun h=>by omega⟩
      show zT _ (t,32) = _
      simp only [zT]
      rw [decide_eq_false (by omega)]; rfl
    have hc:((UInt8.toNat (List.getD t.data.toList (Int.toNat 0) 0):Nat):Int) = chr t 0:=rfl
    by_cases h32:chr t 0 = 32
    · have hsz:(ByteArray.extract t (Int.toNat 1) t.size).size = t.size - 1:=by
        rw [ByteArray.size_extract]
        show min t.size t.size - 1 = _
        omega
      obtain ⟨r,h1,h2,-⟩:=ih (ByteArray.extract t (Int.toNat 1) t.size) (by rw [hsz]; omega) f (by omega)
      refine ⟨r,?_,by omega,fun h=>absurd h32 h,fun _ _=>by omega⟩
      show zT (zg zT f) (t,32) = _
      simp only [zT]
      rw [hc,h32,h1]
      grind
    · refine ⟨t,?_,Nat.le_refl _,fun _=>rfl,fun _ h=>absurd h h32⟩
      show zT (zg zT f) (t,32) = _
      simp only [zT]
      rw [hc,decide_eq_true (by omega),decide_eq_true (by omega)]
      grind
theorem zOe:∀ (n:Nat) (t:ByteArray),t.size ≤ n→n ≤ 100→∀ fuel,n < fuel→∃ r,zg zP fuel (t,32) = some (r,()) ∧ r.size ≤ t.size ∧ (chr t (t.size - 1) ≠ 32→r = t) ∧ (1 ≤ t.size→chr t (t.size - 1) = 32→r.size < t.size):=by
  intro n
  induction n with
  | zero =>
    intro t ht _ fuel hf
    obtain ⟨f,rfl⟩:∃ f,fuel = f + 1:=⟨fuel - 1,by omega⟩
    refine ⟨t,?_,Nat.le_refl _,fun _=>rfl,fun h=>by omega⟩
    show zP _ (t,32) = _
    simp only [zP]
    rw [decide_eq_false (by omega)]; rfl
  | succ n ih =>
    intro t ht hn fuel hf
    obtain ⟨f,rfl⟩:∃ f,fuel = f + 1:=⟨fuel - 1,by omega⟩
    by_cases h0:t.size = 0
    · refine ⟨t,?_,Nat.le_refl _,fun _=>rfl,fun h=>by omega⟩
      show zP _ (t,32) = _
      simp only [zP]
      rw [decide_eq_false (by omega)]; rfl
    have hw:wI ((t.size:Int) - 1) = ((t.size - 1:Nat):Int):=zi2 (by omega) (by unfold Go.maxLen; omega)
    have hc:((UInt8.toNat (List.getD t.data.toList (Int.toNat ((t.size - 1:Nat):Int)) 0):Nat):Int) = chr t (t.size - 1):=by rw [Int.toNat_natCast]; rfl
    by_cases h32:chr t (t.size - 1) = 32
    · have hsz:(ByteArray.extract t 0 (Int.toNat ((t.size - 1:Nat):Int))).size = t.size - 1:=by
        rw [ByteArray.size_extract,Int.toNat_natCast]
        omega
      obtain ⟨r,h1,h2,-⟩:=ih (ByteArray.extract t 0 (Int.toNat ((t.size - 1:Nat):Int))) (by rw [hsz]; omega) (by omega) f (by omega)
      refine ⟨r,?_,by omega,fun h=>absurd h32 h,fun _ _=>by omega⟩
      show zP (zg zP f) (t,32) = _
      simp only [zP]
      rw [hw,hc,h32,h1,zj (by omega)]
      grind
    · refine ⟨t,?_,Nat.le_refl _,fun _=>rfl,fun _ h=>absurd h h32⟩
      show zP (zg zP f) (t,32) = _
      simp only [zP]
      rw [hw,hc,zj (by omega),decide_eq_true (by omega)]
      grind
theorem zNV (s:ByteArray) (h:1 ≤ s.size ∧ s.size ≤ 40):∃ r,zg0 (s,ByteArray.mk #[32],()) = some (r,()) ∧ (ByteArray.toList r == ByteArray.toList s) = (chr s 0 != 32 && chr s (s.size - 1) != 32):=by
  obtain ⟨r,h1,h2,h3,h4⟩:=zOe s.size s (Nat.le_refl _) (by omega) K0 (zFd (by unfold Go.maxLen; omega))
  obtain ⟨r',h5,h6,h7,h8⟩:=zOd s r.size r (Nat.le_refl _) K0 (zFd (by unfold Go.maxLen; omega))
  refine ⟨r',?_,?_⟩
  · simp only [zg0]
    have e0:(ByteArray.toList s == ByteArray.toList (ByteArray.mk #[])) = false:=by
      cases he:zos s with
      | false=>exact he
      | true =>
        unfold zos at he
        have:=eq_of_beq he
        rw [Go.ByteArray.toList_eq,Go.ByteArray.toList_eq] at this
        have h2:s.size = 0:=by
          rw [← zng,this]; rfl
        omega
    have e1:(ByteArray.toList (ByteArray.mk #[32]) == ByteArray.toList (ByteArray.mk #[])) = false:=by
      rw [Go.ByteArray.toList_eq,Go.ByteArray.toList_eq]; rfl
    have p1:zbN (s,32,()) = some (r,()):=h1
    have p2:zds (r,32,()) = some (r',()):=h5
    have z1:((ByteArray.size (ByteArray.mk #[32]):Nat):Int) = 1:=rfl
    have z2:((UInt8.toNat (List.getD (Array.toList (ByteArray.data (ByteArray.mk #[32]))) (Int.toNat 0) 0):Nat):Int) = 32:=rfl
    rw [e0,e1,z1,z2,p1,Option.bind_some,p2]
    rfl
  · by_cases hl:chr s (s.size - 1) = 32
    · have:=h4 h.1 hl
      rw [zA6 r' s (by omega),hl]; simp
    · obtain rfl:=h3 hl
      by_cases hf:chr r 0 = 32
      · have:=h8 h.1 hf
        rw [zA6 r' r (by omega),hf]; simp
      · rw [h7 hf]
        simp [hf,hl]
theorem zIY (s:ByteArray):zlB (s,()) = some (zA5 s,()):=by
  rw [zC]
  simp only [zlB]
  unfold zA5
  by_cases hb:1 ≤ s.size ∧ s.size ≤ 40
  · obtain ⟨r,h1,h2⟩:=zNV s hb
    rw [zA0 (by unfold Go.maxLen; omega) zNp,h1,zAZ,← h2]
    simp only [Option.bind_some]
    grind
  · grind
theorem zHd (s:ByteArray):zjQ (s,()) = some (zA5 s,()):=by
  rw [zC]
  simp only [zjQ,zjP]
  unfold zA5
  by_cases hb:1 ≤ s.size ∧ s.size ≤ 40
  · have hw:wI ((s.size:Int) - 1) = ((s.size - 1:Nat):Int):=zi2 hb.1 (by unfold Go.maxLen; omega)
    have hc:((UInt8.toNat (List.getD s.data.toList (Int.toNat ((s.size - 1:Nat):Int)) 0):Nat):Int) = chr s (s.size - 1):=by rw [Int.toNat_natCast]; rfl
    have hc0:((UInt8.toNat (List.getD s.data.toList (Int.toNat 0) 0):Nat):Int) = chr s 0:=rfl
    have hloop:zk6 K0 (s,0) = bif zW (fun i=>zrL (chr s i)) 0 (s.size - 0) then some (true,()) else some (false,()) :=
      z7 (i0:=0) (n:=s.size) (by unfold Go.maxLen; omega) (Nat.zero_le _) (fun i=>(s,i)) (fun k i h1 h2=>by
        simp only [zg6]
        have hc:((UInt8.toNat (List.getD s.data.toList (Int.toNat (i:Int)) 0):Nat):Int) = chr s i:=by rw [Int.toNat_natCast]; rfl
        rw [hc,ltT h2,zj h2,zOc]; rfl) (fun k=>by simp only [zg6]; rw [ltF]; rfl)
    rw [hw,zj (by omega),hc,hc0,hloop]
    grind
  · grind
def zks (x:qq):Bool:=bif x.1 then (qX x.2.1 && (qX x.2.2.1 && qX x.2.2.2.1)) && zA5 x.2.2.2.2.1 else eqI zV x (ze zV)
theorem zHe (x:qq):zkb (x,()) = some (!zks x,()):=by
  rw [zC]
  simp only [zkb,zk3,zLW,zIY,Option.bind_some,zks]
  grind
theorem zHf {l:List qq} (hl:l.length ≤ Go.maxLen):zke (l,()) = some (l.all zks,()):=by
  rw [zC]
  simp only [zke]
  rw [zkS (p:=fun x=>!zks x) hl fun x _=>zHe x,Option.bind_some,← j9]
  cases l.any fun x=>!zks x <;> rfl
theorem zEK {l:List qq} (hl:l.length ≤ Go.maxLen):zmi (l,()) = some (l.all zks,()):=by
  rw [zC]
  exact jB (B:=zcx) (l:=l) zaC (fun i=>(l,i)) hl (fun k i x hi hx _=>by
    simp only [zcx]
    rw [ltT hi]
    simp only [zj hi,zG,hx,zHd,zIW,Option.bind_some,cond_true,zks]
    grind) (fun k=>by simp only [zcx]; rw [ltF]; rfl)
end Go.Proofs.YtgomalidoilgbaaGreatDoor
end
section
namespace Go.Proofs.YtgomalidoilgbaaGreatDoor
open Go.Ev
abbrev M62:Int:=4611686018427387904
abbrev U64:Int:=18446744073709551616
def zZ (x:Int):Bool:=decide (0 ≤ x ∧ x ≤ 3)
theorem ya (x:Int):qV (x,()) = some (zZ x,()):=by simp only [qV,zZ]; grind
def zm8 (a b:Int):Int × Int × Unit:=bif decide (a + b > M62) then (0,7,()) else (a + b,0,())
theorem zxs {a b:Int} (ha:0 ≤ a) (hb:0 ≤ b ∧ b < U64):zfJ (a,b,()) = some (zm8 a b):=by
  simp only [zfJ,extA,extB,zm8,cond_true]
  have h0:0 ≤ (a + b) / 18446744073709551616:=by omega
  have h1:((a + b) / 18446744073709551616 != 0) = decide (18446744073709551616 ≤ a + b):=by
    rw [Bool.eq_iff_iff]; simp only [bne_iff_ne,ne_eq,decide_eq_true_eq]; omega
  have h2:a + b < 18446744073709551616→(a + b) % 18446744073709551616 = a + b:=fun h=>by omega
  unfold M62 at *
  unfold U64 at *
  grind
theorem zby {a b:Int} (ha:0 ≤ a ∧ a < U64) (hb:0 ≤ b ∧ b < U64):vj (a,b,()) = some (zm8 a b):=by
  simp only [vj,zm8]
  unfold M62
  unfold U64 at *
  by_cases h1:a > 4611686018427387904
  · grind
  · have hw:wU (4611686018427387904 - a) = 4611686018427387904 - a:=zdQ (by omega)
    rw [hw]
    by_cases h2:b > 4611686018427387904 - a
    · grind
    · have hw:wU (a + b) = a + b:=zdQ (by omega)
      rw [hw]
      grind
def zrM (a b:Int):Int × Int × Unit:=bif decide (a * b > M62) then (0,7,()) else (a * b,0,())
theorem zOf (a b:Nat) (ha:a < 18446744073709551616) (hb:b < 18446744073709551616):zdJ ((a:Int),(b:Int),()) = some ((((a * b) / 18446744073709551616:Nat):Int),(((a * b) % 18446744073709551616:Nat):Int),()):=by
  have e32:((2:Int) ^ min (Int.toNat 32) (Go.IntKind.bits .u64)) = 4294967296:=rfl
  have hand:∀ x:Nat,x < 18446744073709551616→wU (BitVec.toNat (BitVec.ofInt (Go.IntKind.bits .u64) (x:Int) &&& BitVec.ofInt (Go.IntKind.bits .u64) 4294967295):Int) = ((x % 4294967296:Nat):Int):=fun x hx=>by
    have h1:BitVec.ofInt (Go.IntKind.bits .u64) 4294967295 = BitVec.ofNat 64 4294967295:=rfl
    rw [zl2,h1]
    have h2:(BitVec.ofNat 64 x &&& BitVec.ofNat 64 4294967295).toNat = x % 4294967296:=by
      rw [BitVec.toNat_and,BitVec.toNat_ofNat,BitVec.toNat_ofNat,Nat.mod_eq_of_lt (show x < 2 ^ 64 by omega)]
      exact Nat.and_two_pow_sub_one_eq_mod x 32
    have h3:((BitVec.ofNat 64 x &&& BitVec.ofNat 64 4294967295:BitVec (Go.IntKind.bits .u64)).toNat:Int) = ((x % 4294967296:Nat):Int):=congrArg _ h2
    exact (congrArg wU h3).trans (zdQ (by omega))
  have hdiv:∀ x:Nat,Int.fdiv (x:Int) 4294967296 = ((x / 4294967296:Nat):Int):=fun x=>by
    rw [Int.fdiv_eq_ediv_of_nonneg _ (by omega)]; rfl
  have hw:∀ x:Nat,x < 18446744073709551616→wU (x:Int) = (x:Int):=fun x hx=>zdQ (by omega)
  have hmod:wU ((a:Int) * (b:Int)) = (((a * b) % 18446744073709551616:Nat):Int):=by
    rw [show ((a:Int) * (b:Int)) = ((a * b:Nat):Int) by simp]
    show ((a * b:Nat):Int) % ((2 ^ 64:Nat):Int) = _
    rfl
  simp only [zdJ,e32]
  have ha1:a / 4294967296 ≤ 4294967295:=by omega
  have ha0:a % 4294967296 ≤ 4294967295:=by omega
  have hb1:b / 4294967296 ≤ 4294967295:=by omega
  have hb0:b % 4294967296 ≤ 4294967295:=by omega
  have hp:=Nat.mul_le_mul ha1 hb1
  have hq:=Nat.mul_le_mul ha1 hb0
  have hr:=Nat.mul_le_mul ha0 hb1
  have hs:=Nat.mul_le_mul ha0 hb0
  have hab:a * b = (a / 4294967296 * (b / 4294967296)) * 18446744073709551616 + (a / 4294967296 * (b % 4294967296) + a % 4294967296 * (b / 4294967296)) * 4294967296 + a % 4294967296 * (b % 4294967296):=by
    conv=>lhs; rw [← Nat.div_add_mod a 4294967296,← Nat.div_add_mod b 4294967296]
    grind
  rw [hmod,hab,hand a ha,hand b hb,hdiv a,hdiv b]
  generalize a / 4294967296 = a1 at *
  generalize a % 4294967296 = a0 at *
  generalize b / 4294967296 = b1 at *
  generalize b % 4294967296 = b0 at *
  simp only [← Int.natCast_mul]
  generalize a1 * b1 = p at *
  generalize a1 * b0 = q at *
  generalize a0 * b1 = r at *
  generalize a0 * b0 = s at *
  rw [hw p (by omega),hw q (by omega),hw r (by omega),hw s (by omega),hdiv s]
  simp only [← Int.natCast_add]
  rw [hw (q + s / 4294967296) (by omega),hdiv (q + s / 4294967296),hand _ (by omega)]
  simp only [← Int.natCast_add]
  rw [hw (p + (q + s / 4294967296) / 4294967296) (by omega),hw ((q + s / 4294967296) % 4294967296 + r) (by omega),hdiv]
  simp only [← Int.natCast_add]
  rw [hw _ (by omega)]
  have:p + (q + s / 4294967296) / 4294967296 + ((q + s / 4294967296) % 4294967296 + r) / 4294967296 = (p * 18446744073709551616 + (q + r) * 4294967296 + s) / 18446744073709551616:=by omega
  rw [this]
theorem zHg {a b:Int} (ha:0 ≤ a ∧ a < U64) (hb:0 ≤ b ∧ b < U64):zgv (a,b,()) = some (zrM a b):=by
  obtain ⟨m,rfl⟩:=Int.eq_ofNat_of_zero_le ha.1
  obtain ⟨n,rfl⟩:=Int.eq_ofNat_of_zero_le hb.1
  unfold U64 at *
  simp only [zgv]
  rw [zOf m n (by omega) (by omega),Option.bind_some]
  unfold zrM M62
  have e:((m:Int) * (n:Int)) = ((m * n:Nat):Int):=by simp
  rw [e]
  generalize m * n = p
  by_cases h:p < 18446744073709551616
  · have h1:p / 18446744073709551616 = 0:=by omega
    have h2:p % 18446744073709551616 = p:=by omega
    simp only [h1,h2]
    grind
  · have h1:(((p / 18446744073709551616:Nat):Int) != 0) = true:=by simp only [bne_iff_ne,ne_eq]; omega
    simp only [h1]
    grind
theorem zEL {a b:Int} (ha:0 ≤ a ∧ a < U64) (hb:0 ≤ b ∧ b < U64):zij (a,b,()) = some (zrM a b):=by
  obtain ⟨m,rfl⟩:=Int.eq_ofNat_of_zero_le ha.1
  obtain ⟨n,rfl⟩:=Int.eq_ofNat_of_zero_le hb.1
  unfold U64 at *
  simp only [zij,zrM]
  unfold M62
  by_cases h0:m = 0
  · subst h0
    simp only [Int.natCast_zero,Int.zero_mul]
    rfl
  · have e:((m:Int) * (n:Int)) = ((m * n:Nat):Int):=by simp
    have hd:Int.tdiv 4611686018427387904 (m:Int) = ((4611686018427387904 / m:Nat):Int):=rfl
    have hle:4611686018427387904 / m ≤ 4611686018427387904:=Nat.div_le_self _ _
    have h1:4611686018427387904 / m < n ↔ 4611686018427387904 < m * n:=by
      have:=Nat.div_lt_iff_lt_mul (x:=4611686018427387904) (y:=n) (k:=m) (by omega)
      rw [Nat.mul_comm] at this
      exact this
    rw [hd]
    generalize 4611686018427387904 / m = q at *
    have hw:wU ((q:Nat):Int) = (q:Int):=zdQ (by omega)
    have b1:(((m:Nat):Int) != 0) = true:=by simp only [bne_iff_ne,ne_eq]; omega
    have b2:(((m:Nat):Int) == 0) = false:=by simp only [beq_eq_false_iff_ne,ne_eq]; omega
    rw [hw,b1,b2,e]
    by_cases h2:m * n > 4611686018427387904
    · have:=h1.2 h2
      rw [decide_eq_true (by omega),decide_eq_true (by omega)]
      rfl
    · have h3:¬ q < n:=fun h=>h2 (h1.1 h)
      have hw2:wU ((m * n:Nat):Int) = ((m * n:Nat):Int):=zdQ (by omega)
      rw [decide_eq_false (by omega),decide_eq_false (by omega),hw2]
      rfl
def zld:Int→List Int→Int × Int × Unit
  | a,[]=>(a,0,())
  | a,x :: l=>bif decide (a + x > M62) then (0,7,()) else zld (a + x) l
theorem jY {σ α β ρ:Type} {B:(σ→Option ρ)→σ→Option ρ} {l:List β} (d:β) (I:Nat→α→Prop) (st:Int→α→σ) (G:List β→α→Option ρ) (hl:l.length ≤ Go.maxLen)
    (hin:∀ k (i:Nat) x rest s,i < l.length→I i s→l.getD i d = x→x ∈ l→l.drop (i + 1) = rest→(∀ s',I (i + 1) s'→k (st (wI (i + 1)) s') = G rest s')→B k (st i s) = G (x :: rest) s) (hout:∀ k s,I l.length s→B k (st l.length s) = G [] s) (s:α) (h0:I 0 s):zg B K0 (st 0 s) = G l s:=by
  have:=zfH (B:=B) hl st (fun i s=>G (l.drop i) s) I (fun k i s hi hI h=>?_) (fun k s hI=>?_) s h0
  · simpa using this
  · rw [zb3 d hi]
    exact hin k i _ _ s hi hI rfl (zX hi) rfl fun s' hI'=>h s' hI'
  · rw [hout _ _ hI,List.drop_of_length_le (Nat.le_refl _)]
theorem zm9 {l:List Int} (hl:l.length ≤ Go.maxLen) (h:∀ x ∈ l,0 ≤ x ∧ x < U64):zg1 (l,()) = some (zld 0 l) :=
  jY (B:=zgx) (l:=l) (α:=Int) (0:Int) (fun _ s=>0 ≤ s) (fun i s=>(s,l,(l.length:Int),i)) (fun rest s=>some (zld s rest)) hl (fun k i x rest s hi hI hx hm hr hk=>by
    simp only [zgx]
    have hxx:=h x hm
    rw [ltT hi,zj hi,zG,hx,zxs hI hxx]
    simp only [cond_true,Option.bind_some,zm8,zld]
    by_cases hb:s + x > M62
    · rw [decide_eq_true hb]; rfl
    · rw [decide_eq_false hb]
      exact hk (s + x) (by omega)) (fun k s _=>by simp only [zgx]; rw [ltF]; rfl) 0 (Int.le_refl 0)
def zCD (a b:zz):Bool:=decide (a.1 ≤ b.1) && (List.range' 0 64).all fun i=>!zmC a.2.1 i || zmC b.2.1 i
def zot (a:zz):Prop:=0 ≤ a.2.1 ∧ a.2.1 < U64
theorem zxt {a b:zz} (ha:zot a) (hb:zot b):zhQ (a,b,()) = some (zCD a b,()):=by
  rw [zC]
  simp only [zhQ]
  unfold zCD
  unfold zot U64 at *
  obtain ⟨m,hm⟩:=Int.eq_ofNat_of_zero_le ha.1
  obtain ⟨n,hn⟩:=Int.eq_ofNat_of_zero_le hb.1
  have h1:=zxr m n (by omega) (by omega)
  unfold zhg at h1
  have h2:(wU (BitVec.toNat (BitVec.ofInt (Go.IntKind.bits .u64) (a.2.1:Int) &&& ~~~BitVec.ofInt (Go.IntKind.bits .u64) (b.2.1:Int)):Int) == 0) = (List.range' 0 64).all fun i=>!zmC a.2.1 i || zmC b.2.1 i:=by
    rw [hm,hn]
    have h3:∀ z:Int,(z != 0) = !(z == 0):=fun z=>rfl
    rw [h3] at h1
    have h4:=congrArg (!·) h1
    simp only [Bool.not_not] at h4
    exact h4
  rw [h2]
  grind
theorem zIZ {a b:zz} (ha:zot a) (hb:zot b):zqv (a,b,()) = some (zCD a b,()):=by
  rw [zC]
  unfold zCD
  unfold zot U64 at *
  have hr:List.range 64 = List.range' 0 64:=List.range_eq_range'
  rw [← hr]
  have hloop:=zDd (B:=zfu) (n:=64) (by unfold Go.maxLen; omega) (p:=fun i=>!zmC a.2.1 i || zmC b.2.1 i) (fin:=bif decide (a.1 ≤ b.1) then some (true,()) else some (false,())) (bad:=some (false,())) (fun i=>(i,a,b)) (fun k i hi=>by
    simp only [zfu]
    rw [decide_eq_true (by omega),zqy _ _ ha.1 (by omega),zqy _ _ hb.1 (by omega),Int.toNat_natCast]
    simp only [cond_true,Option.bind_some]
    grind) (fun k=>by simp only [zfu]; rfl)
  refine hloop.trans ?_
  grind
theorem zA7 (x:Int):zgW (x,()) = some (qX x,()):=by simp only [zgW,qX]; grind
theorem zI0 (x:Int):jp (x,()) = some (qX x,()):=by simp only [jp,qX]; grind
def zh3 (x:zjp):Bool:=zZ x.1 && (decide (x.2.1 ≤ M62) && decide (-1 ≤ x.2.2.1 ∧ x.2.2.1 ≤ 127))
theorem zI1 (x:zjp):zhX (x,()) = some (zh3 x,()):=by
  rw [zC]
  simp only [zhX,ya,zA7,Option.bind_some,zh3,qX]
  unfold M62
  grind
theorem zI2 (x:zjp):jq (x,()) = some (zh3 x,()):=by
  rw [zC]
  simp only [jq,zh3,zZ]
  unfold M62
  grind
def zpU (x:zjp):Bool:=(x.2.1:Int) == 0 && (x.2.2.1:Int) == -1
theorem zHh (x:zjp):zgs (x,()) = some (zpU x,()):=by
  rw [zC]
  simp only [zgs,zpU]
  have h:eqI zb4 x (x.1,(ze zb4).2.1,-1,(ze zb4).2.2.2) = ((x.2.1:Int) == 0 && (x.2.2.1:Int) == -1):=by
    show cond ((x.1:Int) == x.1) (cond ((x.2.1:Int) == 0) (cond ((x.2.2.1:Int) == -1) true false) false) false = _
    rw [beq_self_eq_true]
    cases ((x.2.1:Int) == 0) <;> cases ((x.2.2.1:Int) == -1) <;> rfl
  rw [h]
def zou (x:zv):Bool:=(qX x.2.1 && (qX x.2.2.1 && (x.2.1:Int) != x.2.2.1)) && ((zh3 x.2.2.2.1 && zh3 x.2.2.2.2.1) && !(zpU x.2.2.2.1 && zpU x.2.2.2.2.1))
def zhi (x:zv):Prop:=(0 ≤ x.2.2.2.1.2.1 ∧ x.2.2.2.1.2.1 < U64) ∧ (0 ≤ x.2.2.2.2.1.2.1 ∧ x.2.2.2.2.1.2.1 < U64)
theorem zI3 (x:zv):zly (x,()) = some (zou x,()):=by
  rw [zC]
  simp only [zly,zA7,zI1,zHh,Option.bind_some,zou]
  grind
theorem zHi {x:zv} (h:zhi x):zjR (x,()) = some (zou x,()):=by
  rw [zC]
  simp only [zjR,zI0,zI2,Option.bind_some,zou]
  have h1:zh3 x.2.2.2.1 = true→zpU x.2.2.2.1 = !(decide (x.2.2.2.1.2.1 > 0) || decide (x.2.2.2.1.2.2.1 ≥ 0)):=fun hp=>by
    unfold zh3 at hp; unfold zpU; unfold zhi at h; grind
  have h2:zh3 x.2.2.2.2.1 = true→zpU x.2.2.2.2.1 = !(decide (x.2.2.2.2.1.2.1 > 0) || decide (x.2.2.2.2.1.2.2.1 ≥ 0)):=fun hp=>by
    unfold zh3 at hp; unfold zpU; unfold zhi at h; grind
  generalize decide (x.2.2.2.1.2.1 > 0) = c1 at *
  generalize decide (x.2.2.2.1.2.2.1 ≥ 0) = c2 at *
  generalize decide (x.2.2.2.2.1.2.1 > 0) = c3 at *
  generalize decide (x.2.2.2.2.1.2.2.1 ≥ 0) = c4 at *
  cases c1 <;> cases c2 <;> cases c3 <;> cases c4 <;> grind
def zhj (x:zv):Bool:=bif x.1 then zou x else eqI zx x (ze zx)
theorem zA8 (x:zv):zf6 (x,()) = some (!zhj x,()):=by
  rw [zC]
  simp only [zf6,zI3,Option.bind_some,zhj]
  grind
theorem zEM {l:List zv} (hl:l.length ≤ Go.maxLen):zis (l,()) = some (l.all zhj,()):=by
  rw [zC]
  simp only [zis]
  rw [zko (p:=fun x=>!zhj x) hl fun x _=>zA8 x,Option.bind_some,← j9]
  cases l.any fun x=>!zhj x <;> rfl
theorem zEN {l:List zv} (hl:l.length ≤ Go.maxLen) (h:∀ x ∈ l,zhi x):zmk (l,()) = some (l.all zhj,()):=by
  rw [zC]
  exact jB (B:=zcz) (l:=l) zS (fun i=>(l,i)) hl (fun k i x hi hx hm=>by
    simp only [zcz]
    rw [ltT hi]
    simp only [zj hi,zG,hx,zHi (h x hm),Option.bind_some,cond_true,zhj]
    grind) (fun k=>by simp only [zcz]; rw [ltF]; rfl)
end Go.Proofs.YtgomalidoilgbaaGreatDoor
end
section
namespace Go.Proofs.YtgomalidoilgbaaGreatDoor
open Go.Ev
theorem zle {α:Type} {p:α→Bool} {x:α} {l:List α}:(x :: l).filter p = bif p x then x :: l.filter p else l.filter p:=by
  rw [List.filter_cons]; cases p x <;> rfl
def qN {α:Type} (p:α→Bool):Nat→List α→List Int
  | _,[]=>[]
  | i,x :: l=>bif p x then (i:Int) :: qN p (i + 1) l else qN p (i + 1) l
theorem zna {α:Type} {p:α→Bool}:∀ (l:List α) (i:Nat),(qN p i l).length ≤ l.length
  | [],_=>Nat.le_refl _
  | x :: l,i=>by
    have:=zna (p:=p) l (i + 1)
    simp only [qN,List.length_cons]
    cases p x <;> simp <;> omega
theorem znb {α:Type} {p:α→Bool}:∀ (l:List α) (i:Nat),∀ z ∈ qN p i l,∃ j:Nat,z = (j:Int) ∧ i ≤ j ∧ j < i + l.length
  | [],i,z,h=>by cases h
  | x :: l,i,z,h=>by
    simp only [qN] at h
    have ih:=znb (p:=p) l (i + 1)
    cases hp:p x with
    | true =>
      rw [hp,cond_true] at h
      rcases List.mem_cons.1 h with rfl | h
      · exact ⟨i,rfl,Nat.le_refl _,by simp⟩
      · obtain ⟨j,h1,h2,h3⟩:=ih z h
        exact ⟨j,h1,by omega,by simp; omega⟩
    | false =>
      rw [hp,cond_false] at h
      obtain ⟨j,h1,h2,h3⟩:=ih z h
      exact ⟨j,h1,by omega,by simp; omega⟩
theorem zmE {α β:Type} {p q:α→Bool} {g:α→β} (d:α) (L:List α):∀ (l:List α) (i:Nat),(∀ j,j < l.length→L.getD (i + j) d = l.getD j d)→((qN p i l).filter fun z=>q (L.getD z.toNat d)).map (fun z=>g (L.getD z.toNat d)) = (l.filter fun x=>p x && q x).map g
  | [],_,_=>rfl
  | x :: l,i,h=>by
    have ih:=zmE (p:=p) (q:=q) (g:=g) d L l (i + 1) fun j hj=>by
      have:=h (j + 1) (by simp; omega)
      rw [show i + 1 + j = i + (j + 1) by omega,this]; rfl
    have h0:L.getD i d = x:=h 0 (by simp)
    simp only [qN,zle]
    cases hp:p x with
    | false=>simp only [cond_false,Bool.false_and]; exact ih
    | true =>
      simp only [cond_true,Bool.true_and,zle,Int.toNat_natCast,h0]
      cases hq:q x with
      | false=>exact ih
      | true=>simp only [cond_true,List.map_cons,Int.toNat_natCast,h0,ih]
theorem zvQ {l:List zv} {g:zv × Unit→Option (Bool × Unit)}:ze6 (some (l,some g,()),()) = some (true,()):=rfl
theorem zxu {l:List zv} {g:zv × Unit→Option (Bool × Unit)} {p:zv→Bool} (hg:∀ x,g (x,()) = some (p x,())) {i:Nat} (hi:i < l.length):vT (some (l,some g,()),(i:Int),()) = some (p (l.getD i zS),()):=by
  rw [zC]
  simp only [vT,zvQ,Option.bind_some,cond_true]
  rw [decide_eq_true (by omega),ltT hi,zj hi,zG,hg]
  simp only [cond_true,Option.bind_some]
theorem ztP {l:List zv} {g:zv × Unit→Option (Bool × Unit)} {p:zv→Bool} (hl:l.length ≤ lim) (hg:∀ x,g (x,()) = some (p x,())):zdP (some (l,some g,()),()) = some (qN p 0 l,()):=by
  have hl':l.length ≤ Go.maxLen:=by unfold lim at hl; unfold Go.maxLen; omega
  have:=zfH (B:=yD) (α:=List Int) hl' (fun i o=>(some (l,some g,()),(l.length:Int),i,o)) (fun i o=>some (o ++ qN p i (l.drop i),())) (fun i o=>o.length ≤ i) (fun k i o hi hI hk=>by
    simp only [yD]
    rw [ltT hi,zxu hg hi,zvN,zb3 zS hi]
    simp only [cond_true,Option.bind_some,qN]
    rw [decide_eq_true (by simp; omega)]
    cases hp:p (l.getD i zS) with
    | false =>
      simp only [cond_false]
      exact hk o (by omega)
    | true =>
      simp only [cond_true]
      rw [hk _ (by simp; omega)]
      simp) (fun k o _=>by
    simp only [yD]
    rw [ltF,List.drop_of_length_le (Nat.le_refl _)]
    simp [qN]) [] (Nat.le_refl _)
  refine Eq.trans ?_ (this.trans ?_)
  · rfl
  · simp
theorem zHj {l:List zt} {g:zt × Unit→Option (Bool × Unit)}:ze7 (some (l,some g,()),()) = some (true,()):=rfl
theorem zI4 {l:List zt} {g:zt × Unit→Option (Bool × Unit)} {p:zt→Bool} (hg:∀ x,g (x,()) = some (p x,())) {i:Nat} (hi:i < l.length):zf4 (some (l,some g,()),(i:Int),()) = some (p (l.getD i zI),()):=by
  rw [zC]
  simp only [zf4,zHj,Option.bind_some,cond_true]
  rw [decide_eq_true (by omega),ltT hi,zj hi,zG,hg]
  simp only [cond_true,Option.bind_some]
theorem zEO {l:List zt} {g:zt × Unit→Option (Bool × Unit)} {p:zt→Bool} (hl:l.length ≤ lim) (hg:∀ x,g (x,()) = some (p x,())):zhF (some (l,some g,()),()) = some (qN p 0 l,()):=by
  have hl':l.length ≤ Go.maxLen:=by unfold lim at hl; unfold Go.maxLen; omega
  have:=zfH (B:=yF) (α:=List Int) hl' (fun i o=>(some (l,some g,()),(l.length:Int),i,o)) (fun i o=>some (o ++ qN p i (l.drop i),())) (fun i o=>o.length ≤ i) (fun k i o hi hI hk=>by
    simp only [yF]
    rw [ltT hi,zI4 hg hi,zvN,zb3 zI hi]
    simp only [cond_true,Option.bind_some,qN]
    rw [decide_eq_true (by simp; omega)]
    cases hp:p (l.getD i zI) with
    | false =>
      simp only [cond_false]
      exact hk o (by omega)
    | true =>
      simp only [cond_true]
      rw [hk _ (by simp; omega)]
      simp) (fun k o _=>by
    simp only [yF]
    rw [ltF,List.drop_of_length_le (Nat.le_refl _)]
    simp [qN]) [] (Nat.le_refl _)
  refine Eq.trans ?_ (this.trans ?_)
  · rfl
  · simp
def zjb (l:List zv) (c:Int):Int × Int × Unit:=bif zZ c then zld 0 ((l.filter fun x=>x.1 && (x.2.2.2.1.1:Int) == c).map fun x=>x.2.2.2.1.2.1) else (0,1,())
theorem zI5 (l:List zv) (hl:l.length ≤ lim):zlz (l,()) = some (some (l,some zid,()),()):=by
  simp only [zlz,yK,zmz hl,Option.bind_some]
  rfl
theorem zEP (x:zv):zid (x,()) = some (x.1,()):=by
  rw [zC]; rfl
theorem zHk {l:List zv} (hl:l.length ≤ lim) (h:∀ x ∈ l,zhi x) (c:Int):zj8 (l,c,()) = some (zjb l c):=by
  have hl':l.length ≤ Go.maxLen:=by unfold lim at hl; unfold Go.maxLen; omega
  simp only [zj8,zj7,ya,Option.bind_some]
  unfold zjb
  cases hc:zZ c with
  | false=>rfl
  | true =>
    simp only [cond_true]
    rw [zI5 l hl,Option.bind_some,ztP hl zEP,Option.bind_some]
    have hsl:=zna (p:=fun x:zv=>x.1) l 0
    have hsm:=znb (p:=fun x:zv=>x.1) l 0
    have hloop:=jY (B:=zez) (l:=qN (fun x:zv=>x.1) 0 l) (α:=List Int) (0:Int) (fun i o=>o.length ≤ i ∧ ∀ x ∈ o,0 ≤ x ∧ x < U64) (fun i o=>(l,c,qN (fun x:zv=>x.1) 0 l,((qN (fun x:zv=>x.1) 0 l).length:Int),i,o))
      (fun rest o=>some (zld 0 (o ++ (rest.filter fun z=>((l.getD z.toNat zS).2.2.2.1.1:Int) == c).map fun z=>(l.getD z.toNat zS).2.2.2.1.2.1))) (by omega) (fun k i x rest o hi hI hx hm hr hk=>by
        simp only [zez]
        obtain ⟨j,rfl,-,hj⟩:=hsm x hm
        rw [ltT hi,zj hi,zG,hx,zj (by omega),zj (by omega),Int.toNat_natCast,zvN]
        have hxx:=(h (l.getD j zS) (zX (by omega))).1
        simp only [cond_true,zle,Int.toNat_natCast]
        rw [decide_eq_true (by simp; omega)]
        simp only [cond_true]
        cases hq:((l.getD j zS).2.2.2.1.1:Int) == c with
        | false =>
          exact hk o ⟨by omega,hI.2⟩
        | true =>
          simp only [cond_true,List.map_cons,Int.toNat_natCast]
          refine (hk _ ⟨by simp; omega,fun x hx=>?_⟩).trans ?_
          · rcases List.mem_append.1 hx with hx | hx
            · exact hI.2 x hx
            · rcases List.mem_singleton.1 hx with rfl
              exact hxx
          · rw [List.append_assoc]; rfl) (fun k o hI=>by
        simp only [zez]
        rw [ltF]
        simp only [cond_false]
        rw [zm9 (by omega) hI.2,List.filter_nil,List.map_nil,List.append_nil]
        rfl) [] ⟨Nat.le_refl _,fun x hx=>by cases hx⟩
    refine hloop.trans ?_
    rw [List.nil_append,zmE (q:=fun x:zv=>(x.2.2.2.1.1:Int) == c) (g:=fun x:zv=>x.2.2.2.1.2.1) zS l l 0 fun j _=>by rw [Nat.zero_add]]
theorem zHl {l:List zv} (hl:l.length ≤ Go.maxLen) (h:∀ x ∈ l,zhi x) (c:Int):zjW (l,c,()) = some (zjb l c):=by
  simp only [zjW,zjV]
  unfold zjb
  cases hc:zZ c with
  | false=>unfold zZ at hc; grind
  | true =>
    have hloop:=jY (B:=zem) (l:=l) (α:=Int) zS (fun _ s=>0 ≤ s ∧ s ≤ M62) (fun i s=>(l,c,s,i)) (fun rest s=>some (zld s ((rest.filter fun x=>x.1 && (x.2.2.2.1.1:Int) == c).map fun x=>x.2.2.2.1.2.1))) hl (fun k i x rest s hi hI hx hm hr hk=>by
      simp only [zem]
      have hxx:=(h x hm).1
      rw [ltT hi]
      simp only [zj hi,zG,hx,cond_true,zle]
      unfold M62 at *
      unfold U64 at *
      rw [zby (by unfold U64; omega) (by unfold U64; omega)]
      cases hl:x.1 with
      | false=>exact hk s hI
      | true =>
        cases hq:(x.2.2.2.1.1:Int) == c with
        | false=>exact hk s hI
        | true =>
          simp only [cond_true,Option.bind_some,zm8,Bool.and_self,List.map_cons,zld]
          unfold M62
          by_cases hb:s + x.2.2.2.1.2.1 > 4611686018427387904
          · rw [decide_eq_true hb]; rfl
          · rw [decide_eq_false hb]
            exact hk (s + x.2.2.2.1.2.1) (by omega)) (fun k s _=>by simp only [zem]; rw [ltF]; rfl) 0 (by unfold M62; omega)
    refine Eq.trans ?_ hloop
    unfold zZ at hc
    grind
end Go.Proofs.YtgomalidoilgbaaGreatDoor
end
section
namespace Go.Proofs.YtgomalidoilgbaaGreatDoor
open Go.Ev
def zyL (x:Int):Bool:=decide (0 ≤ x ∧ x ≤ 2)
theorem zCE (x:Int):zaS (x,()) = some (!zyL x,()):=by simp only [zaS,zyL]; grind
def zvR (r:zf) (i:Nat) (row:List Int):Bool:=decide (row.length = r.2.2.1.length) && (row.all zyL && row.getD (Int.toNat (r.2.2.2.1.getD i qG).2.1) (0:Int) == 2)
def zov (r:zf) (l:List (List Int)):Bool:=decide (l.length = r.2.2.2.1.length) && zW (fun i=>zvR r i (l.getD i [])) 0 (l.length - 0)
structure zhk (r:zf):Prop where
  labels:1 ≤ r.1.length ∧ r.1.length ≤ 8
  lines:1 ≤ r.2.1.length ∧ r.2.1.length ≤ 8
  accounts:1 ≤ r.2.2.1.length ∧ r.2.2.1.length ≤ 8
  guilds:r.2.2.2.1.length ≤ 8
  quotas:r.2.2.2.2.1.length = r.1.length
  heads:∀ i,i < r.2.2.2.1.length→0 ≤ (r.2.2.2.1.getD i qG).2.1 ∧ (r.2.2.2.1.getD i qG).2.1 < (r.2.2.1.length:Int)
theorem vG {r:zf} (h:ja r = true):zhk r:=by
  simp only [ja,Bool.and_eq_true] at h
  obtain ⟨h1,h2,h3,h4,h5,-⟩:=h
  simp only [zbT,zl1,zeM,znh,zfN,zU,Bool.and_eq_true,decide_eq_true_eq,zA3,qP] at h1 h2 h3 h4 h5
  refine ⟨by omega,by omega,by omega,h4.1,by omega,fun i hi=>?_⟩
  have:=h4.2.1 i (by omega) (by omega)
  simp only [zyK,zU,Bool.and_eq_true,decide_eq_true_eq] at this
  omega
theorem ixR {n:Nat} {x:Int} {ρ:Type} {y:Option ρ} (h:0 ≤ x ∧ x < (n:Int)):inR x (n:Int) y = y:=zLO h.1 h.2
theorem zHm {r:zf} (hr:qi r) (l:List (List Int)):zkm (r,l,()) = some (ja r && zov r l,()):=by
  rw [zC]
  simp only [zkm,zkl,zmD r hr,Option.bind_some]
  cases hb:ja r with
  | false=>rfl
  | true =>
    have ok:=vG hb
    rw [zia]
    unfold zov
    by_cases hn:l.length = r.2.2.2.1.length
    · have hg:=ok.guilds
      have hloop:zlb K0 (some zaS,l,(l.length:Int),0,r) = bif zW (fun i=>zvR r i (l.getD i [])) 0 (l.length - 0) then some (true,()) else some (false,()) :=
        z7 (i0:=0) (n:=l.length) (by unfold Go.maxLen; omega) (Nat.zero_le _) (fun i=>(some zaS,l,(l.length:Int),i,r)) (fun k i h1 h2=>by
          simp only [zhe]
          rw [ltT h2,zj h2,Int.toNat_natCast,zia]
          unfold zvR
          by_cases hm:(l.getD i []).length = r.2.2.1.length
          · have ha:=ok.accounts
            have hh:=ok.heads i (by omega)
            rw [zdg (p:=fun x=>!zyL x) (l:=l.getD i []) (by unfold Go.maxLen; omega) fun x _=>zCE x,zj (by omega),zG,ixR (by rw [hm]; exact hh)]
            have:=j9 (l:=l.getD i []) (p:=zyL)
            simp only [Option.bind_some,cond_true]
            grind
          · grind) (fun k=>by simp only [zhe]; rw [ltF]; rfl)
      rw [hloop]
      grind
    · grind
theorem zEQ {r:zf} (hr:qi r) (l:List (List Int)):ziq (r,l,()) = some (ja r && zov r l,()):=by
  rw [zC]
  simp only [ziq,zio,ztN r hr,Option.bind_some]
  cases hb:ja r with
  | false=>rfl
  | true =>
    have ok:=vG hb
    rw [zia]
    unfold zov
    by_cases hn:l.length = r.2.2.2.1.length
    · have hg:=ok.guilds
      have ha:=ok.accounts
      have inner:∀ k0 (i:Nat),i < l.length→(l.getD i []).length = r.2.2.1.length→zf8 K0 k0 (l,(i:Int),0,r) = bif (l.getD i []).all zyL then k0 (l,wI ((i:Int) + 1),r) else some (false,()):=fun k0 i hi hm =>
        jB (l:=l.getD i []) (0:Int) (fun j=>(l,(i:Int),j,r)) (by unfold Go.maxLen; omega) (fun k j x h1 h2 _=>by
          simp only [zf7]
          have h2':List.getD (l.getD i []) j (0:Int) = x:=h2
          simp only [zj hi,Int.toNat_natCast,ltT h1,zj h1,h2',cond_true,zyL]
          grind) (fun k=>by
          simp only [zf7]
          simp only [zj hi,Int.toNat_natCast]
          rw [ltF]; rfl)
      have hloop:zka K0 (l,0,r) = bif zW (fun i=>zvR r i (l.getD i [])) 0 (l.length - 0) then some (true,()) else some (false,()) :=
        z7 (i0:=0) (n:=l.length) (by unfold Go.maxLen; omega) (Nat.zero_le _) (fun i=>(l,i,r)) (fun k i h1 h2=>by
          simp only [zcH]
          rw [ltT h2]
          simp only [zj h2,Int.toNat_natCast]
          rw [zia]
          unfold zvR
          by_cases hm:(l.getD i []).length = r.2.2.1.length
          · have hh:=ok.heads i (by omega)
            have hi:=inner k i h2 hm
            rw [zj (by omega),zG,ixR (by rw [hm]; exact hh),hi]
            simp only [cond_true]
            grind
          · grind) (fun k=>by simp only [zcH]; rw [ltF]; rfl)
      rw [hloop]
      grind
    · grind
theorem zLY (x:Int):zlS (x,()) = some (qX x,()):=by simp only [zlS,qX]; grind
theorem zI6 (x:Int):zhR (x,()) = some (qX x,()):=by simp only [zhR,qX]; grind
theorem zKH (x:Int):ze2 (x,()) = some (qX x,()):=by simp only [ze2,qX]; grind
theorem zI7 (x:Int):zdw (x,()) = some (qX x,()):=by simp only [zdw,qX]; grind
def zkt (k a b:Int):Int × Int × Unit:=bif (k != 1 && k != 2) || (a == 0 || b == 0) then (0,1,()) else bif decide (a * b > M62) then (0,7,()) else bif k == 2 then (a,0,()) else (a * b,0,())
theorem zxv {k a b:Int} (ha:0 ≤ a ∧ a < U64) (hb:0 ≤ b ∧ b < U64):zh0 (k,a,b,()) = some (zkt k a b):=by
  simp only [zh0,zHg ha hb,Option.bind_some,zrM,zkt]
  generalize a * b = p
  cases h:decide (p > M62) <;> simp only [cond_true,cond_false] <;> grind
theorem zvS {k a b:Int} (ha:0 ≤ a ∧ a < U64) (hb:0 ≤ b ∧ b < U64):zgz (k,a,b,()) = some (zkt k a b):=by
  simp only [zgz,zEL ha hb,Option.bind_some,zrM,zkt]
  generalize a * b = p
  cases h:decide (p > M62) <;> simp only [cond_true,cond_false] <;> grind
def qv (x:Int):Prop:=0 ≤ x ∧ x < U64
structure zhl (x:zt):Prop where
  amount:qv x.2.2.2.2.2.2.1
  price:qv x.2.2.2.2.2.2.2.1
  held:qv x.2.2.2.2.2.2.2.2.1
def ziT (x:zt):Bool:=((zkt x.2.2.2.1 x.2.2.2.2.2.2.2.1 x.2.2.2.2.2.2.1).2.1 == 0 && (zkt x.2.2.2.1 x.2.2.2.2.2.2.2.1 x.2.2.2.2.2.2.1).1 == x.2.2.2.2.2.2.2.2.1) && ((qX x.2.1 && qX x.2.2.1) && ((zZ x.2.2.2.2.1 && zZ x.2.2.2.2.2.1) && ((x.2.2.2.2.1:Int) != x.2.2.2.2.2.1 && decide (0 ≤ x.2.2.2.2.2.2.2.2.2.1))))
theorem zKI {x:zt} (h:zhl x):zm6 (x,()) = some (ziT x,()):=by
  rw [zC]
  simp only [zm6,zxv h.price h.amount,zLY,ya,Option.bind_some,ziT]
  generalize zkt x.2.2.2.1 x.2.2.2.2.2.2.2.1 x.2.2.2.2.2.2.1 = n
  grind
theorem zI8 {x:zt} (h:zhl x):zh1 (x,()) = some (ziT x,()):=by
  rw [zC]
  simp only [zh1,zvS h.price h.amount,zI6,Option.bind_some,ziT]
  generalize zkt x.2.2.2.1 x.2.2.2.2.2.2.2.1 x.2.2.2.2.2.2.1 = n
  unfold zZ
  grind
def zlf (x:zt):Bool:=bif x.1 then ziT x else eqI zp x (ze zp)
def zqz (l:List zt):List Int:=(l.filter fun x=>x.1).map fun x=>x.2.2.2.2.2.2.2.2.2.1
theorem zKJ (o:List (Int × Int)) (x z v:Int):jJ tI (jM tI o x v) z = (jJ tI o z || z == x):=by
  induction o with
  | nil=>simp only [jM,jJ]; show (bif z == x then true else false) = (false || z == x); cases z == x <;> rfl
  | cons e o ih =>
    obtain ⟨e1,e2⟩:=e
    have hx:∀ y:Int,eqI tI y e1 = (y == e1):=fun y=>rfl
    simp only [jM,jJ,hx]
    cases h:x == e1 with
    | true =>
      have:=eq_of_beq h
      subst this
      simp only [cond_true,jJ,hx]
      cases z == x <;> simp
    | false =>
      simp only [cond_false,jJ,ih,hx]
      cases z == e1 <;> rfl
theorem zDi (o:List (Int × Int)) (x v:Int):(jM tI o x v).length = o.length + (bif jJ tI o x then 0 else 1):=by
  induction o with
  | nil=>rfl
  | cons e o ih =>
    simp only [jM,jJ]
    cases h:eqI tI x e.1 with
    | true=>simp only [cond_true,List.length_cons,Nat.add_zero]
    | false =>
      simp only [cond_false,List.length_cons,ih]
      generalize (bif jJ tI o x then 0 else 1) = n
      omega
def zqA:List Int→List (Int × Int)→Nat
  | [],o=>o.length
  | x :: l,o=>zqA l (jM tI o x (wI (zaA tI (0:Int) o x + 1)))
theorem zJG:∀ (l:List Int) (o:List (Int × Int)),zqA l o ≤ o.length + l.length
  | [],o=>Nat.le_refl _
  | x :: l,o=>by
    have h:=zJG l (jM tI o x (wI (zaA tI (0:Int) o x + 1)))
    rw [zDi] at h
    simp only [zqA,List.length_cons]
    cases hm:jJ tI o x <;> (rw [hm] at h; simp only [cond_true,cond_false] at h; omega)
theorem zJH:∀ (l:List Int) (o:List (Int × Int)),zqA l o = o.length + l.length ↔ (l.Pairwise (· ≠ ·) ∧ ∀ x ∈ l,jJ tI o x = false)
  | [],o=>by simp [zqA]
  | x :: l,o=>by
    have h:=zJG l (jM tI o x (wI (zaA tI (0:Int) o x + 1)))
    have ih:=zJH l (jM tI o x (wI (zaA tI (0:Int) o x + 1)))
    rw [zDi] at h ih
    simp only [zqA,List.length_cons,List.pairwise_cons]
    cases hm:jJ tI o x with
    | true =>
      rw [hm] at h
      simp only [cond_true] at h
      constructor
      · intro h1; omega
      · rintro ⟨-,h1⟩
        have:=h1 x (by simp)
        rw [hm] at this; cases this
    | false =>
      rw [hm] at ih
      simp only [cond_false] at ih
      rw [show o.length + (l.length + 1) = o.length + 1 + l.length by omega,ih]
      simp only [zKJ]
      constructor
      · rintro ⟨h1,h2⟩
        refine ⟨⟨fun z hz=>?_,h1⟩,fun z hz=>?_⟩
        · have:=h2 z hz
          simp only [Bool.or_eq_false_iff,beq_eq_false_iff_ne] at this
          exact fun e=>this.2 e.symm
        · rcases List.mem_cons.1 hz with rfl | hz
          · exact hm
          · have:=h2 z hz
            simp only [Bool.or_eq_false_iff] at this
            exact this.1
      · rintro ⟨⟨h1,h2⟩,h3⟩
        refine ⟨h2,fun z hz=>?_⟩
        simp only [Bool.or_eq_false_iff,beq_eq_false_iff_ne]
        exact ⟨h3 z (by simp [hz]),fun e=>h1 z hz e.symm⟩
def zfO (l:List zt):Bool:=l.all zlf && zqA (zqz l) [] == (zqz l).length
theorem zHn {l:List zt} (hl:l.length ≤ 1000000) (h:∀ x ∈ l,zhl x):zok (l,()) = some (zfO l,()):=by
  have hloop:=jY (B:=zeB) (l:=l) (α:=Nat × List (Int × Int)) zI (fun i s=>s.1 ≤ i) (fun i s=>((s.1:Int),l,(l.length:Int),i,s.2))
    (fun rest s=>some (rest.all zlf && zqA (zqz rest) s.2 == s.1 + (zqz rest).length,())) (by unfold Go.maxLen; omega) (fun k i x rest s hi hI hx hm hr hk=>by
      obtain ⟨n,o⟩:=s
      simp only [zeB]
      have hn:n ≤ i:=hI
      have hw:wI ((n:Int) + 1) = ((n + 1:Nat):Int):=by
        unfold wI
        rw [IntWalk.i64_in _ (by omega)]; rfl
      rw [ltT hi,zj hi]
      simp only [zG,hx,cond_true,zKI (h x hm),Option.bind_some,hw,zqz,zle,List.all_cons,zlf]
      cases hlive:x.1 with
      | false =>
        simp only [cond_false]
        have:=hk (n,o) (by show n ≤ i + 1; omega)
        cases eqI zp x (ze zp) with
        | false=>rfl
        | true=>exact this
      | true =>
        simp only [cond_true,List.map_cons,zqA,List.length_cons]
        have:=hk (n + 1,jM tI o x.2.2.2.2.2.2.2.2.2.1 (wI (zaA tI (0:Int) o x.2.2.2.2.2.2.2.2.2.1 + 1))) (by show n + 1 ≤ i + 1; omega)
        cases ziT x with
        | false=>rfl
        | true =>
          refine this.trans ?_
          simp only [zqz,Bool.true_and]
          rw [show n + 1 + (List.map (fun x:zt=>x.2.2.2.2.2.2.2.2.2.1) (List.filter (fun x=>x.1) rest)).length = n + ((List.map (fun x:zt=>x.2.2.2.2.2.2.2.2.2.1) (List.filter (fun x=>x.1) rest)).length + 1) by omega]) (fun k s _=>by
      obtain ⟨n,o⟩:=s
      simp only [zeB]
      rw [ltF]
      simp only [cond_false,zqz,List.filter_nil,List.map_nil,zqA,List.length_nil,List.all_nil,Bool.true_and,Nat.add_zero]
      rw [zLU]
      cases o.length == n <;> rfl) (0,[]) (Nat.le_refl _)
  refine hloop.trans ?_
  unfold zfO
  rw [Nat.zero_add]
theorem zI9 {l:List zt} (hl:l.length ≤ Go.maxLen) (n:Nat) (hn:n ≤ l.length) (b:Int):zlv (l,(n:Int),b,()) = some (!zW (fun j=>!((l.getD j zI).1 && ((l.getD j zI).2.2.2.2.2.2.2.2.2.1:Int) == b)) 0 (n - 0),()):=by
  have hloop:=z7 (B:=zfp) (i0:=0) (n:=n) (p:=fun j=>!((l.getD j zI).1 && ((l.getD j zI).2.2.2.2.2.2.2.2.2.1:Int) == b)) (fin:=some (false,())) (bad:=some (true,())) (by omega) (Nat.zero_le _) (fun i=>(l,(n:Int),b,i)) (fun k i h1 h2=>by
    simp only [zfp]
    rw [ltT h2]
    simp only [zj (show i < l.length by omega),zG,cond_true]
    grind) (fun k=>by simp only [zfp]; rw [ltF]; rfl)
  refine hloop.trans ?_
  cases zW (fun j=>!((l.getD j zI).1 && ((l.getD j zI).2.2.2.2.2.2.2.2.2.1:Int) == b)) 0 (n - 0) <;> rfl
theorem zKK {l:List zt}:(zqz l).Pairwise (· ≠ ·) ↔ ∀ i j:Nat,i < j→j < l.length→(l.getD i zI).1 = true→(l.getD j zI).1 = true→(l.getD i zI).2.2.2.2.2.2.2.2.2.1 ≠ (l.getD j zI).2.2.2.2.2.2.2.2.2.1:=by
  unfold zqz
  rw [List.pairwise_map,List.pairwise_filter,List.pairwise_iff_getElem]
  have e:∀ i (h:i < l.length),l.getD i zI = l[i]:=fun i h=>by simp [List.getD,h]
  constructor
  · intro h i j hij hj h1 h2
    rw [e i (by omega)] at h1 ⊢
    rw [e j hj] at h2 ⊢
    exact h i j (by omega) hj hij h1 h2
  · intro h i j hi hj hij h1 h2
    have:=h i j hij hj (by rw [e i hi]; exact h1) (by rw [e j hj]; exact h2)
    rw [e i hi,e j hj] at this
    exact this
theorem zKL (l:List zt):zfO l = zW (fun i=>zlf (l.getD i zI) && (!(l.getD i zI).1 || zW (fun j=>!((l.getD j zI).1 && ((l.getD j zI).2.2.2.2.2.2.2.2.2.1:Int) == (l.getD i zI).2.2.2.2.2.2.2.2.2.1)) 0 (i - 0))) 0 (l.length - 0):=by
  rw [Bool.eq_iff_iff,qP]
  unfold zfO
  have hc:=zJH (zqz l) []
  simp only [List.length_nil,Nat.zero_add] at hc
  simp only [Bool.and_eq_true,List.all_eq_true,beq_iff_eq,hc,zKK]
  constructor
  · rintro ⟨h1,h2,-⟩ i _ hi
    refine ⟨h1 _ (zX (by omega)),?_⟩
    cases hlive:(l.getD i zI).1 with
    | false=>rfl
    | true =>
      simp only [Bool.not_true,Bool.false_or,qP]
      intro j _ hj
      cases hj1:(l.getD j zI).1 with
      | false=>rfl
      | true =>
        have:=h2 j i (by omega) (by omega) hj1 hlive
        simp only [Bool.true_and,Bool.not_eq_true',beq_eq_false_iff_ne]
        exact this
  · intro h
    refine ⟨fun x hx=>?_,fun i j hij hj h1 h2=>?_,fun x _=>rfl⟩
    · obtain ⟨i,hi,rfl⟩:=List.mem_iff_getElem.1 hx
      have e:l.getD i zI = l[i]:=by simp [List.getD,hi]
      rw [← e]
      exact (h i (by omega) (by omega)).1
    · have:=(h j (by omega) (by omega)).2
      rw [h2] at this
      simp only [Bool.not_true,Bool.false_or,qP] at this
      have:=this i (by omega) (by omega)
      rw [h1] at this
      simp only [Bool.true_and,Bool.not_eq_true',beq_eq_false_iff_ne] at this
      exact this
theorem zER {l:List zt} (hl:l.length ≤ Go.maxLen) (h:∀ x ∈ l,zhl x):zmo (l,()) = some (zfO l,()):=by
  rw [zC,zKL]
  exact z7 (B:=zcJ) (i0:=0) hl (Nat.zero_le _) (fun i=>(l,i)) (fun k i h1 h2=>by
    simp only [zcJ]
    rw [ltT h2]
    simp only [zj h2,zG,cond_true]
    rw [zI8 (h _ (zX h2)),zI9 hl i (by omega)]
    simp only [Option.bind_some,zlf]
    grind) (fun k=>by simp only [zcJ]; rw [ltF]; rfl)
structure zni (x:zH):Prop where
  amount:qv x.2.2.2.2.2.2.2.1
  price:qv x.2.2.2.2.2.2.2.2.1
def zhm (x:zH):Bool:=(decide (x.1 ≤ M62) && (qX x.2.1 && (qX x.2.2.1 && (qX x.2.2.2.1 && qX x.2.2.2.2.2.2.2.2.2.1)))) && bif (x.2.2.2.2.1:Int) == 3 then ((x.2.2.2.2.2.1:Int) == 0 && (x.2.2.2.2.2.2.1:Int) == 0) && ((x.2.2.2.2.2.2.2.1:Int) == 0 && (x.2.2.2.2.2.2.2.2.1:Int) == 0)
  else ((zkt x.2.2.2.2.1 x.2.2.2.2.2.2.2.1 x.2.2.2.2.2.2.2.2.1).2.1 == 0 && (x.2.2.2.2.2.2.2.2.2.1:Int) == 0) && ((x.2.2.2.2.2.1:Int) != x.2.2.2.2.2.2.1 && (zZ x.2.2.2.2.2.1 && zZ x.2.2.2.2.2.2.1))
theorem zLZ (x:zH):eqI zu x (x.1,x.2.1,x.2.2.1,x.2.2.2.1,x.2.2.2.2.1,(ze zu).2.2.2.2.2.1,(ze zu).2.2.2.2.2.2.1,(ze zu).2.2.2.2.2.2.2.1,(ze zu).2.2.2.2.2.2.2.2.1,x.2.2.2.2.2.2.2.2.2.1,(ze zu).2.2.2.2.2.2.2.2.2.2) = (((x.2.2.2.2.2.1:Int) == 0 && (x.2.2.2.2.2.2.1:Int) == 0) && ((x.2.2.2.2.2.2.2.1:Int) == 0 && (x.2.2.2.2.2.2.2.2.1:Int) == 0)):=by
  show cond ((x.1:Int) == x.1) (cond ((x.2.1:Int) == x.2.1) (cond ((x.2.2.1:Int) == x.2.2.1) (cond ((x.2.2.2.1:Int) == x.2.2.2.1) (cond ((x.2.2.2.2.1:Int) == x.2.2.2.2.1) (cond ((x.2.2.2.2.2.1:Int) == 0) (cond ((x.2.2.2.2.2.2.1:Int) == 0) (cond ((x.2.2.2.2.2.2.2.1:Int) == 0) (cond ((x.2.2.2.2.2.2.2.2.1:Int) == 0) (cond ((x.2.2.2.2.2.2.2.2.2.1:Int) == x.2.2.2.2.2.2.2.2.2.1) true false) false) false) false) false) false) false) false) false) false = _
  simp only [beq_self_eq_true,cond_true]
  cases ((x.2.2.2.2.2.1:Int) == 0) <;> cases ((x.2.2.2.2.2.2.1:Int) == 0) <;> cases ((x.2.2.2.2.2.2.2.1:Int) == 0) <;> cases ((x.2.2.2.2.2.2.2.2.1:Int) == 0) <;> rfl
theorem zJa {x:zH} (h:zni x):zlC (x,()) = some (zhm x,()):=by
  rw [zC]
  simp only [zlC,zxv h.amount h.price,zKH,ya,Option.bind_some,zhm]
  rw [zLZ x]
  generalize zkt x.2.2.2.2.1 x.2.2.2.2.2.2.2.1 x.2.2.2.2.2.2.2.2.1 = n
  unfold M62
  grind
theorem zJb {x:zH} (h:zni x):zlA (x,()) = some (zhm x,()):=by
  rw [zC]
  simp only [zlA,zvS h.amount h.price,zI7,Option.bind_some,zhm]
  have hz:(x.2.2.2.2.2.2.2.2.2.1:Int) == 0→qX x.2.2.2.2.2.2.2.2.2.1 = true:=fun h=>by unfold qX; grind
  generalize zkt x.2.2.2.2.1 x.2.2.2.2.2.2.2.1 x.2.2.2.2.2.2.2.2.1 = n
  unfold M62 zZ
  grind
def zA9 (a b:zH):Int:=orV (zkp a.1 b.1) (zkp a.2.1 b.2.1)
theorem zES (a b:zH):zim (a,b,()) = some (zA9 a b,()):=by
  simp only [zim,ztM,zop,Option.bind_some]
  show Option.bind (zdY ([zkp a.1 b.1,zkp a.2.1 b.2.1],())) _ = _
  rw [zNQ]; rfl
theorem zCF (a b:zH):zgX (a,b,()) = some (!decide (zA9 b a ≥ 0),()):=by
  rw [zC]
  simp only [zgX,zA9,orV,zkp]
  grind
def ziU (l:List zH):Bool:=zW (fun i=>zhm (l.getD i vN) && (decide (i = 0) || !decide (zA9 (l.getD (i - 1) vN) (l.getD i vN) ≥ 0))) 0 (l.length - 0)
theorem zET {l:List zH} (hl:l.length ≤ Go.maxLen) (h:∀ x ∈ l,zni x):zms (l,()) = some (ziU l,()):=by
  rw [zC]
  exact z7 (B:=zcO) (i0:=0) hl (Nat.zero_le _) (fun i=>(l,l,(l.length:Int),i)) (fun k i h1 h2=>by
    simp only [zcO]
    rw [ltT h2,zj h2,zG,zJa (h _ (zX h2))]
    by_cases h0:i = 0
    · subst h0
      simp only [cond_true,Option.bind_some]
      grind
    · rw [zi2 (by omega) (by omega),zj (by omega),Int.toNat_natCast,zES]
      simp only [cond_true,Option.bind_some]
      grind) (fun k=>by simp only [zcO]; rw [ltF]; rfl)
theorem zEU {l:List zH} (hl:l.length ≤ Go.maxLen) (h:∀ x ∈ l,zni x):zmq (l,()) = some (ziU l,()):=by
  rw [zC]
  exact z7 (B:=zcL) (i0:=0) hl (Nat.zero_le _) (fun i=>(l,i)) (fun k i h1 h2=>by
    simp only [zcL]
    rw [ltT h2,zj h2,zG,zJb (h _ (zX h2))]
    by_cases h0:i = 0
    · subst h0
      simp only [cond_true,Option.bind_some]
      grind
    · rw [zi2 (by omega) (by omega),zj h2,zj (by omega),Int.toNat_natCast,zCF]
      simp only [cond_true,Option.bind_some]
      grind) (fun k=>by simp only [zcL]; rw [ltF]; rfl)
end Go.Proofs.YtgomalidoilgbaaGreatDoor
end
section
namespace Go.Proofs.YtgomalidoilgbaaGreatDoor
open Go.Ev
def zsD (a:List Int):Prop:=∀ x ∈ a,qv x
theorem vu {a:List Int} (h:zsD a) (i:Nat):qv (a.getD i 0):=by
  by_cases hi:i < a.length
  · exact h _ (zX hi)
  · rw [List.getD_eq_getElem?_getD,List.getElem?_eq_none (by omega)]
    unfold qv U64; decide
structure znj (x:zn):Prop where
  trades:∀ t ∈ x.2.2.2.2.1,zhi t
  purses:∀ a ∈ x.2.2.2.2.2.1,zsD a
  made:zsD x.2.2.2.2.2.2.2.1
  spent:zsD x.2.2.2.2.2.2.2.2.1
structure qn (s:zb):Prop where
  shelves:∀ x ∈ s.2.1,znj x
  orders:∀ x ∈ s.2.2.2.1,zhl x
  entries:∀ x ∈ s.2.2.2.2.1,zni x
end Go.Proofs.YtgomalidoilgbaaGreatDoor
end
