import Derived.Test.YtlklokhlgcfcdaaGreatDoorSsd
import Derived.Shelf.Spec.BitsCarry
import Derived.Test.YtlklokhlgcfcdaaGreatDoorCards
import Derived.Test.YtlklokhlgcfcdaaGreatDoorTie
import Derived.ProofKit
import Derived.OpenShut
import Derived.Deep.DeepHandedRow
import Derived.Lib.LaidTab
set_option linter.unusedVariables false
set_option linter.unusedSimpArgs false
section
namespace Go.Proofs.YtlklokhlgcfcdaaGreatDoor
open Go.Ev
noncomputable section
def yN:((List qc) × ((Option ((qc × Unit)→Option (Bool × Unit))) × Unit))→Option (Bool × Unit):=fun (x0,x1,()) =>
  Option.bind (zaB (x0,some fun z=>zgC (z.1,some x1,()),())) fun q0=>bif q0.1 then some (false,()) else some (true,())
abbrev ziZ:Fun:=⟨135,(ch [(.sl zF),(.fn (ch [zF]) (ch [.bool]))]),(ch [.bool]),0,yN⟩
theorem zsm:Sq ziZ:=ms2 (d:=false) (K:=0) Tryz.func135 (by kernel_rfl) (funext fun (x0,x1,())=>by kernel_rfl)
def qi:((List zL) × ((Option ((zL × Unit)→Option (Bool × Unit))) × Unit))→Option (Bool × Unit):=fun (x0,x1,()) =>
  Option.bind (yZ (x0,some fun z=>zfr (z.1,some x1,()),())) fun q0=>bif q0.1 then some (false,()) else some (true,())
abbrev zhv:Fun:=⟨138,(ch [(.sl zp),(.fn (ch [zp]) (ch [.bool]))]),(ch [.bool]),0,qi⟩
theorem zqS:Sq zhv:=ms2 (d:=false) (K:=0) Tryz.func138 (by kernel_rfl) (funext fun (x0,x1,())=>by kernel_rfl)
abbrev vj:Type:=(Option zaf) × Int × Int × List Int
abbrev zoi:vj→St:=fun (v0,v12,v13,o0)=>St.mk [(0,.dat (.ptr jN) v0),(3,.ow 0),(12,.dat tI v12),(13,.dat tI v13)] [.row tI o0 false]
def zfw (k0:vj→Option ((List Int) × Unit)):vj→Option ((List Int) × Unit):=fun (v0,v12,v13,o0) =>
  bif decide (v13 < v12) then Option.bind (zeR (v0,v13,())) fun q2=>bif q2.1 then bif decide (List.length o0 + List.length (zj (List.replicate 1 (0:Int)) 0 v13) ≤ lim) then k0 (v0,v12,wI (v13 + 1),o0 ++ zj (List.replicate 1 (0:Int)) 0 v13) else none else k0 (v0,v12,wI (v13 + 1),o0) else some (o0,())
abbrev zfx (K:Nat):vj→Option ((List Int) × Unit):=zl zfw K
theorem zoj (K:Nat):∀ n,evV Es2 K Tryz.f143 0 (ch [(.sl tI)]) [1,1,1,0,1,0] [] zoi n = zl zfw n:=zn fun n0 (v0,v12,v13,o0)=>by kernel_rfl
def zcO (L0:vj→Option ((List Int) × Unit)):((Option zaf) × Unit)→Option ((List Int) × Unit):=fun (x0,()) =>
  Option.bind (zdH (x0,())) fun q0=>bif q0.1 then Option.bind x0 fun q1=>L0 (x0,((List.length q1.1):Int),0,[]) else some ([],())
def zcP:((Option zaf) × Unit)→Option ((List Int) × Unit):=zcO (zfx K0)
abbrev zhw:Fun:=⟨143,(ch [(.ptr jN)]),(ch [(.sl tI)]),0,zcP⟩
theorem zqT:Sq zhw:=ml2 (d:=false) (S:=fun K=>zcO (zfx K)) Tryz.func143 (by kernel_rfl) (fun K=>tr1 (T:=zcO) (zoj K K) fun (x0,())=>by kernel_rfl) rfl
def ztN:((List zo) × Unit)→Option ((Option zbj) × Unit):=fun (x0,()) =>
  Option.bind (ziO (x0,some zpy,())) fun q0=>some (q0.1,())
abbrev ztO:Fun:=⟨227,(ch [(.sl zf)]),(ch [(.ptr vL)]),0,ztN⟩
theorem zAh:Sq ztO:=ms2 (d:=false) (K:=0) Tryz.func227 (by kernel_rfl) (funext fun (x0,())=>by kernel_rfl)
abbrev vk:Type:=(Option zbj) × Int × Int × List Int
abbrev zok:vk→St:=fun (v0,v12,v13,o0)=>St.mk [(0,.dat (.ptr vL) v0),(3,.ow 0),(12,.dat tI v12),(13,.dat tI v13)] [.row tI o0 false]
def zfy (k0:vk→Option ((List Int) × Unit)):vk→Option ((List Int) × Unit):=fun (v0,v12,v13,o0) =>
  bif decide (v13 < v12) then Option.bind (zj4 (v0,v13,())) fun q2=>bif q2.1 then bif decide (List.length o0 + List.length (zj (List.replicate 1 (0:Int)) 0 v13) ≤ lim) then k0 (v0,v12,wI (v13 + 1),o0 ++ zj (List.replicate 1 (0:Int)) 0 v13) else none else k0 (v0,v12,wI (v13 + 1),o0) else some (o0,())
abbrev zfz (K:Nat):vk→Option ((List Int) × Unit):=zl zfy K
theorem zol (K:Nat):∀ n,evV Es2 K Tryz.f228 0 (ch [(.sl tI)]) [1,1,1,0,1,0] [] zok n = zl zfy n:=zn fun n0 (v0,v12,v13,o0)=>by kernel_rfl
def zcQ (L0:vk→Option ((List Int) × Unit)):((Option zbj) × Unit)→Option ((List Int) × Unit):=fun (x0,()) =>
  Option.bind (zdI (x0,())) fun q0=>bif q0.1 then Option.bind x0 fun q1=>L0 (x0,((List.length q1.1):Int),0,[]) else some ([],())
def zhx:((Option zbj) × Unit)→Option ((List Int) × Unit):=zcQ (zfz K0)
abbrev zhy:Fun:=⟨228,(ch [(.ptr vL)]),(ch [(.sl tI)]),0,zhx⟩
theorem zqU:Sq zhy:=ml2 (d:=false) (S:=fun K=>zcQ (zfz K)) Tryz.func228 (by kernel_rfl) (fun K=>tr1 (T:=zcQ) (zol K K) fun (x0,())=>by kernel_rfl) rfl
def zrk:((List zL) × Unit)→Option ((Option zaf) × Unit):=fun (x0,()) =>
  Option.bind (zdL (x0,some znv,())) fun q0=>some (q0.1,())
abbrev zrl:Fun:=⟨146,(ch [(.sl zp)]),(ch [(.ptr jN)]),0,zrk⟩
theorem zy0:Sq zrl:=ms2 (d:=false) (K:=0) Tryz.func146 (by kernel_rfl) (funext fun (x0,())=>by kernel_rfl)
abbrev yO:Type:=Int × (Option ((zh × Unit)→Option ((List Int) × Unit))) × (List zh) × Int × Int × List Int
abbrev zsn:yO→St:=fun (v1,v2,v12,v13,v14,o0)=>St.mk [(1,.dat tI v1),(2,.dat (.fn (.pair ze .unit) (.pair (.arr 4 tU) .unit)) v2),(8,.ow 0),(12,.dat (.sl ze) v12),(13,.dat tI v13),(14,.dat tI v14)] [.row tU o0 false]
def zi0 (k0:yO→Option (Int × (Int × Unit))):yO→Option (Int × (Int × Unit)):=fun (v1,v2,v12,v13,v14,o0) =>
  bif decide (v14 < v13) then inR v14 ((List.length v12):Int) (Option.bind v2 fun q0=>Option.bind (q0 (ix za v12 v14,())) fun q1=>inR v1 (↑4:Int) (bif decide (List.length o0 + List.length (zj (List.replicate 1 (0:Int)) 0 (ix (0:Int) q1.1 v1)) ≤ lim) then k0 (v1,v2,v12,v13,wI (v14 + 1),o0 ++ zj (List.replicate 1 (0:Int)) 0 (ix (0:Int) q1.1 v1)) else none)) else Option.bind (zeS (o0,())) fun q2=>some (q2.1,q2.2.1,())
abbrev zi1 (K:Nat):yO→Option (Int × (Int × Unit)):=zl zi0 K
theorem zso (K:Nat):∀ n,evV Es2 K Tryz.f83 0 (ch [tU,tI]) [1,1,0,1,0] [] zsn n = zl zi0 n:=zn fun n0 (v1,v2,v12,v13,v14,o0)=>by kernel_rfl
def zf0 (L0:yO→Option (Int × (Int × Unit))):(zm × (Int × ((Option ((zh × Unit)→Option ((List Int) × Unit))) × Unit)))→Option (Int × (Int × Unit)):=fun (x0,x1,x2,()) =>
  L0 (x1,x2,x0.2.1,((List.length x0.2.1):Int),0,[])
def zf1:(zm × (Int × ((Option ((zh × Unit)→Option ((List Int) × Unit))) × Unit)))→Option (Int × Int × Unit):=zf0 (zi1 K0)
abbrev zl7:Fun:=⟨83,(ch [zt,tI,(.fn (ch [ze]) (ch [(.arr 4 tU)]))]),(ch [tU,tI]),0,zf1⟩
theorem zu4:Sq zl7:=ml2 (d:=false) (S:=fun K=>zf0 (zi1 K)) Tryz.func83 (by kernel_rfl) (fun K=>tr1 (T:=zf0) (zso K K) fun (x0,x1,x2,())=>by kernel_rfl) rfl
abbrev L3:List Fun:=zpM :: zpN :: zrg :: zny :: ztJ :: zl3 :: zl4 :: zhr :: zpP :: zri :: zrj :: znA :: zht :: zhu :: zj6 :: zj8 :: ziW :: ziX :: zka :: ziY :: ziZ :: zhv :: zhw :: ztO :: zhy :: zrl :: zl7 :: L2
theorem h3:Sds Tryz.prog E0 L3:=⟨zx1,zx2,zyX,zwc,zAg,zu0,zu1,zqP,zx3,zyY,zyZ,zwd,zqQ,zqR,ztK,ztL,zsj,zsk,ztM,zsl,zsm,zqS,zqT,zAh,zqU,zy0,zu4,h2⟩
theorem ms3 {d:Bool} {F:Fun} {f:Go.Func} {K:Nat} (hf:Tryz.prog.funcs[F.id]? = some f) (ho:qV f = true) (h:evF (En E0 d L3) K f F.md F.a F.r = F.spec):Sd Tryz.prog E0 F:=mkS h3 hf ho h
theorem ml3 {d:Bool} {F:Fun} {f:Go.Func} {S:Nat→F.a.I→Option F.r.I} (hf:Tryz.prog.funcs[F.id]? = some f) (ho:qV f = true) (h:∀ K,evF (En E0 d L3) K f F.md F.a F.r = S K) (e:S K0 = F.spec):Sd Tryz.prog E0 F:=mkS h3 hf ho ((h K0).trans e)
abbrev Es3:Env:=En E0 false L3
abbrev yP:Type:=Int × zw
abbrev zsp:yP→St:=fun (v4,o0)=>St.mk [(1,.bp 0 []),(4,.dat tI v4)] [.bx (.dat zB o0) false]
def zi2 (k0:yP→Option (Bool × Unit)):yP→Option (Bool × Unit):=fun (v4,o0) =>
  bif decide (v4 < ((List.length o0.1):Int)) then inR (wI (v4 - 1)) ((List.length o0.1):Int) (inR v4 ((List.length o0.1):Int) (Option.bind (zrf (List.getD o0.1 (Int.toNat (wI (v4 - 1))) (zb zG),ix zcW o0.1 v4,())) fun q2=>bif decide (q2.1 ≥ 0) then some (false,()) else k0 (wI (v4 + 1),o0))) else some (true,())
abbrev zi3 (K:Nat):yP→Option (Bool × Unit):=zl zi2 K
theorem zsq (K:Nat):∀ n,evV Es3 K Tryz.f104 0 (ch [.bool]) [1,1,1,0,1,0] [] zsp n = zl zi2 n:=zn fun n0 (v4,o0)=>by kernel_rfl
def zf2 (L0:yP→Option (Bool × Unit)):(zw × Unit)→Option (Bool × Unit):=fun (x0,()) =>
  Option.bind (qa (((List.length x0.1):Int),1,8,())) fun q0=>bif q0.1 then bif decide (0 < ((List.length x0.1):Int)) then bif !eqI zG (ix zcW x0.1 0) (zb zG) then some (false,()) else Option.bind (yY (x0.1,some ziB,())) fun q1=>bif q1.1 then some (false,()) else L0 (1,x0) else none else some (false,())
def zf3:(zw × Unit)→Option (Bool × Unit):=zf2 (zi3 K0)
abbrev zl8:Fun:=⟨104,(ch [zB]),(ch [.bool]),0,zf3⟩
theorem zu5:Sq zl8:=ml3 (d:=false) (S:=fun K=>zf2 (zi3 K)) Tryz.func104 (by kernel_rfl) (fun K=>tr1 (T:=zf2) (zsq K K) fun (x0,())=>by kernel_rfl) rfl
def zcb:(ByteArray × Unit)→Option (Bool × Unit):=fun (x0,()) =>
  bif decide ((↑(ByteArray.size x0):Int) < 1) then some (false,()) else bif decide ((↑(ByteArray.size x0):Int) > 12) then some (false,()) else bif decide (0 < (↑(ByteArray.size x0):Int)) then Option.bind (zii ((↑(UInt8.toNat (List.getD (Array.toList (ByteArray.data x0)) (Int.toNat 0) 0)):Int),())) fun q0=>bif q0.1 then Option.bind (zm8 (x0,some zlV,())) fun q1=>bif q1.1 then some (true,()) else some (false,()) else some (false,()) else none
abbrev zpQ:Fun:=⟨187,(ch [.str]),(ch [.bool]),0,zcb⟩
theorem zx4:Sq zpQ:=ms3 (d:=false) (K:=0) Tryz.func187 (by kernel_rfl) (funext fun (x0,())=>by kernel_rfl)
def zrm:(ByteArray × Unit)→Option (Bool × Unit):=fun (x0,()) =>
  bif decide ((↑(ByteArray.size x0):Int) ≥ 1) then bif decide ((↑(ByteArray.size x0):Int) ≤ 40) then Option.bind (zm8 (x0,some zpp,())) fun q0=>bif q0.1 then Option.bind (zlZ (x0,ByteArray.mk #[32],())) fun q1=>bif ByteArray.toList q1.1 == ByteArray.toList x0 then some (true,()) else some (false,()) else some (false,()) else some (false,()) else some (false,())
abbrev zrn:Fun:=⟨273,(ch [.str]),(ch [.bool]),0,zrm⟩
theorem zy1:Sq zrn:=ms3 (d:=false) (K:=0) Tryz.func273 (by kernel_rfl) (funext fun (x0,())=>by kernel_rfl)
def zkb:(zL × Unit)→Option (Bool × Unit):=fun (x0,()) =>
  bif x0.1 then Option.bind (zrh (x0,())) fun q0=>bif q0.1 then some (false,()) else some (true,()) else bif !eqI zp x0 (zb zp) then some (true,()) else some (false,())
abbrev zkc:Fun:=⟨207,(ch [zp]),(ch [.bool]),0,zkb⟩
theorem ztP:Sq zkc:=ms3 (d:=false) (K:=0) Tryz.func207 (by kernel_rfl) (funext fun (x0,())=>by kernel_rfl)
def ztQ:(zo × Unit)→Option (Bool × Unit):=fun (x0,()) =>
  Option.bind (zk3 (x0.2.2.2.1,x0.2.2.2.2.2.2.2.1,x0.2.2.2.2.2.2.1,())) fun q0=>bif q0.2.1 == 0 then bif q0.1 == x0.2.2.2.2.2.2.2.2.1 then Option.bind (zpt (x0.2.1,())) fun q1=>bif q1.1 then Option.bind (zpt (x0.2.2.1,())) fun q2=>bif q2.1 then Option.bind (jt (x0.2.2.2.2.1,())) fun q3=>bif q3.1 then Option.bind (jt (x0.2.2.2.2.2.1,())) fun q4=>bif q4.1 then bif x0.2.2.2.2.1 != x0.2.2.2.2.2.1 then bif decide (x0.2.2.2.2.2.2.2.2.2.1 ≥ 0) then some (true,()) else some (false,()) else some (false,()) else some (false,()) else some (false,()) else some (false,()) else some (false,()) else some (false,()) else some (false,())
abbrev ztR:Fun:=⟨210,(ch [zf]),(ch [.bool]),0,ztQ⟩
theorem zAi:Sq ztR:=ms3 (d:=false) (K:=0) Tryz.func210 (by kernel_rfl) (funext fun (x0,())=>by kernel_rfl)
def zro:(zr × Unit)→Option (Bool × Unit):=fun (x0,()) =>
  bif decide (x0.1 > 4611686018427387904) then some (false,()) else Option.bind (zeH (x0.2.1,())) fun q0=>bif q0.1 then Option.bind (zeH (x0.2.2.1,())) fun q1=>bif q1.1 then Option.bind (zeH (x0.2.2.2.1,())) fun q2=>bif q2.1 then Option.bind (zeH (x0.2.2.2.2.2.2.2.2.2.1,())) fun q3=>bif q3.1 then bif x0.2.2.2.2.1 == 3 then bif eqI zi x0 (x0.1,x0.2.1,x0.2.2.1,x0.2.2.2.1,x0.2.2.2.2.1,(zb zi).2.2.2.2.2.1,(zb zi).2.2.2.2.2.2.1,(zb zi).2.2.2.2.2.2.2.1,(zb zi).2.2.2.2.2.2.2.2.1,x0.2.2.2.2.2.2.2.2.2.1,(zb zi).2.2.2.2.2.2.2.2.2.2) then some (true,()) else some (false,()) else Option.bind (zk3 (x0.2.2.2.2.1,x0.2.2.2.2.2.2.2.1,x0.2.2.2.2.2.2.2.2.1,())) fun q4=>bif q4.2.1 == 0 then bif x0.2.2.2.2.2.2.2.2.2.1 == 0 then bif x0.2.2.2.2.2.1 != x0.2.2.2.2.2.2.1 then Option.bind (jt (x0.2.2.2.2.2.1,())) fun q5=>bif q5.1 then Option.bind (jt (x0.2.2.2.2.2.2.1,())) fun q6=>bif q6.1 then some (true,()) else some (false,()) else some (false,()) else some (false,()) else some (false,()) else some (false,()) else some (false,()) else some (false,()) else some (false,()) else some (false,())
abbrev zrp:Fun:=⟨211,(ch [zi]),(ch [.bool]),0,zro⟩
theorem zy2:Sq zrp:=ms3 (d:=false) (K:=0) Tryz.func211 (by kernel_rfl) (funext fun (x0,())=>by kernel_rfl)
def znB:(qg × (Int × Unit))→Option ((Option ((z4 × Unit)→Option (Bool × Unit))) × Unit):=fun (x0,x1,()) =>
  some (some fun z=>zj7 (z.1,some x0,some x1,()),())
abbrev znC:Fun:=⟨128,(ch [zW,tI]),(ch [(.fn (ch [zI]) (ch [.bool]))]),0,znB⟩
theorem zwe:Sq znC:=ms3 (d:=false) (K:=0) Tryz.func128 (by kernel_rfl) (funext fun (x0,x1,())=>by kernel_rfl)
abbrev zbu:Type:=(List zh) × Int × Int × qg
abbrev zsr:zbu→St:=fun (v10,v11,v12,o0)=>St.mk [(1,.bp 0 []),(10,.dat (.sl ze) v10),(11,.dat tI v11),(12,.dat tI v12)] [.bx (.dat zW o0) true]
abbrev zbv:Type:=(List zh) × Int × Int × qg
abbrev zss:zbv→St:=fun (v10,v11,v12,o0)=>St.mk [(1,.bp 0 []),(10,.dat (.sl ze) v10),(11,.dat tI v11),(12,.dat tI v12)] [.bx (.dat zW o0) false]
def zdM (k1:zbu→Option (Bool × Unit)):zbu→Option (Bool × Unit):=fun (v10,v11,v12,o0) =>
  bif decide (v12 < v11) then inR v12 ((List.length v10):Int) (Option.bind (yL ((ix za v10 v12).2.2.1,some fun z=>zdK (z.1,some o0,()),())) fun q3=>bif q3.1 then Option.bind (yN ((ix za v10 v12).2.2.2.1,some fun z=>yM (z.1,some o0,some v12,()),())) fun q4=>bif q4.1 then Option.bind (qi ((ix za v10 v12).2.2.2.2.1,some fun z=>qo (z.1,some o0,()),())) fun q5=>bif q5.1 then k1 (v10,v11,wI (v12 + 1),o0) else some (false,()) else Option.bind (qi ((ix za v10 v12).2.2.2.2.1,some fun z=>qo (z.1,some o0,()),())) fun q6=>bif q6.1 then some (false,()) else some (false,()) else Option.bind (yN ((ix za v10 v12).2.2.2.1,some fun z=>yM (z.1,some o0,some v12,()),())) fun q7=>bif q7.1 then Option.bind (qi ((ix za v10 v12).2.2.2.2.1,some fun z=>qo (z.1,some o0,()),())) fun q8=>bif q8.1 then some (false,()) else some (false,()) else Option.bind (qi ((ix za v10 v12).2.2.2.2.1,some fun z=>qo (z.1,some o0,()),())) fun q9=>bif q9.1 then some (false,()) else some (false,())) else some (true,())
theorem zst (K:Nat):∀ n,evV Es3 K Tryz.f75 0 (ch [.bool]) [1,0,1,0] [] zsr n = zl zdM n:=zn fun n1 (v10,v11,v12,o0)=>by kernel_rfl
def zi4 (k1:zbu→Option (Bool × Unit)):zbv→Option (Bool × Unit):=fun (v10,v11,v12,o0) =>
  bif decide (v12 < v11) then inR v12 ((List.length v10):Int) (Option.bind (yL ((ix za v10 v12).2.2.1,some fun z=>zdK (z.1,some o0,()),())) fun q0=>bif q0.1 then Option.bind (yN ((ix za v10 v12).2.2.2.1,some fun z=>yM (z.1,some o0,some v12,()),())) fun q1=>bif q1.1 then Option.bind (qi ((ix za v10 v12).2.2.2.2.1,some fun z=>qo (z.1,some o0,()),())) fun q2=>bif q2.1 then k1 (v10,v11,wI (v12 + 1),o0) else some (false,()) else Option.bind (qi ((ix za v10 v12).2.2.2.2.1,some fun z=>qo (z.1,some o0,()),())) fun q10=>bif q10.1 then some (false,()) else some (false,()) else Option.bind (yN ((ix za v10 v12).2.2.2.1,some fun z=>yM (z.1,some o0,some v12,()),())) fun q11=>bif q11.1 then Option.bind (qi ((ix za v10 v12).2.2.2.2.1,some fun z=>qo (z.1,some o0,()),())) fun q12=>bif q12.1 then some (false,()) else some (false,()) else Option.bind (qi ((ix za v10 v12).2.2.2.2.1,some fun z=>qo (z.1,some o0,()),())) fun q13=>bif q13.1 then some (false,()) else some (false,())) else some (true,())
abbrev zi5 (K:Nat):zbv→Option (Bool × Unit):=zz9 zi4 zdM K
theorem zsu (K:Nat):∀ n,evV Es3 K Tryz.f75 0 (ch [.bool]) [1,0,1,0] [] zss n = zz9 zi4 zdM n:=zBh (zst K) fun n0 (v10,v11,v12,o0)=>by kernel_rfl
def zf4 (L0:zbv→Option (Bool × Unit)):(qg × Unit)→Option (Bool × Unit):=fun (x0,()) =>
  L0 (x0.2.1.2.1,((List.length x0.2.1.2.1):Int),0,x0)
def zf5:(qg × Unit)→Option (Bool × Unit):=zf4 (zi5 K0)
abbrev zl9:Fun:=⟨75,(ch [zW]),(ch [.bool]),0,zf5⟩
theorem zu6:Sq zl9:=ml3 (d:=false) (S:=fun K=>zf4 (zi5 K)) Tryz.func75 (by kernel_rfl) (fun K=>tr1 (T:=zf4) (zsu K K) fun (x0,())=>by kernel_rfl) rfl
abbrev zan:Type:=(List zh) × Int × Int × (List Int) × Int × Int × zh
abbrev zkd:zan→St:=fun (v14,v15,v16,v55,v56,v57,o0)=>St.mk [(4,.bp 0 []),(14,.dat (.sl ze) v14),(15,.dat tI v15),(16,.dat tI v16),(55,.dat (.sl tI) v55),(56,.dat tI v56),(57,.dat tI v57)] [.bx (.dat ze o0) false]
abbrev zao:Type:=(Option zaf) × (List zh) × Int × Int × (List z5) × Int × Int × zh
abbrev zke:zao→St:=fun (v5,v14,v15,v16,v24,v25,v26,o0)=>St.mk [(4,.bp 0 []),(5,.dat (.ptr jN) v5),(14,.dat (.sl ze) v14),(15,.dat tI v15),(16,.dat tI v16),(24,.dat (.sl zA) v24),(25,.dat tI v25),(26,.dat tI v26)] [.bx (.dat ze o0) false]
abbrev qB:Type:=(List zh) × Int × Int
abbrev vW:qB→St:=fun (v14,v15,v16)=>St.mk [(14,.dat (.sl ze) v14),(15,.dat tI v15),(16,.dat tI v16)] []
def zkf (k0:qB→Option (Bool × Unit)) (k2:zan→Option (Bool × Unit)):zan→Option (Bool × Unit):=fun (v14,v15,v16,v55,v56,v57,o0) =>
  bif decide (v57 < v56) then inR v57 ((List.length v55):Int) (inR (ix (0:Int) v55 v57) ((List.length o0.2.2.2.2.1):Int) (inR (ix (0:Int) v55 v57) ((List.length o0.2.2.2.2.1):Int) (bif decide ((List.getD o0.2.2.2.2.1 (Int.toNat (ix (0:Int) v55 v57)) (zb zp)).2.2.2.1.2.2.1 ≥ ((List.length o0.2.2.1):Int)) then some (false,()) else bif decide ((List.getD o0.2.2.2.2.1 (Int.toNat (ix (0:Int) v55 v57)) (zb zp)).2.2.2.2.1.2.2.1 ≥ ((List.length o0.2.2.1):Int)) then some (false,()) else bif decide ((List.getD o0.2.2.2.2.1 (Int.toNat (ix (0:Int) v55 v57)) (zb zp)).2.2.2.1.2.2.1 ≥ 0) then inR (List.getD o0.2.2.2.2.1 (Int.toNat (ix (0:Int) v55 v57)) (zb zp)).2.2.2.1.2.2.1 ((List.length o0.2.2.1):Int) (bif (List.getD o0.2.2.1 (Int.toNat (List.getD o0.2.2.2.2.1 (Int.toNat (ix (0:Int) v55 v57)) (zb zp)).2.2.2.1.2.2.1) (zb zA)).2.2.1 != 3 then some (false,()) else inR (List.getD o0.2.2.2.2.1 (Int.toNat (ix (0:Int) v55 v57)) (zb zp)).2.2.2.1.2.2.1 ((List.length o0.2.2.1):Int) (bif (List.getD o0.2.2.1 (Int.toNat (List.getD o0.2.2.2.2.1 (Int.toNat (ix (0:Int) v55 v57)) (zb zp)).2.2.2.1.2.2.1) (zb zA)).2.2.2.1 != ix (0:Int) v55 v57 then some (false,()) else k2 (v14,v15,v16,v55,v56,wI (v57 + 1),o0))) else k2 (v14,v15,v16,v55,v56,wI (v57 + 1),o0)))) else k0 (v14,v15,wI (v16 + 1))
abbrev zeU (K:Nat) (k0:qB→Option (Bool × Unit)):zan→Option (Bool × Unit):=zl (fun k2=>zkf k0 k2) K
theorem ztS (K:Nat) (n0:Nat):∀ n,evV Es3 K Tryz.f76 0 (ch [.bool]) [1,0,1,0,0,1,1,0,0,1,1,1,1,0] [n0] zkd n = zl (fun k2=>zkf (evV Es3 K Tryz.f76 0 (ch [.bool]) [1,0,1,0] [] vW n0) k2) n:=zn fun n2 (v14,v15,v16,v55,v56,v57,o0)=>by kernel_rfl
def zeV (L2:zan→Option (Bool × Unit)) (k0:qB→Option (Bool × Unit)) (k1:zao→Option (Bool × Unit)):zao→Option (Bool × Unit):=fun (v5,v14,v15,v16,v24,v25,v26,o0) =>
  bif decide (v26 < v25) then inR v26 ((List.length v24):Int) (bif (ix zcl v24 v26).2.2.1 == 3 then Option.bind (zeR (v5,(ix zcl v24 v26).2.2.2.1,())) fun q1=>bif q1.1 then inR (ix zcl v24 v26).2.2.2.1 ((List.length o0.2.2.2.2.1):Int) (bif (List.getD o0.2.2.2.2.1 (Int.toNat (ix zcl v24 v26).2.2.2.1) (zb zp)).2.2.2.1.2.2.1 != v26 then some (false,()) else k1 (v5,v14,v15,v16,v24,v25,wI (v26 + 1),o0)) else some (false,()) else k1 (v5,v14,v15,v16,v24,v25,wI (v26 + 1),o0)) else Option.bind (zcP (v5,())) fun q2=>L2 (v14,v15,v16,q2.1,((List.length q2.1):Int),0,o0)
abbrev zeW (K:Nat) (k0:qB→Option (Bool × Unit)):zao→Option (Bool × Unit):=zl (fun k1=>zeV (zeU K k0) k0 k1) K
theorem ztT (K:Nat) (n0:Nat):∀ n,evV Es3 K Tryz.f76 0 (ch [.bool]) [1,0,1,0,0,1,1,0,0,1,1,0,1,0] [n0] zke n = zl (fun k1=>zeV (zeU K (evV Es3 K Tryz.f76 0 (ch [.bool]) [1,0,1,0] [] vW n0)) (evV Es3 K Tryz.f76 0 (ch [.bool]) [1,0,1,0] [] vW n0) k1) n:=qk (B:=fun L2 k1=>zeV L2 (evV Es3 K Tryz.f76 0 (ch [.bool]) [1,0,1,0] [] vW n0) k1) (V1:=fun n1=>evV Es3 K Tryz.f76 0 (ch [.bool]) [1,0,1,0,0,1,1,0,0,1,1,1,1,0] [n0] zkd K) (W1:=fun k1=>(zeU K (evV Es3 K Tryz.f76 0 (ch [.bool]) [1,0,1,0] [] vW n0))) (fun n1=>ztS K n0 K) fun n1 (v5,v14,v15,v16,v24,v25,v26,o0)=>by kernel_rfl
def zeX (L1:zao→Option (Bool × Unit)) (k0:qB→Option (Bool × Unit)):qB→Option (Bool × Unit):=fun (v14,v15,v16) =>
  bif decide (v16 < v15) then inR v16 ((List.length v14):Int) (Option.bind (zdL ((ix za v14 v16).2.2.2.2.1,some zjY,())) fun q0=>L1 (q0.1,v14,v15,v16,(ix za v14 v16).2.2.1,((List.length (ix za v14 v16).2.2.1):Int),0,ix za v14 v16)) else some (true,())
abbrev zkg (K:Nat):qB→Option (Bool × Unit):=zl (fun k0=>zeX (zeW K k0) k0) K
theorem ztU (K:Nat):∀ n,evV Es3 K Tryz.f76 0 (ch [.bool]) [1,0,1,0] [] vW n = zl (fun k0=>zeX (zeW K k0) k0) n:=qk (B:=fun L1 k0=>zeX L1 k0) (V1:=fun n0=>evV Es3 K Tryz.f76 0 (ch [.bool]) [1,0,1,0,0,1,1,0,0,1,1,0,1,0] [n0] zke K) (W1:=fun k0=>(zeW K k0)) (fun n0=>ztT K n0 K) fun n0 (v14,v15,v16)=>by kernel_rfl
def zgS (L0:qB→Option (Bool × Unit)):(qg × Unit)→Option (Bool × Unit):=fun (x0,()) =>
  L0 (x0.2.1.2.1,((List.length x0.2.1.2.1):Int),0)
def zgT:(qg × Unit)→Option (Bool × Unit):=zgS (zkg K0)
abbrev znD:Fun:=⟨76,(ch [zW]),(ch [.bool]),0,zgT⟩
theorem zwf:Sq znD:=ml3 (d:=false) (S:=fun K=>zgS (zkg K)) Tryz.func76 (by kernel_rfl) (fun K=>tr1 (T:=zgS) (ztU K K) fun (x0,())=>by kernel_rfl) rfl
def zpR:((List zo) × Unit)→Option ((List Int) × Unit):=fun (x0,()) =>
  Option.bind (ztN (x0,())) fun q0=>Option.bind (zhx (q0.1,())) fun q1=>some (q1.1,())
abbrev zpS:Fun:=⟨144,(ch [(.sl zf)]),(ch [(.sl tI)]),0,zpR⟩
theorem zx5:Sq zpS:=ms3 (d:=false) (K:=0) Tryz.func144 (by kernel_rfl) (funext fun (x0,())=>by kernel_rfl)
abbrev za8:Type:=(List zL) × Int × (List Int) × Int × Int × List Int
abbrev zu7:za8→St:=fun (v0,v1,v14,v15,v16,o0)=>St.mk [(0,.dat (.sl zp) v0),(1,.dat tI v1),(6,.ow 0),(14,.dat (.sl tI) v14),(15,.dat tI v15),(16,.dat tI v16)] [.row tU o0 false]
def zma (k0:za8→Option (Int × (Int × Unit))):za8→Option (Int × (Int × Unit)):=fun (v0,v1,v14,v15,v16,o0) =>
  bif decide (v16 < v15) then inR v16 ((List.length v14):Int) (inR (ix (0:Int) v14 v16) ((List.length v0):Int) (bif (List.getD v0 (Int.toNat (ix (0:Int) v14 v16)) (zb zp)).2.2.2.1.1 == v1 then inR (ix (0:Int) v14 v16) ((List.length v0):Int) (bif decide (List.length o0 + List.length (zj (List.replicate 1 (0:Int)) 0 (List.getD v0 (Int.toNat (ix (0:Int) v14 v16)) (zb zp)).2.2.2.1.2.1) ≤ lim) then k0 (v0,v1,v14,v15,wI (v16 + 1),o0 ++ zj (List.replicate 1 (0:Int)) 0 (List.getD v0 (Int.toNat (ix (0:Int) v14 v16)) (zb zp)).2.2.2.1.2.1) else none) else k0 (v0,v1,v14,v15,wI (v16 + 1),o0))) else Option.bind (zeS (o0,())) fun q3=>some (q3.1,q3.2.1,())
abbrev zmb (K:Nat):za8→Option (Int × (Int × Unit)):=zl zma K
theorem zu8 (K:Nat):∀ n,evV Es3 K Tryz.f81 0 (ch [tU,tI]) [1,1,1,0,1,0] [] zu7 n = zl zma n:=zn fun n0 (v0,v1,v14,v15,v16,o0)=>by kernel_rfl
def zi6 (L0:za8→Option (Int × (Int × Unit))):((List zL) × (Int × Unit))→Option (Int × (Int × Unit)):=fun (x0,x1,()) =>
  Option.bind (jt (x1,())) fun q0=>bif q0.1 then Option.bind (zrk (x0,())) fun q1=>Option.bind (zcP (q1.1,())) fun q2=>L0 (x0,x1,q2.1,((List.length q2.1):Int),0,[]) else some (0,1,())
def zpT:((List zL) × Int × Unit)→Option (Int × Int × Unit):=zi6 (zmb K0)
abbrev zpU:Fun:=⟨81,(ch [(.sl zp),tI]),(ch [tU,tI]),0,zpT⟩
theorem zx6:Sq zpU:=ml3 (d:=false) (S:=fun K=>zi6 (zmb K)) Tryz.func81 (by kernel_rfl) (fun K=>tr1 (T:=zi6) (zu8 K K) fun (x0,x1,())=>by kernel_rfl) rfl
def zi7:(zm × (Int × Unit))→Option (Int × (Int × Unit)):=fun (x0,x1,()) =>
  Option.bind (jt (x1,())) fun q0=>bif q0.1 then Option.bind (zf1 (x0,x1,some zlO,())) fun q1=>bif q1.2.1 != 0 then some (0,q1.2.1,()) else Option.bind (zf1 (x0,x1,some zlQ,())) fun q2=>bif q2.2.1 != 0 then some (0,q2.2.1,()) else Option.bind (zpA (q1.1,q2.1,())) fun q3=>some (q3.1,q3.2.1,()) else some (0,1,())
abbrev zpV:Fun:=⟨41,(ch [zt,tI]),(ch [tU,tI]),0,zi7⟩
theorem zx7:Sq zpV:=ms3 (d:=false) (K:=0) Tryz.func41 (by kernel_rfl) (funext fun (x0,x1,())=>by kernel_rfl)
abbrev L4:List Fun:=zl8 :: zpQ :: zrn :: zkc :: ztR :: zrp :: znC :: zl9 :: znD :: zpS :: zpU :: zpV :: L3
theorem h4:Sds Tryz.prog E0 L4:=⟨zu5,zx4,zy1,ztP,zAi,zy2,zwe,zu6,zwf,zx5,zx6,zx7,h3⟩
theorem ms4 {d:Bool} {F:Fun} {f:Go.Func} {K:Nat} (hf:Tryz.prog.funcs[F.id]? = some f) (ho:qV f = true) (h:evF (En E0 d L4) K f F.md F.a F.r = F.spec):Sd Tryz.prog E0 F:=mkS h4 hf ho h
theorem ml4 {d:Bool} {F:Fun} {f:Go.Func} {S:Nat→F.a.I→Option F.r.I} (hf:Tryz.prog.funcs[F.id]? = some f) (ho:qV f = true) (h:∀ K,evF (En E0 d L4) K f F.md F.a F.r = S K) (e:S K0 = F.spec):Sd Tryz.prog E0 F:=mkS h4 hf ho ((h K0).trans e)
abbrev Es4:Env:=En E0 false L4
def zgG:(jM × Unit)→Option (Bool × Unit):=fun (x0,()) =>
  Option.bind (zcb (x0.1,())) fun q0=>bif q0.1 then Option.bind (zcb (x0.2.1,())) fun q1=>bif q1.1 then Option.bind (qa (x0.2.2.1,0,3,())) fun q2=>bif q2.1 then some (false,()) else some (true,()) else some (true,()) else some (true,())
abbrev zgH:Fun:=⟨186,(ch [qn]),(ch [.bool]),0,zgG⟩
theorem zpW:Sq zgH:=ms4 (d:=false) (K:=0) Tryz.func186 (by kernel_rfl) (funext fun (x0,())=>by kernel_rfl)
def zmc:(qr × Unit)→Option (Bool × Unit):=fun (x0,()) =>
  bif x0.1 then Option.bind (zcb (x0.2.1,())) fun q0=>bif q0.1 then bif x0.1 then some (false,()) else bif !ByteArray.toList x0.2.1 == ByteArray.toList (ByteArray.mk #[]) then some (true,()) else some (false,()) else some (true,()) else bif x0.1 then some (false,()) else bif !ByteArray.toList x0.2.1 == ByteArray.toList (ByteArray.mk #[]) then some (true,()) else some (false,())
abbrev zmd:Fun:=⟨199,(ch [zJ]),(ch [.bool]),0,zmc⟩
theorem zu9:Sq zmd:=ms4 (d:=false) (K:=0) Tryz.func199 (by kernel_rfl) (funext fun (x0,())=>by kernel_rfl)
def znE:(z5 × Unit)→Option (Bool × Unit):=fun (x0,()) =>
  bif x0.1 then Option.bind (zcb (x0.2.1,())) fun q0=>bif q0.1 then Option.bind (ztt (x0,())) fun q1=>Option.bind (zgE (q1.1,())) fun q2=>bif q2.1 then some (false,()) else some (true,()) else some (true,()) else bif !eqI zA x0 (zb zA) then some (true,()) else some (false,())
abbrev znF:Fun:=⟨203,(ch [zA]),(ch [.bool]),0,znE⟩
theorem zwg:Sq znF:=ms4 (d:=false) (K:=0) Tryz.func203 (by kernel_rfl) (funext fun (x0,())=>by kernel_rfl)
def zpX:(qc × Unit)→Option (Bool × Unit):=fun (x0,()) =>
  bif x0.1 then Option.bind (zlX (x0,())) fun q0=>bif q0.1 then Option.bind (zrm (x0.2.2.2.2.1,())) fun q1=>bif q1.1 then some (false,()) else some (true,()) else some (true,()) else bif !eqI zF x0 (zb zF) then some (true,()) else some (false,())
abbrev zpY:Fun:=⟨205,(ch [zF]),(ch [.bool]),0,zpX⟩
theorem zx8:Sq zpY:=ms4 (d:=false) (K:=0) Tryz.func205 (by kernel_rfl) (funext fun (x0,())=>by kernel_rfl)
def znG:((List zL) × Unit)→Option (Bool × Unit):=fun (x0,()) =>
  Option.bind (yZ (x0,some zkb,())) fun q0=>bif q0.1 then some (false,()) else some (true,())
abbrev znH:Fun:=⟨116,(ch [(.sl zp)]),(ch [.bool]),0,znG⟩
theorem zwh:Sq znH:=ms4 (d:=false) (K:=0) Tryz.func116 (by kernel_rfl) (funext fun (x0,())=>by kernel_rfl)
abbrev za9:Type:=Int × (List zo) × Int × Int × List (Int × Int)
abbrev zva:za9→St:=fun (v4,v8,v9,v10,o0)=>St.mk [(3,.om 0),(4,.dat tI v4),(8,.dat (.sl zf) v8),(9,.dat tI v9),(10,.dat tI v10)] [.mp tI tI o0]
def zme (k0:za9→Option (Bool × Unit)):za9→Option (Bool × Unit):=fun (v4,v8,v9,v10,o0) =>
  bif decide (v10 < v9) then inR v10 ((List.length v8):Int) (bif (ix qj v8 v10).1 then Option.bind (ztQ (ix qj v8 v10,())) fun q0=>bif q0.1 then bif (ix qj v8 v10).1 then bif (ix qj v8 v10).1 then k0 (wI (v4 + 1),v8,v9,wI (v10 + 1),zcz tI o0 (ix qj v8 v10).2.2.2.2.2.2.2.2.2.1 (wI (zdt tI (0:Int) o0 (ix qj v8 v10).2.2.2.2.2.2.2.2.2.1 + 1))) else k0 (v4,v8,v9,wI (v10 + 1),o0) else bif !eqI zf (ix qj v8 v10) (zb zf) then some (false,()) else bif (ix qj v8 v10).1 then k0 (wI (v4 + 1),v8,v9,wI (v10 + 1),zcz tI o0 (ix qj v8 v10).2.2.2.2.2.2.2.2.2.1 (wI (zdt tI (0:Int) o0 (ix qj v8 v10).2.2.2.2.2.2.2.2.2.1 + 1))) else k0 (v4,v8,v9,wI (v10 + 1),o0) else some (false,()) else bif (ix qj v8 v10).1 then bif (ix qj v8 v10).1 then k0 (wI (v4 + 1),v8,v9,wI (v10 + 1),zcz tI o0 (ix qj v8 v10).2.2.2.2.2.2.2.2.2.1 (wI (zdt tI (0:Int) o0 (ix qj v8 v10).2.2.2.2.2.2.2.2.2.1 + 1))) else k0 (v4,v8,v9,wI (v10 + 1),o0) else bif !eqI zf (ix qj v8 v10) (zb zf) then some (false,()) else bif (ix qj v8 v10).1 then k0 (wI (v4 + 1),v8,v9,wI (v10 + 1),zcz tI o0 (ix qj v8 v10).2.2.2.2.2.2.2.2.2.1 (wI (zdt tI (0:Int) o0 (ix qj v8 v10).2.2.2.2.2.2.2.2.2.1 + 1))) else k0 (v4,v8,v9,wI (v10 + 1),o0)) else bif ((List.length o0):Int) == v4 then some (true,()) else some (false,())
abbrev zmf (K:Nat):za9→Option (Bool × Unit):=zl zme K
theorem zvb (K:Nat):∀ n,evV Es4 K Tryz.f118 0 (ch [.bool]) [1,1,1,0,1,0] [] zva n = zl zme n:=zn fun n0 (v4,v8,v9,v10,o0)=>by kernel_rfl
def zi8 (L0:za9→Option (Bool × Unit)):((List zo) × Unit)→Option (Bool × Unit):=fun (x0,()) =>
  L0 (0,x0,((List.length x0):Int),0,[])
def zpZ:((List zo) × Unit)→Option (Bool × Unit):=zi8 (zmf K0)
abbrev zp0:Fun:=⟨118,(ch [(.sl zf)]),(ch [.bool]),0,zpZ⟩
theorem zx9:Sq zp0:=ml4 (d:=false) (S:=fun K=>zi8 (zmf K)) Tryz.func118 (by kernel_rfl) (fun K=>tr1 (T:=zi8) (zvb K K) fun (x0,())=>by kernel_rfl) rfl
abbrev zap:Type:=(List zr) × (List zr) × Int × Int
abbrev ztV:zap→St:=fun (v0,v5,v6,v7)=>St.mk [(0,.dat (.sl zi) v0),(5,.dat (.sl zi) v5),(6,.dat tI v6),(7,.dat tI v7)] []
def zkh (k0:zap→Option (Bool × Unit)):zap→Option (Bool × Unit):=fun (v0,v5,v6,v7) =>
  bif decide (v7 < v6) then inR v7 ((List.length v5):Int) (Option.bind (zro (ix zaP v5 v7,())) fun q0=>bif q0.1 then bif decide (v7 > 0) then inR (wI (v7 - 1)) ((List.length v0):Int) (Option.bind (znz (List.getD v0 (Int.toNat (wI (v7 - 1))) (zb zi),ix zaP v5 v7,())) fun q1=>bif decide (q1.1 ≥ 0) then some (false,()) else k0 (v0,v5,v6,wI (v7 + 1))) else k0 (v0,v5,v6,wI (v7 + 1)) else some (false,())) else some (true,())
abbrev zki (K:Nat):zap→Option (Bool × Unit):=zl zkh K
theorem ztW (K:Nat):∀ n,evV Es4 K Tryz.f119 0 (ch [.bool]) [1,0,1,0] [] ztV n = zl zkh n:=zn fun n0 (v0,v5,v6,v7)=>by kernel_rfl
def zgU (L0:zap→Option (Bool × Unit)):((List zr) × Unit)→Option (Bool × Unit):=fun (x0,()) =>
  L0 (x0,x0,((List.length x0):Int),0)
def znI:((List zr) × Unit)→Option (Bool × Unit):=zgU (zki K0)
abbrev znJ:Fun:=⟨119,(ch [(.sl zi)]),(ch [.bool]),0,znI⟩
theorem zwi:Sq znJ:=ml4 (d:=false) (S:=fun K=>zgU (zki K)) Tryz.func119 (by kernel_rfl) (fun K=>tr1 (T:=zgU) (ztW K K) fun (x0,())=>by kernel_rfl) rfl
abbrev zaq:Type:=(List zh) × Int × Int × qg
abbrev ztX:zaq→St:=fun (v10,v11,v12,o0)=>St.mk [(1,.bp 0 []),(10,.dat (.sl ze) v10),(11,.dat tI v11),(12,.dat tI v12)] [.bx (.dat zW o0) false]
def zkj (k0:zaq→Option (Bool × Unit)):zaq→Option (Bool × Unit):=fun (v10,v11,v12,o0) =>
  bif decide (v12 < v11) then inR v12 ((List.length v10):Int) (Option.bind (znB (o0,v12,())) fun q0=>Option.bind (ziV ((ix za v10 v12).2.1,some fun z=>zjV (z.1,some q0.1,()),())) fun q1=>bif q1.1 then Option.bind (yL ((ix za v10 v12).2.2.1,some fun z=>zeM (z.1,some q0.1,()),())) fun q2=>bif q2.1 then Option.bind (zj9 ((ix za v10 v12).2.2.2.2.2.2.1,q0.1,())) fun q3=>bif q3.1 then k0 (v10,v11,wI (v12 + 1),o0) else some (false,()) else some (false,()) else Option.bind (yL ((ix za v10 v12).2.2.1,some fun z=>zeM (z.1,some q0.1,()),())) fun q4=>bif q4.1 then some (false,()) else some (false,())) else some (true,())
abbrev zkk (K:Nat):zaq→Option (Bool × Unit):=zl zkj K
theorem ztY (K:Nat):∀ n,evV Es4 K Tryz.f74 0 (ch [.bool]) [1,0,1,0] [] ztX n = zl zkj n:=zn fun n0 (v10,v11,v12,o0)=>by kernel_rfl
def zgV (L0:zaq→Option (Bool × Unit)):(qg × Unit)→Option (Bool × Unit):=fun (x0,()) =>
  L0 (x0.2.1.2.1,((List.length x0.2.1.2.1):Int),0,x0)
def zgW:(qg × Unit)→Option (Bool × Unit):=zgV (zkk K0)
abbrev znK:Fun:=⟨74,(ch [zW]),(ch [.bool]),0,zgW⟩
theorem zwj:Sq znK:=ml4 (d:=false) (S:=fun K=>zgV (zkk K)) Tryz.func74 (by kernel_rfl) (fun K=>tr1 (T:=zgV) (ztY K K) fun (x0,())=>by kernel_rfl) rfl
abbrev zbx:Type:=(List zo) × Int × (List Int) × Int × Int × List Int
abbrev zwk:zbx→St:=fun (v0,v1,v13,v14,v15,o0)=>St.mk [(0,.dat (.sl zf) v0),(1,.dat tI v1),(6,.ow 0),(13,.dat (.sl tI) v13),(14,.dat tI v14),(15,.dat tI v15)] [.row tU o0 false]
def znL (k0:zbx→Option (Int × (Int × Unit))):zbx→Option (Int × (Int × Unit)):=fun (v0,v1,v13,v14,v15,o0) =>
  bif decide (v15 < v14) then inR v15 ((List.length v13):Int) (inR (ix (0:Int) v13 v15) ((List.length v0):Int) (Option.bind (znt (List.getD v0 (Int.toNat (ix (0:Int) v13 v15)) (zb zf),())) fun q2=>bif q2.1 == v1 then inR (ix (0:Int) v13 v15) ((List.length v0):Int) (bif decide (List.length o0 + List.length (zj (List.replicate 1 (0:Int)) 0 (List.getD v0 (Int.toNat (ix (0:Int) v13 v15)) (zb zf)).2.2.2.2.2.2.2.2.1) ≤ lim) then k0 (v0,v1,v13,v14,wI (v15 + 1),o0 ++ zj (List.replicate 1 (0:Int)) 0 (List.getD v0 (Int.toNat (ix (0:Int) v13 v15)) (zb zf)).2.2.2.2.2.2.2.2.1) else none) else k0 (v0,v1,v13,v14,wI (v15 + 1),o0))) else Option.bind (zeS (o0,())) fun q3=>some (q3.1,q3.2.1,())
abbrev znM (K:Nat):zbx→Option (Int × (Int × Unit)):=zl znL K
theorem zwl (K:Nat):∀ n,evV Es4 K Tryz.f80 0 (ch [tU,tI]) [1,1,1,0,1,0] [] zwk n = zl znL n:=zn fun n0 (v0,v1,v13,v14,v15,o0)=>by kernel_rfl
def zk4 (L0:zbx→Option (Int × (Int × Unit))):((List zo) × (Int × Unit))→Option (Int × (Int × Unit)):=fun (x0,x1,()) =>
  Option.bind (jt (x1,())) fun q0=>bif q0.1 then Option.bind (zpR (x0,())) fun q1=>L0 (x0,x1,q1.1,((List.length q1.1):Int),0,[]) else some (0,1,())
def zrq:((List zo) × Int × Unit)→Option (Int × Int × Unit):=zk4 (znM K0)
abbrev zrr:Fun:=⟨80,(ch [(.sl zf),tI]),(ch [tU,tI]),0,zrq⟩
theorem zy3:Sq zrr:=ml4 (d:=false) (S:=fun K=>zk4 (znM K)) Tryz.func80 (by kernel_rfl) (fun K=>tr1 (T:=zk4) (zwl K K) fun (x0,x1,())=>by kernel_rfl) rfl
abbrev L5:List Fun:=zgH :: zmd :: znF :: zpY :: znH :: zp0 :: znJ :: znK :: zrr :: L4
theorem h5:Sds Tryz.prog E0 L5:=⟨zpW,zu9,zwg,zx8,zwh,zx9,zwi,zwj,zy3,h4⟩
theorem ms5 {d:Bool} {F:Fun} {f:Go.Func} {K:Nat} (hf:Tryz.prog.funcs[F.id]? = some f) (ho:qV f = true) (h:evF (En E0 d L5) K f F.md F.a F.r = F.spec):Sd Tryz.prog E0 F:=mkS h5 hf ho h
theorem ml5 {d:Bool} {F:Fun} {f:Go.Func} {S:Nat→F.a.I→Option F.r.I} (hf:Tryz.prog.funcs[F.id]? = some f) (ho:qV f = true) (h:∀ K,evF (En E0 d L5) K f F.md F.a F.r = S K) (e:S K0 = F.spec):Sd Tryz.prog E0 F:=mkS h5 hf ho ((h K0).trans e)
abbrev Es5:Env:=En E0 false L5
def zdN:(zw × Unit)→Option (Bool × Unit):=fun (x0,()) =>
  Option.bind (qa (((List.length x0.2.2.1):Int),1,8,())) fun q0=>bif q0.1 then Option.bind (zbT (x0.2.2.1,some zgG,())) fun q1=>bif q1.1 then some (false,()) else Option.bind (zhd (x0,())) fun q2=>Option.bind (zpg (q2.1,())) fun q3=>bif q3.1 then some (true,()) else some (false,()) else some (false,())
abbrev zi9:Fun:=⟨106,(ch [zB]),(ch [.bool]),0,zdN⟩
theorem zsv:Sq zi9:=ms5 (d:=false) (K:=0) Tryz.func106 (by kernel_rfl) (funext fun (x0,())=>by kernel_rfl)
def zp1:((List qr) × Unit)→Option (Bool × Unit):=fun (x0,()) =>
  Option.bind (zdf (x0,some zmc,())) fun q0=>bif q0.1 then some (false,()) else some (true,())
abbrev zp2:Fun:=⟨112,(ch [(.sl zJ)]),(ch [.bool]),0,zp1⟩
theorem zya:Sq zp2:=ms5 (d:=false) (K:=0) Tryz.func112 (by kernel_rfl) (funext fun (x0,())=>by kernel_rfl)
def znN:((List z5) × Unit)→Option (Bool × Unit):=fun (x0,()) =>
  Option.bind (zaA (x0,some znE,())) fun q0=>bif q0.1 then some (false,()) else some (true,())
abbrev znO:Fun:=⟨114,(ch [(.sl zA)]),(ch [.bool]),0,znN⟩
theorem zwm:Sq znO:=ms5 (d:=false) (K:=0) Tryz.func114 (by kernel_rfl) (funext fun (x0,())=>by kernel_rfl)
def zp3:((List qc) × Unit)→Option (Bool × Unit):=fun (x0,()) =>
  Option.bind (zaB (x0,some zpX,())) fun q0=>bif q0.1 then some (false,()) else some (true,())
abbrev zp4:Fun:=⟨115,(ch [(.sl zF)]),(ch [.bool]),0,zp3⟩
theorem zyb:Sq zp4:=ms5 (d:=false) (K:=0) Tryz.func115 (by kernel_rfl) (funext fun (x0,())=>by kernel_rfl)
abbrev zba:Type:=Int × (List zh) × Int × Int × (List (List Int)) × Int × Int × List Int
abbrev zmg:zba→St:=fun (v1,v31,v32,v33,v52,v53,v54,o0)=>St.mk [(1,.dat tI v1),(8,.ow 0),(31,.dat (.sl ze) v31),(32,.dat tI v32),(33,.dat tI v33),(52,.dat (.sl (.arr 4 tU)) v52),(53,.dat tI v53),(54,.dat tI v54)] [.row tU o0 false]
abbrev vI:Type:=Int × (List zh) × Int × Int × List Int
abbrev zmh:vI→St:=fun (v1,v31,v32,v33,o0)=>St.mk [(1,.dat tI v1),(8,.ow 0),(31,.dat (.sl ze) v31),(32,.dat tI v32),(33,.dat tI v33)] [.row tU o0 false]
def zmi (k0:vI→Option (Int × (Int × Unit))) (k1:zba→Option (Int × (Int × Unit))):zba→Option (Int × (Int × Unit)):=fun (v1,v31,v32,v33,v52,v53,v54,o0) =>
  bif decide (v54 < v53) then inR v54 ((List.length v52):Int) (inR v1 (↑4:Int) (bif decide (List.length o0 + List.length (zj (List.replicate 1 (0:Int)) 0 (List.getD (List.getD v52 (Int.toNat v54) (zb (.arr 4 tU))) (Int.toNat v1) (0:Int))) ≤ lim) then k1 (v1,v31,v32,v33,v52,v53,wI (v54 + 1),o0 ++ zj (List.replicate 1 (0:Int)) 0 (List.getD (List.getD v52 (Int.toNat v54) (zb (.arr 4 tU))) (Int.toNat v1) (0:Int))) else none)) else k0 (v1,v31,v32,wI (v33 + 1),o0)
abbrev zf6 (K:Nat) (k0:vI→Option (Int × (Int × Unit))):zba→Option (Int × (Int × Unit)):=zl (fun k1=>zmi k0 k1) K
theorem zvc (K:Nat) (n0:Nat):∀ n,evV Es5 K Tryz.f40 0 (ch [tU,tI]) [1,1,1,1,1,0,1,0,0,1,1,0,0,1,1,1,1,1,0] [n0] zmg n = zl (fun k1=>zmi (evV Es5 K Tryz.f40 0 (ch [tU,tI]) [1,1,1,1,1,0,1,0] [] zmh n0) k1) n:=zn fun n1 (v1,v31,v32,v33,v52,v53,v54,o0)=>by kernel_rfl
def zf7 (L1:zba→Option (Int × (Int × Unit))) (k0:vI→Option (Int × (Int × Unit))):vI→Option (Int × (Int × Unit)):=fun (v1,v31,v32,v33,o0) =>
  bif decide (v33 < v32) then inR v33 ((List.length v31):Int) (Option.bind (zpT ((ix za v31 v33).2.2.2.2.1,v1,())) fun q2=>bif q2.2.1 != 0 then some (0,q2.2.1,()) else bif decide (List.length o0 + List.length (zj (List.replicate 1 (0:Int)) 0 q2.1) ≤ lim) then L1 (v1,v31,v32,v33,(ix za v31 v33).2.2.2.2.2.1,((List.length (ix za v31 v33).2.2.2.2.2.1):Int),0,o0 ++ zj (List.replicate 1 (0:Int)) 0 q2.1) else none) else Option.bind (zeS (o0,())) fun q3=>some (q3.1,q3.2.1,())
abbrev zmj (K:Nat):vI→Option (Int × (Int × Unit)):=zl (fun k0=>zf7 (zf6 K k0) k0) K
theorem zvd (K:Nat):∀ n,evV Es5 K Tryz.f40 0 (ch [tU,tI]) [1,1,1,1,1,0,1,0] [] zmh n = zl (fun k0=>zf7 (zf6 K k0) k0) n:=qk (B:=fun L1 k0=>zf7 L1 k0) (V1:=fun n0=>evV Es5 K Tryz.f40 0 (ch [tU,tI]) [1,1,1,1,1,0,1,0,0,1,1,0,0,1,1,1,1,1,0] [n0] zmg K) (W1:=fun k0=>(zf6 K k0)) (fun n0=>zvc K n0 K) fun n0 (v1,v31,v32,v33,o0)=>by kernel_rfl
def zja (L0:vI→Option (Int × (Int × Unit))):(zm × (Int × Unit))→Option (Int × (Int × Unit)):=fun (x0,x1,()) =>
  Option.bind (jt (x1,())) fun q0=>bif q0.1 then Option.bind (zrq (x0.2.2.2.1,x1,())) fun q1=>bif q1.2.1 != 0 then some (0,q1.2.1,()) else L0 (x1,x0.2.1,((List.length x0.2.1):Int),0,[q1.1]) else some (0,1,())
def zjb:(zm × Int × Unit)→Option (Int × Int × Unit):=zja (zmj K0)
abbrev zp5:Fun:=⟨40,(ch [zt,tI]),(ch [tU,tI]),0,zjb⟩
theorem zyc:Sq zp5:=ml5 (d:=false) (S:=fun K=>zja (zmj K)) Tryz.func40 (by kernel_rfl) (fun K=>tr1 (T:=zja) (zvd K K) fun (x0,x1,())=>by kernel_rfl) rfl
abbrev L6:List Fun:=zi9 :: zp2 :: znO :: zp4 :: zp5 :: L5
theorem h6:Sds Tryz.prog E0 L6:=⟨zsv,zya,zwm,zyb,zyc,h5⟩
theorem ms6 {d:Bool} {F:Fun} {f:Go.Func} {K:Nat} (hf:Tryz.prog.funcs[F.id]? = some f) (ho:qV f = true) (h:evF (En E0 d L6) K f F.md F.a F.r = F.spec):Sd Tryz.prog E0 F:=mkS h6 hf ho h
theorem ml6 {d:Bool} {F:Fun} {f:Go.Func} {S:Nat→F.a.I→Option F.r.I} (hf:Tryz.prog.funcs[F.id]? = some f) (ho:qV f = true) (h:∀ K,evF (En E0 d L6) K f F.md F.a F.r = S K) (e:S K0 = F.spec):Sd Tryz.prog E0 F:=mkS h6 hf ho ((h K0).trans e)
abbrev Es6:Env:=En E0 false L6
abbrev zar:Type:=Int × Int × zw × List (Option ((zw × Unit)→Option (Bool × Unit)))
abbrev ztZ:zar→St:=fun (v6,v7,o0,o1)=>St.mk [(1,.bp 0 []),(5,.ow 1),(6,.dat tI v6),(7,.dat tI v7)] [.bx (.dat zB o0) false,.row (.fn (.pair zB .unit) (.pair .bool .unit)) o1 false]
def zkl (k0:zar→Option (Bool × Unit)):zar→Option (Bool × Unit):=fun (v6,v7,o0,o1) =>
  bif decide (v7 < v6) then inR v7 ((List.length o1):Int) (Option.bind (List.getD o1 (Int.toNat v7) (zb (.fn (.pair zB .unit) (.pair .bool .unit)))) fun q0=>Option.bind (q0 (o0,())) fun q1=>bif q1.1 then k0 (v6,wI (v7 + 1),o0,o1) else some (false,())) else some (true,())
abbrev zkm (K:Nat):zar→Option (Bool × Unit):=zl zkl K
theorem zt0 (K:Nat):∀ n,evV Es6 K Tryz.f68 0 (ch [.bool]) [1,0,1,0] [] ztZ n = zl zkl n:=zn fun n0 (v6,v7,o0,o1)=>by kernel_rfl
def zgX (L0:zar→Option (Bool × Unit)):(zw × Unit)→Option (Bool × Unit):=fun (x0,()) =>
  L0 (((List.length (zj (zj (zj (zj (zj (zj (List.replicate 6 (zb (.fn (.pair zB .unit) (.pair .bool .unit)))) 0 (some zf3)) 1 (some zgR)) 2 (some zdN)) 3 (some zfX)) 4 (some zfZ)) 5 (some ziF))):Int),0,x0,[some zf3,some zgR,some zdN,some zfX,some zfZ,some ziF])
def y3:(zw × Unit)→Option (Bool × Unit):=zgX (zkm K0)
abbrev znP:Fun:=⟨68,(ch [zB]),(ch [.bool]),0,y3⟩
theorem zwn:Sq znP:=ml6 (d:=false) (S:=fun K=>zgX (zkm K)) Tryz.func68 (by kernel_rfl) (fun K=>tr1 (T:=zgX) (zt0 K K) fun (x0,())=>by kernel_rfl) rfl
def zkn:(zh × Unit)→Option (Bool × Unit):=fun (x0,()) =>
  Option.bind (zp1 (x0.1,())) fun q0=>bif q0.1 then Option.bind (zpO (x0.2.1,())) fun q1=>bif q1.1 then Option.bind (znN (x0.2.2.1,())) fun q2=>bif q2.1 then Option.bind (zp3 (x0.2.2.2.1,())) fun q3=>bif q3.1 then Option.bind (znG (x0.2.2.2.2.1,())) fun q4=>bif q4.1 then some (true,()) else some (false,()) else some (false,()) else some (false,()) else some (false,()) else some (false,())
abbrev zko:Fun:=⟨111,(ch [ze]),(ch [.bool]),0,zkn⟩
theorem zt1:Sq zko:=ms6 (d:=false) (K:=0) Tryz.func111 (by kernel_rfl) (funext fun (x0,())=>by kernel_rfl)
end
end Go.Proofs.YtlklokhlgcfcdaaGreatDoor
end
section
namespace Go.Proofs.YtlklokhlgcfcdaaGreatDoor
open Go.Ev
noncomputable section
abbrev zas:Type:=Int × Int × (List zh) × Int × Int × qg
abbrev zkp:zas→St:=fun (v3,v10,v15,v16,v17,o0)=>St.mk [(1,.bp 0 []),(3,.dat tI v3),(10,.dat tI v10),(15,.dat (.sl ze) v15),(16,.dat tI v16),(17,.dat tI v17)] [.bx (.dat zW o0) false]
abbrev jR:Type:=Int × qg
abbrev zkq:jR→St:=fun (v10,o0)=>St.mk [(1,.bp 0 []),(10,.dat tI v10)] [.bx (.dat zW o0) false]
def zkr (k0:jR→Option (Bool × Unit)) (k1:zas→Option (Bool × Unit)):zas→Option (Bool × Unit):=fun (v3,v10,v15,v16,v17,o0) =>
  bif decide (v17 < v16) then inR v17 ((List.length v15):Int) (inR v3 (↑4:Int) (inR v17 ((List.length o0.1.2.2.2.2.1):Int) (bif decide (List.getD (ix za v15 v17).2.2.2.2.2.2.2.1 (Int.toNat v3) (0:Int) > (ix zad o0.1.2.2.2.2.1 v17).2.2.2.2.2.1) then some (false,()) else k1 (v3,v10,v15,v16,wI (v17 + 1),o0)))) else Option.bind (zjb (o0.2.1,v3,())) fun q0=>Option.bind (zi7 (o0.2.1,v3,())) fun q1=>bif q0.2.1 != 0 then some (false,()) else bif q1.2.1 != 0 then some (false,()) else bif q0.1 != q1.1 then some (false,()) else k0 (wI (v10 + 1),o0)
abbrev zeY (K:Nat) (k0:jR→Option (Bool × Unit)):zas→Option (Bool × Unit):=zl (fun k1=>zkr k0 k1) K
theorem zt2 (K:Nat) (n0:Nat):∀ n,evV Es6 K Tryz.f77 0 (ch [.bool]) [1,0,1,0,0,1,1,0,0,1,0,1,0] [n0] zkp n = zl (fun k1=>zkr (evV Es6 K Tryz.f77 0 (ch [.bool]) [1,0,1,0] [] zkq n0) k1) n:=zn fun n1 (v3,v10,v15,v16,v17,o0)=>by kernel_rfl
def zeZ (L1:zas→Option (Bool × Unit)) (k0:jR→Option (Bool × Unit)):jR→Option (Bool × Unit):=fun (v10,o0) =>
  bif decide (v10 < 4) then L1 (v10,v10,o0.2.1.2.1,((List.length o0.2.1.2.1):Int),0,o0) else some (true,())
abbrev zks (K:Nat):jR→Option (Bool × Unit):=zl (fun k0=>zeZ (zeY K k0) k0) K
theorem zt3 (K:Nat):∀ n,evV Es6 K Tryz.f77 0 (ch [.bool]) [1,0,1,0] [] zkq n = zl (fun k0=>zeZ (zeY K k0) k0) n:=qk (B:=fun L1 k0=>zeZ L1 k0) (V1:=fun n0=>evV Es6 K Tryz.f77 0 (ch [.bool]) [1,0,1,0,0,1,1,0,0,1,0,1,0] [n0] zkp K) (W1:=fun k0=>(zeY K k0)) (fun n0=>zt2 K n0 K) fun n0 (v10,o0)=>by kernel_rfl
def zgY (L0:jR→Option (Bool × Unit)):(qg × Unit)→Option (Bool × Unit):=fun (x0,()) =>
  L0 (0,x0)
def zgZ:(qg × Unit)→Option (Bool × Unit):=zgY (zks K0)
abbrev znQ:Fun:=⟨77,(ch [zW]),(ch [.bool]),0,zgZ⟩
theorem zwo:Sq znQ:=ml6 (d:=false) (S:=fun K=>zgY (zks K)) Tryz.func77 (by kernel_rfl) (fun K=>tr1 (T:=zgY) (zt3 K K) fun (x0,())=>by kernel_rfl) rfl
abbrev L7:List Fun:=znP :: zko :: znQ :: L6
theorem h7:Sds Tryz.prog E0 L7:=⟨zwn,zt1,zwo,h6⟩
theorem ms7 {d:Bool} {F:Fun} {f:Go.Func} {K:Nat} (hf:Tryz.prog.funcs[F.id]? = some f) (ho:qV f = true) (h:evF (En E0 d L7) K f F.md F.a F.r = F.spec):Sd Tryz.prog E0 F:=mkS h7 hf ho h
theorem ml7 {d:Bool} {F:Fun} {f:Go.Func} {S:Nat→F.a.I→Option F.r.I} (hf:Tryz.prog.funcs[F.id]? = some f) (ho:qV f = true) (h:∀ K,evF (En E0 d L7) K f F.md F.a F.r = S K) (e:S K0 = F.spec):Sd Tryz.prog E0 F:=mkS h7 hf ho ((h K0).trans e)
abbrev Es7:Env:=En E0 false L7
abbrev Ed7:Env:=En E0 true L7
abbrev zcc:Type:=(List z4) × Int × Int × zw × List (List Int) × Nat
abbrev zyd:zcc→St:=fun (v11,v12,v13,o0,o1,c1)=>St.mk [(1,.bp 0 []),(3,.ow 1),(11,.dat (.sl qS) v11),(12,.dat tI v12),(13,.dat tI v13)] [.bx (.dat zB o0) false,.drow (.sl tI) o1 c1]
def zp6 (k0:zcc→Option ((List (List Int)) × Unit)):zcc→Option ((List (List Int)) × Unit):=fun (v11,v12,v13,o0,o1,c1) =>
  bif decide (v13 < v12) then inR v13 ((List.length v11):Int) (bif decide (((List.length o0.2.2.1):Int) ≤ ((List.length o0.2.2.1):Int)) then bif decide (((List.length o0.2.2.1):Int) ≤ (↑lim:Int)) then inR (ix zae v11 v13).2.1 ((List.length (List.replicate (Int.toNat ((List.length o0.2.2.1):Int)) (0:Int))):Int) (bif decide (List.length o1 + List.length [List.set (List.replicate (Int.toNat ((List.length o0.2.2.1):Int)) (0:Int)) (Int.toNat (ix zae v11 v13).2.1) 2] ≤ lim) then bif decide (c1 = List.length o1) then k0 (v11,v12,wI (v13 + 1),o0,o1 ++ [List.set (List.replicate (Int.toNat ((List.length o0.2.2.1):Int)) (0:Int)) (Int.toNat (ix zae v11 v13).2.1) 2],c1 + (0 + 1)) else none else none) else none else none) else bif decide (c1 = List.length o1) then some (o1,()) else none
abbrev zp7 (K:Nat):zcc→Option ((List (List Int)) × Unit):=zl zp6 K
theorem zye (K:Nat):∀ n,evV Ed7 K Tryz.f69 4 (ch [(.sl (.sl tI))]) [1,1,1,0,1,0] [] zyd n = zl zp6 n:=zn fun n0 (v11,v12,v13,o0,o1,c1)=>by kernel_rfl
def zm9 (L0:zcc→Option ((List (List Int)) × Unit)):(zw × Unit)→Option ((List (List Int)) × Unit):=fun (x0,()) =>
  Option.bind (y3 (x0,())) fun q0=>bif q0.1 then L0 (x0.2.2.2.1,((List.length x0.2.2.2.1):Int),0,x0,[],0) else some ([],())
def zt4:(zw × Unit)→Option ((List (List Int)) × Unit):=zm9 (zp7 K0)
abbrev zt5:Fun:=⟨69,(ch [zB]),(ch [(.sl (.sl tI))]),4,zt4⟩
theorem zAj:Sq zt5:=ml7 (d:=true) (S:=fun K=>zm9 (zp7 K)) Tryz.func69 (by kernel_rfl) (fun K=>tr1 (T:=zm9) (zye K K) fun (x0,())=>by kernel_rfl) rfl
abbrev zat:Type:=Int × (List zh) × Int × Int × qg
abbrev zt6:zat→St:=fun (v3,v65,v66,v67,o0)=>St.mk [(1,.bp 0 []),(3,.dat tI v3),(65,.dat (.sl ze) v65),(66,.dat tI v66),(67,.dat tI v67)] [.bx (.dat zW o0) false]
def zkt (k0:zat→Option (Bool × Unit)):zat→Option (Bool × Unit):=fun (v3,v65,v66,v67,o0) =>
  bif decide (v67 < v66) then inR v67 ((List.length v65):Int) (inR v67 ((List.length o0.1.2.2.2.2.1):Int) (bif ((List.length (ix za v65 v67).1):Int) != (ix zad o0.1.2.2.2.2.1 v67).1 then some (false,()) else bif ((List.length (ix za v65 v67).2.1):Int) != (ix zad o0.1.2.2.2.2.1 v67).2.1 then some (false,()) else bif ((List.length (ix za v65 v67).2.2.1):Int) != (ix zad o0.1.2.2.2.2.1 v67).2.2.1 then some (false,()) else bif ((List.length (ix za v65 v67).2.2.2.1):Int) != (ix zad o0.1.2.2.2.2.1 v67).2.2.2.1 then some (false,()) else bif ((List.length (ix za v65 v67).2.2.2.2.1):Int) != (ix zad o0.1.2.2.2.2.1 v67).2.2.2.2.1 then some (false,()) else bif ((List.length (ix za v65 v67).2.2.2.2.2.1):Int) != v3 then some (false,()) else bif ((List.length (ix za v65 v67).2.2.2.2.2.2.1):Int) != v3 then some (false,()) else k0 (v3,v65,v66,wI (v67 + 1),o0))) else some (true,())
abbrev zku (K:Nat):zat→Option (Bool × Unit):=zl zkt K
theorem zt7 (K:Nat):∀ n,evV Es7 K Tryz.f71 0 (ch [.bool]) [1,1,1,0,1,0] [] zt6 n = zl zkt n:=zn fun n0 (v3,v65,v66,v67,o0)=>by kernel_rfl
def zg0 (L0:zat→Option (Bool × Unit)):(qg × Unit)→Option (Bool × Unit):=fun (x0,()) =>
  Option.bind (y3 (x0.1,())) fun q0=>bif q0.1 then bif ((List.length x0.2.1.2.1):Int) != ((List.length x0.1.1):Int) then some (false,()) else bif ((List.length x0.2.1.2.2.2.1):Int) != x0.1.2.2.2.2.2.1 then some (false,()) else bif decide (((List.length x0.2.1.2.2.2.2.1):Int) > x0.1.2.2.2.2.2.2.1) then some (false,()) else bif ((List.length x0.2.1.2.2.2.2.2.1):Int) != ((List.length x0.1.2.1):Int) then some (false,()) else bif decide (x0.2.1.1 > 4611686018427387904) then some (false,()) else L0 (((List.length x0.1.2.2.1):Int),x0.2.1.2.1,((List.length x0.2.1.2.1):Int),0,x0) else some (false,())
def zg1:(qg × Unit)→Option (Bool × Unit):=zg0 (zku K0)
abbrev znR:Fun:=⟨71,(ch [zW]),(ch [.bool]),0,zg1⟩
theorem zwp:Sq znR:=ml7 (d:=false) (S:=fun K=>zg0 (zku K)) Tryz.func71 (by kernel_rfl) (fun K=>tr1 (T:=zg0) (zt7 K K) fun (x0,())=>by kernel_rfl) rfl
def zg2:(qg × Unit)→Option (Bool × Unit):=fun (x0,()) =>
  Option.bind (zhq (x0.2.1.2.1,some zkn,())) fun q0=>bif q0.1 then some (true,()) else some (false,())
abbrev znS:Fun:=⟨72,(ch [zW]),(ch [.bool]),0,zg2⟩
theorem zwq:Sq znS:=ms7 (d:=false) (K:=0) Tryz.func72 (by kernel_rfl) (funext fun (x0,())=>by kernel_rfl)
abbrev zbb:Type:=(Option ((Int × Unit)→Option (Bool × Unit))) × (List (List Int)) × Int × Int × zw
abbrev zve:zbb→St:=fun (v5,v19,v20,v21,o0)=>St.mk [(2,.bp 0 []),(5,.dat (.fn (.pair tI .unit) (.pair .bool .unit)) v5),(19,.dat (.sl (.sl tI)) v19),(20,.dat tI v20),(21,.dat tI v21)] [.bx (.dat zB o0) false]
def zmk (k0:zbb→Option (Bool × Unit)):zbb→Option (Bool × Unit):=fun (v5,v19,v20,v21,o0) =>
  bif decide (v21 < v20) then inR v21 ((List.length v19):Int) (bif ((List.length (List.getD v19 (Int.toNat v21) ([]:List Int))):Int) != ((List.length o0.2.2.1):Int) then some (false,()) else Option.bind (qC (List.getD v19 (Int.toNat v21) ([]:List Int),v5,())) fun q1=>bif q1.1 then some (false,()) else inR v21 ((List.length o0.2.2.2.1):Int) (inR (ix zae o0.2.2.2.1 v21).2.1 ((List.length (List.getD v19 (Int.toNat v21) ([]:List Int))):Int) (bif List.getD (List.getD v19 (Int.toNat v21) ([]:List Int)) (Int.toNat (ix zae o0.2.2.2.1 v21).2.1) (0:Int) != 2 then some (false,()) else k0 (v5,v19,v20,wI (v21 + 1),o0)))) else some (true,())
abbrev zml (K:Nat):zbb→Option (Bool × Unit):=zl zmk K
theorem zvf (K:Nat):∀ n,evV Es7 K Tryz.f117 0 (ch [.bool]) [1,1,1,0,1,0] [] zve n = zl zmk n:=zn fun n0 (v5,v19,v20,v21,o0)=>by kernel_rfl
def zjc (L0:zbb→Option (Bool × Unit)):(zw × ((List (List Int)) × Unit))→Option (Bool × Unit):=fun (x0,x1,()) =>
  Option.bind (y3 (x0,())) fun q0=>bif q0.1 then bif ((List.length x1):Int) != ((List.length x0.2.2.2.1):Int) then some (false,()) else L0 (some zlM,x1,((List.length x1):Int),0,x0) else some (false,())
def zjd:(zw × (List (List Int)) × Unit)→Option (Bool × Unit):=zjc (zml K0)
abbrev zp8:Fun:=⟨117,(ch [zB,(.sl (.sl tI))]),(ch [.bool]),0,zjd⟩
theorem zyf:Sq zp8:=ml7 (d:=false) (S:=fun K=>zjc (zml K)) Tryz.func117 (by kernel_rfl) (fun K=>tr1 (T:=zjc) (zvf K K) fun (x0,x1,())=>by kernel_rfl) rfl
def zkv:(zw × (Int × Unit))→Option (Bool × Unit):=fun (x0,x1,()) =>
  Option.bind (y3 (x0,())) fun q0=>bif q0.1 then Option.bind (qa (x1,0,wI (((List.length x0.1):Int) - 1),())) fun q1=>bif q1.1 then some (true,()) else some (false,()) else some (false,())
abbrev zkw:Fun:=⟨158,(ch [zB,tI]),(ch [.bool]),0,zkv⟩
theorem zt8:Sq zkw:=ms7 (d:=false) (K:=0) Tryz.func158 (by kernel_rfl) (funext fun (x0,x1,())=>by kernel_rfl)
abbrev L8:List Fun:=zt5 :: znR :: znS :: zp8 :: zkw :: L7
theorem h8:Sds Tryz.prog E0 L8:=⟨zAj,zwp,zwq,zyf,zt8,h7⟩
theorem ms8 {d:Bool} {F:Fun} {f:Go.Func} {K:Nat} (hf:Tryz.prog.funcs[F.id]? = some f) (ho:qV f = true) (h:evF (En E0 d L8) K f F.md F.a F.r = F.spec):Sd Tryz.prog E0 F:=mkS h8 hf ho h
theorem ml8 {d:Bool} {F:Fun} {f:Go.Func} {S:Nat→F.a.I→Option F.r.I} (hf:Tryz.prog.funcs[F.id]? = some f) (ho:qV f = true) (h:∀ K,evF (En E0 d L8) K f F.md F.a F.r = S K) (e:S K0 = F.spec):Sd Tryz.prog E0 F:=mkS h8 hf ho ((h K0).trans e)
abbrev Es8:Env:=En E0 false L8
abbrev Ed8:Env:=En E0 true L8
abbrev zby:Type:=Int × Int × Int × Int × List zh × Nat × List (List Int) × Nat × List zo × List zr × List Int × List zh × Nat × List (List Int) × Nat × List zo × List zr × List Int
abbrev znT:zby→St:=fun (v42,v43,o0_0,o1_0,o2,c2,o3,c3,o4,o5,o6,o7,c7,o8,c8,o9,o10,o11)=>St.mk [(2,.bp 0 []),(4,.bp 1 []),(42,.dat tI v42),(43,.dat tI v43)] [.bx (.fld (.pair tU (.pair (.sl ze) (.pair (.sl (.sl tI)) (.pair (.sl zf) (.pair (.sl zi) (.pair (.sl tI) .unit)))))) [.dat tU o0_0,.ow 2,.ow 3,.ow 4,.ow 5,.ow 6]) false,.bx (.fld (.pair tU (.pair (.sl ze) (.pair (.sl (.sl tI)) (.pair (.sl zf) (.pair (.sl zi) (.pair (.sl tI) .unit)))))) [.dat tU o1_0,.ow 7,.ow 8,.ow 9,.ow 10,.ow 11]) false,.drow ze o2 c2,.drow (.sl tI) o3 c3,.row zf o4 false,.row zi o5 false,.row tI o6 false,.drow ze o7 c7,.drow (.sl tI) o8 c8,.row zf o9 false,.row zi o10 false,.row tI o11 false]
abbrev zbz:Type:=(List zcV) × Int × Int × zw × Int × Int × List zh × Nat × List (List Int) × Nat × List zo × List zr × List Int × List zh × Nat × List (List Int) × Nat × List zo × List zr × List Int
abbrev zwr:zbz→St:=fun (v18,v19,v20,o0,o1_0,o2_0,o3,c3,o4,c4,o5,o6,o7,o8,c8,o9,c9,o10,o11,o12)=>St.mk [(1,.bp 0 []),(2,.bp 1 []),(4,.bp 2 []),(18,.dat (.sl zbw) v18),(19,.dat tI v19),(20,.dat tI v20)] [.bx (.dat zB o0) false,.bx (.fld (.pair tU (.pair (.sl ze) (.pair (.sl (.sl tI)) (.pair (.sl zf) (.pair (.sl zi) (.pair (.sl tI) .unit)))))) [.dat tU o1_0,.ow 3,.ow 4,.ow 5,.ow 6,.ow 7]) false,.bx (.fld (.pair tU (.pair (.sl ze) (.pair (.sl (.sl tI)) (.pair (.sl zf) (.pair (.sl zi) (.pair (.sl tI) .unit)))))) [.dat tU o2_0,.ow 8,.ow 9,.ow 10,.ow 11,.ow 12]) false,.drow ze o3 c3,.drow (.sl tI) o4 c4,.row zf o5 false,.row zi o6 false,.row tI o7 false,.drow ze o8 c8,.drow (.sl tI) o9 c9,.row zf o10 false,.row zi o11 false,.row tI o12 false]
def znU (k1:zby→Option (zm × (Int × Unit))):zby→Option (zm × (Int × Unit)):=fun (v42,v43,o0_0,o1_0,o2,c2,o3,c3,o4,o5,o6,o7,c7,o8,c8,o9,o10,o11) =>
  bif decide (v43 < v42) then bif decide (List.length o11 + List.length (zj (List.replicate 1 (0:Int)) 0 (-1)) ≤ lim) then k1 (v42,wI (v43 + 1),o0_0,o1_0,o2,c2,o3,c3,o4,o5,o6,o7,c7,o8,c8,o9,o10,o11 ++ zj (List.replicate 1 (0:Int)) 0 (-1)) else none else bif decide (c7 = List.length o7) then bif decide (c8 = List.length o8) then some ((o1_0,o7,o8,o9,o10,o11,()),0,()) else none else none
abbrev zg3 (K:Nat):zby→Option (zm × (Int × Unit)):=zl znU K
theorem zws (K:Nat):∀ n,evV Ed8 K Tryz.f37 3 (ch [zt,tI]) [1,1,1,1,1,0,1,0] [] znT n = zl znU n:=zn fun n1 (v42,v43,o0_0,o1_0,o2,c2,o3,c3,o4,o5,o6,o7,c7,o8,c8,o9,o10,o11)=>by kernel_rfl
def zg4 (L1:zby→Option (zm × (Int × Unit))) (k0:zbz→Option (zm × (Int × Unit))):zbz→Option (zm × (Int × Unit)):=fun (v18,v19,v20,o0,o1_0,o2_0,o3,c3,o4,c4,o5,o6,o7,o8,c8,o9,c9,o10,o11,o12) =>
  bif decide (v20 < v19) then inR v20 ((List.length v18):Int) (Option.bind (znp (o0,ix zad v18 v20,())) fun q2=>bif decide (List.length o8 + List.length [(q2.1.1,q2.1.2.1,q2.1.2.2.1,q2.1.2.2.2.1,q2.1.2.2.2.2.1,q2.1.2.2.2.2.2.1,q2.1.2.2.2.2.2.2.1,q2.1.2.2.2.2.2.2.2.1,q2.1.2.2.2.2.2.2.2.2.1,())] ≤ lim) then bif decide (c8 = List.length o8) then k0 (v18,v19,wI (v20 + 1),o0,o1_0,o2_0,o3,c3,o4,c4,o5,o6,o7,o8 ++ [(q2.1.1,q2.1.2.1,q2.1.2.2.1,q2.1.2.2.2.1,q2.1.2.2.2.2.1,q2.1.2.2.2.2.2.1,q2.1.2.2.2.2.2.2.1,q2.1.2.2.2.2.2.2.2.1,q2.1.2.2.2.2.2.2.2.2.1,())],c8 + (0 + 1),o9,c9,o10,o11,o12) else none else none) else bif decide (0 < ((List.length o8):Int)) then bif decide (c8 ≤ Int.toNat 0) then bif decide (0 < ((List.length (ix za o8 0).1):Int)) then none else none else bif decide (0 < ((List.length (ix za o8 0).1):Int)) then L1 (((List.length o0.2.1):Int),0,o1_0,o2_0,o3,c3,o4,c4,o5,o6,o7,List.set o8 (Int.toNat 0) (List.set (ix za o8 0).1 (Int.toNat 0) (true,ByteArray.mk #[112,108,97,122,97],(zb zJ).2.2),(ix za o8 0).2),c8,o9,c9,o10,o11,o12) else none else none
abbrev znV (K:Nat):zbz→Option (zm × (Int × Unit)):=zl (fun k0=>zg4 (zg3 K) k0) K
theorem zwt (K:Nat):∀ n,evV Ed8 K Tryz.f37 3 (ch [zt,tI]) [1,1,1,0,1,0] [] zwr n = zl (fun k0=>zg4 (zg3 K) k0) n:=qk (B:=fun L1 k0=>zg4 L1 k0) (V1:=fun n0=>evV Ed8 K Tryz.f37 3 (ch [zt,tI]) [1,1,1,1,1,0,1,0] [] znT K) (W1:=fun k0=>(zg3 K)) (fun n0=>zws K K) fun n0 (v18,v19,v20,o0,o1_0,o2_0,o3,c3,o4,c4,o5,o6,o7,o8,c8,o9,c9,o10,o11,o12)=>by kernel_rfl
def zk5 (L0:zbz→Option (zm × (Int × Unit))):(zw × Unit)→Option (zm × (Int × Unit)):=fun (x0,()) =>
  Option.bind (y3 (x0,())) fun q0=>bif q0.1 then Option.bind (zt4 (x0,())) fun q1=>bif decide (0 ≤ x0.2.2.2.2.2.1) then bif decide (x0.2.2.2.2.2.1 ≤ x0.2.2.2.2.2.1) then bif decide (x0.2.2.2.2.2.1 ≤ (↑lim:Int)) then L0 (x0.2.2.2.2.1,((List.length x0.2.2.2.2.1):Int),0,x0,0,0,[],0,[],0,[],[],[],[],0,q1.1,List.length q1.1,List.replicate (Int.toNat x0.2.2.2.2.2.1) (zb zf),[],[]) else none else none else none else some ((0,[],[],[],[],[],()),1,())
def zk6:(zw × Unit)→Option (zm × Int × Unit):=zk5 (znV K0)
abbrev zrs:Fun:=⟨37,(ch [zB]),(ch [zt,tI]),3,zk6⟩
theorem zy4:Sq zrs:=ml8 (d:=true) (S:=fun K=>zk5 (znV K)) Tryz.func37 (by kernel_rfl) (fun K=>tr1 (T:=zk5) (zwt K K) fun (x0,())=>by kernel_rfl) rfl
def zf8:(qg × Unit)→Option (Bool × Unit):=fun (x0,()) =>
  Option.bind (zjd (x0.1,x0.2.1.2.2.1,())) fun q0=>bif q0.1 then Option.bind (zpZ (x0.2.1.2.2.2.1,())) fun q1=>bif q1.1 then Option.bind (znI (x0.2.1.2.2.2.2.1,())) fun q2=>bif q2.1 then Option.bind (zdp (x0.2.1,zb zI,())) fun q3=>bif q3.1 then Option.bind (zhs (x0.2.1.2.2.2.1,some fun z=>ziH (z.1,some x0,()),())) fun q4=>bif q4.1 then Option.bind (zcN (x0.2.1.2.2.2.2.1,some fun z=>zdJ (z.1,some x0,()),())) fun q5=>bif q5.1 then Option.bind (zam (x0.2.1.2.2.2.2.2.1,some fun z=>yH (z.1,some x0,()),())) fun q6=>bif q6.1 then some (true,()) else some (false,()) else Option.bind (zam (x0.2.1.2.2.2.2.2.1,some fun z=>yH (z.1,some x0,()),())) fun q7=>bif q7.1 then some (false,()) else some (false,()) else Option.bind (zcN (x0.2.1.2.2.2.2.1,some fun z=>zdJ (z.1,some x0,()),())) fun q8=>bif q8.1 then Option.bind (zam (x0.2.1.2.2.2.2.2.1,some fun z=>yH (z.1,some x0,()),())) fun q9=>bif q9.1 then some (false,()) else some (false,()) else Option.bind (zam (x0.2.1.2.2.2.2.2.1,some fun z=>yH (z.1,some x0,()),())) fun q10=>bif q10.1 then some (false,()) else some (false,()) else some (false,()) else some (false,()) else some (false,()) else some (false,())
abbrev zmm:Fun:=⟨73,(ch [zW]),(ch [.bool]),0,zf8⟩
theorem zvg:Sq zmm:=ms8 (d:=false) (K:=0) Tryz.func73 (by kernel_rfl) (funext fun (x0,())=>by kernel_rfl)
abbrev yQ:Type:=Int × (List z4) × Int × Int × zw × List Int
abbrev zsw:yQ→St:=fun (v1,v14,v15,v16,o0,o1)=>St.mk [(1,.dat tI v1),(2,.bp 0 []),(5,.ow 1),(14,.dat (.sl qS) v14),(15,.dat tI v15),(16,.dat tI v16)] [.bx (.dat zB o0) false,.row tI o1 false]
def zje (k0:yQ→Option ((List Int) × Unit)):yQ→Option ((List Int) × Unit):=fun (v1,v14,v15,v16,o0,o1) =>
  bif decide (v16 < v15) then inR v16 ((List.length v14):Int) (inR v1 ((List.length o0.1):Int) (Option.bind (zhU (ix zcW o0.1 v1,())) fun q1=>Option.bind (zho (q1.1,(ix zae v14 v16).1,())) fun q2=>bif q2.1 then bif decide (List.length o1 + List.length (zj (List.replicate 1 (0:Int)) 0 v16) ≤ lim) then k0 (v1,v14,v15,wI (v16 + 1),o0,o1 ++ zj (List.replicate 1 (0:Int)) 0 v16) else none else k0 (v1,v14,v15,wI (v16 + 1),o0,o1))) else some (o1,())
abbrev zjf (K:Nat):yQ→Option ((List Int) × Unit):=zl zje K
theorem zsx (K:Nat):∀ n,evV Es8 K Tryz.f152 0 (ch [(.sl tI)]) [1,1,1,0,1,0] [] zsw n = zl zje n:=zn fun n0 (v1,v14,v15,v16,o0,o1)=>by kernel_rfl
def zf9 (L0:yQ→Option ((List Int) × Unit)):(zw × (Int × Unit))→Option ((List Int) × Unit):=fun (x0,x1,()) =>
  Option.bind (zkv (x0,x1,())) fun q0=>bif q0.1 then L0 (x1,x0.2.2.2.1,((List.length x0.2.2.2.1):Int),0,x0,[]) else some ([],())
def zmn:(zw × Int × Unit)→Option ((List Int) × Unit):=zf9 (zjf K0)
abbrev zmo:Fun:=⟨152,(ch [zB,tI]),(ch [(.sl tI)]),0,zmn⟩
theorem zvh:Sq zmo:=ml8 (d:=false) (S:=fun K=>zf9 (zjf K)) Tryz.func152 (by kernel_rfl) (fun K=>tr1 (T:=zf9) (zsx K K) fun (x0,x1,())=>by kernel_rfl) rfl
abbrev L9:List Fun:=zrs :: zmm :: zmo :: L8
theorem h9:Sds Tryz.prog E0 L9:=⟨zy4,zvg,zvh,h8⟩
theorem ms9 {d:Bool} {F:Fun} {f:Go.Func} {K:Nat} (hf:Tryz.prog.funcs[F.id]? = some f) (ho:qV f = true) (h:evF (En E0 d L9) K f F.md F.a F.r = F.spec):Sd Tryz.prog E0 F:=mkS h9 hf ho h
theorem ml9 {d:Bool} {F:Fun} {f:Go.Func} {S:Nat→F.a.I→Option F.r.I} (hf:Tryz.prog.funcs[F.id]? = some f) (ho:qV f = true) (h:∀ K,evF (En E0 d L9) K f F.md F.a F.r = S K) (e:S K0 = F.spec):Sd Tryz.prog E0 F:=mkS h9 hf ho ((h K0).trans e)
abbrev Es9:Env:=En E0 false L9
abbrev zau:Type:=Bool × Int × Int × List (Option (Unit→Option (Bool × Unit)))
abbrev zt9:zau→St:=fun (v6,v27,v28,o0)=>St.mk [(6,.dat .bool v6),(26,.ow 0),(27,.dat tI v27),(28,.dat tI v28)] [.row (.fn .unit (.pair .bool .unit)) o0 false]
def zkx (k0:zau→Option (Bool × Unit)):zau→Option (Bool × Unit):=fun (v6,v27,v28,o0) =>
  bif decide (v28 < v27) then inR v28 ((List.length o0):Int) (Option.bind (List.getD o0 (Int.toNat v28) (zb (.fn .unit (.pair .bool .unit)))) fun q0=>Option.bind (q0 ()) fun q1=>bif q1.1 then k0 (true,v27,wI (v28 + 1),o0) else some (false,())) else some (v6,())
abbrev zky (K:Nat):zau→Option (Bool × Unit):=zl zkx K
theorem zua (K:Nat):∀ n,evV Es9 K Tryz.f38 0 (ch [.bool]) [1,0,1,1,1,0,1,0] [] zt9 n = zl zkx n:=zn fun n0 (v6,v27,v28,o0)=>by kernel_rfl
def zg5 (L0:zau→Option (Bool × Unit)):(zw × (zm × Unit))→Option (Bool × Unit):=fun (x0,x1,()) =>
  L0 (true,((List.length (zj (zj (zj (zj (zj (zj (zj (List.replicate 7 (zb (.fn .unit (.pair .bool .unit)))) 0 (some fun z=>zg1 ((x0,x1,(zb zW).2.2),()))) 1 (some fun z=>zg2 ((x0,x1,(zb zW).2.2),()))) 2 (some fun z=>zf8 ((x0,x1,(zb zW).2.2),()))) 3 (some fun z=>zgW ((x0,x1,(zb zW).2.2),()))) 4 (some fun z=>zf5 ((x0,x1,(zb zW).2.2),()))) 5 (some fun z=>zgT ((x0,x1,(zb zW).2.2),()))) 6 (some fun z=>zgZ ((x0,x1,(zb zW).2.2),())))):Int),0,[some fun z=>zg1 ((x0,x1,(zb zW).2.2),()),some fun z=>zg2 ((x0,x1,(zb zW).2.2),()),some fun z=>zf8 ((x0,x1,(zb zW).2.2),()),some fun z=>zgW ((x0,x1,(zb zW).2.2),()),some fun z=>zf5 ((x0,x1,(zb zW).2.2),()),some fun z=>zgT ((x0,x1,(zb zW).2.2),()),some fun z=>zgZ ((x0,x1,(zb zW).2.2),())])
def y4:(zw × zm × Unit)→Option (Bool × Unit):=zg5 (zky K0)
abbrev znW:Fun:=⟨38,(ch [zB,zt]),(ch [.bool]),0,y4⟩
theorem zwu:Sq znW:=ml9 (d:=false) (S:=fun K=>zg5 (zky K)) Tryz.func38 (by kernel_rfl) (fun K=>tr1 (T:=zg5) (zua K K) fun (x0,x1,())=>by kernel_rfl) rfl
def zmp:(zw × ((List (List Int)) × (Int × (Int × Unit))))→Option (Bool × Unit):=fun (x0,x1,x2,x3,()) =>
  Option.bind (zjd (x0,x1,())) fun q0=>bif q0.1 then Option.bind (zpC (x2,((List.length x0.2.2.1):Int),())) fun q1=>bif q1.1 then Option.bind (zpC (x3,((List.length x0.1):Int),())) fun q2=>bif q2.1 then inR x2 ((List.length x0.2.2.1):Int) (inR x3 ((List.length x0.1):Int) (bif decide ((ix zmV x0.2.2.1 x2).2.2.1 ≥ (ix zcW x0.1 x3).1) then Option.bind (zmn (x0,x3,())) fun q3=>Option.bind (qC (q3.1,some fun z=>zix (z.1,some x1,some x2,()),())) fun q4=>bif q4.1 then some (false,()) else some (true,()) else some (false,()))) else some (false,()) else some (false,()) else some (false,())
abbrev zmq:Fun:=⟨87,(ch [zB,(.sl (.sl tI)),tI,tI]),(ch [.bool]),0,zmp⟩
theorem zvi:Sq zmq:=ms9 (d:=false) (K:=0) Tryz.func87 (by kernel_rfl) (funext fun (x0,x1,x2,x3,())=>by kernel_rfl)
abbrev L10:List Fun:=znW :: zmq :: L9
theorem h10:Sds Tryz.prog E0 L10:=⟨zwu,zvi,h9⟩
theorem zDx {d:Bool} {F:Fun} {f:Go.Func} {K:Nat} (hf:Tryz.prog.funcs[F.id]? = some f) (ho:qV f = true) (h:evF (En E0 d L10) K f F.md F.a F.r = F.spec):Sd Tryz.prog E0 F:=mkS h10 hf ho h
def zga:(zw × (zm × (z4 × Unit)))→Option (Bool × Unit):=fun (x0,x1,x2,()) =>
  Option.bind (y4 (x0,x1,())) fun q0=>bif q0.1 then Option.bind (zdp (x1,x2,())) fun q1=>bif q1.1 then some (true,()) else some (false,()) else some (false,())
abbrev zmr:Fun:=⟨39,(ch [zB,zt,zI]),(ch [.bool]),0,zga⟩
theorem zvj:Sq zmr:=zDx (d:=false) (K:=0) Tryz.func39 (by kernel_rfl) (funext fun (x0,x1,x2,())=>by kernel_rfl)
def zna:(zw × (zm × (Int × Unit)))→Option (pMe × (Int × Unit)):=fun (x0,x1,x2,()) =>
  Option.bind (y4 (x0,x1,())) fun q0=>bif q0.1 then bif decide (x2 < 0) then some ((0,0,0,()),1,()) else bif decide (x2 ≥ ((List.length x0.2.1):Int)) then some ((0,0,0,()),1,()) else inR x2 ((List.length x0.2.1):Int) (inR x2 ((List.length x1.2.2.2.2.2.1):Int) (bif ix (0:Int) x1.2.2.2.2.2.1 x2 == -1 then some ((0,0,0,()),10,()) else Option.bind (zmp (x0,x1.2.2.1,ix (0:Int) x1.2.2.2.2.2.1 x2,ix (0:Int) x0.2.1 x2,())) fun q1=>bif q1.1 then some ((x2,ix (0:Int) x0.2.1 x2,ix (0:Int) x1.2.2.2.2.2.1 x2,()),0,()) else some ((0,0,0,()),5,()))) else some ((0,0,0,()),1,())
abbrev zub:Fun:=⟨42,(ch [zB,zt,tI]),(ch [tMe,tI]),0,zna⟩
theorem zAk:Sq zub:=zDx (d:=false) (K:=0) Tryz.func42 (by kernel_rfl) (funext fun (x0,x1,x2,())=>by kernel_rfl)
abbrev L11:List Fun:=zmr :: zub :: L10
theorem h11:Sds Tryz.prog E0 L11:=⟨zvj,zAk,h10⟩
theorem zEj {d:Bool} {F:Fun} {f:Go.Func} {K:Nat} (hf:Tryz.prog.funcs[F.id]? = some f) (ho:qV f = true) (h:evF (En E0 d L11) K f F.md F.a F.r = F.spec):Sd Tryz.prog E0 F:=mkS h11 hf ho h
def qK:Unit→Option (Bool × Unit):=fun () =>
  Option.bind (znl ()) fun q0=>Option.bind (zk6 ((q0.1.1,q0.1.2.1,q0.1.2.2.1,q0.1.2.2.2.1,q0.1.2.2.2.2.1,q0.1.2.2.2.2.2.1,q0.1.2.2.2.2.2.2.1,q0.1.2.2.2.2.2.2.2.1,q0.1.2.2.2.2.2.2.2.2.1,()),())) fun q1=>Option.bind (zk6 (([],[],[],[],[],zb tI,zb tI,zb tI,zb tI,()),())) fun q2=>bif q1.2.1 != 0 then some (false,()) else bif q2.2.1 != 1 then some (false,()) else Option.bind (y4 ((q0.1.1,q0.1.2.1,q0.1.2.2.1,q0.1.2.2.2.1,q0.1.2.2.2.2.1,q0.1.2.2.2.2.2.1,q0.1.2.2.2.2.2.2.1,q0.1.2.2.2.2.2.2.2.1,q0.1.2.2.2.2.2.2.2.2.1,()),(q1.1.1,q1.1.2.1,q1.1.2.2.1,q1.1.2.2.2.1,q1.1.2.2.2.2.1,q1.1.2.2.2.2.2.1,()),())) fun q3=>bif q3.1 then Option.bind (zga ((q0.1.1,q0.1.2.1,q0.1.2.2.1,q0.1.2.2.2.1,q0.1.2.2.2.2.1,q0.1.2.2.2.2.2.1,q0.1.2.2.2.2.2.2.1,q0.1.2.2.2.2.2.2.2.1,q0.1.2.2.2.2.2.2.2.2.1,()),(q1.1.1,q1.1.2.1,q1.1.2.2.1,q1.1.2.2.2.1,q1.1.2.2.2.2.1,q1.1.2.2.2.2.2.1,()),zb zI,())) fun q4=>bif q4.1 then Option.bind (zga ((q0.1.1,q0.1.2.1,q0.1.2.2.1,q0.1.2.2.2.1,q0.1.2.2.2.2.1,q0.1.2.2.2.2.2.1,q0.1.2.2.2.2.2.2.1,q0.1.2.2.2.2.2.2.2.1,q0.1.2.2.2.2.2.2.2.2.1,()),(q1.1.1,q1.1.2.1,q1.1.2.2.1,q1.1.2.2.2.1,q1.1.2.2.2.2.1,q1.1.2.2.2.2.2.1,()),((zb zI).1,1,(zb zI).2.2),())) fun q5=>bif q5.1 then some (false,()) else Option.bind (jx ((q1.1.1,q1.1.2.1,q1.1.2.2.1,q1.1.2.2.2.1,q1.1.2.2.2.2.1,q1.1.2.2.2.2.2.1,()),())) fun q6=>Option.bind (jQ ((q1.1.1,q1.1.2.1,q1.1.2.2.1,q1.1.2.2.2.1,q1.1.2.2.2.2.1,q1.1.2.2.2.2.2.1,()),(q6.1.1,q6.1.2.1,q6.1.2.2.1,q6.1.2.2.2.1,q6.1.2.2.2.2.1,q6.1.2.2.2.2.2.1,()),())) fun q7=>bif q7.1 then bif ((List.length q6.1.2.1):Int) != 3 then some (false,()) else bif ((List.length q6.1.2.2.2.2.2.1):Int) != 3 then some (false,()) else bif decide (1 < ((List.length q6.1.2.1):Int)) then bif decide (List.length q6.1.2.1 ≤ Int.toNat 1) then bif decide (0 < ((List.length (ix za q6.1.2.1 1).2.2.2.2.2.1):Int)) then none else none else bif decide (0 < ((List.length (ix za q6.1.2.1 1).2.2.2.2.2.1):Int)) then bif decide (1 < ((List.length q6.1.2.2.2.2.2.1):Int)) then Option.bind (zjb ((q6.1.1,List.set q6.1.2.1 (Int.toNat 1) ((ix za q6.1.2.1 1).1,(ix za q6.1.2.1 1).2.1,(ix za q6.1.2.1 1).2.2.1,(ix za q6.1.2.1 1).2.2.2.1,(ix za q6.1.2.1 1).2.2.2.2.1,List.set (ix za q6.1.2.1 1).2.2.2.2.2.1 (Int.toNat 0) (List.set (List.getD (ix za q6.1.2.1 1).2.2.2.2.2.1 (Int.toNat 0) (zb (.arr 4 tU))) (Int.toNat 2) 5),(ix za q6.1.2.1 1).2.2.2.2.2.2),q6.1.2.2.1,q6.1.2.2.2.1,q6.1.2.2.2.2.1,List.set q6.1.2.2.2.2.2.1 (Int.toNat 1) 0,()),2,())) fun q8=>Option.bind (zi7 ((q6.1.1,List.set q6.1.2.1 (Int.toNat 1) ((ix za q6.1.2.1 1).1,(ix za q6.1.2.1 1).2.1,(ix za q6.1.2.1 1).2.2.1,(ix za q6.1.2.1 1).2.2.2.1,(ix za q6.1.2.1 1).2.2.2.2.1,List.set (ix za q6.1.2.1 1).2.2.2.2.2.1 (Int.toNat 0) (List.set (List.getD (ix za q6.1.2.1 1).2.2.2.2.2.1 (Int.toNat 0) (zb (.arr 4 tU))) (Int.toNat 2) 5),(ix za q6.1.2.1 1).2.2.2.2.2.2),q6.1.2.2.1,q6.1.2.2.2.1,q6.1.2.2.2.2.1,List.set q6.1.2.2.2.2.2.1 (Int.toNat 1) 0,()),2,())) fun q9=>Option.bind (zna ((q0.1.1,q0.1.2.1,q0.1.2.2.1,q0.1.2.2.2.1,q0.1.2.2.2.2.1,q0.1.2.2.2.2.2.1,q0.1.2.2.2.2.2.2.1,q0.1.2.2.2.2.2.2.2.1,q0.1.2.2.2.2.2.2.2.2.1,()),(q1.1.1,q1.1.2.1,q1.1.2.2.1,q1.1.2.2.2.1,q1.1.2.2.2.2.1,q1.1.2.2.2.2.2.1,()),1,())) fun q10=>bif decide (1 < ((List.length (List.set q6.1.2.1 (Int.toNat 1) ((ix za q6.1.2.1 1).1,(ix za q6.1.2.1 1).2.1,(ix za q6.1.2.1 1).2.2.1,(ix za q6.1.2.1 1).2.2.2.1,(ix za q6.1.2.1 1).2.2.2.2.1,List.set (ix za q6.1.2.1 1).2.2.2.2.2.1 (Int.toNat 0) (List.set (List.getD (ix za q6.1.2.1 1).2.2.2.2.2.1 (Int.toNat 0) (zb (.arr 4 tU))) (Int.toNat 2) 5),(ix za q6.1.2.1 1).2.2.2.2.2.2))):Int)) then Option.bind (zna ((q0.1.1,q0.1.2.1,q0.1.2.2.1,q0.1.2.2.2.1,q0.1.2.2.2.2.1,q0.1.2.2.2.2.2.1,q0.1.2.2.2.2.2.2.1,q0.1.2.2.2.2.2.2.2.1,q0.1.2.2.2.2.2.2.2.2.1,()),(q6.1.1,List.set (List.set q6.1.2.1 (Int.toNat 1) ((ix za q6.1.2.1 1).1,(ix za q6.1.2.1 1).2.1,(ix za q6.1.2.1 1).2.2.1,(ix za q6.1.2.1 1).2.2.2.1,(ix za q6.1.2.1 1).2.2.2.2.1,List.set (ix za q6.1.2.1 1).2.2.2.2.2.1 (Int.toNat 0) (List.set (List.getD (ix za q6.1.2.1 1).2.2.2.2.2.1 (Int.toNat 0) (zb (.arr 4 tU))) (Int.toNat 2) 5),(ix za q6.1.2.1 1).2.2.2.2.2.2)) (Int.toNat 1) ((List.getD (List.set q6.1.2.1 (Int.toNat 1) ((ix za q6.1.2.1 1).1,(ix za q6.1.2.1 1).2.1,(ix za q6.1.2.1 1).2.2.1,(ix za q6.1.2.1 1).2.2.2.1,(ix za q6.1.2.1 1).2.2.2.2.1,List.set (ix za q6.1.2.1 1).2.2.2.2.2.1 (Int.toNat 0) (List.set (List.getD (ix za q6.1.2.1 1).2.2.2.2.2.1 (Int.toNat 0) (zb (.arr 4 tU))) (Int.toNat 2) 5),(ix za q6.1.2.1 1).2.2.2.2.2.2)) (Int.toNat 1) (zb ze)).1,(List.getD (List.set q6.1.2.1 (Int.toNat 1) ((ix za q6.1.2.1 1).1,(ix za q6.1.2.1 1).2.1,(ix za q6.1.2.1 1).2.2.1,(ix za q6.1.2.1 1).2.2.2.1,(ix za q6.1.2.1 1).2.2.2.2.1,List.set (ix za q6.1.2.1 1).2.2.2.2.2.1 (Int.toNat 0) (List.set (List.getD (ix za q6.1.2.1 1).2.2.2.2.2.1 (Int.toNat 0) (zb (.arr 4 tU))) (Int.toNat 2) 5),(ix za q6.1.2.1 1).2.2.2.2.2.2)) (Int.toNat 1) (zb ze)).2.1,(List.getD (List.set q6.1.2.1 (Int.toNat 1) ((ix za q6.1.2.1 1).1,(ix za q6.1.2.1 1).2.1,(ix za q6.1.2.1 1).2.2.1,(ix za q6.1.2.1 1).2.2.2.1,(ix za q6.1.2.1 1).2.2.2.2.1,List.set (ix za q6.1.2.1 1).2.2.2.2.2.1 (Int.toNat 0) (List.set (List.getD (ix za q6.1.2.1 1).2.2.2.2.2.1 (Int.toNat 0) (zb (.arr 4 tU))) (Int.toNat 2) 5),(ix za q6.1.2.1 1).2.2.2.2.2.2)) (Int.toNat 1) (zb ze)).2.2.1,(List.getD (List.set q6.1.2.1 (Int.toNat 1) ((ix za q6.1.2.1 1).1,(ix za q6.1.2.1 1).2.1,(ix za q6.1.2.1 1).2.2.1,(ix za q6.1.2.1 1).2.2.2.1,(ix za q6.1.2.1 1).2.2.2.2.1,List.set (ix za q6.1.2.1 1).2.2.2.2.2.1 (Int.toNat 0) (List.set (List.getD (ix za q6.1.2.1 1).2.2.2.2.2.1 (Int.toNat 0) (zb (.arr 4 tU))) (Int.toNat 2) 5),(ix za q6.1.2.1 1).2.2.2.2.2.2)) (Int.toNat 1) (zb ze)).2.2.2.1,(List.getD (List.set q6.1.2.1 (Int.toNat 1) ((ix za q6.1.2.1 1).1,(ix za q6.1.2.1 1).2.1,(ix za q6.1.2.1 1).2.2.1,(ix za q6.1.2.1 1).2.2.2.1,(ix za q6.1.2.1 1).2.2.2.2.1,List.set (ix za q6.1.2.1 1).2.2.2.2.2.1 (Int.toNat 0) (List.set (List.getD (ix za q6.1.2.1 1).2.2.2.2.2.1 (Int.toNat 0) (zb (.arr 4 tU))) (Int.toNat 2) 5),(ix za q6.1.2.1 1).2.2.2.2.2.2)) (Int.toNat 1) (zb ze)).2.2.2.2.1,(List.getD (List.set q6.1.2.1 (Int.toNat 1) ((ix za q6.1.2.1 1).1,(ix za q6.1.2.1 1).2.1,(ix za q6.1.2.1 1).2.2.1,(ix za q6.1.2.1 1).2.2.2.1,(ix za q6.1.2.1 1).2.2.2.2.1,List.set (ix za q6.1.2.1 1).2.2.2.2.2.1 (Int.toNat 0) (List.set (List.getD (ix za q6.1.2.1 1).2.2.2.2.2.1 (Int.toNat 0) (zb (.arr 4 tU))) (Int.toNat 2) 5),(ix za q6.1.2.1 1).2.2.2.2.2.2)) (Int.toNat 1) (zb ze)).2.2.2.2.2.1,(List.getD (List.set q6.1.2.1 (Int.toNat 1) ((ix za q6.1.2.1 1).1,(ix za q6.1.2.1 1).2.1,(ix za q6.1.2.1 1).2.2.1,(ix za q6.1.2.1 1).2.2.2.1,(ix za q6.1.2.1 1).2.2.2.2.1,List.set (ix za q6.1.2.1 1).2.2.2.2.2.1 (Int.toNat 0) (List.set (List.getD (ix za q6.1.2.1 1).2.2.2.2.2.1 (Int.toNat 0) (zb (.arr 4 tU))) (Int.toNat 2) 5),(ix za q6.1.2.1 1).2.2.2.2.2.2)) (Int.toNat 1) (zb ze)).2.2.2.2.2.2.1,List.set (List.getD (List.set q6.1.2.1 (Int.toNat 1) ((ix za q6.1.2.1 1).1,(ix za q6.1.2.1 1).2.1,(ix za q6.1.2.1 1).2.2.1,(ix za q6.1.2.1 1).2.2.2.1,(ix za q6.1.2.1 1).2.2.2.2.1,List.set (ix za q6.1.2.1 1).2.2.2.2.2.1 (Int.toNat 0) (List.set (List.getD (ix za q6.1.2.1 1).2.2.2.2.2.1 (Int.toNat 0) (zb (.arr 4 tU))) (Int.toNat 2) 5),(ix za q6.1.2.1 1).2.2.2.2.2.2)) (Int.toNat 1) (zb ze)).2.2.2.2.2.2.2.1 (Int.toNat 2) 5,(List.getD (List.set q6.1.2.1 (Int.toNat 1) ((ix za q6.1.2.1 1).1,(ix za q6.1.2.1 1).2.1,(ix za q6.1.2.1 1).2.2.1,(ix za q6.1.2.1 1).2.2.2.1,(ix za q6.1.2.1 1).2.2.2.2.1,List.set (ix za q6.1.2.1 1).2.2.2.2.2.1 (Int.toNat 0) (List.set (List.getD (ix za q6.1.2.1 1).2.2.2.2.2.1 (Int.toNat 0) (zb (.arr 4 tU))) (Int.toNat 2) 5),(ix za q6.1.2.1 1).2.2.2.2.2.2)) (Int.toNat 1) (zb ze)).2.2.2.2.2.2.2.2),q6.1.2.2.1,q6.1.2.2.2.1,q6.1.2.2.2.2.1,List.set q6.1.2.2.2.2.2.1 (Int.toNat 1) 0,()),1,())) fun q11=>Option.bind (jQ ((q1.1.1,q1.1.2.1,q1.1.2.2.1,q1.1.2.2.2.1,q1.1.2.2.2.2.1,q1.1.2.2.2.2.2.1,()),(q6.1.1,List.set (List.set q6.1.2.1 (Int.toNat 1) ((ix za q6.1.2.1 1).1,(ix za q6.1.2.1 1).2.1,(ix za q6.1.2.1 1).2.2.1,(ix za q6.1.2.1 1).2.2.2.1,(ix za q6.1.2.1 1).2.2.2.2.1,List.set (ix za q6.1.2.1 1).2.2.2.2.2.1 (Int.toNat 0) (List.set (List.getD (ix za q6.1.2.1 1).2.2.2.2.2.1 (Int.toNat 0) (zb (.arr 4 tU))) (Int.toNat 2) 5),(ix za q6.1.2.1 1).2.2.2.2.2.2)) (Int.toNat 1) ((List.getD (List.set q6.1.2.1 (Int.toNat 1) ((ix za q6.1.2.1 1).1,(ix za q6.1.2.1 1).2.1,(ix za q6.1.2.1 1).2.2.1,(ix za q6.1.2.1 1).2.2.2.1,(ix za q6.1.2.1 1).2.2.2.2.1,List.set (ix za q6.1.2.1 1).2.2.2.2.2.1 (Int.toNat 0) (List.set (List.getD (ix za q6.1.2.1 1).2.2.2.2.2.1 (Int.toNat 0) (zb (.arr 4 tU))) (Int.toNat 2) 5),(ix za q6.1.2.1 1).2.2.2.2.2.2)) (Int.toNat 1) (zb ze)).1,(List.getD (List.set q6.1.2.1 (Int.toNat 1) ((ix za q6.1.2.1 1).1,(ix za q6.1.2.1 1).2.1,(ix za q6.1.2.1 1).2.2.1,(ix za q6.1.2.1 1).2.2.2.1,(ix za q6.1.2.1 1).2.2.2.2.1,List.set (ix za q6.1.2.1 1).2.2.2.2.2.1 (Int.toNat 0) (List.set (List.getD (ix za q6.1.2.1 1).2.2.2.2.2.1 (Int.toNat 0) (zb (.arr 4 tU))) (Int.toNat 2) 5),(ix za q6.1.2.1 1).2.2.2.2.2.2)) (Int.toNat 1) (zb ze)).2.1,(List.getD (List.set q6.1.2.1 (Int.toNat 1) ((ix za q6.1.2.1 1).1,(ix za q6.1.2.1 1).2.1,(ix za q6.1.2.1 1).2.2.1,(ix za q6.1.2.1 1).2.2.2.1,(ix za q6.1.2.1 1).2.2.2.2.1,List.set (ix za q6.1.2.1 1).2.2.2.2.2.1 (Int.toNat 0) (List.set (List.getD (ix za q6.1.2.1 1).2.2.2.2.2.1 (Int.toNat 0) (zb (.arr 4 tU))) (Int.toNat 2) 5),(ix za q6.1.2.1 1).2.2.2.2.2.2)) (Int.toNat 1) (zb ze)).2.2.1,(List.getD (List.set q6.1.2.1 (Int.toNat 1) ((ix za q6.1.2.1 1).1,(ix za q6.1.2.1 1).2.1,(ix za q6.1.2.1 1).2.2.1,(ix za q6.1.2.1 1).2.2.2.1,(ix za q6.1.2.1 1).2.2.2.2.1,List.set (ix za q6.1.2.1 1).2.2.2.2.2.1 (Int.toNat 0) (List.set (List.getD (ix za q6.1.2.1 1).2.2.2.2.2.1 (Int.toNat 0) (zb (.arr 4 tU))) (Int.toNat 2) 5),(ix za q6.1.2.1 1).2.2.2.2.2.2)) (Int.toNat 1) (zb ze)).2.2.2.1,(List.getD (List.set q6.1.2.1 (Int.toNat 1) ((ix za q6.1.2.1 1).1,(ix za q6.1.2.1 1).2.1,(ix za q6.1.2.1 1).2.2.1,(ix za q6.1.2.1 1).2.2.2.1,(ix za q6.1.2.1 1).2.2.2.2.1,List.set (ix za q6.1.2.1 1).2.2.2.2.2.1 (Int.toNat 0) (List.set (List.getD (ix za q6.1.2.1 1).2.2.2.2.2.1 (Int.toNat 0) (zb (.arr 4 tU))) (Int.toNat 2) 5),(ix za q6.1.2.1 1).2.2.2.2.2.2)) (Int.toNat 1) (zb ze)).2.2.2.2.1,(List.getD (List.set q6.1.2.1 (Int.toNat 1) ((ix za q6.1.2.1 1).1,(ix za q6.1.2.1 1).2.1,(ix za q6.1.2.1 1).2.2.1,(ix za q6.1.2.1 1).2.2.2.1,(ix za q6.1.2.1 1).2.2.2.2.1,List.set (ix za q6.1.2.1 1).2.2.2.2.2.1 (Int.toNat 0) (List.set (List.getD (ix za q6.1.2.1 1).2.2.2.2.2.1 (Int.toNat 0) (zb (.arr 4 tU))) (Int.toNat 2) 5),(ix za q6.1.2.1 1).2.2.2.2.2.2)) (Int.toNat 1) (zb ze)).2.2.2.2.2.1,(List.getD (List.set q6.1.2.1 (Int.toNat 1) ((ix za q6.1.2.1 1).1,(ix za q6.1.2.1 1).2.1,(ix za q6.1.2.1 1).2.2.1,(ix za q6.1.2.1 1).2.2.2.1,(ix za q6.1.2.1 1).2.2.2.2.1,List.set (ix za q6.1.2.1 1).2.2.2.2.2.1 (Int.toNat 0) (List.set (List.getD (ix za q6.1.2.1 1).2.2.2.2.2.1 (Int.toNat 0) (zb (.arr 4 tU))) (Int.toNat 2) 5),(ix za q6.1.2.1 1).2.2.2.2.2.2)) (Int.toNat 1) (zb ze)).2.2.2.2.2.2.1,List.set (List.getD (List.set q6.1.2.1 (Int.toNat 1) ((ix za q6.1.2.1 1).1,(ix za q6.1.2.1 1).2.1,(ix za q6.1.2.1 1).2.2.1,(ix za q6.1.2.1 1).2.2.2.1,(ix za q6.1.2.1 1).2.2.2.2.1,List.set (ix za q6.1.2.1 1).2.2.2.2.2.1 (Int.toNat 0) (List.set (List.getD (ix za q6.1.2.1 1).2.2.2.2.2.1 (Int.toNat 0) (zb (.arr 4 tU))) (Int.toNat 2) 5),(ix za q6.1.2.1 1).2.2.2.2.2.2)) (Int.toNat 1) (zb ze)).2.2.2.2.2.2.2.1 (Int.toNat 2) 5,(List.getD (List.set q6.1.2.1 (Int.toNat 1) ((ix za q6.1.2.1 1).1,(ix za q6.1.2.1 1).2.1,(ix za q6.1.2.1 1).2.2.1,(ix za q6.1.2.1 1).2.2.2.1,(ix za q6.1.2.1 1).2.2.2.2.1,List.set (ix za q6.1.2.1 1).2.2.2.2.2.1 (Int.toNat 0) (List.set (List.getD (ix za q6.1.2.1 1).2.2.2.2.2.1 (Int.toNat 0) (zb (.arr 4 tU))) (Int.toNat 2) 5),(ix za q6.1.2.1 1).2.2.2.2.2.2)) (Int.toNat 1) (zb ze)).2.2.2.2.2.2.2.2),q6.1.2.2.1,q6.1.2.2.2.1,q6.1.2.2.2.2.1,List.set q6.1.2.2.2.2.2.1 (Int.toNat 1) 0,()),())) fun q12=>bif q12.1 then some (false,()) else bif decide (1 < ((List.length q1.1.2.2.2.2.2.1):Int)) then bif ix (0:Int) q1.1.2.2.2.2.2.1 1 == -1 then bif decide (1 < ((List.length q1.1.2.1):Int)) then bif decide (List.length q1.1.2.1 ≤ Int.toNat 1) then bif decide (0 < ((List.length (ix za q1.1.2.1 1).2.2.2.2.2.1):Int)) then bif List.getD (List.getD (ix za q1.1.2.1 1).2.2.2.2.2.1 (Int.toNat 0) (zb (.arr 4 tU))) (Int.toNat 2) (0:Int) == 0 then bif q8.1 == 5 then bif q8.2.1 == 0 then bif q9.1 == 0 then bif q9.2.1 == 0 then bif q10.2.1 == 10 then bif q11.2.1 == 0 then bif eqI tMe q11.1 (1,1,(zb tMe).2.2) then Option.bind (y4 ((q0.1.1,q0.1.2.1,q0.1.2.2.1,q0.1.2.2.2.1,q0.1.2.2.2.2.1,q0.1.2.2.2.2.2.1,q0.1.2.2.2.2.2.2.1,q0.1.2.2.2.2.2.2.2.1,q0.1.2.2.2.2.2.2.2.2.1,()),(q6.1.1,List.set (List.set q6.1.2.1 (Int.toNat 1) ((ix za q6.1.2.1 1).1,(ix za q6.1.2.1 1).2.1,(ix za q6.1.2.1 1).2.2.1,(ix za q6.1.2.1 1).2.2.2.1,(ix za q6.1.2.1 1).2.2.2.2.1,List.set (ix za q6.1.2.1 1).2.2.2.2.2.1 (Int.toNat 0) (List.set (List.getD (ix za q6.1.2.1 1).2.2.2.2.2.1 (Int.toNat 0) (zb (.arr 4 tU))) (Int.toNat 2) 5),(ix za q6.1.2.1 1).2.2.2.2.2.2)) (Int.toNat 1) ((List.getD (List.set q6.1.2.1 (Int.toNat 1) ((ix za q6.1.2.1 1).1,(ix za q6.1.2.1 1).2.1,(ix za q6.1.2.1 1).2.2.1,(ix za q6.1.2.1 1).2.2.2.1,(ix za q6.1.2.1 1).2.2.2.2.1,List.set (ix za q6.1.2.1 1).2.2.2.2.2.1 (Int.toNat 0) (List.set (List.getD (ix za q6.1.2.1 1).2.2.2.2.2.1 (Int.toNat 0) (zb (.arr 4 tU))) (Int.toNat 2) 5),(ix za q6.1.2.1 1).2.2.2.2.2.2)) (Int.toNat 1) (zb ze)).1,(List.getD (List.set q6.1.2.1 (Int.toNat 1) ((ix za q6.1.2.1 1).1,(ix za q6.1.2.1 1).2.1,(ix za q6.1.2.1 1).2.2.1,(ix za q6.1.2.1 1).2.2.2.1,(ix za q6.1.2.1 1).2.2.2.2.1,List.set (ix za q6.1.2.1 1).2.2.2.2.2.1 (Int.toNat 0) (List.set (List.getD (ix za q6.1.2.1 1).2.2.2.2.2.1 (Int.toNat 0) (zb (.arr 4 tU))) (Int.toNat 2) 5),(ix za q6.1.2.1 1).2.2.2.2.2.2)) (Int.toNat 1) (zb ze)).2.1,(List.getD (List.set q6.1.2.1 (Int.toNat 1) ((ix za q6.1.2.1 1).1,(ix za q6.1.2.1 1).2.1,(ix za q6.1.2.1 1).2.2.1,(ix za q6.1.2.1 1).2.2.2.1,(ix za q6.1.2.1 1).2.2.2.2.1,List.set (ix za q6.1.2.1 1).2.2.2.2.2.1 (Int.toNat 0) (List.set (List.getD (ix za q6.1.2.1 1).2.2.2.2.2.1 (Int.toNat 0) (zb (.arr 4 tU))) (Int.toNat 2) 5),(ix za q6.1.2.1 1).2.2.2.2.2.2)) (Int.toNat 1) (zb ze)).2.2.1,(List.getD (List.set q6.1.2.1 (Int.toNat 1) ((ix za q6.1.2.1 1).1,(ix za q6.1.2.1 1).2.1,(ix za q6.1.2.1 1).2.2.1,(ix za q6.1.2.1 1).2.2.2.1,(ix za q6.1.2.1 1).2.2.2.2.1,List.set (ix za q6.1.2.1 1).2.2.2.2.2.1 (Int.toNat 0) (List.set (List.getD (ix za q6.1.2.1 1).2.2.2.2.2.1 (Int.toNat 0) (zb (.arr 4 tU))) (Int.toNat 2) 5),(ix za q6.1.2.1 1).2.2.2.2.2.2)) (Int.toNat 1) (zb ze)).2.2.2.1,(List.getD (List.set q6.1.2.1 (Int.toNat 1) ((ix za q6.1.2.1 1).1,(ix za q6.1.2.1 1).2.1,(ix za q6.1.2.1 1).2.2.1,(ix za q6.1.2.1 1).2.2.2.1,(ix za q6.1.2.1 1).2.2.2.2.1,List.set (ix za q6.1.2.1 1).2.2.2.2.2.1 (Int.toNat 0) (List.set (List.getD (ix za q6.1.2.1 1).2.2.2.2.2.1 (Int.toNat 0) (zb (.arr 4 tU))) (Int.toNat 2) 5),(ix za q6.1.2.1 1).2.2.2.2.2.2)) (Int.toNat 1) (zb ze)).2.2.2.2.1,(List.getD (List.set q6.1.2.1 (Int.toNat 1) ((ix za q6.1.2.1 1).1,(ix za q6.1.2.1 1).2.1,(ix za q6.1.2.1 1).2.2.1,(ix za q6.1.2.1 1).2.2.2.1,(ix za q6.1.2.1 1).2.2.2.2.1,List.set (ix za q6.1.2.1 1).2.2.2.2.2.1 (Int.toNat 0) (List.set (List.getD (ix za q6.1.2.1 1).2.2.2.2.2.1 (Int.toNat 0) (zb (.arr 4 tU))) (Int.toNat 2) 5),(ix za q6.1.2.1 1).2.2.2.2.2.2)) (Int.toNat 1) (zb ze)).2.2.2.2.2.1,(List.getD (List.set q6.1.2.1 (Int.toNat 1) ((ix za q6.1.2.1 1).1,(ix za q6.1.2.1 1).2.1,(ix za q6.1.2.1 1).2.2.1,(ix za q6.1.2.1 1).2.2.2.1,(ix za q6.1.2.1 1).2.2.2.2.1,List.set (ix za q6.1.2.1 1).2.2.2.2.2.1 (Int.toNat 0) (List.set (List.getD (ix za q6.1.2.1 1).2.2.2.2.2.1 (Int.toNat 0) (zb (.arr 4 tU))) (Int.toNat 2) 5),(ix za q6.1.2.1 1).2.2.2.2.2.2)) (Int.toNat 1) (zb ze)).2.2.2.2.2.2.1,List.set (List.getD (List.set q6.1.2.1 (Int.toNat 1) ((ix za q6.1.2.1 1).1,(ix za q6.1.2.1 1).2.1,(ix za q6.1.2.1 1).2.2.1,(ix za q6.1.2.1 1).2.2.2.1,(ix za q6.1.2.1 1).2.2.2.2.1,List.set (ix za q6.1.2.1 1).2.2.2.2.2.1 (Int.toNat 0) (List.set (List.getD (ix za q6.1.2.1 1).2.2.2.2.2.1 (Int.toNat 0) (zb (.arr 4 tU))) (Int.toNat 2) 5),(ix za q6.1.2.1 1).2.2.2.2.2.2)) (Int.toNat 1) (zb ze)).2.2.2.2.2.2.2.1 (Int.toNat 2) 5,(List.getD (List.set q6.1.2.1 (Int.toNat 1) ((ix za q6.1.2.1 1).1,(ix za q6.1.2.1 1).2.1,(ix za q6.1.2.1 1).2.2.1,(ix za q6.1.2.1 1).2.2.2.1,(ix za q6.1.2.1 1).2.2.2.2.1,List.set (ix za q6.1.2.1 1).2.2.2.2.2.1 (Int.toNat 0) (List.set (List.getD (ix za q6.1.2.1 1).2.2.2.2.2.1 (Int.toNat 0) (zb (.arr 4 tU))) (Int.toNat 2) 5),(ix za q6.1.2.1 1).2.2.2.2.2.2)) (Int.toNat 1) (zb ze)).2.2.2.2.2.2.2.2),q6.1.2.2.1,q6.1.2.2.2.1,q6.1.2.2.2.2.1,List.set q6.1.2.2.2.2.2.1 (Int.toNat 1) 0,()),())) fun q13=>bif q13.1 then some (true,()) else some (false,()) else some (false,()) else some (false,()) else some (false,()) else some (false,()) else some (false,()) else some (false,()) else some (false,()) else some (false,()) else none else bif decide (0 < ((List.length (ix za q1.1.2.1 1).2.2.2.2.2.1):Int)) then bif List.getD (List.getD (ix za q1.1.2.1 1).2.2.2.2.2.1 (Int.toNat 0) (zb (.arr 4 tU))) (Int.toNat 2) (0:Int) == 0 then bif q8.1 == 5 then bif q8.2.1 == 0 then bif q9.1 == 0 then bif q9.2.1 == 0 then bif q10.2.1 == 10 then bif q11.2.1 == 0 then bif eqI tMe q11.1 (1,1,(zb tMe).2.2) then Option.bind (y4 ((q0.1.1,q0.1.2.1,q0.1.2.2.1,q0.1.2.2.2.1,q0.1.2.2.2.2.1,q0.1.2.2.2.2.2.1,q0.1.2.2.2.2.2.2.1,q0.1.2.2.2.2.2.2.2.1,q0.1.2.2.2.2.2.2.2.2.1,()),(q6.1.1,List.set (List.set q6.1.2.1 (Int.toNat 1) ((ix za q6.1.2.1 1).1,(ix za q6.1.2.1 1).2.1,(ix za q6.1.2.1 1).2.2.1,(ix za q6.1.2.1 1).2.2.2.1,(ix za q6.1.2.1 1).2.2.2.2.1,List.set (ix za q6.1.2.1 1).2.2.2.2.2.1 (Int.toNat 0) (List.set (List.getD (ix za q6.1.2.1 1).2.2.2.2.2.1 (Int.toNat 0) (zb (.arr 4 tU))) (Int.toNat 2) 5),(ix za q6.1.2.1 1).2.2.2.2.2.2)) (Int.toNat 1) ((List.getD (List.set q6.1.2.1 (Int.toNat 1) ((ix za q6.1.2.1 1).1,(ix za q6.1.2.1 1).2.1,(ix za q6.1.2.1 1).2.2.1,(ix za q6.1.2.1 1).2.2.2.1,(ix za q6.1.2.1 1).2.2.2.2.1,List.set (ix za q6.1.2.1 1).2.2.2.2.2.1 (Int.toNat 0) (List.set (List.getD (ix za q6.1.2.1 1).2.2.2.2.2.1 (Int.toNat 0) (zb (.arr 4 tU))) (Int.toNat 2) 5),(ix za q6.1.2.1 1).2.2.2.2.2.2)) (Int.toNat 1) (zb ze)).1,(List.getD (List.set q6.1.2.1 (Int.toNat 1) ((ix za q6.1.2.1 1).1,(ix za q6.1.2.1 1).2.1,(ix za q6.1.2.1 1).2.2.1,(ix za q6.1.2.1 1).2.2.2.1,(ix za q6.1.2.1 1).2.2.2.2.1,List.set (ix za q6.1.2.1 1).2.2.2.2.2.1 (Int.toNat 0) (List.set (List.getD (ix za q6.1.2.1 1).2.2.2.2.2.1 (Int.toNat 0) (zb (.arr 4 tU))) (Int.toNat 2) 5),(ix za q6.1.2.1 1).2.2.2.2.2.2)) (Int.toNat 1) (zb ze)).2.1,(List.getD (List.set q6.1.2.1 (Int.toNat 1) ((ix za q6.1.2.1 1).1,(ix za q6.1.2.1 1).2.1,(ix za q6.1.2.1 1).2.2.1,(ix za q6.1.2.1 1).2.2.2.1,(ix za q6.1.2.1 1).2.2.2.2.1,List.set (ix za q6.1.2.1 1).2.2.2.2.2.1 (Int.toNat 0) (List.set (List.getD (ix za q6.1.2.1 1).2.2.2.2.2.1 (Int.toNat 0) (zb (.arr 4 tU))) (Int.toNat 2) 5),(ix za q6.1.2.1 1).2.2.2.2.2.2)) (Int.toNat 1) (zb ze)).2.2.1,(List.getD (List.set q6.1.2.1 (Int.toNat 1) ((ix za q6.1.2.1 1).1,(ix za q6.1.2.1 1).2.1,(ix za q6.1.2.1 1).2.2.1,(ix za q6.1.2.1 1).2.2.2.1,(ix za q6.1.2.1 1).2.2.2.2.1,List.set (ix za q6.1.2.1 1).2.2.2.2.2.1 (Int.toNat 0) (List.set (List.getD (ix za q6.1.2.1 1).2.2.2.2.2.1 (Int.toNat 0) (zb (.arr 4 tU))) (Int.toNat 2) 5),(ix za q6.1.2.1 1).2.2.2.2.2.2)) (Int.toNat 1) (zb ze)).2.2.2.1,(List.getD (List.set q6.1.2.1 (Int.toNat 1) ((ix za q6.1.2.1 1).1,(ix za q6.1.2.1 1).2.1,(ix za q6.1.2.1 1).2.2.1,(ix za q6.1.2.1 1).2.2.2.1,(ix za q6.1.2.1 1).2.2.2.2.1,List.set (ix za q6.1.2.1 1).2.2.2.2.2.1 (Int.toNat 0) (List.set (List.getD (ix za q6.1.2.1 1).2.2.2.2.2.1 (Int.toNat 0) (zb (.arr 4 tU))) (Int.toNat 2) 5),(ix za q6.1.2.1 1).2.2.2.2.2.2)) (Int.toNat 1) (zb ze)).2.2.2.2.1,(List.getD (List.set q6.1.2.1 (Int.toNat 1) ((ix za q6.1.2.1 1).1,(ix za q6.1.2.1 1).2.1,(ix za q6.1.2.1 1).2.2.1,(ix za q6.1.2.1 1).2.2.2.1,(ix za q6.1.2.1 1).2.2.2.2.1,List.set (ix za q6.1.2.1 1).2.2.2.2.2.1 (Int.toNat 0) (List.set (List.getD (ix za q6.1.2.1 1).2.2.2.2.2.1 (Int.toNat 0) (zb (.arr 4 tU))) (Int.toNat 2) 5),(ix za q6.1.2.1 1).2.2.2.2.2.2)) (Int.toNat 1) (zb ze)).2.2.2.2.2.1,(List.getD (List.set q6.1.2.1 (Int.toNat 1) ((ix za q6.1.2.1 1).1,(ix za q6.1.2.1 1).2.1,(ix za q6.1.2.1 1).2.2.1,(ix za q6.1.2.1 1).2.2.2.1,(ix za q6.1.2.1 1).2.2.2.2.1,List.set (ix za q6.1.2.1 1).2.2.2.2.2.1 (Int.toNat 0) (List.set (List.getD (ix za q6.1.2.1 1).2.2.2.2.2.1 (Int.toNat 0) (zb (.arr 4 tU))) (Int.toNat 2) 5),(ix za q6.1.2.1 1).2.2.2.2.2.2)) (Int.toNat 1) (zb ze)).2.2.2.2.2.2.1,List.set (List.getD (List.set q6.1.2.1 (Int.toNat 1) ((ix za q6.1.2.1 1).1,(ix za q6.1.2.1 1).2.1,(ix za q6.1.2.1 1).2.2.1,(ix za q6.1.2.1 1).2.2.2.1,(ix za q6.1.2.1 1).2.2.2.2.1,List.set (ix za q6.1.2.1 1).2.2.2.2.2.1 (Int.toNat 0) (List.set (List.getD (ix za q6.1.2.1 1).2.2.2.2.2.1 (Int.toNat 0) (zb (.arr 4 tU))) (Int.toNat 2) 5),(ix za q6.1.2.1 1).2.2.2.2.2.2)) (Int.toNat 1) (zb ze)).2.2.2.2.2.2.2.1 (Int.toNat 2) 5,(List.getD (List.set q6.1.2.1 (Int.toNat 1) ((ix za q6.1.2.1 1).1,(ix za q6.1.2.1 1).2.1,(ix za q6.1.2.1 1).2.2.1,(ix za q6.1.2.1 1).2.2.2.1,(ix za q6.1.2.1 1).2.2.2.2.1,List.set (ix za q6.1.2.1 1).2.2.2.2.2.1 (Int.toNat 0) (List.set (List.getD (ix za q6.1.2.1 1).2.2.2.2.2.1 (Int.toNat 0) (zb (.arr 4 tU))) (Int.toNat 2) 5),(ix za q6.1.2.1 1).2.2.2.2.2.2)) (Int.toNat 1) (zb ze)).2.2.2.2.2.2.2.2),q6.1.2.2.1,q6.1.2.2.2.1,q6.1.2.2.2.2.1,List.set q6.1.2.2.2.2.2.1 (Int.toNat 1) 0,()),())) fun q14=>bif q14.1 then some (true,()) else some (false,()) else some (false,()) else some (false,()) else some (false,()) else some (false,()) else some (false,()) else some (false,()) else some (false,()) else some (false,()) else none else none else some (false,()) else none else none else none else none else none else some (false,()) else some (false,()) else some (false,())
abbrev znX:Fun:=⟨8,.unit,(ch [.bool]),0,qK⟩
theorem zwv:Sq znX:=zEj (d:=true) (K:=0) Tryz.func8 (by kernel_rfl) (funext fun ()=>by kernel_rfl)
abbrev L12:List Fun:=znX :: L11
theorem h12:Sds Tryz.prog E0 L12:=⟨zwv,h11⟩
end
end Go.Proofs.YtlklokhlgcfcdaaGreatDoor
end
section
namespace Go.Proofs.YtlklokhlgcfcdaaGreatDoor
open Go.Ev
noncomputable section
theorem zEk {d:Bool} {js:List Nat} {F:Fun} {f:Go.Func} {S:Nat→F.a.I→Option F.r.I} (hf:Tryz.prog.funcs[F.id]? = some f) (ho:qV f = true) (h:∀ K,evF (Ej E0 d js L12) K f F.md F.a F.r = S K) (e:S K0 = F.spec):Sd Tryz.prog E0 F:=zDu h12 hf ho ((h K0).trans e)
abbrev vl:Type:=Int × Int × zm × Int × Int × Nat × Nat × Nat × Nat × Nat × Nat × Nat × (List Int) × (List Int) × List zh × Nat × List (List Int) × Nat × List zo × List zr × List Int × List zh × Nat × List (List Int) × Nat × List zo × List zr × List Int
abbrev zfA:vl→St:=fun (v7,v15,o0,o1_0,o2_0,o3_0,o3_1,o3_2,o3_3,o3_4,o3_5,o3_6,o3_7,o3_8,o4,c4,o5,c5,o6,o7,o8,o9,c9,o10,c10,o11,o12,o13)=>St.mk [(2,.bp 0 []),(5,.bp 1 []),(6,.bp 2 []),(7,.dat tI v7),(8,.bp 3 []),(15,.dat tI v15)] [.bx (.dat zt o0) false,.bx (.fld (.pair tU (.pair (.sl ze) (.pair (.sl (.sl tI)) (.pair (.sl zf) (.pair (.sl zi) (.pair (.sl tI) .unit)))))) [.dat tU o1_0,.ow 4,.ow 5,.ow 6,.ow 7,.ow 8]) false,.bx (.fld (.pair tU (.pair (.sl ze) (.pair (.sl (.sl tI)) (.pair (.sl zf) (.pair (.sl zi) (.pair (.sl tI) .unit)))))) [.dat tU o2_0,.ow 9,.ow 10,.ow 11,.ow 12,.ow 13]) false,.bx (.fld (.pair (.sl zJ) (.pair (.sl zC) (.pair (.sl zA) (.pair (.sl zF) (.pair (.sl zp) (.pair (.sl (.arr 4 tU)) (.pair (.sl qS) (.pair (.arr 4 tU) (.pair (.arr 4 tU) .unit))))))))) [.ds 4 o3_0 [0],.ds 4 o3_1 [1],.ds 4 o3_2 [2],.ds 4 o3_3 [3],.ds 4 o3_4 [4],.ds 4 o3_5 [5],.ds 4 o3_6 [6],.dat (.arr 4 tU) o3_7,.dat (.arr 4 tU) o3_8]) false,.drow ze o4 c4,.drow (.sl tI) o5 c5,.row zf o6 false,.row zi o7 false,.row tI o8 false,.drow ze o9 c9,.drow (.sl tI) o10 c10,.row zf o11 false,.row zi o12 false,.row tI o13 false]
abbrev vm:Type:=Int × Int × zm × Int × Int × List zh × Nat × List (List Int) × Nat × List zo × List zr × List Int × List zh × Nat × List (List Int) × Nat × List zo × List zr × List Int
abbrev zfB:vm→St:=fun (v16,v17,o0,o1_0,o2_0,o3,c3,o4,c4,o5,o6,o7,o8,c8,o9,c9,o10,o11,o12)=>St.mk [(2,.bp 0 []),(5,.bp 1 []),(6,.bp 2 []),(16,.dat tI v16),(17,.dat tI v17)] [.bx (.dat zt o0) false,.bx (.fld (.pair tU (.pair (.sl ze) (.pair (.sl (.sl tI)) (.pair (.sl zf) (.pair (.sl zi) (.pair (.sl tI) .unit)))))) [.dat tU o1_0,.ow 3,.ow 4,.ow 5,.ow 6,.ow 7]) false,.bx (.fld (.pair tU (.pair (.sl ze) (.pair (.sl (.sl tI)) (.pair (.sl zf) (.pair (.sl zi) (.pair (.sl tI) .unit)))))) [.dat tU o2_0,.ow 8,.ow 9,.ow 10,.ow 11,.ow 12]) false,.drow ze o3 c3,.drow (.sl tI) o4 c4,.row zf o5 false,.row zi o6 false,.row tI o7 false,.drow ze o8 c8,.drow (.sl tI) o9 c9,.row zf o10 false,.row zi o11 false,.row tI o12 false]
abbrev jS:Type:=Int × zm × Int × Int × List zh × Nat × List (List Int) × Nat × List zo × List zr × List Int × List zh × Nat × List (List Int) × Nat × List zo × List zr × List Int
abbrev ze0:jS→St:=fun (v20,o0,o1_0,o2_0,o3,c3,o4,c4,o5,o6,o7,o8,c8,o9,c9,o10,o11,o12)=>St.mk [(2,.bp 0 []),(5,.bp 1 []),(6,.bp 2 []),(20,.dat tI v20)] [.bx (.dat zt o0) false,.bx (.fld (.pair tU (.pair (.sl ze) (.pair (.sl (.sl tI)) (.pair (.sl zf) (.pair (.sl zi) (.pair (.sl tI) .unit)))))) [.dat tU o1_0,.ow 3,.ow 4,.ow 5,.ow 6,.ow 7]) false,.bx (.fld (.pair tU (.pair (.sl ze) (.pair (.sl (.sl tI)) (.pair (.sl zf) (.pair (.sl zi) (.pair (.sl tI) .unit)))))) [.dat tU o2_0,.ow 8,.ow 9,.ow 10,.ow 11,.ow 12]) false,.drow ze o3 c3,.drow (.sl tI) o4 c4,.row zf o5 false,.row zi o6 false,.row tI o7 false,.drow ze o8 c8,.drow (.sl tI) o9 c9,.row zf o10 false,.row zi o11 false,.row tI o12 false]
abbrev vn:Type:=Int × Int × zm × Int × Int × Nat × Nat × Nat × Nat × Nat × Nat × Nat × (List Int) × (List Int) × List zh × Nat × List (List Int) × Nat × List zo × List zr × List Int × List zh × Nat × List (List Int) × Nat × List zo × List zr × List Int
abbrev zfC:vn→St:=fun (v7,v14,o0,o1_0,o2_0,o3_0,o3_1,o3_2,o3_3,o3_4,o3_5,o3_6,o3_7,o3_8,o4,c4,o5,c5,o6,o7,o8,o9,c9,o10,c10,o11,o12,o13)=>St.mk [(2,.bp 0 []),(5,.bp 1 []),(6,.bp 2 []),(7,.dat tI v7),(8,.bp 3 []),(14,.dat tI v14)] [.bx (.dat zt o0) false,.bx (.fld (.pair tU (.pair (.sl ze) (.pair (.sl (.sl tI)) (.pair (.sl zf) (.pair (.sl zi) (.pair (.sl tI) .unit)))))) [.dat tU o1_0,.ow 4,.ow 5,.ow 6,.ow 7,.ow 8]) false,.bx (.fld (.pair tU (.pair (.sl ze) (.pair (.sl (.sl tI)) (.pair (.sl zf) (.pair (.sl zi) (.pair (.sl tI) .unit)))))) [.dat tU o2_0,.ow 9,.ow 10,.ow 11,.ow 12,.ow 13]) false,.bx (.fld (.pair (.sl zJ) (.pair (.sl zC) (.pair (.sl zA) (.pair (.sl zF) (.pair (.sl zp) (.pair (.sl (.arr 4 tU)) (.pair (.sl qS) (.pair (.arr 4 tU) (.pair (.arr 4 tU) .unit))))))))) [.ds 4 o3_0 [0],.ds 4 o3_1 [1],.ds 4 o3_2 [2],.ds 4 o3_3 [3],.ds 4 o3_4 [4],.ds 4 o3_5 [5],.ds 4 o3_6 [6],.dat (.arr 4 tU) o3_7,.dat (.arr 4 tU) o3_8]) false,.drow ze o4 c4,.drow (.sl tI) o5 c5,.row zf o6 false,.row zi o7 false,.row tI o8 false,.drow ze o9 c9,.drow (.sl tI) o10 c10,.row zf o11 false,.row zi o12 false,.row tI o13 false]
abbrev jT:Type:=Int × zm × Int × Int × List zh × Nat × List (List Int) × Nat × List zo × List zr × List Int × List zh × Nat × List (List Int) × Nat × List zo × List zr × List Int
abbrev ze1:jT→St:=fun (v19,o0,o1_0,o2_0,o3,c3,o4,c4,o5,o6,o7,o8,c8,o9,c9,o10,o11,o12)=>St.mk [(2,.bp 0 []),(5,.bp 1 []),(6,.bp 2 []),(19,.dat tI v19)] [.bx (.dat zt o0) false,.bx (.fld (.pair tU (.pair (.sl ze) (.pair (.sl (.sl tI)) (.pair (.sl zf) (.pair (.sl zi) (.pair (.sl tI) .unit)))))) [.dat tU o1_0,.ow 3,.ow 4,.ow 5,.ow 6,.ow 7]) false,.bx (.fld (.pair tU (.pair (.sl ze) (.pair (.sl (.sl tI)) (.pair (.sl zf) (.pair (.sl zi) (.pair (.sl tI) .unit)))))) [.dat tU o2_0,.ow 8,.ow 9,.ow 10,.ow 11,.ow 12]) false,.drow ze o3 c3,.drow (.sl tI) o4 c4,.row zf o5 false,.row zi o6 false,.row tI o7 false,.drow ze o8 c8,.drow (.sl tI) o9 c9,.row zf o10 false,.row zi o11 false,.row tI o12 false]
abbrev vo:Type:=Int × Int × zm × Int × Int × Nat × Nat × Nat × Nat × Nat × Nat × Nat × (List Int) × (List Int) × List zh × Nat × List (List Int) × Nat × List zo × List zr × List Int × List zh × Nat × List (List Int) × Nat × List zo × List zr × List Int
abbrev zfD:vo→St:=fun (v7,v13,o0,o1_0,o2_0,o3_0,o3_1,o3_2,o3_3,o3_4,o3_5,o3_6,o3_7,o3_8,o4,c4,o5,c5,o6,o7,o8,o9,c9,o10,c10,o11,o12,o13)=>St.mk [(2,.bp 0 []),(5,.bp 1 []),(6,.bp 2 []),(7,.dat tI v7),(8,.bp 3 []),(13,.dat tI v13)] [.bx (.dat zt o0) false,.bx (.fld (.pair tU (.pair (.sl ze) (.pair (.sl (.sl tI)) (.pair (.sl zf) (.pair (.sl zi) (.pair (.sl tI) .unit)))))) [.dat tU o1_0,.ow 4,.ow 5,.ow 6,.ow 7,.ow 8]) false,.bx (.fld (.pair tU (.pair (.sl ze) (.pair (.sl (.sl tI)) (.pair (.sl zf) (.pair (.sl zi) (.pair (.sl tI) .unit)))))) [.dat tU o2_0,.ow 9,.ow 10,.ow 11,.ow 12,.ow 13]) false,.bx (.fld (.pair (.sl zJ) (.pair (.sl zC) (.pair (.sl zA) (.pair (.sl zF) (.pair (.sl zp) (.pair (.sl (.arr 4 tU)) (.pair (.sl qS) (.pair (.arr 4 tU) (.pair (.arr 4 tU) .unit))))))))) [.ds 4 o3_0 [0],.ds 4 o3_1 [1],.ds 4 o3_2 [2],.ds 4 o3_3 [3],.ds 4 o3_4 [4],.ds 4 o3_5 [5],.ds 4 o3_6 [6],.dat (.arr 4 tU) o3_7,.dat (.arr 4 tU) o3_8]) false,.drow ze o4 c4,.drow (.sl tI) o5 c5,.row zf o6 false,.row zi o7 false,.row tI o8 false,.drow ze o9 c9,.drow (.sl tI) o10 c10,.row zf o11 false,.row zi o12 false,.row tI o13 false]
abbrev jU:Type:=Int × zm × Int × Int × List zh × Nat × List (List Int) × Nat × List zo × List zr × List Int × List zh × Nat × List (List Int) × Nat × List zo × List zr × List Int
abbrev ze2:jU→St:=fun (v18,o0,o1_0,o2_0,o3,c3,o4,c4,o5,o6,o7,o8,c8,o9,c9,o10,o11,o12)=>St.mk [(2,.bp 0 []),(5,.bp 1 []),(6,.bp 2 []),(18,.dat tI v18)] [.bx (.dat zt o0) false,.bx (.fld (.pair tU (.pair (.sl ze) (.pair (.sl (.sl tI)) (.pair (.sl zf) (.pair (.sl zi) (.pair (.sl tI) .unit)))))) [.dat tU o1_0,.ow 3,.ow 4,.ow 5,.ow 6,.ow 7]) false,.bx (.fld (.pair tU (.pair (.sl ze) (.pair (.sl (.sl tI)) (.pair (.sl zf) (.pair (.sl zi) (.pair (.sl tI) .unit)))))) [.dat tU o2_0,.ow 8,.ow 9,.ow 10,.ow 11,.ow 12]) false,.drow ze o3 c3,.drow (.sl tI) o4 c4,.row zf o5 false,.row zi o6 false,.row tI o7 false,.drow ze o8 c8,.drow (.sl tI) o9 c9,.row zf o10 false,.row zi o11 false,.row tI o12 false]
abbrev vp:Type:=Int × Int × zm × Int × Int × Nat × Nat × Nat × Nat × Nat × Nat × Nat × (List Int) × (List Int) × List zh × Nat × List (List Int) × Nat × List zo × List zr × List Int × List zh × Nat × List (List Int) × Nat × List zo × List zr × List Int
abbrev zfE:vp→St:=fun (v7,v12,o0,o1_0,o2_0,o3_0,o3_1,o3_2,o3_3,o3_4,o3_5,o3_6,o3_7,o3_8,o4,c4,o5,c5,o6,o7,o8,o9,c9,o10,c10,o11,o12,o13)=>St.mk [(2,.bp 0 []),(5,.bp 1 []),(6,.bp 2 []),(7,.dat tI v7),(8,.bp 3 []),(12,.dat tI v12)] [.bx (.dat zt o0) false,.bx (.fld (.pair tU (.pair (.sl ze) (.pair (.sl (.sl tI)) (.pair (.sl zf) (.pair (.sl zi) (.pair (.sl tI) .unit)))))) [.dat tU o1_0,.ow 4,.ow 5,.ow 6,.ow 7,.ow 8]) false,.bx (.fld (.pair tU (.pair (.sl ze) (.pair (.sl (.sl tI)) (.pair (.sl zf) (.pair (.sl zi) (.pair (.sl tI) .unit)))))) [.dat tU o2_0,.ow 9,.ow 10,.ow 11,.ow 12,.ow 13]) false,.bx (.fld (.pair (.sl zJ) (.pair (.sl zC) (.pair (.sl zA) (.pair (.sl zF) (.pair (.sl zp) (.pair (.sl (.arr 4 tU)) (.pair (.sl qS) (.pair (.arr 4 tU) (.pair (.arr 4 tU) .unit))))))))) [.ds 4 o3_0 [0],.ds 4 o3_1 [1],.ds 4 o3_2 [2],.ds 4 o3_3 [3],.ds 4 o3_4 [4],.ds 4 o3_5 [5],.ds 4 o3_6 [6],.dat (.arr 4 tU) o3_7,.dat (.arr 4 tU) o3_8]) false,.drow ze o4 c4,.drow (.sl tI) o5 c5,.row zf o6 false,.row zi o7 false,.row tI o8 false,.drow ze o9 c9,.drow (.sl tI) o10 c10,.row zf o11 false,.row zi o12 false,.row tI o13 false]
abbrev qw:Type:=Int × zm × Int × Int × List zh × Nat × List (List Int) × Nat × List zo × List zr × List Int × List zh × Nat × List (List Int) × Nat × List zo × List zr × List Int
abbrev zbM:qw→St:=fun (v16,o0,o1_0,o2_0,o3,c3,o4,c4,o5,o6,o7,o8,c8,o9,c9,o10,o11,o12)=>St.mk [(2,.bp 0 []),(5,.bp 1 []),(6,.bp 2 []),(16,.dat tI v16)] [.bx (.dat zt o0) false,.bx (.fld (.pair tU (.pair (.sl ze) (.pair (.sl (.sl tI)) (.pair (.sl zf) (.pair (.sl zi) (.pair (.sl tI) .unit)))))) [.dat tU o1_0,.ow 3,.ow 4,.ow 5,.ow 6,.ow 7]) false,.bx (.fld (.pair tU (.pair (.sl ze) (.pair (.sl (.sl tI)) (.pair (.sl zf) (.pair (.sl zi) (.pair (.sl tI) .unit)))))) [.dat tU o2_0,.ow 8,.ow 9,.ow 10,.ow 11,.ow 12]) false,.drow ze o3 c3,.drow (.sl tI) o4 c4,.row zf o5 false,.row zi o6 false,.row tI o7 false,.drow ze o8 c8,.drow (.sl tI) o9 c9,.row zf o10 false,.row zi o11 false,.row tI o12 false]
abbrev vq:Type:=Int × Int × zm × Int × Int × Nat × Nat × Nat × Nat × Nat × Nat × Nat × (List Int) × (List Int) × List zh × Nat × List (List Int) × Nat × List zo × List zr × List Int × List zh × Nat × List (List Int) × Nat × List zo × List zr × List Int
abbrev zfF:vq→St:=fun (v7,v11,o0,o1_0,o2_0,o3_0,o3_1,o3_2,o3_3,o3_4,o3_5,o3_6,o3_7,o3_8,o4,c4,o5,c5,o6,o7,o8,o9,c9,o10,c10,o11,o12,o13)=>St.mk [(2,.bp 0 []),(5,.bp 1 []),(6,.bp 2 []),(7,.dat tI v7),(8,.bp 3 []),(11,.dat tI v11)] [.bx (.dat zt o0) false,.bx (.fld (.pair tU (.pair (.sl ze) (.pair (.sl (.sl tI)) (.pair (.sl zf) (.pair (.sl zi) (.pair (.sl tI) .unit)))))) [.dat tU o1_0,.ow 4,.ow 5,.ow 6,.ow 7,.ow 8]) false,.bx (.fld (.pair tU (.pair (.sl ze) (.pair (.sl (.sl tI)) (.pair (.sl zf) (.pair (.sl zi) (.pair (.sl tI) .unit)))))) [.dat tU o2_0,.ow 9,.ow 10,.ow 11,.ow 12,.ow 13]) false,.bx (.fld (.pair (.sl zJ) (.pair (.sl zC) (.pair (.sl zA) (.pair (.sl zF) (.pair (.sl zp) (.pair (.sl (.arr 4 tU)) (.pair (.sl qS) (.pair (.arr 4 tU) (.pair (.arr 4 tU) .unit))))))))) [.ds 4 o3_0 [0],.ds 4 o3_1 [1],.ds 4 o3_2 [2],.ds 4 o3_3 [3],.ds 4 o3_4 [4],.ds 4 o3_5 [5],.ds 4 o3_6 [6],.dat (.arr 4 tU) o3_7,.dat (.arr 4 tU) o3_8]) false,.drow ze o4 c4,.drow (.sl tI) o5 c5,.row zf o6 false,.row zi o7 false,.row tI o8 false,.drow ze o9 c9,.drow (.sl tI) o10 c10,.row zf o11 false,.row zi o12 false,.row tI o13 false]
abbrev vt:Type:=Int × Int × zm × Int × Int × Nat × Nat × Nat × Nat × Nat × Nat × Nat × (List Int) × (List Int) × List zh × Nat × List (List Int) × Nat × List zo × List zr × List Int × List zh × Nat × List (List Int) × Nat × List zo × List zr × List Int
abbrev zfG:vt→St:=fun (v7,v10,o0,o1_0,o2_0,o3_0,o3_1,o3_2,o3_3,o3_4,o3_5,o3_6,o3_7,o3_8,o4,c4,o5,c5,o6,o7,o8,o9,c9,o10,c10,o11,o12,o13)=>St.mk [(2,.bp 0 []),(5,.bp 1 []),(6,.bp 2 []),(7,.dat tI v7),(8,.bp 3 []),(10,.dat tI v10)] [.bx (.dat zt o0) false,.bx (.fld (.pair tU (.pair (.sl ze) (.pair (.sl (.sl tI)) (.pair (.sl zf) (.pair (.sl zi) (.pair (.sl tI) .unit)))))) [.dat tU o1_0,.ow 4,.ow 5,.ow 6,.ow 7,.ow 8]) false,.bx (.fld (.pair tU (.pair (.sl ze) (.pair (.sl (.sl tI)) (.pair (.sl zf) (.pair (.sl zi) (.pair (.sl tI) .unit)))))) [.dat tU o2_0,.ow 9,.ow 10,.ow 11,.ow 12,.ow 13]) false,.bx (.fld (.pair (.sl zJ) (.pair (.sl zC) (.pair (.sl zA) (.pair (.sl zF) (.pair (.sl zp) (.pair (.sl (.arr 4 tU)) (.pair (.sl qS) (.pair (.arr 4 tU) (.pair (.arr 4 tU) .unit))))))))) [.ds 4 o3_0 [0],.ds 4 o3_1 [1],.ds 4 o3_2 [2],.ds 4 o3_3 [3],.ds 4 o3_4 [4],.ds 4 o3_5 [5],.ds 4 o3_6 [6],.dat (.arr 4 tU) o3_7,.dat (.arr 4 tU) o3_8]) false,.drow ze o4 c4,.drow (.sl tI) o5 c5,.row zf o6 false,.row zi o7 false,.row tI o8 false,.drow ze o9 c9,.drow (.sl tI) o10 c10,.row zf o11 false,.row zi o12 false,.row tI o13 false]
abbrev vu:Type:=Int × Int × zm × Int × Int × Nat × Nat × Nat × Nat × Nat × Nat × Nat × (List Int) × (List Int) × List zh × Nat × List (List Int) × Nat × List zo × List zr × List Int × List zh × Nat × List (List Int) × Nat × List zo × List zr × List Int
abbrev zfH:vu→St:=fun (v7,v9,o0,o1_0,o2_0,o3_0,o3_1,o3_2,o3_3,o3_4,o3_5,o3_6,o3_7,o3_8,o4,c4,o5,c5,o6,o7,o8,o9,c9,o10,c10,o11,o12,o13)=>St.mk [(2,.bp 0 []),(5,.bp 1 []),(6,.bp 2 []),(7,.dat tI v7),(8,.bp 3 []),(9,.dat tI v9)] [.bx (.dat zt o0) false,.bx (.fld (.pair tU (.pair (.sl ze) (.pair (.sl (.sl tI)) (.pair (.sl zf) (.pair (.sl zi) (.pair (.sl tI) .unit)))))) [.dat tU o1_0,.ow 4,.ow 5,.ow 6,.ow 7,.ow 8]) false,.bx (.fld (.pair tU (.pair (.sl ze) (.pair (.sl (.sl tI)) (.pair (.sl zf) (.pair (.sl zi) (.pair (.sl tI) .unit)))))) [.dat tU o2_0,.ow 9,.ow 10,.ow 11,.ow 12,.ow 13]) false,.bx (.fld (.pair (.sl zJ) (.pair (.sl zC) (.pair (.sl zA) (.pair (.sl zF) (.pair (.sl zp) (.pair (.sl (.arr 4 tU)) (.pair (.sl qS) (.pair (.arr 4 tU) (.pair (.arr 4 tU) .unit))))))))) [.ds 4 o3_0 [0],.ds 4 o3_1 [1],.ds 4 o3_2 [2],.ds 4 o3_3 [3],.ds 4 o3_4 [4],.ds 4 o3_5 [5],.ds 4 o3_6 [6],.dat (.arr 4 tU) o3_7,.dat (.arr 4 tU) o3_8]) false,.drow ze o4 c4,.drow (.sl tI) o5 c5,.row zf o6 false,.row zi o7 false,.row tI o8 false,.drow ze o9 c9,.drow (.sl tI) o10 c10,.row zf o11 false,.row zi o12 false,.row tI o13 false]
abbrev zz:Type:=Int × zm × Int × Int × List zh × Nat × List (List Int) × Nat × List zo × List zr × List Int × List zh × Nat × List (List Int) × Nat × List zo × List zr × List Int
abbrev zu:zz→St:=fun (v7,o0,o1_0,o2_0,o3,c3,o4,c4,o5,o6,o7,o8,c8,o9,c9,o10,o11,o12)=>St.mk [(2,.bp 0 []),(5,.bp 1 []),(6,.bp 2 []),(7,.dat tI v7)] [.bx (.dat zt o0) false,.bx (.fld (.pair tU (.pair (.sl ze) (.pair (.sl (.sl tI)) (.pair (.sl zf) (.pair (.sl zi) (.pair (.sl tI) .unit)))))) [.dat tU o1_0,.ow 3,.ow 4,.ow 5,.ow 6,.ow 7]) false,.bx (.fld (.pair tU (.pair (.sl ze) (.pair (.sl (.sl tI)) (.pair (.sl zf) (.pair (.sl zi) (.pair (.sl tI) .unit)))))) [.dat tU o2_0,.ow 8,.ow 9,.ow 10,.ow 11,.ow 12]) false,.drow ze o3 c3,.drow (.sl tI) o4 c4,.row zf o5 false,.row zi o6 false,.row tI o7 false,.drow ze o8 c8,.drow (.sl tI) o9 c9,.row zf o10 false,.row zi o11 false,.row tI o12 false]
def vv (k0:zz→Option (Bool × Unit)) (k7:vl→Option (Bool × Unit)):vl→Option (Bool × Unit):=fun (v7,v15,o0,o1_0,o2_0,o3_0,o3_1,o3_2,o3_3,o3_4,o3_5,o3_6,o3_7,o3_8,o4,c4,o5,c5,o6,o7,o8,o9,c9,o10,c10,o11,o12,o13) =>
  bif decide (v15 < ((List.length (List.getD o4 o3_6 (zb ze)).2.2.2.2.2.2.1):Int)) then inR v15 ((List.length (List.getD o4 o3_6 (zb ze)).2.2.2.2.2.2.1):Int) (inR v15 ((List.length (List.getD o4 o3_6 (zb ze)).2.2.2.2.2.2.1):Int) (k7 (v7,wI (v15 + 1),o0,o1_0,o2_0,o3_0,o3_1,o3_2,o3_3,o3_4,o3_5,o3_6,o3_7,o3_8,List.set o4 o3_6 (u6 (List.getD o4 o3_6 (zb ze)) (List.set (List.getD o4 o3_6 (zb ze)).2.2.2.2.2.2.1 (Int.toNat v15) (u1 (List.getD (List.getD o4 o3_6 (zb ze)).2.2.2.2.2.2.1 (Int.toNat v15) (zb zI)) (wI ((List.getD (List.getD o4 o3_6 (zb ze)).2.2.2.2.2.2.1 (Int.toNat v15) (zb zI)).2.1 + 1))))),c4,o5,c5,o6,o7,o8,o9,c9,o10,c10,o11,o12,o13))) else inR v7 ((List.length o4):Int) (inR v7 ((List.length o4):Int) (k0 (wI (v7 + 1),o0,o1_0,o2_0,List.set o4 (Int.toNat v7) (u7 (ix za o4 v7) (List.set (ix za o4 v7).2.2.2.2.2.2.2.1 (Int.toNat 1) (wU (List.getD (ix za o4 v7).2.2.2.2.2.2.2.1 (Int.toNat 1) (0:Int) + 1)))),c4,o5,c5,o6,o7,o8,o9,c9,o10,c10,o11,o12,o13)))
abbrev vw (K:Nat) (k0:zz→Option (Bool × Unit)):vl→Option (Bool × Unit):=zl (fun k7=>vv k0 k7) K
theorem zom (K:Nat) (n0:Nat):∀ n,evV (Ej E0 true [999999] L12) K Tryz.f3 0 (ch [.bool]) [1,1,1,1,0,1,0,0,1,0,0,1,1,1,1,1,1,1,0,1,0] [n0] zfA n = zl (fun k7=>vv (evV (Ej E0 true [999999] L12) K Tryz.f3 0 (ch [.bool]) [1,1,1,1,0,1,0] [] zu n0) k7) n:=zn fun n7 (v7,v15,o0,o1_0,o2_0,o3_0,o3_1,o3_2,o3_3,o3_4,o3_5,o3_6,o3_7,o3_8,o4,c4,o5,c5,o6,o7,o8,o9,c9,o10,c10,o11,o12,o13)=>by kernel_rfl
def vx (k8:qw→Option (Bool × Unit)) (k9:vm→Option (Bool × Unit)):vm→Option (Bool × Unit):=fun (v16,v17,o0,o1_0,o2_0,o3,c3,o4,c4,o5,o6,o7,o8,c8,o9,c9,o10,o11,o12) =>
  inR v16 ((List.length o4):Int) (bif decide (c4 ≤ Int.toNat v16) then none else bif decide (v17 < ((List.length (List.getD o4 (Int.toNat v16) ([]:List Int))):Int)) then inR v16 ((List.length o4):Int) (bif decide (c4 ≤ Int.toNat v16) then none else inR v17 ((List.length (List.getD o4 (Int.toNat v16) ([]:List Int))):Int) (inR v17 ((List.length (List.getD o4 (Int.toNat v16) ([]:List Int))):Int) (k9 (v16,wI (v17 + 1),o0,o1_0,o2_0,o3,c3,List.set o4 (Int.toNat v16) (List.set (List.getD o4 (Int.toNat v16) ([]:List Int)) (Int.toNat v17) (wI (List.getD (List.getD o4 (Int.toNat v16) ([]:List Int)) (Int.toNat v17) (0:Int) + 1))),c4,o5,o6,o7,o8,c8,o9,c9,o10,o11,o12)))) else k8 (wI (v16 + 1),o0,o1_0,o2_0,o3,c3,o4,c4,o5,o6,o7,o8,c8,o9,c9,o10,o11,o12))
abbrev yV (K:Nat) (k8:qw→Option (Bool × Unit)):vm→Option (Bool × Unit):=zl (fun k9=>vx k8 k9) K
theorem zon (K:Nat) (n8:Nat):∀ n,evV (Ej E0 true [999999] L12) K Tryz.f3 0 (ch [.bool]) [1,1,1,1,1,0,1,0,0,1,0,0,1,0] [n8] zfB n = zl (fun k9=>vx (evV (Ej E0 true [999999] L12) K Tryz.f3 0 (ch [.bool]) [1,1,1,1,1,0,1,0] [] zbM n8) k9) n:=zn fun n9 (v16,v17,o0,o1_0,o2_0,o3,c3,o4,c4,o5,o6,o7,o8,c8,o9,c9,o10,o11,o12)=>by kernel_rfl
def jV (k12:jS→Option (Bool × Unit)):jS→Option (Bool × Unit):=fun (v20,o0,o1_0,o2_0,o3,c3,o4,c4,o5,o6,o7,o8,c8,o9,c9,o10,o11,o12) =>
  bif decide (v20 < ((List.length o7):Int)) then inR v20 ((List.length o7):Int) (inR v20 ((List.length o7):Int) (k12 (wI (v20 + 1),o0,o1_0,o2_0,o3,c3,o4,c4,o5,o6,List.set o7 (Int.toNat v20) (wI (ix (0:Int) o7 v20 + 1)),o8,c8,o9,c9,o10,o11,o12))) else Option.bind (qK ()) fun q6=>bif q6.1 then Option.bind (yI (o0,(o2_0,o8,o9,o10,o11,o12,()),())) fun q7=>bif q7.1 then bif ((List.length o0.2.2.2.2.2.1):Int) == 0 then some (true,()) else Option.bind (jQ (o0,(o1_0,o3,o4,o5,o6,o7,()),())) fun q8=>bif q8.1 then some (false,()) else some (true,()) else some (false,()) else some (false,())
abbrev jW (K:Nat):jS→Option (Bool × Unit):=zl jV K
theorem znb (K:Nat):∀ n,evV (Ej E0 true [999999] L12) K Tryz.f3 0 (ch [.bool]) [1,1,1,1,1,1,1,1,0,1,0] [] ze0 n = zl jV n:=zn fun n12 (v20,o0,o1_0,o2_0,o3,c3,o4,c4,o5,o6,o7,o8,c8,o9,c9,o10,o11,o12)=>by kernel_rfl
def qY (L7:vl→Option (Bool × Unit)) (k0:zz→Option (Bool × Unit)) (k6:vn→Option (Bool × Unit)):vn→Option (Bool × Unit):=fun (v7,v14,o0,o1_0,o2_0,o3_0,o3_1,o3_2,o3_3,o3_4,o3_5,o3_6,o3_7,o3_8,o4,c4,o5,c5,o6,o7,o8,o9,c9,o10,c10,o11,o12,o13) =>
  bif decide (v14 < ((List.length (List.getD o4 o3_5 (zb ze)).2.2.2.2.2.1):Int)) then inR v14 ((List.length (List.getD o4 o3_5 (zb ze)).2.2.2.2.2.1):Int) (inR v14 ((List.length (List.getD o4 o3_5 (zb ze)).2.2.2.2.2.1):Int) (k6 (v7,wI (v14 + 1),o0,o1_0,o2_0,o3_0,o3_1,o3_2,o3_3,o3_4,o3_5,o3_6,o3_7,o3_8,List.set o4 o3_5 (u5 (List.getD o4 o3_5 (zb ze)) (List.set (List.getD o4 o3_5 (zb ze)).2.2.2.2.2.1 (Int.toNat v14) (List.set (List.getD (List.getD o4 o3_5 (zb ze)).2.2.2.2.2.1 (Int.toNat v14) (zb (.arr 4 tU))) (Int.toNat 1) (wU (List.getD (List.getD (List.getD o4 o3_5 (zb ze)).2.2.2.2.2.1 (Int.toNat v14) (zb (.arr 4 tU))) (Int.toNat 1) (0:Int) + 1))))),c4,o5,c5,o6,o7,o8,o9,c9,o10,c10,o11,o12,o13))) else L7 (v7,0,o0,o1_0,o2_0,o3_0,o3_1,o3_2,o3_3,o3_4,o3_5,o3_6,o3_7,o3_8,o4,c4,o5,c5,o6,o7,o8,o9,c9,o10,c10,o11,o12,o13)
abbrev vy (K:Nat) (k0:zz→Option (Bool × Unit)):vn→Option (Bool × Unit):=zl (fun k6=>qY (vw K k0) k0 k6) K
theorem zoo (K:Nat) (n0:Nat):∀ n,evV (Ej E0 true [999999] L12) K Tryz.f3 0 (ch [.bool]) [1,1,1,1,0,1,0,0,1,0,0,1,1,1,1,1,1,0,1,0] [n0] zfC n = zl (fun k6=>qY (vw K (evV (Ej E0 true [999999] L12) K Tryz.f3 0 (ch [.bool]) [1,1,1,1,0,1,0] [] zu n0)) (evV (Ej E0 true [999999] L12) K Tryz.f3 0 (ch [.bool]) [1,1,1,1,0,1,0] [] zu n0) k6) n:=qk (B:=fun L7 k6=>qY L7 (evV (Ej E0 true [999999] L12) K Tryz.f3 0 (ch [.bool]) [1,1,1,1,0,1,0] [] zu n0) k6) (V1:=fun n6=>evV (Ej E0 true [999999] L12) K Tryz.f3 0 (ch [.bool]) [1,1,1,1,0,1,0,0,1,0,0,1,1,1,1,1,1,1,0,1,0] [n0] zfA K) (W1:=fun k6=>(vw K (evV (Ej E0 true [999999] L12) K Tryz.f3 0 (ch [.bool]) [1,1,1,1,0,1,0] [] zu n0))) (fun n6=>zom K n0 K) fun n6 (v7,v14,o0,o1_0,o2_0,o3_0,o3_1,o3_2,o3_3,o3_4,o3_5,o3_6,o3_7,o3_8,o4,c4,o5,c5,o6,o7,o8,o9,c9,o10,c10,o11,o12,o13)=>by kernel_rfl
def qP (L12:jS→Option (Bool × Unit)) (k11:jT→Option (Bool × Unit)):jT→Option (Bool × Unit):=fun (v19,o0,o1_0,o2_0,o3,c3,o4,c4,o5,o6,o7,o8,c8,o9,c9,o10,o11,o12) =>
  bif decide (v19 < ((List.length o6):Int)) then inR v19 ((List.length o6):Int) (inR v19 ((List.length o6):Int) (k11 (wI (v19 + 1),o0,o1_0,o2_0,o3,c3,o4,c4,o5,List.set o6 (Int.toNat v19) (u9 (ix zaP o6 v19) (wI ((ix zaP o6 v19).2.2.2.2.2.2.2.2.2.1 + 1))),o7,o8,c8,o9,c9,o10,o11,o12))) else L12 (0,o0,o1_0,o2_0,o3,c3,o4,c4,o5,o6,o7,o8,c8,o9,c9,o10,o11,o12)
abbrev jX (K:Nat):jT→Option (Bool × Unit):=zl (fun k11=>qP (jW K) k11) K
theorem znc (K:Nat):∀ n,evV (Ej E0 true [999999] L12) K Tryz.f3 0 (ch [.bool]) [1,1,1,1,1,1,1,0,1,0] [] ze1 n = zl (fun k11=>qP (jW K) k11) n:=qk (B:=fun L12 k11=>qP L12 k11) (V1:=fun n11=>evV (Ej E0 true [999999] L12) K Tryz.f3 0 (ch [.bool]) [1,1,1,1,1,1,1,1,0,1,0] [] ze0 K) (W1:=fun k11=>(jW K)) (fun n11=>znb K K) fun n11 (v19,o0,o1_0,o2_0,o3,c3,o4,c4,o5,o6,o7,o8,c8,o9,c9,o10,o11,o12)=>by kernel_rfl
def qZ (L6:vn→Option (Bool × Unit)) (k0:zz→Option (Bool × Unit)) (k5:vo→Option (Bool × Unit)):vo→Option (Bool × Unit):=fun (v7,v13,o0,o1_0,o2_0,o3_0,o3_1,o3_2,o3_3,o3_4,o3_5,o3_6,o3_7,o3_8,o4,c4,o5,c5,o6,o7,o8,o9,c9,o10,c10,o11,o12,o13) =>
  bif decide (v13 < ((List.length (List.getD o4 o3_4 (zb ze)).2.2.2.2.1):Int)) then inR v13 ((List.length (List.getD o4 o3_4 (zb ze)).2.2.2.2.1):Int) (inR v13 ((List.length (List.getD o4 o3_4 (zb ze)).2.2.2.2.1):Int) (k5 (v7,wI (v13 + 1),o0,o1_0,o2_0,o3_0,o3_1,o3_2,o3_3,o3_4,o3_5,o3_6,o3_7,o3_8,List.set o4 o3_4 (u4 (List.getD o4 o3_4 (zb ze)) (List.set (List.getD o4 o3_4 (zb ze)).2.2.2.2.1 (Int.toNat v13) (u1 (List.getD (List.getD o4 o3_4 (zb ze)).2.2.2.2.1 (Int.toNat v13) (zb zp)) (wI ((List.getD (List.getD o4 o3_4 (zb ze)).2.2.2.2.1 (Int.toNat v13) (zb zp)).2.1 + 1))))),c4,o5,c5,o6,o7,o8,o9,c9,o10,c10,o11,o12,o13))) else L6 (v7,0,o0,o1_0,o2_0,o3_0,o3_1,o3_2,o3_3,o3_4,o3_5,o3_6,o3_7,o3_8,o4,c4,o5,c5,o6,o7,o8,o9,c9,o10,c10,o11,o12,o13)
abbrev vz (K:Nat) (k0:zz→Option (Bool × Unit)):vo→Option (Bool × Unit):=zl (fun k5=>qZ (vy K k0) k0 k5) K
theorem zop (K:Nat) (n0:Nat):∀ n,evV (Ej E0 true [999999] L12) K Tryz.f3 0 (ch [.bool]) [1,1,1,1,0,1,0,0,1,0,0,1,1,1,1,1,0,1,0] [n0] zfD n = zl (fun k5=>qZ (vy K (evV (Ej E0 true [999999] L12) K Tryz.f3 0 (ch [.bool]) [1,1,1,1,0,1,0] [] zu n0)) (evV (Ej E0 true [999999] L12) K Tryz.f3 0 (ch [.bool]) [1,1,1,1,0,1,0] [] zu n0) k5) n:=qk (B:=fun L6 k5=>qZ L6 (evV (Ej E0 true [999999] L12) K Tryz.f3 0 (ch [.bool]) [1,1,1,1,0,1,0] [] zu n0) k5) (V1:=fun n5=>evV (Ej E0 true [999999] L12) K Tryz.f3 0 (ch [.bool]) [1,1,1,1,0,1,0,0,1,0,0,1,1,1,1,1,1,0,1,0] [n0] zfC K) (W1:=fun k5=>(vy K (evV (Ej E0 true [999999] L12) K Tryz.f3 0 (ch [.bool]) [1,1,1,1,0,1,0] [] zu n0))) (fun n5=>zoo K n0 K) fun n5 (v7,v13,o0,o1_0,o2_0,o3_0,o3_1,o3_2,o3_3,o3_4,o3_5,o3_6,o3_7,o3_8,o4,c4,o5,c5,o6,o7,o8,o9,c9,o10,c10,o11,o12,o13)=>by kernel_rfl
def qQ (L11:jT→Option (Bool × Unit)) (k10:jU→Option (Bool × Unit)):jU→Option (Bool × Unit):=fun (v18,o0,o1_0,o2_0,o3,c3,o4,c4,o5,o6,o7,o8,c8,o9,c9,o10,o11,o12) =>
  bif decide (v18 < ((List.length o5):Int)) then inR v18 ((List.length o5):Int) (inR v18 ((List.length o5):Int) (k10 (wI (v18 + 1),o0,o1_0,o2_0,o3,c3,o4,c4,List.set o5 (Int.toNat v18) (u9 (ix qj o5 v18) (wI ((ix qj o5 v18).2.2.2.2.2.2.2.2.2.1 + 1))),o6,o7,o8,c8,o9,c9,o10,o11,o12))) else L11 (0,o0,o1_0,o2_0,o3,c3,o4,c4,o5,o6,o7,o8,c8,o9,c9,o10,o11,o12)
abbrev jY (K:Nat):jU→Option (Bool × Unit):=zl (fun k10=>qQ (jX K) k10) K
theorem znd (K:Nat):∀ n,evV (Ej E0 true [999999] L12) K Tryz.f3 0 (ch [.bool]) [1,1,1,1,1,1,0,1,0] [] ze2 n = zl (fun k10=>qQ (jX K) k10) n:=qk (B:=fun L11 k10=>qQ L11 k10) (V1:=fun n10=>evV (Ej E0 true [999999] L12) K Tryz.f3 0 (ch [.bool]) [1,1,1,1,1,1,1,0,1,0] [] ze1 K) (W1:=fun k10=>(jX K)) (fun n10=>znc K K) fun n10 (v18,o0,o1_0,o2_0,o3,c3,o4,c4,o5,o6,o7,o8,c8,o9,c9,o10,o11,o12)=>by kernel_rfl
def ja (L5:vo→Option (Bool × Unit)) (k0:zz→Option (Bool × Unit)) (k4:vp→Option (Bool × Unit)):vp→Option (Bool × Unit):=fun (v7,v12,o0,o1_0,o2_0,o3_0,o3_1,o3_2,o3_3,o3_4,o3_5,o3_6,o3_7,o3_8,o4,c4,o5,c5,o6,o7,o8,o9,c9,o10,c10,o11,o12,o13) =>
  bif decide (v12 < ((List.length (List.getD o4 o3_3 (zb ze)).2.2.2.1):Int)) then inR v12 ((List.length (List.getD o4 o3_3 (zb ze)).2.2.2.1):Int) (inR v12 ((List.length (List.getD o4 o3_3 (zb ze)).2.2.2.1):Int) (k4 (v7,wI (v12 + 1),o0,o1_0,o2_0,o3_0,o3_1,o3_2,o3_3,o3_4,o3_5,o3_6,o3_7,o3_8,List.set o4 o3_3 (u3 (List.getD o4 o3_3 (zb ze)) (List.set (List.getD o4 o3_3 (zb ze)).2.2.2.1 (Int.toNat v12) (u3 (List.getD (List.getD o4 o3_3 (zb ze)).2.2.2.1 (Int.toNat v12) (zb zF)) (wI ((List.getD (List.getD o4 o3_3 (zb ze)).2.2.2.1 (Int.toNat v12) (zb zF)).2.2.2.1 + 1))))),c4,o5,c5,o6,o7,o8,o9,c9,o10,c10,o11,o12,o13))) else L5 (v7,0,o0,o1_0,o2_0,o3_0,o3_1,o3_2,o3_3,o3_4,o3_5,o3_6,o3_7,o3_8,o4,c4,o5,c5,o6,o7,o8,o9,c9,o10,c10,o11,o12,o13)
abbrev vA (K:Nat) (k0:zz→Option (Bool × Unit)):vp→Option (Bool × Unit):=zl (fun k4=>ja (vz K k0) k0 k4) K
theorem zoq (K:Nat) (n0:Nat):∀ n,evV (Ej E0 true [999999] L12) K Tryz.f3 0 (ch [.bool]) [1,1,1,1,0,1,0,0,1,0,0,1,1,1,1,0,1,0] [n0] zfE n = zl (fun k4=>ja (vz K (evV (Ej E0 true [999999] L12) K Tryz.f3 0 (ch [.bool]) [1,1,1,1,0,1,0] [] zu n0)) (evV (Ej E0 true [999999] L12) K Tryz.f3 0 (ch [.bool]) [1,1,1,1,0,1,0] [] zu n0) k4) n:=qk (B:=fun L5 k4=>ja L5 (evV (Ej E0 true [999999] L12) K Tryz.f3 0 (ch [.bool]) [1,1,1,1,0,1,0] [] zu n0) k4) (V1:=fun n4=>evV (Ej E0 true [999999] L12) K Tryz.f3 0 (ch [.bool]) [1,1,1,1,0,1,0,0,1,0,0,1,1,1,1,1,0,1,0] [n0] zfD K) (W1:=fun k4=>(vz K (evV (Ej E0 true [999999] L12) K Tryz.f3 0 (ch [.bool]) [1,1,1,1,0,1,0] [] zu n0))) (fun n4=>zop K n0 K) fun n4 (v7,v12,o0,o1_0,o2_0,o3_0,o3_1,o3_2,o3_3,o3_4,o3_5,o3_6,o3_7,o3_8,o4,c4,o5,c5,o6,o7,o8,o9,c9,o10,c10,o11,o12,o13)=>by kernel_rfl
def jb (L9:vm→Option (Bool × Unit)) (L10:jU→Option (Bool × Unit)) (k8:qw→Option (Bool × Unit)):qw→Option (Bool × Unit):=fun (v16,o0,o1_0,o2_0,o3,c3,o4,c4,o5,o6,o7,o8,c8,o9,c9,o10,o11,o12) =>
  bif decide (v16 < ((List.length o4):Int)) then L9 (v16,0,o0,o1_0,o2_0,o3,c3,o4,c4,o5,o6,o7,o8,c8,o9,c9,o10,o11,o12) else L10 (0,o0,o1_0,o2_0,o3,c3,o4,c4,o5,o6,o7,o8,c8,o9,c9,o10,o11,o12)
abbrev vB (K:Nat):qw→Option (Bool × Unit):=zl (fun k8=>jb (yV K k8) (jY K) k8) K
theorem zor (K:Nat):∀ n,evV (Ej E0 true [999999] L12) K Tryz.f3 0 (ch [.bool]) [1,1,1,1,1,0,1,0] [] zbM n = zl (fun k8=>jb (yV K k8) (jY K) k8) n:=zvK (B:=fun L9 L10 k8=>jb L9 L10 k8) (V1:=fun n8=>evV (Ej E0 true [999999] L12) K Tryz.f3 0 (ch [.bool]) [1,1,1,1,1,0,1,0,0,1,0,0,1,0] [n8] zfB K) (V2:=fun n8=>evV (Ej E0 true [999999] L12) K Tryz.f3 0 (ch [.bool]) [1,1,1,1,1,1,0,1,0] [] ze2 K) (W1:=fun k8=>(yV K k8)) (W2:=fun k8=>(jY K)) (fun n8=>zon K n8 K) (fun n8=>znd K K) fun n8 (v16,o0,o1_0,o2_0,o3,c3,o4,c4,o5,o6,o7,o8,c8,o9,c9,o10,o11,o12)=>by kernel_rfl
def jc (L4:vp→Option (Bool × Unit)) (k0:zz→Option (Bool × Unit)) (k3:vq→Option (Bool × Unit)):vq→Option (Bool × Unit):=fun (v7,v11,o0,o1_0,o2_0,o3_0,o3_1,o3_2,o3_3,o3_4,o3_5,o3_6,o3_7,o3_8,o4,c4,o5,c5,o6,o7,o8,o9,c9,o10,c10,o11,o12,o13) =>
  bif decide (v11 < ((List.length (List.getD o4 o3_2 (zb ze)).2.2.1):Int)) then inR v11 ((List.length (List.getD o4 o3_2 (zb ze)).2.2.1):Int) (inR v11 ((List.length (List.getD o4 o3_2 (zb ze)).2.2.1):Int) (k3 (v7,wI (v11 + 1),o0,o1_0,o2_0,o3_0,o3_1,o3_2,o3_3,o3_4,o3_5,o3_6,o3_7,o3_8,List.set o4 o3_2 (u2 (List.getD o4 o3_2 (zb ze)) (List.set (List.getD o4 o3_2 (zb ze)).2.2.1 (Int.toNat v11) (u3 (List.getD (List.getD o4 o3_2 (zb ze)).2.2.1 (Int.toNat v11) (zb zA)) (wI ((List.getD (List.getD o4 o3_2 (zb ze)).2.2.1 (Int.toNat v11) (zb zA)).2.2.2.1 + 1))))),c4,o5,c5,o6,o7,o8,o9,c9,o10,c10,o11,o12,o13))) else L4 (v7,0,o0,o1_0,o2_0,o3_0,o3_1,o3_2,o3_3,o3_4,o3_5,o3_6,o3_7,o3_8,o4,c4,o5,c5,o6,o7,o8,o9,c9,o10,c10,o11,o12,o13)
abbrev vC (K:Nat) (k0:zz→Option (Bool × Unit)):vq→Option (Bool × Unit):=zl (fun k3=>jc (vA K k0) k0 k3) K
theorem zos (K:Nat) (n0:Nat):∀ n,evV (Ej E0 true [999999] L12) K Tryz.f3 0 (ch [.bool]) [1,1,1,1,0,1,0,0,1,0,0,1,1,1,0,1,0] [n0] zfF n = zl (fun k3=>jc (vA K (evV (Ej E0 true [999999] L12) K Tryz.f3 0 (ch [.bool]) [1,1,1,1,0,1,0] [] zu n0)) (evV (Ej E0 true [999999] L12) K Tryz.f3 0 (ch [.bool]) [1,1,1,1,0,1,0] [] zu n0) k3) n:=qk (B:=fun L4 k3=>jc L4 (evV (Ej E0 true [999999] L12) K Tryz.f3 0 (ch [.bool]) [1,1,1,1,0,1,0] [] zu n0) k3) (V1:=fun n3=>evV (Ej E0 true [999999] L12) K Tryz.f3 0 (ch [.bool]) [1,1,1,1,0,1,0,0,1,0,0,1,1,1,1,0,1,0] [n0] zfE K) (W1:=fun k3=>(vA K (evV (Ej E0 true [999999] L12) K Tryz.f3 0 (ch [.bool]) [1,1,1,1,0,1,0] [] zu n0))) (fun n3=>zoq K n0 K) fun n3 (v7,v11,o0,o1_0,o2_0,o3_0,o3_1,o3_2,o3_3,o3_4,o3_5,o3_6,o3_7,o3_8,o4,c4,o5,c5,o6,o7,o8,o9,c9,o10,c10,o11,o12,o13)=>by kernel_rfl
def je (L3:vq→Option (Bool × Unit)) (k0:zz→Option (Bool × Unit)) (k2:vt→Option (Bool × Unit)):vt→Option (Bool × Unit):=fun (v7,v10,o0,o1_0,o2_0,o3_0,o3_1,o3_2,o3_3,o3_4,o3_5,o3_6,o3_7,o3_8,o4,c4,o5,c5,o6,o7,o8,o9,c9,o10,c10,o11,o12,o13) =>
  bif decide (v10 < ((List.length (List.getD o4 o3_1 (zb ze)).2.1):Int)) then inR v10 ((List.length (List.getD o4 o3_1 (zb ze)).2.1):Int) (inR v10 ((List.length (List.getD o4 o3_1 (zb ze)).2.1):Int) (k2 (v7,wI (v10 + 1),o0,o1_0,o2_0,o3_0,o3_1,o3_2,o3_3,o3_4,o3_5,o3_6,o3_7,o3_8,List.set o4 o3_1 (u1 (List.getD o4 o3_1 (zb ze)) (List.set (List.getD o4 o3_1 (zb ze)).2.1 (Int.toNat v10) (u3 (List.getD (List.getD o4 o3_1 (zb ze)).2.1 (Int.toNat v10) (zb zC)) (wI ((List.getD (List.getD o4 o3_1 (zb ze)).2.1 (Int.toNat v10) (zb zC)).2.2.2.1 + 1))))),c4,o5,c5,o6,o7,o8,o9,c9,o10,c10,o11,o12,o13))) else L3 (v7,0,o0,o1_0,o2_0,o3_0,o3_1,o3_2,o3_3,o3_4,o3_5,o3_6,o3_7,o3_8,o4,c4,o5,c5,o6,o7,o8,o9,c9,o10,c10,o11,o12,o13)
abbrev vD (K:Nat) (k0:zz→Option (Bool × Unit)):vt→Option (Bool × Unit):=zl (fun k2=>je (vC K k0) k0 k2) K
theorem zot (K:Nat) (n0:Nat):∀ n,evV (Ej E0 true [999999] L12) K Tryz.f3 0 (ch [.bool]) [1,1,1,1,0,1,0,0,1,0,0,1,1,0,1,0] [n0] zfG n = zl (fun k2=>je (vC K (evV (Ej E0 true [999999] L12) K Tryz.f3 0 (ch [.bool]) [1,1,1,1,0,1,0] [] zu n0)) (evV (Ej E0 true [999999] L12) K Tryz.f3 0 (ch [.bool]) [1,1,1,1,0,1,0] [] zu n0) k2) n:=qk (B:=fun L3 k2=>je L3 (evV (Ej E0 true [999999] L12) K Tryz.f3 0 (ch [.bool]) [1,1,1,1,0,1,0] [] zu n0) k2) (V1:=fun n2=>evV (Ej E0 true [999999] L12) K Tryz.f3 0 (ch [.bool]) [1,1,1,1,0,1,0,0,1,0,0,1,1,1,0,1,0] [n0] zfF K) (W1:=fun k2=>(vC K (evV (Ej E0 true [999999] L12) K Tryz.f3 0 (ch [.bool]) [1,1,1,1,0,1,0] [] zu n0))) (fun n2=>zos K n0 K) fun n2 (v7,v10,o0,o1_0,o2_0,o3_0,o3_1,o3_2,o3_3,o3_4,o3_5,o3_6,o3_7,o3_8,o4,c4,o5,c5,o6,o7,o8,o9,c9,o10,c10,o11,o12,o13)=>by kernel_rfl
def jf (L2:vt→Option (Bool × Unit)) (k0:zz→Option (Bool × Unit)) (k1:vu→Option (Bool × Unit)):vu→Option (Bool × Unit):=fun (v7,v9,o0,o1_0,o2_0,o3_0,o3_1,o3_2,o3_3,o3_4,o3_5,o3_6,o3_7,o3_8,o4,c4,o5,c5,o6,o7,o8,o9,c9,o10,c10,o11,o12,o13) =>
  bif decide (v9 < ((List.length (List.getD o4 o3_0 (zb ze)).1):Int)) then inR v9 ((List.length (List.getD o4 o3_0 (zb ze)).1):Int) (bif decide (ByteArray.size (List.getD (List.getD o4 o3_0 (zb ze)).1 (Int.toNat v9) (zb zJ)).2.1 + ByteArray.size (ByteArray.mk #[120]) ≤ 9223372036854775807) then inR v9 ((List.length (List.getD o4 o3_0 (zb ze)).1):Int) (k1 (v7,wI (v9 + 1),o0,o1_0,o2_0,o3_0,o3_1,o3_2,o3_3,o3_4,o3_5,o3_6,o3_7,o3_8,List.set o4 o3_0 (List.set (List.getD o4 o3_0 (zb ze)).1 (Int.toNat v9) (u1 (List.getD (List.getD o4 o3_0 (zb ze)).1 (Int.toNat v9) (zb zJ)) ((List.getD (List.getD o4 o3_0 (zb ze)).1 (Int.toNat v9) (zb zJ)).2.1 ++ ByteArray.mk #[120])),(List.getD o4 o3_0 (zb ze)).2),c4,o5,c5,o6,o7,o8,o9,c9,o10,c10,o11,o12,o13)) else none) else L2 (v7,0,o0,o1_0,o2_0,o3_0,o3_1,o3_2,o3_3,o3_4,o3_5,o3_6,o3_7,o3_8,o4,c4,o5,c5,o6,o7,o8,o9,c9,o10,c10,o11,o12,o13)
abbrev vE (K:Nat) (k0:zz→Option (Bool × Unit)):vu→Option (Bool × Unit):=zl (fun k1=>jf (vD K k0) k0 k1) K
theorem zou (K:Nat) (n0:Nat):∀ n,evV (Ej E0 true [999999] L12) K Tryz.f3 0 (ch [.bool]) [1,1,1,1,0,1,0,0,1,0,0,1,0,1,0] [n0] zfH n = zl (fun k1=>jf (vD K (evV (Ej E0 true [999999] L12) K Tryz.f3 0 (ch [.bool]) [1,1,1,1,0,1,0] [] zu n0)) (evV (Ej E0 true [999999] L12) K Tryz.f3 0 (ch [.bool]) [1,1,1,1,0,1,0] [] zu n0) k1) n:=qk (B:=fun L2 k1=>jf L2 (evV (Ej E0 true [999999] L12) K Tryz.f3 0 (ch [.bool]) [1,1,1,1,0,1,0] [] zu n0) k1) (V1:=fun n1=>evV (Ej E0 true [999999] L12) K Tryz.f3 0 (ch [.bool]) [1,1,1,1,0,1,0,0,1,0,0,1,1,0,1,0] [n0] zfG K) (W1:=fun k1=>(vD K (evV (Ej E0 true [999999] L12) K Tryz.f3 0 (ch [.bool]) [1,1,1,1,0,1,0] [] zu n0))) (fun n1=>zot K n0 K) fun n1 (v7,v9,o0,o1_0,o2_0,o3_0,o3_1,o3_2,o3_3,o3_4,o3_5,o3_6,o3_7,o3_8,o4,c4,o5,c5,o6,o7,o8,o9,c9,o10,c10,o11,o12,o13)=>by kernel_rfl
def jg (L1:vu→Option (Bool × Unit)) (L8:qw→Option (Bool × Unit)) (k0:zz→Option (Bool × Unit)):zz→Option (Bool × Unit):=fun (v7,o0,o1_0,o2_0,o3,c3,o4,c4,o5,o6,o7,o8,c8,o9,c9,o10,o11,o12) =>
  bif decide (v7 < ((List.length o3):Int)) then inR v7 ((List.length o3):Int) (bif decide (c3 ≤ Int.toNat v7) then none else L1 (v7,0,o0,o1_0,o2_0,Int.toNat v7,Int.toNat v7,Int.toNat v7,Int.toNat v7,Int.toNat v7,Int.toNat v7,Int.toNat v7,(ix za o3 v7).2.2.2.2.2.2.2.1,(ix za o3 v7).2.2.2.2.2.2.2.2.1,o3,c3,o4,c4,o5,o6,o7,o8,c8,o9,c9,o10,o11,o12)) else L8 (0,o0,o1_0,o2_0,o3,c3,o4,c4,o5,o6,o7,o8,c8,o9,c9,o10,o11,o12)
abbrev zbN (K:Nat):zz→Option (Bool × Unit):=zl (fun k0=>jg (vE K k0) (vB K) k0) K
theorem zov (K:Nat):∀ n,evV (Ej E0 true [999999] L12) K Tryz.f3 0 (ch [.bool]) [1,1,1,1,0,1,0] [] zu n = zl (fun k0=>jg (vE K k0) (vB K) k0) n:=zvK (B:=fun L1 L8 k0=>jg L1 L8 k0) (V1:=fun n0=>evV (Ej E0 true [999999] L12) K Tryz.f3 0 (ch [.bool]) [1,1,1,1,0,1,0,0,1,0,0,1,0,1,0] [n0] zfH K) (V2:=fun n0=>evV (Ej E0 true [999999] L12) K Tryz.f3 0 (ch [.bool]) [1,1,1,1,1,0,1,0] [] zbM K) (W1:=fun k0=>(vE K k0)) (W2:=fun k0=>(vB K)) (fun n0=>zou K n0 K) (fun n0=>zor K K) fun n0 (v7,o0,o1_0,o2_0,o3,c3,o4,c4,o5,o6,o7,o8,c8,o9,c9,o10,o11,o12)=>by kernel_rfl
def zaI (L0:zz→Option (Bool × Unit)):(zm × (zm × Unit))→Option (Bool × Unit):=fun (x0,x1,()) =>
  Option.bind (jx (x0,())) fun q0=>Option.bind (yI (x0,q0.1,())) fun q1=>bif q1.1 then Option.bind (jQ (x0,x1,())) fun q2=>bif q2.1 then Option.bind (yI (x0,x1,())) fun q3=>bif q3.1 then Option.bind (jQ (x0,q0.1,())) fun q4=>bif q4.1 then Option.bind (jx (q0.1,())) fun q5=>L0 (0,x0,q0.1.1,q5.1.1,q0.1.2.1,List.length q0.1.2.1,q0.1.2.2.1,List.length q0.1.2.2.1,q0.1.2.2.2.1,q0.1.2.2.2.2.1,q0.1.2.2.2.2.2.1,q5.1.2.1,List.length q5.1.2.1,q5.1.2.2.1,List.length q5.1.2.2.1,q5.1.2.2.2.1,q5.1.2.2.2.2.1,q5.1.2.2.2.2.2.1) else some (false,()) else some (false,()) else Option.bind (yI (x0,x1,())) fun q9=>bif q9.1 then some (false,()) else Option.bind (jQ (x0,q0.1,())) fun q10=>bif q10.1 then Option.bind (jx (q0.1,())) fun q11=>L0 (0,x0,q0.1.1,q11.1.1,q0.1.2.1,List.length q0.1.2.1,q0.1.2.2.1,List.length q0.1.2.2.1,q0.1.2.2.2.1,q0.1.2.2.2.2.1,q0.1.2.2.2.2.2.1,q11.1.2.1,List.length q11.1.2.1,q11.1.2.2.1,List.length q11.1.2.2.1,q11.1.2.2.2.1,q11.1.2.2.2.2.1,q11.1.2.2.2.2.2.1) else some (false,()) else some (false,())
def zaJ:(zm × zm × Unit)→Option (Bool × Unit):=zaI (zbN K0)
abbrev zqV:Fun:=⟨3,(ch [zt,zt]),(ch [.bool]),0,zaJ⟩
theorem zqW:Sq zqV:=zEk (d:=true) (js:=[999999]) (S:=fun K=>zaI (zbN K)) Tryz.func3 (by kernel_rfl) (fun K=>tr1 (T:=zaI) (zov K K) fun (x0,x1,())=>by kernel_rfl) rfl
end
end Go.Proofs.YtlklokhlgcfcdaaGreatDoor
end
section
namespace Go.Proofs.YtlklokhlgcfcdaaGreatDoor
open Go.Ev
theorem zrt {a b:List Int} (hl:a.length ≤ Go.maxLen):yw (a,b,()) = some (eqL tI a b,()):=yq (τ:=tI) (B:=zdB) (fun _ _ _ _ _=>rfl) hl
theorem zww {a b:List zo} (hl:a.length ≤ Go.maxLen):zdD (a,b,()) = some (eqL zf a b,()):=yq (τ:=zf) (B:=zb2) (fun _ _ _ _ _=>rfl) hl
theorem zwx {a b:List zr} (hl:a.length ≤ Go.maxLen):zdF (a,b,()) = some (eqL zi a b,()):=yq (τ:=zi) (B:=zb3) (fun _ _ _ _ _=>rfl) hl
theorem zyg {a b:List qr} (hl:a.length ≤ Go.maxLen):zeq (a,b,()) = some (eqL zJ a b,()):=yq (τ:=zJ) (B:=zcH) (fun _ _ _ _ _=>rfl) hl
theorem zyh {a b:List z1} (hl:a.length ≤ Go.maxLen):zes (a,b,()) = some (eqL zC a b,()):=yq (τ:=zC) (B:=zcI) (fun _ _ _ _ _=>rfl) hl
theorem zyi {a b:List z5} (hl:a.length ≤ Go.maxLen):zeu (a,b,()) = some (eqL zA a b,()):=yq (τ:=zA) (B:=zcJ) (fun _ _ _ _ _=>rfl) hl
theorem zyj {a b:List qc} (hl:a.length ≤ Go.maxLen):zew (a,b,()) = some (eqL zF a b,()):=yq (τ:=zF) (B:=zcK) (fun _ _ _ _ _=>rfl) hl
theorem zwy {a b:List zL} (hl:a.length ≤ Go.maxLen):zdz (a,b,()) = some (eqL zp a b,()):=yq (τ:=zp) (B:=zb1) (fun _ _ _ _ _=>rfl) hl
theorem zAl {a b:List (List Int)} (hl:a.length ≤ Go.maxLen):zgQ (a,b,()) = some (eqL (Ty.arr 4 tU) a b,()):=yq (τ:=(Ty.arr 4 tU)) (B:=zex) (fun _ _ _ _ _=>rfl) hl
theorem zy5 {a b:List zcA} (hl:a.length ≤ Go.maxLen):zfS (a,b,()) = some (eqL zI a b,()):=yq (τ:=zI) (B:=zdA) (fun _ _ _ _ _=>rfl) hl
theorem zwz {l:List zo} (hl:l.length * 80 ≤ 140737488355328):zbk (l,()) = some (l,()):=j7 (τ:=zf) hl rfl
theorem zwA {l:List zr} (hl:l.length * 80 ≤ 140737488355328):zdw (l,()) = some (l,()):=j7 (τ:=zi) hl rfl
theorem zru {l:List Int} (hl:l.length * 8 ≤ 140737488355328):zcm (l,()) = some (l,()):=j7 (τ:=tI) hl rfl
theorem zyk {l:List (List Int)} (hl:l.length * 24 ≤ 140737488355328):zej (l,()) = some (l,()):=j7 (τ:=(Ty.sl tI)) hl rfl
theorem zwB {l:List zh} (hl:l.length * 232 ≤ 140737488355328):zdx (l,()) = some (l,()):=j7 (τ:=ze) hl rfl
theorem zyl {l:List qr} (hl:l.length * 24 ≤ 140737488355328):zek (l,()) = some (l,()):=j7 (τ:=zJ) hl rfl
theorem zym {l:List z1} (hl:l.length * 48 ≤ 140737488355328):zel (l,()) = some (l,()):=j7 (τ:=zC) hl rfl
theorem zyn {l:List z5} (hl:l.length * 56 ≤ 140737488355328):zem (l,()) = some (l,()):=j7 (τ:=zA) hl rfl
theorem zyo {l:List qc} (hl:l.length * 48 ≤ 140737488355328):zen (l,()) = some (l,()):=j7 (τ:=zF) hl rfl
theorem zwC {l:List zL} (hl:l.length * 72 ≤ 140737488355328):zbl (l,()) = some (l,()):=j7 (τ:=zp) hl rfl
theorem zAm {l:List (List Int)} (hl:l.length * 32 ≤ 140737488355328):zgO (l,()) = some (l,()):=j7 (τ:=(Ty.arr 4 tU)) hl rfl
theorem zy6 {l:List zcA} (hl:l.length * 16 ≤ 140737488355328):zfQ (l,()) = some (l,()):=j7 (τ:=zI) hl rfl
end Go.Proofs.YtlklokhlgcfcdaaGreatDoor
end
section
namespace Go.Proofs.YtlklokhlgcfcdaaGreatDoor
open Go.Ev
def yR (x a b:Int):Bool:=decide (a ≤ x ∧ x ≤ b)
def zCT (a:zZ):Bool:=yR a.1 0 3
def zAn (x y:Int):Int:=bif decide (x < y) then -1 else bif decide (y < x) then 1 else 0
def orV (a b:Int):Int:=bif a != 0 then a else b
def zB9 (a b:zZ):Int:=orV (zAn a.1 b.1) (zAn a.2.1 b.2.1)
def zCU (l:List zZ):Bool:=yR (l.length:Int) 1 8 && (eqI zG (l.getD 0 (zb zG)) (zb zG) && (l.all zCT && zeg (fun i=>decide (zB9 (l.getD (i - 1) (zb zG)) (l.getD i (zb zG)) < 0)) 1 (l.length - 1)))
end Go.Proofs.YtlklokhlgcfcdaaGreatDoor
end
section
namespace Go.Proofs.YtlklokhlgcfcdaaGreatDoor
open Go.Ev
def small (c:Int):Bool:=decide (97 ≤ c ∧ c ≤ 122)
def zD5 (c:Int):Bool:=decide (48 ≤ c ∧ c ≤ 57)
def chr (s:ByteArray) (i:Nat):Int:=(((s.data.toList).getD i 0).toNat:Int)
def zwK (s:ByteArray):Bool:=decide (1 ≤ s.size) && (decide (s.size ≤ 12) && zeg (fun i=>small (chr s i) || (decide (i ≠ 0) && zD5 (chr s i))) 0 s.size)
def zBo (a:jM):Bool:=zwK a.1 && (zwK a.2.1 && yR a.2.2.1 0 3)
theorem zut {α:Type} (d x:α):zj (List.replicate 1 d) 0 x = [x]:=rfl
def zBp:List ByteArray→Bool
  | []=>true
  | x :: l=>!(l.any fun y=>eqI .str x y) && zBp l
def zBq (l:List jM):Bool:=yR (l.length:Int) 1 8 && (l.all zBo && zBp (l.map (·.1)))
def zDy (r:zw):Bool:=yR (r.2.1.length:Int) 1 8 && r.2.1.all fun i=>decide (0 ≤ i) && decide (i < (r.1.length:Int))
def zD6 (r:zw):Bool:=yR r.2.2.2.2.2.1 0 24 && (yR r.2.2.2.2.2.2.1 0 48 && (yR r.2.2.2.2.2.2.2.1 1 4 && yR r.2.2.2.2.2.2.2.2.1 1 16))
def zCV (q:zcV):Bool:=yR q.1 0 12 && (yR q.2.1 0 12 && (yR q.2.2.1 0 12 && (yR q.2.2.2.1 0 12 && yR q.2.2.2.2.1 0 12)))
def zCu:Int→List zcV→Bool
  | _,[]=>true
  | left,q :: l=>zCV q && (decide (q.2.2.2.2.2.1 ≤ left) && zCu (wU (left - q.2.2.2.2.2.1)) l)
def zCW (n:Nat) (l:List zcV):Bool:=decide (l.length = n) && (decide (0 < l.length) && (decide (1 ≤ (l.getD 0 zad).1) && zCu 4611686018427387904 l))
end Go.Proofs.YtlklokhlgcfcdaaGreatDoor
end
section
namespace Go.Proofs.YtlklokhlgcfcdaaGreatDoor
open Go.Ev
def zEl (b:Int):Int:=((2 ^ b.toNat:Nat):Int)
def zDz (b:Int):Bool:=decide (0 ≤ b) && decide (b < 64)
def zCa (c:Int) (b:Nat):Bool:=c.toNat.testBit b
def zD7 (l:List z4) (c:Int) (i k:Nat):Bool:=(List.range' i k).all fun b=>!zCa c b || l.any fun g=>g.1 == (b:Int)
def zDA (labels:List zZ) (l:List z4):Bool:=labels.all fun a=>zD7 l a.2.1 0 64
def zD8 (b:Int):zZ:=(0,zEl b,())
def zEm (labels:List zZ) (n:Nat) (last:Int) (g:z4):Bool:=zDz g.1 && (decide (last < g.1) && (yR g.2.1 0 ((n:Int) - 1) && labels.any fun y=>eqI zG (zD8 g.1) y))
def zBr (labels:List zZ) (n:Nat):Int→List z4→Bool
  | _,[]=>true
  | last,g :: gs=>zEm labels n last g && zBr labels n g.1 gs
def zCX (labels:List zZ) (n:Nat) (l:List z4):Bool:=decide (l.length ≤ 8) && (zBr labels n (-1) l && zDA labels l)
def zDB (r:zw):Bool:=zCU r.1 && (zDy r && (zBq r.2.2.1 && (zCX r.1 r.2.2.1.length r.2.2.2.1 && (zCW r.1.length r.2.2.2.2.1 && zD6 r))))
end Go.Proofs.YtlklokhlgcfcdaaGreatDoor
end
section
namespace Go.Proofs.YtlklokhlgcfcdaaGreatDoor
open Go.Ev
def ze3 (x:Int):Bool:=decide (0 ≤ x ∧ x ≤ 127)
def zAo (x:zcA):Bool:=ze3 x.1 && ze3 x.2.1
def zD9 (x:Int):Bool:=decide (0 ≤ x ∧ x ≤ 5)
def zDC (s:ByteArray):Bool:=ByteArray.toList s == ByteArray.toList (ByteArray.mk #[])
def zDD (x:qr):Bool:=bif x.1 then zwK x.2.1 else zDC x.2.1
def zDE (x:z1):Bool:=bif x.1 then zAo x.2.1 && (zAo x.2.2.1 && zD9 x.2.2.2.1) else eqI zC x (zb zC)
def zCY (a b:z1):Bool:=a.1 && (eqI zI a.2.1 b.2.1 && (a.2.2.2.1:Int) == b.2.2.2.1)
def zDF (l:List z1):Bool:=zeg (fun i=>zDE (l.getD i zbP) && bif (l.getD i zbP).1 then zeg (fun j=>!zCY (l.getD j zbP) (l.getD i zbP)) 0 i else true) 0 (l.length - 0)
def zCb (k n:Int) (r:zcA):Bool:=((k == 1 || k == 3) && (ze3 n && eqI zI r (zb zI))) || (k == 2 && (n == 0 && zAo r))
def zDG (x:z5):Bool:=bif x.1 then zwK x.2.1 && zCb x.2.2.1 x.2.2.2.1 x.2.2.2.2.1 else eqI zA x (zb zA)
def zDH (c:Int):Bool:=decide (32 ≤ c ∧ c ≤ 126)
def zEa (s:ByteArray):Bool:=decide (1 ≤ s.size ∧ s.size ≤ 40) && ((chr s 0 != 32 && chr s (s.size - 1) != 32) && zeg (fun i=>zDH (chr s i)) 0 s.size)
def zDI (x:qc):Bool:=bif x.1 then (ze3 x.2.1 && (ze3 x.2.2.1 && ze3 x.2.2.2.1)) && zEa x.2.2.2.2.1 else eqI zF x (zb zF)
end Go.Proofs.YtlklokhlgcfcdaaGreatDoor
end
section
namespace Go.Proofs.YtlklokhlgcfcdaaGreatDoor
open Go.Ev
abbrev M62:Int:=4611686018427387904
abbrev U64:Int:=18446744073709551616
def zgI (x:Int):Bool:=decide (0 ≤ x ∧ x ≤ 3)
def zEn (a b:zZ):Bool:=decide (a.1 ≤ b.1) && (List.range' 0 64).all fun i=>!zCa a.2.1 i || zCa b.2.1 i
def zBs (x:zqq):Bool:=zgI x.1 && (decide (x.2.1 ≤ M62) && decide (-1 ≤ x.2.2.1 ∧ x.2.2.1 ≤ 127))
def zCv (x:zqq):Bool:=(x.2.1:Int) == 0 && (x.2.2.1:Int) == -1
def zCc (x:zL):Bool:=(ze3 x.2.1 && (ze3 x.2.2.1 && (x.2.1:Int) != x.2.2.1)) && ((zBs x.2.2.2.1 && zBs x.2.2.2.2.1) && !(zCv x.2.2.2.1 && zCv x.2.2.2.2.1))
def zCZ (x:zL):Prop:=(0 ≤ x.2.2.2.1.2.1 ∧ x.2.2.2.1.2.1 < U64) ∧ (0 ≤ x.2.2.2.2.1.2.1 ∧ x.2.2.2.2.1.2.1 < U64)
def zC0 (x:zL):Bool:=bif x.1 then zCc x else eqI zp x (zb zp)
end Go.Proofs.YtlklokhlgcfcdaaGreatDoor
end
section
namespace Go.Proofs.YtlklokhlgcfcdaaGreatDoor
open Go.Ev
def zEo (x:Int):Bool:=decide (0 ≤ x ∧ x ≤ 2)
def zDJ (r:zw) (i:Nat) (row:List Int):Bool:=decide (row.length = r.2.2.1.length) && (row.all zEo && row.getD (Int.toNat (r.2.2.2.1.getD i zae).2.1) (0:Int) == 2)
def zDK (r:zw) (l:List (List Int)):Bool:=decide (l.length = r.2.2.2.1.length) && zeg (fun i=>zDJ r i (l.getD i [])) 0 (l.length - 0)
theorem ixR {n:Nat} {x:Int} {ρ:Type} {y:Option ρ} (h:0 ≤ x ∧ x < (n:Int)):inR x (n:Int) y = y:=zBi h.1 h.2
def zAp (k a b:Int):Int × Int × Unit:=bif (k != 1 && k != 2) || (a == 0 || b == 0) then (0,1,()) else bif decide (a * b > M62) then (0,7,()) else bif k == 2 then (a,0,()) else (a * b,0,())
def zqs (x:Int):Prop:=0 ≤ x ∧ x < U64
structure zC1 (x:zo):Prop where
  amount:zqs x.2.2.2.2.2.2.1
  price:zqs x.2.2.2.2.2.2.2.1
  held:zqs x.2.2.2.2.2.2.2.2.1
def zCd (x:zo):Bool:=((zAp x.2.2.2.1 x.2.2.2.2.2.2.2.1 x.2.2.2.2.2.2.1).2.1 == 0 && (zAp x.2.2.2.1 x.2.2.2.2.2.2.2.1 x.2.2.2.2.2.2.1).1 == x.2.2.2.2.2.2.2.2.1) && ((ze3 x.2.1 && ze3 x.2.2.1) && ((zgI x.2.2.2.2.1 && zgI x.2.2.2.2.2.1) && ((x.2.2.2.2.1:Int) != x.2.2.2.2.2.1 && decide (0 ≤ x.2.2.2.2.2.2.2.2.2.1))))
def zC2 (x:zo):Bool:=bif x.1 then zCd x else eqI zf x (zb zf)
def zDL (l:List zo):List Int:=(l.filter fun x=>x.1).map fun x=>x.2.2.2.2.2.2.2.2.2.1
def zDM:List Int→List (Int × Int)→Nat
  | [],o=>o.length
  | x :: l,o=>zDM l (zcz tI o x (wI (zdt tI (0:Int) o x + 1)))
def zC3 (l:List zo):Bool:=l.all zC2 && zDM (zDL l) [] == (zDL l).length
structure zC4 (x:zr):Prop where
  amount:zqs x.2.2.2.2.2.2.2.1
  price:zqs x.2.2.2.2.2.2.2.2.1
def zC5 (x:zr):Bool:=(decide (x.1 ≤ M62) && (ze3 x.2.1 && (ze3 x.2.2.1 && (ze3 x.2.2.2.1 && ze3 x.2.2.2.2.2.2.2.2.2.1)))) && bif (x.2.2.2.2.1:Int) == 3 then ((x.2.2.2.2.2.1:Int) == 0 && (x.2.2.2.2.2.2.1:Int) == 0) && ((x.2.2.2.2.2.2.2.1:Int) == 0 && (x.2.2.2.2.2.2.2.2.1:Int) == 0)
  else ((zAp x.2.2.2.2.1 x.2.2.2.2.2.2.2.1 x.2.2.2.2.2.2.2.2.1).2.1 == 0 && (x.2.2.2.2.2.2.2.2.2.1:Int) == 0) && ((x.2.2.2.2.2.1:Int) != x.2.2.2.2.2.2.1 && (zgI x.2.2.2.2.2.1 && zgI x.2.2.2.2.2.2.1))
def zDN (a b:zr):Int:=orV (zAn a.1 b.1) (zAn a.2.1 b.2.1)
def zCe (l:List zr):Bool:=zeg (fun i=>zC5 (l.getD i zaP) && (decide (i = 0) || !decide (zDN (l.getD (i - 1) zaP) (l.getD i zaP) ≥ 0))) 0 (l.length - 0)
end Go.Proofs.YtlklokhlgcfcdaaGreatDoor
end
section
namespace Go.Proofs.YtlklokhlgcfcdaaGreatDoor
open Go.Ev
def zAq (a:List Int):Prop:=∀ x ∈ a,zqs x
structure zC6 (x:zh):Prop where
  trades:∀ t ∈ x.2.2.2.2.1,zCZ t
  purses:∀ a ∈ x.2.2.2.2.2.1,zAq a
  made:zAq x.2.2.2.2.2.2.2.1
  spent:zAq x.2.2.2.2.2.2.2.2.1
structure zEv (s:zm):Prop where
  shelves:∀ x ∈ s.2.1,zC6 x
  orders:∀ x ∈ s.2.2.2.1,zC1 x
  entries:∀ x ∈ s.2.2.2.2.1,zC4 x
def zBt (r:zw) (x:zh) (q:zcV):Bool:=((decide ((x.1.length:Int) = q.1) && decide ((x.2.1.length:Int) = q.2.1)) && (decide ((x.2.2.1.length:Int) = q.2.2.1) && decide ((x.2.2.2.1.length:Int) = q.2.2.2.1))) && (decide ((x.2.2.2.2.1.length:Int) = q.2.2.2.2.1) && (decide (x.2.2.2.2.2.1.length = r.2.2.1.length) && decide (x.2.2.2.2.2.2.1.length = r.2.2.1.length)))
def zDO (r:zw) (s:zm):Bool:=(decide (s.2.1.length = r.1.length) && (decide ((s.2.2.2.1.length:Int) = r.2.2.2.2.2.1) && decide ((s.2.2.2.2.1.length:Int) ≤ r.2.2.2.2.2.2.1))) && ((decide (s.2.2.2.2.2.1.length = r.2.1.length) && decide (s.1 ≤ M62)) && zeg (fun i=>zBt r (s.2.1.getD i za) (r.2.2.2.2.1.getD i zad)) 0 (s.2.1.length - 0))
structure zEw (r:zw) (s:zm):Prop where
  shelves:s.2.1.length = r.1.length
  orders:s.2.2.2.1.length ≤ 24
  entries:s.2.2.2.2.1.length ≤ 48
  people:s.2.2.2.2.2.1.length = r.2.1.length
  shelf:∀ x ∈ s.2.1,x.1.length ≤ 12 ∧ x.2.1.length ≤ 12 ∧ x.2.2.1.length ≤ 12 ∧ x.2.2.2.1.length ≤ 12 ∧ x.2.2.2.2.1.length ≤ 12 ∧ x.2.2.2.2.2.1.length = r.2.2.1.length ∧ x.2.2.2.2.2.2.1.length = r.2.2.1.length
def zAr (x:zh):Bool:=(x.1.all zDD) && (zDF x.2.1 && (x.2.2.1.all zDG && (x.2.2.2.1.all zDI && x.2.2.2.2.1.all zC0)))
def zne (r:zw) (x:Int):Bool:=decide (0 ≤ x ∧ x < (r.2.2.1.length:Int))
def zCf (r:zw) (x:Int):Bool:=decide (0 ≤ x ∧ x < (r.1.length:Int))
def zBu (s:zm) (x:zcA):Bool:=decide (0 ≤ x.1 ∧ x.1 < (s.2.1.length:Int)) && (decide (0 ≤ x.2.1 ∧ x.2.1 < ((s.2.1.getD x.1.toNat za).1.length:Int)) && ((s.2.1.getD x.1.toNat za).1.getD x.2.1.toNat zeh).1)
def zCg (r:zw) (s:zm) (x:zo):Bool:=!x.1 || (zCf r x.2.1 && (zne r x.2.2.1 && decide (x.2.2.2.2.2.2.2.2.2.1 < (s.2.2.2.2.1.length:Int))))
def zCh (r:zw) (s:zm) (x:zr):Bool:=decide (x.2.1 < (r.2.1.length:Int)) && ((x.2.2.1:Int) == r.2.1.getD x.2.1.toNat 0 && (zne r x.2.2.2.1 && decide (x.1 ≤ s.1)))
def zC7 (r:zw) (x:Int):Bool:=x == -1 || zne r x
def zC8 (r:zw) (s:zm):Bool:=zDK r s.2.2.1 && (zC3 s.2.2.2.1 && (zCe s.2.2.2.2.1 && (zBu s (zb zI) && (s.2.2.2.1.all (zCg r s) && (s.2.2.2.2.1.all (zCh r s) && s.2.2.2.2.2.1.all (zC7 r))))))
end Go.Proofs.YtlklokhlgcfcdaaGreatDoor
end
section
namespace Go.Proofs.YtlklokhlgcfcdaaGreatDoor
open Go.Ev
def zDP (r:zw) (a b:Int):Bool:=zCf r a && (zCf r b && zEn (r.1.getD a.toNat zcW) (r.1.getD b.toNat zcW))
def zuc (r:zw) (s:zm) (i:Int) (x:zcA):Bool:=zBu s x && zDP r x.1 i
def zBv (r:zw) (s:zm) (i:Int) (x:z1):Bool:=!x.1 || (zuc r s i x.2.1 && zuc r s i x.2.2.1)
def zBw (r:zw) (s:zm) (i:Int) (x:z5):Bool:=(x.2.2.1:Int) != 2 || zuc r s i x.2.2.2.2.1
def zDQ (r:zw) (s:zm) (i:Int) (x:zh):Bool:=x.2.1.all (zBv r s i) && (x.2.2.1.all (zBw r s i) && x.2.2.2.2.2.2.1.all (zuc r s i))
def zC9 (r:zw) (x:z5):Bool:=(x.2.2.1:Int) != 1 || zne r x.2.2.2.1
def zDa (r:zw) (i:Int) (x:qc):Bool:=!x.1 || (zDP r x.2.1 i && (zne r x.2.2.1 && zne r x.2.2.2.1))
def zCi (r:zw) (x:zL):Bool:=!x.1 || (zne r x.2.1 && zne r x.2.2.1)
def zDb (r:zw) (i:Int) (x:zh):Bool:=x.2.2.1.all (zC9 r) && (x.2.2.2.1.all (zDa r i) && x.2.2.2.2.1.all (zCi r))
def zCj (x:zh) (j:Nat) (t:z5):Bool:=(t.2.2.1:Int) != 3 || (decide (0 ≤ t.2.2.2.1 ∧ t.2.2.2.1 < (x.2.2.2.2.1.length:Int)) && ((x.2.2.2.2.1.getD (Int.toNat t.2.2.2.1) zb0).1 && ((x.2.2.2.2.1.getD (Int.toNat t.2.2.2.1) zb0).2.2.2.1.2.2.1:Int) == (j:Int)))
def zBx (x:zh) (j:Int) (t:zL):Bool:=(decide (t.2.2.2.1.2.2.1 < (x.2.2.1.length:Int)) && decide (t.2.2.2.2.1.2.2.1 < (x.2.2.1.length:Int))) && (decide (t.2.2.2.1.2.2.1 < 0) || (((x.2.2.1.getD (Int.toNat t.2.2.2.1.2.2.1) zcl).2.2.1:Int) == 3 && ((x.2.2.1.getD (Int.toNat t.2.2.2.1.2.2.1) zcl).2.2.2.1:Int) == j))
def zDR (x:zh):Bool:=zeg (fun j=>zCj x j (x.2.2.1.getD j zcl)) 0 (x.2.2.1.length - 0) && zeg (fun j=>!(x.2.2.2.2.1.getD j zb0).1 || zBx x (j:Int) (x.2.2.2.2.1.getD j zb0)) 0 x.2.2.2.2.1.length
end Go.Proofs.YtlklokhlgcfcdaaGreatDoor
end
section
namespace Go.Proofs.YtlklokhlgcfcdaaGreatDoor
open Go.Ev
def zDS (r:zw) (s:zm) (i:Int) (x:zh):Bool:=zDQ r s i x && (zDb r i x && zDR x)
end Go.Proofs.YtlklokhlgcfcdaaGreatDoor
end
section
namespace Go.Proofs.YtlklokhlgcfcdaaGreatDoor
open Go.Ev
def zk7:List Int→Int
  | []=>0
  | x :: l=>x + zk7 l
def zEp (n:Int):Int × Int × Unit:=bif decide (n > M62) then (0,7,()) else (n,0,())
def zDT (x:zo):Int:=bif (x.2.2.2.1:Int) == 2 then x.2.2.2.2.1 else x.2.2.2.2.2.1
def zAs (c:Int) (x:zo):Int:=bif x.1 && zDT x == c then x.2.2.2.2.2.2.2.2.1 else 0
def zAt (c:Int) (x:zL):Int:=bif x.1 && (x.2.2.2.1.1:Int) == c then x.2.2.2.1.2.1 else 0
def zCw (c:Int) (a:List Int):Int:=a.getD c.toNat 0
def zBy (c:Int) (x:zh):Int:=zk7 (x.2.2.2.2.1.map (zAt c)) + zk7 (x.2.2.2.2.2.1.map (zCw c))
def zCx (s:zm) (c:Int):Int × Int × Unit:=bif zgI c then zEp (zk7 (s.2.2.2.1.map (zAs c)) + zk7 (s.2.1.map (zBy c))) else (0,1,())
def wts:List zh→Nat
  | []=>0
  | x :: l=>1 + x.2.2.2.2.2.1.length + wts l
structure zEx (s:zm):Prop where
  shelves:s.2.1.length ≤ 2000000
  orders:s.2.2.2.1.length ≤ 2000000
  shelf:∀ x ∈ s.2.1,x.2.2.2.2.1.length ≤ 2000000 ∧ x.2.2.2.2.2.1.length ≤ 2000000
  all:wts s.2.1 ≤ 2000000
end Go.Proofs.YtlklokhlgcfcdaaGreatDoor
end
section
namespace Go.Proofs.YtlklokhlgcfcdaaGreatDoor
open Go.Ev
def zDU (a b:Int):Int × Int × Unit:=bif decide (a < b) then (0,6,()) else (a - b,0,())
def zAu (f:zh→List Int) (s:zm) (c:Int):Int:=zk7 (s.2.1.map fun x=>zCw c (f x))
def zCy (s:zm) (c:Int):Int × Int × Unit:=bif zgI c then bif decide (zAu (fun x=>x.2.2.2.2.2.2.2.1) s c > M62) then (0,7,()) else bif decide (zAu (fun x=>x.2.2.2.2.2.2.2.2.1) s c > M62) then (0,7,()) else zDU (zAu (fun x=>x.2.2.2.2.2.2.2.1) s c) (zAu (fun x=>x.2.2.2.2.2.2.2.2.1) s c) else (0,1,())
end Go.Proofs.YtlklokhlgcfcdaaGreatDoor
end
section
namespace Go.Proofs.YtlklokhlgcfcdaaGreatDoor
open Go.Ev
def zEb (r:zw) (s:zm) (c i:Nat):Bool:=!decide (((s.2.1.getD i za).2.2.2.2.2.2.2.1.getD c 0:Int) > (r.2.2.2.2.1.getD i zad).2.2.2.2.2.1)
def zDV (s:zm) (c:Int):Bool:=(zCx s c).2.1 == 0 && ((zCy s c).2.1 == 0 && (zCx s c).1 == (zCy s c).1)
def zDW (r:zw) (s:zm):Bool:=zDB r && (zDO r s && (zC8 r s && (zeg (fun i=>(zAr (s.2.1.getD i za) && zDS r s i (s.2.1.getD i za)) && zeg (fun c=>zEb r s c i) 0 (4 - 0)) 0 (s.2.1.length - 0) && zeg (fun c=>zDV s (c:Int)) 0 (4 - 0))))
def zEc (r:zw) (x:pMe):Bool:=decide (0 ≤ x.1 ∧ x.1 < (r.2.1.length:Int)) && ((x.2.1:Int) == r.2.1.getD x.1.toNat 0 && zne r x.2.2.1)
end Go.Proofs.YtlklokhlgcfcdaaGreatDoor
end
section
namespace Go.Proofs.YtlklokhlgcfcdaaGreatDoor
open Go.Ev
def eqW {α:Type} (p:α→α→Bool) (a b:List α):Bool:=decide (a.length = b.length) && (List.zip a b).all fun q=>p q.1 q.2
theorem jZ {α σ:Type} {B:(σ→Option (Bool × Unit))→σ→Option (Bool × Unit)} {a b:List α} (d:α) (p:α→α→Bool) (st:Int→σ) (hl:a.length ≤ Go.maxLen) (hab:a.length = b.length)
    (hin:∀ k (i:Nat),i < a.length→B k (st i) = bif p (a.getD i d) (b.getD i d) then k (st (wI (i + 1))) else some (false,())) {fin:Bool} (hout:∀ k,B k (st a.length) = some (fin,())) :
    zl B K0 (st 0) = some (eqW p a b && fin,()):=by
  have hz:(List.zip a b).length = a.length:=by rw [List.length_zip]; omega
  have hx:∀ i,i < a.length→(List.zip a b).getD i (d,d) = (a.getD i d,b.getD i d):=fun i hi=>zhS a b i hi (by omega)
  have:=zrN (B:=B) (l:=List.zip a b) (d,d) (p:=fun q=>p q.1 q.2) (fin:=some (fin,())) (bad:=some (false,())) st (by rw [hz]; exact hl) (fun k i x hi hx' _=>?_) (fun k=>?_)
  · rw [this]
    unfold eqW
    rw [decide_eq_true hab]
    cases (List.zip a b).all fun q=>p q.1 q.2 <;> rfl
  · rw [hz] at hi
    rw [hx i hi] at hx'
    subst hx'
    exact hin k i hi
  · rw [hz]; exact hout k
theorem zms {α ρ:Type} (a b:List α) (p:α→α→Bool) (x:Option ρ) (y:Option ρ):(bif ((List.length a:Int) != (List.length b:Int)) then y else x) = bif decide (a.length = b.length) then x else y:=by
  rw [zCr]; cases decide (a.length = b.length) <;> rfl
theorem zmt {α:Type} {p:α→α→Bool} {a b:List α} (h:¬ a.length = b.length):eqW p a b = false:=by unfold eqW; rw [decide_eq_false h]; rfl
theorem yr {α:Type} {p:α→α→Bool} {a b:List α} {x:Option (Bool × Unit)} (h:a.length = b.length→x = some (eqW p a b,())):(bif ((List.length a:Int) != (List.length b:Int)) then some (false,()) else x) = some (eqW p a b,()):=by
  rw [zms a b p]
  by_cases hl:a.length = b.length
  · rw [decide_eq_true hl,h hl]; rfl
  · rw [decide_eq_false hl,zmt hl]; rfl
theorem zk8 {p:Bool} {ρ:Type} (x y:ρ):(bif !p then y else x) = bif p then x else y:=by cases p <;> rfl
theorem zDX {ρ:Type} (u v:Int) (x y:ρ):(bif u != v then y else x) = bif u == v then x else y:=by
  show (bif !(u == v) then y else x) = _
  exact zk8 _ _
theorem zyp {a b:List zo} (hl:a.length ≤ Go.maxLen):zh2 (a,b,()) = some (eqL zf a b,()):=yr (p:=eqI zf) fun h=>by
  have:=jZ (B:=zaT) qj (eqI zf) (fun i=>(a,b,i)) hl h (fun k i hi=>by
    simp only [zaT]
    rw [ltT hi,zV hi,zV (by omega),qO,qO,zk8]; rfl) (fin:=true) (fun k=>by simp only [zaT]; rw [ltF]; rfl)
  rw [Bool.and_true] at this; exact this
theorem zyq {a b:List zr} (hl:a.length ≤ Go.maxLen):zh4 (a,b,()) = some (eqL zi a b,()):=yr (p:=eqI zi) fun h=>by
  have:=jZ (B:=zaV) zaP (eqI zi) (fun i=>(a,b,i)) hl h (fun k i hi=>by
    simp only [zaV]
    rw [ltT hi,zV hi,zV (by omega),qO,qO,zk8]; rfl) (fin:=true) (fun k=>by simp only [zaV]; rw [ltF]; rfl)
  rw [Bool.and_true] at this; exact this
theorem zy7 {a b:List qr} (hl:a.length ≤ Go.maxLen):zcE (a,b,()) = some (eqL zJ a b,()):=yr (p:=eqI zJ) fun h=>by
  have:=jZ (B:=vc) zeh (eqI zJ) (fun i=>(a,b,i)) hl h (fun k i hi=>by
    simp only [vc]
    rw [ltT hi,zV hi,zV (by omega),qO,qO,zk8]; rfl) (fin:=true) (fun k=>by simp only [vc]; rw [ltF]; rfl)
  rw [Bool.and_true] at this; exact this
theorem zy8 {a b:List z1} (hl:a.length ≤ Go.maxLen):zcG (a,b,()) = some (eqL zC a b,()):=yr (p:=eqI zC) fun h=>by
  have:=jZ (B:=ve) zbP (eqI zC) (fun i=>(a,b,i)) hl h (fun k i hi=>by
    simp only [ve]
    rw [ltT hi,zV hi,zV (by omega),qO,qO,zk8]; rfl) (fin:=true) (fun k=>by simp only [ve]; rw [ltF]; rfl)
  rw [Bool.and_true] at this; exact this
theorem zyr {a b:List z5} (hl:a.length ≤ Go.maxLen):zh6 (a,b,()) = some (eqL zA a b,()):=yr (p:=eqI zA) fun h=>by
  have:=jZ (B:=zaX) zcl (eqI zA) (fun i=>(a,b,i)) hl h (fun k i hi=>by
    simp only [zaX]
    rw [ltT hi,zV hi,zV (by omega),qO,qO,zk8]; rfl) (fin:=true) (fun k=>by simp only [zaX]; rw [ltF]; rfl)
  rw [Bool.and_true] at this; exact this
theorem zys {a b:List qc} (hl:a.length ≤ Go.maxLen):zh8 (a,b,()) = some (eqL zF a b,()):=yr (p:=eqI zF) fun h=>by
  have:=jZ (B:=zaZ) zqp (eqI zF) (fun i=>(a,b,i)) hl h (fun k i hi=>by
    simp only [zaZ]
    rw [ltT hi,zV hi,zV (by omega),qO,qO,zk8]; rfl) (fin:=true) (fun k=>by simp only [zaZ]; rw [ltF]; rfl)
  rw [Bool.and_true] at this; exact this
theorem zyt {a b:List zL} (hl:a.length ≤ Go.maxLen):zia (a,b,()) = some (eqL zp a b,()):=yr (p:=eqI zp) fun h=>by
  have:=jZ (B:=za1) zb0 (eqI zp) (fun i=>(a,b,i)) hl h (fun k i hi=>by
    simp only [za1]
    rw [ltT hi,zV hi,zV (by omega),qO,qO,zk8]; rfl) (fin:=true) (fun k=>by simp only [za1]; rw [ltF]; rfl)
  rw [Bool.and_true] at this; exact this
structure zjg (x:zh):Prop where
  rooms:x.1.length ≤ Go.maxLen
  exits:x.2.1.length ≤ Go.maxLen
  items:x.2.2.1.length ≤ Go.maxLen
  mails:x.2.2.2.1.length ≤ Go.maxLen
  trades:x.2.2.2.2.1.length ≤ Go.maxLen
  purses:x.2.2.2.2.2.1.length ≤ Go.maxLen
  places:x.2.2.2.2.2.2.1.length ≤ Go.maxLen
structure zp9 (s:zm):Prop where
  shelves:s.2.1.length ≤ Go.maxLen
  ranks:s.2.2.1.length ≤ Go.maxLen
  orders:s.2.2.2.1.length ≤ Go.maxLen
  entries:s.2.2.2.2.1.length ≤ Go.maxLen
  seats:s.2.2.2.2.2.1.length ≤ Go.maxLen
  shelf:∀ x ∈ s.2.1,zjg x
  rank:∀ l ∈ s.2.2.1,l.length ≤ Go.maxLen
def j6 (a b:zh):Bool:=eqL zJ a.1 b.1 && (eqL zC a.2.1 b.2.1 && (eqL zA a.2.2.1 b.2.2.1 && (eqL zF a.2.2.2.1 b.2.2.2.1 && (eqL zp a.2.2.2.2.1 b.2.2.2.2.1 && (eqL (.arr 4 tU) a.2.2.2.2.2.1 b.2.2.2.2.2.1 && (eqL zI a.2.2.2.2.2.2.1 b.2.2.2.2.2.2.1 && (eqI (.arr 4 tU) a.2.2.2.2.2.2.2.1 b.2.2.2.2.2.2.2.1 && eqI (.arr 4 tU) a.2.2.2.2.2.2.2.2.1 b.2.2.2.2.2.2.2.2.1)))))))
theorem zqX {a b:zh} (h:zjg a):zaH (a,b,()) = some (j6 a b,()):=by
  rw [zwJ]
  simp only [zaH,zaG]
  rw [zy7 h.rooms,zy8 h.exits,zyr h.items,zys h.mails,zyt h.trades]
  simp only [Option.bind_some]
  rw [zms a.2.2.2.2.2.1 b.2.2.2.2.2.1 (eqI (.arr 4 tU)),zms a.2.2.2.2.2.2.1 b.2.2.2.2.2.2.1 (eqI zI)]
  have key:a.2.2.2.2.2.1.length = b.2.2.2.2.2.1.length→a.2.2.2.2.2.2.1.length = b.2.2.2.2.2.2.1.length→zbL K0 (0,a,b) = some (eqL (.arr 4 tU) a.2.2.2.2.2.1 b.2.2.2.2.2.1 && eqL zI a.2.2.2.2.2.2.1 b.2.2.2.2.2.2.1,()):=fun h1 h2=>by
    have l1:=jZ (B:=vi) zB3 (eqI zI) (fun i=>(i,a,b)) h.places h2 (fun k i hi=>by
      simp only [vi]
      rw [ltT hi,zV hi,zV (by omega),qO,qO,zk8]; rfl) (fin:=true) (fun k=>by simp only [vi]; rw [ltF]; rfl)
    rw [Bool.and_true] at l1
    exact jZ (B:=fun k0=>qX (yU K0) k0) (zb (.arr 4 tU)) (eqI (.arr 4 tU)) (fun i=>(i,a,b)) h.purses h1 (fun k i hi=>by
      simp only [qX]
      rw [ltT hi,zV hi,zV (by omega),Int.toNat_natCast,zk8]; rfl) (fun k=>by simp only [qX]; rw [ltF]; exact l1)
  unfold j6
  by_cases h1:a.2.2.2.2.2.1.length = b.2.2.2.2.2.1.length
  · by_cases h2:a.2.2.2.2.2.2.1.length = b.2.2.2.2.2.2.1.length
    · rw [key h1 h2,decide_eq_true h1,decide_eq_true h2]
      generalize eqL zJ a.1 b.1 = c1
      generalize eqL zC a.2.1 b.2.1 = c2
      generalize eqL zA a.2.2.1 b.2.2.1 = c3
      generalize eqL zF a.2.2.2.1 b.2.2.2.1 = c4
      generalize eqL zp a.2.2.2.2.1 b.2.2.2.2.1 = c5
      generalize eqL (.arr 4 tU) a.2.2.2.2.2.1 b.2.2.2.2.2.1 = c6
      generalize eqL zI a.2.2.2.2.2.2.1 b.2.2.2.2.2.2.1 = c7
      generalize eqI (.arr 4 tU) a.2.2.2.2.2.2.2.1 b.2.2.2.2.2.2.2.1 = c8
      generalize eqI (.arr 4 tU) a.2.2.2.2.2.2.2.2.1 b.2.2.2.2.2.2.2.2.1 = c9
      grind
    · have e:eqL zI a.2.2.2.2.2.2.1 b.2.2.2.2.2.2.1 = false:=zmt h2
      rw [decide_eq_false h2,e]
      grind
  · have e:eqL (.arr 4 tU) a.2.2.2.2.2.1 b.2.2.2.2.2.1 = false:=zmt h1
    rw [decide_eq_false h1,e]
    grind
def zhH (a b:zm):Bool:=(a.1:Int) == b.1 && (eqW j6 a.2.1 b.2.1 && (eqW (eqL tI) a.2.2.1 b.2.2.1 && (eqL zf a.2.2.2.1 b.2.2.2.1 && (eqL zi a.2.2.2.2.1 b.2.2.2.2.1 && eqL tI a.2.2.2.2.2.1 b.2.2.2.2.2.1))))
theorem zyu {a b:List (List Int)} (hl:a.length ≤ Go.maxLen) (hr:∀ l ∈ a,l.length ≤ Go.maxLen):zh0 (a,b,()) = some (eqW (eqL tI) a b,()):=yr (p:=eqL tI) fun h=>by
  have:=jZ (B:=fun k0=>yu (zcn K0 k0) k0) ([]:List Int) (eqL tI) (fun i=>(a,b,i)) hl h (fun k i hi=>by
    simp only [yu]
    rw [ltT hi,zV hi,zV (by omega),Int.toNat_natCast]
    simp only [cond_true]
    rw [zms (a.getD i []) (b.getD i []) (eqI tI)]
    by_cases hm:(a.getD i []).length = (b.getD i []).length
    · rw [decide_eq_true hm,cond_true]
      have hz:(List.zip (a.getD i []) (b.getD i [])).length = (a.getD i []).length:=by rw [List.length_zip]; omega
      have:=zrN (B:=fun k1=>zaR k k1) (l:=List.zip (a.getD i []) (b.getD i [])) ((0:Int),(0:Int)) (p:=fun q=>q.1 == q.2) (fin:=k (a,b,wI (i + 1))) (bad:=some (false,())) (fun j=>(a,b,(i:Int),j)) (by rw [hz]; exact hr _ (yc hi)) (fun k1 j x hj hx _=>by
        rw [hz] at hj
        rw [zhS _ _ j hj (by omega)] at hx
        subst hx
        simp only [zaR]
        rw [zV hi,zV hi,Int.toNat_natCast,ltT hj,zV hj,zV (by omega),zV (by omega),Int.toNat_natCast]
        simp only [cond_true]
        exact zDX _ _ _ _) (fun k1=>by
        simp only [zaR]
        rw [hz,zV hi,Int.toNat_natCast,ltF]; rfl)
      refine Eq.trans this ?_
      unfold eqL
      rw [decide_eq_true hm,Bool.true_and]
      rfl
    · have e:eqL tI (a.getD i []) (b.getD i []) = false:=zmt hm
      rw [decide_eq_false hm,e]; rfl) (fin:=true) (fun k=>by simp only [yu]; rw [ltF]; rfl)
  rw [Bool.and_true] at this; exact this
theorem ze4 {a b:zm} (h:zp9 a):yI (a,b,()) = some (zhH a b,()):=by
  rw [zwJ]
  simp only [yI,zeT]
  rw [zyu h.ranks h.rank,zyp h.orders,zyq h.entries]
  simp only [Option.bind_some]
  rw [zms a.2.1 b.2.1 j6,zms a.2.2.2.2.2.1 b.2.2.2.2.2.1 (eqI tI)]
  have key:a.2.1.length = b.2.1.length→a.2.2.2.2.2.1.length = b.2.2.2.2.2.1.length→zfV K0 (0,a,b) = some (eqW j6 a.2.1 b.2.1 && eqL tI a.2.2.2.2.2.1 b.2.2.2.2.2.1,()):=fun h1 h2=>by
    have l1:=jZ (B:=za6) (0:Int) (eqI tI) (fun i=>(i,a,b)) h.seats h2 (fun k i hi=>by
      simp only [za6]
      rw [ltT hi,zV hi,zV (by omega),qO,qO]
      simp only [cond_true]
      exact zDX _ _ _ _) (fin:=true) (fun k=>by simp only [za6]; rw [ltF]; rfl)
    rw [Bool.and_true] at l1
    exact jZ (B:=fun k0=>yx (zco K0) k0) za j6 (fun i=>(i,a,b)) h.shelves h1 (fun k i hi=>by
      simp only [yx]
      rw [ltT hi,zV hi,zV (by omega),qO,qO,zqX (h.shelf _ (yc hi))]; rfl) (fun k=>by simp only [yx]; rw [ltF]; exact l1)
  unfold zhH
  have e0:(a.1 != b.1) = !(a.1 == b.1):=rfl
  rw [e0]
  by_cases h1:a.2.1.length = b.2.1.length
  · by_cases h2:a.2.2.2.2.2.1.length = b.2.2.2.2.2.1.length
    · rw [key h1 h2,decide_eq_true h1,decide_eq_true h2]
      generalize eqW j6 a.2.1 b.2.1 = c1
      generalize eqW (eqL tI) a.2.2.1 b.2.2.1 = c2
      generalize eqL zf a.2.2.2.1 b.2.2.2.1 = c3
      generalize eqL zi a.2.2.2.2.1 b.2.2.2.2.1 = c4
      generalize eqL tI a.2.2.2.2.2.1 b.2.2.2.2.2.1 = c5
      generalize (a.1 == b.1) = c6
      grind
    · have e:eqL tI a.2.2.2.2.2.1 b.2.2.2.2.2.1 = false:=zmt h2
      rw [decide_eq_false h2,e]
      grind
  · have e:eqW j6 a.2.1 b.2.1 = false:=zmt h1
    rw [decide_eq_false h1,e]
    grind
theorem zmP:∀ {τ:Ty},τ.eqIn = true→∀ x:τ.I,eqI τ x x = true:=by
  intro τ
  induction τ with
  | unit=>intro _ _; rfl
  | bool=>intro _ x; exact beq_self_eq_true x
  | int k=>intro _ x; exact beq_self_eq_true (α:=Int) x
  | str=>intro _ x; exact beq_self_eq_true _
  | pair a b iha ihb =>
    intro h x
    simp only [Ty.eqIn,Bool.and_eq_true] at h
    simp only [eqI,iha h.1,ihb h.2,cond_true]
  | st a ih=>intro h x; exact ih h x
  | arr n a ih =>
    intro h x
    simp only [eqI,List.all_eq_true]
    intro p hp
    have:p.1 = p.2:=by
      obtain ⟨i,hi,rfl⟩:=List.mem_iff_getElem.1 hp
      rw [List.getElem_zip]
    rw [this]
    exact ih h _
  | _=>intro h; cases h
theorem zsy {α:Type} {p:α→α→Bool} (h:∀ x,p x x = true) (l:List α):eqW p l l = true:=by
  simp only [eqW,decide_true,Bool.true_and,List.all_eq_true]
  intro q hq
  have:q.1 = q.2:=by
    obtain ⟨i,hi,rfl⟩:=List.mem_iff_getElem.1 hq
    rw [List.getElem_zip]
  rw [this]; exact h _
theorem yS {τ:Ty} (h:τ.eqIn = true) (l:List τ.I):eqL τ l l = true:=zsy (zmP h) l
theorem zyv (x:zh):j6 x x = true:=by
  simp only [j6,Bool.and_eq_true]
  exact ⟨yS (τ:=zJ) rfl _,yS (τ:=zC) rfl _,yS (τ:=zA) rfl _,yS (τ:=zF) rfl _,yS (τ:=zp) rfl _,yS (τ:=.arr 4 tU) rfl _,yS (τ:=zI) rfl _,zmP (τ:=.arr 4 tU) rfl _,zmP (τ:=.arr 4 tU) rfl _⟩
theorem zhI (s:zm):zhH s s = true:=by
  simp only [zhH,Bool.and_eq_true]
  exact ⟨beq_self_eq_true (α:=Int) _,zsy zyv _,zsy (yS (τ:=tI) rfl) _,yS (τ:=zf) rfl _,yS (τ:=zi) rfl _,yS (τ:=tI) rfl _⟩
end Go.Proofs.YtlklokhlgcfcdaaGreatDoor
end
section
namespace Go.Proofs.YtlklokhlgcfcdaaGreatDoor
open Go.Ev
structure zyw (x:zh):Prop where
  rooms:x.1.length * 24 ≤ 140737488355328
  exits:x.2.1.length * 48 ≤ 140737488355328
  items:x.2.2.1.length * 56 ≤ 140737488355328
  mails:x.2.2.2.1.length * 48 ≤ 140737488355328
  trades:x.2.2.2.2.1.length * 72 ≤ 140737488355328
  purses:x.2.2.2.2.2.1.length * 32 ≤ 140737488355328
  places:x.2.2.2.2.2.2.1.length * 16 ≤ 140737488355328
structure zyx (s:zm):Prop where
  shelves:s.2.1.length * 232 ≤ 140737488355328
  ranks:s.2.2.1.length * 24 ≤ 140737488355328
  orders:s.2.2.2.1.length * 80 ≤ 140737488355328
  entries:s.2.2.2.2.1.length * 80 ≤ 140737488355328
  seats:s.2.2.2.2.2.1.length * 8 ≤ 140737488355328
  shelf:∀ x ∈ s.2.1,zyw x
  rank:∀ l ∈ s.2.2.1,l.length * 8 ≤ 140737488355328
theorem zyy {α:Type} {l:List α} {i:Nat} {d:α} (h:i < l.length):List.set l i (l.getD i d) = l:=by
  rw [List.getD_eq_getElem?_getD,List.getElem?_eq_getElem h]
  exact List.set_getElem_self h
theorem zds {s:zm} (h:zyx s):jx (s,()) = some (s,()):=by
  have hmm:140737488355328 ≤ Go.maxLen:=by unfold Go.maxLen; omega
  have h1:=h.shelves
  have h2:=h.ranks
  have h3:=h.orders
  have h4:=h.entries
  have h5:=h.seats
  have l1:zal K0 ((s.2.1.length:Int),0,s.1,0,s.2.1,0,s.2.2.1,s.2.2.1.length,s.2.2.2.1,s.2.2.2.2.1,s.2.2.2.2.2.1,[],0,[],0,[],[],[]) = some (s,()) :=
    j4 (α:=Unit) (B:=zak) (len:=s.2.1.length) (by omega) (fun i _=>((s.2.1.length:Int),i,s.1,0,s.2.1,i.toNat,s.2.2.1,s.2.2.1.length,s.2.2.2.1,s.2.2.2.2.1,s.2.2.2.2.2.1,[],0,[],0,[],[],[])) (fun _ _=>some (s,())) (fun _ _=>True) (fun k i _ hi _ hk=>by
      have hx:=h.shelf _ (yc (d:=za) hi)
      have e1:=hx.rooms
      have e2:=hx.exits
      have e3:=hx.items
      have e4:=hx.mails
      have e5:=hx.trades
      have e6:=hx.purses
      have e7:=hx.places
      have hk':=hk () trivial
      have hw:wI ((i:Int) + 1) = (i:Int) + 1:=zz8 hi (by omega)
      simp only [zak]
      rw [ltT hi,zV hi,qO]
      simp only [Int.toNat_natCast,Nat.le_refl,decide_true,cond_true]
      rw [zyl (by omega),zym (by omega),zyn (by omega),zyo (by omega),zwC (by omega),zAm (by omega),zy6 (by omega)]
      simp only [Option.bind_some]
      rw [zV hi]
      refine Eq.trans ?_ hk'
      have hs:List.set s.2.1 i (s.2.1.getD i za) = s.2.1:=zyy hi
      have ht:(wI ((i:Int) + 1)).toNat = i + 1:=by rw [hw]; omega
      rw [ht]
      exact congrArg (fun l=>k ((s.2.1.length:Int),wI ((i:Int) + 1),s.1,0,l,i + 1,s.2.2.1,s.2.2.1.length,s.2.2.2.1,s.2.2.2.2.1,s.2.2.2.2.2.1,[],0,[],0,[],[],[])) hs) (fun k _ _=>by
      simp only [zak]
      rw [ltF]
      simp only [Int.toNat_natCast,decide_true,cond_true,cond_false]) () trivial
  have l0:zeP K0 ((s.2.2.1.length:Int),0,s.1,s.2.1,0,s.2.2.1,0,s.2.2.2.1,s.2.2.2.2.1,s.2.2.2.2.2.1,[],0,[],0,[],[],[]) = some (s,()) :=
    j4 (α:=Unit) (B:=fun k0=>vV (zal K0) k0) (len:=s.2.2.1.length) (by omega) (fun i _=>((s.2.2.1.length:Int),i,s.1,s.2.1,0,s.2.2.1,i.toNat,s.2.2.2.1,s.2.2.2.2.1,s.2.2.2.2.2.1,[],0,[],0,[],[],[])) (fun _ _=>some (s,())) (fun _ _=>True) (fun k i _ hi _ hk=>by
      have hx:=h.rank _ (yc (d:=([]:List Int)) hi)
      have hk':=hk () trivial
      have hw:wI ((i:Int) + 1) = (i:Int) + 1:=zz8 hi (by omega)
      simp only [vV]
      rw [ltT hi,zV hi]
      simp only [Int.toNat_natCast,Nat.le_refl,decide_true,cond_true]
      rw [zru (by omega)]
      simp only [Option.bind_some]
      rw [zV hi]
      refine Eq.trans ?_ hk'
      have hs:List.set s.2.2.1 i (s.2.2.1.getD i []) = s.2.2.1:=zyy hi
      have ht:(wI ((i:Int) + 1)).toNat = i + 1:=by rw [hw]; omega
      rw [ht,hs]) (fun k _ _=>by
      simp only [vV]
      rw [ltF,zwB (by omega)]
      simp only [Int.toNat_natCast,Option.bind_some,cond_false]
      exact l1) () trivial
  simp only [jx,zdr]
  rw [zwz (by omega),zwA (by omega),zru (by omega),zyk (by omega)]
  simp only [Option.bind_some]
  exact l0
end Go.Proofs.YtlklokhlgcfcdaaGreatDoor
end
section
namespace Go.Proofs.YtlklokhlgcfcdaaGreatDoor
open Go.Ev
structure At (s:zm) (i w:Int):Prop where
  hi:0 ≤ i ∧ i < (s.2.1.length:Int)
  hw:0 ≤ w ∧ w < (((ix za s.2.1 i).2.2.2.2.2.1.length:Nat):Int)
end Go.Proofs.YtlklokhlgcfcdaaGreatDoor
end
section
namespace Go.Proofs.YtlklokhlgcfcdaaGreatDoor
open Go.Ev
theorem bnd {α β:Type} {x:Option α} {a:α} {f:α→Option β} (h:x = some a):Option.bind x f = f a:=by rw [h]; rfl
theorem cT {α:Type} {b:Bool} {x y:α} (h:b = true):cond b x y = x:=by rw [h]; rfl
theorem cF {α:Type} {b:Bool} {x y:α} (h:b = false):cond b x y = y:=by rw [h]; rfl
theorem qL {α:Type} {l:List α} {i:Nat} {x d:α} (h:i < l.length):(List.set l i x).getD i d = x:=by
  rw [List.getD_eq_getElem?_getD,List.getElem?_set_self h]; rfl
theorem getD_set_ne {α:Type} {l:List α} {i j:Nat} {x d:α} (h:i ≠ j):(List.set l i x).getD j d = l.getD j d:=by
  rw [List.getD_eq_getElem?_getD,List.getElem?_set_ne h,List.getD_eq_getElem?_getD]
structure Ctx (r:zw) (s:zm) (me:pMe) (c n:Int):Prop where
  rs:zDW r s = true
  im:zEc r me = true
  hc:zgI c = true
  pos:0 < n
end Go.Proofs.YtlklokhlgcfcdaaGreatDoor
end
section
namespace Go.Proofs.YtlklokhlgcfcdaaGreatDoor
open Go.Ev
def zzu (x:zh):Bool:=decide (x.1.length * 24 ≤ 140737488355328) && (decide (x.2.1.length * 48 ≤ 140737488355328) && (decide (x.2.2.1.length * 56 ≤ 140737488355328) && (decide (x.2.2.2.1.length * 48 ≤ 140737488355328) && (decide (x.2.2.2.2.1.length * 72 ≤ 140737488355328) && (decide (x.2.2.2.2.2.1.length * 32 ≤ 140737488355328) && decide (x.2.2.2.2.2.2.1.length * 16 ≤ 140737488355328))))))
def zwL (s:zm):Bool:=decide (s.2.1.length * 232 ≤ 140737488355328) && (decide (s.2.2.1.length * 24 ≤ 140737488355328) && (decide (s.2.2.2.1.length * 80 ≤ 140737488355328) && (decide (s.2.2.2.2.1.length * 80 ≤ 140737488355328) && (decide (s.2.2.2.2.2.1.length * 8 ≤ 140737488355328) && (s.2.1.all zzu && s.2.2.1.all fun l=>decide (l.length * 8 ≤ 140737488355328))))))
theorem zCk {s:zm} (h:zwL s = true):zyx s:=by
  simp only [zwL,Bool.and_eq_true,decide_eq_true_eq,List.all_eq_true] at h
  obtain ⟨h1,h2,h3,h4,h5,h6,h7⟩:=h
  refine ⟨h1,h2,h3,h4,h5,fun x hx=>?_,h7⟩
  have:=h6 x hx
  simp only [zzu,Bool.and_eq_true,decide_eq_true_eq] at this
  obtain ⟨a,b,c,d,e,f,g⟩:=this
  exact ⟨a,b,c,d,e,f,g⟩
noncomputable def zBz (x:zm × Unit):Option (zm × Unit):=bif zwL x.1 then some x else jx x
theorem zCl:jx = zBz:=by
  funext ⟨s,u⟩
  cases u
  unfold zBz
  cases h:zwL s with
  | true=>exact zds (zCk h)
  | false=>rfl
theorem zy9 {x:zh} (h:zyw x):zjg x:=by
  have hm:140737488355328 ≤ Go.maxLen:=by unfold Go.maxLen; omega
  obtain ⟨e1,e2,e3,e4,e5,e6,e7⟩:=h
  exact ⟨by omega,by omega,by omega,by omega,by omega,by omega,by omega⟩
theorem zBA {s:zm} (h:zyx s):zp9 s:=by
  have hm:140737488355328 ≤ Go.maxLen:=by unfold Go.maxLen; omega
  obtain ⟨e1,e2,e3,e4,e5,e6,e7⟩:=h
  exact ⟨by omega,by omega,by omega,by omega,by omega,fun x hx=>zy9 (e6 x hx),fun l hl=>by have:=e7 l hl; omega⟩
end Go.Proofs.YtlklokhlgcfcdaaGreatDoor
end
section
namespace Go.Proofs.YtlklokhlgcfcdaaGreatDoor
open Go.Ev
theorem zEd {x:zh} (h:WtR ze x):zyw x:=by
  obtain ⟨h1,h2,h3,h4,h5,h6,h7,-⟩:=h
  have hb:reachBytes ≤ 140737488355328:=by decide
  exact ⟨Nat.le_trans h1.1 hb,Nat.le_trans h2.1 hb,Nat.le_trans h3.1 hb,Nat.le_trans h4.1 hb,Nat.le_trans h5.1 hb,Nat.le_trans h6.1 hb,Nat.le_trans h7.1 hb⟩
theorem zDc {s:zm} (h:WtR zt s):zyx s:=by
  obtain ⟨-,h2,h3,h4,h5,h6,-⟩:=h
  have hb:reachBytes ≤ 140737488355328:=by decide
  exact ⟨Nat.le_trans h2.1 hb,Nat.le_trans h3.1 hb,Nat.le_trans h4.1 hb,Nat.le_trans h5.1 hb,Nat.le_trans h6.1 hb,fun x hx=>zEd (h2.2 x hx),fun l hl=>Nat.le_trans (h3.2 l hl).1 hb⟩
end Go.Proofs.YtlklokhlgcfcdaaGreatDoor
end
section
namespace Go.Proofs.YtlklokhlgcfcdaaGreatDoor
open Go.Ev
theorem zza {a b:zh} (h:zjg a):j5 (a,b,()) = some (j6 a b,()):=by
  rw [zwJ]
  simp only [j5]
  rw [zyg h.rooms,zyh h.exits,zyi h.items,zyj h.mails,zwy h.trades,zAl h.purses,zy5 h.places]
  simp only [Option.bind_some,j6]
  grind
theorem zqY {a b:List zh} (hl:a.length ≤ Go.maxLen) (h:∀ x ∈ a,zjg x):zbn (a,b,some j5,()) = some (eqW j6 a b,()):=yr (p:=j6) fun hab=>by
  have:=jZ (B:=jm) za j6 (fun i=>(b,some j5,a,(a.length:Int),i)) hl hab (fun k i hi=>by
    simp only [jm]
    rw [ltT hi,zV hi,zV (by omega),qO,qO]
    simp only [cond_true,Option.bind_some]
    rw [zza (h _ (yc hi))]; rfl) (fin:=true) (fun k=>by simp only [jm]; rw [ltF]; rfl)
  rw [Bool.and_true] at this; exact this
theorem zsz {a b:List (List Int)} (hl:a.length ≤ Go.maxLen) (h:∀ x ∈ a,x.length ≤ Go.maxLen):zbE (a,b,some yw,()) = some (eqW (eqL tI) a b,()):=yr (p:=eqL tI) fun hab=>by
  have:=jZ (B:=jB) ([]:List Int) (eqL tI) (fun i=>(b,some yw,a,(a.length:Int),i)) hl hab (fun k i hi=>by
    simp only [jB]
    rw [ltT hi,zV hi,zV (by omega),Int.toNat_natCast]
    simp only [cond_true,Option.bind_some]
    rw [zrt (h _ (yc hi))]; rfl) (fin:=true) (fun k=>by simp only [jB]; rw [ltF]; rfl)
  rw [Bool.and_true] at this; exact this
theorem ze5 {a b:zm} (h:zp9 a):jQ (a,b,()) = some (zhH a b,()):=by
  rw [zwJ]
  simp only [jQ]
  rw [zqY h.shelves h.shelf,zsz h.ranks h.rank,zww h.orders,zwx h.entries,zrt h.seats]
  simp only [Option.bind_some,zhH]
  generalize eqW j6 a.2.1 b.2.1 = c1
  generalize eqW (eqL tI) a.2.2.1 b.2.2.1 = c2
  generalize eqL zf a.2.2.2.1 b.2.2.2.1 = c3
  generalize eqL zi a.2.2.2.2.1 b.2.2.2.2.1 = c4
  generalize eqL tI a.2.2.2.2.2.1 b.2.2.2.2.2.1 = c5
  generalize (a.1 == b.1) = c6
  grind
end Go.Proofs.YtlklokhlgcfcdaaGreatDoor
end
section
namespace Go.Proofs.YtlklokhlgcfcdaaGreatDoor
open Go.Ev
theorem zEe (x:Int) (h:x = wI (x + 1)):False:=by
  have e:wI (x + 1) = Go.IntKind.wrap .i64 (x + 1):=rfl
  rw [e] at h
  unfold Go.IntKind.wrap at h
  simp only [Go.IntKind.bits,Go.IntKind.signed,Bool.true_and,decide_eq_true_eq] at h
  split at h <;> omega
theorem zDd {α:Type} {p:α→α→Bool} {a b:List α} (d:α):eqW p a b = true ↔ a.length = b.length ∧ ∀ i,i < a.length→p (a.getD i d) (b.getD i d) = true:=by
  unfold eqW
  simp only [Bool.and_eq_true,decide_eq_true_eq,List.all_eq_true]
  constructor
  · rintro ⟨h1,h2⟩
    refine ⟨h1,fun i hi=>?_⟩
    have hz:(List.zip a b).getD i (d,d) = (a.getD i d,b.getD i d):=zhS a b i hi (by omega)
    have:=h2 ((List.zip a b).getD i (d,d)) (yc (by rw [List.length_zip]; omega))
    rw [hz] at this; exact this
  · rintro ⟨h1,h2⟩
    refine ⟨h1,fun q hq=>?_⟩
    obtain ⟨i,hi,rfl⟩:=List.mem_iff_getElem.1 hq
    rw [List.length_zip] at hi
    have:=h2 i (by omega)
    rw [List.getElem_zip]
    rw [List.getD_eq_getElem?_getD,List.getElem?_eq_getElem (by omega),List.getD_eq_getElem?_getD,List.getElem?_eq_getElem (by omega)] at this
    exact this
structure J (n v:Nat) (o:List zh):Prop where
  len:o.length = n
  fits:∀ j,zjg (o.getD j za)
  names:∀ j,v ≤ j→∀ k,ByteArray.size ((o.getD j za).1.getD k zeh).2.1 ≤ 140737488355328
theorem J.next {n v:Nat} {o:List zh} (h:J n v o):J n (v + 1) o:=⟨h.len,h.fits,fun j hj=>h.names j (by omega)⟩
theorem J.set {n w v:Nat} {o:List zh} {x:zh} (h:J n w o) (hv:v < w) (hn:v < o.length) (hx:zjg x):J n w (List.set o v x):=by
  refine ⟨by rw [List.length_set]; exact h.len,fun j=>?_,fun j hj k=>?_⟩
  · by_cases e:v = j
    · subst e; rw [qL hn]; exact hx
    · rw [getD_set_ne e]; exact h.fits j
  · rw [getD_set_ne (by omega)]; exact h.names j hj k
section
variable {n v:Nat} {a:zm} {r1 r2:Int} {m7 m8:List Int} {c4:Nat} {o5:List (List Int)} {c5:Nat} {o6:List zo} {o7:List zr} {o8:List Int} {o9:List zh} {c9:Nat} {o10:List (List Int)} {c10:Nat} {o11:List zo} {o12:List zr} {o13:List Int} {R:Option (Bool × Unit)}
variable (k0:zz→Option (Bool × Unit))
theorem ss7 (hk0:∀ o,J n (v + 1) o→k0 (wI ((v:Int) + 1),a,r1,r2,o,c4,o5,c5,o6,o7,o8,o9,c9,o10,c10,o11,o12,o13) = R) (hv:v < n) (o4:List zh) (hJ:J n (v + 1) o4):vw K0 k0 ((v:Int),0,a,r1,r2,v,v,v,v,v,v,v,m7,m8,o4,c4,o5,c5,o6,o7,o8,o9,c9,o10,c10,o11,o12,o13) = R:=by
  refine j4 (B:=fun k7=>vv k0 k7) (α:=List zh) (len:=(o4.getD v za).2.2.2.2.2.2.1.length) (hJ.fits v).places (fun i o=>((v:Int),i,a,r1,r2,v,v,v,v,v,v,v,m7,m8,o,c4,o5,c5,o6,o7,o8,o9,c9,o10,c10,o11,o12,o13)) (fun _ _=>R) (fun i o=>J n (v + 1) o ∧ (o.getD v za).2.2.2.2.2.2.1.length = (o4.getD v za).2.2.2.2.2.2.1.length) (fun k i o hi hI hk=>?_) (fun k o hI=>?_) o4 ⟨hJ,rfl⟩
  · obtain ⟨hJ',hl⟩:=hI
    have hvo:v < o.length:=by rw [hJ'.len]; exact hv
    have hi':i < (o.getD v za).2.2.2.2.2.2.1.length:=by rw [hl]; exact hi
    have f:=hJ'.fits v
    simp only [vv]
    refine (cT (ltT hi')).trans ?_
    refine (ixR ⟨Int.natCast_nonneg _,Int.ofNat_lt.2 hi'⟩).trans ?_
    refine (ixR ⟨Int.natCast_nonneg _,Int.ofNat_lt.2 hi'⟩).trans ?_
    refine hk _ ⟨hJ'.set (Nat.lt_succ_self v) hvo ⟨f.rooms,f.exits,f.items,f.mails,f.trades,f.purses,by show (List.set _ _ _).length ≤ _; rw [List.length_set]; exact f.places⟩,?_⟩
    rw [qL hvo]
    show (List.set _ _ _).length = _
    rw [List.length_set]; exact hl
  · obtain ⟨hJ',hl⟩:=hI
    have hvo:v < o.length:=by rw [hJ'.len]; exact hv
    simp only [vv]
    refine (cF (decide_eq_false (by rw [hl]; omega))).trans ?_
    refine (ixR ⟨Int.natCast_nonneg _,Int.ofNat_lt.2 hvo⟩).trans ?_
    refine (ixR ⟨Int.natCast_nonneg _,Int.ofNat_lt.2 hvo⟩).trans ?_
    have f:=hJ'.fits v
    rw [qO]
    exact hk0 _ (hJ'.set (Nat.lt_succ_self v) hvo ⟨f.rooms,f.exits,f.items,f.mails,f.trades,f.purses,f.places⟩)
theorem ss6 (hk0:∀ o,J n (v + 1) o→k0 (wI ((v:Int) + 1),a,r1,r2,o,c4,o5,c5,o6,o7,o8,o9,c9,o10,c10,o11,o12,o13) = R) (hv:v < n) (o4:List zh) (hJ:J n (v + 1) o4):vy K0 k0 ((v:Int),0,a,r1,r2,v,v,v,v,v,v,v,m7,m8,o4,c4,o5,c5,o6,o7,o8,o9,c9,o10,c10,o11,o12,o13) = R:=by
  refine j4 (B:=fun k6=>qY (vw K0 k0) k0 k6) (α:=List zh) (len:=(o4.getD v za).2.2.2.2.2.1.length) (hJ.fits v).purses (fun i o=>((v:Int),i,a,r1,r2,v,v,v,v,v,v,v,m7,m8,o,c4,o5,c5,o6,o7,o8,o9,c9,o10,c10,o11,o12,o13)) (fun _ _=>R) (fun i o=>J n (v + 1) o ∧ (o.getD v za).2.2.2.2.2.1.length = (o4.getD v za).2.2.2.2.2.1.length) (fun k i o hi hI hk=>?_) (fun k o hI=>?_) o4 ⟨hJ,rfl⟩
  · obtain ⟨hJ',hl⟩:=hI
    have hvo:v < o.length:=by rw [hJ'.len]; exact hv
    have hi':i < (o.getD v za).2.2.2.2.2.1.length:=by rw [hl]; exact hi
    have f:=hJ'.fits v
    simp only [qY]
    refine (cT (ltT hi')).trans ?_
    refine (ixR ⟨Int.natCast_nonneg _,Int.ofNat_lt.2 hi'⟩).trans ?_
    refine (ixR ⟨Int.natCast_nonneg _,Int.ofNat_lt.2 hi'⟩).trans ?_
    refine hk _ ⟨hJ'.set (Nat.lt_succ_self v) hvo ⟨f.rooms,f.exits,f.items,f.mails,f.trades,by show (List.set _ _ _).length ≤ _; rw [List.length_set]; exact f.purses,f.places⟩,?_⟩
    rw [qL hvo]
    show (List.set _ _ _).length = _
    rw [List.length_set]; exact hl
  · obtain ⟨hJ',hl⟩:=hI
    have hvo:v < o.length:=by rw [hJ'.len]; exact hv
    simp only [qY]
    refine (cF (decide_eq_false (by rw [hl]; omega))).trans ?_
    exact ss7 k0 hk0 hv o hJ'
theorem ss5 (hk0:∀ o,J n (v + 1) o→k0 (wI ((v:Int) + 1),a,r1,r2,o,c4,o5,c5,o6,o7,o8,o9,c9,o10,c10,o11,o12,o13) = R) (hv:v < n) (o4:List zh) (hJ:J n (v + 1) o4):vz K0 k0 ((v:Int),0,a,r1,r2,v,v,v,v,v,v,v,m7,m8,o4,c4,o5,c5,o6,o7,o8,o9,c9,o10,c10,o11,o12,o13) = R:=by
  refine j4 (B:=fun k5=>qZ (vy K0 k0) k0 k5) (α:=List zh) (len:=(o4.getD v za).2.2.2.2.1.length) (hJ.fits v).trades (fun i o=>((v:Int),i,a,r1,r2,v,v,v,v,v,v,v,m7,m8,o,c4,o5,c5,o6,o7,o8,o9,c9,o10,c10,o11,o12,o13)) (fun _ _=>R) (fun i o=>J n (v + 1) o ∧ (o.getD v za).2.2.2.2.1.length = (o4.getD v za).2.2.2.2.1.length) (fun k i o hi hI hk=>?_) (fun k o hI=>?_) o4 ⟨hJ,rfl⟩
  · obtain ⟨hJ',hl⟩:=hI
    have hvo:v < o.length:=by rw [hJ'.len]; exact hv
    have hi':i < (o.getD v za).2.2.2.2.1.length:=by rw [hl]; exact hi
    have f:=hJ'.fits v
    simp only [qZ]
    refine (cT (ltT hi')).trans ?_
    refine (ixR ⟨Int.natCast_nonneg _,Int.ofNat_lt.2 hi'⟩).trans ?_
    refine (ixR ⟨Int.natCast_nonneg _,Int.ofNat_lt.2 hi'⟩).trans ?_
    refine hk _ ⟨hJ'.set (Nat.lt_succ_self v) hvo ⟨f.rooms,f.exits,f.items,f.mails,by show (List.set _ _ _).length ≤ _; rw [List.length_set]; exact f.trades,f.purses,f.places⟩,?_⟩
    rw [qL hvo]
    show (List.set _ _ _).length = _
    rw [List.length_set]; exact hl
  · obtain ⟨hJ',hl⟩:=hI
    have hvo:v < o.length:=by rw [hJ'.len]; exact hv
    simp only [qZ]
    refine (cF (decide_eq_false (by rw [hl]; omega))).trans ?_
    exact ss6 k0 hk0 hv o hJ'
theorem ss4 (hk0:∀ o,J n (v + 1) o→k0 (wI ((v:Int) + 1),a,r1,r2,o,c4,o5,c5,o6,o7,o8,o9,c9,o10,c10,o11,o12,o13) = R) (hv:v < n) (o4:List zh) (hJ:J n (v + 1) o4):vA K0 k0 ((v:Int),0,a,r1,r2,v,v,v,v,v,v,v,m7,m8,o4,c4,o5,c5,o6,o7,o8,o9,c9,o10,c10,o11,o12,o13) = R:=by
  refine j4 (B:=fun k4=>ja (vz K0 k0) k0 k4) (α:=List zh) (len:=(o4.getD v za).2.2.2.1.length) (hJ.fits v).mails (fun i o=>((v:Int),i,a,r1,r2,v,v,v,v,v,v,v,m7,m8,o,c4,o5,c5,o6,o7,o8,o9,c9,o10,c10,o11,o12,o13)) (fun _ _=>R) (fun i o=>J n (v + 1) o ∧ (o.getD v za).2.2.2.1.length = (o4.getD v za).2.2.2.1.length) (fun k i o hi hI hk=>?_) (fun k o hI=>?_) o4 ⟨hJ,rfl⟩
  · obtain ⟨hJ',hl⟩:=hI
    have hvo:v < o.length:=by rw [hJ'.len]; exact hv
    have hi':i < (o.getD v za).2.2.2.1.length:=by rw [hl]; exact hi
    have f:=hJ'.fits v
    simp only [ja]
    refine (cT (ltT hi')).trans ?_
    refine (ixR ⟨Int.natCast_nonneg _,Int.ofNat_lt.2 hi'⟩).trans ?_
    refine (ixR ⟨Int.natCast_nonneg _,Int.ofNat_lt.2 hi'⟩).trans ?_
    refine hk _ ⟨hJ'.set (Nat.lt_succ_self v) hvo ⟨f.rooms,f.exits,f.items,by show (List.set _ _ _).length ≤ _; rw [List.length_set]; exact f.mails,f.trades,f.purses,f.places⟩,?_⟩
    rw [qL hvo]
    show (List.set _ _ _).length = _
    rw [List.length_set]; exact hl
  · obtain ⟨hJ',hl⟩:=hI
    have hvo:v < o.length:=by rw [hJ'.len]; exact hv
    simp only [ja]
    refine (cF (decide_eq_false (by rw [hl]; omega))).trans ?_
    exact ss5 k0 hk0 hv o hJ'
theorem ss3 (hk0:∀ o,J n (v + 1) o→k0 (wI ((v:Int) + 1),a,r1,r2,o,c4,o5,c5,o6,o7,o8,o9,c9,o10,c10,o11,o12,o13) = R) (hv:v < n) (o4:List zh) (hJ:J n (v + 1) o4):vC K0 k0 ((v:Int),0,a,r1,r2,v,v,v,v,v,v,v,m7,m8,o4,c4,o5,c5,o6,o7,o8,o9,c9,o10,c10,o11,o12,o13) = R:=by
  refine j4 (B:=fun k3=>jc (vA K0 k0) k0 k3) (α:=List zh) (len:=(o4.getD v za).2.2.1.length) (hJ.fits v).items (fun i o=>((v:Int),i,a,r1,r2,v,v,v,v,v,v,v,m7,m8,o,c4,o5,c5,o6,o7,o8,o9,c9,o10,c10,o11,o12,o13)) (fun _ _=>R) (fun i o=>J n (v + 1) o ∧ (o.getD v za).2.2.1.length = (o4.getD v za).2.2.1.length) (fun k i o hi hI hk=>?_) (fun k o hI=>?_) o4 ⟨hJ,rfl⟩
  · obtain ⟨hJ',hl⟩:=hI
    have hvo:v < o.length:=by rw [hJ'.len]; exact hv
    have hi':i < (o.getD v za).2.2.1.length:=by rw [hl]; exact hi
    have f:=hJ'.fits v
    simp only [jc]
    refine (cT (ltT hi')).trans ?_
    refine (ixR ⟨Int.natCast_nonneg _,Int.ofNat_lt.2 hi'⟩).trans ?_
    refine (ixR ⟨Int.natCast_nonneg _,Int.ofNat_lt.2 hi'⟩).trans ?_
    refine hk _ ⟨hJ'.set (Nat.lt_succ_self v) hvo ⟨f.rooms,f.exits,by show (List.set _ _ _).length ≤ _; rw [List.length_set]; exact f.items,f.mails,f.trades,f.purses,f.places⟩,?_⟩
    rw [qL hvo]
    show (List.set _ _ _).length = _
    rw [List.length_set]; exact hl
  · obtain ⟨hJ',hl⟩:=hI
    have hvo:v < o.length:=by rw [hJ'.len]; exact hv
    simp only [jc]
    refine (cF (decide_eq_false (by rw [hl]; omega))).trans ?_
    exact ss4 k0 hk0 hv o hJ'
theorem ss2 (hk0:∀ o,J n (v + 1) o→k0 (wI ((v:Int) + 1),a,r1,r2,o,c4,o5,c5,o6,o7,o8,o9,c9,o10,c10,o11,o12,o13) = R) (hv:v < n) (o4:List zh) (hJ:J n (v + 1) o4):vD K0 k0 ((v:Int),0,a,r1,r2,v,v,v,v,v,v,v,m7,m8,o4,c4,o5,c5,o6,o7,o8,o9,c9,o10,c10,o11,o12,o13) = R:=by
  refine j4 (B:=fun k2=>je (vC K0 k0) k0 k2) (α:=List zh) (len:=(o4.getD v za).2.1.length) (hJ.fits v).exits (fun i o=>((v:Int),i,a,r1,r2,v,v,v,v,v,v,v,m7,m8,o,c4,o5,c5,o6,o7,o8,o9,c9,o10,c10,o11,o12,o13)) (fun _ _=>R) (fun i o=>J n (v + 1) o ∧ (o.getD v za).2.1.length = (o4.getD v za).2.1.length) (fun k i o hi hI hk=>?_) (fun k o hI=>?_) o4 ⟨hJ,rfl⟩
  · obtain ⟨hJ',hl⟩:=hI
    have hvo:v < o.length:=by rw [hJ'.len]; exact hv
    have hi':i < (o.getD v za).2.1.length:=by rw [hl]; exact hi
    have f:=hJ'.fits v
    simp only [je]
    refine (cT (ltT hi')).trans ?_
    refine (ixR ⟨Int.natCast_nonneg _,Int.ofNat_lt.2 hi'⟩).trans ?_
    refine (ixR ⟨Int.natCast_nonneg _,Int.ofNat_lt.2 hi'⟩).trans ?_
    refine hk _ ⟨hJ'.set (Nat.lt_succ_self v) hvo ⟨f.rooms,by show (List.set _ _ _).length ≤ _; rw [List.length_set]; exact f.exits,f.items,f.mails,f.trades,f.purses,f.places⟩,?_⟩
    rw [qL hvo]
    show (List.set _ _ _).length = _
    rw [List.length_set]; exact hl
  · obtain ⟨hJ',hl⟩:=hI
    have hvo:v < o.length:=by rw [hJ'.len]; exact hv
    simp only [je]
    refine (cF (decide_eq_false (by rw [hl]; omega))).trans ?_
    exact ss3 k0 hk0 hv o hJ'
theorem ss1 (hk0:∀ o,J n (v + 1) o→k0 (wI ((v:Int) + 1),a,r1,r2,o,c4,o5,c5,o6,o7,o8,o9,c9,o10,c10,o11,o12,o13) = R) (hv:v < n) (o4:List zh) (hJ:J n v o4):vE K0 k0 ((v:Int),0,a,r1,r2,v,v,v,v,v,v,v,m7,m8,o4,c4,o5,c5,o6,o7,o8,o9,c9,o10,c10,o11,o12,o13) = R:=by
  refine j4 (B:=fun k1=>jf (vD K0 k0) k0 k1) (α:=List zh) (len:=(o4.getD v za).1.length) (hJ.fits v).rooms (fun i o=>((v:Int),i,a,r1,r2,v,v,v,v,v,v,v,m7,m8,o,c4,o5,c5,o6,o7,o8,o9,c9,o10,c10,o11,o12,o13)) (fun _ _=>R) (fun i o=>J n (v + 1) o ∧ (o.getD v za).1.length = (o4.getD v za).1.length ∧ ∀ k,i ≤ k→ByteArray.size ((o.getD v za).1.getD k zeh).2.1 ≤ 140737488355328) (fun k i o hi hI hk=>?_) (fun k o hI=>?_) o4 ⟨hJ.next,rfl,fun k _=>hJ.names v (Nat.le_refl v) k⟩
  · obtain ⟨hJ',hl,hnm⟩:=hI
    have hvo:v < o.length:=by rw [hJ'.len]; exact hv
    have hi':i < (o.getD v za).1.length:=by rw [hl]; exact hi
    have f:=hJ'.fits v
    simp only [jf]
    refine (cT (ltT hi')).trans ?_
    refine (ixR ⟨Int.natCast_nonneg _,Int.ofNat_lt.2 hi'⟩).trans ?_
    refine (cT (decide_eq_true (by
      have h1:=hnm i (Nat.le_refl i)
      have h2:ByteArray.size (ByteArray.mk #[120]) = 1:=rfl
      rw [Int.toNat_natCast,h2]
      show ByteArray.size ((o.getD v za).1.getD i zeh).2.1 + 1 ≤ 9223372036854775807
      omega))).trans ?_
    refine (ixR ⟨Int.natCast_nonneg _,Int.ofNat_lt.2 hi'⟩).trans ?_
    refine hk _ ⟨hJ'.set (Nat.lt_succ_self v) hvo ⟨by show (List.set _ _ _).length ≤ _; rw [List.length_set]; exact f.rooms,f.exits,f.items,f.mails,f.trades,f.purses,f.places⟩,?_,fun j hj=>?_⟩
    · rw [qL hvo]
      show (List.set _ _ _).length = _
      rw [List.length_set]; exact hl
    · rw [qL hvo]
      show ByteArray.size ((List.set _ _ _).getD j zeh).2.1 ≤ _
      rw [Int.toNat_natCast,getD_set_ne (by omega)]
      exact hnm j (by omega)
  · obtain ⟨hJ',hl,-⟩:=hI
    simp only [jf]
    refine (cF (decide_eq_false (by rw [hl]; omega))).trans ?_
    exact ss2 k0 hk0 hv o hJ'
end
section
variable {a:zm} {r1 r2:Int} {o8:List zh} {c8:Nat} {o9:List (List Int)} {c9:Nat} {o10:List zo} {o11:List zr} {o12:List Int}
theorem zEq (hd:(r2,o8,o9,o10,o11,o12,()) = a) (hf:zp9 a) (o3:List zh) (c3:Nat) (o4:List (List Int)) (c4:Nat) (o5:List zo) (o6:List zr) (hal:qK () = some (true,())) :
    jW K0 (0,a,r1,r2,o3,c3,o4,c4,o5,o6,a.2.2.2.2.2.1,o8,c8,o9,c9,o10,o11,o12) = some (true,()):=by
  refine j4 (B:=jV) (α:=List Int) (len:=a.2.2.2.2.2.1.length) hf.seats (fun i o=>(i,a,r1,r2,o3,c3,o4,c4,o5,o6,o,o8,c8,o9,c9,o10,o11,o12)) (fun _ _=>some (true,())) (fun i o=>o.length = a.2.2.2.2.2.1.length ∧ ∀ j,j < a.2.2.2.2.2.1.length→o.getD j 0 = if j < i then wI (a.2.2.2.2.2.1.getD j 0 + 1) else a.2.2.2.2.2.1.getD j 0) (fun k i o hi hI hk=>?_) (fun k o hI=>?_) _ ⟨rfl,fun j _=>by rw [if_neg (Nat.not_lt_zero j)]⟩
  · obtain ⟨hl,hv⟩:=hI
    have hi':i < o.length:=by rw [hl]; exact hi
    simp only [jV]
    refine (cT (ltT hi')).trans ?_
    refine (ixR ⟨Int.natCast_nonneg _,Int.ofNat_lt.2 hi'⟩).trans ?_
    refine (ixR ⟨Int.natCast_nonneg _,Int.ofNat_lt.2 hi'⟩).trans ?_
    refine hk _ ⟨by rw [List.length_set]; exact hl,fun j hj=>?_⟩
    rw [Int.toNat_natCast]
    by_cases e:i = j
    · subst e
      have h1:=hv i hj
      rw [if_neg (Nat.lt_irrefl i)] at h1
      rw [qL hi',if_pos (Nat.lt_succ_self i),qO,h1]
    · rw [getD_set_ne e,hv j hj]
      by_cases h:j < i
      · rw [if_pos h,if_pos (by omega)]
      · rw [if_neg h,if_neg (by omega)]
  · obtain ⟨hl,hv⟩:=hI
    simp only [jV]
    refine (cF (decide_eq_false (by rw [hl]; omega))).trans ?_
    refine (bnd hal).trans ?_
    refine (cT rfl).trans ?_
    rw [hd,ze4 hf,zhI]
    refine (bnd (a:=(true,())) rfl).trans ?_
    refine (cT rfl).trans ?_
    by_cases h0:a.2.2.2.2.2.1.length = 0
    · exact cT (by rw [h0]; rfl)
    · refine (cF (by
        have:((a.2.2.2.2.2.1.length:Int) == 0) = false:=beq_eq_false_iff_ne.2 (by omega)
        exact this)).trans ?_
      refine (bnd (ze5 hf)).trans ?_
      refine cF ?_
      have hne:eqL tI a.2.2.2.2.2.1 o = false:=by
        cases he:eqL tI a.2.2.2.2.2.1 o with
        | false=>rfl
        | true =>
          exfalso
          have h1:=((zDd (p:=eqI tI) (0:Int)).1 he).2 0 (by omega)
          have h2:=hv 0 (by omega)
          rw [if_pos (by omega)] at h2
          have h3:(a.2.2.2.2.2.1.getD 0 0:Int) = o.getD 0 0:=beq_iff_eq.1 (show ((a.2.2.2.2.2.1.getD 0 0:Int) == o.getD 0 0) = true from h1)
          rw [h2] at h3
          exact zEe _ h3
      show zhH a _ = false
      unfold zhH
      rw [show eqL tI a.2.2.2.2.2.1 ((r1,o3,o4,o5,o6,o,()):zm).2.2.2.2.2.1 = false from hne]
      simp
theorem zEr (hd:(r2,o8,o9,o10,o11,o12,()) = a) (hf:zp9 a) (o3:List zh) (c3:Nat) (o4:List (List Int)) (c4:Nat) (o5:List zo) (o6:List zr) (hal:qK () = some (true,())) (h6:o6.length ≤ Go.maxLen) :
    jX K0 (0,a,r1,r2,o3,c3,o4,c4,o5,o6,a.2.2.2.2.2.1,o8,c8,o9,c9,o10,o11,o12) = some (true,()):=by
  refine j4 (B:=fun k11=>qP (jW K0) k11) (α:=List zr) (len:=o6.length) h6 (fun i o=>(i,a,r1,r2,o3,c3,o4,c4,o5,o,a.2.2.2.2.2.1,o8,c8,o9,c9,o10,o11,o12)) (fun _ _=>some (true,())) (fun i o=>o.length = o6.length) (fun k i o hi hI hk=>?_) (fun k o hI=>?_) _ rfl
  · have hi':i < o.length:=by rw [hI]; exact hi
    simp only [qP]
    refine (cT (ltT hi')).trans ?_
    refine (ixR ⟨Int.natCast_nonneg _,Int.ofNat_lt.2 hi'⟩).trans ?_
    refine (ixR ⟨Int.natCast_nonneg _,Int.ofNat_lt.2 hi'⟩).trans ?_
    exact hk _ (by rw [List.length_set]; exact hI)
  · simp only [qP]
    refine (cF (decide_eq_false (by rw [hI]; omega))).trans ?_
    exact zEq hd hf o3 c3 o4 c4 o5 o hal
theorem zEs (hd:(r2,o8,o9,o10,o11,o12,()) = a) (hf:zp9 a) (o3:List zh) (c3:Nat) (o4:List (List Int)) (c4:Nat) (o5:List zo) (o6:List zr) (hal:qK () = some (true,())) (h5:o5.length ≤ Go.maxLen) (h6:o6.length ≤ Go.maxLen) :
    jY K0 (0,a,r1,r2,o3,c3,o4,c4,o5,o6,a.2.2.2.2.2.1,o8,c8,o9,c9,o10,o11,o12) = some (true,()):=by
  refine j4 (B:=fun k10=>qQ (jX K0) k10) (α:=List zo) (len:=o5.length) h5 (fun i o=>(i,a,r1,r2,o3,c3,o4,c4,o,o6,a.2.2.2.2.2.1,o8,c8,o9,c9,o10,o11,o12)) (fun _ _=>some (true,())) (fun i o=>o.length = o5.length) (fun k i o hi hI hk=>?_) (fun k o hI=>?_) _ rfl
  · have hi':i < o.length:=by rw [hI]; exact hi
    simp only [qQ]
    refine (cT (ltT hi')).trans ?_
    refine (ixR ⟨Int.natCast_nonneg _,Int.ofNat_lt.2 hi'⟩).trans ?_
    refine (ixR ⟨Int.natCast_nonneg _,Int.ofNat_lt.2 hi'⟩).trans ?_
    exact hk _ (by rw [List.length_set]; exact hI)
  · simp only [qQ]
    refine (cF (decide_eq_false (by rw [hI]; omega))).trans ?_
    exact zEr hd hf o3 c3 o4 c4 o o6 hal h6
structure JR (m:Nat) (o:List (List Int)):Prop where
  len:o.length = m
  row:∀ j,(o.getD j []).length ≤ Go.maxLen
theorem JR.set {m i:Nat} {o:List (List Int)} {x:List Int} (h:JR m o) (hi:i < o.length) (hx:x.length ≤ Go.maxLen):JR m (List.set o i x):=by
  refine ⟨by rw [List.length_set]; exact h.len,fun j=>?_⟩
  by_cases e:i = j
  · subst e; rw [qL hi]; exact hx
  · rw [getD_set_ne e]; exact h.row j
theorem st8 (hd:(r2,o8,o9,o10,o11,o12,()) = a) (hf:zp9 a) (o3:List zh) (c3:Nat) (o4:List (List Int)) (m:Nat) (o5:List zo) (o6:List zr) (hal:qK () = some (true,())) (h4:JR m o4) (hm:m ≤ Go.maxLen) (h5:o5.length ≤ Go.maxLen) (h6:o6.length ≤ Go.maxLen) :
    vB K0 (0,a,r1,r2,o3,c3,o4,m,o5,o6,a.2.2.2.2.2.1,o8,c8,o9,c9,o10,o11,o12) = some (true,()):=by
  refine j4 (B:=fun k8=>jb (yV K0 k8) (jY K0) k8) (α:=List (List Int)) (len:=m) hm (fun i o=>(i,a,r1,r2,o3,c3,o,m,o5,o6,a.2.2.2.2.2.1,o8,c8,o9,c9,o10,o11,o12)) (fun _ _=>some (true,())) (fun i o=>JR m o) (fun k i o hi hI hk=>?_) (fun k o hI=>?_) _ h4
  · have hi':i < o.length:=by rw [hI.len]; exact hi
    simp only [jb]
    refine (cT (ltT hi')).trans ?_
    refine j4 (B:=fun k9=>vx k k9) (α:=List (List Int)) (len:=(o.getD i []).length) (hI.row i) (fun j o=>((i:Int),j,a,r1,r2,o3,c3,o,m,o5,o6,a.2.2.2.2.2.1,o8,c8,o9,c9,o10,o11,o12)) (fun _ _=>some (true,())) (fun j q=>JR m q ∧ (q.getD i []).length = (o.getD i []).length) (fun k9 j q hj hQ hk9=>?_) (fun k9 q hQ=>?_) _ ⟨hI,rfl⟩
    · obtain ⟨hJ,hl⟩:=hQ
      have hq:i < q.length:=by rw [hJ.len]; exact hi
      have hj':j < (q.getD i []).length:=by rw [hl]; exact hj
      simp only [vx,Int.toNat_natCast]
      refine (ixR ⟨Int.natCast_nonneg _,Int.ofNat_lt.2 hq⟩).trans ?_
      refine (cF (decide_eq_false (by omega))).trans ?_
      refine (cT (ltT hj')).trans ?_
      refine (ixR ⟨Int.natCast_nonneg _,Int.ofNat_lt.2 hq⟩).trans ?_
      refine (cF (decide_eq_false (by omega))).trans ?_
      refine (ixR ⟨Int.natCast_nonneg _,Int.ofNat_lt.2 hj'⟩).trans ?_
      refine (ixR ⟨Int.natCast_nonneg _,Int.ofNat_lt.2 hj'⟩).trans ?_
      refine hk9 _ ⟨hJ.set hq (by rw [List.length_set]; exact hJ.row i),?_⟩
      rw [qL hq,List.length_set]; exact hl
    · obtain ⟨hJ,hl⟩:=hQ
      have hq:i < q.length:=by rw [hJ.len]; exact hi
      simp only [vx,Int.toNat_natCast]
      refine (ixR ⟨Int.natCast_nonneg _,Int.ofNat_lt.2 hq⟩).trans ?_
      refine (cF (decide_eq_false (by omega))).trans ?_
      refine (cF (decide_eq_false (by rw [hl]; omega))).trans ?_
      exact hk q hJ
  · simp only [jb]
    refine (cF (decide_eq_false (by rw [hI.len]; omega))).trans ?_
    exact zEs hd hf o3 c3 o m o5 o6 hal h5 h6
end
theorem st0 {a:zm} (hf:zp9 a) (hn:J a.2.1.length 0 a.2.1) (hal:qK () = some (true,())):zbN K0 (0,a,a.1,a.1,a.2.1,a.2.1.length,a.2.2.1,a.2.2.1.length,a.2.2.2.1,a.2.2.2.2.1,a.2.2.2.2.2.1,a.2.1,a.2.1.length,a.2.2.1,a.2.2.1.length,a.2.2.2.1,a.2.2.2.2.1,a.2.2.2.2.2.1) = some (true,()):=by
  refine j4 (B:=fun k0=>jg (vE K0 k0) (vB K0) k0) (α:=List zh) (len:=a.2.1.length) hf.shelves (fun i o=>(i,a,a.1,a.1,o,a.2.1.length,a.2.2.1,a.2.2.1.length,a.2.2.2.1,a.2.2.2.2.1,a.2.2.2.2.2.1,a.2.1,a.2.1.length,a.2.2.1,a.2.2.1.length,a.2.2.2.1,a.2.2.2.2.1,a.2.2.2.2.2.1)) (fun _ _=>some (true,())) (fun i o=>J a.2.1.length i o) (fun k i o hi hI hk=>?_) (fun k o hI=>?_) _ hn
  · have hi':i < o.length:=by rw [hI.len]; exact hi
    simp only [jg,Int.toNat_natCast]
    refine (cT (ltT hi')).trans ?_
    refine (ixR ⟨Int.natCast_nonneg _,Int.ofNat_lt.2 hi'⟩).trans ?_
    refine (cF (decide_eq_false (by omega))).trans ?_
    exact ss1 k hk hi o hI
  · simp only [jg]
    refine (cF (decide_eq_false (by rw [hI.len]; omega))).trans ?_
    have hrow:JR a.2.2.1.length a.2.2.1:=⟨rfl,fun j=>by
      by_cases hj:j < a.2.2.1.length
      · exact hf.rank _ (yc hj)
      · rw [List.getD_eq_getElem?_getD,List.getElem?_eq_none (by omega)]; exact Nat.zero_le _⟩
    exact st8 rfl hf o a.2.1.length a.2.2.1 a.2.2.1.length a.2.2.2.1 a.2.2.2.2.1 hal hrow hf.ranks hf.orders hf.entries
def zCz (s:zm):Prop:=∀ x ∈ s.2.1,∀ y ∈ x.1,ByteArray.size y.2.1 ≤ 140737488355328
theorem zCm {s:zm} (h:WtR zt s):zCz s:=fun x hx y hy=>Nat.le_trans ((h.2.1.2 x hx).1.2 y hy).2.1 (by decide)
theorem zBB:qK () = some (true,()):=by
  simp only [qK,zCl]
  kernel_rfl
theorem zzb {a b:zm} (hf:zyx a) (hn:zCz a) (hal:qK () = some (true,())):zaJ (a,b,()) = some (true,()):=by
  have hl:=zBA hf
  have hJ:J a.2.1.length 0 a.2.1:=by
    refine ⟨rfl,fun j=>?_,fun j _ k=>?_⟩
    · by_cases hj:j < a.2.1.length
      · exact hl.shelf _ (yc hj)
      · rw [List.getD_eq_getElem?_getD,List.getElem?_eq_none (by omega)]
        exact ⟨Nat.zero_le _,Nat.zero_le _,Nat.zero_le _,Nat.zero_le _,Nat.zero_le _,Nat.zero_le _,Nat.zero_le _⟩
    · by_cases hj:j < a.2.1.length
      · by_cases hk:k < (a.2.1.getD j za).1.length
        · exact hn _ (yc hj) _ (yc hk)
        · rw [List.getD_eq_getElem?_getD (l:=(a.2.1.getD j za).1),List.getElem?_eq_none (by omega)]; exact Nat.zero_le _
      · have e:a.2.1.getD j za = za:=by rw [List.getD_eq_getElem?_getD,List.getElem?_eq_none (by omega)]; rfl
        rw [e]
        exact Nat.zero_le _
  have h0:=st0 hl hJ hal
  simp only [zaJ,zaI]
  refine (bnd (zds hf)).trans ?_
  refine (bnd ((ze4 hl).trans (by rw [zhI]))).trans ?_
  refine (cT rfl).trans ?_
  refine (bnd (ze5 hl)).trans ?_
  cases hab:zhH a b with
  | true =>
    refine (cT rfl).trans ?_
    refine (bnd ((ze4 hl).trans (by rw [hab]))).trans ?_
    refine (cT rfl).trans ?_
    refine (bnd ((ze5 hl).trans (by rw [zhI]))).trans ?_
    refine (cT rfl).trans ?_
    refine (bnd (zds hf)).trans ?_
    exact h0
  | false =>
    refine (cF rfl).trans ?_
    refine (bnd ((ze4 hl).trans (by rw [hab]))).trans ?_
    refine (cF rfl).trans ?_
    refine (bnd ((ze5 hl).trans (by rw [zhI]))).trans ?_
    refine (cT rfl).trans ?_
    refine (bnd (zds hf)).trans ?_
    exact h0
end Go.Proofs.YtlklokhlgcfcdaaGreatDoor
end
section
namespace Go.Proofs.YtlklokhlgcfcdaaGreatDoor.fnStateSame
open Go.ChangeShapes Go.WideShapes Go.ChangeAt Go.RowKit Go.Ev
abbrev tab:List Int:=[0,1,56,2,57,49,28,3,61,58,42,50,38,29,17,4,62,47,59,36,45,43,51,22,53,39,33,30,24,18,12,5,63,55,48,27,60,41,37,16,46,35,44,21,52,32,23,11,54,26,40,15,34,20,31,10,25,14,19,9,13,8,7,6]
theorem own:ownKnob Tryz.prog.godebug = none:=by kernel_rfl
theorem gTab:Tryz.prog.globalNamed "math/bits.deBruijn64tab" = some 0:=by kernel_rfl
theorem zCn:(Tryz.prog.globals[0]?).map (·.type) = some 281:=by kernel_rfl
theorem cellsA:Tryz.prog.cellsOf 281 = 64:=by kernel_rfl
theorem zDY:Tryz.prog.cellsOf 5 = 1:=by kernel_rfl
theorem zEt:Tryz.prog.underlying 281 = some (.array 64 5):=by kernel_rfl
theorem zEu:Tryz.prog.underlying 5 = some (.int .u8):=by kernel_rfl
theorem table {W:World} (h:laidMetH Tryz.prog Rows.stateSameRow.laid W):Lib.TabIs Tryz.prog W "math/bits.deBruijn64tab" .u8 tab :=
  Lib.tabIs_of_head gTab zCn zEt zEu zDY cellsA h
theorem zzv {W:World} {j:Nat} {v:Value} (h:W.cell? ⟨0,j,none⟩ = some v):∃ c,FH.of W 0 = some c ∧ c[j]? = some v:=by
  unfold World.cell? at h
  simp only at h
  split at h
  · rename_i c el fz hk
    exact ⟨c,by simp [FH.of,hk],by simpa using h⟩
  · cases h
def ze6:List Int→List Value:=List.map (Value.int .u8)
theorem zDZ (P:Program) (F:FH):∀ l:List Int,RepL (Rep P F (.int .u8)) l (ze6 l)
  | []=>rfl
  | x :: l=>⟨[.int .u8 x],ze6 l,rfl,rfl,zDZ P F l⟩
theorem zEf:∀ f add,Ev.look ext f = some add→ExtOk Tryz.prog f add:=by
  intro f add h
  have h':(Nat.beq 148 f = true ∧ add = false) ∨ (Nat.beq 230 f = true ∧ add = true):=by
    simp only [ext,Ev.look] at h
    cases h1:Nat.beq 148 f with
    | true=>rw [h1] at h; exact .inl ⟨rfl,(Option.some.inj h).symm⟩
    | false =>
      rw [h1] at h
      cases h2:Nat.beq 230 f with
      | true=>rw [h2] at h; exact .inr ⟨rfl,(Option.some.inj h).symm⟩
      | false=>rw [h2] at h; cases h
  rcases h' with ⟨h1,rfl⟩ | ⟨h1,rfl⟩
  · obtain rfl:=Nat.eq_of_beq_eq_true h1
    intro x y w hx hy hy2
    obtain ⟨m,rfl⟩:=Int.eq_ofNat_of_zero_le hx
    obtain ⟨n,rfl⟩:=Int.eq_ofNat_of_zero_le hy
    rw [run_callFunc_extern (P:=Tryz.prog) (f:=148) Tryz.func148 (by kernel_rfl) (by kernel_rfl) (by kernel_rfl) (e:=sub64Entry) (by kernel_rfl)]
    have h0:(sub64Entry #[.int .u64 (m:Int),.int .u64 (n:Int),.int .u64 0]).run Tryz.prog w = .ok (.tuple #[.int .u64 (((m + 18446744073709551616 - n - 0) % 18446744073709551616:Nat):Int),.int .u64 ((if m < n + 0 then 1 else 0:Nat):Int)]) w:=run_sub64 m n 0 (by omega) w
    have e1:extA false (m:Int) (n:Int) = (((m + 18446744073709551616 - n - 0) % 18446744073709551616:Nat):Int):=by
      show ((m:Int) - (n:Int)) % 18446744073709551616 = _
      omega
    have e2:extB false (m:Int) (n:Int) = ((if m < n + 0 then 1 else 0:Nat):Int):=by
      show cond (decide ((m:Int) < (n:Int))) 1 0 = _
      by_cases h:m < n
      · rw [decide_eq_true (by omega),if_pos (by omega)]; rfl
      · rw [decide_eq_false (by omega),if_neg (by omega)]; rfl
    rw [h0,e1,e2]
    rfl
  · obtain rfl:=Nat.eq_of_beq_eq_true h1
    intro x y w hx hy hy2
    rw [run_callFunc_extern (P:=Tryz.prog) (f:=230) Tryz.func230 (by kernel_rfl) (by kernel_rfl) (by kernel_rfl) (e:=add64Entry) (by kernel_rfl),run_add64 x y 0 hx hy (by omega) (by omega),Int.add_zero]
    rfl
theorem env {W:World} (hL:laidMetH Tryz.prog Rows.stateSameRow.laid W):EnvOk Tryz.prog (FH.of W) E0:=by
  refine EnvOk.nil (by kernel_rfl) (fun g v hv=>?_) zEf
  have ht:=table hL
  obtain ⟨c,hc,-⟩:=zzv (ht.cell gTab 0 (by decide))
  have hg:g = 0:=by
    have hv2:Ev.look glob g = some v:=hv
    simp only [glob,Ev.look] at hv2
    cases hb:Nat.beq 0 g with
    | true=>exact (Nat.eq_of_beq_eq_true hb).symm
    | false=>rw [hb] at hv2; cases hv2
  subst hg
  have hv':some (AV.dat (.ptr (.arr 64 (.int .u8))) (some tab)) = some v:=hv
  cases hv'
  refine ⟨.arr 64 (.int .u8),tab,ze6 tab,rfl,⟨rfl,c,hc,fun j v hj=>?_⟩,⟨rfl,zDZ _ _ tab⟩⟩
  have hj':j < tab.length:=by
    have:=List.getElem?_eq_some_iff.1 hj
    obtain ⟨h,-⟩:=this
    simpa [ze6] using h
  obtain ⟨c',hc',h0⟩:=zzv (ht.cell gTab j hj')
  rw [hc] at hc'
  obtain rfl:=Option.some.inj hc'
  have:(ze6 tab)[j]? = some (.int .u8 (tab.getD j 0)):=by
    unfold ze6
    rw [List.getElem?_map,List.getD_eq_getElem?_getD,List.getElem?_eq_getElem hj']; rfl
  rw [this] at hj
  rw [← hj]
  show c[0 + j]? = _
  rw [Nat.zero_add]; exact h0
set_option maxRecDepth 100000 in
theorem zCo (H:Type) (enc:TypeId × Value→H) (W:World) (base:Nat) (args:Array Value) (ds gs:List (DataW H)) (before:List MemPlace)
    (hval:∀ (j:Nat) t v,Tryz.f3.params[j]? = some t→args[j]? = some v→Value.okWide Tryz.prog W .any base t v)
    (hW:DataW.Whole enc Tryz.prog Tryz.f3.params.toList Rows.stateSameSpec.vars false W args.toList ds gs before) (hL:laidMetH Tryz.prog Rows.stateSameRow.laid W) {us:List TypeId} (hz:(DataW.weightsEach Tryz.prog (Tryz.f3.params.toList ++ us) (ds ++ gs)).all (· ≤ reachBytes) = true) :
    Calls Tryz.prog 3 args W fun e W'=>∃ v,e = .returned v ∧ Rows.stateSameSpec.post enc Tryz.prog Tryz.f3 false true false false W args v W':=by
  refine zv0 (a:=zqw) (tb:=4) (by kernel_rfl) (by decide +kernel) (by kernel_rfl) (by kernel_rfl) (by kernel_rfl) rfl (fun ds hd=>?_) hval hW fun x hx hbk hwt hr=>?_
  · have:Tryz.f3.params.size = 2:=by kernel_rfl
    rw [this] at hd
    match ds,hd with
    | [d1,d2],_=>rfl
  · have hs:=zqW (FH.of W) (env hL)
    have hwt:=hwt fun n hn=>of_decide_eq_true (List.all_eq_true.1 hz n (ztf hn))
    have he:zaJ x = some (true,()):=by
      obtain ⟨a,b,⟨⟩⟩:=x
      exact zzb (zDc hwt.1) (zCm hwt.1) zBB
    have hc:=hs.2 x (true,()) he (FH.of W) W args.toList (FH.le.refl _) (FH.of_ok W) hr
    refine hc.mono fun e W' he=>?_
    obtain ⟨us,F',h1,h2,_,_,h3⟩:=he
    refine ⟨?_,h2⟩
    obtain ⟨v,r,hus,hv,hva,hnil⟩:=(show RepA Tryz.prog F' (.pair .bool .unit) (true,()) us from h3)
    have hr0:r = []:=hnil
    subst hr0
    have hv':v.cells.toList = [.bool true]:=hv
    rw [h1,hus]
    have hva':isAggV v = false:=hva
    have:v = .bool true:=by
      cases v <;> first | (simp [isAggV] at hva'; done) | (simp [Value.cells] at hv'; exact congrArg _ hv') | (simp [Value.cells] at hv')
    rw [this]
    rfl
def zCp (l:List Value):Obj→Obj
  | .cells _ t frozen=>.cells l.toArray t frozen
  | o=>o
noncomputable def laidWorld (os:Os):World :=
  { World.holding Tryz.prog os ⟨#[],#[],[]⟩ with heap:=(((World.holding Tryz.prog os ⟨#[],#[],[]⟩).heap.modify 0 (zCp (ze6 tab))).modify 1 (zCp (ze6 (Pinned.utf8FirstZ.map fun n:Nat=>(n:Int))))).modify 2 (zCp (ze6 [128,191,160,191,128,159,144,191,128,143,0,0,0,0,0,0,0,0,0,0,0,0,0,0,0,0,0,0,0,0,0,0])) }
def arg0:Value:=.agg #[.int .u64 0,.slice none 0 0,.slice none 0 0,.slice none 0 0,.slice none 0 0,.slice none 0 0]
def zAv:Value:=.agg #[.int .u64 0,.slice none 0 0,.slice none 0 0,.slice none 0 0,.slice none 0 0,.slice none 0 0]
theorem laid_met (os:Os):laidMet Tryz.prog Rows.stateSameRow.laid ((laidWorld os).forCall (fun _ _=>0) ⟨#[],#[arg0,zAv],[]⟩).memory :=
  laidMet_of_run' 8 (by kernel_rfl) (by kernel_rfl)
theorem reads (os:Os) {H:Type} (enc:TypeId × Value→H):∃ places,DataW.whole enc Tryz.prog ((laidWorld os).forCall (fun _ _=>0) ⟨#[],#[arg0,zAv],[]⟩).memory Tryz.f3.params.toList Rows.stateSameSpec.vars false #[arg0,zAv].toList 8 = some ([.agg [.lit (.int .u64 0),.nil,.nil,.nil,.nil,.nil],.agg [.lit (.int .u64 0),.nil,.nil,.nil,.nil,.nil]],[],places) :=
  ⟨[],by kernel_rfl⟩
set_option maxRecDepth 100000 in
theorem lifted (os:Os) (started:os.Started) (H:Type) (enc:TypeId × Value→H) (F:Stop.Interp) :
    ReturnsInHanded {} Tryz.checked os 3 .any ((OpenSpec.ofChange Rows.stateSameSpec).preRow enc Tryz.prog Tryz.f3 Rows.stateSameRow.domain false Rows.stateSameRow.laid) (((OpenSpec.ofChange Rows.stateSameSpec).at F).post enc Tryz.prog Tryz.f3 false true false false):=by
  obtain ⟨places,hx⟩:=reads os enc
  refine returnsInHanded_of_row (C:=Tryz.checked) (s:=OpenSpec.ofChange Rows.stateSameSpec) own started (by kernel_rfl) Tryz.func3
    (witness_row_at (enc:=enc) (C:=Tryz.checked) false (laidWorld os) #[arg0,zAv] rfl (by kernel_rfl) (by kernel_rfl) (by kernel_rfl)
      (OpenSpec.preRow_of_cond 8 hx (by kernel_rfl) (fun k hk=>by cases hk) (by kernel_rfl) (laid_met os))) ?_
  intro W base args ds gs before hval hW _ _ hz hL _ _
  exact zCo H enc W base args ds gs before hval hW hL hz
end Go.Proofs.YtlklokhlgcfcdaaGreatDoor.fnStateSame
end
section
namespace Go.Proofs.YtlklokhlgcfcdaaGreatDoor.fnStateSame
open Go.ChangeShapes Go.WideShapes Go.ChangeAt Go.RowKit Go.Ev
theorem k2:laidOutB Tryz.prog = true:=by kernel_rfl
theorem k3:mapsRowed Tryz.prog = true:=by kernel_rfl
theorem k10:(Rows.stateSameRow.inPlace == Tryz.prog.inPlace 3) = true:=by kernel_rfl
theorem k11:(Rows.stateSameRow.unfollowed == Tryz.prog.unfollowed 3) = true:=by kernel_rfl
theorem k12:(Rows.stateSameRow.recurses == Tryz.prog.recurses 3) = true:=by kernel_rfl
theorem k13:(Rows.stateSameRow.named == Tryz.prog.varsNamed 3) = true:=by kernel_rfl
theorem k23:(Rows.stateSameRow.plainKeys == Tryz.prog.plainKeys) = true:=by kernel_rfl
theorem k24:Tryz.prog.stopsHeard = true:=by kernel_rfl
theorem k25:Tryz.prog.mayEnter = true:=by kernel_rfl
theorem k26:(Rows.stateSameRow.lifted == Tryz.prog.liftsFinal) = true:=by kernel_rfl
theorem k27:(Tryz.prog.make == some Rows.stateSameRow.make) = true:=by kernel_rfl
theorem zDe:joinedFacts Tryz.prog 3 Tryz.f3 (OpenSpec.ofChange Rows.stateSameSpec).bare Rows.stateSameRow = true:=by
  unfold joinedFacts
  rw [k2,k3,k10,k11,k12,k13,k23,k24,k25,k26,k27]
  kernel_rfl
theorem peq:Tryz.pinned.checked.prog = Tryz.prog:=by kernel_rfl
theorem closed:joinedFacts Tryz.pinned.checked.prog 3 Tryz.f3 (OpenSpec.ofChange Rows.stateSameSpec).bare Rows.stateSameRow = true:=by
  rw [peq]; exact zDe
end Go.Proofs.YtlklokhlgcfcdaaGreatDoor.fnStateSame
end
