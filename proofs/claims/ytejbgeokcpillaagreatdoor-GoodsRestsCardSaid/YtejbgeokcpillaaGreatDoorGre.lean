import Derived.Test.YtejbgeokcpillaaGreatDoorGrd
import Derived.Shelf.Spec.BitsCarry
import Derived.Test.YtejbgeokcpillaaGreatDoorCards
import Derived.Test.YtejbgeokcpillaaGreatDoorTie
import Derived.ProofKit
import Derived.OpenShut
import Derived.Deep.DeepHandedRow
set_option linter.unusedVariables false
set_option linter.unusedSimpArgs false
section
namespace Go.Proofs.YtejbgeokcpillaaGreatDoor
open Go.Ev
noncomputable section
abbrev zb7:Type:=Int × (List zg) × Int × Int × qI
abbrev zw4:zb7→St:=fun (v3,v65,v66,v67,o0)=>St.mk [(1,.bp 0 []),(3,.dat tI v3),(65,.dat (.sl zn) v65),(66,.dat tI v66),(67,.dat tI v67)] [.bx (.dat qa o0) false]
def zee (k0:zb7→Option (Bool × Unit)):zb7→Option (Bool × Unit):=fun (v3,v65,v66,v67,o0) =>
  bif decide (v67 < v66) then inR v67 ((List.length v65):Int) (inR v67 ((List.length o0.1.2.2.2.2.1):Int) (bif ((List.length (ix zf v65 v67).1):Int) != (ix jU o0.1.2.2.2.2.1 v67).1 then some (false,()) else bif ((List.length (ix zf v65 v67).2.1):Int) != (ix jU o0.1.2.2.2.2.1 v67).2.1 then some (false,()) else bif ((List.length (ix zf v65 v67).2.2.1):Int) != (ix jU o0.1.2.2.2.2.1 v67).2.2.1 then some (false,()) else bif ((List.length (ix zf v65 v67).2.2.2.1):Int) != (ix jU o0.1.2.2.2.2.1 v67).2.2.2.1 then some (false,()) else bif ((List.length (ix zf v65 v67).2.2.2.2.1):Int) != (ix jU o0.1.2.2.2.2.1 v67).2.2.2.2.1 then some (false,()) else bif ((List.length (ix zf v65 v67).2.2.2.2.2.1):Int) != v3 then some (false,()) else bif ((List.length (ix zf v65 v67).2.2.2.2.2.2.1):Int) != v3 then some (false,()) else k0 (v3,v65,v66,wI (v67 + 1),o0))) else some (true,())
abbrev zhR (K:Nat):zb7→Option (Bool × Unit):=zm zee K
theorem zw5 (K:Nat):∀ n,evV Es7 K Tryz.f62 0 (ch [.bool]) [1,1,1,0,1,0] [] zw4 n = zm zee n:=zw fun n0 (v3,v65,v66,v67,o0)=>by kernel_rfl
def zgb (L0:zb7→Option (Bool × Unit)):(qI × Unit)→Option (Bool × Unit):=fun (x0,()) =>
  Option.bind (zaa (x0.1,())) fun q0=>bif q0.1 then bif ((List.length x0.2.1.2.1):Int) != ((List.length x0.1.1):Int) then some (false,()) else bif ((List.length x0.2.1.2.2.2.1):Int) != x0.1.2.2.2.2.2.1 then some (false,()) else bif decide (((List.length x0.2.1.2.2.2.2.1):Int) > x0.1.2.2.2.2.2.2.1) then some (false,()) else bif ((List.length x0.2.1.2.2.2.2.2.1):Int) != ((List.length x0.1.2.1):Int) then some (false,()) else bif decide (x0.2.1.1 > 4611686018427387904) then some (false,()) else L0 (((List.length x0.1.2.2.1):Int),x0.2.1.2.1,((List.length x0.2.1.2.1):Int),0,x0) else some (false,())
def zbo:(qI × Unit)→Option (Bool × Unit):=zgb (zhR K0)
abbrev zqu:Fun:=⟨62,(ch [qa]),(ch [.bool]),0,zbo⟩
theorem zz4:Sq zqu:=ml7 (d:=false) (S:=fun K=>zgb (zhR K)) Tryz.func62 (by kernel_rfl) (fun K=>tr1 (T:=zgb) (zw5 K K) fun (x0,())=>by kernel_rfl) rfl
def zbp:(qI × Unit)→Option (Bool × Unit):=fun (x0,()) =>
  Option.bind (zft (x0.2.1.2.1,some zed,())) fun q0=>bif q0.1 then some (true,()) else some (false,())
abbrev zqv:Fun:=⟨63,(ch [qa]),(ch [.bool]),0,zbp⟩
theorem zz5:Sq zqv:=ms7 (d:=false) (K:=0) Tryz.func63 (by kernel_rfl) (funext fun (x0,())=>by kernel_rfl)
abbrev zc4:Type:=(Option ((Int × Unit)→Option (Bool × Unit))) × (List (List Int)) × Int × Int × ze
abbrev zyu:zc4→St:=fun (v5,v19,v20,v21,o0)=>St.mk [(2,.bp 0 []),(5,.dat (.fn (.pair tI .unit) (.pair .bool .unit)) v5),(19,.dat (.sl (.sl tI)) v19),(20,.dat tI v20),(21,.dat tI v21)] [.bx (.dat zy o0) false]
def ze7 (k0:zc4→Option (Bool × Unit)):zc4→Option (Bool × Unit):=fun (v5,v19,v20,v21,o0) =>
  bif decide (v21 < v20) then inR v21 ((List.length v19):Int) (bif ((List.length (List.getD v19 (Int.toNat v21) ([]:List Int))):Int) != ((List.length o0.2.2.1):Int) then some (false,()) else Option.bind (qy (List.getD v19 (Int.toNat v21) ([]:List Int),v5,())) fun q1=>bif q1.1 then some (false,()) else inR v21 ((List.length o0.2.2.2.1):Int) (inR (ix qO o0.2.2.2.1 v21).2.1 ((List.length (List.getD v19 (Int.toNat v21) ([]:List Int))):Int) (bif List.getD (List.getD v19 (Int.toNat v21) ([]:List Int)) (Int.toNat (ix qO o0.2.2.2.1 v21).2.1) (0:Int) != 2 then some (false,()) else k0 (v5,v19,v20,wI (v21 + 1),o0)))) else some (true,())
abbrev ziM (K:Nat):zc4→Option (Bool × Unit):=zm ze7 K
theorem zyv (K:Nat):∀ n,evV Es7 K Tryz.f109 0 (ch [.bool]) [1,1,1,0,1,0] [] zyu n = zm ze7 n:=zw fun n0 (v5,v19,v20,v21,o0)=>by kernel_rfl
def zhS (L0:zc4→Option (Bool × Unit)):(ze × ((List (List Int)) × Unit))→Option (Bool × Unit):=fun (x0,x1,()) =>
  Option.bind (zaa (x0,())) fun q0=>bif q0.1 then bif ((List.length x1):Int) != ((List.length x0.2.2.2.1):Int) then some (false,()) else L0 (some zaD,x1,((List.length x1):Int),0,x0) else some (false,())
def zhT:(ze × (List (List Int)) × Unit)→Option (Bool × Unit):=zhS (ziM K0)
abbrev zsl:Fun:=⟨109,(ch [zy,(.sl (.sl tI))]),(ch [.bool]),0,zhT⟩
theorem zB4:Sq zsl:=ml7 (d:=false) (S:=fun K=>zhS (ziM K)) Tryz.func109 (by kernel_rfl) (fun K=>tr1 (T:=zhS) (zyv K K) fun (x0,x1,())=>by kernel_rfl) rfl
def zgc:((List zj) × (Int × (Int × Unit)))→Option ((List zj) × (Int × Unit)):=fun (x0,x1,x2,()) =>
  Option.bind (jK (x2,())) fun q0=>Option.bind (jK (x2,())) fun q1=>Option.bind (za0 (x0,x1,q0.1,q1.1,())) fun q2=>bif q2.2.1 != 0 then some ([],q2.2.1,()) else Option.bind (zcq (x0,())) fun q3=>Option.bind (zaG (q3.1,x1,zd zl,())) fun q4=>some q4
abbrev zqw:Fun:=⟨75,(ch [(.sl zl),tI,tI]),(ch [(.sl zl),tI]),0,zgc⟩
theorem zz6:Sq zqw:=ms7 (d:=false) (K:=0) Tryz.func75 (by kernel_rfl) (funext fun (x0,x1,x2,())=>by kernel_rfl)
def zhU:((List zj) × (Int × (Int × (zL × Unit))))→Option ((List zj) × (Int × Unit)):=fun (x0,x1,x2,x3,()) =>
  Option.bind (jK (x2,())) fun q0=>Option.bind (zcS (x3,())) fun q1=>Option.bind (za0 (x0,x1,q0.1,q1.1,())) fun q2=>some q2
abbrev zsm:Fun:=⟨77,(ch [(.sl zl),tI,tI,zC]),(ch [(.sl zl),tI]),0,zhU⟩
theorem zB5:Sq zsm:=ms7 (d:=false) (K:=0) Tryz.func77 (by kernel_rfl) (funext fun (x0,x1,x2,x3,())=>by kernel_rfl)
def zhV:((List zj) × (Int × (Int × (zL × Unit))))→Option ((List zj) × (Int × Unit)):=fun (x0,x1,x2,x3,()) =>
  Option.bind (zcS (x3,())) fun q0=>Option.bind (jK (x2,())) fun q1=>Option.bind (za0 (x0,x1,q0.1,q1.1,())) fun q2=>some q2
abbrev zsn:Fun:=⟨79,(ch [(.sl zl),tI,tI,zC]),(ch [(.sl zl),tI]),0,zhV⟩
theorem zB6:Sq zsn:=ms7 (d:=false) (K:=0) Tryz.func79 (by kernel_rfl) (funext fun (x0,x1,x2,x3,())=>by kernel_rfl)
def zhW:((List zj) × (Int × (Int × (Int × Unit))))→Option ((List zj) × (Int × Unit)):=fun (x0,x1,x2,x3,()) =>
  Option.bind (jK (x2,())) fun q0=>Option.bind (jK (x3,())) fun q1=>Option.bind (za0 (x0,x1,q0.1,q1.1,())) fun q2=>some q2
abbrev zso:Fun:=⟨81,(ch [(.sl zl),tI,tI,tI]),(ch [(.sl zl),tI]),0,zhW⟩
theorem zB7:Sq zso:=ms7 (d:=false) (K:=0) Tryz.func81 (by kernel_rfl) (funext fun (x0,x1,x2,x3,())=>by kernel_rfl)
abbrev zeD:Type:=(List zL) × Int × Int × ze × List (List Int) × Nat
abbrev zB8:zeD→St:=fun (v11,v12,v13,o0,o1,c1)=>St.mk [(1,.bp 0 []),(3,.ow 1),(11,.dat (.sl yK) v11),(12,.dat tI v12),(13,.dat tI v13)] [.bx (.dat zy o0) false,.drow (.sl tI) o1 c1]
def zeE (k0:zeD→Option ((List (List Int)) × Unit)):zeD→Option ((List (List Int)) × Unit):=fun (v11,v12,v13,o0,o1,c1) =>
  bif decide (v13 < v12) then inR v13 ((List.length v11):Int) (bif decide (((List.length o0.2.2.1):Int) ≤ ((List.length o0.2.2.1):Int)) then bif decide (((List.length o0.2.2.1):Int) ≤ (↑lim:Int)) then inR (ix qO v11 v13).2.1 ((List.length (List.replicate (Int.toNat ((List.length o0.2.2.1):Int)) (0:Int))):Int) (bif decide (List.length o1 + List.length [List.set (List.replicate (Int.toNat ((List.length o0.2.2.1):Int)) (0:Int)) (Int.toNat (ix qO v11 v13).2.1) 2] ≤ lim) then bif decide (c1 = List.length o1) then k0 (v11,v12,wI (v13 + 1),o0,o1 ++ [List.set (List.replicate (Int.toNat ((List.length o0.2.2.1):Int)) (0:Int)) (Int.toNat (ix qO v11 v13).2.1) 2],c1 + (0 + 1)) else none else none) else none else none) else bif decide (c1 = List.length o1) then some (o1,()) else none
abbrev zsp (K:Nat):zeD→Option ((List (List Int)) × Unit):=zm zeE K
theorem zB9 (K:Nat):∀ n,evV Ed7 K Tryz.f95 4 (ch [(.sl (.sl tI))]) [1,1,1,0,1,0] [] zB8 n = zm zeE n:=zw fun n0 (v11,v12,v13,o0,o1,c1)=>by kernel_rfl
def zkC (L0:zeD→Option ((List (List Int)) × Unit)):(ze × Unit)→Option ((List (List Int)) × Unit):=fun (x0,()) =>
  Option.bind (zaa (x0,())) fun q0=>bif q0.1 then L0 (x0.2.2.2.1,((List.length x0.2.2.2.1):Int),0,x0,[],0) else some ([],())
def zkD:(ze × Unit)→Option ((List (List Int)) × Unit):=zkC (zsp K0)
abbrev zw6:Fun:=⟨95,(ch [zy]),(ch [(.sl (.sl tI))]),4,zkD⟩
theorem zFs:Sq zw6:=ml7 (d:=true) (S:=fun K=>zkC (zsp K)) Tryz.func95 (by kernel_rfl) (fun K=>tr1 (T:=zkC) (zB9 K K) fun (x0,())=>by kernel_rfl) rfl
def zhX:(ze × (Int × Unit))→Option (Bool × Unit):=fun (x0,x1,()) =>
  Option.bind (zaa (x0,())) fun q0=>bif q0.1 then Option.bind (qj (x1,0,wI (((List.length x0.1):Int) - 1),())) fun q1=>bif q1.1 then some (true,()) else some (false,()) else some (false,())
abbrev zm6:Fun:=⟨91,(ch [zy,tI]),(ch [.bool]),0,zhX⟩
theorem zw7:Sq zm6:=ms7 (d:=false) (K:=0) Tryz.func91 (by kernel_rfl) (funext fun (x0,x1,())=>by kernel_rfl)
abbrev L8:List Fun:=zqu :: zqv :: zsl :: zqw :: zsm :: zsn :: zso :: zw6 :: zm6 :: L7
theorem h8:Sds Tryz.prog E0 L8:=⟨zz4,zz5,zB4,zz6,zB5,zB6,zB7,zFs,zw7,h7⟩
theorem ms8 {d:Bool} {F:Fun} {f:Go.Func} {K:Nat} (hf:Tryz.prog.funcs[F.id]? = some f) (ho:qX f = true) (h:evF (En E0 d L8) K f F.md F.a F.r = F.spec):Sd Tryz.prog E0 F:=mkS h8 hf ho h
theorem ml8 {d:Bool} {F:Fun} {f:Go.Func} {S:Nat→F.a.I→Option F.r.I} (hf:Tryz.prog.funcs[F.id]? = some f) (ho:qX f = true) (h:∀ K,evF (En E0 d L8) K f F.md F.a F.r = S K) (e:S K0 = F.spec):Sd Tryz.prog E0 F:=mkS h8 hf ho ((h K0).trans e)
abbrev Ed8:Env:=En E0 true L8
def zaJ:(qI × Unit)→Option (Bool × Unit):=fun (x0,()) =>
  Option.bind (zhT (x0.1,x0.2.1.2.2.1,())) fun q0=>bif q0.1 then Option.bind (zlK (x0.2.1.2.2.2.1,())) fun q1=>bif q1.1 then Option.bind (zjX (x0.2.1.2.2.2.2.1,())) fun q2=>bif q2.1 then Option.bind (zdH (x0.2.1,zd zC,())) fun q3=>bif q3.1 then Option.bind (zfu (x0.2.1.2.2.2.1,some fun z=>zdB (z.1,some x0,()),())) fun q4=>bif q4.1 then Option.bind (zcA (x0.2.1.2.2.2.2.1,some fun z=>zaS (z.1,some x0,()),())) fun q5=>bif q5.1 then Option.bind (yY (x0.2.1.2.2.2.2.2.1,some fun z=>vc (z.1,some x0,()),())) fun q6=>bif q6.1 then some (true,()) else some (false,()) else Option.bind (yY (x0.2.1.2.2.2.2.2.1,some fun z=>vc (z.1,some x0,()),())) fun q7=>bif q7.1 then some (false,()) else some (false,()) else Option.bind (zcA (x0.2.1.2.2.2.2.1,some fun z=>zaS (z.1,some x0,()),())) fun q8=>bif q8.1 then Option.bind (yY (x0.2.1.2.2.2.2.2.1,some fun z=>vc (z.1,some x0,()),())) fun q9=>bif q9.1 then some (false,()) else some (false,()) else Option.bind (yY (x0.2.1.2.2.2.2.2.1,some fun z=>vc (z.1,some x0,()),())) fun q10=>bif q10.1 then some (false,()) else some (false,()) else some (false,()) else some (false,()) else some (false,()) else some (false,())
abbrev zoG:Fun:=⟨64,(ch [qa]),(ch [.bool]),0,zaJ⟩
theorem zyw:Sq zoG:=ms8 (d:=false) (K:=0) Tryz.func64 (by kernel_rfl) (funext fun (x0,())=>by kernel_rfl)
def zhY:((List zj) × ((Option Int) × ((Option pMe) × Unit)))→Option ((List zj) × (Int × Unit)):=fun (x0,x1,x2,()) =>
  Option.bind x1 fun q0=>Option.bind x2 fun q1=>Option.bind (zgc (x0,q0,q1.2.2.1,())) fun q2=>some q2
abbrev zm7:Fun:=⟨74,(ch [(.sl zl),(.ptr tI),(.ptr tMe)]),(ch [(.sl zl),tI]),0,zhY⟩
theorem zw8:Sq zm7:=ms8 (d:=false) (K:=0) Tryz.func74 (by kernel_rfl) (funext fun (x0,x1,x2,())=>by kernel_rfl)
def ziN:((List zj) × ((Option Int) × ((Option pMe) × ((Option zb) × Unit))))→Option ((List zj) × (Int × Unit)):=fun (x0,x1,x2,x3,()) =>
  Option.bind x1 fun q0=>Option.bind x2 fun q1=>Option.bind x3 fun q2=>Option.bind x2 fun q3=>Option.bind (vX (q2,q3,())) fun q4=>Option.bind (zhU (x0,q0,q1.2.2.1,q4.1,())) fun q5=>some q5
abbrev zoH:Fun:=⟨76,(ch [(.sl zl),(.ptr tI),(.ptr tMe),(.ptr zq)]),(ch [(.sl zl),tI]),0,ziN⟩
theorem zyx:Sq zoH:=ms8 (d:=false) (K:=0) Tryz.func76 (by kernel_rfl) (funext fun (x0,x1,x2,x3,())=>by kernel_rfl)
def ziO:((List zj) × ((Option Int) × ((Option pMe) × ((Option zb) × Unit))))→Option ((List zj) × (Int × Unit)):=fun (x0,x1,x2,x3,()) =>
  Option.bind x1 fun q0=>Option.bind x2 fun q1=>Option.bind x3 fun q2=>Option.bind x2 fun q3=>Option.bind (vX (q2,q3,())) fun q4=>Option.bind (zhV (x0,q0,q1.2.2.1,q4.1,())) fun q5=>some q5
abbrev zoI:Fun:=⟨78,(ch [(.sl zl),(.ptr tI),(.ptr tMe),(.ptr zq)]),(ch [(.sl zl),tI]),0,ziO⟩
theorem zyy:Sq zoI:=ms8 (d:=false) (K:=0) Tryz.func78 (by kernel_rfl) (funext fun (x0,x1,x2,x3,())=>by kernel_rfl)
abbrev zdN:Type:=Int × Int × Int × Int × List zg × Nat × List (List Int) × Nat × List zp × List zH × List Int × List zg × Nat × List (List Int) × Nat × List zp × List zH × List Int
abbrev zqx:zdN→St:=fun (v42,v43,o0_0,o1_0,o2,c2,o3,c3,o4,o5,o6,o7,c7,o8,c8,o9,o10,o11)=>St.mk [(2,.bp 0 []),(4,.bp 1 []),(42,.dat tI v42),(43,.dat tI v43)] [.bx (.fld (.pair tU (.pair (.sl zn) (.pair (.sl (.sl tI)) (.pair (.sl zo) (.pair (.sl zv) (.pair (.sl tI) .unit)))))) [.dat tU o0_0,.ow 2,.ow 3,.ow 4,.ow 5,.ow 6]) false,.bx (.fld (.pair tU (.pair (.sl zn) (.pair (.sl (.sl tI)) (.pair (.sl zo) (.pair (.sl zv) (.pair (.sl tI) .unit)))))) [.dat tU o1_0,.ow 7,.ow 8,.ow 9,.ow 10,.ow 11]) false,.drow zn o2 c2,.drow (.sl tI) o3 c3,.row zo o4 false,.row zv o5 false,.row tI o6 false,.drow zn o7 c7,.drow (.sl tI) o8 c8,.row zo o9 false,.row zv o10 false,.row tI o11 false]
abbrev zdO:Type:=(List zbA) × Int × Int × ze × Int × Int × List zg × Nat × List (List Int) × Nat × List zp × List zH × List Int × List zg × Nat × List (List Int) × Nat × List zp × List zH × List Int
abbrev zz7:zdO→St:=fun (v18,v19,v20,o0,o1_0,o2_0,o3,c3,o4,c4,o5,o6,o7,o8,c8,o9,c9,o10,o11,o12)=>St.mk [(1,.bp 0 []),(2,.bp 1 []),(4,.bp 2 []),(18,.dat (.sl zcI) v18),(19,.dat tI v19),(20,.dat tI v20)] [.bx (.dat zy o0) false,.bx (.fld (.pair tU (.pair (.sl zn) (.pair (.sl (.sl tI)) (.pair (.sl zo) (.pair (.sl zv) (.pair (.sl tI) .unit)))))) [.dat tU o1_0,.ow 3,.ow 4,.ow 5,.ow 6,.ow 7]) false,.bx (.fld (.pair tU (.pair (.sl zn) (.pair (.sl (.sl tI)) (.pair (.sl zo) (.pair (.sl zv) (.pair (.sl tI) .unit)))))) [.dat tU o2_0,.ow 8,.ow 9,.ow 10,.ow 11,.ow 12]) false,.drow zn o3 c3,.drow (.sl tI) o4 c4,.row zo o5 false,.row zv o6 false,.row tI o7 false,.drow zn o8 c8,.drow (.sl tI) o9 c9,.row zo o10 false,.row zv o11 false,.row tI o12 false]
def zdP (k1:zdN→Option (zb × (Int × Unit))):zdN→Option (zb × (Int × Unit)):=fun (v42,v43,o0_0,o1_0,o2,c2,o3,c3,o4,o5,o6,o7,c7,o8,c8,o9,o10,o11) =>
  bif decide (v43 < v42) then bif decide (List.length o11 + List.length (zi (List.replicate 1 (0:Int)) 0 (-1)) ≤ lim) then k1 (v42,wI (v43 + 1),o0_0,o1_0,o2,c2,o3,c3,o4,o5,o6,o7,c7,o8,c8,o9,o10,o11 ++ zi (List.replicate 1 (0:Int)) 0 (-1)) else none else bif decide (c7 = List.length o7) then bif decide (c8 = List.length o8) then some ((o1_0,o7,o8,o9,o10,o11,()),0,()) else none else none
abbrev zdQ (K:Nat):zdN→Option (zb × (Int × Unit)):=zm zdP K
theorem zz8 (K:Nat):∀ n,evV Ed8 K Tryz.f57 3 (ch [zq,tI]) [1,1,1,1,1,0,1,0] [] zqx n = zm zdP n:=zw fun n1 (v42,v43,o0_0,o1_0,o2,c2,o3,c3,o4,o5,o6,o7,c7,o8,c8,o9,o10,o11)=>by kernel_rfl
def zbq (L1:zdN→Option (zb × (Int × Unit))) (k0:zdO→Option (zb × (Int × Unit))):zdO→Option (zb × (Int × Unit)):=fun (v18,v19,v20,o0,o1_0,o2_0,o3,c3,o4,c4,o5,o6,o7,o8,c8,o9,c9,o10,o11,o12) =>
  bif decide (v20 < v19) then inR v20 ((List.length v18):Int) (Option.bind (zf4 (o0,ix jU v18 v20,())) fun q2=>bif decide (List.length o8 + List.length [(q2.1.1,q2.1.2.1,q2.1.2.2.1,q2.1.2.2.2.1,q2.1.2.2.2.2.1,q2.1.2.2.2.2.2.1,q2.1.2.2.2.2.2.2.1,q2.1.2.2.2.2.2.2.2.1,q2.1.2.2.2.2.2.2.2.2.1,())] ≤ lim) then bif decide (c8 = List.length o8) then k0 (v18,v19,wI (v20 + 1),o0,o1_0,o2_0,o3,c3,o4,c4,o5,o6,o7,o8 ++ [(q2.1.1,q2.1.2.1,q2.1.2.2.1,q2.1.2.2.2.1,q2.1.2.2.2.2.1,q2.1.2.2.2.2.2.1,q2.1.2.2.2.2.2.2.1,q2.1.2.2.2.2.2.2.2.1,q2.1.2.2.2.2.2.2.2.2.1,())],c8 + (0 + 1),o9,c9,o10,o11,o12) else none else none) else bif decide (0 < ((List.length o8):Int)) then bif decide (c8 ≤ Int.toNat 0) then bif decide (0 < ((List.length (ix zf o8 0).1):Int)) then none else none else bif decide (0 < ((List.length (ix zf o8 0).1):Int)) then L1 (((List.length o0.2.1):Int),0,o1_0,o2_0,o3,c3,o4,c4,o5,o6,o7,List.set o8 (Int.toNat 0) (List.set (ix zf o8 0).1 (Int.toNat 0) (true,ByteArray.mk #[112,108,97,122,97],(zd qg).2.2),(ix zf o8 0).2),c8,o9,c9,o10,o11,o12) else none else none
abbrev zqy (K:Nat):zdO→Option (zb × (Int × Unit)):=zm (fun k0=>zbq (zdQ K) k0) K
theorem zz9 (K:Nat):∀ n,evV Ed8 K Tryz.f57 3 (ch [zq,tI]) [1,1,1,0,1,0] [] zz7 n = zm (fun k0=>zbq (zdQ K) k0) n:=zdb (B:=fun L1 k0=>zbq L1 k0) (V1:=fun n0=>evV Ed8 K Tryz.f57 3 (ch [zq,tI]) [1,1,1,1,1,0,1,0] [] zqx K) (W1:=fun k0=>(zdQ K)) (fun n0=>zz8 K K) fun n0 (v18,v19,v20,o0,o1_0,o2_0,o3,c3,o4,c4,o5,o6,o7,o8,c8,o9,c9,o10,o11,o12)=>by kernel_rfl
def zjd (L0:zdO→Option (zb × (Int × Unit))):(ze × Unit)→Option (zb × (Int × Unit)):=fun (x0,()) =>
  Option.bind (zaa (x0,())) fun q0=>bif q0.1 then Option.bind (zkD (x0,())) fun q1=>bif decide (0 ≤ x0.2.2.2.2.2.1) then bif decide (x0.2.2.2.2.2.1 ≤ x0.2.2.2.2.2.1) then bif decide (x0.2.2.2.2.2.1 ≤ (↑lim:Int)) then L0 (x0.2.2.2.2.1,((List.length x0.2.2.2.2.1):Int),0,x0,0,0,[],0,[],0,[],[],[],[],0,q1.1,List.length q1.1,List.replicate (Int.toNat x0.2.2.2.2.2.1) (zd zo),[],[]) else none else none else none else some ((0,[],[],[],[],[],()),1,())
def zfT:(ze × Unit)→Option (zb × Int × Unit):=zjd (zqy K0)
abbrev ztX:Fun:=⟨57,(ch [zy]),(ch [zq,tI]),3,zfT⟩
theorem zDP:Sq ztX:=ml8 (d:=true) (S:=fun K=>zjd (zqy K)) Tryz.func57 (by kernel_rfl) (fun K=>tr1 (T:=zjd) (zz9 K K) fun (x0,())=>by kernel_rfl) rfl
def ztY:(ze × (Int × (Int × Unit)))→Option (Bool × Unit):=fun (x0,x1,x2,()) =>
  Option.bind (zhX (x0,x1,())) fun q0=>bif q0.1 then Option.bind (zhX (x0,x2,())) fun q1=>bif q1.1 then inR x1 ((List.length x0.1):Int) (inR x2 ((List.length x0.1):Int) (Option.bind (jH (ix qN x0.1 x1,ix qN x0.1 x2,())) fun q2=>bif q2.1 then some (true,()) else some (false,()))) else some (false,()) else some (false,())
abbrev ztZ:Fun:=⟨52,(ch [zy,tI,tI]),(ch [.bool]),0,ztY⟩
theorem zDQ:Sq ztZ:=ms8 (d:=false) (K:=0) Tryz.func52 (by kernel_rfl) (funext fun (x0,x1,x2,())=>by kernel_rfl)
abbrev L9:List Fun:=zoG :: zm7 :: zoH :: zoI :: ztX :: ztZ :: L8
theorem h9:Sds Tryz.prog E0 L9:=⟨zyw,zw8,zyx,zyy,zDP,zDQ,h8⟩
theorem ms9 {d:Bool} {F:Fun} {f:Go.Func} {K:Nat} (hf:Tryz.prog.funcs[F.id]? = some f) (ho:qX f = true) (h:evF (En E0 d L9) K f F.md F.a F.r = F.spec):Sd Tryz.prog E0 F:=mkS h9 hf ho h
theorem ml9 {d:Bool} {F:Fun} {f:Go.Func} {S:Nat→F.a.I→Option F.r.I} (hf:Tryz.prog.funcs[F.id]? = some f) (ho:qX f = true) (h:∀ K,evF (En E0 d L9) K f F.md F.a F.r = S K) (e:S K0 = F.spec):Sd Tryz.prog E0 F:=mkS h9 hf ho ((h K0).trans e)
abbrev Es9:Env:=En E0 false L9
abbrev zb8:Type:=Bool × Int × Int × List (Option (Unit→Option (Bool × Unit)))
abbrev zw9:zb8→St:=fun (v6,v27,v28,o0)=>St.mk [(6,.dat .bool v6),(26,.ow 0),(27,.dat tI v27),(28,.dat tI v28)] [.row (.fn .unit (.pair .bool .unit)) o0 false]
def zef (k0:zb8→Option (Bool × Unit)):zb8→Option (Bool × Unit):=fun (v6,v27,v28,o0) =>
  bif decide (v28 < v27) then inR v28 ((List.length o0):Int) (Option.bind (List.getD o0 (Int.toNat v28) (zd (.fn .unit (.pair .bool .unit)))) fun q0=>Option.bind (q0 ()) fun q1=>bif q1.1 then k0 (true,v27,wI (v28 + 1),o0) else some (false,())) else some (v6,())
abbrev zm8 (K:Nat):zb8→Option (Bool × Unit):=zm zef K
theorem zxa (K:Nat):∀ n,evV Es9 K Tryz.f18 0 (ch [.bool]) [1,0,1,1,1,0,1,0] [] zw9 n = zm zef n:=zw fun n0 (v6,v27,v28,o0)=>by kernel_rfl
def zj1 (L0:zb8→Option (Bool × Unit)):(ze × (zb × Unit))→Option (Bool × Unit):=fun (x0,x1,()) =>
  L0 (true,((List.length (zi (zi (zi (zi (zi (zi (zi (List.replicate 7 (zd (.fn .unit (.pair .bool .unit)))) 0 (some fun z=>zbo ((x0,x1,(zd qa).2.2),()))) 1 (some fun z=>zbp ((x0,x1,(zd qa).2.2),()))) 2 (some fun z=>zaJ ((x0,x1,(zd qa).2.2),()))) 3 (some fun z=>zdJ ((x0,x1,(zd qa).2.2),()))) 4 (some fun z=>zaH ((x0,x1,(zd qa).2.2),()))) 5 (some fun z=>zdI ((x0,x1,(zd qa).2.2),()))) 6 (some fun z=>zdM ((x0,x1,(zd qa).2.2),())))):Int),0,[some fun z=>zbo ((x0,x1,(zd qa).2.2),()),some fun z=>zbp ((x0,x1,(zd qa).2.2),()),some fun z=>zaJ ((x0,x1,(zd qa).2.2),()),some fun z=>zdJ ((x0,x1,(zd qa).2.2),()),some fun z=>zaH ((x0,x1,(zd qa).2.2),()),some fun z=>zdI ((x0,x1,(zd qa).2.2),()),some fun z=>zdM ((x0,x1,(zd qa).2.2),())])
def j8:(ze × zb × Unit)→Option (Bool × Unit):=zj1 (zm8 K0)
abbrev zqz:Fun:=⟨18,(ch [zy,zq]),(ch [.bool]),0,j8⟩
theorem zAa:Sq zqz:=ml9 (d:=false) (S:=fun K=>zj1 (zm8 K)) Tryz.func18 (by kernel_rfl) (fun K=>tr1 (T:=zj1) (zxa K K) fun (x0,x1,())=>by kernel_rfl) rfl
def zfU:(ze × (zb × (zD × Unit)))→Option (zb × (Int × Unit)):=fun (x0,x1,x2,()) =>
  Option.bind (zfT (x0,())) fun q0=>bif q0.2.1 != 0 then some ((0,[],[],[],[],[],()),1,()) else Option.bind (jG (x2,())) fun q1=>bif q1.1 then Option.bind (zi5 (x0,x1,())) fun q2=>bif q2.1 then Option.bind (zd3 (x1.2.1,q0.1.2.1,some fun z=>zbm (z.1,some x0,some x2,()),())) fun q3=>Option.bind (zew (x1.2.2.1,q0.1.2.2.1,some fun z=>zf7 (z.1,some x0,some x2,()),())) fun q4=>Option.bind (zfo (x1.2.2.2.2.2.1,q0.1.2.2.2.2.2.1,some fun z=>zf5 (z.1,some (some fun z_1=>zbm (z_1.1,some x0,some x2,())),some x0,()),())) fun q5=>Option.bind (vY ((x1.1,q3.1,q4.1,x1.2.2.2.1,x1.2.2.2.2.1,q5.1,x1.2.2.2.2.2.2),())) fun q6=>some (q6.1,0,()) else some ((0,[],[],[],[],[],()),1,()) else some ((0,[],[],[],[],[],()),1,())
abbrev zt0:Fun:=⟨69,(ch [zy,zq,zB]),(ch [zq,tI]),0,zfU⟩
theorem zDR:Sq zt0:=ms9 (d:=false) (K:=0) Tryz.func69 (by kernel_rfl) (funext fun (x0,x1,x2,())=>by kernel_rfl)
abbrev L10:List Fun:=zqz :: zt0 :: L9
theorem h10:Sds Tryz.prog E0 L10:=⟨zAa,zDR,h9⟩
theorem zI3 {d:Bool} {F:Fun} {f:Go.Func} {K:Nat} (hf:Tryz.prog.funcs[F.id]? = some f) (ho:qX f = true) (h:evF (En E0 d L10) K f F.md F.a F.r = F.spec):Sd Tryz.prog E0 F:=mkS h10 hf ho h
def vN:(ze × (zb × (pMe × Unit)))→Option (Bool × Unit):=fun (x0,x1,x2,()) =>
  Option.bind (j8 (x0,x1,())) fun q0=>bif q0.1 then bif decide (x2.1 ≥ 0) then bif decide (x2.1 < ((List.length x0.2.1):Int)) then inR x2.1 ((List.length x0.2.1):Int) (bif x2.2.1 == ix (0:Int) x0.2.1 x2.1 then bif decide (x2.2.2.1 ≥ 0) then bif decide (x2.2.2.1 < ((List.length x0.2.2.1):Int)) then some (true,()) else some (false,()) else some (false,()) else some (false,())) else some (false,()) else some (false,()) else some (false,())
abbrev zsq:Fun:=⟨17,(ch [zy,zq,tMe]),(ch [.bool]),0,vN⟩
theorem zCa:Sq zsq:=zI3 (d:=false) (K:=0) Tryz.func17 (by kernel_rfl) (funext fun (x0,x1,x2,())=>by kernel_rfl)
def zaA:(ze × (zb × (zb × (zD × Unit))))→Option (Bool × Unit):=fun (x0,x1,x2,x3,()) =>
  Option.bind (zfU (x0,x1,x3,())) fun q0=>Option.bind (zfU (x0,x2,x3,())) fun q1=>bif q0.2.1 == 0 then bif q1.2.1 == 0 then Option.bind (zhG (q0.1,q1.1,())) fun q2=>bif q2.1 then some (true,()) else some (false,()) else some (false,()) else some (false,())
abbrev zt1:Fun:=⟨22,(ch [zy,zq,zq,zB]),(ch [.bool]),0,zaA⟩
theorem zDS:Sq zt1:=zI3 (d:=false) (K:=0) Tryz.func22 (by kernel_rfl) (funext fun (x0,x1,x2,x3,())=>by kernel_rfl)
abbrev L11:List Fun:=zsq :: zt1 :: L10
theorem h11:Sds Tryz.prog E0 L11:=⟨zCa,zDS,h10⟩
theorem zI4 {d:Bool} {F:Fun} {f:Go.Func} {K:Nat} (hf:Tryz.prog.funcs[F.id]? = some f) (ho:qX f = true) (h:evF (En E0 d L11) K f F.md F.a F.r = F.spec):Sd Tryz.prog E0 F:=mkS h11 hf ho h
theorem zJx {d:Bool} {js:List Nat} {F:Fun} {f:Go.Func} {K:Nat} (hf:Tryz.prog.funcs[F.id]? = some f) (ho:qX f = true) (h:evF (Ej E0 d js L11) K f F.md F.a F.r = F.spec):Sd Tryz.prog E0 F:=zJw h11 hf ho h
theorem zJy {d:Bool} {js:List Nat} {fs:List (Nat × Go.Func)} {n:Nat} {F:Fun} {f:Go.Func} {K:Nat} (hfs:FOk Tryz.prog fs) (hf:Tryz.prog.funcs[F.id]? = some f) (ho:qX f = true) (h:evF ((Ej E0 d js L11).inl fs n) K f F.md F.a F.r = F.spec):Sd Tryz.prog E0 F:=Sd.mkI zFi h11 hfs hf ho h
theorem zJz {d:Bool} {F:Fun} {f:Go.Func} {S:Nat→F.a.I→Option F.r.I} (hf:Tryz.prog.funcs[F.id]? = some f) (ho:qX f = true) (h:∀ K,evF (En E0 d L11) K f F.md F.a F.r = S K) (e:S K0 = F.spec):Sd Tryz.prog E0 F:=mkS h11 hf ho ((h K0).trans e)
abbrev zFt:Env:=En E0 false L11
def zc5:(ze × (zb × (pMe × (ByteArray × Unit))))→Option (zb × (Int × (Int × Unit))):=fun (x0,x1,x2,x3,()) =>
  Option.bind (vN (x0,x1,x2,())) fun q0=>bif q0.1 then Option.bind (zbl (x1,x2,())) fun q1=>Option.bind (zhQ (q1.1,x3,x2.2.2.1,())) fun q2=>bif q2.2.2.1 != 0 then some ((0,[],[],[],[],[],()),q2.2.1,q2.2.2.1,()) else Option.bind (vY (x1,())) fun q3=>inR x2.2.1 ((List.length q3.1.2.1):Int) (some ((u1 q3.1 (List.set q3.1.2.1 (Int.toNat x2.2.1) (u2 (ix zf q3.1.2.1 x2.2.1) q2.1))),q2.2.1,0,())) else some ((0,[],[],[],[],[],()),0,1,())
abbrev zsr:Fun:=⟨35,(ch [zy,zq,tMe,.str]),(ch [zq,tI,tI]),0,zc5⟩
theorem zCb:Sq zsr:=zJy (d:=true) (js:=[999999]) (fs:=[(71,Tryz.f71),(72,Tryz.f72)]) (n:=2) ⟨⟨Tryz.func71,by kernel_rfl⟩,⟨Tryz.func72,by kernel_rfl⟩,trivial⟩ (K:=0) Tryz.func35 (by kernel_rfl) (funext fun (x0,x1,x2,x3,())=>by kernel_rfl)
def yS:(ze × (zb × (pMe × ((Option (((List zj) × Unit)→Option ((List zj) × (Int × Unit)))) × Unit))))→Option (zb × (Int × Unit)):=fun (x0,x1,x2,x3,()) =>
  Option.bind (vN (x0,x1,x2,())) fun q0=>bif q0.1 then Option.bind (zbl (x1,x2,())) fun q1=>Option.bind x3 fun q2=>Option.bind (q2 (q1.1,())) fun q3=>bif q3.2.1 != 0 then some ((0,[],[],[],[],[],()),q3.2.1,()) else Option.bind (vY (x1,())) fun q4=>inR x2.2.1 ((List.length q4.1.2.1):Int) (some ((u1 q4.1 (List.set q4.1.2.1 (Int.toNat x2.2.1) (u2 (ix zf q4.1.2.1 x2.2.1) q3.1))),0,())) else some ((0,[],[],[],[],[],()),1,())
abbrev zss:Fun:=⟨71,(ch [zy,zq,tMe,(.fn (ch [(.sl zl)]) (ch [(.sl zl),tI]))]),(ch [zq,tI]),0,yS⟩
theorem zCc:Sq zss:=zJx (d:=true) (js:=[999999]) (K:=0) Tryz.func71 (by kernel_rfl) (funext fun (x0,x1,x2,x3,())=>by kernel_rfl)
def ziP:((List zj) × ((Option pMe) × ((Option Int) × ((Option ze) × ((Option zb) × ((Option Int) × Unit))))))→Option ((List zj) × (Int × Unit)):=fun (x0,x1,x2,x3,x4,x5,()) =>
  Option.bind x1 fun q0=>Option.bind x1 fun q1=>Option.bind x2 fun q2=>Option.bind x2 fun q3=>Option.bind x1 fun q4=>bif q3 == q4.2.2.1 then some ([],1,()) else Option.bind x3 fun q5=>Option.bind x4 fun q6=>Option.bind (vN (q5,q6,(q0.1,q1.2.1,q2,(zd tMe).2.2.2),())) fun q7=>bif q7.1 then Option.bind x5 fun q8=>Option.bind x1 fun q9=>Option.bind x2 fun q10=>Option.bind (zhW (x0,q8,q9.2.2.1,q10,())) fun q11=>bif q11.2.1 == 0 then Option.bind x4 fun q12=>Option.bind (vX (q12,(q0.1,q1.2.1,q2,(zd tMe).2.2.2),())) fun q13=>Option.bind x4 fun q14=>Option.bind x1 fun q15=>Option.bind (vX (q14,q15,())) fun q16=>bif !eqI zC q13.1 q16.1 then some (q11.1,5,()) else some q11 else some q11 else some ([],1,())
abbrev zoJ:Fun:=⟨80,(ch [(.sl zl),(.ptr tMe),(.ptr tI),(.ptr zy),(.ptr zq),(.ptr tI)]),(ch [(.sl zl),tI]),0,ziP⟩
theorem zyz:Sq zoJ:=zI4 (d:=false) (K:=0) Tryz.func80 (by kernel_rfl) (funext fun (x0,x1,x2,x3,x4,x5,())=>by kernel_rfl)
def zt2:(ze × (zb × (pMe × Unit)))→Option ((List Int) × (Int × Unit)):=fun (x0,x1,x2,()) =>
  Option.bind (vN (x0,x1,x2,())) fun q0=>bif q0.1 then Option.bind (zbl (x1,x2,())) fun q1=>Option.bind (zr6 (q1.1,x2.2.2.1,())) fun q2=>some (q2.1,0,()) else some ([],1,())
abbrev zt3:Fun:=⟨9,(ch [zy,zq,tMe]),(ch [(.sl tI),tI]),0,zt2⟩
theorem zDT:Sq zt3:=zI4 (d:=false) (K:=0) Tryz.func9 (by kernel_rfl) (funext fun (x0,x1,x2,())=>by kernel_rfl)
abbrev za1:Type:=Int × (List zg) × Int × Int × (List Int) × Int × Int × ze × zb × pMe × List zL
abbrev zlM:za1→St:=fun (v9,v19,v20,v21,v37,v38,v39,o0,o1,o2,o3)=>St.mk [(3,.bp 0 []),(4,.bp 1 []),(5,.bp 2 []),(8,.ow 3),(9,.dat tI v9),(19,.dat (.sl zn) v19),(20,.dat tI v20),(21,.dat tI v21),(37,.dat (.sl tI) v37),(38,.dat tI v38),(39,.dat tI v39)] [.bx (.dat zy o0) false,.bx (.dat zq o1) false,.bx (.dat tMe o2) false,.row yK o3 false]
abbrev vf:Type:=(List zg) × Int × Int × ze × zb × pMe × List zL
abbrev zlN:vf→St:=fun (v19,v20,v21,o0,o1,o2,o3)=>St.mk [(3,.bp 0 []),(4,.bp 1 []),(5,.bp 2 []),(8,.ow 3),(19,.dat (.sl zn) v19),(20,.dat tI v20),(21,.dat tI v21)] [.bx (.dat zy o0) false,.bx (.dat zq o1) false,.bx (.dat tMe o2) false,.row yK o3 false]
def zlO (k0:vf→Option ((List zL) × (Int × Unit))) (k1:za1→Option ((List zL) × (Int × Unit))):za1→Option ((List zL) × (Int × Unit)):=fun (v9,v19,v20,v21,v37,v38,v39,o0,o1,o2,o3) =>
  bif decide (v39 < v38) then inR v39 ((List.length v37):Int) (bif decide (List.length o3 + List.length (zi (List.replicate 1 (zd zC)) 0 (v9,ix (0:Int) v37 v39,(zd zC).2.2)) ≤ lim) then k1 (v9,v19,v20,v21,v37,v38,wI (v39 + 1),o0,o1,o2,o3 ++ zi (List.replicate 1 (zd zC)) 0 (v9,ix (0:Int) v37 v39,(zd zC).2.2)) else none) else k0 (v19,v20,wI (v21 + 1),o0,o1,o2,o3)
abbrev zgA (K:Nat) (k0:vf→Option ((List zL) × (Int × Unit))):za1→Option ((List zL) × (Int × Unit)):=zm (fun k1=>zlO k0 k1) K
theorem zvd (K:Nat) (n0:Nat):∀ n,evV zFt K Tryz.f11 0 (ch [(.sl zC),tI]) [1,1,1,0,1,0,0,1,1,0,0,1,1,1,0] [n0] zlM n = zm (fun k1=>zlO (evV zFt K Tryz.f11 0 (ch [(.sl zC),tI]) [1,1,1,0,1,0] [] zlN n0) k1) n:=zw fun n1 (v9,v19,v20,v21,v37,v38,v39,o0,o1,o2,o3)=>by kernel_rfl
def zgB (L1:za1→Option ((List zL) × (Int × Unit))) (k0:vf→Option ((List zL) × (Int × Unit))):vf→Option ((List zL) × (Int × Unit)):=fun (v19,v20,v21,o0,o1,o2,o3) =>
  bif decide (v21 < v20) then inR v21 ((List.length v19):Int) (Option.bind (ztY (o0,v21,o2.2.1,())) fun q1=>bif q1.1 then Option.bind (vX (o1,o2,())) fun q2=>Option.bind (zqi ((ix zf v19 v21).2.2.1,q2.1,())) fun q3=>L1 (v21,v19,v20,v21,q3.1,((List.length q3.1):Int),0,o0,o1,o2,o3) else k0 (v19,v20,wI (v21 + 1),o0,o1,o2,o3)) else some (o3,0,())
abbrev zlP (K:Nat):vf→Option ((List zL) × (Int × Unit)):=zm (fun k0=>zgB (zgA K k0) k0) K
theorem zve (K:Nat):∀ n,evV zFt K Tryz.f11 0 (ch [(.sl zC),tI]) [1,1,1,0,1,0] [] zlN n = zm (fun k0=>zgB (zgA K k0) k0) n:=zdb (B:=fun L1 k0=>zgB L1 k0) (V1:=fun n0=>evV zFt K Tryz.f11 0 (ch [(.sl zC),tI]) [1,1,1,0,1,0,0,1,1,0,0,1,1,1,0] [n0] zlM K) (W1:=fun k0=>(zgA K k0)) (fun n0=>zvd K n0 K) fun n0 (v19,v20,v21,o0,o1,o2,o3)=>by kernel_rfl
def ziQ (L0:vf→Option ((List zL) × (Int × Unit))):(ze × (zb × (pMe × Unit)))→Option ((List zL) × (Int × Unit)):=fun (x0,x1,x2,()) =>
  Option.bind (vN (x0,x1,x2,())) fun q0=>bif q0.1 then L0 (x1.2.1,((List.length x1.2.1):Int),0,x0,x1,x2,[]) else some ([],1,())
def zoK:(ze × zb × pMe × Unit)→Option ((List jm) × Int × Unit):=ziQ (zlP K0)
abbrev zoL:Fun:=⟨11,(ch [zy,zq,tMe]),(ch [(.sl zC),tI]),0,zoK⟩
theorem zyA:Sq zoL:=zJz (d:=false) (S:=fun K=>ziQ (zlP K)) Tryz.func11 (by kernel_rfl) (fun K=>tr1 (T:=ziQ) (zve K K) fun (x0,x1,x2,())=>by kernel_rfl) rfl
abbrev L12:List Fun:=zsr :: zss :: zoJ :: zt3 :: zoL :: L11
theorem h12:Sds Tryz.prog E0 L12:=⟨zCb,zCc,zyz,zDT,zyA,h11⟩
theorem zFu {d:Bool} {F:Fun} {f:Go.Func} {K:Nat} (hf:Tryz.prog.funcs[F.id]? = some f) (ho:qX f = true) (h:evF (En E0 d L12) K f F.md F.a F.r = F.spec):Sd Tryz.prog E0 F:=mkS h12 hf ho h
def zbr:(ze × (zb × (pMe × (Int × Unit))))→Option (zb × (Int × Unit)):=fun (x0,x1,x2,x3,()) =>
  Option.bind (yS (x0,x1,x2,some fun z=>zhY (z.1,some x3,some x2,()),())) fun q0=>some q0
abbrev zqA:Fun:=⟨36,(ch [zy,zq,tMe,tI]),(ch [zq,tI]),0,zbr⟩
theorem zAb:Sq zqA:=zFu (d:=false) (K:=0) Tryz.func36 (by kernel_rfl) (funext fun (x0,x1,x2,x3,())=>by kernel_rfl)
def zc6:(ze × (zb × (pMe × (Int × Unit))))→Option (zb × (Int × Unit)):=fun (x0,x1,x2,x3,()) =>
  Option.bind (yS (x0,x1,x2,some fun z=>ziN (z.1,some x3,some x2,some x1,()),())) fun q0=>some q0
abbrev zst:Fun:=⟨37,(ch [zy,zq,tMe,tI]),(ch [zq,tI]),0,zc6⟩
theorem zCd:Sq zst:=zFu (d:=false) (K:=0) Tryz.func37 (by kernel_rfl) (funext fun (x0,x1,x2,x3,())=>by kernel_rfl)
def za2:(ze × (zb × (pMe × (Int × Unit))))→Option (zb × (Int × Unit)):=fun (x0,x1,x2,x3,()) =>
  Option.bind (yS (x0,x1,x2,some fun z=>ziO (z.1,some x3,some x2,some x1,()),())) fun q0=>some q0
abbrev zsu:Fun:=⟨38,(ch [zy,zq,tMe,tI]),(ch [zq,tI]),0,za2⟩
theorem zCe:Sq zsu:=zFu (d:=false) (K:=0) Tryz.func38 (by kernel_rfl) (funext fun (x0,x1,x2,x3,())=>by kernel_rfl)
def za3:(ze × (zb × (pMe × (Int × (Int × Unit)))))→Option (zb × (Int × Unit)):=fun (x0,x1,x2,x3,x4,()) =>
  Option.bind (yS (x0,x1,x2,some fun z=>ziP (z.1,some x2,some x4,some x0,some x1,some x3,()),())) fun q0=>some q0
abbrev zsv:Fun:=⟨39,(ch [zy,zq,tMe,tI,tI]),(ch [zq,tI]),0,za3⟩
theorem zCf:Sq zsv:=zFu (d:=false) (K:=0) Tryz.func39 (by kernel_rfl) (funext fun (x0,x1,x2,x3,x4,())=>by kernel_rfl)
abbrev L13:List Fun:=zqA :: zst :: zsu :: zsv :: L12
theorem h13:Sds Tryz.prog E0 L13:=⟨zAb,zCd,zCe,zCf,h12⟩
theorem zI5 {d:Bool} {F:Fun} {f:Go.Func} {K:Nat} (hf:Tryz.prog.funcs[F.id]? = some f) (ho:qX f = true) (h:evF (En E0 d L13) K f F.md F.a F.r = F.spec):Sd Tryz.prog E0 F:=mkS h13 hf ho h
def zkE:(ze × (zb × (pMe × (zcw × Unit))))→Option (zb × (Int × (Int × Unit))):=fun (x0,x1,x2,x3,()) =>
  bif x3.1 == 1 then Option.bind (zc5 (x0,x1,x2,x3.2.2.2.1,())) fun q0=>some q0 else bif x3.1 == 2 then Option.bind (zbr (x0,x1,x2,x3.2.1,())) fun q1=>some (q1.1,0,q1.2.1,()) else bif x3.1 == 3 then Option.bind (zc6 (x0,x1,x2,x3.2.1,())) fun q2=>some (q2.1,0,q2.2.1,()) else bif x3.1 == 4 then Option.bind (za2 (x0,x1,x2,x3.2.1,())) fun q3=>some (q3.1,0,q3.2.1,()) else Option.bind (za3 (x0,x1,x2,x3.2.1,x3.2.2.1,())) fun q4=>some (q4.1,0,q4.2.1,())
abbrev zxb:Fun:=⟨7,(ch [zy,zq,tMe,jh]),(ch [zq,tI,tI]),0,zkE⟩
theorem zFv:Sq zxb:=zI5 (d:=false) (K:=0) Tryz.func7 (by kernel_rfl) (funext fun (x0,x1,x2,x3,())=>by kernel_rfl)
def z6:Unit→Option (Bool × Unit):=fun () =>
  Option.bind (zp7 ()) fun q0=>Option.bind (zfT (q0.1,())) fun q1=>Option.bind (zc5 (q0.1,q1.1,(1,1,(zd tMe).2.2),ByteArray.mk #[108,97,109,112],())) fun q2=>Option.bind (zt2 (q0.1,q2.1,(1,1,(zd tMe).2.2),())) fun q3=>Option.bind (zc6 (q0.1,q2.1,(1,1,(zd tMe).2.2),0,())) fun q4=>Option.bind (zoK (q0.1,q4.1,(1,1,(zd tMe).2.2),())) fun q5=>Option.bind (za2 (q0.1,q4.1,zd tMe,0,())) fun q6=>Option.bind (za3 (q0.1,q2.1,(1,1,(zd tMe).2.2),0,1,())) fun q7=>Option.bind (za3 (q0.1,q2.1,(1,1,(zd tMe).2.2),0,0,())) fun q8=>Option.bind (zbr (q0.1,q7.1,(1,1,(zd tMe).2.2),0,())) fun q9=>Option.bind (za2 (q0.1,q4.1,(1,1,(zd tMe).2.2),0,())) fun q10=>bif q1.2.1 == 0 then bif q2.2.2.1 == 0 then bif q2.2.1 == 0 then bif q3.2.1 == 0 then bif ((List.length q3.1):Int) == 1 then bif q4.2.1 == 0 then bif q5.2.1 == 0 then bif ((List.length q5.1):Int) == 1 then bif decide (0 < ((List.length q5.1):Int)) then bif eqI zC (ix zI2 q5.1 0) (1,(zd zC).2) then bif q6.2.1 == 3 then bif q7.2.1 == 0 then bif q8.2.1 == 1 then bif q9.2.1 == 3 then bif q10.2.1 == 0 then bif ((List.length q7.1.2.1):Int) == 3 then bif decide (1 < ((List.length q7.1.2.1):Int)) then bif decide (0 < ((List.length (ix zf q7.1.2.1 1).2.2.1):Int)) then bif (List.getD (ix zf q7.1.2.1 1).2.2.1 (Int.toNat 0) (zd zl)).2.2.2.1 == 1 then bif decide (1 < ((List.length q1.1.2.1):Int)) then bif decide (0 < ((List.length (ix zf q1.1.2.1 1).2.2.1):Int)) then bif (List.getD (ix zf q1.1.2.1 1).2.2.1 (Int.toNat 0) (zd zl)).1 then some (false,()) else some (true,()) else none else none else some (false,()) else none else none else some (false,()) else some (false,()) else some (false,()) else some (false,()) else some (false,()) else some (false,()) else some (false,()) else none else some (false,()) else some (false,()) else some (false,()) else some (false,()) else some (false,()) else some (false,()) else some (false,()) else some (false,())
abbrev zqB:Fun:=⟨13,.unit,(ch [.bool]),0,z6⟩
theorem zAc:Sq zqB:=zI5 (d:=false) (K:=0) Tryz.func13 (by kernel_rfl) (funext fun ()=>by kernel_rfl)
abbrev L14:List Fun:=zxb :: zqB :: L13
theorem h14:Sds Tryz.prog E0 L14:=⟨zFv,zAc,h13⟩
theorem zJA {d:Bool} {F:Fun} {f:Go.Func} {K:Nat} (hf:Tryz.prog.funcs[F.id]? = some f) (ho:qX f = true) (h:evF (En E0 d L14) K f F.md F.a F.r = F.spec):Sd Tryz.prog E0 F:=mkS h14 hf ho h
def zb9:(ze × (zb × (pMe × (zcw × (zD × Unit)))))→Option (Bool × Unit):=fun (x0,x1,x2,x3,x4,()) =>
  Option.bind (zkE (x0,x1,x2,x3,())) fun q0=>bif q0.2.2.1 != 0 then Option.bind (z6 ()) fun q1=>bif q1.1 then Option.bind (vN (x0,x1,x2,())) fun q2=>bif q2.1 then bif ((List.length q0.1.2.1):Int) == 0 then some (true,()) else some (false,()) else bif q0.2.2.1 == 1 then bif ((List.length q0.1.2.1):Int) == 0 then some (true,()) else some (false,()) else some (false,()) else some (false,()) else bif x3.1 == 1 then bif x3.1 == 2 then Option.bind (j8 (x0,q0.1,())) fun q3=>bif q3.1 then Option.bind (qS (q0.1,())) fun q4=>Option.bind (qS (x1,())) fun q5=>bif q4.1 != wI (q5.1 + -1) then some (false,()) else inR x2.2.1 ((List.length x0.1):Int) (Option.bind (jH (ix qN x0.1 x2.2.1,x4,())) fun q6=>bif q6.1 then Option.bind (z6 ()) fun q7=>bif q7.1 then some (true,()) else some (false,()) else Option.bind (jG (x4,())) fun q8=>bif q8.1 then Option.bind (z6 ()) fun q9=>bif q9.1 then Option.bind (zaA (x0,x1,q0.1,x4,())) fun q10=>bif q10.1 then some (true,()) else some (false,()) else some (false,()) else Option.bind (z6 ()) fun q11=>bif q11.1 then some (true,()) else some (false,())) else some (false,()) else Option.bind (j8 (x0,q0.1,())) fun q12=>bif q12.1 then Option.bind (qS (q0.1,())) fun q13=>Option.bind (qS (x1,())) fun q14=>bif q13.1 != wI (q14.1 + 1) then some (false,()) else inR x2.2.1 ((List.length x0.1):Int) (Option.bind (jH (ix qN x0.1 x2.2.1,x4,())) fun q15=>bif q15.1 then Option.bind (z6 ()) fun q16=>bif q16.1 then some (true,()) else some (false,()) else Option.bind (jG (x4,())) fun q17=>bif q17.1 then Option.bind (z6 ()) fun q18=>bif q18.1 then Option.bind (zaA (x0,x1,q0.1,x4,())) fun q19=>bif q19.1 then some (true,()) else some (false,()) else some (false,()) else Option.bind (z6 ()) fun q20=>bif q20.1 then some (true,()) else some (false,())) else some (false,()) else bif x3.1 == 2 then Option.bind (j8 (x0,q0.1,())) fun q21=>bif q21.1 then Option.bind (qS (q0.1,())) fun q22=>Option.bind (qS (x1,())) fun q23=>bif q22.1 != wI (q23.1 + -1) then some (false,()) else inR x2.2.1 ((List.length x0.1):Int) (Option.bind (jH (ix qN x0.1 x2.2.1,x4,())) fun q24=>bif q24.1 then Option.bind (z6 ()) fun q25=>bif q25.1 then some (true,()) else some (false,()) else Option.bind (jG (x4,())) fun q26=>bif q26.1 then Option.bind (z6 ()) fun q27=>bif q27.1 then Option.bind (zaA (x0,x1,q0.1,x4,())) fun q28=>bif q28.1 then some (true,()) else some (false,()) else some (false,()) else Option.bind (z6 ()) fun q29=>bif q29.1 then some (true,()) else some (false,())) else some (false,()) else Option.bind (j8 (x0,q0.1,())) fun q30=>bif q30.1 then Option.bind (qS (q0.1,())) fun q31=>Option.bind (qS (x1,())) fun q32=>bif q31.1 != wI (q32.1 + 0) then some (false,()) else inR x2.2.1 ((List.length x0.1):Int) (Option.bind (jH (ix qN x0.1 x2.2.1,x4,())) fun q33=>bif q33.1 then Option.bind (z6 ()) fun q34=>bif q34.1 then some (true,()) else some (false,()) else Option.bind (jG (x4,())) fun q35=>bif q35.1 then Option.bind (z6 ()) fun q36=>bif q36.1 then Option.bind (zaA (x0,x1,q0.1,x4,())) fun q37=>bif q37.1 then some (true,()) else some (false,()) else some (false,()) else Option.bind (z6 ()) fun q38=>bif q38.1 then some (true,()) else some (false,())) else some (false,())
abbrev zsw:Fun:=⟨4,(ch [zy,zq,tMe,jh,zB]),(ch [.bool]),0,zb9⟩
theorem zsx:Sq zsw:=zJA (d:=false) (K:=0) Tryz.func4 (by kernel_rfl) (funext fun (x0,x1,x2,x3,x4,())=>by kernel_rfl)
end
end Go.Proofs.YtejbgeokcpillaaGreatDoor
end
section
namespace Go.Proofs.YtejbgeokcpillaaGreatDoor
open Go.Ev
theorem zxc {l:List Int} {g:Int × Unit→Option (Bool × Unit)} {p:Int→Bool} (hl:l.length ≤ Go.maxLen) (hp:∀ x ∈ l,g (x,()) = some (p x,())):zbD (l,some g,()) = some (qQ p l 0,()):=qE (τ:=tI) (B:=zdl) (fun _ _ _ _ _=>rfl) hl hp
theorem zca {l:List Int} {g:Int × Unit→Option (Bool × Unit)} {p:Int→Bool} (hl:l.length ≤ Go.maxLen) (hp:∀ x ∈ l,g (x,()) = some (p x,())):qy (l,some g,()) = some (l.any p,()):=qh (τ:=tI) (f:=zbD) (zxc hl hp)
theorem ztu {l:List zD} {g:zD × Unit→Option (Bool × Unit)} {p:zD→Bool} (hl:l.length ≤ Go.maxLen) (hp:∀ x ∈ l,g (x,()) = some (p x,())):zao (l,some g,()) = some (qQ p l 0,()):=qE (τ:=zB) (B:=zch) (fun _ _ _ _ _=>rfl) hl hp
theorem zhZ {l:List zD} {g:zD × Unit→Option (Bool × Unit)} {p:zD→Bool} (hl:l.length ≤ Go.maxLen) (hp:∀ x ∈ l,g (x,()) = some (p x,())):yb (l,some g,()) = some (l.any p,()):=qh (τ:=zB) (f:=zao) (ztu hl hp)
theorem zq4 {l:List qL} {g:qL × Unit→Option (Bool × Unit)} {p:qL→Bool} (hl:l.length ≤ Go.maxLen) (hp:∀ x ∈ l,g (x,()) = some (p x,())):yE (l,some g,()) = some (qQ p l 0,()):=qE (τ:=qK) (B:=zaP) (fun _ _ _ _ _=>rfl) hl hp
theorem znG {l:List qL} {g:qL × Unit→Option (Bool × Unit)} {p:qL→Bool} (hl:l.length ≤ Go.maxLen) (hp:∀ x ∈ l,g (x,()) = some (p x,())):zat (l,some g,()) = some (l.any p,()):=qh (τ:=qK) (f:=yE) (zq4 hl hp)
theorem ztv {l:List zg} {g:zg × Unit→Option (Bool × Unit)} {p:zg→Bool} (hl:l.length ≤ Go.maxLen) (hp:∀ x ∈ l,g (x,()) = some (p x,())):zap (l,some g,()) = some (qQ p l 0,()):=qE (τ:=zn) (B:=zcj) (fun _ _ _ _ _=>rfl) hl hp
theorem zpw {l:List zg} {g:zg × Unit→Option (Bool × Unit)} {p:zg→Bool} (hl:l.length ≤ Go.maxLen) (hp:∀ x ∈ l,g (x,()) = some (p x,())):jM (l,some g,()) = some (l.any p,()):=qh (τ:=zn) (f:=zap) (ztv hl hp)
theorem zvf {l:List qY} {g:qY × Unit→Option (Bool × Unit)} {p:qY→Bool} (hl:l.length ≤ Go.maxLen) (hp:∀ x ∈ l,g (x,()) = some (p x,())):za9 (l,some g,()) = some (qQ p l 0,()):=qE (τ:=qg) (B:=zcO) (fun _ _ _ _ _=>rfl) hl hp
theorem zq5 {l:List qY} {g:qY × Unit→Option (Bool × Unit)} {p:qY→Bool} (hl:l.length ≤ Go.maxLen) (hp:∀ x ∈ l,g (x,()) = some (p x,())):zcp (l,some g,()) = some (l.any p,()):=qh (τ:=qg) (f:=za9) (zvf hl hp)
theorem zlQ {l:List zj} {g:zj × Unit→Option (Bool × Unit)} {p:zj→Bool} (hl:l.length ≤ Go.maxLen) (hp:∀ x ∈ l,g (x,()) = some (p x,())):yi (l,some g,()) = some (qQ p l 0,()):=qE (τ:=zl) (B:=zcQ) (fun _ _ _ _ _=>rfl) hl hp
theorem zis {l:List zj} {g:zj × Unit→Option (Bool × Unit)} {p:zj→Bool} (hl:l.length ≤ Go.maxLen) (hp:∀ x ∈ l,g (x,()) = some (p x,())):je (l,some g,()) = some (l.any p,()):=qh (τ:=zl) (f:=yi) (zlQ hl hp)
theorem zvg {l:List qn} {g:qn × Unit→Option (Bool × Unit)} {p:qn→Bool} (hl:l.length ≤ Go.maxLen) (hp:∀ x ∈ l,g (x,()) = some (p x,())):zba (l,some g,()) = some (qQ p l 0,()):=qE (τ:=z3) (B:=zcR) (fun _ _ _ _ _=>rfl) hl hp
theorem zit {l:List qn} {g:qn × Unit→Option (Bool × Unit)} {p:qn→Bool} (hl:l.length ≤ Go.maxLen) (hp:∀ x ∈ l,g (x,()) = some (p x,())):jf (l,some g,()) = some (l.any p,()):=qh (τ:=z3) (f:=zba) (zvg hl hp)
theorem ztw {l:List zt} {g:zt × Unit→Option (Bool × Unit)} {p:zt→Bool} (hl:l.length ≤ Go.maxLen) (hp:∀ x ∈ l,g (x,()) = some (p x,())):zaq (l,some g,()) = some (qQ p l 0,()):=qE (τ:=zx) (B:=zcm) (fun _ _ _ _ _=>rfl) hl hp
theorem zh0 {l:List zt} {g:zt × Unit→Option (Bool × Unit)} {p:zt→Bool} (hl:l.length ≤ Go.maxLen) (hp:∀ x ∈ l,g (x,()) = some (p x,())):qV (l,some g,()) = some (l.any p,()):=qh (τ:=zx) (f:=zaq) (ztw hl hp)
theorem ztx {l:List zp} {g:zp × Unit→Option (Bool × Unit)} {p:zp→Bool} (hl:l.length ≤ Go.maxLen) (hp:∀ x ∈ l,g (x,()) = some (p x,())):zar (l,some g,()) = some (qQ p l 0,()):=qE (τ:=zo) (B:=zcn) (fun _ _ _ _ _=>rfl) hl hp
theorem zpx {l:List zp} {g:zp × Unit→Option (Bool × Unit)} {p:zp→Bool} (hl:l.length ≤ Go.maxLen) (hp:∀ x ∈ l,g (x,()) = some (p x,())):jN (l,some g,()) = some (l.any p,()):=qh (τ:=zo) (f:=zar) (ztx hl hp)
theorem zty {l:List zH} {g:zH × Unit→Option (Bool × Unit)} {p:zH→Bool} (hl:l.length ≤ Go.maxLen) (hp:∀ x ∈ l,g (x,()) = some (p x,())):zas (l,some g,()) = some (qQ p l 0,()):=qE (τ:=zv) (B:=zco) (fun _ _ _ _ _=>rfl) hl hp
theorem zpy {l:List zH} {g:zH × Unit→Option (Bool × Unit)} {p:zH→Bool} (hl:l.length ≤ Go.maxLen) (hp:∀ x ∈ l,g (x,()) = some (p x,())):jO (l,some g,()) = some (l.any p,()):=qh (τ:=zv) (f:=zas) (zty hl hp)
theorem zlR {l:List z7} {g:z7 × Unit→Option (Bool × Unit)} {p:z7→Bool} (hl:l.length ≤ Go.maxLen) (hp:∀ x ∈ l,g (x,()) = some (p x,())):yh (l,some g,()) = some (qQ p l 0,()):=qE (τ:=zW) (B:=zcP) (fun _ _ _ _ _=>rfl) hl hp
theorem zq6 {l:List z7} {g:z7 × Unit→Option (Bool × Unit)} {p:z7→Bool} (hl:l.length ≤ Go.maxLen) (hp:∀ x ∈ l,g (x,()) = some (p x,())):j6 (l,some g,()) = some (l.any p,()):=qh (τ:=zW) (f:=yh) (zlR hl hp)
theorem zxd {l:List jm} {g:jm × Unit→Option (Bool × Unit)} {p:jm→Bool} (hl:l.length ≤ Go.maxLen) (hp:∀ x ∈ l,g (x,()) = some (p x,())):zbH (l,some g,()) = some (qQ p l 0,()):=qE (τ:=zC) (B:=zds) (fun _ _ _ _ _=>rfl) hl hp
theorem zsy {l:List jm} {g:jm × Unit→Option (Bool × Unit)} {p:jm→Bool} (hl:l.length ≤ Go.maxLen) (hp:∀ x ∈ l,g (x,()) = some (p x,())):vt (l,some g,()) = some (l.any p,()):=qh (τ:=zC) (f:=zbH) (zxd hl hp)
theorem zvh {l:List Int} {g:Int × Unit→Option (Bool × Unit)} {p:Int→Bool} (hl:l.length ≤ Go.maxLen) (hp:∀ x ∈ l,g (x,()) = some (p x,())):za7 (l,some g,()) = some (qQ p l 0,()):=qE (τ:=(Ty.int .u8)) (B:=zcL) (fun _ _ _ _ _=>rfl) hl hp
theorem zq7 {l:List Int} {g:Int × Unit→Option (Bool × Unit)} {p:Int→Bool} (hl:l.length ≤ Go.maxLen) (hp:∀ x ∈ l,g (x,()) = some (p x,())):j5 (l,some g,()) = some (l.any p,()):=qh (τ:=(Ty.int .u8)) (f:=za7) (zvh hl hp)
theorem zDU {l:List zg} {g:zg × Unit→Option (Bool × Unit)} {p:zg→Bool} (hl:l.length ≤ Go.maxLen) (hp:∀ x ∈ l,g (x,()) = some (p x,())):zft (l,some g,()) = some (l.all p,()):=by
  have h:jM (l,some fun z=>za8 (z.1,some (some g),()),()) = some (l.any fun x=>!p x,()):=zpw hl fun x hx=>by
    show Option.bind (g (x,())) (fun q=>bif q.1 then some (false,()) else some (true,())) = _
    rw [hp x hx]; cases p x <;> rfl
  show Option.bind (jM (l,some fun z=>za8 (z.1,some (some g),()),())) (fun q=>bif q.1 then some (false,()) else some (true,())) = _
  rw [h,← jR]; cases l.any fun x=>!p x <;> rfl
theorem zDV {l:List zp} {g:zp × Unit→Option (Bool × Unit)} {p:zp→Bool} (hl:l.length ≤ Go.maxLen) (hp:∀ x ∈ l,g (x,()) = some (p x,())):zfu (l,some g,()) = some (l.all p,()):=by
  have h:jN (l,some fun z=>zbb (z.1,some (some g),()),()) = some (l.any fun x=>!p x,()):=zpx hl fun x hx=>by
    show Option.bind (g (x,())) (fun q=>bif q.1 then some (false,()) else some (true,())) = _
    rw [hp x hx]; cases p x <;> rfl
  show Option.bind (jN (l,some fun z=>zbb (z.1,some (some g),()),())) (fun q=>bif q.1 then some (false,()) else some (true,())) = _
  rw [h,← jR]; cases l.any fun x=>!p x <;> rfl
theorem zDW {l:List zH} {g:zH × Unit→Option (Bool × Unit)} {p:zH→Bool} (hl:l.length ≤ Go.maxLen) (hp:∀ x ∈ l,g (x,()) = some (p x,())):zcA (l,some g,()) = some (l.all p,()):=by
  have h:jO (l,some fun z=>zbc (z.1,some (some g),()),()) = some (l.any fun x=>!p x,()):=zpy hl fun x hx=>by
    show Option.bind (g (x,())) (fun q=>bif q.1 then some (false,()) else some (true,())) = _
    rw [hp x hx]; cases p x <;> rfl
  show Option.bind (jO (l,some fun z=>zbc (z.1,some (some g),()),())) (fun q=>bif q.1 then some (false,()) else some (true,())) = _
  rw [h,← jR]; cases l.any fun x=>!p x <;> rfl
theorem zGU {l:List Int} {g:Int × Unit→Option (Bool × Unit)} {p:Int→Bool} (hl:l.length ≤ Go.maxLen) (hp:∀ x ∈ l,g (x,()) = some (p x,())):yY (l,some g,()) = some (l.all p,()):=by
  have h:qy (l,some fun z=>zcy (z.1,some (some g),()),()) = some (l.any fun x=>!p x,()):=zca hl fun x hx=>by
    show Option.bind (g (x,())) (fun q=>bif q.1 then some (false,()) else some (true,())) = _
    rw [hp x hx]; cases p x <;> rfl
  show Option.bind (qy (l,some fun z=>zcy (z.1,some (some g),()),())) (fun q=>bif q.1 then some (false,()) else some (true,())) = _
  rw [h,← jR]; cases l.any fun x=>!p x <;> rfl
theorem zFw {l:List z7} {g:z7 × Unit→Option (Bool × Unit)} {p:z7→Bool} (hl:l.length ≤ Go.maxLen) (hp:∀ x ∈ l,g (x,()) = some (p x,())):zgy (l,some g,()) = some (l.all p,()):=by
  have h:j6 (l,some fun z=>zbE (z.1,some (some g),()),()) = some (l.any fun x=>!p x,()):=zq6 hl fun x hx=>by
    show Option.bind (g (x,())) (fun q=>bif q.1 then some (false,()) else some (true,())) = _
    rw [hp x hx]; cases p x <;> rfl
  show Option.bind (j6 (l,some fun z=>zbE (z.1,some (some g),()),())) (fun q=>bif q.1 then some (false,()) else some (true,())) = _
  rw [h,← jR]; cases l.any fun x=>!p x <;> rfl
theorem zxe {l:List zj} {g:zj × Unit→Option (Bool × Unit)} {p:zj→Bool} (hl:l.length ≤ Go.maxLen) (hp:∀ x ∈ l,g (x,()) = some (p x,())):yw (l,some g,()) = some (l.all p,()):=by
  have h:je (l,some fun z=>zbG (z.1,some (some g),()),()) = some (l.any fun x=>!p x,()):=zis hl fun x hx=>by
    show Option.bind (g (x,())) (fun q=>bif q.1 then some (false,()) else some (true,())) = _
    rw [hp x hx]; cases p x <;> rfl
  show Option.bind (je (l,some fun z=>zbG (z.1,some (some g),()),())) (fun q=>bif q.1 then some (false,()) else some (true,())) = _
  rw [h,← jR]; cases l.any fun x=>!p x <;> rfl
theorem zGV {l:List jm} {g:jm × Unit→Option (Bool × Unit)} {p:jm→Bool} (hl:l.length ≤ Go.maxLen) (hp:∀ x ∈ l,g (x,()) = some (p x,())):zhF (l,some g,()) = some (l.all p,()):=by
  have h:vt (l,some fun z=>zcz (z.1,some (some g),()),()) = some (l.any fun x=>!p x,()):=zsy hl fun x hx=>by
    show Option.bind (g (x,())) (fun q=>bif q.1 then some (false,()) else some (true,())) = _
    rw [hp x hx]; cases p x <;> rfl
  show Option.bind (vt (l,some fun z=>zcz (z.1,some (some g),()),())) (fun q=>bif q.1 then some (false,()) else some (true,())) = _
  rw [h,← jR]; cases l.any fun x=>!p x <;> rfl
theorem zFx {l:List qn} {g:qn × Unit→Option (Bool × Unit)} {p:qn→Bool} (hl:l.length ≤ Go.maxLen) (hp:∀ x ∈ l,g (x,()) = some (p x,())):yx (l,some g,()) = some (l.all p,()):=by
  have h:jf (l,some fun z=>zbI (z.1,some (some g),()),()) = some (l.any fun x=>!p x,()):=zit hl fun x hx=>by
    show Option.bind (g (x,())) (fun q=>bif q.1 then some (false,()) else some (true,())) = _
    rw [hp x hx]; cases p x <;> rfl
  show Option.bind (jf (l,some fun z=>zbI (z.1,some (some g),()),())) (fun q=>bif q.1 then some (false,()) else some (true,())) = _
  rw [h,← jR]; cases l.any fun x=>!p x <;> rfl
theorem zDX {l:List zt} {g:zt × Unit→Option (Bool × Unit)} {p:zt→Bool} (hl:l.length ≤ Go.maxLen) (hp:∀ x ∈ l,g (x,()) = some (p x,())):qA (l,some g,()) = some (l.all p,()):=by
  have h:qV (l,some fun z=>zbd (z.1,some (some g),()),()) = some (l.any fun x=>!p x,()):=zh0 hl fun x hx=>by
    show Option.bind (g (x,())) (fun q=>bif q.1 then some (false,()) else some (true,())) = _
    rw [hp x hx]; cases p x <;> rfl
  show Option.bind (qV (l,some fun z=>zbd (z.1,some (some g),()),())) (fun q=>bif q.1 then some (false,()) else some (true,())) = _
  rw [h,← jR]; cases l.any fun x=>!p x <;> rfl
theorem zt4 {a b:List Int} (hl:a.length ≤ Go.maxLen):zaF (a,b,()) = some (eqL tI a b,()):=zaz (τ:=tI) (B:=zgr) (fun _ _ _ _ _=>rfl) hl
theorem zAd {a b:List zp} (hl:a.length ≤ Go.maxLen):zgt (a,b,()) = some (eqL zo a b,()):=zaz (τ:=zo) (B:=zey) (fun _ _ _ _ _=>rfl) hl
theorem zAe {a b:List zH} (hl:a.length ≤ Go.maxLen):zgv (a,b,()) = some (eqL zv a b,()):=zaz (τ:=zv) (B:=zez) (fun _ _ _ _ _=>rfl) hl
theorem zCg {a b:List qY} (hl:a.length ≤ Go.maxLen):zhs (a,b,()) = some (eqL qg a b,()):=zaz (τ:=qg) (B:=zfp) (fun _ _ _ _ _=>rfl) hl
theorem zCh {a b:List z7} (hl:a.length ≤ Go.maxLen):zhu (a,b,()) = some (eqL zW a b,()):=zaz (τ:=zW) (B:=zfq) (fun _ _ _ _ _=>rfl) hl
theorem zCi {a b:List zj} (hl:a.length ≤ Go.maxLen):zhw (a,b,()) = some (eqL zl a b,()):=zaz (τ:=zl) (B:=zfr) (fun _ _ _ _ _=>rfl) hl
theorem zCj {a b:List qn} (hl:a.length ≤ Go.maxLen):zhy (a,b,()) = some (eqL z3 a b,()):=zaz (τ:=z3) (B:=zfs) (fun _ _ _ _ _=>rfl) hl
theorem zAf {a b:List zt} (hl:a.length ≤ Go.maxLen):zgp (a,b,()) = some (eqL zx a b,()):=zaz (τ:=zx) (B:=zex) (fun _ _ _ _ _=>rfl) hl
theorem zFy {a b:List (List Int)} (hl:a.length ≤ Go.maxLen):zjR (a,b,()) = some (eqL (Ty.arr 4 tU) a b,()):=zaz (τ:=(Ty.arr 4 tU)) (B:=zhz) (fun _ _ _ _ _=>rfl) hl
theorem zDY {a b:List jm} (hl:a.length ≤ Go.maxLen):ziG (a,b,()) = some (eqL zC a b,()):=zaz (τ:=zC) (B:=zgq) (fun _ _ _ _ _=>rfl) hl
theorem zqC {l:List zp} (hl:l.length ≤ lim):zdv (l,()) = some (l,()):=vV (τ:=zo) hl rfl
theorem zAg {l:List zH} (hl:l.length ≤ lim):zgm (l,()) = some (l,()):=vV (τ:=zv) hl rfl
theorem zt5 {l:List Int} (hl:l.length ≤ lim):zeW (l,()) = some (l,()):=vV (τ:=tI) hl rfl
theorem zCk {l:List (List Int)} (hl:l.length ≤ lim):zhl (l,()) = some (l,()):=vV (τ:=(Ty.sl tI)) hl rfl
theorem zAh {l:List zg} (hl:l.length ≤ lim):zgn (l,()) = some (l,()):=vV (τ:=zn) hl rfl
theorem zCl {l:List qY} (hl:l.length ≤ lim):zhm (l,()) = some (l,()):=vV (τ:=qg) hl rfl
theorem zCm {l:List z7} (hl:l.length ≤ lim):zhn (l,()) = some (l,()):=vV (τ:=zW) hl rfl
theorem zlS {l:List zj} (hl:l.length ≤ lim):zbJ (l,()) = some (l,()):=vV (τ:=zl) hl rfl
theorem zCn {l:List qn} (hl:l.length ≤ lim):zho (l,()) = some (l,()):=vV (τ:=z3) hl rfl
theorem zj2 {l:List zt} (hl:l.length ≤ lim):zdt (l,()) = some (l,()):=vV (τ:=zx) hl rfl
theorem zFz {l:List (List Int)} (hl:l.length ≤ lim):zjP (l,()) = some (l,()):=vV (τ:=(Ty.arr 4 tU)) hl rfl
theorem zDZ {l:List jm} (hl:l.length ≤ lim):ziE (l,()) = some (l,()):=vV (τ:=zC) hl rfl
end Go.Proofs.YtejbgeokcpillaaGreatDoor
end
section
namespace Go.Proofs.YtejbgeokcpillaaGreatDoor
open Go.Ev
theorem zsU:∃ m,K0 = m + 8:=⟨Go.maxLen - 6,by unfold K0 Go.maxLen; omega⟩
def qe (x a b:Int):Bool:=decide (a ≤ x ∧ x ≤ b)
theorem zeF (x a b:Int):qj (x,a,b,()) = some (qe x a b,()):=by
  simp only [qj,qe]; grind
def ze8 (a:zD):Bool:=qe a.1 0 3
theorem zj3 (a:zD):jG (a,()) = some (ze8 a,()):=by
  simp only [jG,ze8,qe]; grind
theorem zFA (a:zD):zdz (a,()) = some (!ze8 a,()):=by
  simp only [zdz,zj3,Option.bind_some]; grind
def zj4 (x y:Int):Int:=bif decide (x < y) then -1 else bif decide (y < x) then 1 else 0
theorem zD0 (x:Int):yW (x,()) = some (false,()):=by
  simp only [yW]; grind
theorem zyB (x:Int):vh (x,()) = some (false,()):=by
  simp only [vh]; grind
theorem zqD (x y:Int):zai (x,y,()) = some (zj4 x y,()):=by
  simp only [zai,zD0,Option.bind_some,zj4]; grind
theorem zlT (x y:Int):vJ (x,y,()) = some (zj4 x y,()):=by
  simp only [vJ,zyB,Option.bind_some,zj4]; grind
def orV (a b:Int):Int:=bif a != 0 then a else b
theorem zI6 (a b:Int):zcK ([a,b],()) = some (orV a b,()):=by
  show zm qR K0 (0,[a,b],2,0) = _
  obtain ⟨m,hm⟩:=zsU
  rw [hm]
  show qR (qR (qR (zm qR (m + 5)))) (0,[a,b],2,0) = _
  have h:qR (qR (qR (zm qR (m + 5)))) (0,[a,b],2,0) = bif a != 0 then some (a,()) else bif b != 0 then some (b,()) else some (0,()):=by kernel_rfl
  rw [h]; unfold orV; grind
def zvi (a b:zD):Int:=orV (zj4 a.1 b.1) (zj4 a.2.1 b.2.1)
theorem zD1 (a b:zD):zi6 (a,b,()) = some (zvi a b,()):=by
  simp only [zi6,zqD,zlT,Option.bind_some]
  show Option.bind (zcK ([zj4 a.1 b.1,zj4 a.2.1 b.2.1],())) _ = _
  rw [zI6]; rfl
def ziR (l:List zD):Bool:=qe (l.length:Int) 1 8 && (eqI zB (l.getD 0 (zd zB)) (zd zB) && (l.all ze8 && qk (fun i=>decide (zvi (l.getD (i - 1) (zd zB)) (l.getD i (zd zB)) < 0)) 1 (l.length - 1)))
theorem zHP {α:Type} {d:α} {l:List α}:ix d l 0 = l.getD 0 d:=rfl
theorem zHQ (r:ze):vw (r,()) = some (ziR r.1,()):=by
  simp only [vw,ze5,zeF,Option.bind_some]
  by_cases hw:qe (List.length r.1:Int) 1 8 = true
  · have hb:1 ≤ List.length r.1 ∧ List.length r.1 ≤ 8:=by unfold qe at hw; grind
    have hl:List.length r.1 ≤ Go.maxLen:=by unfold Go.maxLen; omega
    have hloop:zgz K0 (1,r) = bif qk (fun i=>decide (zvi (List.getD r.1 (i - 1) (zd zB)) (List.getD r.1 i (zd zB)) < 0)) 1 (List.length r.1 - 1) then some (true,()) else some (false,()) :=
      yC (i0:=1) hl hb.1 (fun i=>(i,r)) (fun k i h1 h2=>by
        simp only [zdE]
        rw [ltT h2,zxS h1 (by omega),zG (by omega),zG h2,qq,Int.toNat_natCast,zD1]
        simp only [cond_true,Option.bind_some]; grind) (fun k=>by simp only [zdE]; rw [ltF]; rfl)
    rw [zhZ (p:=fun a=>!ze8 a) hl fun x _=>zFA x,hloop,zHP]
    have:=jR (l:=r.1) (p:=ze8)
    unfold ziR
    simp only [Option.bind_some]
    grind
  · unfold ziR; grind
end Go.Proofs.YtejbgeokcpillaaGreatDoor
end
section
namespace Go.Proofs.YtejbgeokcpillaaGreatDoor
open Go.Ev
def small (c:Int):Bool:=decide (97 ≤ c ∧ c ≤ 122)
def zAH (c:Int):Bool:=decide (48 ≤ c ∧ c ≤ 57)
theorem zEx (c:Int):zeo (c,()) = some (small c,()):=by
  simp only [zeo,small]; grind
theorem zIw (c:Int):zha (c,()) = some (zAH c,()):=by
  simp only [zha,zAH]; grind
def zAI (c:Int):Bool:=small c || zAH c
theorem zI7 (c:Int):zeY (c,()) = some (zAI c,()):=by
  simp only [zeY,zEx,zIw,Option.bind_some,zAI]; grind
def zeG (s:ByteArray):List Int:=List.map (fun b:UInt8=>(b.toNat:Int)) s.data.toList
def chr (s:ByteArray) (i:Nat):Int:=(((s.data.toList).getD i 0).toNat:Int)
theorem zj5 (s:ByteArray):(zeG s).length = s.size:=by unfold zeG; rw [List.length_map]; rfl
theorem zoM (s:ByteArray):s.data.toList.length = s.size:=rfl
theorem zxf (s:ByteArray) (p:Int→Bool):(zeG s).all p = qk (fun i=>p (chr s i)) 0 s.size:=by
  rw [Bool.eq_iff_iff,jl,List.all_eq_true]
  have key:∀ i,i < s.size→(zeG s)[i]? = some (chr s i):=fun i hi=>by
    unfold zeG chr
    rw [List.getElem?_map,List.getElem?_eq_getElem (by rw [zoM]; exact hi)]
    simp [List.getD,zoM,hi]
  constructor
  · intro h j _ hj
    exact h _ (List.mem_of_getElem? (key j (by omega)))
  · intro h x hx
    obtain ⟨i,hi,rfl⟩:=List.mem_iff_getElem.1 hx
    rw [zj5] at hi
    have:=key i hi
    rw [List.getElem?_eq_getElem (by rw [zj5]; exact hi)] at this
    rw [Option.some.inj this]
    exact h i (by omega) (by omega)
theorem zxg {s:ByteArray} {g:Int × Unit→Option (Bool × Unit)} {p:Int→Bool} (hl:s.size ≤ Go.maxLen) (hp:∀ c,g (c,()) = some (p c,())):zkz (s,some g,()) = some ((zeG s).all p,()):=by
  have h:j5 (zeG s,some fun z=>zg9 (z.1,some (some g),()),()) = some ((zeG s).any fun x=>!p x,()):=zq7 (by rw [zj5]; exact hl) fun x hx=>by
    show Option.bind (g (x,())) (fun q=>bif q.1 then some (false,()) else some (true,())) = _
    rw [hp x]; cases p x <;> rfl
  show Option.bind (j5 (zeG s,some fun z=>zg9 (z.1,some (some g),()),())) (fun q=>bif q.1 then some (false,()) else some (true,())) = _
  rw [h,← jR]; cases (zeG s).any fun x=>!p x <;> rfl
def ze9 (s:ByteArray):Bool:=decide (1 ≤ s.size) && (decide (s.size ≤ 12) && qk (fun i=>small (chr s i) || (decide (i ≠ 0) && zAH (chr s i))) 0 s.size)
theorem zHR (s:ByteArray):ze9 s = (decide (1 ≤ s.size) && (decide (s.size ≤ 12) && (small (chr s 0) && (zeG s).all zAI))):=by
  rw [zxf,ze9,Bool.eq_iff_iff]
  simp only [Bool.and_eq_true,decide_eq_true_eq,jl,zAI]
  constructor
  · rintro ⟨h1,h2,h3⟩
    have:=h3 0 (by omega) (by omega)
    refine ⟨h1,h2,by grind,fun j h4 h5=>?_⟩
    have:=h3 j h4 h5
    grind
  · rintro ⟨h1,h2,h3,h4⟩
    refine ⟨h1,h2,fun j h5 h6=>?_⟩
    have:=h4 j h5 h6
    by_cases e:j = 0
    · subst e; grind
    · grind
theorem zh1 (s:ByteArray):yR (s,()) = some (ze9 s,()):=by
  rw [zR]
  simp only [yR]
  rw [zHR]
  by_cases h1:s.size < 1
  · grind
  by_cases h2:s.size > 12
  · grind
  rw [zxg (by unfold Go.maxLen; omega) zI7]
  have hc:((UInt8.toNat (List.getD s.data.toList (Int.toNat 0) 0):Nat):Int) = chr s 0:=rfl
  rw [hc,zEx]
  simp only [Option.bind_some]
  grind
def zjF (a:qL):Bool:=ze9 a.1 && (ze9 a.2.1 && qe a.2.2.1 0 3)
theorem zCo (a:qL):zbX (a,()) = some (!zjF a,()):=by
  simp only [zbX,zh1,zeF,Option.bind_some,zjF]; grind
theorem zcg {α:Type} (d x:α):zi (List.replicate 1 d) 0 x = [x]:=rfl
theorem zfV {n:Nat} (h:n ≤ 1000000):decide (n ≤ lim) = true:=decide_eq_true (by unfold lim; omega)
theorem zD2 (r:ze) (h:r.2.2.1.length ≤ 1000):zfm (r,()) = some (r.2.2.1.map (·.1),()):=by
  have hl:r.2.2.1.length ≤ Go.maxLen:=by unfold Go.maxLen; omega
  have:=vT (B:=yg) (α:=List ByteArray) (len:=r.2.2.1.length) hl (fun i o=>(r.2.2.1,(r.2.2.1.length:Int),i,o)) (fun i o=>some (o ++ (r.2.2.1.drop i).map (·.1),())) (fun i o=>o.length ≤ i) (fun k i s hi hI hk=>by
    simp only [yg]
    rw [ltT hi,zG hi,qq,zcg,zfV (by simp; omega)]
    simp only [cond_true]
    rw [hk _ (by simp; omega),yJ zph hi]
    simp) (fun k s _=>by
    simp only [yg]
    rw [ltF,List.drop_of_length_le (Nat.le_refl _)]
    simp) [] (Nat.le_refl _)
  exact this
def zlU:List ByteArray→Bool
  | []=>true
  | x :: l=>!(l.any fun y=>eqI .str x y) && zlU l
theorem zsV (x y:ByteArray):eqI .str x y = (x.toList == y.toList):=rfl
theorem zGW (o:List (ByteArray × Int)) (x z:ByteArray) (v:Int):zam .str (yp .str o x v) z = (zam .str o z || eqI .str z x):=by
  induction o with
  | nil=>simp only [yp,zam]; cases eqI .str z x <;> rfl
  | cons e o ih =>
    simp only [yp,zam]
    cases h:eqI .str x e.1 with
    | true =>
      simp only [cond_true,zam]
      have:eqI .str z e.1 = eqI .str z x:=by rw [zsV] at *; rw [zsV]; have:=eq_of_beq h; rw [this]
      cases h2:eqI .str z e.1 with
      | true=>rfl
      | false=>rw [← this,h2]; simp
    | false =>
      simp only [cond_false,zam,ih]
      cases eqI .str z e.1 <;> rfl
theorem zCp (o:List (ByteArray × Int)) (x:ByteArray) (v:Int):(yp .str o x v).length = o.length + (bif zam .str o x then 0 else 1):=by
  induction o with
  | nil=>rfl
  | cons e o ih =>
    simp only [yp,zam]
    cases h:eqI .str x e.1 with
    | true=>simp only [cond_true,List.length_cons,Nat.add_zero]
    | false =>
      simp only [cond_false,List.length_cons,ih]
      generalize (bif zam .str o x then 0 else 1) = n
      omega
def zpz:List ByteArray→List (ByteArray × Int)→Nat
  | [],o=>o.length
  | x :: l,o=>zpz l (yp .str o x (wI (zcd .str (0:Int) o x + 1)))
theorem zEy:∀ (l:List ByteArray) (o:List (ByteArray × Int)),zpz l o ≤ o.length + l.length
  | [],o=>Nat.le_refl _
  | x :: l,o=>by
    have h:=zEy l (yp .str o x (wI (zcd .str (0:Int) o x + 1)))
    rw [zCp] at h
    simp only [zpz,List.length_cons]
    cases hm:zam .str o x <;> (rw [hm] at h; simp only [cond_true,cond_false] at h; omega)
theorem zEz:∀ (l:List ByteArray) (o:List (ByteArray × Int)),(zpz l o == o.length + l.length) = (zlU l && l.all fun x=>!zam .str o x)
  | [],o=>by simp [zpz,zlU]
  | x :: l,o=>by
    have h:=zEy l (yp .str o x (wI (zcd .str (0:Int) o x + 1)))
    have ih:=zEz l (yp .str o x (wI (zcd .str (0:Int) o x + 1)))
    rw [zCp] at h ih
    simp only [zpz,List.length_cons,zlU,List.all_cons]
    cases hm:zam .str o x with
    | true =>
      rw [hm] at h
      simp only [cond_true] at h
      have:(zpz l (yp .str o x (wI (zcd .str (0:Int) o x + 1))) == o.length + (l.length + 1)) = false:=by
        simp only [beq_eq_false_iff_ne]; omega
      rw [this]
      simp
    | false =>
      rw [hm] at ih
      simp only [cond_false] at ih
      rw [show o.length + (l.length + 1) = o.length + 1 + l.length by omega,ih]
      simp only [zGW,Bool.not_or,Bool.not_false,Bool.true_and]
      have:(l.all fun z=>!zam .str o z && !eqI .str z x) = ((l.all fun z=>!zam .str o z) && !(l.any fun y=>eqI .str x y)):=by
        rw [Bool.eq_iff_iff]
        simp only [List.all_eq_true,Bool.and_eq_true,Bool.not_eq_true',List.any_eq_false,Bool.not_eq_true]
        have hs:∀ z,eqI .str z x = eqI .str x z:=fun z=>by rw [zsV,zsV]; exact Bool.beq_comm
        grind
      rw [this]
      cases zlU l <;> cases (l.all fun z=>!zam .str o z) <;> cases (l.any fun y=>eqI .str x y) <;> rfl
theorem zGX (m n:Nat):(((m:Nat):Int) == ((n:Nat):Int)) = (m == n):=by
  rw [Bool.eq_iff_iff]; simp only [beq_iff_eq]; omega
theorem zIx (l:List ByteArray) (h:l.length ≤ 1000):zk8 (l,()) = some (zlU l,()):=by
  have:=zrt (B:=zcN) (l:=l) (α:=List (ByteArray × Int)) (zd .str) (fun i o=>(l,l,(l.length:Int),i,o)) (fun rest o=>some (zpz rest o == l.length,())) (by unfold Go.maxLen; omega) (fun k i x rest s hi hx _ hr hk=>by
    simp only [zcN]
    rw [ltT hi,zG hi,Int.toNat_natCast,hx]
    simp only [cond_true]
    exact hk _) (fun k s=>by
    simp only [zcN]
    rw [ltF]
    simp only [cond_false,zpz]
    rw [zGX]
    cases s.length == l.length <;> rfl) []
  refine this.trans ?_
  have h2:=zEz l []
  simp only [List.length_nil,Nat.zero_add] at h2
  rw [h2]
  simp [zam]
def zgU (l:List qL):Bool:=qe (l.length:Int) 1 8 && (l.all zjF && zlU (l.map (·.1)))
theorem zFB (r:ze):jE (r,()) = some (zgU r.2.2.1,()):=by
  rw [zR]
  simp only [jE,zeF,Option.bind_some]
  unfold zgU
  by_cases hw:qe (List.length r.2.2.1:Int) 1 8 = true
  · have hb:1 ≤ List.length r.2.2.1 ∧ List.length r.2.2.1 ≤ 8:=by unfold qe at hw; grind
    rw [znG (p:=fun a=>!zjF a) (by unfold Go.maxLen; omega) fun x _=>zCo x,zD2 r (by omega)]
    simp only [Option.bind_some]
    rw [zIx _ (by simp; omega)]
    simp only [Option.bind_some]
    have:=jR (l:=r.2.2.1) (p:=zjF)
    grind
  · grind
def zlV (r:ze):Bool:=qe (r.2.1.length:Int) 1 8 && r.2.1.all fun i=>decide (0 ≤ i) && decide (i < (r.1.length:Int))
theorem zIy (r:ze) (h:r.1.length ≤ 1000):vZ (r,()) = some (zlV r,()):=by
  rw [zR]
  simp only [vZ,zeF,Option.bind_some]
  unfold zlV
  by_cases hw:qe (List.length r.2.1:Int) 1 8 = true
  · have hb:1 ≤ List.length r.2.1 ∧ List.length r.2.1 ≤ 8:=by unfold qe at hw; grind
    have hq:∀ x:Int,(fun z:Int × Unit=>zbM (z.1,some r,())) (x,()) = some (!(decide (0 ≤ x) && decide (x < (r.1.length:Int))),()):=fun x=>by
      show zbM _ = _
      simp only [zbM,zeF,Option.bind_some]
      have:wI (((List.length r.1:Nat):Int) - 1) = (r.1.length:Int) - 1:=by
        unfold wI
        exact IntWalk.i64_in _ (by omega)
      rw [this]
      unfold qe
      grind
    rw [zca (by unfold Go.maxLen; omega) fun x _=>hq x]
    simp only [Option.bind_some]
    have:=jR (l:=r.2.1) (p:=fun i=>decide (0 ≤ i) && decide (i < (r.1.length:Int)))
    grind
  · grind
def zsW (r:ze):Bool:=qe r.2.2.2.2.2.1 0 24 && (qe r.2.2.2.2.2.2.1 0 48 && (qe r.2.2.2.2.2.2.2.1 1 4 && qe r.2.2.2.2.2.2.2.2.1 1 16))
theorem zI8 (r:ze):yQ (r,()) = some (zsW r,()):=by
  simp only [yQ,zeF,Option.bind_some,zsW]; grind
def zgV (q:zbA):Bool:=qe q.1 0 12 && (qe q.2.1 0 12 && (qe q.2.2.1 0 12 && (qe q.2.2.2.1 0 12 && qe q.2.2.2.2.1 0 12)))
def zpA:Int→List zbA→Bool
  | _,[]=>true
  | left,q :: l=>zgV q && (decide (q.2.2.2.2.2.1 ≤ left) && zpA (wU (left - q.2.2.2.2.2.1)) l)
theorem zFC (x:Int):zdA (x,()) = some (!qe x 0 12,()):=by
  simp only [zdA,zeF,Option.bind_some]; grind
def ziS (n:Nat) (l:List zbA):Bool:=decide (l.length = n) && (decide (0 < l.length) && (decide (1 ≤ (l.getD 0 jU).1) && zpA 4611686018427387904 l))
theorem zHS (r:ze) (h:1 ≤ r.1.length ∧ r.1.length ≤ 1000):vv (r,()) = some (ziS r.1.length r.2.2.2.2.1,()):=by
  rw [zR]
  simp only [vv,ze2]
  unfold ziS
  by_cases hn:r.2.2.2.2.1.length = r.1.length
  · have hl:r.2.2.2.2.1.length ≤ Go.maxLen:=by unfold Go.maxLen; omega
    have hloop:zgx K0 (4611686018427387904,r.2.2.2.2.1,(r.2.2.2.2.1.length:Int),0) = some (zpA 4611686018427387904 r.2.2.2.2.1,()) :=
      zrt (l:=r.2.2.2.2.1) (α:=Int) jU (fun i s=>(s,r.2.2.2.2.1,(r.2.2.2.2.1.length:Int),i)) (fun rest s=>some (zpA s rest,())) hl (fun k i x rest s hi hx _ hr hk=>by
        simp only [zdD]
        rw [ltT hi,zG hi]
        simp only [qq,hx,cond_true]
        have hnum:zhb (x,()) = some ([x.1,x.2.1,x.2.2.1,x.2.2.2.1,x.2.2.2.2.1],()):=rfl
        rw [hnum]
        simp only [Option.bind_some]
        rw [zca (p:=fun n=>!qe n 0 12) (l:=[x.1,x.2.1,x.2.2.1,x.2.2.2.1,x.2.2.2.2.1]) (by unfold Go.maxLen; simp) fun n _=>zFC n]
        simp only [Option.bind_some,hk,zpA,zgV,List.any_cons,List.any_nil]
        grind) (fun k s=>by simp only [zdD]; rw [ltF]; rfl) _
    rw [hloop,zHP]
    have h1:(((List.length r.2.2.2.2.1:Nat):Int) != ((List.length r.1:Nat):Int)) = false:=by rw [zmt]; simp [hn]
    rw [h1]
    grind
  · have h1:(((List.length r.2.2.2.2.1:Nat):Int) != ((List.length r.1:Nat):Int)) = true:=by rw [zmt]; simp [hn]
    rw [h1]
    grind
end Go.Proofs.YtejbgeokcpillaaGreatDoor
end
section
namespace Go.Proofs.YtejbgeokcpillaaGreatDoor
open Go.Ev
def zvj (b:Int):Int:=((2 ^ b.toNat:Nat):Int)
def vO (b:Int):Bool:=decide (0 ≤ b) && decide (b < 64)
theorem zI9 {b:Int} (h:vO b = true):Go.IntKind.wrap .u64 (1 * 2 ^ (min (Int.toNat b) (Go.IntKind.bits .u64))) = zvj b:=by
  unfold vO at h
  simp only [Bool.and_eq_true,decide_eq_true_eq] at h
  obtain ⟨n,rfl⟩:=Int.eq_ofNat_of_zero_le h.1
  have hn:n < 64:=by omega
  unfold zvj
  rw [Int.toNat_natCast]
  have hm:min n (Go.IntKind.bits .u64) = n:=Nat.min_eq_left (by show n ≤ 64; omega)
  rw [hm]
  have:∀ n:Fin 64,Go.IntKind.wrap .u64 (1 * 2 ^ n.val) = ((2 ^ n.val:Nat):Int):=by decide +kernel
  exact this ⟨n,hn⟩
theorem zFD {n:Int} (h:0 ≤ n ∧ n < 18446744073709551616):Go.IntKind.wrap .u64 n = n:=by
  show n % ((2 ^ 64:Nat):Int) = n
  exact Int.emod_eq_of_lt h.1 (by have:((2 ^ 64:Nat):Int) = 18446744073709551616:=by decide
                                  omega)
def zyC (c:Int) (b:Nat):Bool:=c.toNat.testBit b
def zfa (a b:Int):Int:=Go.IntKind.wrap .u64 (BitVec.toNat (BitVec.ofInt (Go.IntKind.bits .u64) a &&& ~~~BitVec.ofInt (Go.IntKind.bits .u64) b):Int)
def orI (a b:Int):Int:=Go.IntKind.wrap .u64 (BitVec.toNat (BitVec.ofInt (Go.IntKind.bits .u64) a ||| BitVec.ofInt (Go.IntKind.bits .u64) b):Int)
def zkF:Int→List zL→Int
  | a,[]=>a
  | a,g :: gs=>zkF (orI a (zvj g.1)) gs
theorem zjG (n:Nat):BitVec.ofInt (Go.IntKind.bits .u64) (n:Int) = BitVec.ofNat 64 n:=by
  show BitVec.ofInt 64 (n:Int) = BitVec.ofNat 64 n
  apply BitVec.eq_of_toNat_eq
  rw [BitVec.toNat_ofInt,BitVec.toNat_ofNat]
  omega
theorem zIf (x:BitVec 64):Go.IntKind.wrap .u64 (x.toNat:Int) = (x.toNat:Int):=by
  have:=x.isLt
  exact zFD (by omega)
theorem zIz (a b:Nat) (ha:a < 2 ^ 64) (hb:b < 2 ^ 64):orI (a:Int) (b:Int) = ((a ||| b:Nat):Int):=by
  unfold orI
  rw [zjG,zjG]
  show Go.IntKind.wrap .u64 ((BitVec.ofNat 64 a ||| BitVec.ofNat 64 b).toNat:Int) = _
  rw [zIf,BitVec.toNat_or,BitVec.toNat_ofNat,BitVec.toNat_ofNat,Nat.mod_eq_of_lt ha,Nat.mod_eq_of_lt hb]
theorem zt6 (c m:Nat) (hc:c < 2 ^ 64) (hm:m < 2 ^ 64):(zfa (c:Int) (m:Int) != 0) = !((List.range' 0 64).all fun i=>!c.testBit i || m.testBit i):=by
  unfold zfa
  rw [zjG,zjG]
  show (Go.IntKind.wrap .u64 ((BitVec.ofNat 64 c &&& ~~~BitVec.ofNat 64 m).toNat:Int) != 0) = _
  rw [zIf]
  have hbit:∀ i,i < 64→(BitVec.ofNat 64 c &&& ~~~BitVec.ofNat 64 m).getLsbD i = (c.testBit i && !m.testBit i):=by
    intro i hi
    rw [BitVec.getLsbD_and,BitVec.getLsbD_not,BitVec.getLsbD_ofNat,BitVec.getLsbD_ofNat]
    simp [hi]
  by_cases h:((List.range' 0 64).all fun i=>!c.testBit i || m.testBit i) = true
  · rw [h]
    have h0:(BitVec.ofNat 64 c &&& ~~~BitVec.ofNat 64 m) = 0#64:=by
      apply BitVec.eq_of_getLsbD_eq
      intro i hi
      rw [hbit i hi]
      have:=List.all_eq_true.1 h i (by simp [List.mem_range'_1]; omega)
      revert this
      cases c.testBit i <;> cases m.testBit i <;> simp
    rw [h0]
    rfl
  · have h':=h
    simp only [Bool.not_eq_true] at h'
    rw [h']
    have:(BitVec.ofNat 64 c &&& ~~~BitVec.ofNat 64 m).toNat ≠ 0:=by
      intro h0
      apply h
      rw [List.all_eq_true]
      intro i hi
      simp only [List.mem_range'_1] at hi
      have hb:=hbit i (by omega)
      have e0:(BitVec.ofNat 64 c &&& ~~~BitVec.ofNat 64 m) = 0#64:=BitVec.eq_of_toNat_eq (by rw [h0]; rfl)
      rw [e0] at hb
      revert hb
      cases c.testBit i <;> cases m.testBit i <;> simp
    rw [Bool.not_false,bne_iff_ne]
    omega
theorem zHT {b:Int} (h:vO b = true):∃ n:Nat,b = n ∧ n < 64 ∧ zvj b = ((2 ^ n:Nat):Int):=by
  unfold vO at h
  simp only [Bool.and_eq_true,decide_eq_true_eq] at h
  obtain ⟨n,rfl⟩:=Int.eq_ofNat_of_zero_le h.1
  exact ⟨n,rfl,by omega,rfl⟩
theorem zxh:∀ (l:List zL) (m:Nat),m < 2 ^ 64→(∀ g ∈ l,vO g.1 = true)→∃ k:Nat,zkF (m:Int) l = (k:Int) ∧ k < 2 ^ 64 ∧ ∀ i:Nat,k.testBit i = (m.testBit i || l.any fun g=>g.1 == (i:Int))
  | [],m,hm,_=>⟨m,rfl,hm,fun i=>by simp⟩
  | g :: l,m,hm,h=>by
    obtain ⟨n,hn,hn64,hv⟩:=zHT (h g (by simp))
    have hp:2 ^ n < 2 ^ 64:=Nat.pow_lt_pow_right (by omega) hn64
    obtain ⟨k,hk,hk64,hb⟩:=zxh l (m ||| 2 ^ n) (Nat.or_lt_two_pow hm hp) fun g hg=>h g (by simp [hg])
    refine ⟨k,?_,hk64,fun i=>?_⟩
    · simp only [zkF]
      rw [hv,zIz m (2 ^ n) hm hp]
      exact hk
    · rw [hb i,Nat.testBit_or,Nat.testBit_two_pow,List.any_cons,hn,Bool.or_assoc]
      congr 2
      by_cases e:n = i
      · subst e; simp
      · rw [decide_eq_false e]
        symm
        simp only [beq_eq_false_iff_ne,ne_eq]
        omega
def zFE (l:List zL) (c:Int) (i k:Nat):Bool:=(List.range' i k).all fun b=>!zyC c b || l.any fun g=>g.1 == (b:Int)
def zCq (labels:List zD) (l:List zL):Bool:=labels.all fun a=>zFE l a.2.1 0 64
def zpB (l:List zD):Prop:=∀ a ∈ l,0 ≤ a.2.1 ∧ a.2.1 < 18446744073709551616
theorem zJa (labels:List zD) (l:List zL) (hl:zpB labels) (h:∀ g ∈ l,vO g.1 = true):(labels.any fun a=>zfa a.2.1 (zkF 0 l) != 0) = !zCq labels l:=by
  obtain ⟨k,hk,hk64,hb⟩:=zxh l 0 (by decide) h
  have hk':zkF 0 l = (k:Int):=hk
  rw [hk']
  unfold zCq
  have key:∀ ls:List zD,zpB ls→(ls.any fun a=>zfa a.2.1 (k:Int) != 0) = !(ls.all fun a=>zFE l a.2.1 0 64):=by
    intro ls
    induction ls with
    | nil=>intro _; rfl
    | cons a ls ih =>
      intro ha
      have h1:=ha a (by simp)
      rw [List.any_cons,List.all_cons,ih fun b hb=>ha b (by simp [hb]),Bool.not_and]
      congr 1
      obtain ⟨c,hc⟩:=Int.eq_ofNat_of_zero_le h1.1
      rw [hc,zt6 c k (by omega) hk64]
      congr 1
      unfold zFE
      congr 1
      funext i
      rw [hb i]
      unfold zyC
      simp
  exact key labels hl
def zpC (b:Int):zD:=(0,zvj b,())
theorem zsz (b:Int):zeq (b,()) = some (bif vO b then (zpC b,0,()) else ((0,0,()),1,())):=by
  simp only [zeq]
  cases h:vO b with
  | true =>
    have hs:wU (1 * 2 ^ min (Int.toNat b) (Go.IntKind.bits .u64)) = zvj b:=zI9 h
    rw [hs]
    simp only [vO,Bool.and_eq_true,decide_eq_true_eq] at h
    simp only [zpC]
    grind
  | false =>
    simp only [vO,Bool.and_eq_false_iff,decide_eq_false_iff_not] at h
    grind
theorem zFF (a:zD) (c:Int):zgl (a,some c,()) = some (zfa a.2.1 c != 0,()):=by
  rw [zR]; rfl
theorem zHU {σ α:Type} {B:(σ→Option (Int × Unit))→σ→Option (Int × Unit)} {l:List α} (d:α) {p:α→Bool} (st:Int→σ) (hl:l.length ≤ Go.maxLen)
    (hin:∀ k (i:Nat) x,i < l.length→l.getD i d = x→x ∈ l→B k (st i) = bif p x then some ((i:Int),()) else k (st (wI (i + 1)))) (hout:∀ k,B k (st l.length) = some (-1,())):zm B K0 (st 0) = some (qQ p l 0,()):=by
  have:=vT (α:=Unit) (B:=B) hl (fun i _=>st i) (fun i _=>some (qQ p (l.drop i) i,())) (fun _ _=>True) (fun k i s hi _ h=>?_) (fun k s _=>?_) () trivial
  · simpa using this
  · rw [hin k i _ hi rfl (z8 hi),h () trivial,yJ d hi]
    simp only [qQ]
    cases p (l.getD i d) <;> rfl
  · rw [hout,List.drop_of_length_le (Nat.le_refl _)]; rfl
theorem zvk {l:List zD} {a:zD} (hl:l.length ≤ Go.maxLen):zbe (l,a,()) = some (l.any fun y=>eqI zB a y,()):=by
  have h:zgk (l,a,()) = some (qQ (fun y=>eqI zB a y) l 0,()) :=
    zHU (B:=yM) (l:=l) qN (fun i=>(l,(l.length:Int),i,a)) hl (fun k i x hi hx _=>by
      simp only [yM]
      rw [ltT hi,zG hi,qq,hx]; rfl) (fun k=>by simp only [yM]; rw [ltF]; rfl)
  rw [zR]
  simp only [zbe,h,Option.bind_some]
  rw [zuu (p:=fun y=>eqI zB a y) l 0 (Int.le_refl 0)]
def zCr (labels:List zD) (n:Nat) (last:Int) (g:zL):Bool:=vO g.1 && (decide (last < g.1) && (qe g.2.1 0 ((n:Int) - 1) && labels.any fun y=>eqI zB (zpC g.1) y))
def zeH (labels:List zD) (n:Nat):Int→List zL→Bool
  | _,[]=>true
  | last,g :: gs=>zCr labels n last g && zeH labels n g.1 gs
def zsX (labels:List zD) (n:Nat) (l:List zL):Bool:=decide (l.length ≤ 8) && (zeH labels n (-1) l && zCq labels l)
theorem zzl {labels:List zD} {m:Nat}:∀ (l:List zL) (last:Int),zeH labels m last l = true→∀ g ∈ l,vO g.1 = true
  | [],_,_,g,hg=>by cases hg
  | a :: l,last,h,g,hg=>by
    simp only [zeH,zCr,Bool.and_eq_true] at h
    rcases List.mem_cons.1 hg with rfl | hg
    · exact h.1.1
    · exact zzl l a.1 h.2 g hg
theorem zHV (r:ze) (h1:r.1.length ≤ Go.maxLen) (h2:r.2.2.1.length ≤ 1000000) (h3:r.2.2.2.1.length ≤ Go.maxLen) (hL:zpB r.1):vu (r,()) = some (zsX r.1 r.2.2.1.length r.2.2.2.1,()):=by
  have hloop:vu (r,()) = some (zeH r.1 r.2.2.1.length (-1) r.2.2.2.1 && (decide (r.2.2.2.1.length ≤ 8) && !(r.1.any fun a=>zfa a.2.1 (zkF 0 r.2.2.2.1) != 0)),()) :=
    zrt (B := zaV) (l:=r.2.2.2.1) (α:=Int × Int) qO (fun i s=>(s.1,r.2.2.2.1,(r.2.2.2.1.length:Int),i,r,s.2))
      (fun rest s=>some (zeH r.1 r.2.2.1.length s.1 rest && (decide (r.2.2.2.1.length ≤ 8) && !(r.1.any fun a=>zfa a.2.1 (zkF s.2 rest) != 0)),())) h3 (fun k i x rest s hi hx _ hr hk=>by
        simp only [zaV]
        have hw:wI (((List.length r.2.2.1:Nat):Int) - 1) = (r.2.2.1.length:Int) - 1:=by
          unfold wI
          exact IntWalk.i64_in _ (by omega)
        rw [ltT hi,zG hi,hw]
        simp only [qq,hx,cond_true,zsz,Option.bind_some,zeH,zCr,zkF]
        cases hb:vO x.1 with
        | false=>rfl
        | true =>
          simp only [cond_true,zeF,Option.bind_some,Bool.true_and,zvk h1]
          have hk':=hk (x.1,orI s.2 (zvj x.1))
          have e:decide (s.1 < x.1) = !decide ((x.1:Int) ≤ s.1):=by grind
          rw [e]
          cases decide ((x.1:Int) ≤ s.1) with
          | true=>rfl
          | false =>
            cases qe x.2.1 0 ((r.2.2.1.length:Int) - 1) with
            | false=>rfl
            | true =>
              cases (r.1.any fun y=>eqI zB (zpC x.1) y) with
              | false=>rfl
              | true=>exact hk') (fun k s=>by
        simp only [zaV]
        rw [ltF]
        simp only [cond_false,zeH,zkF,Bool.true_and]
        rw [zhZ (p:=fun a=>zfa a.2.1 s.2 != 0) h1 fun x _=>zFF x s.2,Option.bind_some]
        grind) (-1,0)
  rw [hloop]
  unfold zsX
  cases hr:zeH r.1 r.2.2.1.length (-1) r.2.2.2.1 with
  | false=>simp
  | true =>
    rw [zJa r.1 r.2.2.2.1 hL (zzl _ _ hr)]
    simp
theorem zFG {labels:List zD} {n:Nat}:∀ {l:List zL} {last:Int},zeH labels n last l = qk (fun i=>zCr labels n (if i = 0 then last else (l.getD (i - 1) qO).1) (l.getD i qO)) 0 l.length:=by
  intro l
  induction l with
  | nil=>intro last; rfl
  | cons a l ih =>
    intro last
    simp only [zeH,List.length_cons,qk,ih]
    rw [Bool.eq_iff_iff]
    simp only [Bool.and_eq_true,jl]
    constructor
    · rintro ⟨h1,h2⟩
      refine ⟨h1,fun j h3 h4=>?_⟩
      obtain ⟨i,rfl⟩:∃ i,j = i + 1:=⟨j - 1,by omega⟩
      have:=h2 i (by omega) (by omega)
      rw [if_neg (by omega)]
      by_cases e:i = 0
      · subst e; simpa using this
      · rw [if_neg e] at this
        obtain ⟨m,rfl⟩:∃ m,i = m + 1:=⟨i - 1,by omega⟩
        exact this
    · rintro ⟨h1,h2⟩
      refine ⟨h1,fun j h3 h4=>?_⟩
      have:=h2 (j + 1) (by omega) (by omega)
      rw [if_neg (by omega)] at this
      by_cases e:j = 0
      · subst e; simpa using this
      · rw [if_neg e]
        obtain ⟨m,rfl⟩:∃ m,j = m + 1:=⟨j - 1,by omega⟩
        exact this
def qx (r:ze):Bool:=ziR r.1 && (zlV r && (zgU r.2.2.1 && (zsX r.1 r.2.2.1.length r.2.2.2.1 && (ziS r.1.length r.2.2.2.2.1 && zsW r))))
structure qo (r:ze):Prop where
  labels:zpB r.1
  guilds:r.2.2.2.1.length ≤ Go.maxLen
  quotas:r.2.2.2.2.1.length ≤ Go.maxLen
theorem zgd (r:ze) (h:qo r):zaa (r,()) = some (qx r,()):=by
  rw [zR]
  show zm zec K0 (6,0,r,[some vw,some vZ,some jE,some vu,some vv,some yQ]) = _
  obtain ⟨m,hm⟩:=zsU
  have hu:zm zec (m + 8) (6,0,r,[some vw,some vZ,some jE,some vu,some vv,some yQ]) =
    Option.bind (vw (r,())) fun q=>bif q.1 then Option.bind (vZ (r,())) fun q=>bif q.1 then Option.bind (jE (r,())) fun q=>bif q.1 then Option.bind (vu (r,())) fun q=>bif q.1 then Option.bind (vv (r,())) fun q=>bif q.1 then Option.bind (yQ (r,())) fun q=>bif q.1 then some (true,()) else some (false,()) else some (false,()) else some (false,()) else some (false,()) else some (false,()) else some (false,()):=by kernel_rfl
  rw [hm,hu,zHQ]
  unfold qx
  simp only [Option.bind_some]
  cases h1:ziR r.1 with
  | false=>rfl
  | true =>
    have hb:1 ≤ r.1.length ∧ r.1.length ≤ 8:=by unfold ziR qe at h1; grind
    rw [zIy r (by omega),zFB]
    simp only [Option.bind_some,cond_true]
    cases zlV r with
    | false=>rfl
    | true =>
      cases h2:zgU r.2.2.1 with
      | false=>rfl
      | true =>
        have hc:r.2.2.1.length ≤ 8:=by unfold zgU qe at h2; grind
        rw [zHV r (by unfold Go.maxLen; omega) (by omega) h.guilds h.labels,zHS r (by omega),zI8]
        simp only [Option.bind_some]
        grind
end Go.Proofs.YtejbgeokcpillaaGreatDoor
end
section
namespace Go.Proofs.YtejbgeokcpillaaGreatDoor
open Go.Ev
def ju (x:Int):Bool:=decide (0 ≤ x ∧ x ≤ 127)
theorem zFH (x:Int):zdn (x,()) = some (ju x,()):=by simp only [zdn,ju]; grind
theorem zGY (x:Int):zgP (x,()) = some (ju x,()):=by simp only [zgP,ju]; grind
def zpD (x:jm):Bool:=ju x.1 && ju x.2.1
theorem zIA (x:jm):zer (x,()) = some (zpD x,()):=by simp only [zer,zpD,ju]; grind
def zFI (x:Int):Bool:=decide (0 ≤ x ∧ x ≤ 5)
theorem zIB (x:Int):zhd (x,()) = some (zFI x,()):=by simp only [zhd,zFI]; grind
def zxi (s:ByteArray):Bool:=ByteArray.toList s == ByteArray.toList (ByteArray.mk #[])
def zoN (x:qY):Bool:=bif x.1 then ze9 x.2.1 else zxi x.2.1
theorem zGZ (x:qY):ze6 (x,()) = some (!zoN x,()):=by
  rw [zR]
  simp only [ze6,zh1,Option.bind_some,zoN,zxi]
  grind
theorem zCs {l:List qY} (hl:l.length ≤ Go.maxLen):zhM (l,()) = some (l.all zoN,()):=by
  rw [zR]
  simp only [zhM]
  rw [zq5 (p:=fun x=>!zoN x) hl fun x _=>zGZ x,Option.bind_some,← jR]
  cases l.any fun x=>!zoN x <;> rfl
theorem zIC (a b:jm):eqI zC a b = ((a.1:Int) == b.1 && (a.2.1:Int) == b.2.1):=by
  show cond ((a.1:Int) == b.1) (cond ((a.2.1:Int) == b.2.1) true false) false = _
  cases ((a.1:Int) == b.1) <;> cases ((a.2.1:Int) == b.2.1) <;> rfl
def zxj (x:z7):Bool:=bif x.1 then zpD x.2.1 && (zpD x.2.2.1 && zFI x.2.2.2.1) else eqI zW x (zd zW)
theorem zCt (x:z7):zhB (x,()) = some (!zxj x,()):=by
  rw [zR]
  simp only [zhB,zIA,zIB,Option.bind_some,zxj]
  grind
def ziT (a b:z7):Bool:=a.1 && (eqI zC a.2.1 b.2.1 && (a.2.2.2.1:Int) == b.2.2.2.1)
theorem zyD (x:z7) (r:jm) (d:Int):zeT (x,some r,some d,()) = some (x.1 && (eqI zC x.2.1 r && (x.2.2.2.1:Int) == d),()):=by
  rw [zR]
  simp only [zeT,Option.bind_some]
  grind
theorem zID {α:Type} {d:α} {p:α→Bool}:∀ (l:List α) (i:Nat) (a:Int),i < l.length→p (l.getD i d) = true→((qQ p l a) == a + (i:Int)) = qk (fun j=>!p (l.getD j d)) 0 i:=by
  intro l
  induction l with
  | nil=>intro i a h; simp at h
  | cons x l ih =>
    intro i a h hp
    cases i with
    | zero =>
      have hx:p x = true:=hp
      simp only [qQ,hx,cond_true,qk]
      simp
    | succ i =>
      have h':i < l.length:=by simpa using h
      have hp':p (l.getD i d) = true:=hp
      have:=ih i (a + 1) h' hp'
      have e:a + 1 + (i:Int) = a + ((i + 1:Nat):Int):=by omega
      rw [e] at this
      simp only [qQ]
      rw [Bool.eq_iff_iff,jl]
      rw [Bool.eq_iff_iff,jl] at this
      cases hx:p x with
      | true =>
        simp only [cond_true]
        constructor
        · intro h1
          have:=eq_of_beq h1
          omega
        · intro h1
          have h2:(!p x) = true:=h1 0 (by omega) (by omega)
          rw [hx] at h2; cases h2
      | false =>
        simp only [cond_false]
        rw [this]
        constructor
        · intro h1 j _ h2
          cases j with
          | zero=>show (!p x) = true; rw [hx]; rfl
          | succ j=>exact h1 j (by omega) (by omega)
        · intro h1 j _ h2
          exact h1 (j + 1) (by omega) (by omega)
def zG0 (l:List z7):Bool:=qk (fun i=>zxj (l.getD i vC) && bif (l.getD i vC).1 then qk (fun j=>!ziT (l.getD j vC) (l.getD i vC)) 0 i else true) 0 (l.length - 0)
theorem zCu {l:List z7} (hl:l.length ≤ Go.maxLen):zlB (l,()) = some (zG0 l,()):=by
  rw [zR]
  exact yC (B:=zcW) (i0:=0) hl (Nat.zero_le _) (fun i=>(l,l,(l.length:Int),i)) (fun k i h1 h2=>by
    simp only [zcW]
    rw [ltT h2,zG h2]
    simp only [qq,zCt,Option.bind_some,cond_true]
    cases he:zxj (l.getD i vC) with
    | false=>rfl
    | true =>
      cases hs:(l.getD i vC).1 with
      | false=>rfl
      | true =>
        have hi:zhC (l,(l.getD i vC).2.1,(l.getD i vC).2.2.2.1,()) = some (qQ (fun x=>ziT x (l.getD i vC)) l 0,()):=by
          simp only [zhC]
          rw [zlR (p:=fun x=>ziT x (l.getD i vC)) hl fun x _=>zyD x _ _]
          rfl
        have hp:ziT (l.getD i vC) (l.getD i vC) = true:=by
          unfold ziT; rw [zIC,hs]; simp
        have:=zID (d:=vC) (p:=fun x=>ziT x (l.getD i vC)) l i 0 h2 hp
        rw [Int.zero_add] at this
        rw [hi,← this]
        simp only [Option.bind_some,Bool.not_true,cond_false,cond_true,Bool.true_and,bne]
        cases (qQ (fun x=>ziT x (l.getD i vC)) l 0 == (i:Int)) <;> rfl) (fun k=>by simp only [zcW]; rw [ltF]; rfl)
def zgC (k n:Int) (r:jm):Bool:=((k == 1 || k == 3) && (ju n && eqI zC r (zd zC))) || (k == 2 && (n == 0 && zpD r))
def qt (x:zj):Bool:=bif x.1 then ze9 x.2.1 && zgC x.2.2.1 x.2.2.2.1 x.2.2.2.2.1 else eqI zl x (zd zl)
theorem zh2 (x:qF):jD (x,()) = some (zgC x.1 x.2.1 x.2.2.1,()):=by
  rw [zR]
  simp only [jD,zFH,Option.bind_some,zgC,zpD]
  grind
theorem zAi (x:zj):zf9 (x,()) = some (!qt x,()):=by
  rw [zR]
  have h:zeU (x,()) = some ((x.2.2.1,x.2.2.2.1,x.2.2.2.2.1,()),()):=rfl
  simp only [zf9,zh1,Option.bind_some,qt,h,zh2]
  grind
theorem zj6 {l:List zj} (hl:l.length ≤ Go.maxLen):zbn (l,()) = some (l.all qt,()):=by
  rw [zR]
  simp only [zbn]
  rw [zis (p:=fun x=>!qt x) hl fun x _=>zAi x,Option.bind_some,← jR]
  cases l.any fun x=>!qt x <;> rfl
def zCv (c:Int):Bool:=decide (32 ≤ c ∧ c ≤ 126)
theorem zIE (c:Int):zhe (c,()) = some (zCv c,()):=by simp only [zhe,zCv]; grind
def zFJ (s:ByteArray):Bool:=decide (1 ≤ s.size ∧ s.size ≤ 40) && ((chr s 0 != 32 && chr s (s.size - 1) != 32) && qk (fun i=>zCv (chr s i)) 0 s.size)
theorem zxk (a b:ByteArray) (h:a.size < b.size):(ByteArray.toList a == ByteArray.toList b) = false:=by
  rw [beq_eq_false_iff_ne]
  intro e
  rw [Go.ByteArray.toList_eq,Go.ByteArray.toList_eq] at e
  have:=congrArg List.length e
  rw [zoM,zoM] at this
  omega
theorem zJj (s:ByteArray):∀ (n:Nat) (t:ByteArray),t.size ≤ n→∀ fuel,n < fuel→∃ r,zm zP fuel (t,32) = some (r,()) ∧ r.size ≤ t.size ∧ (chr t 0 ≠ 32→r = t) ∧ (1 ≤ t.size→chr t 0 = 32→r.size < t.size):=by
  intro n
  induction n with
  | zero =>
    intro t ht fuel hf
    obtain ⟨f,rfl⟩:∃ f,fuel = f + 1:=⟨fuel - 1,by omega⟩
    refine ⟨t,?_,Nat.le_refl _,fun _=>rfl,fun h=>by omega⟩
    show zP _ (t,32) = _
    simp only [zP]
    rw [decide_eq_false (by omega)]; rfl
  | succ n ih =>
    intro t ht fuel hf
    obtain ⟨f,rfl⟩:∃ f,fuel = f + 1:=⟨fuel - 1,by omega⟩
    by_cases h0:t.size = 0
    · refine ⟨t,?_,Nat.le_refl _,fun _=>rfl,fun h=>by omega⟩
      show zP _ (t,32) = _
      simp only [zP]
      rw [decide_eq_false (by omega)]; rfl
    have hc:((UInt8.toNat (List.getD t.data.toList (Int.toNat 0) 0):Nat):Int) = chr t 0:=rfl
    by_cases h32:chr t 0 = 32
    · have hsz:(ByteArray.extract t (Int.toNat 1) t.size).size = t.size - 1:=by
        rw [ByteArray.size_extract]
        show min t.size t.size - 1 = _
        omega
      obtain ⟨r,h1,h2,-⟩:=ih (ByteArray.extract t (Int.toNat 1) t.size) (by rw [hsz]; omega) f (by omega)
      refine ⟨r,?_,by omega,fun h=>absurd h32 h,fun _ _=>by omega⟩
      show zP (zm zP f) (t,32) = _
      simp only [zP]
      rw [hc,h32,h1]
      grind
    · refine ⟨t,?_,Nat.le_refl _,fun _=>rfl,fun _ h=>absurd h h32⟩
      show zP (zm zP f) (t,32) = _
      simp only [zP]
      rw [hc,decide_eq_true (by omega),decide_eq_true (by omega)]
      grind
theorem zJk:∀ (n:Nat) (t:ByteArray),t.size ≤ n→n ≤ 100→∀ fuel,n < fuel→∃ r,zm zK fuel (t,32) = some (r,()) ∧ r.size ≤ t.size ∧ (chr t (t.size - 1) ≠ 32→r = t) ∧ (1 ≤ t.size→chr t (t.size - 1) = 32→r.size < t.size):=by
  intro n
  induction n with
  | zero =>
    intro t ht _ fuel hf
    obtain ⟨f,rfl⟩:∃ f,fuel = f + 1:=⟨fuel - 1,by omega⟩
    refine ⟨t,?_,Nat.le_refl _,fun _=>rfl,fun h=>by omega⟩
    show zK _ (t,32) = _
    simp only [zK]
    rw [decide_eq_false (by omega)]; rfl
  | succ n ih =>
    intro t ht hn fuel hf
    obtain ⟨f,rfl⟩:∃ f,fuel = f + 1:=⟨fuel - 1,by omega⟩
    by_cases h0:t.size = 0
    · refine ⟨t,?_,Nat.le_refl _,fun _=>rfl,fun h=>by omega⟩
      show zK _ (t,32) = _
      simp only [zK]
      rw [decide_eq_false (by omega)]; rfl
    have hw:wI ((t.size:Int) - 1) = ((t.size - 1:Nat):Int):=zxS (by omega) (by unfold Go.maxLen; omega)
    have hc:((UInt8.toNat (List.getD t.data.toList (Int.toNat ((t.size - 1:Nat):Int)) 0):Nat):Int) = chr t (t.size - 1):=by rw [Int.toNat_natCast]; rfl
    by_cases h32:chr t (t.size - 1) = 32
    · have hsz:(ByteArray.extract t 0 (Int.toNat ((t.size - 1:Nat):Int))).size = t.size - 1:=by
        rw [ByteArray.size_extract,Int.toNat_natCast]
        omega
      obtain ⟨r,h1,h2,-⟩:=ih (ByteArray.extract t 0 (Int.toNat ((t.size - 1:Nat):Int))) (by rw [hsz]; omega) (by omega) f (by omega)
      refine ⟨r,?_,by omega,fun h=>absurd h32 h,fun _ _=>by omega⟩
      show zK (zm zK f) (t,32) = _
      simp only [zK]
      rw [hw,hc,h32,h1,zG (by omega)]
      grind
    · refine ⟨t,?_,Nat.le_refl _,fun _=>rfl,fun _ h=>absurd h h32⟩
      show zK (zm zK f) (t,32) = _
      simp only [zK]
      rw [hw,hc,zG (by omega),decide_eq_true (by omega)]
      grind
theorem zJb (s:ByteArray) (h:1 ≤ s.size ∧ s.size ≤ 40):∃ r,zeZ (s,ByteArray.mk #[32],()) = some (r,()) ∧ (ByteArray.toList r == ByteArray.toList s) = (chr s 0 != 32 && chr s (s.size - 1) != 32):=by
  obtain ⟨r,h1,h2,h3,h4⟩:=zJk s.size s (Nat.le_refl _) (by omega) K0 (zAF (by unfold Go.maxLen; omega))
  obtain ⟨r',h5,h6,h7,h8⟩:=zJj s r.size r (Nat.le_refl _) K0 (zAF (by unfold Go.maxLen; omega))
  refine ⟨r',?_,?_⟩
  · simp only [zeZ]
    have e0:(ByteArray.toList s == ByteArray.toList (ByteArray.mk #[])) = false:=by
      cases he:zxi s with
      | false=>exact he
      | true =>
        unfold zxi at he
        have:=eq_of_beq he
        rw [Go.ByteArray.toList_eq,Go.ByteArray.toList_eq] at this
        have h2:s.size = 0:=by
          rw [← zoM,this]; rfl
        omega
    have e1:(ByteArray.toList (ByteArray.mk #[32]) == ByteArray.toList (ByteArray.mk #[])) = false:=by
      rw [Go.ByteArray.toList_eq,Go.ByteArray.toList_eq]; rfl
    have p1:zbh (s,32,()) = some (r,()):=h1
    have p2:zcl (r,32,()) = some (r',()):=h5
    have z1:((ByteArray.size (ByteArray.mk #[32]):Nat):Int) = 1:=rfl
    have z2:((UInt8.toNat (List.getD (Array.toList (ByteArray.data (ByteArray.mk #[32]))) (Int.toNat 0) 0):Nat):Int) = 32:=rfl
    rw [e0,e1,z1,z2,p1,Option.bind_some,p2]
    rfl
  · by_cases hl:chr s (s.size - 1) = 32
    · have:=h4 h.1 hl
      rw [zxk r' s (by omega),hl]; simp
    · obtain rfl:=h3 hl
      by_cases hf:chr r 0 = 32
      · have:=h8 h.1 hf
        rw [zxk r' r (by omega),hf]; simp
      · rw [h7 hf]
        simp [hf,hl]
theorem zD3 (s:ByteArray):zi9 (s,()) = some (zFJ s,()):=by
  rw [zR]
  simp only [zi9]
  unfold zFJ
  by_cases hb:1 ≤ s.size ∧ s.size ≤ 40
  · obtain ⟨r,h1,h2⟩:=zJb s hb
    rw [zxg (by unfold Go.maxLen; omega) zIE,h1,zxf,← h2]
    simp only [Option.bind_some]
    grind
  · grind
def zoO (x:qn):Bool:=bif x.1 then (ju x.2.1 && (ju x.2.2.1 && ju x.2.2.2.1)) && zFJ x.2.2.2.2.1 else eqI z3 x (zd z3)
theorem zCw (x:qn):zhL (x,()) = some (!zoO x,()):=by
  rw [zR]
  simp only [zhL,ziI,zGY,zD3,Option.bind_some,zoO]
  grind
theorem zCx {l:List qn} (hl:l.length ≤ Go.maxLen):zhN (l,()) = some (l.all zoO,()):=by
  rw [zR]
  simp only [zhN]
  rw [zit (p:=fun x=>!zoO x) hl fun x _=>zCw x,Option.bind_some,← jR]
  cases l.any fun x=>!zoO x <;> rfl
end Go.Proofs.YtejbgeokcpillaaGreatDoor
end
section
namespace Go.Proofs.YtejbgeokcpillaaGreatDoor
open Go.Ev
abbrev M62:Int:=4611686018427387904
abbrev U64:Int:=18446744073709551616
def vP (x:Int):Bool:=decide (0 ≤ x ∧ x ≤ 3)
theorem za4 (x:Int):jb (x,()) = some (vP x,()):=by simp only [jb,vP]; grind
def zFK (a b:Int):Int × Int × Unit:=bif decide (a + b > M62) then (0,7,()) else (a + b,0,())
theorem zD4 {a b:Int} (ha:0 ≤ a) (hb:0 ≤ b ∧ b < U64):zi4 (a,b,()) = some (zFK a b):=by
  simp only [zi4,extA,extB,zFK,cond_true]
  have h0:0 ≤ (a + b) / 18446744073709551616:=by omega
  have h1:((a + b) / 18446744073709551616 != 0) = decide (18446744073709551616 ≤ a + b):=by
    rw [Bool.eq_iff_iff]; simp only [bne_iff_ne,ne_eq,decide_eq_true_eq]; omega
  have h2:a + b < 18446744073709551616→(a + b) % 18446744073709551616 = a + b:=fun h=>by omega
  unfold M62 at *
  unfold U64 at *
  grind
def zCy (a b:Int):Int × Int × Unit:=bif decide (a * b > M62) then (0,7,()) else (a * b,0,())
theorem zJl (a b:Nat) (ha:a < 18446744073709551616) (hb:b < 18446744073709551616):zcx ((a:Int),(b:Int),()) = some ((((a * b) / 18446744073709551616:Nat):Int),(((a * b) % 18446744073709551616:Nat):Int),()):=by
  have e32:((2:Int) ^ min (Int.toNat 32) (Go.IntKind.bits .u64)) = 4294967296:=rfl
  have hand:∀ x:Nat,x < 18446744073709551616→wU (BitVec.toNat (BitVec.ofInt (Go.IntKind.bits .u64) (x:Int) &&& BitVec.ofInt (Go.IntKind.bits .u64) 4294967295):Int) = ((x % 4294967296:Nat):Int):=fun x hx=>by
    have h1:BitVec.ofInt (Go.IntKind.bits .u64) 4294967295 = BitVec.ofNat 64 4294967295:=rfl
    rw [zjG,h1]
    have h2:(BitVec.ofNat 64 x &&& BitVec.ofNat 64 4294967295).toNat = x % 4294967296:=by
      rw [BitVec.toNat_and,BitVec.toNat_ofNat,BitVec.toNat_ofNat,Nat.mod_eq_of_lt (show x < 2 ^ 64 by omega)]
      exact Nat.and_two_pow_sub_one_eq_mod x 32
    have h3:((BitVec.ofNat 64 x &&& BitVec.ofNat 64 4294967295:BitVec (Go.IntKind.bits .u64)).toNat:Int) = ((x % 4294967296:Nat):Int):=congrArg _ h2
    exact (congrArg wU h3).trans (zFD (by omega))
  have hdiv:∀ x:Nat,Int.fdiv (x:Int) 4294967296 = ((x / 4294967296:Nat):Int):=fun x=>by
    rw [Int.fdiv_eq_ediv_of_nonneg _ (by omega)]; rfl
  have hw:∀ x:Nat,x < 18446744073709551616→wU (x:Int) = (x:Int):=fun x hx=>zFD (by omega)
  have hmod:wU ((a:Int) * (b:Int)) = (((a * b) % 18446744073709551616:Nat):Int):=by
    rw [show ((a:Int) * (b:Int)) = ((a * b:Nat):Int) by simp]
    show ((a * b:Nat):Int) % ((2 ^ 64:Nat):Int) = _
    rfl
  simp only [zcx,e32]
  have ha1:a / 4294967296 ≤ 4294967295:=by omega
  have ha0:a % 4294967296 ≤ 4294967295:=by omega
  have hb1:b / 4294967296 ≤ 4294967295:=by omega
  have hb0:b % 4294967296 ≤ 4294967295:=by omega
  have hp:=Nat.mul_le_mul ha1 hb1
  have hq:=Nat.mul_le_mul ha1 hb0
  have hr:=Nat.mul_le_mul ha0 hb1
  have hs:=Nat.mul_le_mul ha0 hb0
  have hab:a * b = (a / 4294967296 * (b / 4294967296)) * 18446744073709551616 + (a / 4294967296 * (b % 4294967296) + a % 4294967296 * (b / 4294967296)) * 4294967296 + a % 4294967296 * (b % 4294967296):=by
    conv=>lhs; rw [← Nat.div_add_mod a 4294967296,← Nat.div_add_mod b 4294967296]
    grind
  rw [hmod,hab,hand a ha,hand b hb,hdiv a,hdiv b]
  generalize a / 4294967296 = a1 at *
  generalize a % 4294967296 = a0 at *
  generalize b / 4294967296 = b1 at *
  generalize b % 4294967296 = b0 at *
  simp only [← Int.natCast_mul]
  generalize a1 * b1 = p at *
  generalize a1 * b0 = q at *
  generalize a0 * b1 = r at *
  generalize a0 * b0 = s at *
  rw [hw p (by omega),hw q (by omega),hw r (by omega),hw s (by omega),hdiv s]
  simp only [← Int.natCast_add]
  rw [hw (q + s / 4294967296) (by omega),hdiv (q + s / 4294967296),hand _ (by omega)]
  simp only [← Int.natCast_add]
  rw [hw (p + (q + s / 4294967296) / 4294967296) (by omega),hw ((q + s / 4294967296) % 4294967296 + r) (by omega),hdiv]
  simp only [← Int.natCast_add]
  rw [hw _ (by omega)]
  have:p + (q + s / 4294967296) / 4294967296 + ((q + s / 4294967296) % 4294967296 + r) / 4294967296 = (p * 18446744073709551616 + (q + r) * 4294967296 + s) / 18446744073709551616:=by omega
  rw [this]
theorem zCz {a b:Int} (ha:0 ≤ a ∧ a < U64) (hb:0 ≤ b ∧ b < U64):zeA (a,b,()) = some (zCy a b):=by
  obtain ⟨m,rfl⟩:=Int.eq_ofNat_of_zero_le ha.1
  obtain ⟨n,rfl⟩:=Int.eq_ofNat_of_zero_le hb.1
  unfold U64 at *
  simp only [zeA]
  rw [zJl m n (by omega) (by omega),Option.bind_some]
  unfold zCy M62
  have e:((m:Int) * (n:Int)) = ((m * n:Nat):Int):=by simp
  rw [e]
  generalize m * n = p
  by_cases h:p < 18446744073709551616
  · have h1:p / 18446744073709551616 = 0:=by omega
    have h2:p % 18446744073709551616 = p:=by omega
    simp only [h1,h2]
    grind
  · have h1:(((p / 18446744073709551616:Nat):Int) != 0) = true:=by simp only [bne_iff_ne,ne_eq]; omega
    simp only [h1]
    grind
def zlW:Int→List Int→Int × Int × Unit
  | a,[]=>(a,0,())
  | a,x :: l=>bif decide (a + x > M62) then (0,7,()) else zlW (a + x) l
theorem zau {σ α β ρ:Type} {B:(σ→Option ρ)→σ→Option ρ} {l:List β} (d:β) (I:Nat→α→Prop) (st:Int→α→σ) (G:List β→α→Option ρ) (hl:l.length ≤ Go.maxLen)
    (hin:∀ k (i:Nat) x rest s,i < l.length→I i s→l.getD i d = x→x ∈ l→l.drop (i + 1) = rest→(∀ s',I (i + 1) s'→k (st (wI (i + 1)) s') = G rest s')→B k (st i s) = G (x :: rest) s) (hout:∀ k s,I l.length s→B k (st l.length s) = G [] s) (s:α) (h0:I 0 s):zm B K0 (st 0 s) = G l s:=by
  have:=vT (B:=B) hl st (fun i s=>G (l.drop i) s) I (fun k i s hi hI h=>?_) (fun k s hI=>?_) s h0
  · simpa using this
  · rw [yJ d hi]
    exact hin k i _ _ s hi hI rfl (z8 hi) rfl fun s' hI'=>h s' hI'
  · rw [hout _ _ hI,List.drop_of_length_le (Nat.le_refl _)]
theorem zkG {l:List Int} (hl:l.length ≤ Go.maxLen) (h:∀ x ∈ l,0 ≤ x ∧ x < U64):ze0 (l,()) = some (zlW 0 l) :=
  zau (B:=zeC) (l:=l) (α:=Int) (0:Int) (fun _ s=>0 ≤ s) (fun i s=>(s,l,(l.length:Int),i)) (fun rest s=>some (zlW s rest)) hl (fun k i x rest s hi hI hx hm hr hk=>by
    simp only [zeC]
    have hxx:=h x hm
    rw [ltT hi,zG hi,qq,hx,zD4 hI hxx]
    simp only [cond_true,Option.bind_some,zFK,zlW]
    by_cases hb:s + x > M62
    · rw [decide_eq_true hb]; rfl
    · rw [decide_eq_false hb]
      exact hk (s + x) (by omega)) (fun k s _=>by simp only [zeC]; rw [ltF]; rfl) 0 (Int.le_refl 0)
def zfy (a b:zD):Bool:=decide (a.1 ≤ b.1) && (List.range' 0 64).all fun i=>!zyC a.2.1 i || zyC b.2.1 i
def zdR (a:zD):Prop:=0 ≤ a.2.1 ∧ a.2.1 < U64
theorem zje {a b:zD} (ha:zdR a) (hb:zdR b):jH (a,b,()) = some (zfy a b,()):=by
  rw [zR]
  simp only [jH]
  unfold zfy
  unfold zdR U64 at *
  obtain ⟨m,hm⟩:=Int.eq_ofNat_of_zero_le ha.1
  obtain ⟨n,hn⟩:=Int.eq_ofNat_of_zero_le hb.1
  have h1:=zt6 m n (by omega) (by omega)
  unfold zfa at h1
  have h2:(wU (BitVec.toNat (BitVec.ofInt (Go.IntKind.bits .u64) (a.2.1:Int) &&& ~~~BitVec.ofInt (Go.IntKind.bits .u64) (b.2.1:Int)):Int) == 0) = (List.range' 0 64).all fun i=>!zyC a.2.1 i || zyC b.2.1 i:=by
    rw [hm,hn]
    have h3:∀ z:Int,(z != 0) = !(z == 0):=fun z=>rfl
    rw [h3] at h1
    have h4:=congrArg (!·) h1
    simp only [Bool.not_not] at h4
    exact h4
  rw [h2]
  grind
theorem zxl (x:Int):zeV (x,()) = some (ju x,()):=by simp only [zeV,ju]; grind
def zxm (x:zku):Bool:=vP x.1 && (decide (x.2.1 ≤ M62) && decide (-1 ≤ x.2.2.1 ∧ x.2.2.1 ≤ 127))
theorem zD5 (x:zku):zfP (x,()) = some (zxm x,()):=by
  rw [zR]
  simp only [zfP,za4,zxl,Option.bind_some,zxm,ju]
  unfold M62
  grind
def zAJ (x:zku):Bool:=(x.2.1:Int) == 0 && (x.2.2.1:Int) == -1
theorem zCA (x:zku):zet (x,()) = some (zAJ x,()):=by
  rw [zR]
  simp only [zet,zAJ]
  have h:eqI zdi x (x.1,(zd zdi).2.1,-1,(zd zdi).2.2.2) = ((x.2.1:Int) == 0 && (x.2.2.1:Int) == -1):=by
    show cond ((x.1:Int) == x.1) (cond ((x.2.1:Int) == 0) (cond ((x.2.2.1:Int) == -1) true false) false) false = _
    rw [beq_self_eq_true]
    cases ((x.2.1:Int) == 0) <;> cases ((x.2.2.1:Int) == -1) <;> rfl
  rw [h]
def zvl (x:zt):Bool:=(ju x.2.1 && (ju x.2.2.1 && (x.2.1:Int) != x.2.2.1)) && ((zxm x.2.2.2.1 && zxm x.2.2.2.2.1) && !(zAJ x.2.2.2.1 && zAJ x.2.2.2.2.1))
def zsY (x:zt):Prop:=(0 ≤ x.2.2.2.1.2.1 ∧ x.2.2.2.1.2.1 < U64) ∧ (0 ≤ x.2.2.2.2.1.2.1 ∧ x.2.2.2.2.1.2.1 < U64)
theorem zD6 (x:zt):zi7 (x,()) = some (zvl x,()):=by
  rw [zR]
  simp only [zi7,zxl,zD5,zCA,Option.bind_some,zvl]
  grind
def zkP (x:zt):Bool:=bif x.1 then zvl x else eqI zx x (zd zx)
theorem zxn (x:zt):zeb (x,()) = some (!zkP x,()):=by
  rw [zR]
  simp only [zeb,zD6,Option.bind_some,zkP]
  grind
theorem zAj {l:List zt} (hl:l.length ≤ Go.maxLen):zga (l,()) = some (l.all zkP,()):=by
  rw [zR]
  simp only [zga]
  rw [zh0 (p:=fun x=>!zkP x) hl fun x _=>zxn x,Option.bind_some,← jR]
  cases l.any fun x=>!zkP x <;> rfl
end Go.Proofs.YtejbgeokcpillaaGreatDoor
end
section
namespace Go.Proofs.YtejbgeokcpillaaGreatDoor
open Go.Ev
theorem zkQ {α:Type} {p:α→Bool} {x:α} {l:List α}:(x :: l).filter p = bif p x then x :: l.filter p else l.filter p:=by
  rw [List.filter_cons]; cases p x <;> rfl
def qC {α:Type} (p:α→Bool):Nat→List α→List Int
  | _,[]=>[]
  | i,x :: l=>bif p x then (i:Int) :: qC p (i + 1) l else qC p (i + 1) l
theorem zkH {α:Type} {p:α→Bool}:∀ (l:List α) (i:Nat),(qC p i l).length ≤ l.length
  | [],_=>Nat.le_refl _
  | x :: l,i=>by
    have:=zkH (p:=p) l (i + 1)
    simp only [qC,List.length_cons]
    cases p x <;> simp <;> omega
theorem zkI {α:Type} {p:α→Bool}:∀ (l:List α) (i:Nat),∀ z ∈ qC p i l,∃ j:Nat,z = (j:Int) ∧ i ≤ j ∧ j < i + l.length
  | [],i,z,h=>by cases h
  | x :: l,i,z,h=>by
    simp only [qC] at h
    have ih:=zkI (p:=p) l (i + 1)
    cases hp:p x with
    | true =>
      rw [hp,cond_true] at h
      rcases List.mem_cons.1 h with rfl | h
      · exact ⟨i,rfl,Nat.le_refl _,by simp⟩
      · obtain ⟨j,h1,h2,h3⟩:=ih z h
        exact ⟨j,h1,by omega,by simp; omega⟩
    | false =>
      rw [hp,cond_false] at h
      obtain ⟨j,h1,h2,h3⟩:=ih z h
      exact ⟨j,h1,by omega,by simp; omega⟩
theorem zj7 {α β:Type} {p q:α→Bool} {g:α→β} (d:α) (L:List α):∀ (l:List α) (i:Nat),(∀ j,j < l.length→L.getD (i + j) d = l.getD j d)→((qC p i l).filter fun z=>q (L.getD z.toNat d)).map (fun z=>g (L.getD z.toNat d)) = (l.filter fun x=>p x && q x).map g
  | [],_,_=>rfl
  | x :: l,i,h=>by
    have ih:=zj7 (p:=p) (q:=q) (g:=g) d L l (i + 1) fun j hj=>by
      have:=h (j + 1) (by simp; omega)
      rw [show i + 1 + j = i + (j + 1) by omega,this]; rfl
    have h0:L.getD i d = x:=h 0 (by simp)
    simp only [qC,zkQ]
    cases hp:p x with
    | false=>simp only [cond_false,Bool.false_and]; exact ih
    | true =>
      simp only [cond_true,Bool.true_and,zkQ,Int.toNat_natCast,h0]
      cases hq:q x with
      | false=>exact ih
      | true=>simp only [cond_true,List.map_cons,Int.toNat_natCast,h0,ih]
theorem zsA {l:List zt} {g:zt × Unit→Option (Bool × Unit)}:zdu (some (l,some g,()),()) = some (true,()):=rfl
theorem zt7 {l:List zt} {g:zt × Unit→Option (Bool × Unit)} {p:zt→Bool} (hg:∀ x,g (x,()) = some (p x,())) {i:Nat} (hi:i < l.length):vK (some (l,some g,()),(i:Int),()) = some (p (l.getD i qB),()):=by
  rw [zR]
  simp only [vK,zsA,Option.bind_some,cond_true]
  rw [decide_eq_true (by omega),ltT hi,zG hi,qq,hg]
  simp only [cond_true,Option.bind_some]
theorem zqE {l:List zt} {g:zt × Unit→Option (Bool × Unit)} {p:zt→Bool} (hl:l.length ≤ lim) (hg:∀ x,g (x,()) = some (p x,())):zcC (some (l,some g,()),()) = some (qC p 0 l,()):=by
  have hl':l.length ≤ Go.maxLen:=by unfold lim at hl; unfold Go.maxLen; omega
  have:=vT (B:=ym) (α:=List Int) hl' (fun i o=>(some (l,some g,()),(l.length:Int),i,o)) (fun i o=>some (o ++ qC p i (l.drop i),())) (fun i o=>o.length ≤ i) (fun k i o hi hI hk=>by
    simp only [ym]
    rw [ltT hi,zt7 hg hi,zcg,yJ qB hi]
    simp only [cond_true,Option.bind_some,qC]
    rw [decide_eq_true (by simp; omega)]
    cases hp:p (l.getD i qB) with
    | false =>
      simp only [cond_false]
      exact hk o (by omega)
    | true =>
      simp only [cond_true]
      rw [hk _ (by simp; omega)]
      simp) (fun k o _=>by
    simp only [ym]
    rw [ltF,List.drop_of_length_le (Nat.le_refl _)]
    simp [qC]) [] (Nat.le_refl _)
  refine Eq.trans ?_ (this.trans ?_)
  · rfl
  · simp
theorem zCB {l:List zp} {g:zp × Unit→Option (Bool × Unit)}:zdw (some (l,some g,()),()) = some (true,()):=rfl
theorem zD7 {l:List zp} {g:zp × Unit→Option (Bool × Unit)} {p:zp→Bool} (hg:∀ x,g (x,()) = some (p x,())) {i:Nat} (hi:i < l.length):zea (some (l,some g,()),(i:Int),()) = some (p (l.getD i qm),()):=by
  rw [zR]
  simp only [zea,zCB,Option.bind_some,cond_true]
  rw [decide_eq_true (by omega),ltT hi,zG hi,qq,hg]
  simp only [cond_true,Option.bind_some]
theorem zAk {l:List zp} {g:zp × Unit→Option (Bool × Unit)} {p:zp→Bool} (hl:l.length ≤ lim) (hg:∀ x,g (x,()) = some (p x,())):zfx (some (l,some g,()),()) = some (qC p 0 l,()):=by
  have hl':l.length ≤ Go.maxLen:=by unfold lim at hl; unfold Go.maxLen; omega
  have:=vT (B:=yo) (α:=List Int) hl' (fun i o=>(some (l,some g,()),(l.length:Int),i,o)) (fun i o=>some (o ++ qC p i (l.drop i),())) (fun i o=>o.length ≤ i) (fun k i o hi hI hk=>by
    simp only [yo]
    rw [ltT hi,zD7 hg hi,zcg,yJ qm hi]
    simp only [cond_true,Option.bind_some,qC]
    rw [decide_eq_true (by simp; omega)]
    cases hp:p (l.getD i qm) with
    | false =>
      simp only [cond_false]
      exact hk o (by omega)
    | true =>
      simp only [cond_true]
      rw [hk _ (by simp; omega)]
      simp) (fun k o _=>by
    simp only [yo]
    rw [ltF,List.drop_of_length_le (Nat.le_refl _)]
    simp [qC]) [] (Nat.le_refl _)
  refine Eq.trans ?_ (this.trans ?_)
  · rfl
  · simp
def zm9 (l:List zt) (c:Int):Int × Int × Unit:=bif vP c then zlW 0 ((l.filter fun x=>x.1 && (x.2.2.2.1.1:Int) == c).map fun x=>x.2.2.2.1.2.1) else (0,1,())
theorem zD8 (l:List zt) (hl:l.length ≤ lim):zi8 (l,()) = some (some (l,some zf3,()),()):=by
  simp only [zi8,yu,zj2 hl,Option.bind_some]
  rfl
theorem zAl (x:zt):zf3 (x,()) = some (x.1,()):=by
  rw [zR]; rfl
theorem zCC {l:List zt} (hl:l.length ≤ lim) (h:∀ x ∈ l,zsY x) (c:Int):zhJ (l,c,()) = some (zm9 l c):=by
  have hl':l.length ≤ Go.maxLen:=by unfold lim at hl; unfold Go.maxLen; omega
  simp only [zhJ,zhI,za4,Option.bind_some]
  unfold zm9
  cases hc:vP c with
  | false=>rfl
  | true =>
    simp only [cond_true]
    rw [zD8 l hl,Option.bind_some,zqE hl zAl,Option.bind_some]
    have hsl:=zkH (p:=fun x:zt=>x.1) l 0
    have hsm:=zkI (p:=fun x:zt=>x.1) l 0
    have hloop:=zau (B:=zcY) (l:=qC (fun x:zt=>x.1) 0 l) (α:=List Int) (0:Int) (fun i o=>o.length ≤ i ∧ ∀ x ∈ o,0 ≤ x ∧ x < U64) (fun i o=>(l,c,qC (fun x:zt=>x.1) 0 l,((qC (fun x:zt=>x.1) 0 l).length:Int),i,o))
      (fun rest o=>some (zlW 0 (o ++ (rest.filter fun z=>((l.getD z.toNat qB).2.2.2.1.1:Int) == c).map fun z=>(l.getD z.toNat qB).2.2.2.1.2.1))) (by omega) (fun k i x rest o hi hI hx hm hr hk=>by
        simp only [zcY]
        obtain ⟨j,rfl,-,hj⟩:=hsm x hm
        rw [ltT hi,zG hi,qq,hx,zG (by omega),zG (by omega),Int.toNat_natCast,zcg]
        have hxx:=(h (l.getD j qB) (z8 (by omega))).1
        simp only [cond_true,zkQ,Int.toNat_natCast]
        rw [decide_eq_true (by simp; omega)]
        simp only [cond_true]
        cases hq:((l.getD j qB).2.2.2.1.1:Int) == c with
        | false =>
          exact hk o ⟨by omega,hI.2⟩
        | true =>
          simp only [cond_true,List.map_cons,Int.toNat_natCast]
          refine (hk _ ⟨by simp; omega,fun x hx=>?_⟩).trans ?_
          · rcases List.mem_append.1 hx with hx | hx
            · exact hI.2 x hx
            · rcases List.mem_singleton.1 hx with rfl
              exact hxx
          · rw [List.append_assoc]; rfl) (fun k o hI=>by
        simp only [zcY]
        rw [ltF]
        simp only [cond_false]
        rw [zkG (by omega) hI.2,List.filter_nil,List.map_nil,List.append_nil]
        rfl) [] ⟨Nat.le_refl _,fun x hx=>by cases hx⟩
    refine hloop.trans ?_
    rw [List.nil_append,zj7 (q:=fun x:zt=>(x.2.2.2.1.1:Int) == c) (g:=fun x:zt=>x.2.2.2.1.2.1) qB l l 0 fun j _=>by rw [Nat.zero_add]]
end Go.Proofs.YtejbgeokcpillaaGreatDoor
end
section
namespace Go.Proofs.YtejbgeokcpillaaGreatDoor
open Go.Ev
def zCD (x:Int):Bool:=decide (0 ≤ x ∧ x ≤ 2)
theorem zyE (x:Int):zaD (x,()) = some (!zCD x,()):=by simp only [zaD,zCD]; grind
def zxo (r:ze) (i:Nat) (row:List Int):Bool:=decide (row.length = r.2.2.1.length) && (row.all zCD && row.getD (Int.toNat (r.2.2.2.1.getD i qO).2.1) (0:Int) == 2)
def zh3 (r:ze) (l:List (List Int)):Bool:=decide (l.length = r.2.2.2.1.length) && qk (fun i=>zxo r i (l.getD i [])) 0 (l.length - 0)
structure zgW (r:ze):Prop where
  labels:1 ≤ r.1.length ∧ r.1.length ≤ 8
  lines:1 ≤ r.2.1.length ∧ r.2.1.length ≤ 8
  accounts:1 ≤ r.2.2.1.length ∧ r.2.2.1.length ≤ 8
  guilds:r.2.2.2.1.length ≤ 8
  quotas:r.2.2.2.2.1.length = r.1.length
  heads:∀ i,i < r.2.2.2.1.length→0 ≤ (r.2.2.2.1.getD i qO).2.1 ∧ (r.2.2.2.1.getD i qO).2.1 < (r.2.2.1.length:Int)
theorem vx {r:ze} (h:qx r = true):zgW r:=by
  simp only [qx,Bool.and_eq_true] at h
  obtain ⟨h1,h2,h3,h4,h5,-⟩:=h
  simp only [ziR,zlV,zgU,zsX,ziS,qe,Bool.and_eq_true,decide_eq_true_eq,zFG,jl] at h1 h2 h3 h4 h5
  refine ⟨by omega,by omega,by omega,h4.1,by omega,fun i hi=>?_⟩
  have:=h4.2.1 i (by omega) (by omega)
  simp only [zCr,qe,Bool.and_eq_true,decide_eq_true_eq] at this
  omega
theorem ixR {n:Nat} {x:Int} {ρ:Type} {y:Option ρ} (h:0 ≤ x ∧ x < (n:Int)):inR x (n:Int) y = y:=zGR h.1 h.2
theorem zCE {r:ze} (hr:qo r) (l:List (List Int)):zhT (r,l,()) = some (qx r && zh3 r l,()):=by
  rw [zR]
  simp only [zhT,zhS,zgd r hr,Option.bind_some]
  cases hb:qx r with
  | false=>rfl
  | true =>
    have ok:=vx hb
    rw [zmt]
    unfold zh3
    by_cases hn:l.length = r.2.2.2.1.length
    · have hg:=ok.guilds
      have hloop:ziM K0 (some zaD,l,(l.length:Int),0,r) = bif qk (fun i=>zxo r i (l.getD i [])) 0 (l.length - 0) then some (true,()) else some (false,()) :=
        yC (i0:=0) (n:=l.length) (by unfold Go.maxLen; omega) (Nat.zero_le _) (fun i=>(some zaD,l,(l.length:Int),i,r)) (fun k i h1 h2=>by
          simp only [ze7]
          rw [ltT h2,zG h2,Int.toNat_natCast,zmt]
          unfold zxo
          by_cases hm:(l.getD i []).length = r.2.2.1.length
          · have ha:=ok.accounts
            have hh:=ok.heads i (by omega)
            rw [zca (p:=fun x=>!zCD x) (l:=l.getD i []) (by unfold Go.maxLen; omega) fun x _=>zyE x,zG (by omega),qq,ixR (by rw [hm]; exact hh)]
            have:=jR (l:=l.getD i []) (p:=zCD)
            simp only [Option.bind_some,cond_true]
            grind
          · grind) (fun k=>by simp only [ze7]; rw [ltF]; rfl)
      rw [hloop]
      grind
    · grind
theorem zG1 (x:Int):zjs (x,()) = some (ju x,()):=by simp only [zjs,ju]; grind
theorem zFL (x:Int):zdp (x,()) = some (ju x,()):=by simp only [zdp,ju]; grind
def zpE (k a b:Int):Int × Int × Unit:=bif (k != 1 && k != 2) || (a == 0 || b == 0) then (0,1,()) else bif decide (a * b > M62) then (0,7,()) else bif k == 2 then (a,0,()) else (a * b,0,())
theorem zt8 {k a b:Int} (ha:0 ≤ a ∧ a < U64) (hb:0 ≤ b ∧ b < U64):zfS (k,a,b,()) = some (zpE k a b):=by
  simp only [zfS,zCz ha hb,Option.bind_some,zCy,zpE]
  generalize a * b = p
  cases h:decide (p > M62) <;> simp only [cond_true,cond_false] <;> grind
def zeg (x:Int):Prop:=0 ≤ x ∧ x < U64
structure zkR (x:zp):Prop where
  amount:zeg x.2.2.2.2.2.2.1
  price:zeg x.2.2.2.2.2.2.2.1
  held:zeg x.2.2.2.2.2.2.2.2.1
def zpF (x:zp):Bool:=((zpE x.2.2.2.1 x.2.2.2.2.2.2.2.1 x.2.2.2.2.2.2.1).2.1 == 0 && (zpE x.2.2.2.1 x.2.2.2.2.2.2.2.1 x.2.2.2.2.2.2.1).1 == x.2.2.2.2.2.2.2.2.1) && ((ju x.2.1 && ju x.2.2.1) && ((vP x.2.2.2.2.1 && vP x.2.2.2.2.2.1) && ((x.2.2.2.2.1:Int) != x.2.2.2.2.2.1 && decide (0 ≤ x.2.2.2.2.2.2.2.2.2.1))))
theorem zFM {x:zp} (h:zkR x):zkB (x,()) = some (zpF x,()):=by
  rw [zR]
  simp only [zkB,zt8 h.price h.amount,zG1,za4,Option.bind_some,zpF]
  generalize zpE x.2.2.2.1 x.2.2.2.2.2.2.2.1 x.2.2.2.2.2.2.1 = n
  grind
def zyF (x:zp):Bool:=bif x.1 then zpF x else eqI zo x (zd zo)
def zvm (l:List zp):List Int:=(l.filter fun x=>x.1).map fun x=>x.2.2.2.2.2.2.2.2.2.1
def zCF:List Int→List (Int × Int)→Nat
  | [],o=>o.length
  | x :: l,o=>zCF l (yp tI o x (wI (zcd tI (0:Int) o x + 1)))
def zsZ (l:List zp):Bool:=l.all zyF && zCF (zvm l) [] == (zvm l).length
theorem zCG {l:List zp} (hl:l.length ≤ 1000000) (h:∀ x ∈ l,zkR x):zlK (l,()) = some (zsZ l,()):=by
  have hloop:=zau (B:=zc0) (l:=l) (α:=Nat × List (Int × Int)) qm (fun i s=>s.1 ≤ i) (fun i s=>((s.1:Int),l,(l.length:Int),i,s.2))
    (fun rest s=>some (rest.all zyF && zCF (zvm rest) s.2 == s.1 + (zvm rest).length,())) (by unfold Go.maxLen; omega) (fun k i x rest s hi hI hx hm hr hk=>by
      obtain ⟨n,o⟩:=s
      simp only [zc0]
      have hn:n ≤ i:=hI
      have hw:wI ((n:Int) + 1) = ((n + 1:Nat):Int):=by
        unfold wI
        rw [IntWalk.i64_in _ (by omega)]; rfl
      rw [ltT hi,zG hi]
      simp only [qq,hx,cond_true,zFM (h x hm),Option.bind_some,hw,zvm,zkQ,List.all_cons,zyF]
      cases hlive:x.1 with
      | false =>
        simp only [cond_false]
        have:=hk (n,o) (by show n ≤ i + 1; omega)
        cases eqI zo x (zd zo) with
        | false=>rfl
        | true=>exact this
      | true =>
        simp only [cond_true,List.map_cons,zCF,List.length_cons]
        have:=hk (n + 1,yp tI o x.2.2.2.2.2.2.2.2.2.1 (wI (zcd tI (0:Int) o x.2.2.2.2.2.2.2.2.2.1 + 1))) (by show n + 1 ≤ i + 1; omega)
        cases zpF x with
        | false=>rfl
        | true =>
          refine this.trans ?_
          simp only [zvm,Bool.true_and]
          rw [show n + 1 + (List.map (fun x:zp=>x.2.2.2.2.2.2.2.2.2.1) (List.filter (fun x=>x.1) rest)).length = n + ((List.map (fun x:zp=>x.2.2.2.2.2.2.2.2.2.1) (List.filter (fun x=>x.1) rest)).length + 1) by omega]) (fun k s _=>by
      obtain ⟨n,o⟩:=s
      simp only [zc0]
      rw [ltF]
      simp only [cond_false,zvm,List.filter_nil,List.map_nil,zCF,List.length_nil,List.all_nil,Bool.true_and,Nat.add_zero]
      rw [zGX]
      cases o.length == n <;> rfl) (0,[]) (Nat.le_refl _)
  refine hloop.trans ?_
  unfold zsZ
  rw [Nat.zero_add]
structure zs0 (x:zH):Prop where
  amount:zeg x.2.2.2.2.2.2.2.1
  price:zeg x.2.2.2.2.2.2.2.2.1
def zkS (x:zH):Bool:=(decide (x.1 ≤ M62) && (ju x.2.1 && (ju x.2.2.1 && (ju x.2.2.2.1 && ju x.2.2.2.2.2.2.2.2.2.1)))) && bif (x.2.2.2.2.1:Int) == 3 then ((x.2.2.2.2.2.1:Int) == 0 && (x.2.2.2.2.2.2.1:Int) == 0) && ((x.2.2.2.2.2.2.2.1:Int) == 0 && (x.2.2.2.2.2.2.2.2.1:Int) == 0)
  else ((zpE x.2.2.2.2.1 x.2.2.2.2.2.2.2.1 x.2.2.2.2.2.2.2.2.1).2.1 == 0 && (x.2.2.2.2.2.2.2.2.2.1:Int) == 0) && ((x.2.2.2.2.2.1:Int) != x.2.2.2.2.2.2.1 && (vP x.2.2.2.2.2.1 && vP x.2.2.2.2.2.2.1))
theorem zG2 (x:zH):eqI zv x (x.1,x.2.1,x.2.2.1,x.2.2.2.1,x.2.2.2.2.1,(zd zv).2.2.2.2.2.1,(zd zv).2.2.2.2.2.2.1,(zd zv).2.2.2.2.2.2.2.1,(zd zv).2.2.2.2.2.2.2.2.1,x.2.2.2.2.2.2.2.2.2.1,(zd zv).2.2.2.2.2.2.2.2.2.2) = (((x.2.2.2.2.2.1:Int) == 0 && (x.2.2.2.2.2.2.1:Int) == 0) && ((x.2.2.2.2.2.2.2.1:Int) == 0 && (x.2.2.2.2.2.2.2.2.1:Int) == 0)):=by
  show cond ((x.1:Int) == x.1) (cond ((x.2.1:Int) == x.2.1) (cond ((x.2.2.1:Int) == x.2.2.1) (cond ((x.2.2.2.1:Int) == x.2.2.2.1) (cond ((x.2.2.2.2.1:Int) == x.2.2.2.2.1) (cond ((x.2.2.2.2.2.1:Int) == 0) (cond ((x.2.2.2.2.2.2.1:Int) == 0) (cond ((x.2.2.2.2.2.2.2.1:Int) == 0) (cond ((x.2.2.2.2.2.2.2.2.1:Int) == 0) (cond ((x.2.2.2.2.2.2.2.2.2.1:Int) == x.2.2.2.2.2.2.2.2.2.1) true false) false) false) false) false) false) false) false) false) false = _
  simp only [beq_self_eq_true,cond_true]
  cases ((x.2.2.2.2.2.1:Int) == 0) <;> cases ((x.2.2.2.2.2.2.1:Int) == 0) <;> cases ((x.2.2.2.2.2.2.2.1:Int) == 0) <;> cases ((x.2.2.2.2.2.2.2.2.1:Int) == 0) <;> rfl
theorem zD9 {x:zH} (h:zs0 x):zja (x,()) = some (zkS x,()):=by
  rw [zR]
  simp only [zja,zt8 h.amount h.price,zFL,za4,Option.bind_some,zkS]
  rw [zG2 x]
  generalize zpE x.2.2.2.2.1 x.2.2.2.2.2.2.2.1 x.2.2.2.2.2.2.2.2.1 = n
  unfold M62
  grind
def zG3 (a b:zH):Int:=orV (zj4 a.1 b.1) (zj4 a.2.1 b.2.1)
theorem zAm (a b:zH):zf8 (a,b,()) = some (zG3 a b,()):=by
  simp only [zf8,zqD,zlT,Option.bind_some]
  show Option.bind (zcK ([zj4 a.1 b.1,zj4 a.2.1 b.2.1],())) _ = _
  rw [zI6]; rfl
def zlX (l:List zH):Bool:=qk (fun i=>zkS (l.getD i zg6) && (decide (i = 0) || !decide (zG3 (l.getD (i - 1) zg6) (l.getD i zg6) ≥ 0))) 0 (l.length - 0)
theorem zAn {l:List zH} (hl:l.length ≤ Go.maxLen) (h:∀ x ∈ l,zs0 x):zjX (l,()) = some (zlX l,()):=by
  rw [zR]
  exact yC (B:=zbZ) (i0:=0) hl (Nat.zero_le _) (fun i=>(l,l,(l.length:Int),i)) (fun k i h1 h2=>by
    simp only [zbZ]
    rw [ltT h2,zG h2,qq,zD9 (h _ (z8 h2))]
    by_cases h0:i = 0
    · subst h0
      simp only [cond_true,Option.bind_some]
      grind
    · rw [zxS (by omega) (by omega),zG (by omega),Int.toNat_natCast,zAm]
      simp only [cond_true,Option.bind_some]
      grind) (fun k=>by simp only [zbZ]; rw [ltF]; rfl)
end Go.Proofs.YtejbgeokcpillaaGreatDoor
end
section
namespace Go.Proofs.YtejbgeokcpillaaGreatDoor
open Go.Ev
def zpG (a:List Int):Prop:=∀ x ∈ a,zeg x
theorem zlY {a:List Int} (h:zpG a) (i:Nat):zeg (a.getD i 0):=by
  by_cases hi:i < a.length
  · exact h _ (z8 hi)
  · rw [List.getD_eq_getElem?_getD,List.getElem?_eq_none (by omega)]
    unfold zeg U64; decide
structure zkT (x:zg):Prop where
  trades:∀ t ∈ x.2.2.2.2.1,zsY t
  purses:∀ a ∈ x.2.2.2.2.2.1,zpG a
  made:zpG x.2.2.2.2.2.2.2.1
  spent:zpG x.2.2.2.2.2.2.2.2.1
structure qT (s:zb):Prop where
  shelves:∀ x ∈ s.2.1,zkT x
  orders:∀ x ∈ s.2.2.2.1,zkR x
  entries:∀ x ∈ s.2.2.2.2.1,zs0 x
def zjH (r:ze) (x:zg) (q:zbA):Bool:=((decide ((x.1.length:Int) = q.1) && decide ((x.2.1.length:Int) = q.2.1)) && (decide ((x.2.2.1.length:Int) = q.2.2.1) && decide ((x.2.2.2.1.length:Int) = q.2.2.2.1))) && (decide ((x.2.2.2.2.1.length:Int) = q.2.2.2.2.1) && (decide (x.2.2.2.2.2.1.length = r.2.2.1.length) && decide (x.2.2.2.2.2.2.1.length = r.2.2.1.length)))
def zh4 (r:ze) (s:zb):Bool:=(decide (s.2.1.length = r.1.length) && (decide ((s.2.2.2.1.length:Int) = r.2.2.2.2.2.1) && decide ((s.2.2.2.2.1.length:Int) ≤ r.2.2.2.2.2.2.1))) && ((decide (s.2.2.2.2.2.1.length = r.2.1.length) && decide (s.1 ≤ M62)) && qk (fun i=>zjH r (s.2.1.getD i zf) (r.2.2.2.2.1.getD i jU)) 0 (s.2.1.length - 0))
theorem neI (a b:Int):(a != b) = !decide (a = b):=by
  rw [Bool.eq_iff_iff]; simp
theorem zAo {r:ze} (hr:qo r) (s:zb):zbo ((r,s,()),()) = some (qx r && zh4 r s,()):=by
  rw [zR]
  simp only [zbo,zgb,zgd r hr,Option.bind_some]
  cases hb:qx r with
  | false=>rfl
  | true =>
    have ok:=vx hb
    have ok1:=ok.labels
    have ok2:=ok.quotas
    rw [zmt,zmt]
    unfold zh4 M62
    by_cases hn:s.2.1.length = r.1.length
    · have hloop:zhR K0 ((r.2.2.1.length:Int),s.2.1,(s.2.1.length:Int),0,(r,s,())) = bif qk (fun i=>zjH r (s.2.1.getD i zf) (r.2.2.2.2.1.getD i jU)) 0 (s.2.1.length - 0) then some (true,()) else some (false,()) :=
        yC (i0:=0) (n:=s.2.1.length) (by unfold Go.maxLen; omega) (Nat.zero_le _) (fun i=>((r.2.2.1.length:Int),s.2.1,(s.2.1.length:Int),i,(r,s,()))) (fun k i h1 h2=>by
          simp only [zee]
          rw [ltT h2,zG h2,zG (by omega)]
          simp only [qq,neI,cond_true,zjH]
          generalize s.2.1.getD i zf = x
          generalize r.2.2.2.2.1.getD i jU = q
          generalize k _ = kk
          grind (splits:=30)) (fun k=>by simp only [zee]; rw [ltF]; rfl)
      rw [hloop]
      grind
    · grind
structure zgX (r:ze) (s:zb):Prop where
  shelves:s.2.1.length = r.1.length
  orders:s.2.2.2.1.length ≤ 24
  entries:s.2.2.2.2.1.length ≤ 48
  people:s.2.2.2.2.2.1.length = r.2.1.length
  shelf:∀ x ∈ s.2.1,x.1.length ≤ 12 ∧ x.2.1.length ≤ 12 ∧ x.2.2.1.length ≤ 12 ∧ x.2.2.2.1.length ≤ 12 ∧ x.2.2.2.2.1.length ≤ 12 ∧ x.2.2.2.2.2.1.length = r.2.2.1.length ∧ x.2.2.2.2.2.2.1.length = r.2.2.1.length
theorem zvn:∀ (l:List zbA) (n:Int),zpA n l = true→∀ q ∈ l,zgV q = true
  | [],_,_,q,h=>by cases h
  | a :: l,n,h,q,hq=>by
    simp only [zpA,Bool.and_eq_true] at h
    rcases List.mem_cons.1 hq with rfl | hq
    · exact h.1
    · exact zvn l _ h.2.2 q hq
theorem zcb {r:ze} {s:zb} (hb:qx r = true) (h:zh4 r s = true):zgX r s:=by
  have ok:=vx hb
  simp only [qx,Bool.and_eq_true] at hb
  obtain ⟨-,-,-,-,h5,h6⟩:=hb
  simp only [ziS,zsW,qe,Bool.and_eq_true,decide_eq_true_eq] at h5 h6
  simp only [zh4,Bool.and_eq_true,decide_eq_true_eq,jl] at h
  obtain ⟨⟨h7,h8,h9⟩,⟨h10,-⟩,h11⟩:=h
  refine ⟨h7,by omega,by omega,h10,fun x hx=>?_⟩
  obtain ⟨i,hi,rfl⟩:=List.mem_iff_getElem.1 hx
  have h12:=h11 i (by omega) (by omega)
  have e:s.2.1.getD i zf = s.2.1[i]:=by simp [List.getD,hi]
  rw [e] at h12
  have hq:=zvn _ _ h5.2.2.2 (r.2.2.2.2.1.getD i jU) (z8 (by have:=ok.quotas; omega))
  simp only [zgV,qe,Bool.and_eq_true,decide_eq_true_eq] at hq
  simp only [zjH,Bool.and_eq_true,decide_eq_true_eq] at h12
  omega
def j9 (x:zg):Bool:=(x.1.all zoN) && (zG0 x.2.1 && (x.2.2.1.all qt && (x.2.2.2.1.all zoO && x.2.2.2.2.1.all zkP)))
theorem zxp {x:zg} (h:x.1.length ≤ 12 ∧ x.2.1.length ≤ 12 ∧ x.2.2.1.length ≤ 12 ∧ x.2.2.2.1.length ≤ 12 ∧ x.2.2.2.2.1.length ≤ 12):zed (x,()) = some (j9 x,()):=by
  rw [zR]
  have hm:12 ≤ Go.maxLen:=by unfold Go.maxLen; omega
  simp only [zed]
  rw [zCs (by omega),zCu (by omega),zj6 (by omega),zCx (by omega),zAj (by omega)]
  simp only [Option.bind_some,j9]
  grind
theorem zAp {r:ze} {s:zb} (ok:zgW r) (sz:zgX r s):zbp ((r,s,()),()) = some (s.2.1.all j9,()):=by
  rw [zR]
  simp only [zbp]
  have h1:=ok.labels
  have h2:=sz.shelves
  rw [zDU (p:=j9) (by unfold Go.maxLen; omega) fun x hx=>zxp (by have:=sz.shelf x hx; omega)]
  simp only [Option.bind_some]
def vQ (r:ze) (x:Int):Bool:=decide (0 ≤ x ∧ x < (r.2.2.1.length:Int))
def zgD (r:ze) (x:Int):Bool:=decide (0 ≤ x ∧ x < (r.1.length:Int))
theorem y4 (r:ze) (s:zb) (x:Int):qJ ((r,s,()),x,()) = some (vQ r x,()):=by simp only [qJ,vQ]; grind
theorem zqF (r:ze) (s:zb) (x:Int):zbk ((r,s,()),x,()) = some (zgD r x,()):=by simp only [zbk,zgD]; grind
def zlZ (s:zb) (x:jm):Bool:=decide (0 ≤ x.1 ∧ x.1 < (s.2.1.length:Int)) && (decide (0 ≤ x.2.1 ∧ x.2.1 < ((s.2.1.getD x.1.toNat zf).1.length:Int)) && ((s.2.1.getD x.1.toNat zf).1.getD x.2.1.toNat zsT).1)
theorem zqG (s:zb) (x:jm):zdH (s,x,()) = some (zlZ s x,()):=by
  rw [zR]
  simp only [zdH,zlZ,ix]
  by_cases h1:0 ≤ x.1 ∧ x.1 < (s.2.1.length:Int)
  · rw [ixR h1,ixR h1]
    by_cases h2:0 ≤ x.2.1 ∧ x.2.1 < ((s.2.1.getD x.1.toNat zf).1.length:Int)
    · rw [ixR h2]
      grind
    · grind
  · grind
def ziU (r:ze) (s:zb) (x:zp):Bool:=!x.1 || (zgD r x.2.1 && (vQ r x.2.2.1 && decide (x.2.2.2.2.2.2.2.2.2.1 < (s.2.2.2.2.1.length:Int))))
def ziV (r:ze) (s:zb) (x:zH):Bool:=decide (x.2.1 < (r.2.1.length:Int)) && ((x.2.2.1:Int) == r.2.1.getD x.2.1.toNat 0 && (vQ r x.2.2.2.1 && decide (x.1 ≤ s.1)))
def zs1 (r:ze) (x:Int):Bool:=x == -1 || vQ r x
theorem zFN (r:ze) (s:zb) (x:zp):zdB (x,some (r,s,()),()) = some (ziU r s x,()):=by
  rw [zR]
  simp only [zdB,y4,zqF,Option.bind_some,ziU]
  grind
theorem zFO (r:ze) (s:zb) {x:zH} (h:zkS x = true):zaS (x,some (r,s,()),()) = some (ziV r s x,()):=by
  rw [zR]
  simp only [zaS,y4,Option.bind_some,ziV,ix]
  have:0 ≤ x.2.1:=by unfold zkS ju at h; grind
  by_cases h1:x.2.1 < (r.2.1.length:Int)
  · rw [ixR ⟨this,h1⟩]
    grind
  · grind
theorem zFP (r:ze) (s:zb) (x:Int):vc (x,some (r,s,()),()) = some (zs1 r x,()):=by
  rw [zR]
  simp only [vc,y4,Option.bind_some,zs1]
  grind
def zdV (r:ze) (s:zb):Bool:=zh3 r s.2.2.1 && (zsZ s.2.2.2.1 && (zlX s.2.2.2.2.1 && (zlZ s (zd zC) && (s.2.2.2.1.all (ziU r s) && (s.2.2.2.2.1.all (ziV r s) && s.2.2.2.2.2.1.all (zs1 r))))))
theorem zCH {l:List zH} (h:zlX l = true):∀ x ∈ l,zkS x = true:=by
  intro x hx
  simp only [zlX,jl,Bool.and_eq_true] at h
  obtain ⟨i,hi,rfl⟩:=List.mem_iff_getElem.1 hx
  have e:l.getD i zg6 = l[i]:=by simp [List.getD,hi]
  rw [← e]
  exact (h i (by omega) (by omega)).1
theorem zyG {r:ze} {s:zb} (hr:qo r) (hb:qx r = true) (hs:qT s) (sz:zgX r s):zaJ ((r,s,()),()) = some (zdV r s,()):=by
  rw [zR]
  have ok:=vx hb
  have h1:=ok.lines
  have h2:=sz.orders
  have h3:=sz.entries
  have h4:=sz.people
  have hm:48 ≤ Go.maxLen:=by unfold Go.maxLen; omega
  simp only [zaJ,zCE hr,hb,Bool.true_and,Option.bind_some]
  unfold zdV
  cases zh3 r s.2.2.1 with
  | false=>rfl
  | true =>
    rw [zCG (by omega) hs.orders,zAn (by omega) hs.entries,zqG]
    simp only [Option.bind_some,cond_true]
    cases zsZ s.2.2.2.1 with
    | false=>rfl
    | true =>
      cases he:zlX s.2.2.2.2.1 with
      | false=>rfl
      | true =>
        rw [zDV (p:=ziU r s) (by omega) fun x _=>zFN r s x,zDW (p:=ziV r s) (by omega) fun x hx=>zFO r s (zCH he x hx),zGU (p:=zs1 r) (by omega) fun x _=>zFP r s x]
        simp only [Option.bind_some,cond_true]
        grind
end Go.Proofs.YtejbgeokcpillaaGreatDoor
end
section
namespace Go.Proofs.YtejbgeokcpillaaGreatDoor
open Go.Ev
def zFQ (r:ze) (a b:Int):Bool:=zgD r a && (zgD r b && zfy (r.1.getD a.toNat qN) (r.1.getD b.toNat qN))
theorem zCI {r:ze} (hr:qo r) (a:Int) (h:zgD r a = true):zdR (r.1.getD a.toNat qN):=by
  simp only [zgD,decide_eq_true_eq] at h
  exact hr.labels _ (z8 (by omega))
theorem zt9 {r:ze} (hr:qo r) (s:zb) (a b:Int):zfQ ((r,s,()),a,b,()) = some (zFQ r a b,()):=by
  rw [zR]
  simp only [zfQ,zqF,Option.bind_some,zFQ,ix]
  cases ha:zgD r a with
  | false=>rfl
  | true =>
    cases hb:zgD r b with
    | false=>rfl
    | true =>
      rw [zje (zCI hr a ha) (zCI hr b hb)]
      simp only [zgD,decide_eq_true_eq] at ha hb
      rw [ixR ha,ixR hb]
      simp only [Option.bind_some]
      grind
def zdS (r:ze) (s:zb) (i:Int) (x:jm):Bool:=zlZ s x && zFQ r x.1 i
theorem zh5 {r:ze} (hr:qo r) (s:zb) (i:Int) (x:jm):vL (x,some (r,s,()),some i,()) = some (zdS r s i x,()):=by
  rw [zR]
  simp only [vL,zqG,zt9 hr,Option.bind_some,zdS]
  grind
def zeI (r:ze) (s:zb) (i:Int) (x:z7):Bool:=!x.1 || (zdS r s i x.2.1 && zdS r s i x.2.2.1)
def yT (r:ze) (s:zb) (i:Int) (x:zj):Bool:=(x.2.2.1:Int) != 2 || zdS r s i x.2.2.2.2.1
def zh6 (r:ze) (s:zb) (i:Int) (x:zg):Bool:=x.2.1.all (zeI r s i) && (x.2.2.1.all (yT r s i) && x.2.2.2.2.2.2.1.all (zdS r s i))
theorem zG4 {r:ze} (hr:qo r) (s:zb) (i:Int) (x:z7):zd8 (x,some (some fun z=>vL (z.1,some (r,s,()),some i,())),()) = some (zeI r s i x,()):=by
  rw [zR]
  simp only [zd8,zh5 hr,Option.bind_some,zeI]
  grind
theorem zG5 {r:ze} (hr:qo r) (s:zb) (i:Int) (x:zj):zbF (x,some (some fun z=>vL (z.1,some (r,s,()),some i,())),()) = some (yT r s i x,()):=by
  rw [zR]
  simp only [zbF,zh5 hr,Option.bind_some,yT]
  grind
theorem zAq {r:ze} {s:zb} (hr:qo r) (ok:zgW r) (sz:zgX r s):zdJ ((r,s,()),()) = some (qk (fun i=>zh6 r s (i:Int) (s.2.1.getD i zf)) 0 (s.2.1.length - 0),()):=by
  rw [zR]
  have h1:=ok.labels
  have h2:=sz.shelves
  have h3:=ok.accounts
  exact yC (B:=zb1) (i0:=0) (n:=s.2.1.length) (by unfold Go.maxLen; omega) (Nat.zero_le _) (fun i=>(s.2.1,(s.2.1.length:Int),i,(r,s,()))) (fun k i _ h=>by
    have hm:12 ≤ Go.maxLen:=by unfold Go.maxLen; omega
    have hz:=sz.shelf _ (z8 (d:=zf) h)
    simp only [zb1]
    have hbelow:zjU ((r,s,()),(i:Int),()) = some (some fun z=>vL (z.1,some (r,s,()),some (i:Int),()),()):=rfl
    rw [ltT h,zG h,qq,hbelow,Option.bind_some,zFw (p:=zeI r s i) (by omega) fun x _=>zG4 hr s i x,zxe (p:=yT r s i) (by omega) fun x _=>zG5 hr s i x,zGV (p:=zdS r s i) (by omega) fun x _=>zh5 hr s i x]
    simp only [Option.bind_some,cond_true]
    unfold zh6
    grind) (fun k=>by simp only [zb1]; rw [ltF]; rfl)
theorem zEa {σ ρ:Type} {B:(σ→Option ρ)→σ→Option ρ} {i0 n:Nat} (hn:n ≤ Go.maxLen) (h0:i0 ≤ n) {p:Nat→Bool} {fin bad:Option ρ} (st:Int→σ)
    (hin:∀ k (i:Nat),i0 ≤ i→i < n→B k (st i) = bif p i then k (st (wI (i + 1))) else bad) (hout:∀ k,B k (st n) = fin) (K:Nat) (hK:n - i0 < K):zm B K (st i0) = bif qk p i0 (n - i0) then fin else bad:=by
  have key:∀ (m i fuel:Nat),i0 ≤ i→i + m = n→m < fuel→zm B fuel (st i) = bif qk p i m then fin else bad:=by
    intro m
    induction m with
    | zero =>
      intro i fuel _ h1 h2
      obtain ⟨f,rfl⟩:∃ f,fuel = f + 1:=⟨fuel - 1,by omega⟩
      obtain rfl:i = n:=by omega
      exact hout _
    | succ m ih =>
      intro i fuel h1 h2 h3
      obtain ⟨f,rfl⟩:∃ f,fuel = f + 1:=⟨fuel - 1,by omega⟩
      show B (zm B f) (st i) = _
      rw [hin _ i h1 (by omega),wI,zwc (len:=n) (by omega) hn,show ((i:Int) + 1) = ((i + 1:Nat):Int) by omega,ih (i + 1) f (by omega) (by omega) (by omega)]
      simp only [qk]
      cases p i <;> rfl
  exact key (n - i0) i0 K (Nat.le_refl _) (by omega) hK
def zfb (r:ze) (x:zj):Bool:=(x.2.2.1:Int) != 1 || vQ r x.2.2.2.1
def zs2 (r:ze) (i:Int) (x:qn):Bool:=!x.1 || (zFQ r x.2.1 i && (vQ r x.2.2.1 && vQ r x.2.2.2.1))
def zpH (r:ze) (x:zt):Bool:=!x.1 || (vQ r x.2.1 && vQ r x.2.2.1)
def zc7 (r:ze) (i:Int) (x:zg):Bool:=x.2.2.1.all (zfb r) && (x.2.2.2.1.all (zs2 r i) && x.2.2.2.2.1.all (zpH r))
theorem zFR (r:ze) (s:zb) (x:zj):zaT (x,some (r,s,()),()) = some (zfb r x,()):=by
  rw [zR]
  simp only [zaT,y4,Option.bind_some,zfb]
  grind
theorem zFS {r:ze} (hr:qo r) (s:zb) (i:Int) (x:qn):vd (x,some (r,s,()),some i,()) = some (zs2 r i x,()):=by
  rw [zR]
  simp only [vd,y4,zt9 hr,Option.bind_some,zs2]
  grind
theorem zFT (r:ze) (s:zb) (x:zt):qw (x,some (r,s,()),()) = some (zpH r x,()):=by
  rw [zR]
  simp only [qw,y4,Option.bind_some,zpH]
  grind
theorem zyH {r:ze} {s:zb} (hr:qo r) (ok:zgW r) (sz:zgX r s):zaH ((r,s,()),()) = some (qk (fun i=>zc7 r (i:Int) (s.2.1.getD i zf)) 0 s.2.1.length,()):=by
  rw [zR]
  have h1:=ok.labels
  have h2:=sz.shelves
  have hm:12 ≤ Go.maxLen:=by unfold Go.maxLen; omega
  have step:∀ k (i:Nat),i < s.2.1.length→qM k (s.2.1,(s.2.1.length:Int),(i:Int),(r,s,())) = bif zc7 r (i:Int) (s.2.1.getD i zf) then k (s.2.1,(s.2.1.length:Int),wI ((i:Int) + 1),(r,s,())) else some (false,()):=fun k i h=>by
    have hz:=sz.shelf _ (z8 (d:=zf) h)
    simp only [qM]
    rw [ltT h,zG h,qq,zxe (p:=zfb r) (by omega) fun x _=>zFR r s x,zFx (p:=zs2 r i) (by omega) fun x _=>zFS hr s i x,zDX (p:=zpH r) (by omega) fun x _=>zFT r s x]
    simp only [Option.bind_some,cond_true]
    unfold zc7
    grind
  have hend:∀ k,qM k (s.2.1,(s.2.1.length:Int),(s.2.1.length:Int),(r,s,())) = some (true,()):=fun k=>by simp only [qM]; rw [ltF]; rfl
  have first:zaH ((r,s,()),()) = zwd (qM) (qM) K0 (s.2.1,(s.2.1.length:Int),((0:Nat):Int),(r,s,())):=rfl
  have hw:wI (((0:Nat):Int) + 1) = ((1:Nat):Int):=rfl
  obtain ⟨m,hK⟩:=zsU
  have hf:∀ (B0 B1:(ve→Option (Bool × Unit))→ve→Option (Bool × Unit)) (x:ve),zwd B0 B1 K0 x = B0 (zm B1 (m + 7)) x:=fun B0 B1 x=>by rw [hK]; rfl
  have rest:=zEa (B:=qM) (i0:=1) (n:=s.2.1.length) (by unfold Go.maxLen; omega) (by omega) (p:=fun i=>zc7 r (i:Int) (s.2.1.getD i zf)) (fun i=>(s.2.1,(s.2.1.length:Int),i,(r,s,()))) (fun k i _ h=>step k i h) hend (m + 7) (by unfold K0 Go.maxLen at hK; omega)
  rw [hf] at first
  rw [first,step _ 0 (by omega),hw]
  refine (congrArg (fun z=>bif zc7 r ((0:Nat):Int) (s.2.1.getD 0 zf) then z else some (false,())) rest).trans ?_
  obtain ⟨n,hn⟩:∃ n,s.2.1.length = n + 1:=⟨s.2.1.length - 1,by omega⟩
  rw [hn]
  simp only [qk,Nat.add_sub_cancel]
  cases zc7 r ((0:Nat):Int) (s.2.1.getD 0 zf) <;> rfl
theorem zCJ {l:List zt} {g:zt × Unit→Option (Bool × Unit)} {p:zt→Bool} (hg:∀ x,g (x,()) = some (p x,())) (z:Int):vK (some (l,some g,()),z,()) = some (decide (0 ≤ z ∧ z < (l.length:Int)) && p (l.getD z.toNat qB),()):=by
  by_cases h:0 ≤ z ∧ z < (l.length:Int)
  · obtain ⟨n,rfl⟩:=Int.eq_ofNat_of_zero_le h.1
    rw [zt7 hg (by omega),decide_eq_true h,Bool.true_and,Int.toNat_natCast]
  · rw [decide_eq_false h,Bool.false_and]
    simp only [vK,zsA,Option.bind_some,cond_true]
    grind
theorem zxq {α:Type} {p:α→Bool} (d:α) (L:List α) (q:Int→Bool):∀ (l:List α) (i:Nat),(∀ j,j < l.length→L.getD (i + j) d = l.getD j d)→(qC p i l).all q = qk (fun j=>!p (L.getD j d) || q (j:Int)) i l.length
  | [],_,_=>rfl
  | x :: l,i,h=>by
    have ih:=zxq (p:=p) d L q l (i + 1) fun j hj=>by
      have:=h (j + 1) (by simp; omega)
      rw [show i + 1 + j = i + (j + 1) by omega,this]; rfl
    have h0:L.getD i d = x:=h 0 (by simp)
    simp only [qC,List.length_cons,qk,h0]
    rw [← ih]
    cases p x <;> simp
def ziW (x:zg) (j:Nat) (t:zj):Bool:=(t.2.2.1:Int) != 3 || (decide (0 ≤ t.2.2.2.1 ∧ t.2.2.2.1 < (x.2.2.2.2.1.length:Int)) && ((x.2.2.2.2.1.getD (Int.toNat t.2.2.2.1) qB).1 && ((x.2.2.2.2.1.getD (Int.toNat t.2.2.2.1) qB).2.2.2.1.2.2.1:Int) == (j:Int)))
def zaB (x:zg) (j:Int) (t:zt):Bool:=(decide (t.2.2.2.1.2.2.1 < (x.2.2.1.length:Int)) && decide (t.2.2.2.2.1.2.2.1 < (x.2.2.1.length:Int))) && (decide (t.2.2.2.1.2.2.1 < 0) || (((x.2.2.1.getD (Int.toNat t.2.2.2.1.2.2.1) zO).2.2.1:Int) == 3 && ((x.2.2.1.getD (Int.toNat t.2.2.2.1.2.2.1) zO).2.2.2.1:Int) == j))
def zfW (x:zg):Bool:=qk (fun j=>ziW x j (x.2.2.1.getD j zO)) 0 (x.2.2.1.length - 0) && qk (fun j=>!(x.2.2.2.2.1.getD j qB).1 || zaB x (j:Int) (x.2.2.2.2.1.getD j qB)) 0 x.2.2.2.2.1.length
theorem zna (x:zt):vG (x,()) = some (x.1,()):=by
  rw [zR]; rfl
theorem zAr {r:ze} {s:zb} (ok:zgW r) (sz:zgX r s):zdI ((r,s,()),()) = some (qk (fun i=>zfW (s.2.1.getD i zf)) 0 (s.2.1.length - 0),()):=by
  rw [zR]
  have h1:=ok.labels
  have h2:=sz.shelves
  have hm:12 ≤ Go.maxLen:=by unfold Go.maxLen; omega
  have hlm:12 ≤ lim:=by unfold lim; omega
  have l2:∀ k0 (i:Nat) (x:zg),x.2.2.2.2.1.length ≤ 12→zbV K0 k0 (s.2.1,(s.2.1.length:Int),(i:Int),qC (fun t:zt=>t.1) 0 x.2.2.2.2.1,((qC (fun t:zt=>t.1) 0 x.2.2.2.2.1).length:Int),0,x) = bif qk (fun j=>!(x.2.2.2.2.1.getD j qB).1 || zaB x (j:Int) (x.2.2.2.2.1.getD j qB)) 0 x.2.2.2.2.1.length then k0 (s.2.1,(s.2.1.length:Int),wI ((i:Int) + 1)) else some (false,()):=fun k0 i x hx=>by
    have hsl:=zkH (p:=fun t:zt=>t.1) x.2.2.2.2.1 0
    have hsm:=zkI (p:=fun t:zt=>t.1) x.2.2.2.2.1 0
    have:=zuv (B:=fun k2=>zbU k0 k2) (l:=qC (fun t:zt=>t.1) 0 x.2.2.2.2.1) (0:Int) (p:=fun z=>zaB x z (x.2.2.2.2.1.getD z.toNat qB)) (fin:=k0 (s.2.1,(s.2.1.length:Int),wI ((i:Int) + 1))) (bad:=some (false,())) (fun j=>(s.2.1,(s.2.1.length:Int),(i:Int),qC (fun t:zt=>t.1) 0 x.2.2.2.2.1,((qC (fun t:zt=>t.1) 0 x.2.2.2.2.1).length:Int),j,x)) (by omega) (fun k j z hj hz hmem=>by
      obtain ⟨n,rfl,-,hn⟩:=hsm z hmem
      simp only [zbU]
      rw [ltT hj,zG hj,qq,hz,zG (by omega),zG (by omega),Int.toNat_natCast]
      simp only [cond_true,zaB,neI]
      by_cases ha:(x.2.2.2.2.1.getD n qB).2.2.2.1.2.2.1 < (x.2.2.1.length:Int)
      · by_cases hb:0 ≤ (x.2.2.2.2.1.getD n qB).2.2.2.1.2.2.1
        · rw [ixR ⟨hb,ha⟩,ixR ⟨hb,ha⟩]
          grind
        · grind
      · grind) (fun k=>by simp only [zbU]; rw [ltF]; rfl)
    refine this.trans ?_
    rw [zxq (p:=fun t:zt=>t.1) qB x.2.2.2.2.1 (fun z=>zaB x z (x.2.2.2.2.1.getD z.toNat qB)) x.2.2.2.2.1 0 fun j _=>by rw [Nat.zero_add]]
    simp only [Int.toNat_natCast]
  have l1:∀ k0 (i:Nat) (x:zg),x.2.2.1.length ≤ 12→x.2.2.2.2.1.length ≤ 12→zbW K0 k0 (some (x.2.2.2.2.1,some vG,()),s.2.1,(s.2.1.length:Int),(i:Int),x.2.2.1,(x.2.2.1.length:Int),0,x) = bif zfW x then k0 (s.2.1,(s.2.1.length:Int),wI ((i:Int) + 1)) else some (false,()):=fun k0 i x hx hx2=>by
    have:=yC (B:=fun k1=>y0 (zbV K0 k0) k0 k1) (i0:=0) (n:=x.2.2.1.length) (p:=fun j=>ziW x j (x.2.2.1.getD j zO)) (fin:=bif qk (fun j=>!(x.2.2.2.2.1.getD j qB).1 || zaB x (j:Int) (x.2.2.2.2.1.getD j qB)) 0 x.2.2.2.2.1.length then k0 (s.2.1,(s.2.1.length:Int),wI ((i:Int) + 1)) else some (false,())) (bad:=some (false,())) (by omega) (Nat.zero_le _) (fun j=>(some (x.2.2.2.2.1,some vG,()),s.2.1,(s.2.1.length:Int),(i:Int),x.2.2.1,(x.2.2.1.length:Int),j,x)) (fun k j _ hj=>by
      simp only [y0]
      rw [ltT hj,zG hj,qq,zCJ zna]
      simp only [cond_true,Option.bind_some,ziW,neI]
      by_cases ha:0 ≤ (x.2.2.1.getD j zO).2.2.2.1 ∧ (x.2.2.1.getD j zO).2.2.2.1 < (x.2.2.2.2.1.length:Int)
      · rw [ixR ha]
        grind
      · grind) (fun k=>by
      simp only [y0]
      rw [ltF,zqE (by omega) zna,Option.bind_some]
      exact l2 k0 i x hx2)
    refine this.trans ?_
    unfold zfW
    cases qk (fun j=>ziW x j (x.2.2.1.getD j zO)) 0 (x.2.2.1.length - 0) <;> rfl
  exact yC (B:=fun k0=>y3 (zbW K0 k0) k0) (i0:=0) (n:=s.2.1.length) (by omega) (Nat.zero_le _) (fun i=>(s.2.1,(s.2.1.length:Int),i)) (fun k i _ h=>by
    have hz:=sz.shelf _ (z8 (d:=zf) h)
    simp only [y3]
    have hq:yu ((s.2.1.getD i zf).2.2.2.2.1,some vG,()) = some (some ((s.2.1.getD i zf).2.2.2.2.1,some vG,()),()):=by
      simp only [yu,zj2 (show (s.2.1.getD i zf).2.2.2.2.1.length ≤ lim by omega),Option.bind_some]
      rfl
    rw [ltT h,zG h,qq,hq,Option.bind_some]
    exact l1 k i _ (by omega) (by omega)) (fun k=>by simp only [y3]; rw [ltF]; rfl)
end Go.Proofs.YtejbgeokcpillaaGreatDoor
end
section
namespace Go.Proofs.YtejbgeokcpillaaGreatDoor
open Go.Ev
def zh7 (r:ze) (s:zb) (i:Int) (x:zg):Bool:=zh6 r s i x && (zc7 r i x && zfW x)
theorem zHW {α:Type} {d:α} {l:List α} {p:α→Bool}:l.all p = true ↔ ∀ j,j < l.length→p (l.getD j d) = true:=by
  rw [List.all_eq_true]
  constructor
  · exact fun h j hj=>h _ (z8 hj)
  · intro h x hx
    obtain ⟨i,hi,rfl⟩:=List.mem_iff_getElem.1 hx
    have:=h i hi
    simpa [List.getD,hi] using this
theorem zG6 {t:zj} (h:qt t = true) (h1:t.1 = false):t.2.2.1 = 0:=by
  unfold qt at h
  rw [h1,cond_false] at h
  have e:eqI zl t (zd zl) = cond (t.1 == false) (cond (ByteArray.toList t.2.1 == ByteArray.toList (zd zl).2.1) (cond ((t.2.2.1:Int) == 0) (cond ((t.2.2.2.1:Int) == 0) (cond (eqI zC t.2.2.2.2.1 (zd zC)) true false) false) false) false) false:=rfl
  rw [e] at h
  cases hk:(t.2.2.1:Int) == 0 with
  | true=>exact eq_of_beq hk
  | false =>
    rw [hk] at h
    revert h
    cases (t.1 == false) <;> cases (ByteArray.toList t.2.1 == ByteArray.toList (zd zl).2.1) <;> intro h <;> cases h
end Go.Proofs.YtejbgeokcpillaaGreatDoor
end
section
namespace Go.Proofs.YtejbgeokcpillaaGreatDoor
open Go.Ev
def zM:List Int→Int
  | []=>0
  | x :: l=>x + zM l
theorem zvo:∀ (l m:List Int),zM (l ++ m) = zM l + zM m
  | [],m=>by simp [zM]
  | x :: l,m=>by simp only [List.cons_append,zM,zvo l m]; omega
theorem zpI:∀ {l:List Int},(∀ x ∈ l,0 ≤ x)→0 ≤ zM l
  | [],_=>Int.le_refl 0
  | x :: l,h=>by
    have h1:=h x (by simp)
    have h2:=zpI (l:=l) fun y hy=>h y (by simp [hy])
    simp only [zM]; omega
theorem zc8 {α:Type} {g:α→Int} {l:List α} (h:∀ x ∈ l,0 ≤ g x):0 ≤ zM (l.map g):=zpI fun x hx=>by
  obtain ⟨y,hy,rfl⟩:=List.mem_map.1 hx
  exact h y hy
def znH (n:Int):Int × Int × Unit:=bif decide (n > M62) then (0,7,()) else (n,0,())
theorem ziX {n:Int} (h:n > M62):znH n = (0,7,()):=by unfold znH; rw [decide_eq_true h]; rfl
theorem zoP {n:Int} (h:n ≤ M62):znH n = (n,0,()):=by unfold znH; rw [decide_eq_false (by omega)]; rfl
theorem zl0:∀ (l:List Int) (a:Int),a ≤ M62→(∀ x ∈ l,0 ≤ x)→zlW a l = znH (a + zM l)
  | [],a,h,_=>by simp only [zlW,zM,Int.add_zero]; exact (zoP h).symm
  | x :: l,a,h,hp=>by
    have h2:=zpI (l:=l) fun y hy=>hp y (by simp [hy])
    simp only [zlW,zM]
    by_cases hb:a + x > M62
    · rw [decide_eq_true hb,ziX (by omega)]; rfl
    · rw [decide_eq_false hb,cond_false,zl0 l (a + x) (by omega) fun y hy=>hp y (by simp [hy])]
      congr 1; omega
theorem znI {α:Type} (p:α→Bool) (g:α→Int):∀ l:List α,zM ((l.filter p).map g) = zM (l.map fun x=>bif p x then g x else 0)
  | []=>rfl
  | x :: l=>by
    have ih:=znI p g l
    rw [zkQ]
    simp only [List.map_cons,zM]
    cases hp:p x with
    | true=>simp only [cond_true,List.map_cons,zM,ih]
    | false=>simp only [cond_false,ih]; omega
def zl1 (x:zp):Int:=bif (x.2.2.2.1:Int) == 2 then x.2.2.2.2.1 else x.2.2.2.2.2.1
theorem zHX (x:zp):zf2 (x,()) = some (zl1 x,()):=by
  simp only [zf2,zl1]; grind
def zdG (c:Int) (x:zp):Int:=bif x.1 && zl1 x == c then x.2.2.2.2.2.2.2.2.1 else 0
def zvp (l:List zp) (c:Int):Int × Int × Unit:=bif vP c then znH (zM (l.map (zdG c))) else (0,1,())
theorem zFU (l:List zp) (hl:l.length ≤ lim):zkA (l,()) = some (some (l,some zhj,()),()):=by
  simp only [zkA,zgw,zqC hl,Option.bind_some]
  rfl
theorem zCK (x:zp):zhj (x,()) = some (x.1,()):=by
  rw [zR]; rfl
theorem zEb {l:List zp} (hl:l.length ≤ lim) (h:∀ x ∈ l,zkR x) (c:Int):zjc (l,c,()) = some (zvp l c):=by
  have hl':l.length ≤ Go.maxLen:=by unfold lim at hl; unfold Go.maxLen; omega
  simp only [zjc,zjb,za4,Option.bind_some]
  unfold zvp
  cases hc:vP c with
  | false=>rfl
  | true =>
    have hslots:zhH (l,()) = some (qC (fun x:zp=>x.1) 0 l,()):=by
      simp only [zhH]
      rw [zFU l hl,Option.bind_some,zAk hl zCK,Option.bind_some]
    simp only [cond_true]
    rw [hslots,Option.bind_some]
    have hsl:=zkH (p:=fun x:zp=>x.1) l 0
    have hsm:=zkI (p:=fun x:zp=>x.1) l 0
    have hloop:=zau (B:=zdL) (l:=qC (fun x:zp=>x.1) 0 l) (α:=List Int) (0:Int) (fun i o=>o.length ≤ i ∧ ∀ x ∈ o,0 ≤ x ∧ x < U64) (fun i o=>(l,c,qC (fun x:zp=>x.1) 0 l,((qC (fun x:zp=>x.1) 0 l).length:Int),i,o))
      (fun rest o=>some (zlW 0 (o ++ (rest.filter fun z=>zl1 (l.getD z.toNat qm) == c).map fun z=>(l.getD z.toNat qm).2.2.2.2.2.2.2.2.1))) (by omega) (fun k i x rest o hi hI hx hm hr hk=>by
        simp only [zdL]
        obtain ⟨j,rfl,-,hj⟩:=hsm x hm
        rw [ltT hi,zG hi,qq,hx,zG (by omega),zG (by omega),Int.toNat_natCast,zcg,zHX]
        have hxx:=(h (l.getD j qm) (z8 (by omega))).held
        simp only [cond_true,zkQ,Int.toNat_natCast,Option.bind_some]
        rw [decide_eq_true (by simp; omega)]
        simp only [cond_true]
        cases hq:zl1 (l.getD j qm) == c with
        | false =>
          exact hk o ⟨by omega,hI.2⟩
        | true =>
          simp only [cond_true,List.map_cons,Int.toNat_natCast]
          refine (hk _ ⟨by simp; omega,fun x hx=>?_⟩).trans ?_
          · rcases List.mem_append.1 hx with hx | hx
            · exact hI.2 x hx
            · rcases List.mem_singleton.1 hx with rfl
              exact hxx
          · rw [List.append_assoc]; rfl) (fun k o hI=>by
        simp only [zdL]
        rw [ltF]
        simp only [cond_false]
        rw [zkG (by omega) hI.2,List.filter_nil,List.map_nil,List.append_nil]
        rfl) [] ⟨Nat.le_refl _,fun x hx=>by cases hx⟩
    refine hloop.trans ?_
    rw [List.nil_append,zj7 (q:=fun x:zp=>zl1 x == c) (g:=fun x:zp=>x.2.2.2.2.2.2.2.2.1) qm l l 0 fun j _=>by rw [Nat.zero_add]]
    rw [zl0 _ 0 (by unfold M62; omega) fun x hx=>?_,znI,Int.zero_add]
    · rfl
    · obtain ⟨y,hy,rfl⟩:=List.mem_map.1 hx
      exact (h y (List.mem_filter.1 hy).1).held.1
theorem zAs {x:zp} (h:zkR x) (c:Int):zeg (zdG c x):=by
  unfold zdG
  cases x.1 && zl1 x == c with
  | true=>exact h.held
  | false=>exact (⟨Int.le_refl 0,by unfold U64; decide⟩:zeg 0)
def zfc (c:Int) (x:zt):Int:=bif x.1 && (x.2.2.2.1.1:Int) == c then x.2.2.2.1.2.1 else 0
theorem zCL {l:List zt} (h:∀ x ∈ l,zsY x) {c:Int} (hc:vP c = true):zm9 l c = znH (zM (l.map (zfc c))):=by
  unfold zm9
  rw [hc,cond_true,zl0 _ 0 (by unfold M62; omega) fun x hx=>?_,znI,Int.zero_add]
  · rfl
  · obtain ⟨y,hy,rfl⟩:=List.mem_map.1 hx
    exact (h y (List.mem_filter.1 hy).1).1.1
theorem zAt {x:zt} (h:zsY x) (c:Int):zeg (zfc c x):=by
  unfold zfc
  cases x.1 && (x.2.2.2.1.1:Int) == c with
  | true=>exact h.1
  | false=>exact (⟨Int.le_refl 0,by unfold U64; decide⟩:zeg 0)
def zpJ (c:Int) (a:List Int):Int:=a.getD c.toNat 0
def zdc (c:Int) (x:zg):Int:=zM (x.2.2.2.2.1.map (zfc c)) + zM (x.2.2.2.2.2.1.map (zpJ c))
theorem zxr {x:zg} (h:zkT x) (c:Int):0 ≤ zM (x.2.2.2.2.1.map (zfc c)):=zc8 fun y hy=>(zAt (h.trades y hy) c).1
theorem zxs {x:zg} (h:zkT x) (c:Int):0 ≤ zM (x.2.2.2.2.2.1.map (zpJ c)):=zc8 fun y hy=>(zlY (h.purses y hy) _).1
theorem zqH {x:zg} (h:zkT x) (c:Int):0 ≤ zdc c x:=by
  have:=zxr h c
  have:=zxs h c
  unfold zdc; omega
def znb (s:zb) (c:Int):Int × Int × Unit:=bif vP c then znH (zM (s.2.2.2.1.map (zdG c)) + zM (s.2.1.map (zdc c))) else (0,1,())
def wts:List zg→Nat
  | []=>0
  | x :: l=>1 + x.2.2.2.2.2.1.length + wts l
structure zAK (s:zb):Prop where
  shelves:s.2.1.length ≤ 2000000
  orders:s.2.2.2.1.length ≤ 2000000
  shelf:∀ x ∈ s.2.1,x.2.2.2.2.1.length ≤ 2000000 ∧ x.2.2.2.2.2.1.length ≤ 2000000
  all:wts s.2.1 ≤ 2000000
theorem zHY {l:List zg} {i:Nat} {x:zg} {rest:List zg} (hi:i < l.length) (hx:l.getD i zf = x) (hr:l.drop (i + 1) = rest):wts (l.drop i) = 1 + x.2.2.2.2.2.1.length + wts rest:=by
  rw [yJ zf hi,hx,hr]; rfl
theorem zG7 {n:Nat}:∀ {l:List zg},(∀ x ∈ l,x.2.2.2.2.2.1.length ≤ n)→wts l ≤ l.length * (n + 1)
  | [],_=>Nat.zero_le _
  | x :: l,h=>by
    have h1:=h x (by simp)
    have h2:=zG7 (l:=l) fun y hy=>h y (by simp [hy])
    simp only [wts,List.length_cons,Nat.add_mul]
    omega
theorem zzm {c:Int} (hc:vP c = true):0 ≤ c ∧ c < ((4:Nat):Int):=by
  simp only [vP,decide_eq_true_eq] at hc; omega
theorem zCM {s:zb} (hs:qT s) (sh:zAK s) (c:Int):zhP (s,c,()) = some (znb s c):=by
  have hlm:10000000 ≤ lim:=by unfold lim; omega
  have hmm:10000000 ≤ Go.maxLen:=by unfold Go.maxLen; omega
  have hsh:=sh.shelves
  have hso:=sh.orders
  simp only [zhP,zhO,za4,Option.bind_some]
  rw [zEb (by omega) hs.orders]
  unfold znb zvp
  cases hc:vP c with
  | false=>rfl
  | true =>
    have hcin:=zzm hc
    simp only [cond_true,Option.bind_some]
    have hbook:0 ≤ zM (s.2.2.2.1.map (zdG c)):=zc8 fun y hy=>(zAs (hs.orders y hy) c).1
    have hall:0 ≤ zM (s.2.1.map (zdc c)):=zc8 fun y hy=>zqH (hs.shelves y hy) c
    have inner:∀ k0 (i:Nat) (x:zg) (o:List Int),x.2.2.2.2.2.1.length ≤ 2000000→o.length ≤ 2000001→zc3 K0 k0 (c,s.2.1,(s.2.1.length:Int),(i:Int),x.2.2.2.2.2.1,(x.2.2.2.2.2.1.length:Int),0,o) = k0 (c,s.2.1,(s.2.1.length:Int),wI ((i:Int) + 1),o ++ x.2.2.2.2.2.1.map (zpJ c)):=fun k0 i x o hx ho =>
      zau (B:=fun k1=>zc2 k0 k1) (l:=x.2.2.2.2.2.1) (α:=List Int) (zd (Ty.arr 4 tU)) (fun j o'=>o'.length ≤ 2000001 + j) (fun j o'=>(c,s.2.1,(s.2.1.length:Int),(i:Int),x.2.2.2.2.2.1,(x.2.2.2.2.2.1.length:Int),j,o')) (fun rest o'=>k0 (c,s.2.1,(s.2.1.length:Int),wI ((i:Int) + 1),o' ++ rest.map (zpJ c))) (by omega) (fun k j a rest o' hj hI ha hm hr hk=>by
        simp only [zc2]
        have h4:((4:Int)) = ((4:Nat):Int):=rfl
        rw [ltT hj,zG hj,Int.toNat_natCast,ha,zcg,decide_eq_true (by simp; omega)]
        simp only [cond_true]
        refine Eq.trans (ixR hcin) ?_
        refine (hk _ (by simp; omega)).trans ?_
        rw [List.append_assoc]; rfl) (fun k o' _=>by
        simp only [zc2]; rw [ltF]
        simp only [cond_false,List.map_nil,List.append_nil]) o ho
    by_cases hb:zM (s.2.2.2.1.map (zdG c)) > M62
    · rw [ziX hb,ziX (by omega)]; rfl
    · rw [zoP (by omega)]
      have hloop:=zau (B:=fun k0=>zaI (zc3 K0 k0) k0) (l:=s.2.1) (α:=List Int) zf (fun i o=>o.length + wts (s.2.1.drop i) ≤ 2000001 ∧ ∀ x ∈ o,0 ≤ x ∧ x < U64) (fun i o=>(c,s.2.1,(s.2.1.length:Int),i,o)) (fun rest o=>some (znH (zM o + zM (rest.map (zdc c))))) (by omega) (fun k i x rest o hi hI hx hm hr hk=>by
        simp only [zaI]
        have hin:=hs.shelves x hm
        have hlen:=sh.shelf x hm
        have hw:=zHY hi hx hr
        have hw2:=hI.1
        rw [hw] at hw2
        have h1:=zxr hin c
        have h2:=zxs hin c
        have ho:0 ≤ zM o:=zpI fun y hy=>(hI.2 y hy).1
        have hrest:0 ≤ zM (rest.map (zdc c)):=zc8 fun y hy=>zqH (hs.shelves y (by rw [← hr] at hy; exact List.mem_of_mem_drop hy)) c
        rw [ltT hi,zG hi,qq,hx,zCC (by omega) hin.trades,zCL hin.trades hc]
        simp only [cond_true,Option.bind_some,List.map_cons,zM,zdc]
        by_cases hb:zM (x.2.2.2.2.1.map (zfc c)) > M62
        · rw [ziX hb,ziX (by omega)]; rfl
        · rw [zoP (by omega),zcg,inner k i x _ (by omega) (by simp; omega)]
          rw [decide_eq_true (by simp; omega)]
          simp only [bne_self_eq_false,cond_true,cond_false]
          refine (hk _ ⟨by rw [hr]; simp; omega,fun y hy=>?_⟩).trans ?_
          · rcases List.mem_append.1 hy with hy | hy
            · rcases List.mem_append.1 hy with hy | hy
              · exact hI.2 y hy
              · rcases List.mem_singleton.1 hy with rfl
                unfold M62 at hb; unfold U64; omega
            · obtain ⟨a,ha,rfl⟩:=List.mem_map.1 hy
              exact zlY (hin.purses a ha) _
          · rw [zvo,zvo]
            simp only [zM]
            congr 2; omega) (fun k o hI=>by
        simp only [zaI]
        rw [ltF]
        simp only [cond_false]
        rw [zkG (by omega) hI.2,zl0 o 0 (by unfold M62; omega) fun y hy=>(hI.2 y hy).1]
        simp only [List.map_nil,zM,Int.add_zero,Int.zero_add]
        rfl) [zM (s.2.2.2.1.map (zdG c))] ⟨by have:=sh.all; simp; omega,fun y hy=>by
          rcases List.mem_singleton.1 hy with rfl
          unfold M62 at hb; unfold U64; omega⟩
      refine hloop.trans ?_
      simp only [zM,Int.add_zero]
end Go.Proofs.YtejbgeokcpillaaGreatDoor
end
section
namespace Go.Proofs.YtejbgeokcpillaaGreatDoor
open Go.Ev
def zCN (a b:Int):Int × Int × Unit:=bif decide (a < b) then (0,6,()) else (a - b,0,())
theorem zCO {a b:Int} (ha:0 ≤ a ∧ a ≤ M62) (hb:0 ≤ b ∧ b ≤ M62):zhk (a,b,()) = some (zCN a b):=by
  simp only [zhk,extA,extB,zCN,cond_false]
  unfold M62 at *
  have h2:b ≤ a→(a - b) % 18446744073709551616 = a - b:=fun h=>by omega
  grind
def zl2 (f:zg→List Int) (s:zb) (c:Int):Int:=zM (s.2.1.map fun x=>zpJ c (f x))
theorem zCP {f:zg→List Int} {s:zb} (h:∀ x ∈ s.2.1,zpG (f x)) (c:Int):0 ≤ zl2 f s c:=zc8 fun y hy=>(zlY (h y hy) _).1
theorem zCQ {s:zb} (sh:zAK s) {f:zg→List Int} {g:zg × Unit→Option (List Int × Unit)} (hg:∀ x,g (x,()) = some (f x,())) (h:∀ x ∈ s.2.1,zpG (f x)) {c:Int} (hc:vP c = true):ze3 (s,c,some g,()) = some (znH (zl2 f s c)):=by
  have hlm:10000000 ≤ lim:=by unfold lim; omega
  have hmm:10000000 ≤ Go.maxLen:=by unfold Go.maxLen; omega
  have hsh:=sh.shelves
  have hcin:=zzm hc
  have hloop:=zau (B:=zaY) (l:=s.2.1) (α:=List Int) zf (fun i o=>o.length ≤ i ∧ ∀ x ∈ o,0 ≤ x ∧ x < U64) (fun i o=>(c,some g,s.2.1,(s.2.1.length:Int),i,o)) (fun rest o=>some (zlW 0 (o ++ rest.map fun x=>zpJ c (f x)))) (by omega) (fun k i x rest o hi hI hx hm hr hk=>by
    simp only [zaY]
    rw [ltT hi,zG hi,qq,hx]
    simp only [cond_true,Option.bind_some]
    rw [hg]
    simp only [Option.bind_some]
    refine Eq.trans (ixR hcin) ?_
    rw [zcg,decide_eq_true (by simp; omega)]
    simp only [cond_true]
    refine (hk _ ⟨by simp; omega,fun y hy=>?_⟩).trans ?_
    · rcases List.mem_append.1 hy with hy | hy
      · exact hI.2 y hy
      · rcases List.mem_singleton.1 hy with rfl
        exact zlY (h x hm) _
    · rw [List.append_assoc]; rfl) (fun k o hI=>by
    simp only [zaY]
    rw [ltF]
    simp only [cond_false]
    rw [zkG (by omega) hI.2,List.map_nil,List.append_nil]
    rfl) [] ⟨Nat.le_refl _,fun x hx=>by cases hx⟩
  refine Eq.trans ?_ (hloop.trans ?_)
  · rfl
  · rw [List.nil_append,zl0 _ 0 (by unfold M62; omega) fun y hy=>?_,Int.zero_add]
    · rfl
    · obtain ⟨z,hz,rfl⟩:=List.mem_map.1 hy
      exact (zlY (h z hz) _).1
def znc (s:zb) (c:Int):Int × Int × Unit:=bif vP c then bif decide (zl2 (fun x=>x.2.2.2.2.2.2.2.1) s c > M62) then (0,7,()) else bif decide (zl2 (fun x=>x.2.2.2.2.2.2.2.2.1) s c > M62) then (0,7,()) else zCN (zl2 (fun x=>x.2.2.2.2.2.2.2.1) s c) (zl2 (fun x=>x.2.2.2.2.2.2.2.2.1) s c) else (0,1,())
theorem zCR {s:zb} (hs:qT s) (sh:zAK s) (c:Int):zhK (s,c,()) = some (znc s c):=by
  simp only [zhK,za4,Option.bind_some]
  unfold znc
  cases hc:vP c with
  | false=>rfl
  | true =>
    have p1:=zCP (f:=fun x=>x.2.2.2.2.2.2.2.1) (fun x hx=>(hs.shelves x hx).made) c
    have p2:=zCP (f:=fun x=>x.2.2.2.2.2.2.2.2.1) (fun x hx=>(hs.shelves x hx).spent) c
    rw [zCQ sh (f:=fun x=>x.2.2.2.2.2.2.2.1) (g:=ziC) (fun x=>rfl) (fun x hx=>(hs.shelves x hx).made) hc,zCQ sh (f:=fun x=>x.2.2.2.2.2.2.2.2.1) (g:=ziD) (fun x=>rfl) (fun x hx=>(hs.shelves x hx).spent) hc]
    simp only [cond_true,Option.bind_some]
    generalize zl2 (fun x=>x.2.2.2.2.2.2.2.1) s c = a at *
    generalize zl2 (fun x=>x.2.2.2.2.2.2.2.2.1) s c = b at *
    by_cases h1:a > M62
    · rw [ziX h1,decide_eq_true h1]; rfl
    · rw [zoP (by omega),decide_eq_false h1]
      by_cases h2:b > M62
      · rw [ziX h2,decide_eq_true h2]; rfl
      · rw [zoP (by omega),decide_eq_false h2]
        simp only [bne_self_eq_false,cond_false]
        rw [zCO (by omega) (by omega)]; rfl
end Go.Proofs.YtejbgeokcpillaaGreatDoor
end
section
namespace Go.Proofs.YtejbgeokcpillaaGreatDoor
open Go.Ev
def znd (r:ze) (s:zb) (c i:Nat):Bool:=!decide (((s.2.1.getD i zf).2.2.2.2.2.2.2.1.getD c 0:Int) > (r.2.2.2.2.1.getD i jU).2.2.2.2.2.1)
def zh8 (s:zb) (c:Int):Bool:=(znb s c).2.1 == 0 && ((znc s c).2.1 == 0 && (znb s c).1 == (znc s c).1)
def qf (r:ze) (s:zb):Bool:=qx r && (zh4 r s && (zdV r s && (qk (fun i=>(j9 (s.2.1.getD i zf) && zh7 r s i (s.2.1.getD i zf)) && qk (fun c=>znd r s c i) 0 (4 - 0)) 0 (s.2.1.length - 0) && qk (fun c=>zh8 s (c:Int)) 0 (4 - 0))))
theorem zJc {r:ze} {s:zb} (ok:zgW r) (sz:zgX r s):zAK s:=by
  have h1:=sz.shelves
  have h2:=ok.labels
  have h3:=ok.accounts
  have h4:=sz.orders
  have h5:=zG7 (n:=8) (l:=s.2.1) fun x hx=>by
    have:=sz.shelf x hx
    omega
  refine ⟨by omega,by omega,fun x hx=>?_,by omega⟩
  have:=sz.shelf x hx
  omega
theorem zAu {r:ze} {s:zb} (ok:zgW r) (hs:qT s) (sz:zgX r s):zdM ((r,s,()),()) = some (qk (fun c=>qk (fun i=>znd r s c i) 0 (s.2.1.length - 0) && zh8 s (c:Int)) 0 (4 - 0),()):=by
  rw [zR]
  have hmm:1000000 ≤ Go.maxLen:=by unfold Go.maxLen; omega
  have sh:=zJc ok sz
  have hsh:s.2.1.length ≤ 8:=by rw [sz.shelves]; exact ok.labels.2
  have h2:=sz.shelves
  have h3:=ok.quotas
  have inner:∀ k0 (c:Nat),c < 4→zb5 K0 k0 ((c:Int),(c:Int),s.2.1,(s.2.1.length:Int),0,(r,s,())) = bif qk (fun i=>znd r s c i) 0 (s.2.1.length - 0) then bif zh8 s (c:Int) then k0 (wI ((c:Int) + 1),(r,s,())) else some (false,()) else some (false,()):=fun k0 c hc =>
    yC (B:=fun k1=>zb4 k0 k1) (i0:=0) (n:=s.2.1.length) (by omega) (Nat.zero_le _) (fun i=>((c:Int),(c:Int),s.2.1,(s.2.1.length:Int),i,(r,s,()))) (fun k i _ hi=>by
      simp only [zb4]
      rw [ltT hi,zG hi,qq,Int.toNat_natCast]
      simp only [cond_true]
      refine Eq.trans (zG (n:=4) hc) ?_
      rw [zG (by omega),qq]
      unfold znd
      grind) (fun k=>by
      simp only [zb4]
      rw [ltF,zCM hs sh,zCR hs sh]
      simp only [Option.bind_some,cond_false,zh8]
      generalize znb s (c:Int) = h
      generalize znc s (c:Int) = m
      grind)
  exact yC (B:=fun k0=>zb6 (zb5 K0 k0) k0) (i0:=0) (n:=4) (by omega) (Nat.zero_le _) (fun c=>(c,(r,s,()))) (fun k c _ hc=>by
    simp only [zb6]
    rw [decide_eq_true (by omega),cond_true]
    refine (inner k c hc).trans ?_
    cases qk (fun i=>znd r s c i) 0 (s.2.1.length - 0) <;> rfl) (fun k=>rfl)
def zCS (r:ze) (s:zb):Bool:=qx r && (zh4 r s && (s.2.1.all j9 && (zdV r s && (qk (fun i=>zh6 r s (i:Int) (s.2.1.getD i zf)) 0 (s.2.1.length - 0) && (qk (fun i=>zc7 r (i:Int) (s.2.1.getD i zf)) 0 s.2.1.length && (qk (fun i=>zfW (s.2.1.getD i zf)) 0 (s.2.1.length - 0) && qk (fun c=>qk (fun i=>znd r s c i) 0 (s.2.1.length - 0) && zh8 s (c:Int)) 0 (4 - 0)))))))
theorem zG8 (r:ze) (s:zb):zCS r s = qf r s:=by
  rw [Bool.eq_iff_iff]
  unfold zCS qf zh7
  simp only [Bool.and_eq_true,jl,@zHW zg zf]
  constructor
  · rintro ⟨h1,h2,h3,h4,h5,h6,h7,h8⟩
    exact ⟨h1,h2,h4,fun i hi1 hi=>⟨⟨h3 i (by omega),h5 i hi1 hi,h6 i hi1 (by omega),h7 i hi1 hi⟩,fun c hc1 hc=>(h8 c hc1 hc).1 i hi1 hi⟩,fun c hc1 hc=>(h8 c hc1 hc).2⟩
  · rintro ⟨h1,h2,h4,h5,h6⟩
    exact ⟨h1,h2,fun i hi=>(h5 i (by omega) (by omega)).1.1,h4,fun i h7 h8=>(h5 i h7 h8).1.2.1,fun i h7 h8=>(h5 i h7 (by omega)).1.2.2.1,fun i h7 h8=>(h5 i h7 h8).1.2.2.2,fun c h7 h8=>⟨fun i h9 h10=>(h5 i h9 h10).2 c h7 h8,h6 c h7 h8⟩⟩
theorem zqI {r:ze} {s:zb} (hr:qo r) (hs:qT s):j8 (r,s,()) = some (qf r s,()):=by
  rw [← zG8,zR]
  obtain ⟨m,hm⟩:=zsU
  have first:j8 (r,s,()) = zm zef K0 (true,7,0,[some fun z=>zbo ((r,s,()),()),some fun z=>zbp ((r,s,()),()),some fun z=>zaJ ((r,s,()),()),some fun z=>zdJ ((r,s,()),()),some fun z=>zaH ((r,s,()),()),some fun z=>zdI ((r,s,()),()),some fun z=>zdM ((r,s,()),())]):=rfl
  have hu:∀ (f1 f2 f3 f4 f5 f6 f7:Option (Bool × Unit)),zm zef (m + 8) (true,7,0,[some fun z=>f1,some fun z=>f2,some fun z=>f3,some fun z=>f4,some fun z=>f5,some fun z=>f6,some fun z=>f7]) =
    Option.bind f1 fun q=>bif q.1 then Option.bind f2 fun q=>bif q.1 then Option.bind f3 fun q=>bif q.1 then Option.bind f4 fun q=>bif q.1 then Option.bind f5 fun q=>bif q.1 then Option.bind f6 fun q=>bif q.1 then Option.bind f7 fun q=>bif q.1 then some (true,()) else some (false,()) else some (false,()) else some (false,()) else some (false,()) else some (false,()) else some (false,()) else some (false,()):=fun f1 f2 f3 f4 f5 f6 f7=>by kernel_rfl
  rw [first,hm,hu,zAo hr s,Option.bind_some]
  unfold zCS
  cases hb:qx r with
  | false=>rfl
  | true =>
    cases hz:zh4 r s with
    | false=>rfl
    | true =>
      have ok:=vx hb
      have sz:=zcb hb hz
      rw [zAp ok sz,zyG hr hb hs sz,zAq hr ok sz,zyH hr ok sz,zAr ok sz,zAu ok hs sz]
      simp only [Option.bind_some,Bool.true_and,cond_true]
      generalize s.2.1.all j9 = c1
      generalize zdV r s = c2
      generalize qk (fun i=>zh6 r s (i:Int) (s.2.1.getD i zf)) 0 (s.2.1.length - 0) = c3
      generalize qk (fun i=>zc7 r (i:Int) (s.2.1.getD i zf)) 0 s.2.1.length = c4
      generalize qk (fun i=>zfW (s.2.1.getD i zf)) 0 (s.2.1.length - 0) = c5
      generalize qk (fun c=>qk (fun i=>znd r s c i) 0 (s.2.1.length - 0) && zh8 s (c:Int)) 0 (4 - 0) = c6
      cases c1 <;> cases c2 <;> cases c3 <;> cases c4 <;> cases c5 <;> cases c6 <;> rfl
def yF (r:ze) (x:pMe):Bool:=decide (0 ≤ x.1 ∧ x.1 < (r.2.1.length:Int)) && ((x.2.1:Int) == r.2.1.getD x.1.toNat 0 && vQ r x.2.2.1)
theorem zeJ {r:ze} {s:zb} (hr:qo r) (hs:qT s) (x:pMe):vN (r,s,x,()) = some (qf r s && yF r x,()):=by
  rw [zR]
  simp only [vN,zqI hr hs,Option.bind_some,yF,ix,vQ]
  cases qf r s with
  | false=>rfl
  | true =>
    by_cases h:0 ≤ x.1 ∧ x.1 < (r.2.1.length:Int)
    · rw [ixR h]; grind
    · grind
end Go.Proofs.YtejbgeokcpillaaGreatDoor
end
section
namespace Go.Proofs.YtejbgeokcpillaaGreatDoor
open Go.Ev
def eqW {α:Type} (p:α→α→Bool) (a b:List α):Bool:=decide (a.length = b.length) && (List.zip a b).all fun q=>p q.1 q.2
theorem zCT {α σ:Type} {B:(σ→Option (Bool × Unit))→σ→Option (Bool × Unit)} {a b:List α} (d:α) (p:α→α→Bool) (st:Int→σ) (hl:a.length ≤ Go.maxLen) (hab:a.length = b.length)
    (hin:∀ k (i:Nat),i < a.length→B k (st i) = bif p (a.getD i d) (b.getD i d) then k (st (wI (i + 1))) else some (false,())) {fin:Bool} (hout:∀ k,B k (st a.length) = some (fin,())) :
    zm B K0 (st 0) = some (eqW p a b && fin,()):=by
  have hz:(List.zip a b).length = a.length:=by rw [List.length_zip]; omega
  have hx:∀ i,i < a.length→(List.zip a b).getD i (d,d) = (a.getD i d,b.getD i d):=fun i hi=>zuw a b i hi (by omega)
  have:=zuv (B:=B) (l:=List.zip a b) (d,d) (p:=fun q=>p q.1 q.2) (fin:=some (fin,())) (bad:=some (false,())) st (by rw [hz]; exact hl) (fun k i x hi hx' _=>?_) (fun k=>?_)
  · rw [this]
    unfold eqW
    rw [decide_eq_true hab]
    cases (List.zip a b).all fun q=>p q.1 q.2 <;> rfl
  · rw [hz] at hi
    rw [hx i hi] at hx'
    subst hx'
    exact hin k i hi
  · rw [hz]; exact hout k
theorem zJd {α ρ:Type} (a b:List α) (p:α→α→Bool) (x:Option ρ) (y:Option ρ):(bif ((List.length a:Int) != (List.length b:Int)) then y else x) = bif decide (a.length = b.length) then x else y:=by
  rw [zmt]; cases decide (a.length = b.length) <;> rfl
theorem zJe {α:Type} {p:α→α→Bool} {a b:List α} (h:¬ a.length = b.length):eqW p a b = false:=by unfold eqW; rw [decide_eq_false h]; rfl
theorem zzn {α:Type} {p:α→α→Bool} {a b:List α} {x:Option (Bool × Unit)} (h:a.length = b.length→x = some (eqW p a b,())):(bif ((List.length a:Int) != (List.length b:Int)) then some (false,()) else x) = some (eqW p a b,()):=by
  rw [zJd a b p]
  by_cases hl:a.length = b.length
  · rw [decide_eq_true hl,h hl]; rfl
  · rw [decide_eq_false hl,zJe hl]; rfl
structure zxt (x:zg):Prop where
  rooms:x.1.length ≤ Go.maxLen
  exits:x.2.1.length ≤ Go.maxLen
  items:x.2.2.1.length ≤ Go.maxLen
  mails:x.2.2.2.1.length ≤ Go.maxLen
  trades:x.2.2.2.2.1.length ≤ Go.maxLen
  purses:x.2.2.2.2.2.1.length ≤ Go.maxLen
  places:x.2.2.2.2.2.2.1.length ≤ Go.maxLen
structure zJf (s:zb):Prop where
  shelves:s.2.1.length ≤ Go.maxLen
  ranks:s.2.2.1.length ≤ Go.maxLen
  orders:s.2.2.2.1.length ≤ Go.maxLen
  entries:s.2.2.2.2.1.length ≤ Go.maxLen
  seats:s.2.2.2.2.2.1.length ≤ Go.maxLen
  shelf:∀ x ∈ s.2.1,zxt x
  rank:∀ l ∈ s.2.2.1,l.length ≤ Go.maxLen
def zfd (a b:zg):Bool:=eqL qg a.1 b.1 && (eqL zW a.2.1 b.2.1 && (eqL zl a.2.2.1 b.2.2.1 && (eqL z3 a.2.2.2.1 b.2.2.2.1 && (eqL zx a.2.2.2.2.1 b.2.2.2.2.1 && (eqL (.arr 4 tU) a.2.2.2.2.2.1 b.2.2.2.2.2.1 && (eqL zC a.2.2.2.2.2.2.1 b.2.2.2.2.2.2.1 && (eqI (.arr 4 tU) a.2.2.2.2.2.2.2.1 b.2.2.2.2.2.2.2.1 && eqI (.arr 4 tU) a.2.2.2.2.2.2.2.2.1 b.2.2.2.2.2.2.2.2.1)))))))
def zxu (a b:zb):Bool:=(a.1:Int) == b.1 && (eqW zfd a.2.1 b.2.1 && (eqW (eqL tI) a.2.2.1 b.2.2.1 && (eqL zo a.2.2.2.1 b.2.2.2.1 && (eqL zv a.2.2.2.2.1 b.2.2.2.2.1 && eqL tI a.2.2.2.2.2.1 b.2.2.2.2.2.1))))
theorem zvq {r:ze} {l:List (List Int)} (h:zh3 r l = true):l.length = r.2.2.2.1.length ∧ ∀ g,g < r.2.2.2.1.length→(l.getD g []).length = r.2.2.1.length:=by
  simp only [zh3,Bool.and_eq_true,decide_eq_true_eq,jl] at h
  refine ⟨h.1,fun g hg=>?_⟩
  have:=h.2 g (by omega) (by omega)
  simp only [zxo,Bool.and_eq_true,decide_eq_true_eq] at this
  exact this.1
theorem j7 {r:ze} {s:zb} (h:qf r s = true):qx r = true ∧ zh4 r s = true ∧ zdV r s = true:=by
  simp only [qf,Bool.and_eq_true] at h
  exact ⟨h.1,h.2.1,h.2.2.1⟩
theorem zk1:∀ {τ:Ty},τ.eqIn = true→∀ x:τ.I,eqI τ x x = true:=by
  intro τ
  induction τ with
  | unit=>intro _ _; rfl
  | bool=>intro _ x; exact beq_self_eq_true x
  | int k=>intro _ x; exact beq_self_eq_true (α:=Int) x
  | str=>intro _ x; exact beq_self_eq_true _
  | pair a b iha ihb =>
    intro h x
    simp only [Ty.eqIn,Bool.and_eq_true] at h
    simp only [eqI,iha h.1,ihb h.2,cond_true]
  | st a ih=>intro h x; exact ih h x
  | arr n a ih =>
    intro h x
    simp only [eqI,List.all_eq_true]
    intro p hp
    have:p.1 = p.2:=by
      obtain ⟨i,hi,rfl⟩:=List.mem_iff_getElem.1 hp
      rw [List.getElem_zip]
    rw [this]
    exact ih h _
  | _=>intro h; cases h
theorem zvr {α:Type} {p:α→α→Bool} (h:∀ x,p x x = true) (l:List α):eqW p l l = true:=by
  simp only [eqW,decide_true,Bool.true_and,List.all_eq_true]
  intro q hq
  have:q.1 = q.2:=by
    obtain ⟨i,hi,rfl⟩:=List.mem_iff_getElem.1 hq
    rw [List.getElem_zip]
  rw [this]; exact h _
theorem za5 {τ:Ty} (h:τ.eqIn = true) (l:List τ.I):eqL τ l l = true:=zvr (zk1 h) l
theorem zCU (x:zg):zfd x x = true:=by
  simp only [zfd,Bool.and_eq_true]
  exact ⟨za5 (τ:=qg) rfl _,za5 (τ:=zW) rfl _,za5 (τ:=zl) rfl _,za5 (τ:=z3) rfl _,za5 (τ:=zx) rfl _,za5 (τ:=.arr 4 tU) rfl _,za5 (τ:=zC) rfl _,zk1 (τ:=.arr 4 tU) rfl _,zk1 (τ:=.arr 4 tU) rfl _⟩
theorem zFV (s:zb):zxu s s = true:=by
  simp only [zxu,Bool.and_eq_true]
  exact ⟨beq_self_eq_true (α:=Int) _,zvr zCU _,zvr (za5 (τ:=tI) rfl) _,za5 (τ:=zo) rfl _,za5 (τ:=zv) rfl _,za5 (τ:=tI) rfl _⟩
end Go.Proofs.YtejbgeokcpillaaGreatDoor
end
section
namespace Go.Proofs.YtejbgeokcpillaaGreatDoor
open Go.Ev
structure zxv (x:zg):Prop where
  rooms:x.1.length ≤ 2000000
  exits:x.2.1.length ≤ 2000000
  items:x.2.2.1.length ≤ 2000000
  mails:x.2.2.2.1.length ≤ 2000000
  trades:x.2.2.2.2.1.length ≤ 2000000
  purses:x.2.2.2.2.2.1.length ≤ 2000000
  places:x.2.2.2.2.2.2.1.length ≤ 2000000
structure zsB (s:zb):Prop where
  shelves:s.2.1.length ≤ 2000000
  ranks:s.2.2.1.length ≤ 2000000
  orders:s.2.2.2.1.length ≤ 2000000
  entries:s.2.2.2.2.1.length ≤ 2000000
  seats:s.2.2.2.2.2.1.length ≤ 2000000
  shelf:∀ x ∈ s.2.1,zxv x
  rank:∀ l ∈ s.2.2.1,l.length ≤ 2000000
theorem zCV {α:Type} {l:List α} {i:Nat} {d:α} (h:i < l.length):List.set l i (l.getD i d) = l:=by
  rw [List.getD_eq_getElem?_getD,List.getElem?_eq_getElem h]
  exact List.set_getElem_self h
theorem zge {s:zb} (h:zsB s):vY (s,()) = some (s,()):=by
  have hlm:2000000 ≤ lim:=by unfold lim; omega
  have hmm:2000000 ≤ Go.maxLen:=by unfold Go.maxLen; omega
  have h1:=h.shelves
  have h2:=h.ranks
  have h3:=h.orders
  have h4:=h.entries
  have h5:=h.seats
  have l1:zbQ K0 ((s.2.1.length:Int),0,s.1,0,s.2.1,0,s.2.2.1,s.2.2.1.length,s.2.2.2.1,s.2.2.2.2.1,s.2.2.2.2.2.1,[],0,[],0,[],[],[]) = some (s,()) :=
    vT (α:=Unit) (B:=zbP) (len:=s.2.1.length) (by omega) (fun i _=>((s.2.1.length:Int),i,s.1,0,s.2.1,i.toNat,s.2.2.1,s.2.2.1.length,s.2.2.2.1,s.2.2.2.2.1,s.2.2.2.2.2.1,[],0,[],0,[],[],[])) (fun _ _=>some (s,())) (fun _ _=>True) (fun k i _ hi _ hk=>by
      have hx:=h.shelf _ (z8 (d:=zf) hi)
      have e1:=hx.rooms
      have e2:=hx.exits
      have e3:=hx.items
      have e4:=hx.mails
      have e5:=hx.trades
      have e6:=hx.purses
      have e7:=hx.places
      have hk':=hk () trivial
      have hw:wI ((i:Int) + 1) = (i:Int) + 1:=zwc hi (by omega)
      simp only [zbP]
      rw [ltT hi,zG hi,qq]
      simp only [Int.toNat_natCast,Nat.le_refl,decide_true,cond_true]
      rw [zCl (by omega),zCm (by omega),zlS (by omega),zCn (by omega),zj2 (by omega),zFz (by omega),zDZ (by omega)]
      simp only [Option.bind_some]
      rw [zG hi]
      refine Eq.trans ?_ hk'
      have hs:List.set s.2.1 i (s.2.1.getD i zf) = s.2.1:=zCV hi
      have ht:(wI ((i:Int) + 1)).toNat = i + 1:=by rw [hw]; omega
      rw [ht]
      exact congrArg (fun l=>k ((s.2.1.length:Int),wI ((i:Int) + 1),s.1,0,l,i + 1,s.2.2.1,s.2.2.1.length,s.2.2.2.1,s.2.2.2.2.1,s.2.2.2.2.2.1,[],0,[],0,[],[],[])) hs) (fun k _ _=>by
      simp only [zbP]
      rw [ltF]
      simp only [Int.toNat_natCast,decide_true,cond_true,cond_false]) () trivial
  have l0:zhD K0 ((s.2.2.1.length:Int),0,s.1,s.2.1,0,s.2.2.1,0,s.2.2.2.1,s.2.2.2.2.1,s.2.2.2.2.2.1,[],0,[],0,[],[],[]) = some (s,()) :=
    vT (α:=Unit) (B:=fun k0=>yX (zbQ K0) k0) (len:=s.2.2.1.length) (by omega) (fun i _=>((s.2.2.1.length:Int),i,s.1,s.2.1,0,s.2.2.1,i.toNat,s.2.2.2.1,s.2.2.2.2.1,s.2.2.2.2.2.1,[],0,[],0,[],[],[])) (fun _ _=>some (s,())) (fun _ _=>True) (fun k i _ hi _ hk=>by
      have hx:=h.rank _ (z8 (d:=([]:List Int)) hi)
      have hk':=hk () trivial
      have hw:wI ((i:Int) + 1) = (i:Int) + 1:=zwc hi (by omega)
      simp only [yX]
      rw [ltT hi,zG hi]
      simp only [Int.toNat_natCast,Nat.le_refl,decide_true,cond_true]
      rw [zt5 (by omega)]
      simp only [Option.bind_some]
      rw [zG hi]
      refine Eq.trans ?_ hk'
      have hs:List.set s.2.2.1 i (s.2.2.1.getD i []) = s.2.2.1:=zCV hi
      have ht:(wI ((i:Int) + 1)).toNat = i + 1:=by rw [hw]; omega
      rw [ht,hs]) (fun k _ _=>by
      simp only [yX]
      rw [ltF,zAh (by omega)]
      simp only [Int.toNat_natCast,Option.bind_some,cond_false]
      exact l1) () trivial
  simp only [vY,zf6]
  rw [zqC (by omega),zAg (by omega),zt5 (by omega),zCk (by omega)]
  simp only [Option.bind_some]
  exact l0
end Go.Proofs.YtejbgeokcpillaaGreatDoor
end
section
namespace Go.Proofs.YtejbgeokcpillaaGreatDoor
open Go.Ev
structure At (s:zb) (i w:Int):Prop where
  hi:0 ≤ i ∧ i < (s.2.1.length:Int)
  hw:0 ≤ w ∧ w < (((ix zf s.2.1 i).2.2.2.2.2.1.length:Nat):Int)
theorem zsC {s:zb} {i:Int} (hi:0 ≤ i ∧ i < (s.2.1.length:Int)):ix zf s.2.1 i ∈ s.2.1:=z8 (by omega)
theorem zJm {r:ze} {s:zb} (h:qf r s = true) {i w:Int} (hi:zgD r i = true) (hw:vQ r w = true):At s i w:=by
  obtain ⟨hb,hz,-⟩:=j7 h
  have sz:=zcb hb hz
  have hsl:=sz.shelves
  simp only [zgD,vQ,decide_eq_true_eq] at hi hw
  have h1:0 ≤ i ∧ i < (s.2.1.length:Int):=by omega
  have h2:=(sz.shelf _ (zsC h1)).2.2.2.2.2.1
  exact ⟨h1,by omega⟩
theorem zG9 {r:ze} (hb:qx r = true) {x:pMe} (hm:yF r x = true):zgD r x.2.1 = true:=by
  simp only [qx,zlV,Bool.and_eq_true,decide_eq_true_eq,List.all_eq_true] at hb
  simp only [yF,Bool.and_eq_true,decide_eq_true_eq,beq_iff_eq] at hm
  have:=hb.2.1.2 _ (z8 (d:=(0:Int)) (i:=x.1.toNat) (by omega))
  rw [← hm.2.1] at this
  simp only [zgD,decide_eq_true_eq]
  exact this
theorem zJn {r:ze} {s:zb} (h:qf r s = true) {x:pMe} (hm:yF r x = true):At s x.2.1 x.2.2.1:=by
  have hw:vQ r x.2.2.1 = true:=by
    simp only [yF,Bool.and_eq_true] at hm; exact hm.2.2
  exact zJm h (zG9 (j7 h).1 hm) hw
end Go.Proofs.YtejbgeokcpillaaGreatDoor
end
section
namespace Go.Proofs.YtejbgeokcpillaaGreatDoor
open Go.Ev
theorem bnd {α β:Type} {x:Option α} {a:α} {f:α→Option β} (h:x = some a):Option.bind x f = f a:=by rw [h]; rfl
theorem cT {α:Type} {b:Bool} {x y:α} (h:b = true):cond b x y = x:=by rw [h]; rfl
theorem cF {α:Type} {b:Bool} {x y:α} (h:b = false):cond b x y = y:=by rw [h]; rfl
abbrev upd (s:zb) (i:Int) (h:zg):zb:=u1 s (List.set s.2.1 (Int.toNat i) h)
theorem zua {α:Type} {l:List α} {i:Nat} {x d:α} (h:i < l.length):(List.set l i x).getD i d = x:=by
  rw [List.getD_eq_getElem?_getD,List.getElem?_set_self h]; rfl
theorem getD_set_ne {α:Type} {l:List α} {i j:Nat} {x d:α} (h:i ≠ j):(List.set l i x).getD j d = l.getD j d:=by
  rw [List.getD_eq_getElem?_getD,List.getElem?_set_ne h,List.getD_eq_getElem?_getD]
def zEA (x:zg):Bool:=decide (x.1.length ≤ 2000000) && (decide (x.2.1.length ≤ 2000000) && (decide (x.2.2.1.length ≤ 2000000) && (decide (x.2.2.2.1.length ≤ 2000000) && (decide (x.2.2.2.2.1.length ≤ 2000000) && (decide (x.2.2.2.2.2.1.length ≤ 2000000) && decide (x.2.2.2.2.2.2.1.length ≤ 2000000))))))
def zAL (s:zb):Bool:=decide (s.2.1.length ≤ 2000000) && (decide (s.2.2.1.length ≤ 2000000) && (decide (s.2.2.2.1.length ≤ 2000000) && (decide (s.2.2.2.2.1.length ≤ 2000000) && (decide (s.2.2.2.2.2.1.length ≤ 2000000) && (s.2.1.all zEA && s.2.2.1.all fun l=>decide (l.length ≤ 2000000))))))
theorem zHZ {s:zb} (h:zAL s = true):zsB s:=by
  simp only [zAL,Bool.and_eq_true,decide_eq_true_eq,List.all_eq_true] at h
  obtain ⟨h1,h2,h3,h4,h5,h6,h7⟩:=h
  refine ⟨h1,h2,h3,h4,h5,fun x hx=>?_,h7⟩
  have:=h6 x hx
  simp only [zEA,Bool.and_eq_true,decide_eq_true_eq] at this
  obtain ⟨a,b,c,d,e,f,g⟩:=this
  exact ⟨a,b,c,d,e,f,g⟩
noncomputable def zHa (x:zb × Unit):Option (zb × Unit):=bif zAL x.1 then some x else vY x
theorem zH0:vY = zHa:=by
  funext ⟨s,u⟩
  cases u
  unfold zHa
  cases h:zAL s with
  | true=>exact zge (zHZ h)
  | false=>rfl
theorem zEc {x:zg} (h:zxv x):zxt x:=by
  have hm:2000000 ≤ Go.maxLen:=by unfold Go.maxLen; omega
  exact ⟨Nat.le_trans h.rooms hm,Nat.le_trans h.exits hm,Nat.le_trans h.items hm,Nat.le_trans h.mails hm,Nat.le_trans h.trades hm,Nat.le_trans h.purses hm,Nat.le_trans h.places hm⟩
theorem zHb {s:zb} (h:zsB s):zJf s:=by
  have hm:2000000 ≤ Go.maxLen:=by unfold Go.maxLen; omega
  exact ⟨Nat.le_trans h.shelves hm,Nat.le_trans h.ranks hm,Nat.le_trans h.orders hm,Nat.le_trans h.entries hm,Nat.le_trans h.seats hm,fun x hx=>zEc (h.shelf x hx),fun l hl=>Nat.le_trans (h.rank l hl) hm⟩
theorem wf_u64 {x:Int} (h:(Lit.int .u64 x).wf = true):zeg x:=by
  unfold Lit.wf at h
  simp only [Bool.and_eq_true,decide_eq_true_eq] at h
  have e1:IntKind.min .u64 = 0:=by decide
  have e2:IntKind.max .u64 = 18446744073709551615:=by decide
  rw [e1,e2] at h
  exact ⟨h.1,Int.lt_of_le_of_lt h.2 (by decide)⟩
theorem realmIn {r:ze} (h:InR zy r):qo r:=by
  obtain ⟨hl,h2⟩:=h
  refine ⟨fun a ha=>?_,h2.2.2.1.1,h2.2.2.2.1.1⟩
  have h3:(Lit.int .u64 a.2.1).wf = true:=(hl.2 a ha).2.1
  exact wf_u64 h3
theorem zCW {a:List Int} (h:InR (.arr 4 tU) a):zpG a:=fun x hx=>wf_u64 (h.2 x hx)
theorem zEB {x:zku} (h:InR zdi x):zeg x.2.1:=wf_u64 (show (Lit.int .u64 x.2.1).wf = true from h.2.1)
theorem zIF {x:zg} (h:InR zn x):zkT x:=by
  obtain ⟨-,-,-,-,h5,h6,-,h8,h9,-⟩:=h
  refine ⟨fun t ht=>?_,fun a ha=>zCW (h6.2 a ha),zCW h8,zCW h9⟩
  obtain ⟨-,-,-,g1,g2,-⟩:=h5.2 t ht
  exact ⟨zEB g1,zEB g2⟩
theorem zIG {x:zp} (h:InR zo x):zkR x:=by
  obtain ⟨-,-,-,-,-,-,h7,h8,h9,-⟩:=h
  exact ⟨wf_u64 h7,wf_u64 h8,wf_u64 h9⟩
theorem zIH {x:zH} (h:InR zv x):zs0 x:=by
  obtain ⟨-,-,-,-,-,-,-,h8,h9,-⟩:=h
  exact ⟨wf_u64 h8,wf_u64 h9⟩
theorem stateIn {s:zb} (h:InR zq s):qT s:=by
  obtain ⟨-,h2,-,h4,h5,-⟩:=h
  exact ⟨fun x hx=>zIF (h2.2 x hx),fun x hx=>zIG (h4.2 x hx),fun x hx=>zIH (h5.2 x hx)⟩
def zvs:zb:=(0,[],[],[],[],[],())
theorem zl3 {n:Nat} (h:n ≤ 2000000):n ≤ lim:=by unfold lim; omega
theorem zCX {n:Nat} (h:n ≤ 2000000):n ≤ Go.maxLen:=by unfold Go.maxLen; omega
theorem zs3 {r:ze} {s:zb} (h:qf r s = true):zsB s:=by
  obtain ⟨hb,hz,hp⟩:=j7 h
  have ok:=vx hb
  have sz:=zcb hb hz
  have h1:=ok.labels
  have h2:=ok.lines
  have h3:=ok.accounts
  have h4:=sz.shelves
  have h5:=sz.orders
  have h6:=sz.entries
  have h7:=sz.people
  have h8:=ok.guilds
  have hh:zh3 r s.2.2.1 = true:=by simp only [zdV,Bool.and_eq_true] at hp; exact hp.1
  have hr:=zvq hh
  refine ⟨by omega,by omega,by omega,by omega,by omega,fun x hx=>?_,fun l hl=>?_⟩
  · have:=sz.shelf x hx
    exact ⟨by omega,by omega,by omega,by omega,by omega,by omega,by omega⟩
  · obtain ⟨i,hi,rfl⟩:=List.mem_iff_getElem.1 hl
    have:=hr.2 i (by omega)
    rw [List.getD_eq_getElem?_getD,List.getElem?_eq_getElem hi] at this
    have this:(s.2.2.1[i]).length = _:=this
    omega
end Go.Proofs.YtejbgeokcpillaaGreatDoor
end
section
namespace Go.Proofs.YtejbgeokcpillaaGreatDoor
open Go.Ev
abbrev zyI (l:List zj):Option zbC:=some (l,some qG,())
theorem zjf {l:List zj} (hl:l.length ≤ lim):zcq (l,()) = some (zyI l,()):=by
  simp only [zcq,zhE]
  rw [zlS hl]; rfl
theorem zEC (x:zj):qG (x,()) = some (x.1,()):=(zR x.1).symm
theorem znJ (l:List zj):zbK (zyI l,()) = some (true,()):=rfl
def zh9 (l:List zj) (i:Int):Bool:=decide (0 ≤ i ∧ i < (l.length:Int)) && (ix zO l i).1
theorem zs4 {l:List zj} {i:Int} (h:zh9 l i = true):0 ≤ i ∧ i < (l.length:Int):=by
  simp only [zh9,Bool.and_eq_true,decide_eq_true_eq] at h; exact h.1
theorem zFW (l:List zj) (i:Int):ze1 (zyI l,i,()) = some (zh9 l i,()):=by
  rw [zR]
  simp only [ze1]
  refine (bnd (znJ l)).trans ?_
  refine (cT rfl).trans ?_
  unfold zh9
  by_cases h:0 ≤ i ∧ i < (l.length:Int)
  · rw [decide_eq_true h,Bool.true_and]
    refine (cT (decide_eq_true (show i ≥ 0 from h.1))).trans ?_
    refine (bnd (a:=(l,some qG,())) rfl).trans ?_
    refine (cT (decide_eq_true (show i < (l.length:Int) from h.2))).trans ?_
    refine (bnd (a:=(l,some qG,())) rfl).trans ?_
    refine (bnd (a:=(l,some qG,())) rfl).trans ?_
    refine (ixR h).trans ?_
    refine (bnd (a:=qG) rfl).trans ?_
    refine (bnd (zEC _)).trans ?_
    cases (ix zO l i).1 <;> rfl
  · rw [decide_eq_false h,Bool.false_and]
    by_cases h0:i ≥ 0
    · refine (cT (decide_eq_true h0)).trans ?_
      refine (bnd (a:=(l,some qG,())) rfl).trans ?_
      exact cF (decide_eq_false (show ¬ i < (l.length:Int) by omega))
    · exact cF (decide_eq_false h0)
theorem zpK {l:List zj} (hl:l.length ≤ lim) {i:Int} (hi:0 ≤ i ∧ i < (l.length:Int)) (x:zj):zaG (zyI l,i,x,()) = some (List.set l i.toNat x,0,()):=by
  simp only [zaG]
  refine (bnd (znJ l)).trans ?_
  refine (cT rfl).trans ?_
  refine (cF (decide_eq_false (by omega))).trans ?_
  refine (bnd (a:=(l,some qG,())) rfl).trans ?_
  refine (cF (decide_eq_false (show ¬ i ≥ (l.length:Int) by omega))).trans ?_
  refine (bnd (a:=(l,some qG,())) rfl).trans ?_
  refine (bnd (zlS hl)).trans ?_
  exact ixR hi
def yc (l:List zj):Int:=qQ (fun x=>!x.1) l 0
theorem zyJ {α:Type} {p:α→Bool}:∀ (l:List α) (i:Int),0 ≤ i→qQ p l i = -1 ∨ (i ≤ qQ p l i ∧ qQ p l i < i + l.length)
  | [],_,_=>.inl rfl
  | x :: l,i,h=>by
    simp only [qQ]
    cases p x with
    | true=>right; simp only [cond_true,List.length_cons]; omega
    | false =>
      simp only [cond_false,List.length_cons]
      rcases zyJ (p:=p) l (i + 1) (by omega) with e | e
      · exact .inl e
      · right; omega
theorem zCY {l:List zj} (hl:l.length ≤ Go.maxLen):zdC (zyI l,()) = some (bif decide (yc l < 0) then (0,8,()) else (yc l,0,())):=by
  simp only [zdC]
  refine (bnd (znJ l)).trans ?_
  refine (cT rfl).trans ?_
  refine (bnd (a:=(l,some qG,())) rfl).trans ?_
  refine (bnd (zlQ (p:=fun x=>!x.1) hl fun x _=>?_)).trans ?_
  · show Option.bind (qG (x,())) (fun q3=>bif q3.1 then some (false,()) else some (true,())) = some (!x.1,())
    refine (bnd (zEC x)).trans ?_
    cases x.1 <;> rfl
  · show (bif decide (yc l < 0) then some (0,8,()) else some (yc l,0,())) = _
    cases decide (yc l < 0) <;> rfl
def zCZ (l:List zj) (x:zj):List zj × Int × Int × Unit:=bif decide (yc l < 0) then ([],0,8,()) else (List.set l (yc l).toNat x,yc l,0,())
theorem zED {l:List zj} (h:¬ yc l < 0):0 ≤ yc l ∧ yc l < (l.length:Int):=by
  have hr:=zyJ (p:=fun x:zj=>!x.1) l 0 (Int.le_refl 0)
  unfold yc at h ⊢
  omega
theorem zFX {l:List zj} (hl:l.length ≤ 2000000) (x:zj):ze4 (zyI l,x,()) = some (zCZ l x):=by
  simp only [ze4]
  refine (bnd (zCY (zCX hl))).trans ?_
  unfold zCZ
  by_cases h:yc l < 0
  · rw [decide_eq_true h]; rfl
  · rw [decide_eq_false h]
    refine (cF rfl).trans ?_
    exact bnd (zpK (zl3 hl) (zED h) x)
def toV (x:zj) (h:qF):zj:=(x.1,x.2.1,h.1,h.2.1,h.2.2.1,())
abbrev ofV (x:zj):qF:=(x.2.2.1,x.2.2.2.1,x.2.2.2.2.1,())
abbrev inH (who:Int):qF:=(1,who,(0,0,()),())
abbrev zpL (r:jm):qF:=(2,0,r,())
def hOk (h:qF):Bool:=zgC h.1 h.2.1 h.2.2.1
theorem zpM (who:Int):hOk (inH who) = ju who:=by
  show ((true && (ju who && true)) || (false && ((who:Int) == 0 && zpD (0,0,())))) = ju who
  cases ju who <;> rfl
theorem zFY (x:zj):zeU (x,()) = some (ofV x,()):=rfl
theorem zxw (x:zj) (h:qF):zkx (x,h,()) = some (toV x h,()):=rfl
theorem ziY (w:Int):jK (w,()) = some (inH w,()):=rfl
theorem zC0 (r:jm):zcS (r,()) = some (zpL r,()):=rfl
def va (l:List zj) (i:Int) (f g:qF):List zj × Int × Unit:=bif l.all qt then bif hOk f then bif hOk g then bif zh9 l i then bif eqI qi (ofV (ix zO l i)) f then (List.set l i.toNat (toV (ix zO l i) g),0,()) else ([],3,()) else ([],3,()) else ([],1,()) else ([],1,()) else ([],1,())
theorem zia {l:List zj} (hl:l.length ≤ 2000000) (i:Int) (f g:qF):za0 (l,i,f,g,()) = some (va l i f g):=by
  simp only [za0]
  refine (bnd (zj6 (zCX hl))).trans ?_
  unfold va
  cases l.all qt with
  | false=>rfl
  | true =>
    refine (cT rfl).trans ?_
    refine (bnd (zh2 f)).trans ?_
    show cond (hOk f) _ _ = _
    cases hOk f with
    | false=>rfl
    | true =>
      refine (cT rfl).trans ?_
      refine (bnd (zh2 g)).trans ?_
      show cond (hOk g) _ _ = _
      cases hOk g with
      | false=>rfl
      | true =>
        refine (cT rfl).trans ?_
        refine (bnd (zjf (zl3 hl))).trans ?_
        refine (bnd (zFW l i)).trans ?_
        cases h:zh9 l i with
        | false=>rfl
        | true =>
          have hi:=zs4 h
          refine (cT rfl).trans ?_
          refine (ixR hi).trans ?_
          refine (bnd (zFY _)).trans ?_
          show cond (!eqI qi (ofV (ix zO l i)) f) _ _ = _
          cases eqI qi (ofV (ix zO l i)) f with
          | false=>rfl
          | true =>
            refine (cF rfl).trans ?_
            refine (bnd (zjf (zl3 hl))).trans ?_
            refine (ixR hi).trans ?_
            refine (bnd (zxw _ _)).trans ?_
            exact bnd (zpK (zl3 hl) hi _)
def zjI (l:List zj) (i w:Int):List zj × Int × Unit:=bif (va l i (inH w) (inH w)).2.1 != 0 then ([],(va l i (inH w) (inH w)).2.1,()) else (List.set l i.toNat (zd zl),0,())
theorem zyK {l:List zj} {i:Int} {f g:qF} (h:((va l i f g).2.1 != 0) = false):l.all qt = true ∧ hOk f = true ∧ hOk g = true ∧ zh9 l i = true ∧ eqI qi (ofV (ix zO l i)) f = true ∧ va l i f g = (List.set l i.toNat (toV (ix zO l i) g),0,()):=by
  unfold va at h ⊢
  cases h1:l.all qt with
  | false=>rw [h1] at h; cases h
  | true =>
    cases h2:hOk f with
    | false=>rw [h1,h2] at h; cases h
    | true =>
      cases h3:hOk g with
      | false=>rw [h1,h2,h3] at h; cases h
      | true =>
        cases h4:zh9 l i with
        | false=>rw [h1,h2,h3,h4] at h; cases h
        | true =>
          cases h5:eqI qi (ofV (ix zO l i)) f with
          | false=>rw [h1,h2,h3,h4,h5] at h; cases h
          | true=>exact ⟨rfl,rfl,rfl,rfl,rfl,rfl⟩
theorem zAv {l:List zj} (hl:l.length ≤ 2000000) (i w:Int):zgc (l,i,w,()) = some (zjI l i w):=by
  simp only [zgc]
  refine (bnd (ziY w)).trans ?_
  refine (bnd (ziY w)).trans ?_
  refine (bnd (zia hl i _ _)).trans ?_
  unfold zjI
  cases h:(va l i (inH w) (inH w)).2.1 != 0 with
  | true=>exact cT rfl
  | false =>
    refine (cF rfl).trans ?_
    refine (bnd (zjf (zl3 hl))).trans ?_
    exact bnd (zpK (zl3 hl) (zs4 (zyK h).2.2.2.1) _)
theorem zC1 {l:List zj} (hl:l.length ≤ 2000000) (i w:Int) (r:jm):zhU (l,i,w,r,()) = some (va l i (inH w) (zpL r)):=by
  simp only [zhU]
  refine (bnd (ziY w)).trans ?_
  refine (bnd (zC0 r)).trans ?_
  exact bnd (zia hl i _ _)
theorem zC2 {l:List zj} (hl:l.length ≤ 2000000) (i w:Int) (r:jm):zhV (l,i,w,r,()) = some (va l i (zpL r) (inH w)):=by
  simp only [zhV]
  refine (bnd (zC0 r)).trans ?_
  refine (bnd (ziY w)).trans ?_
  exact bnd (zia hl i _ _)
theorem zC3 {l:List zj} (hl:l.length ≤ 2000000) (i w v:Int):zhW (l,i,w,v,()) = some (va l i (inH w) (inH v)):=by
  simp only [zhW]
  refine (bnd (ziY w)).trans ?_
  refine (bnd (ziY v)).trans ?_
  exact bnd (zia hl i _ _)
def zC4 (s:ByteArray) (w:Int):zj:=(true,s,1,w,(0,0,()),())
def zeh (l:List zj) (s:ByteArray) (w:Int):List zj × Int × Int × Unit:=bif l.all qt then bif ju w then bif ze9 s then zCZ l (zC4 s w) else ([],0,2,()) else ([],0,1,()) else ([],0,1,())
theorem zC5 {l:List zj} (hl:l.length ≤ 2000000) (s:ByteArray) (w:Int):zhQ (l,s,w,()) = some (zeh l s w):=by
  simp only [zhQ]
  refine (bnd (zj6 (zCX hl))).trans ?_
  unfold zeh
  cases l.all qt with
  | false=>rfl
  | true =>
    refine (cT rfl).trans ?_
    refine (bnd (zh2 (inH w))).trans ?_
    show cond (hOk (inH w)) _ _ = _
    rw [zpM]
    cases ju w with
    | false=>rfl
    | true =>
      refine (cT rfl).trans ?_
      refine (bnd (zh1 s)).trans ?_
      cases ze9 s with
      | false=>rfl
      | true =>
        refine (cT rfl).trans ?_
        refine (bnd (zjf (zl3 hl))).trans ?_
        refine (bnd (zxw _ _)).trans ?_
        exact bnd (zFX hl _)
end Go.Proofs.YtejbgeokcpillaaGreatDoor
end
section
namespace Go.Proofs.YtejbgeokcpillaaGreatDoor
open Go.Ev
theorem zHc (l:List zj) (i:Int) (f g:qF):va l i f g = bif l.all qt then bif hOk f then bif hOk g then bif zh9 l i && eqI qi (ofV (ix zO l i)) f then (List.set l i.toNat (toV (ix zO l i) g),0,()) else ([],3,()) else ([],1,()) else ([],1,()) else ([],1,()):=by
  unfold va
  cases zh9 l i <;> rfl
theorem zxx (a b:qF):eqI qi a b = ((a.1:Int) == b.1 && ((a.2.1:Int) == b.2.1 && eqI zC a.2.2.1 b.2.2.1)):=by
  show cond ((a.1:Int) == b.1) (cond ((a.2.1:Int) == b.2.1) (cond (eqI zC a.2.2.1 b.2.2.1) true false) false) false = _
  cases ((a.1:Int) == b.1) <;> cases ((a.2.1:Int) == b.2.1) <;> cases eqI zC a.2.2.1 b.2.2.1 <;> rfl
theorem zHd {x:zj} (h:qt x = true) (hu:x.1 = true) (hk:(x.2.2.1:Int) = 1):eqI zC x.2.2.2.2.1 (0,0,()) = true:=by
  unfold qt at h
  rw [hu,cond_true] at h
  simp only [zgC,Bool.and_eq_true,Bool.or_eq_true] at h
  rcases h.2 with h2 | h2
  · exact h2.2.2
  · have:(x.2.2.1:Int) = 2:=by simpa using h2.1
    omega
theorem zII {x:zj} (h:qt x = true) (hu:x.1 = true) (w:Int):eqI qi (ofV x) (inH w) = ((x.2.2.1:Int) == 1 && (x.2.2.2.1:Int) == w):=by
  rw [zxx]
  show ((x.2.2.1:Int) == 1 && ((x.2.2.2.1:Int) == w && eqI zC x.2.2.2.2.1 (0,0,()))) = _
  by_cases hk:(x.2.2.1:Int) = 1
  · rw [zHd h hu hk,Bool.and_true]
  · rw [beq_eq_false_iff_ne.2 hk]; rfl
theorem zyL {l:List zj} (h:l.all qt = true) {i:Int} (hi:0 ≤ i ∧ i < (l.length:Int)):qt (ix zO l i) = true:=List.all_eq_true.1 h _ (z8 (by omega))
def zkU (l:List zj) (i w:Int):Bool:=decide (0 ≤ i ∧ i < (l.length:Int)) && ((ix zO l i).1 && (((ix zO l i).2.2.1:Int) == 1 && ((ix zO l i).2.2.2.1:Int) == w))
theorem zIJ {l:List zj} (h:l.all qt = true) (i w:Int):(zh9 l i && eqI qi (ofV (ix zO l i)) (inH w)) = zkU l i w:=by
  unfold zh9 zkU
  by_cases hi:0 ≤ i ∧ i < (l.length:Int)
  · rw [decide_eq_true hi,Bool.true_and,Bool.true_and]
    cases hu:(ix zO l i).1 with
    | false=>rfl
    | true=>rw [zII (zyL h hi) hu]
  · rw [decide_eq_false hi]; rfl
end Go.Proofs.YtejbgeokcpillaaGreatDoor
end
section
namespace Go.Proofs.YtejbgeokcpillaaGreatDoor
open Go.Ev
abbrev zA (s:zb) (me:pMe):List zj:=(ix zf s.2.1 me.2.1).2.2.1
abbrev zkV (s:zb) (i w:Int):jm:=List.getD (ix zf s.2.1 i).2.2.2.2.2.2.1 (Int.toNat w) (zd zC)
abbrev za6 (s:zb) (me:pMe):jm:=zkV s me.2.1 me.2.2.1
structure Ctx (r:ze) (s:zb) (me:pMe):Prop where
  rs:qf r s = true
  im:yF r me = true
theorem Ctx.hi {r:ze} {s:zb} {me:pMe} (x:Ctx r s me):0 ≤ me.2.1 ∧ me.2.1 < (s.2.1.length:Int):=(zJn x.rs x.im).hi
theorem Ctx.shelf {r:ze} {s:zb} {me:pMe} (x:Ctx r s me):(ix zf s.2.1 me.2.1).2.2.1.length ≤ 12 ∧ (ix zf s.2.1 me.2.1).2.2.2.2.2.2.1.length = r.2.2.1.length:=by
  obtain ⟨hb,hz,-⟩:=j7 x.rs
  have h:=(zcb hb hz).shelf _ (zsC x.hi)
  exact ⟨h.2.2.1,h.2.2.2.2.2.2⟩
theorem Ctx.small {r:ze} {s:zb} {me:pMe} (x:Ctx r s me):(zA s me).length ≤ 2000000:=Nat.le_trans x.shelf.1 (by omega)
theorem Ctx.who {r:ze} {s:zb} {me:pMe} (x:Ctx r s me):vQ r me.2.2.1 = true:=by
  have:=x.im
  simp only [yF,Bool.and_eq_true] at this; exact this.2.2
theorem Ctx.place {r:ze} {s:zb} {me:pMe} (x:Ctx r s me) {w:Int} (hw:vQ r w = true):0 ≤ w ∧ w < ((ix zf s.2.1 me.2.1).2.2.2.2.2.2.1.length:Int):=by
  simp only [vQ,decide_eq_true_eq] at hw
  rw [x.shelf.2]; exact hw
theorem Ctx.slots {r:ze} {s:zb} {me:pMe} (x:Ctx r s me):(zA s me).all qt = true:=by
  have h:=x.rs
  have hi:=x.hi
  simp only [qf,Bool.and_eq_true,jl] at h
  have:=(h.2.2.2.1 me.2.1.toNat (Nat.zero_le _) (by omega)).1.1
  simp only [j9,Bool.and_eq_true] at this
  exact this.2.2.1
theorem zyM {r:ze} (hb:qx r = true) {w:Int} (hw:vQ r w = true):ju w = true:=by
  have:=(vx hb).accounts
  simp only [vQ,ju,decide_eq_true_eq] at hw ⊢
  omega
theorem zqJ {r:ze} {s:zb} {me:pMe} (x:Ctx r s me):zbl (s,me,()) = some (zA s me,()):=by
  simp only [zbl]
  exact ixR x.hi
theorem zgf {r:ze} {s:zb} {me:pMe} (x:Ctx r s me) {y:pMe} (hy:y.2.1 = me.2.1) (hw:vQ r y.2.2.1 = true):vX (s,y,()) = some (zkV s me.2.1 y.2.2.1,()):=by
  simp only [vX]
  rw [hy]
  refine (ixR x.hi).trans ?_
  exact ixR (x.place hw)
def zyN (e:Int):zb × Int × Unit:=(zvs,e,())
def zgg (s:zb) (me:pMe) (v:List zj × Int × Unit):zb × Int × Unit:=bif v.2.1 != 0 then zyN v.2.1 else (upd s me.2.1 (u2 (ix zf s.2.1 me.2.1) v.1),0,())
theorem zxy {r:ze} {s:zb} {me:pMe} {g:List zj × Unit→Option (List zj × Int × Unit)} {v:List zj × Int × Unit} (hr:qo r) (hs:qT s) (hg:Ctx r s me→g (zA s me,()) = some v):yS (r,s,me,some g,()) = some (bif qf r s && yF r me then zgg s me v else zyN 1):=by
  simp only [yS]
  refine (bnd (zeJ hr hs me)).trans ?_
  cases h:qf r s && yF r me with
  | false=>rfl
  | true =>
    simp only [Bool.and_eq_true] at h
    have x:Ctx r s me:=⟨h.1,h.2⟩
    refine (cT rfl).trans ?_
    refine (bnd (zqJ x)).trans ?_
    refine (bnd (a:=g) rfl).trans ?_
    refine (bnd (hg x)).trans ?_
    show _ = some (zgg s me v)
    unfold zgg
    cases he:v.2.1 != 0 with
    | true=>exact cT rfl
    | false =>
      refine (cF rfl).trans ?_
      refine (bnd (zge (zs3 x.rs))).trans ?_
      exact ixR x.hi
theorem zAw {r:ze} {s:zb} {me:pMe} (hr:qo r) (hs:qT s) (i:Int):zbr (r,s,me,i,()) = some (bif qf r s && yF r me then zgg s me (zjI (zA s me) i me.2.2.1) else zyN 1):=by
  simp only [zbr]
  refine (bnd (zxy (v:=zjI (zA s me) i me.2.2.1) hr hs fun x=>?_)).trans rfl
  simp only [zhY]
  refine (bnd (a:=i) rfl).trans ?_
  refine (bnd (a:=me) rfl).trans ?_
  exact bnd (zAv x.small i me.2.2.1)
theorem zC6 {r:ze} {s:zb} {me:pMe} (hr:qo r) (hs:qT s) (i:Int):zc6 (r,s,me,i,()) = some (bif qf r s && yF r me then zgg s me (va (zA s me) i (inH me.2.2.1) (zpL (za6 s me))) else zyN 1):=by
  simp only [zc6]
  refine (bnd (zxy (v:=va (zA s me) i (inH me.2.2.1) (zpL (za6 s me))) hr hs fun x=>?_)).trans rfl
  simp only [ziN]
  refine (bnd (a:=i) rfl).trans ?_
  refine (bnd (a:=me) rfl).trans ?_
  refine (bnd (a:=s) rfl).trans ?_
  refine (bnd (a:=me) rfl).trans ?_
  refine (bnd (zgf x rfl x.who)).trans ?_
  exact bnd (zC1 x.small i me.2.2.1 (za6 s me))
theorem zC7 {r:ze} {s:zb} {me:pMe} (hr:qo r) (hs:qT s) (i:Int):za2 (r,s,me,i,()) = some (bif qf r s && yF r me then zgg s me (va (zA s me) i (zpL (za6 s me)) (inH me.2.2.1)) else zyN 1):=by
  simp only [za2]
  refine (bnd (zxy (v:=va (zA s me) i (zpL (za6 s me)) (inH me.2.2.1)) hr hs fun x=>?_)).trans rfl
  simp only [ziO]
  refine (bnd (a:=i) rfl).trans ?_
  refine (bnd (a:=me) rfl).trans ?_
  refine (bnd (a:=s) rfl).trans ?_
  refine (bnd (a:=me) rfl).trans ?_
  refine (bnd (zgf x rfl x.who)).trans ?_
  exact bnd (zC2 x.small i me.2.2.1 (za6 s me))
def zpN (r:ze) (s:zb) (me:pMe) (i w:Int):List zj × Int × Unit:=bif vQ r w && w != me.2.2.1 then bif zkU (zA s me) i me.2.2.1 then bif eqI zC (zkV s me.2.1 w) (za6 s me) then va (zA s me) i (inH me.2.2.1) (inH w) else ((va (zA s me) i (inH me.2.2.1) (inH w)).1,5,()) else ([],3,()) else ([],1,())
theorem zHe {r:ze} {s:zb} {me:pMe} (x:Ctx r s me) {w:Int} (hw:vQ r w = true) (i:Int):va (zA s me) i (inH me.2.2.1) (inH w) = bif zkU (zA s me) i me.2.2.1 then (List.set (zA s me) i.toNat (toV (ix zO (zA s me) i) (inH w)),0,()) else ([],3,()):=by
  have hb:=(j7 x.rs).1
  rw [zHc,x.slots,zpM,zpM,zyM hb x.who,zyM hb hw,zIJ x.slots]; rfl
theorem zC8 {r:ze} {s:zb} {me:pMe} (hr:qo r) (hs:qT s) (i w:Int):za3 (r,s,me,i,w,()) = some (bif qf r s && yF r me then zgg s me (zpN r s me i w) else zyN 1):=by
  simp only [za3]
  refine (bnd (zxy (v:=zpN r s me i w) hr hs fun x=>?_)).trans rfl
  have him:∀ u:Unit,yF r (me.1,me.2.1,w,u) = vQ r w:=fun u=>by
    have:=x.im
    simp only [yF,Bool.and_eq_true] at this ⊢
    rw [this.1,this.2.1,Bool.true_and,Bool.true_and]
  simp only [ziP]
  refine (bnd (a:=me) rfl).trans ?_
  refine (bnd (a:=me) rfl).trans ?_
  refine (bnd (a:=w) rfl).trans ?_
  refine (bnd (a:=w) rfl).trans ?_
  refine (bnd (a:=me) rfl).trans ?_
  unfold zpN
  by_cases hne:w = me.2.2.1
  · refine (cT (beq_iff_eq.2 hne)).trans ?_
    have:(w != me.2.2.1) = false:=by rw [hne]; simp
    rw [this,Bool.and_false]; rfl
  · refine (cF (beq_eq_false_iff_ne.2 hne)).trans ?_
    rw [bne_iff_ne.2 hne,Bool.and_true]
    refine (bnd (a:=r) rfl).trans ?_
    refine (bnd (a:=s) rfl).trans ?_
    refine (bnd (zeJ hr hs _)).trans ?_
    rw [x.rs,him,Bool.true_and]
    cases hw:vQ r w with
    | false=>rfl
    | true =>
      refine (cT rfl).trans ?_
      refine (bnd (a:=i) rfl).trans ?_
      refine (bnd (a:=me) rfl).trans ?_
      refine (bnd (a:=w) rfl).trans ?_
      refine (bnd (zC3 x.small i me.2.2.1 w)).trans ?_
      rw [zHe x hw i]
      cases zkU (zA s me) i me.2.2.1 with
      | false=>rfl
      | true =>
        refine (cT rfl).trans ?_
        refine (bnd (a:=s) rfl).trans ?_
        refine (bnd (zgf x (y:=(me.1,me.2.1,w,(zd tMe).2.2.2)) rfl hw)).trans ?_
        refine (bnd (a:=s) rfl).trans ?_
        refine (bnd (a:=me) rfl).trans ?_
        refine (bnd (zgf x rfl x.who)).trans ?_
        show cond (!eqI zC (zkV s me.2.1 w) (za6 s me)) _ _ = _
        cases eqI zC (zkV s me.2.1 w) (za6 s me) <;> rfl
end Go.Proofs.YtejbgeokcpillaaGreatDoor
end
section
namespace Go.Proofs.YtejbgeokcpillaaGreatDoor
open Go.Ev
theorem Ctx.items {r:ze} {s:zb} {me:pMe} (x:Ctx r s me) {i:Nat} (hi:i < s.2.1.length):(s.2.1.getD i zf).2.2.1.length ≤ 12 ∧ (s.2.1.getD i zf).2.2.1.all qt = true:=by
  obtain ⟨hb,hz,-⟩:=j7 x.rs
  have h:=(zcb hb hz).shelf _ (z8 (d:=zf) hi)
  have h':=x.rs
  simp only [qf,Bool.and_eq_true,jl] at h'
  have:=(h'.2.2.2.1 i (Nat.zero_le _) (by omega)).1.1
  simp only [j9,Bool.and_eq_true] at this
  exact ⟨h.2.2.1,this.2.2.1⟩
end Go.Proofs.YtejbgeokcpillaaGreatDoor
end
section
namespace Go.Proofs.YtejbgeokcpillaaGreatDoor
open Go.Ev
def zxz (s:zb) (me:pMe) (v:List zj × Int × Int × Unit):zb × Int × Int × Unit:=bif v.2.2.1 != 0 then (zvs,0,v.2.2.1,()) else (upd s me.2.1 (u2 (ix zf s.2.1 me.2.1) v.1),v.2.1,0,())
theorem zH1 {l:List zj} {nm:ByteArray} {w:Int} (h:((zeh l nm w).2.2.1 != 0) = true):(zeh l nm w).2.1 = 0:=by
  revert h
  unfold zeh zCZ
  cases l.all qt <;> cases ju w <;> cases ze9 nm <;> cases decide (yc l < 0) <;> intro h <;> first | rfl | cases h
theorem zC9 {r:ze} {s:zb} {me:pMe} (hr:qo r) (hs:qT s) (nm:ByteArray):zc5 (r,s,me,nm,()) = some (bif qf r s && yF r me then zxz s me (zeh (zA s me) nm me.2.2.1) else (zvs,0,1,())):=by
  simp only [zc5]
  refine (bnd (zeJ hr hs me)).trans ?_
  cases h:qf r s && yF r me with
  | false=>rfl
  | true =>
    simp only [Bool.and_eq_true] at h
    have x:Ctx r s me:=⟨h.1,h.2⟩
    refine (cT rfl).trans ?_
    refine (bnd (zqJ x)).trans ?_
    refine (bnd (zC5 x.small nm me.2.2.1)).trans ?_
    show _ = some (zxz s me (zeh (zA s me) nm me.2.2.1))
    unfold zxz
    cases he:(zeh (zA s me) nm me.2.2.1).2.2.1 != 0 with
    | true =>
      refine (cT rfl).trans ?_
      show some (_,(zeh (zA s me) nm me.2.2.1).2.1,_,()) = _
      rw [zH1 he]; rfl
    | false =>
      refine (cF rfl).trans ?_
      refine (bnd (zge (zs3 x.rs))).trans ?_
      exact ixR x.hi
def zAM (v:zb × Int × Unit):zb × Int × Int × Unit:=(v.1,0,v.2.1,())
def zH2 (r:ze) (s:zb) (me:pMe) (k i w:Int):List zj × Int × Unit:=bif k == 2 then zjI (zA s me) i me.2.2.1 else bif k == 3 then va (zA s me) i (inH me.2.2.1) (zpL (za6 s me)) else bif k == 4 then va (zA s me) i (zpL (za6 s me)) (inH me.2.2.1) else zpN r s me i w
def zpO (r:ze) (s:zb) (me:pMe) (k i w:Int) (nm:ByteArray):zb × Int × Int × Unit:=bif qf r s && yF r me then bif k == 1 then zxz s me (zeh (zA s me) nm me.2.2.1) else zAM (zgg s me (zH2 r s me k i w)) else (zvs,0,1,())
theorem zJB {r:ze} {s:zb} {me:pMe} (hr:qo r) (hs:qT s) (x:zcw):zkE (r,s,me,x,()) = some (zpO r s me x.1 x.2.1 x.2.2.1 x.2.2.2.1):=by
  simp only [zkE]
  rw [zC9 hr hs,zAw hr hs,zC6 hr hs,zC7 hr hs,zC8 hr hs]
  simp only [Option.bind_some]
  unfold zpO zH2
  cases qf r s && yF r me with
  | false=>cases ((x.1:Int) == 1) <;> cases ((x.1:Int) == 2) <;> cases ((x.1:Int) == 3) <;> cases ((x.1:Int) == 4) <;> rfl
  | true=>cases ((x.1:Int) == 1) <;> cases ((x.1:Int) == 2) <;> cases ((x.1:Int) == 3) <;> cases ((x.1:Int) == 4) <;> rfl
theorem zjJ:z6 () = some (true,()):=by
  simp only [z6,zc5,zc6,za2,za3,zbr,yS,zH0]
  kernel_rfl
end Go.Proofs.YtejbgeokcpillaaGreatDoor
end
section
namespace Go.Proofs.YtejbgeokcpillaaGreatDoor
open Go.Ev
theorem zpP {s:zb} {i:Int} {h:zg} (hi:0 ≤ i ∧ i < (s.2.1.length:Int)) (k:Nat):(upd s i h).2.1.getD k zf = if i.toNat = k then h else s.2.1.getD k zf:=by
  by_cases hk:i.toNat = k
  · rw [if_pos hk,← hk]; exact zua (by omega)
  · rw [if_neg hk]; exact getD_set_ne hk
theorem zyO (s:zb) (i:Int) (h:zg):(upd s i h).2.1.length = s.2.1.length:=List.length_set ..
abbrev zbi (s:zb) (i:Int) (l:List zj):zb:=upd s i (u2 (ix zf s.2.1 i) l)
theorem zH3 {s:zb} {i:Int} {l:List zj} (hi:0 ≤ i ∧ i < (s.2.1.length:Int)) (k:Nat):((zbi s i l).2.1.getD k zf).1 = (s.2.1.getD k zf).1:=by
  rw [zpP hi]
  split
  · rename_i e; subst e; rfl
  · rfl
theorem zDa {s:zb} {i:Int} {l:List zj} (hi:0 ≤ i ∧ i < (s.2.1.length:Int)):zlZ (zbi s i l) = zlZ s:=by
  funext x
  unfold zlZ
  rw [zH3 hi,zyO]
theorem zvt {r:ze} {s:zb} {i:Int} {l:List zj} (hi:0 ≤ i ∧ i < (s.2.1.length:Int)):zdS r (zbi s i l) = zdS r s:=by
  funext j x
  unfold zdS
  rw [zDa hi]
theorem zHf {r:ze} {s:zb} {i:Int} {l:List zj} (hi:0 ≤ i ∧ i < (s.2.1.length:Int)):zh7 r (zbi s i l) = zh7 r s:=by
  funext j x
  have e1:zeI r (zbi s i l) = zeI r s:=by funext a b; unfold zeI; rw [zvt hi]
  have e2:yT r (zbi s i l) = yT r s:=by funext a b; unfold yT; rw [zvt hi]
  unfold zh7 zh6
  rw [e1,e2,zvt hi]
structure zs5 (r:ze) (s:zb) (i:Int) (x:zg) (l:List zj):Prop where
  len:l.length = x.2.2.1.length
  ok:l.all qt = true
  below:l.all (yT r s i) = true
  who:l.all (zfb r) = true
  deals:zfW (u2 x l) = true
theorem zHg {r:ze} {s:zb} (h:qf r s = true) {i:Int} (hi:0 ≤ i ∧ i < (s.2.1.length:Int)):zs5 r s (i.toNat:Int) (ix zf s.2.1 i) (ix zf s.2.1 i).2.2.1:=by
  simp only [qf,Bool.and_eq_true,jl] at h
  have h1:=(h.2.2.2.1 i.toNat (Nat.zero_le _) (by omega)).1
  simp only [j9,zh7,zh6,zc7,Bool.and_eq_true] at h1
  exact ⟨rfl,h1.1.2.2.1,h1.2.1.2.1,h1.2.2.1.1,h1.2.2.2⟩
theorem zpQ {α:Type} (f:α→Int) (d:α):∀ (l:List α) (i:Nat) (x:α),i < l.length→zM ((List.set l i x).map f) = zM (l.map f) - f (l.getD i d) + f x
  | [],_,_,h=>by cases h
  | y :: l,0,x,_=>by
    show f x + zM (l.map f) = f y + zM (l.map f) - f y + f x
    omega
  | y :: l,i + 1,x,h=>by
    have:=zpQ f d l i x (by simpa using h)
    show f y + zM ((List.set l i x).map f) = f y + zM (l.map f) - f (l.getD i d) + f x
    omega
theorem zHh {s:zb} {i:Int} {l:List zj} (hi:0 ≤ i ∧ i < (s.2.1.length:Int)) (f:zg→Int) (hf:∀ x:zg,f (u2 x l) = f x):zM ((zbi s i l).2.1.map f) = zM (s.2.1.map f):=by
  have:=zpQ f zf s.2.1 i.toNat (u2 (ix zf s.2.1 i) l) (by omega)
  refine this.trans ?_
  rw [hf]
  exact Int.sub_add_cancel _ _
theorem zIK {s:zb} {i:Int} {l:List zj} (hi:0 ≤ i ∧ i < (s.2.1.length:Int)) (c:Int):zh8 (zbi s i l) c = zh8 s c:=by
  have e1:znb (zbi s i l) c = znb s c:=by
    unfold znb
    rw [zHh hi (zdc c) fun _=>rfl]
  have e2:∀ f:zg→List Int,(∀ x,f (u2 x l) = f x)→zl2 f (zbi s i l) c = zl2 f s c:=fun f hf=>by
    unfold zl2
    exact zHh hi (fun x=>zpJ c (f x)) fun x=>by rw [hf]
  have e3:znc (zbi s i l) c = znc s c:=by
    unfold znc
    rw [e2 (fun x=>x.2.2.2.2.2.2.2.1) fun _=>rfl,e2 (fun x=>x.2.2.2.2.2.2.2.2.1) fun _=>rfl]
  unfold zh8
  rw [e1,e3]
theorem zEd {r:ze} {s:zb} (h:qf r s = true) {i:Int} (hi:0 ≤ i ∧ i < (s.2.1.length:Int)) {l:List zj} (k:zs5 r s (i.toNat:Int) (ix zf s.2.1 i) l):qf r (zbi s i l) = true:=by
  unfold qf at h ⊢
  simp only [Bool.and_eq_true,jl] at h ⊢
  obtain ⟨h1,h2,h3,h4,h5⟩:=h
  refine ⟨h1,?_,?_,fun j hj hj2=>?_,fun c hc hc2=>?_⟩
  · unfold zh4 at h2 ⊢
    simp only [Bool.and_eq_true,decide_eq_true_eq,jl] at h2 ⊢
    rw [zyO]
    refine ⟨h2.1,h2.2.1,fun j hj1 hj2=>?_⟩
    have:=h2.2.2 j hj1 hj2
    rw [zpP hi]
    split
    · rename_i e; subst e
      unfold zjH at this ⊢
      show ((_ && _) && (decide ((l.length:Int) = _) && _) && _) = true
      rw [k.len]
      exact this
    · exact this
  · unfold zdV at h3 ⊢
    have e1:ziU r (zbi s i l) = ziU r s:=rfl
    have e2:ziV r (zbi s i l) = ziV r s:=rfl
    rw [zDa hi,e1,e2]
    exact h3
  · rw [zyO] at hj2
    obtain ⟨⟨g1,g2⟩,g3⟩:=h4 j hj hj2
    rw [zHf hi]
    refine ⟨?_,fun c hc hc2=>?_⟩
    · rw [zpP hi]
      split
      · rename_i e; subst e
        have g1':j9 (ix zf s.2.1 i) = true:=g1
        have g2':zh7 r s (i.toNat:Int) (ix zf s.2.1 i) = true:=g2
        simp only [j9,zh7,zh6,zc7,Bool.and_eq_true] at g1' g2' ⊢
        exact ⟨⟨g1'.1,g1'.2.1,k.ok,g1'.2.2.2⟩,⟨g2'.1.1,k.below,g2'.1.2.2⟩,⟨k.who,g2'.2.1.2⟩,k.deals⟩
      · exact ⟨g1,g2⟩
    · have:=g3 c hc hc2
      unfold znd at this ⊢
      rw [zpP hi]
      split
      · rename_i e; subst e; exact this
      · exact this
  · rw [zIK hi]
    exact h5 c hc hc2
theorem zHi {x:zg} {k:Nat} {y:zj} (hk:k < x.2.2.1.length) (h:zfW x = true) (hold:((x.2.2.1.getD k zO).2.2.1:Int) ≠ 3) (hnew:(y.2.2.1:Int) ≠ 3):zfW (u2 x (List.set x.2.2.1 k y)) = true:=by
  unfold zfW at h ⊢
  simp only [Bool.and_eq_true,jl] at h ⊢
  obtain ⟨h1,h2⟩:=h
  refine ⟨fun j hj hj2=>?_,fun j hj hj2=>?_⟩
  · have hj3:j < x.2.2.1.length:=by
      have:j < 0 + ((List.set x.2.2.1 k y).length - 0):=hj2
      rw [List.length_set] at this; omega
    show ziW (u2 x _) j ((List.set x.2.2.1 k y).getD j zO) = true
    by_cases e:k = j
    · subst e
      rw [zua hk]
      unfold ziW
      rw [bne_iff_ne.2 hnew]; rfl
    · rw [getD_set_ne e]
      exact h1 j hj (by omega)
  · have h9:=h2 j hj hj2
    show (!(x.2.2.2.2.1.getD j qB).1 || zaB (u2 x _) (j:Int) (x.2.2.2.2.1.getD j qB)) = true
    generalize x.2.2.2.2.1.getD j qB = t at *
    cases hu:t.1 with
    | false=>rfl
    | true =>
      rw [hu] at h9
      have hd:zaB x (j:Int) t = true:=h9
      show zaB (u2 x (List.set x.2.2.1 k y)) (j:Int) t = true
      unfold zaB at hd ⊢
      simp only [Bool.and_eq_true,Bool.or_eq_true,decide_eq_true_eq,List.length_set] at hd ⊢
      refine ⟨hd.1,hd.2.imp id fun h3=>?_⟩
      have e:k ≠ Int.toNat t.2.2.2.1.2.2.1:=fun e=>by
        rw [← e] at h3
        exact hold (beq_iff_eq.1 h3.1)
      rw [getD_set_ne e]; exact h3
theorem zyP {α:Type} {p:α→Bool} {l:List α} {k:Nat} {y:α} (h:l.all p = true) (hy:p y = true):(List.set l k y).all p = true:=by
  rw [List.all_eq_true] at h ⊢
  intro z hz
  rcases List.mem_or_eq_of_mem_set hz with hz | rfl
  · exact h z hz
  · exact hy
theorem zHj {r:ze} {s:zb} {i:Int} {x:zg} {k:Nat} {y:zj} (h:zs5 r s i x x.2.2.1) (hk:k < x.2.2.1.length) (hold:((x.2.2.1.getD k zO).2.2.1:Int) ≠ 3) (hnew:(y.2.2.1:Int) ≠ 3) (h1:qt y = true) (h2:yT r s i y = true) (h3:zfb r y = true):zs5 r s i x (List.set x.2.2.1 k y) :=
  ⟨List.length_set ..,zyP h.ok h1,zyP h.below h2,zyP h.who h3,zHi hk (by have:=h.deals; exact this) hold hnew⟩
def z9 (x:zj):Int:=bif x.1 then 1 else 0
def vR (x:zg):Int:=zM (x.2.2.1.map z9)
def zfz (s:zb):Int:=zM (s.2.1.map vR)
theorem zIL {s:zb} {i:Int} {k:Nat} {y:zj} (hi:0 ≤ i ∧ i < (s.2.1.length:Int)) (hk:k < (ix zf s.2.1 i).2.2.1.length):zfz (zbi s i (List.set (ix zf s.2.1 i).2.2.1 k y)) = zfz s - z9 ((ix zf s.2.1 i).2.2.1.getD k zO) + z9 y:=by
  have h1:=zpQ vR zf s.2.1 i.toNat (u2 (ix zf s.2.1 i) (List.set (ix zf s.2.1 i).2.2.1 k y)) (by omega)
  have h2:=zpQ z9 zO (ix zf s.2.1 i).2.2.1 k y hk
  have e1:vR (u2 (ix zf s.2.1 i) (List.set (ix zf s.2.1 i).2.2.1 k y)) = zM ((List.set (ix zf s.2.1 i).2.2.1 k y).map z9):=rfl
  have e2:vR (s.2.1.getD i.toNat zf) = zM ((ix zf s.2.1 i).2.2.1.map z9):=rfl
  rw [e1,e2,h2] at h1
  unfold zfz
  refine h1.trans ?_
  omega
end Go.Proofs.YtejbgeokcpillaaGreatDoor
end
section
namespace Go.Proofs.YtejbgeokcpillaaGreatDoor
open Go.Ev
theorem zH4 {β:Type} {d:β} {n i:Nat} (h:i < n) (o:List β):(o ++ [d]) ++ List.replicate (n - (i + 1)) d = o ++ List.replicate (n - i) d:=by
  rw [List.append_assoc,show n - i = (n - (i + 1)) + 1 by omega,List.replicate_succ]; rfl
theorem zH5 {σ β ρ:Type} {B:(σ→Option ρ)→σ→Option ρ} {n:Nat} (hn:n ≤ Go.maxLen) (d:β) (st:Int→List β→σ) (fin:List β→Option ρ) (o0:List β)
    (hin:∀ k (i:Nat) o,i < n→o.length = o0.length + i→B k (st i o) = k (st (wI (i + 1)) (o ++ [d]))) (hout:∀ k o,B k (st n o) = fin o):zm B K0 (st 0 o0) = fin (o0 ++ List.replicate n d):=by
  have:=vT (B:=B) hn st (fun i o=>fin (o ++ List.replicate (n - i) d)) (fun i o=>o.length = o0.length + i) (fun k i o hi hI h=>?_) (fun k o hI=>?_) o0 rfl
  · simpa using this
  · rw [hin k i o hi hI,h _ (by rw [List.length_append,hI]; simp; omega),zH4 hi]
  · rw [hout]; simp
abbrev zJo:ByteArray:=ByteArray.mk #[112,108,97,122,97]
def zaj (r:ze) (q:zbA):zg:=(List.replicate q.1.toNat zsT,List.replicate q.2.1.toNat vC,List.replicate q.2.2.1.toNat zO,List.replicate q.2.2.2.1.toNat zAG,List.replicate q.2.2.2.2.1.toNat qB,List.replicate r.2.2.1.length [0,0,0,0],List.replicate r.2.2.1.length zI2,[0,0,0,0],[0,0,0,0],())
def zyQ (x:zg):zg:=(x.1.set 0 (true,zJo,()),x.2)
def zne (r:ze) (g:zL):List Int:=(List.replicate r.2.2.1.length 0).set g.2.1.toNat 2
def zH6 (r:ze):List zg:=(r.2.2.2.2.1.map (zaj r)).set 0 (zyQ ((r.2.2.2.2.1.map (zaj r)).getD 0 zf))
def zeK (r:ze):zb:=(0,zH6 r,r.2.2.2.1.map (zne r),List.replicate r.2.2.2.2.2.1.toNat qm,[],List.replicate r.2.1.length (-1),())
theorem zDb {q:zbA} (h:zgV q = true):(0 ≤ q.1 ∧ q.1 ≤ 12) ∧ (0 ≤ q.2.1 ∧ q.2.1 ≤ 12) ∧ (0 ≤ q.2.2.1 ∧ q.2.2.1 ≤ 12) ∧ (0 ≤ q.2.2.2.1 ∧ q.2.2.2.1 ≤ 12) ∧ (0 ≤ q.2.2.2.2.1 ∧ q.2.2.2.2.1 ≤ 12):=by
  simp only [zgV,qe,Bool.and_eq_true,decide_eq_true_eq] at h
  omega
theorem zAx {r:ze} {q:zbA} (hq:zgV q = true) (ha:r.2.2.1.length ≤ 8):zf4 (r,q,()) = some (zaj r q,()):=by
  simp only [zf4]
  have h:=zDb hq
  have hl:((lim:Nat):Int) = 4294967296:=rfl
  rw [hl]
  have t:∀ {p:Prop} [Decidable p],p→decide p = true:=fun h=>decide_eq_true h
  rw [t (p:=0 ≤ q.1) (by omega),t (p:=q.1 ≤ q.1) (by omega),t (p:=q.1 ≤ 4294967296) (by omega),
    t (p:=0 ≤ q.2.1) (by omega),t (p:=q.2.1 ≤ q.2.1) (by omega),t (p:=q.2.1 ≤ 4294967296) (by omega),
    t (p:=0 ≤ q.2.2.1) (by omega),t (p:=q.2.2.1 ≤ q.2.2.1) (by omega),t (p:=q.2.2.1 ≤ 4294967296) (by omega),
    t (p:=0 ≤ q.2.2.2.1) (by omega),t (p:=q.2.2.2.1 ≤ q.2.2.2.1) (by omega),t (p:=q.2.2.2.1 ≤ 4294967296) (by omega),
    t (p:=0 ≤ q.2.2.2.2.1) (by omega),t (p:=q.2.2.2.2.1 ≤ q.2.2.2.2.1) (by omega),t (p:=q.2.2.2.2.1 ≤ 4294967296) (by omega),
    t (p:=(r.2.2.1.length:Int) ≤ (r.2.2.1.length:Int)) (by omega),t (p:=(r.2.2.1.length:Int) ≤ 4294967296) (by omega),Int.toNat_natCast]
  rfl
theorem zxA {r:ze} (hb:qx r = true):∀ q ∈ r.2.2.2.2.1,zgV q = true:=by
  simp only [qx,ziS,Bool.and_eq_true] at hb
  exact zvn _ _ hb.2.2.2.2.1.2.2.2
theorem zJp {r:ze} (hb:qx r = true):1 ≤ (r.2.2.2.2.1.getD 0 jU).1:=by
  simp only [qx,ziS,Bool.and_eq_true,decide_eq_true_eq] at hb
  exact hb.2.2.2.2.1.2.2.1
theorem zFZ {r:ze} (hr:qo r) (hb:qx r = true):zkD (r,()) = some (r.2.2.2.1.map (zne r),()):=by
  have ok:=vx hb
  have ha:=ok.accounts
  have hg:=ok.guilds
  have hl:((lim:Nat):Int) = 4294967296:=rfl
  simp only [zkD,zkC,zgd r hr,Option.bind_some,hb,cond_true]
  exact zau (B:=zeE) (l:=r.2.2.2.1) (α:=List (List Int)) qO (fun i o=>o.length = i) (fun i o=>(r.2.2.2.1,(r.2.2.2.1.length:Int),i,r,o,o.length)) (fun rest o=>some (o ++ rest.map (zne r),())) (by unfold Go.maxLen; omega) (fun k i x rest o hi hI hx hm hr' hk=>by
    have hh:=ok.heads i hi
    rw [show r.2.2.2.1.getD i qO = x from hx] at hh
    have hx':List.getD r.2.2.2.1 i (zd yK) = x:=hx
    simp only [zeE]
    rw [ltT hi,zG hi,qq,hx,hl,decide_eq_true (Int.le_refl _),decide_eq_true (p:=(r.2.2.1.length:Int) ≤ 4294967296) (by omega),Int.toNat_natCast]
    simp only [cond_true]
    rw [ixR (by rw [List.length_replicate]; exact hh),zfV (by simp; omega)]
    simp only [cond_true,decide_true]
    have:=hk (o ++ [zne r x]) (by rw [List.length_append,hI]; rfl)
    rw [List.length_append] at this
    refine Eq.trans this ?_
    simp) (fun k o hI=>by
    simp only [zeE]
    rw [ltF]
    simp) [] rfl
theorem zJq {r:ze} (ok:zgW r) (o:List zg) (l:List (List Int)) (w:List zp):zdQ K0 ((r.2.1.length:Int),0,0,0,[],0,[],0,[],[],[],o,o.length,l,l.length,w,[],[]) = some ((0,o,l,w,[],List.replicate r.2.1.length (-1),()),0,()):=by
  have hl:=ok.lines
  have:=zH5 (B:=zdP) (n:=r.2.1.length) (by unfold Go.maxLen; omega) (-1:Int) (fun i (e:List Int)=>((r.2.1.length:Int),i,0,0,[],0,[],0,[],[],[],o,o.length,l,l.length,w,[],e)) (fun e=>some ((0,o,l,w,[],e,()),0,())) [] (fun k i e hi hI=>by
    simp only [zdP]
    rw [ltT hi,zcg,zfV (by simp at hI ⊢; omega)]
    rfl) (fun k e=>by
    simp only [zdP]
    rw [ltF]
    simp only [decide_true]
    rfl)
  exact this
theorem zHk (q:zg):(q.1,q.2.1,q.2.2.1,q.2.2.2.1,q.2.2.2.2.1,q.2.2.2.2.2.1,q.2.2.2.2.2.2.1,q.2.2.2.2.2.2.2.1,q.2.2.2.2.2.2.2.2.1,()) = q:=rfl
theorem zEe {r:ze} (hr:qo r):zfT (r,()) = some (bif qx r then (zeK r,0,()) else ((0,[],[],[],[],[],()),1,())):=by
  simp only [zfT,zjd,zgd r hr,Option.bind_some]
  cases hb:qx r with
  | false=>rfl
  | true =>
    have ok:=vx hb
    have ha:=ok.accounts
    have hl:=ok.labels
    have hq:=ok.quotas
    have h24:0 ≤ r.2.2.2.2.2.1 ∧ r.2.2.2.2.2.1 ≤ 24:=by
      simp only [qx,zsW,qe,Bool.and_eq_true,decide_eq_true_eq] at hb
      omega
    have hlim:((lim:Nat):Int) = 4294967296:=rfl
    rw [zFZ hr hb]
    simp only [Option.bind_some,cond_true]
    rw [hlim,decide_eq_true h24.1,decide_eq_true (Int.le_refl _),decide_eq_true (p:=r.2.2.2.2.2.1 ≤ 4294967296) (by omega)]
    simp only [cond_true]
    have hall:=zxA hb
    have hloop:=zau (B:=fun k0=>zbq (zdQ K0) k0) (l:=r.2.2.2.2.1) (α:=List zg) jU (fun i o=>o.length = i)
      (fun i o=>(r.2.2.2.2.1,(r.2.2.2.2.1.length:Int),i,r,0,0,[],0,[],0,[],[],[],o,o.length,r.2.2.2.1.map (zne r),(r.2.2.2.1.map (zne r)).length,List.replicate r.2.2.2.2.2.1.toNat qm,[],[]))
      (fun rest o=>bif decide (0 < (o ++ rest.map (zaj r)).length) && decide (0 < ((o ++ rest.map (zaj r)).getD 0 zf).1.length) then some ((0,(o ++ rest.map (zaj r)).set 0 (zyQ ((o ++ rest.map (zaj r)).getD 0 zf)),r.2.2.2.1.map (zne r),List.replicate r.2.2.2.2.2.1.toNat qm,[],List.replicate r.2.1.length (-1),()),0,()) else none)
      (by unfold Go.maxLen; omega) (fun k i x rest o hi hI hx hm hr' hk=>by
        have hx':List.getD r.2.2.2.2.1 i (zd zcI) = x:=hx
        simp only [zbq]
        rw [ltT hi,zG hi,qq,hx,zAx (hall x hm) ha.2]
        simp only [Option.bind_some,cond_true]
        rw [zHk,zfV (by simp; omega)]
        simp only [cond_true,decide_true]
        have:=hk (o ++ [zaj r x]) (by rw [List.length_append,hI]; rfl)
        rw [List.length_append] at this
        refine Eq.trans this ?_
        rw [List.append_assoc]; rfl) (fun k o hI=>by
        have e0:o ++ List.map (zaj r) [] = o:=by simp
        rw [e0]
        simp only [zbq]
        rw [ltF,cond_false]
        by_cases h0:0 < o.length
        · have e1:decide (0 < ((List.length o:Nat):Int)) = true:=decide_eq_true (by omega)
          have e2:decide (o.length ≤ Int.toNat 0) = false:=decide_eq_false (by show ¬ o.length ≤ 0; omega)
          rw [e1,e2,decide_eq_true h0,zHP]
          simp only [cond_true,cond_false,Bool.true_and]
          by_cases h1:0 < (o.getD 0 zf).1.length
          · have e3:decide (0 < ((List.length (o.getD 0 zf).1:Nat):Int)) = true:=decide_eq_true (by omega)
            rw [e3,decide_eq_true h1]
            simp only [cond_true]
            have:=zJq (r:=r) ok (o.set 0 (zyQ (o.getD 0 zf))) (r.2.2.2.1.map (zne r)) (List.replicate r.2.2.2.2.2.1.toNat qm)
            rw [List.length_set] at this
            exact this
          · have e3:decide (0 < ((List.length (o.getD 0 zf).1:Nat):Int)) = false:=decide_eq_false (by omega)
            rw [e3,decide_eq_false h1]; rfl
        · have e1:decide (0 < ((List.length o:Nat):Int)) = false:=decide_eq_false (by omega)
          rw [e1,decide_eq_false h0]; rfl) [] rfl
    refine Eq.trans hloop ?_
    have hrm:=zJp hb
    have hpos:0 < r.2.2.2.2.1.length:=by omega
    have hget:(r.2.2.2.2.1.map (zaj r)).getD 0 zf = zaj r (r.2.2.2.2.1.getD 0 jU):=by
      cases hl:r.2.2.2.2.1 with
      | nil=>rw [hl] at hpos; simp at hpos
      | cons q l=>rfl
    rw [List.nil_append,decide_eq_true (by rw [List.length_map]; exact hpos),decide_eq_true (p:=0 < ((r.2.2.2.2.1.map (zaj r)).getD 0 zf).1.length) (by rw [hget]; show 0 < (List.replicate _ zsT).length; rw [List.length_replicate]; omega)]
    rfl
end Go.Proofs.YtejbgeokcpillaaGreatDoor
end
section
namespace Go.Proofs.YtejbgeokcpillaaGreatDoor
open Go.Ev
theorem zEf {a b:zg} (h:zxt a):vU (a,b,()) = some (zfd a b,()):=by
  rw [zR]
  simp only [vU]
  rw [zCg h.rooms,zCh h.exits,zCi h.items,zCj h.mails,zAf h.trades,zFy h.purses,zDY h.places]
  simp only [Option.bind_some,zfd]
  grind
theorem ztz {a b:List zg} (hl:a.length ≤ Go.maxLen) (h:∀ x ∈ a,zxt x):zdy (a,b,some vU,()) = some (eqW zfd a b,()):=zzn (p:=zfd) fun hab=>by
  have:=zCT (B:=j4) zf zfd (fun i=>(b,some vU,a,(a.length:Int),i)) hl hab (fun k i hi=>by
    simp only [j4]
    rw [ltT hi,zG hi,zG (by omega),qq,qq]
    simp only [cond_true,Option.bind_some]
    rw [zEf (h _ (z8 hi))]; rfl) (fin:=true) (fun k=>by simp only [j4]; rw [ltF]; rfl)
  rw [Bool.and_true] at this; exact this
theorem zvu {a b:List (List Int)} (hl:a.length ≤ Go.maxLen) (h:∀ x ∈ a,x.length ≤ Go.maxLen):zd5 (a,b,some zaF,()) = some (eqW (eqL tI) a b,()):=zzn (p:=eqL tI) fun hab=>by
  have:=zCT (B:=vq) ([]:List Int) (eqL tI) (fun i=>(b,some zaF,a,(a.length:Int),i)) hl hab (fun k i hi=>by
    simp only [vq]
    rw [ltT hi,zG hi,zG (by omega),Int.toNat_natCast]
    simp only [cond_true,Option.bind_some]
    rw [zt4 (h _ (z8 hi))]; rfl) (fin:=true) (fun k=>by simp only [vq]; rw [ltF]; rfl)
  rw [Bool.and_true] at this; exact this
theorem zDc {a b:zb} (h:zJf a):zhG (a,b,()) = some (zxu a b,()):=by
  rw [zR]
  simp only [zhG]
  rw [ztz h.shelves h.shelf,zvu h.ranks h.rank,zAd h.orders,zAe h.entries,zt4 h.seats]
  simp only [Option.bind_some,zxu]
  generalize eqW zfd a.2.1 b.2.1 = c1
  generalize eqW (eqL tI) a.2.2.1 b.2.2.1 = c2
  generalize eqL zo a.2.2.2.1 b.2.2.2.1 = c3
  generalize eqL zv a.2.2.2.2.1 b.2.2.2.2.1 = c4
  generalize eqL tI a.2.2.2.2.2.1 b.2.2.2.2.2.1 = c5
  generalize (a.1 == b.1) = c6
  grind
def zkJ {α:Type} (d:α) (p:Nat→Bool) (now fresh:List α) (i:Nat):α:=bif p i then now.getD i d else fresh.getD i d
def qz {α:Type} (d:α) (p:Nat→Bool) (now fresh:List α):List α:=(List.range now.length).map (zkJ d p now fresh)
theorem zpR {α:Type} {f:Nat→α} {i:Nat} {o:List α} (h:o = (List.range i).map f):o ++ [f i] = (List.range (i + 1)).map f:=by
  rw [List.range_succ,List.map_append,h]; rfl
theorem zyR {now fresh:List zg} {g:Int × Unit→Option (Bool × Unit)} {p:Nat→Bool} (hl:now.length ≤ 1000) (hf:now.length ≤ fresh.length) (hg:∀ i:Nat,i < now.length→g ((i:Int),()) = some (p i,())):zd3 (now,fresh,some g,()) = some (qz zf p now fresh,()) :=
  vT (α:=List zg) (B:=vo) (len:=now.length) (by unfold Go.maxLen; omega) (fun i o=>(now,fresh,some g,(now.length:Int),i,o,0)) (fun _ _=>some (qz zf p now fresh,())) (fun i o=>o = (List.range i).map (zkJ zf p now fresh)) (fun k i o hi hI hk=>by
    have hx:=zpR hI
    have hlen:o.length = i:=by rw [hI]; simp
    have hk':=hk _ hx
    simp only [vo]
    rw [ltT hi]
    simp only [cond_true,Option.bind_some]
    rw [hg i hi]
    simp only [Option.bind_some]
    unfold zkJ at hk'
    cases hp:p i with
    | true =>
      rw [hp] at hk'
      simp only [cond_true] at hk' ⊢
      rw [zG hi,zcg,zfV (by simp; omega),qq]
      exact hk'
    | false =>
      rw [hp] at hk'
      simp only [cond_false] at hk' ⊢
      rw [zG (by omega),zcg,zfV (by simp; omega),qq]
      exact hk') (fun k o hI=>by
    simp only [vo]
    rw [ltF]
    simp only [cond_false]
    rw [hI]; rfl) [] rfl
theorem zAy {now fresh:List (List Int)} {g:Int × Unit→Option (Bool × Unit)} {p:Nat→Bool} (hl:now.length ≤ 1000) (hf:now.length ≤ fresh.length) (hg:∀ i:Nat,i < now.length→g ((i:Int),()) = some (p i,())):zew (now,fresh,some g,()) = some (qz [] p now fresh,()) :=
  vT (α:=List (List Int)) (B:=vI) (len:=now.length) (by unfold Go.maxLen; omega) (fun i o=>(now,fresh,some g,(now.length:Int),i,o,0)) (fun _ _=>some (qz [] p now fresh,())) (fun i o=>o = (List.range i).map (zkJ [] p now fresh)) (fun k i o hi hI hk=>by
    have hx:=zpR hI
    have hlen:o.length = i:=by rw [hI]; simp
    have hk':=hk _ hx
    simp only [vI]
    rw [ltT hi]
    simp only [cond_true,Option.bind_some]
    rw [hg i hi]
    simp only [Option.bind_some]
    unfold zkJ at hk'
    cases hp:p i with
    | true =>
      rw [hp] at hk'
      simp only [cond_true] at hk' ⊢
      rw [zG hi,zcg,zfV (by simp; omega),Int.toNat_natCast]
      exact hk'
    | false =>
      rw [hp] at hk'
      simp only [cond_false] at hk' ⊢
      rw [zG (by omega),zcg,zfV (by simp; omega),Int.toNat_natCast]
      exact hk') (fun k o hI=>by
    simp only [vI]
    rw [ltF]
    simp only [cond_false]
    rw [hI]; rfl) [] rfl
theorem zDd {now fresh:List Int} {g:Int × Unit→Option (Bool × Unit)} {p:Nat→Bool} (hl:now.length ≤ 1000) (hf:now.length ≤ fresh.length) (hg:∀ i:Nat,i < now.length→g ((i:Int),()) = some (p i,())):zfo (now,fresh,some g,()) = some (qz 0 p now fresh,()) :=
  vT (α:=List Int) (B:=yk) (len:=now.length) (by unfold Go.maxLen; omega) (fun i o=>(now,fresh,some g,(now.length:Int),i,o)) (fun _ _=>some (qz 0 p now fresh,())) (fun i o=>o = (List.range i).map (zkJ 0 p now fresh)) (fun k i o hi hI hk=>by
    have hx:=zpR hI
    have hlen:o.length = i:=by rw [hI]; simp
    have hk':=hk _ hx
    simp only [yk]
    rw [ltT hi]
    simp only [cond_true,Option.bind_some]
    rw [hg i hi]
    simp only [Option.bind_some]
    unfold zkJ at hk'
    cases hp:p i with
    | true =>
      rw [hp] at hk'
      simp only [cond_true] at hk' ⊢
      rw [zG hi,zcg,zfV (by simp; omega),qq]
      exact hk'
    | false =>
      rw [hp] at hk'
      simp only [cond_false] at hk' ⊢
      rw [zG (by omega),zcg,zfV (by simp; omega),qq]
      exact hk') (fun k o hI=>by
    simp only [yk]
    rw [ltF]
    simp only [cond_false]
    rw [hI]; rfl) [] rfl
theorem zF0 {α:Type} {d:α} {p:Nat→Bool} {now fresh:List α} {i:Nat} {x:α} (h:p i = false):qz d p (List.set now i x) fresh = qz d p now fresh:=by
  unfold qz
  rw [List.length_set]
  refine List.map_congr_left fun j hj=>?_
  unfold zkJ
  by_cases e:i = j
  · subst e; rw [h]; rfl
  · rw [getD_set_ne e]
theorem zfe {α:Type} {d:α} {p:Nat→Bool} {now fresh:List α}:(qz d p now fresh).length = now.length:=by
  unfold qz; simp
end Go.Proofs.YtejbgeokcpillaaGreatDoor
end
section
namespace Go.Proofs.YtejbgeokcpillaaGreatDoor
open Go.Ev
theorem zH7 {b:Int} (h:vO b = true):zdR (zpC b):=by
  simp only [vO,Bool.and_eq_true,decide_eq_true_eq] at h
  have h1:b.toNat < 64:=by omega
  have h2:2 ^ b.toNat < 2 ^ 64:=Nat.pow_lt_pow_right (by omega) h1
  have h3:(2:Nat) ^ 64 = 18446744073709551616:=by decide
  show 0 ≤ ((2 ^ b.toNat:Nat):Int) ∧ ((2 ^ b.toNat:Nat):Int) < ((18446744073709551616:Nat):Int)
  rw [h3] at h2
  exact ⟨Int.natCast_nonneg _,Int.ofNat_lt.2 h2⟩
def zpS (b:Int):zD:=bif vO b then zpC b else (0,0,())
theorem zF1 (b:Int):zdR (zpS b):=by
  unfold zpS
  cases h:vO b with
  | true=>exact zH7 h
  | false=>exact ⟨Int.le_refl 0,show (0:Int) < U64 by unfold U64; decide⟩
theorem zDe {r:ze} {a:zD} (hr:qo r) (ha:zdR a) {i:Nat} (hi:i < r.1.length):zbm ((i:Int),some r,some a,()) = some (zfy (r.1.getD i qN) a,()):=by
  rw [zR]
  simp only [zbm,Option.bind_some]
  rw [zG hi,qq,zje (hr.labels _ (z8 hi)) ha]
  rfl
theorem zH8 {r:ze} {a:zD} (ha:zdR a) {i:Nat} (hi:i < r.2.2.2.1.length):zf7 ((i:Int),some r,some a,()) = some (zfy (zpS (r.2.2.2.1.getD i qO).1) a,()):=by
  rw [zR]
  simp only [zf7,Option.bind_some]
  rw [zG hi,qq,zsz]
  simp only [Option.bind_some]
  have e:(bif vO (r.2.2.2.1.getD i qO).1 then (zpC (r.2.2.2.1.getD i qO).1,(0:Int),()) else ((0,0,()),1,())).1 = zpS (r.2.2.2.1.getD i qO).1:=by
    unfold zpS
    cases vO (r.2.2.2.1.getD i qO).1 <;> rfl
  rw [e,zje (zF1 _) ha]
  rfl
def zl4 (r:ze) (i:Nat):Int:=r.2.1.getD i 0
theorem zIM {r:ze} (hb:qx r = true) {i:Nat} (hi:i < r.2.1.length):0 ≤ zl4 r i ∧ zl4 r i < (r.1.length:Int):=by
  simp only [qx,zlV,Bool.and_eq_true,decide_eq_true_eq,List.all_eq_true] at hb
  exact hb.2.1.2 _ (z8 (d:=(0:Int)) hi)
theorem zH9 {r:ze} {a:zD} (hr:qo r) (hb:qx r = true) (ha:zdR a) {i:Nat} (hi:i < r.2.1.length):zf5 ((i:Int),some (some fun z=>zbm (z.1,some r,some a,())),some r,()) = some (zfy (r.1.getD (zl4 r i).toNat qN) a,()):=by
  have hl:=zIM hb hi
  rw [zR]
  simp only [zf5,Option.bind_some]
  rw [zG hi,qq]
  have e:r.2.1.getD i 0 = (((zl4 r i).toNat:Nat):Int):=by
    show zl4 r i = _
    omega
  rw [e,zDe hr ha (by omega)]
  rfl
def zjg (r:ze) (a:zD) (s:zb):zb:=(s.1,qz zf (fun i=>zfy (r.1.getD i qN) a) s.2.1 (zeK r).2.1,qz [] (fun i=>zfy (zpS (r.2.2.2.1.getD i qO).1) a) s.2.2.1 (zeK r).2.2.1,s.2.2.2.1,s.2.2.2.2.1,qz 0 (fun i=>zfy (r.1.getD (zl4 r i).toNat qN) a) s.2.2.2.2.2.1 (zeK r).2.2.2.2.2.1,())
theorem zkK {α:Type} {d:α} {p:Nat→Bool} {now fresh:List α} (hf:now.length ≤ fresh.length) {x:α} (h:x ∈ qz d p now fresh):x ∈ now ∨ x ∈ fresh:=by
  unfold qz at h
  obtain ⟨i,hi,rfl⟩:=List.mem_map.1 h
  have hi':=List.mem_range.1 hi
  unfold zkJ
  cases p i with
  | true=>exact .inl (z8 hi')
  | false=>exact .inr (z8 (by omega))
theorem zDf {r:ze} (hb:qx r = true):zsB (zeK r):=by
  have ok:=vx hb
  have ha:=ok.accounts
  have hg:=ok.guilds
  have hl:=ok.lines
  have ho:=ok.labels
  have hq:=ok.quotas
  have h24:0 ≤ r.2.2.2.2.2.1 ∧ r.2.2.2.2.2.1 ≤ 24:=by
    simp only [qx,zsW,qe,Bool.and_eq_true,decide_eq_true_eq] at hb
    omega
  have hsh:∀ q ∈ r.2.2.2.2.1,zxv (zaj r q):=fun q hq=>by
    have h:=zDb (zxA hb q hq)
    refine ⟨?_,?_,?_,?_,?_,?_,?_⟩ <;> (show (List.replicate _ _).length ≤ _; rw [List.length_replicate]; omega)
  refine ⟨by show (List.set _ _ _).length ≤ _; rw [List.length_set,List.length_map]; omega,by show (List.map _ _).length ≤ _; rw [List.length_map]; omega,by show (List.replicate _ _).length ≤ _; rw [List.length_replicate]; omega,Nat.zero_le _,by show (List.replicate _ _).length ≤ _; rw [List.length_replicate]; omega,fun x hx=>?_,fun l hl=>?_⟩
  · rcases List.mem_or_eq_of_mem_set hx with hx | rfl
    · obtain ⟨q,hq,rfl⟩:=List.mem_map.1 hx
      exact hsh q hq
    · have h0:zxv ((r.2.2.2.2.1.map (zaj r)).getD 0 zf):=by
        have hm:(r.2.2.2.2.1.map (zaj r)).getD 0 zf ∈ r.2.2.2.2.1.map (zaj r):=z8 (by rw [List.length_map]; omega)
        obtain ⟨q,hq,e⟩:=List.mem_map.1 hm
        rw [← e]; exact hsh q hq
      exact ⟨by show (List.set _ _ _).length ≤ _; rw [List.length_set]; exact h0.rooms,h0.exits,h0.items,h0.mails,h0.trades,h0.purses,h0.places⟩
  · obtain ⟨g,hg,rfl⟩:=List.mem_map.1 hl
    show (List.set _ _ _).length ≤ _
    rw [List.length_set,List.length_replicate]; omega
theorem zub {r:ze} {s:zb} {a:zD} (hr:qo r) (h:qf r s = true) (ha:zdR a) (la:ze8 a = true):zfU (r,s,a,()) = some (zjg r a s,0,()):=by
  obtain ⟨hb,hz,hp⟩:=j7 h
  have ok:=vx hb
  have sz:=zcb hb hz
  have hf:=zs3 h
  have hn:=zDf hb
  have h1:=sz.shelves
  have h2:s.2.2.1.length = r.2.2.2.1.length:=by
    have hh:zh3 r s.2.2.1 = true:=by simp only [zdV,Bool.and_eq_true] at hp; exact hp.1
    exact (zvq hh).1
  have h3:=sz.people
  have hlab:=ok.labels
  have hgui:=ok.guilds
  have hlin:=ok.lines
  have hq:=ok.quotas
  have f1:(zeK r).2.1.length = r.1.length:=by show (List.set _ _ _).length = _; rw [List.length_set,List.length_map]; exact hq
  have f2:(zeK r).2.2.1.length = r.2.2.2.1.length:=List.length_map ..
  have f3:(zeK r).2.2.2.2.2.1.length = r.2.1.length:=List.length_replicate ..
  have hfit:zi5 (r,s,()) = some (true,()):=by
    simp only [zi5]
    rw [h1,h2,h3]
    simp
  have hv:zsB (zjg r a s):=by
    refine ⟨?_,?_,hf.orders,hf.entries,?_,fun x hx=>?_,fun l hl=>?_⟩
    · show (qz _ _ _ _).length ≤ _; rw [zfe]; exact hf.shelves
    · show (qz _ _ _ _).length ≤ _; rw [zfe]; exact hf.ranks
    · show (qz _ _ _ _).length ≤ _; rw [zfe]; exact hf.seats
    · rcases zkK (by omega) hx with hx | hx
      · exact hf.shelf x hx
      · exact hn.shelf x hx
    · rcases zkK (by omega) hl with hl | hl
      · exact hf.rank l hl
      · exact hn.rank l hl
  simp only [zfU]
  refine (bnd (zEe hr)).trans ?_
  rw [hb]
  refine (cF rfl).trans ?_
  refine (bnd (zj3 a)).trans ?_
  refine (cT la).trans ?_
  refine (bnd hfit).trans ?_
  refine (cT rfl).trans ?_
  refine (bnd (zyR (by omega) (by show s.2.1.length ≤ (zeK r).2.1.length; omega) fun i hi=>zDe hr ha (by omega))).trans ?_
  refine (bnd (zAy (by omega) (by show s.2.2.1.length ≤ (zeK r).2.2.1.length; omega) fun i hi=>zH8 ha (by omega))).trans ?_
  refine (bnd (zDd (by omega) (by show s.2.2.2.2.2.1.length ≤ (zeK r).2.2.2.2.2.1.length; omega) fun i hi=>zH9 hr hb ha (by omega))).trans ?_
  refine (bnd (zge hv)).trans ?_
  rfl
theorem zEg {r:ze} {s t:zb} {a:zD} (hr:qo r) (h:qf r s = true) (h':qf r t = true) (ha:zdR a) (la:ze8 a = true) (hf:zsB (zjg r a s)):zaA (r,s,t,a,()) = some (zxu (zjg r a s) (zjg r a t),()):=by
  rw [zR]
  simp only [zaA]
  refine (bnd (zub hr h ha la)).trans ?_
  refine (bnd (zub hr h' ha la)).trans ?_
  refine (cT rfl).trans ?_
  refine (cT rfl).trans ?_
  refine (bnd (zDc (zHb hf))).trans ?_
  rfl
end Go.Proofs.YtejbgeokcpillaaGreatDoor
end
section
namespace Go.Proofs.YtejbgeokcpillaaGreatDoor
open Go.Ev
theorem zJg {s:zb} (hs:qT s) {i:Int} {h:zg} (hh:zkT h):qT (upd s i h):=by
  refine ⟨fun x hx=>?_,hs.orders,hs.entries⟩
  rcases List.mem_or_eq_of_mem_set hx with hx | rfl
  · exact hs.shelves x hx
  · exact hh
theorem zIa {r:ze} {s:zb} {a:zD} {i:Int} {h:zg} (hi:zfy (r.1.getD i.toNat qN) a = false):zjg r a (upd s i h) = zjg r a s:=by
  have e:qz zf (fun i=>zfy (r.1.getD i qN) a) (List.set s.2.1 i.toNat h) (zeK r).2.1 = qz zf (fun i=>zfy (r.1.getD i qN) a) s.2.1 (zeK r).2.1:=zF0 hi
  exact congrArg (fun l=>(s.1,l,qz [] (fun i=>zfy (zpS (r.2.2.2.1.getD i qO).1) a) s.2.2.1 (zeK r).2.2.1,s.2.2.2.1,s.2.2.2.2.1,qz 0 (fun i=>zfy (r.1.getD (zl4 r i).toNat qN) a) s.2.2.2.2.2.1 (zeK r).2.2.2.2.2.1,())) e
structure zpT (r:ze) (s:zb) (me:pMe) (jA:Int) (t:zb):Prop where
  right:qf r t = true
  inn:qT t
  cnt:zfz t = zfz s + jA
  view:∀ a,zfy (r.1.getD me.2.1.toNat qN) a = false→zjg r a t = zjg r a s
theorem zvv {r:ze} {s:zb} {me:pMe} (x:Ctx r s me) (hs:qT s) {k:Nat} {y:zj} (hk:k < (zA s me).length) (hold:(((zA s me).getD k zO).2.2.1:Int) ≠ 3) (hnew:(y.2.2.1:Int) ≠ 3) (h1:qt y = true) (h2:yT r s me.2.1 y = true) (h3:zfb r y = true):zpT r s me (z9 y - z9 ((zA s me).getD k zO)) (zbi s me.2.1 (List.set (zA s me) k y)):=by
  have hi:=x.hi
  have e:(me.2.1.toNat:Int) = me.2.1:=by omega
  have a:=hs.shelves _ (zsC hi)
  refine ⟨zEd x.rs hi (zHj (zHg x.rs hi) hk hold hnew h1 (by rw [e]; exact h2) h3),zJg hs ⟨a.trades,a.purses,a.made,a.spent⟩,?_,fun l hl=>zIa hl⟩
  have h9:zfz (zbi s me.2.1 (List.set (zA s me) k y)) = zfz s - z9 ((zA s me).getD k zO) + z9 y:=zIL hi hk
  omega
theorem zEE {x:zj} {f:qF} (h:eqI qi (ofV x) f = true):(x.2.2.1:Int) = f.1:=by
  rw [zxx] at h
  simp only [Bool.and_eq_true,beq_iff_eq] at h
  exact h.1
theorem zEF {l:List zj} {i:Int} (h:zh9 l i = true):(l.getD i.toNat zO).1 = true:=by
  simp only [zh9,Bool.and_eq_true] at h; exact h.2
theorem zJr {x:zj} {g:qF} (h:qt x = true) (hu:x.1 = true) (hg:hOk g = true):qt (toV x g) = true:=by
  unfold qt at h
  rw [hu,cond_true] at h
  simp only [Bool.and_eq_true] at h
  show (bif x.1 then ze9 x.2.1 && zgC g.1 g.2.1 g.2.2.1 else _) = true
  rw [hu,cond_true,h.1]; exact hg
theorem zsD {r:ze} {s:zb} {me:pMe} (x:Ctx r s me) (hs:qT s) {i:Int} {f g:qF} (h:((va (zA s me) i f g).2.1 != 0) = false) (hf:(f.1:Int) ≠ 3) (hg:(g.1:Int) ≠ 3) (hb:∀ z:zj,yT r s me.2.1 (toV z g) = true) (hw:∀ z:zj,zfb r (toV z g) = true):zpT r s me 0 (zbi s me.2.1 (va (zA s me) i f g).1):=by
  obtain ⟨ha,h1,h2,h3,h4,h5⟩:=zyK h
  rw [h5]
  have hi:=zs4 h3
  have hu:=zEF h3
  have hk:=zEE h4
  have hok:=zyL ha hi
  have hk':(((zA s me).getD i.toNat zO).2.2.1:Int) = f.1:=hk
  have:=zvv x hs (k:=i.toNat) (y:=toV (ix zO (zA s me) i) g) (by omega) (by rw [hk']; exact hf) hg (zJr hok hu h2) (hb _) (hw _)
  have e:z9 (toV (ix zO (zA s me) i) g) - z9 ((zA s me).getD i.toNat zO) = 0:=by
    have e1:z9 (toV (ix zO (zA s me) i) g) = z9 ((zA s me).getD i.toNat zO):=rfl
    omega
  rw [e] at this
  exact this
theorem zF2 {r:ze} {s:zb} {me:pMe} (x:Ctx r s me) (hs:qT s) {i:Int} (h:((zjI (zA s me) i me.2.2.1).2.1 != 0) = false):zpT r s me (-1) (zbi s me.2.1 (zjI (zA s me) i me.2.2.1).1):=by
  unfold zjI at h ⊢
  cases hm:(va (zA s me) i (inH me.2.2.1) (inH me.2.2.1)).2.1 != 0 with
  | true=>rw [hm] at h; exact absurd (show (true = false) from hm.symm.trans h) (by decide)
  | false =>
    obtain ⟨ha,h1,h2,h3,h4,h5⟩:=zyK hm
    have hi:=zs4 h3
    have hu:=zEF h3
    have hk':(((zA s me).getD i.toNat zO).2.2.1:Int) = 1:=zEE h4
    have:=zvv x hs (k:=i.toNat) (y:=zd zl) (by omega) (by rw [hk']; decide) (by decide) (by unfold qt; exact zk1 (τ:=zl) rfl (zd zl)) rfl rfl
    have e:z9 (zd zl) - z9 ((zA s me).getD i.toNat zO) = -1:=by
      have e1:z9 (zd zl) = 0:=rfl
      have e2:z9 ((zA s me).getD i.toNat zO) = 1:=by unfold z9; rw [hu]; rfl
      omega
    rw [e] at this
    exact this
theorem zDg {α:Type} {p:α→Bool} (d:α):∀ (l:List α) (i:Int),0 ≤ i→¬ qQ p l i < 0→p (l.getD (qQ p l i - i).toNat d) = true
  | [],i,h,hn=>absurd (show qQ p [] i < 0 from (by decide:(-1:Int) < 0)) hn
  | x :: l,i,h,hn=>by
    simp only [qQ] at hn ⊢
    cases hp:p x with
    | true =>
      rw [hp] at hn
      simp only [cond_true]
      rw [show (i - i).toNat = 0 by omega]; exact hp
    | false =>
      rw [hp] at hn
      simp only [cond_false] at hn ⊢
      have h1:=zDg (p:=p) d l (i + 1) (by omega) hn
      have h2:=zyJ (p:=p) l (i + 1) (by omega)
      have h3:(qQ p l (i + 1) - i).toNat = (qQ p l (i + 1) - (i + 1)).toNat + 1:=by
        rcases h2 with h2 | h2 <;> omega
      rw [h3]; exact h1
theorem zHl {r:ze} {s:zb} {me:pMe} (x:Ctx r s me) (hs:qT s) {nm:ByteArray} (h:((zeh (zA s me) nm me.2.2.1).2.2.1 != 0) = false):zpT r s me 1 (zbi s me.2.1 (zeh (zA s me) nm me.2.2.1).1):=by
  have hb:=(j7 x.rs).1
  have hn:=zyM hb x.who
  unfold zeh at h ⊢
  rw [x.slots,hn] at h ⊢
  cases hnm:ze9 nm with
  | false=>rw [hnm] at h; cases h
  | true =>
    rw [hnm] at h
    simp only [cond_true] at h ⊢
    unfold zCZ at h ⊢
    by_cases h0:yc (zA s me) < 0
    · rw [decide_eq_true h0] at h; cases h
    · rw [decide_eq_false h0]
      have hi:=zED h0
      have hfree:((zA s me).getD (yc (zA s me)).toNat zO).1 = false:=by
        have:=zDg (p:=fun z:zj=>!z.1) zO (zA s me) 0 (Int.le_refl 0) h0
        have e:(qQ (fun z:zj=>!z.1) (zA s me) 0 - 0).toNat = (yc (zA s me)).toNat:=by unfold yc; omega
        rw [e] at this
        simpa using this
      have hk0:(((zA s me).getD (yc (zA s me)).toNat zO).2.2.1:Int) = 0:=zG6 (zyL x.slots hi) hfree
      have hok:qt (zC4 nm me.2.2.1) = true:=by
        show (ze9 nm && zgC 1 me.2.2.1 (0,0,())) = true
        rw [hnm]
        exact (zpM me.2.2.1).trans hn
      have:=zvv x hs (k:=(yc (zA s me)).toNat) (y:=zC4 nm me.2.2.1) (by omega) (by rw [hk0]; decide) (show (1:Int) ≠ 3 by decide) hok rfl (by
        show ((1:Int) != 1 || vQ r me.2.2.1) = true
        rw [x.who]; rfl)
      have e:z9 (zC4 nm me.2.2.1) - z9 ((zA s me).getD (yc (zA s me)).toNat zO) = 1:=by
        have e1:z9 (zC4 nm me.2.2.1) = 1:=rfl
        have e2:z9 ((zA s me).getD (yc (zA s me)).toNat zO) = 0:=by unfold z9; rw [hfree]; rfl
        omega
      rw [e] at this
      exact this
theorem zDh {r:ze} {w:Int} (hw:vQ r w = true) (z:zj):zfb r (toV z (inH w)) = true:=by
  show ((1:Int) != 1 || vQ r w) = true
  rw [hw]; rfl
theorem zEh {r:ze} {s:zb} {me:pMe} (x:Ctx r s me):zdS r s me.2.1 (za6 s me) = true:=by
  have h:=x.rs
  have hi:=x.hi
  have hp:=x.place x.who
  simp only [qf,Bool.and_eq_true,jl] at h
  have h1:=(h.2.2.2.1 me.2.1.toNat (Nat.zero_le _) (by omega)).1.2
  simp only [zh7,zh6,Bool.and_eq_true] at h1
  have e:(me.2.1.toNat:Int) = me.2.1:=by omega
  have h2:=List.all_eq_true.1 h1.1.2.2 (za6 s me) (z8 (by
    have h3:me.2.2.1.toNat < (ix zf s.2.1 me.2.1).2.2.2.2.2.2.1.length:=by omega
    exact h3))
  rw [e] at h2
  exact h2
def zxB (k:Int):Int:=bif k == 1 then 1 else bif k == 2 then -1 else 0
theorem zIb {r:ze} {s:zb} {me:pMe} (x:Ctx r s me) (hs:qT s) (k i w:Int) (nm:ByteArray):(∃ e:Int,(e != 0) = true ∧ zpO r s me k i w nm = (zvs,0,e,())) ∨ ((zpO r s me k i w nm).2.2.1 = 0 ∧ zpT r s me (zxB k) (zpO r s me k i w nm).1):=by
  unfold zpO zxB
  rw [x.rs,x.im]
  cases h1:k == 1 with
  | true =>
    simp only [Bool.and_true,cond_true]
    unfold zxz
    cases he:(zeh (zA s me) nm me.2.2.1).2.2.1 != 0 with
    | true=>exact .inl ⟨_,he,rfl⟩
    | false=>exact .inr ⟨rfl,zHl x hs he⟩
  | false =>
    simp only [Bool.and_true,cond_true,cond_false]
    have go:∀ (m:Int) (v:List zj × Int × Unit),((v.2.1 != 0) = false→zpT r s me m (zbi s me.2.1 v.1))→(∃ e:Int,(e != 0) = true ∧ zAM (zgg s me v) = (zvs,0,e,())) ∨ ((zAM (zgg s me v)).2.2.1 = 0 ∧ zpT r s me m (zAM (zgg s me v)).1):=fun m v hv=>by
      unfold zgg
      cases he:v.2.1 != 0 with
      | true=>exact .inl ⟨_,he,rfl⟩
      | false=>exact .inr ⟨rfl,hv he⟩
    unfold zH2
    cases h2:k == 2 with
    | true=>exact go _ _ fun he=>zF2 x hs he
    | false =>
      cases h3:k == 3 with
      | true =>
        exact go _ _ fun he=>zsD x hs he (show (1:Int) ≠ 3 by decide) (show (2:Int) ≠ 3 by decide) (fun z=>by
          show ((2:Int) != 2 || zdS r s me.2.1 (za6 s me)) = true
          rw [zEh x]; rfl) fun z=>rfl
      | false =>
        cases h4:k == 4 with
        | true=>exact go _ _ fun he=>zsD x hs he (show (2:Int) ≠ 3 by decide) (show (1:Int) ≠ 3 by decide) (fun z=>rfl) (zDh x.who)
        | false =>
          refine go _ _ fun he=>?_
          show zpT r s me 0 (zbi s me.2.1 (zpN r s me i w).1)
          have he':((zpN r s me i w).2.1 != 0) = false:=he
          unfold zpN at he' ⊢
          cases hw:vQ r w && w != me.2.2.1 with
          | false=>rw [hw] at he'; cases he'
          | true =>
            rw [hw] at he'
            simp only [cond_true] at he' ⊢
            cases hh:zkU (zA s me) i me.2.2.1 with
            | false=>rw [hh] at he'; cases he'
            | true =>
              rw [hh] at he'
              simp only [cond_true] at he' ⊢
              cases hp:eqI zC (zkV s me.2.1 w) (za6 s me) with
              | false=>rw [hp] at he'; cases he'
              | true =>
                rw [hp] at he'
                simp only [cond_true] at he' ⊢
                simp only [Bool.and_eq_true] at hw
                exact zsD x hs he' (show (1:Int) ≠ 3 by decide) (show (1:Int) ≠ 3 by decide) (fun z=>rfl) (zDh hw.1)
theorem zIc (l:List zj):0 ≤ zM (l.map z9) ∧ zM (l.map z9) ≤ (l.length:Int):=by
  induction l with
  | nil=>exact ⟨Int.le_refl 0,Int.le_refl 0⟩
  | cons x l ih =>
    have e:zM ((x :: l).map z9) = z9 x + zM (l.map z9):=rfl
    have h:0 ≤ z9 x ∧ z9 x ≤ 1:=by unfold z9; cases x.1 <;> decide
    rw [e,List.length_cons]
    omega
theorem zuc {l:List zg} (h:∀ x ∈ l,x.2.2.1.length ≤ 12):0 ≤ zM (l.map vR) ∧ zM (l.map vR) ≤ (l.length:Int) * 12:=by
  induction l with
  | nil=>exact ⟨Int.le_refl 0,Int.le_refl 0⟩
  | cons x l ih =>
    have h1:=ih fun y hy=>h y (List.mem_cons_of_mem _ hy)
    have h2:=zIc x.2.2.1
    have h3:=h x List.mem_cons_self
    have e:zM ((x :: l).map vR) = vR x + zM (l.map vR):=rfl
    have e2:vR x = zM (x.2.2.1.map z9):=rfl
    rw [e,e2,List.length_cons]
    omega
theorem zvw {r:ze} {s:zb} (h:qf r s = true):s.2.1.length ≤ 8 ∧ ∀ x ∈ s.2.1,x.2.2.1.length ≤ 12:=by
  obtain ⟨hb,hz,-⟩:=j7 h
  have h1:=(zcb hb hz).shelves
  have h2:=(vx hb).labels
  exact ⟨by omega,fun x hx=>((zcb hb hz).shelf x hx).2.2.1⟩
theorem zHm {r:ze} {s:zb} (h:qf r s = true):qS (s,()) = some (zfz s,()):=by
  obtain ⟨h8,h12⟩:=zvw h
  have hm:1000 ≤ Go.maxLen:=by unfold Go.maxLen; omega
  have := vT (B:=fun k0=>zaE (zeX K0 k0) k0) (α:=Nat) (len:=s.2.1.length) (by omega) (fun i (n:Nat)=>((n:Int),i,s)) (fun i n=>some ((n:Int) + zM ((s.2.1.drop i).map vR),())) (fun i n=>n ≤ i * 12) (fun k i n hi hI hk=>by
    have hx:=h12 _ (z8 (d:=zf) hi)
    have eS:ix zf s.2.1 (i:Int) = s.2.1.getD i zf:=qq
    simp only [zaE]
    rw [ltT hi,yJ zf hi]
    simp only [cond_true]
    have e:zM ((s.2.1.getD i zf :: s.2.1.drop (i + 1)).map vR) = zM ((s.2.1.getD i zf).2.2.1.map z9) + zM ((s.2.1.drop (i + 1)).map vR):=rfl
    rw [e]
    generalize hL:(s.2.1.getD i zf).2.2.1 = L at *
    have inner:=vT (B:=fun k1=>zcU k k1) (α:=Nat) (len:=L.length) (by omega) (fun j (n:Nat)=>((n:Int),(i:Int),j,s)) (fun j n=>some ((n:Int) + (zM ((L.drop j).map z9) + zM ((s.2.1.drop (i + 1)).map vR)),())) (fun j n=>n ≤ i * 12 + j) (fun k1 j n hj hJ hk1=>by
      simp only [zcU]
      rw [zG hi,eS,hL,ltT hj]
      refine (cT rfl).trans ?_
      rw [zG hi,zG hj,Int.toNat_natCast,yJ zO hj]
      have e2:zM ((L.getD j zO :: L.drop (j + 1)).map z9) = z9 (L.getD j zO) + zM ((L.drop (j + 1)).map z9):=rfl
      rw [e2]
      cases hu:(L.getD j zO).1 with
      | true =>
        have e3:z9 (L.getD j zO) = 1:=by unfold z9; rw [hu]; rfl
        have e4:wI ((n:Int) + 1) = ((n + 1:Nat):Int):=by
          rw [show (n:Int) + 1 = ((n + 1:Nat):Int) by omega]
          exact zpg (by omega)
        refine (cT rfl).trans ?_
        rw [e4,e3]
        refine (hk1 (n + 1) (by omega)).trans ?_
        rw [show ((n + 1:Nat):Int) + (zM ((L.drop (j + 1)).map z9) + zM ((s.2.1.drop (i + 1)).map vR)) = (n:Int) + (1 + zM ((L.drop (j + 1)).map z9) + zM ((s.2.1.drop (i + 1)).map vR)) by omega]
      | false =>
        have e3:z9 (L.getD j zO) = 0:=by unfold z9; rw [hu]; rfl
        refine (cF rfl).trans ?_
        rw [e3]
        refine (hk1 n (by omega)).trans ?_
        rw [show (n:Int) + (zM ((L.drop (j + 1)).map z9) + zM ((s.2.1.drop (i + 1)).map vR)) = (n:Int) + (0 + zM ((L.drop (j + 1)).map z9) + zM ((s.2.1.drop (i + 1)).map vR)) by omega]) (fun k1 n hJ=>by
      simp only [zcU]
      rw [zG hi,eS,hL,ltF,List.drop_of_length_le (Nat.le_refl _)]
      refine (cF rfl).trans ?_
      refine (hk n (by omega)).trans ?_
      rw [show (n:Int) + (zM (([]:List zj).map z9) + zM ((s.2.1.drop (i + 1)).map vR)) = (n:Int) + zM ((s.2.1.drop (i + 1)).map vR) by
        have:zM (([]:List zj).map z9) = 0:=rfl
        omega]) n (by omega)
    exact inner) (fun k n _=>by
    simp only [zaE]
    rw [ltF,List.drop_of_length_le (Nat.le_refl _)]
    refine (cF rfl).trans ?_
    rw [show (n:Int) + zM (([]:List zg).map vR) = (n:Int) by
      have:zM (([]:List zg).map vR) = 0:=rfl
      omega]) 0 (Nat.zero_le _)
  refine (show qS (s,()) = _ from this).trans ?_
  rw [show ((0:Nat):Int) + zM ((s.2.1.drop 0).map vR) = zfz s by
    rw [List.drop_zero]; unfold zfz; omega]
end Go.Proofs.YtejbgeokcpillaaGreatDoor
end
section
namespace Go.Proofs.YtejbgeokcpillaaGreatDoor
open Go.Ev
theorem zHn {r:ze} {s:zb} {a:zD} (h:qf r s = true):zsB (zjg r a s):=by
  obtain ⟨hb,hz,hp⟩:=j7 h
  have ok:=vx hb
  have sz:=zcb hb hz
  have hf:=zs3 h
  have hn:=zDf hb
  have h1:=sz.shelves
  have h2:s.2.2.1.length = r.2.2.2.1.length:=by
    have hh:zh3 r s.2.2.1 = true:=by simp only [zdV,Bool.and_eq_true] at hp; exact hp.1
    exact (zvq hh).1
  have hq:=ok.quotas
  have f1:(zeK r).2.1.length = r.1.length:=by show (List.set _ _ _).length = _; rw [List.length_set,List.length_map]; exact hq
  have f2:(zeK r).2.2.1.length = r.2.2.2.1.length:=List.length_map ..
  refine ⟨?_,?_,hf.orders,hf.entries,?_,fun x hx=>?_,fun l hl=>?_⟩
  · show (qz _ _ _ _).length ≤ _; rw [zfe]; exact hf.shelves
  · show (qz _ _ _ _).length ≤ _; rw [zfe]; exact hf.ranks
  · show (qz _ _ _ _).length ≤ _; rw [zfe]; exact hf.seats
  · rcases zkK (by omega) hx with hx | hx
    · exact hf.shelf x hx
    · exact hn.shelf x hx
  · rcases zkK (by omega) hl with hl | hl
    · exact hf.rank l hl
    · exact hn.rank l hl
theorem zJC {a b:Int} (h:a = b):(a != b) = false:=by rw [h]; simp
theorem zDi {r:ze} {s:zb} {a:zD} (hr:qo r) (hs:qT s) (ha:zdR a) {me:pMe} {x:zcw}:zb9 (r,s,me,x,a,()) = some (true,()):=by
  simp only [zb9]
  refine (bnd (zJB hr hs x)).trans ?_
  cases hm:qf r s && yF r me with
  | false =>
    have e:zpO r s me x.1 x.2.1 x.2.2.1 x.2.2.2.1 = (zvs,0,1,()):=by unfold zpO; rw [hm]; rfl
    rw [e]
    refine (cT rfl).trans ?_
    rw [zjJ,zeJ hr hs,hm]; rfl
  | true =>
    simp only [Bool.and_eq_true] at hm
    have c:Ctx r s me:=⟨hm.1,hm.2⟩
    rcases zIb c hs x.1 x.2.1 x.2.2.1 x.2.2.2.1 with ⟨e,he,hv⟩ | ⟨h0,hrest⟩
    · rw [hv]
      refine (cT he).trans ?_
      rw [zjJ,zeJ hr hs,c.rs,c.im]; rfl
    · generalize zpO r s me x.1 x.2.1 x.2.2.1 x.2.2.2.1 = v at *
      obtain ⟨t,n,e,⟨⟩⟩:=v
      simp only at h0
      subst h0
      obtain ⟨rt,it,hd,hvw⟩:=(show zpT r s me (zxB x.1) t from hrest)
      refine (cF rfl).trans ?_
      have ml:=zG9 (j7 c.rs).1 c.im
      have ml':=ml
      simp only [zgD,decide_eq_true_eq] at ml'
      obtain ⟨g8,g12⟩:=zvw c.rs
      have hcs:=zuc g12
      have road:∀ m:Int,zfz t = zfz s + m→-1 ≤ m→m ≤ 1→(Option.bind (j8 (r,t,())) fun q3=>bif q3.1 then Option.bind (qS (t,())) fun q4=>Option.bind (qS (s,())) fun q5=>bif q4.1 != wI (q5.1 + m) then some (false,()) else inR me.2.1 ((List.length r.1):Int) (Option.bind (jH (ix qN r.1 me.2.1,a,())) fun q6=>bif q6.1 then Option.bind (z6 ()) fun q7=>bif q7.1 then some (true,()) else some (false,()) else Option.bind (jG (a,())) fun q8=>bif q8.1 then Option.bind (z6 ()) fun q9=>bif q9.1 then Option.bind (zaA (r,s,t,a,())) fun q10=>bif q10.1 then some (true,()) else some (false,()) else some (false,()) else Option.bind (z6 ()) fun q11=>bif q11.1 then some (true,()) else some (false,())) else some (false,())) = some (true,()):=by
        intro m hm h1 h2
        have hp:0 ≤ zfz t:=(zuc (zvw rt).2).1
        have hw:wI (zfz s + m) = zfz t:=by
          rw [← hm]
          obtain ⟨k,hk⟩:=Int.eq_ofNat_of_zero_le hp
          rw [hk]
          exact zpg (by
            have:zfz s ≤ (s.2.1.length:Int) * 12:=hcs.2
            unfold Go.maxLen; omega)
        refine (bnd (zqI hr it)).trans ?_
        refine (cT rt).trans ?_
        refine (bnd (zHm rt)).trans ?_
        refine (bnd (zHm c.rs)).trans ?_
        refine (cF (zJC hw.symm)).trans ?_
        refine (ixR ml').trans ?_
        refine (bnd (zje (zCI hr _ ml) ha)).trans ?_
        cases hl:zfy (r.1.getD me.2.1.toNat qN) a with
        | true=>rw [zjJ]; rfl
        | false =>
          refine (cF rfl).trans ?_
          refine (bnd (zj3 a)).trans ?_
          cases la:ze8 a with
          | false=>rw [zjJ]; rfl
          | true =>
            refine (cT rfl).trans ?_
            rw [zjJ,zEg hr c.rs rt ha la (zHn c.rs),hvw a hl,zFV]; rfl
      unfold zxB at hd
      cases k1:(x.1:Int) == 1 with
      | true =>
        have k2:((x.1:Int) == 2) = false:=by rw [beq_iff_eq.1 k1]; rfl
        rw [k1] at hd
        refine (cT rfl).trans ?_
        rw [k2]
        exact (cF rfl).trans (road 1 hd (by decide) (by decide))
      | false =>
        rw [k1] at hd
        refine (cF rfl).trans ?_
        cases k2:(x.1:Int) == 2 with
        | true =>
          rw [k2] at hd
          exact (cT rfl).trans (road (-1) hd (by decide) (by decide))
        | false =>
          rw [k2] at hd
          exact (cF rfl).trans (road 0 hd (by decide) (by decide))
end Go.Proofs.YtejbgeokcpillaaGreatDoor
end
section
namespace Go.Proofs.YtejbgeokcpillaaGreatDoor.fnGoodsRests
open Go.ChangeShapes Go.WideShapes Go.ChangeAt Go.RowKit Go.Ev
theorem own:ownKnob Tryz.prog.godebug = none:=by kernel_rfl
def zHo:List Int→List Value:=List.map (Value.int .u8)
theorem zJs:∀ f add,Ev.look ext f = some add→ExtOk Tryz.prog f add:=by
  intro f add h
  have h':(Nat.beq 292 f = true ∧ add = false) ∨ (Nat.beq 322 f = true ∧ add = true):=by
    simp only [ext,Ev.look] at h
    cases h1:Nat.beq 292 f with
    | true=>rw [h1] at h; exact .inl ⟨rfl,(Option.some.inj h).symm⟩
    | false =>
      rw [h1] at h
      cases h2:Nat.beq 322 f with
      | true=>rw [h2] at h; exact .inr ⟨rfl,(Option.some.inj h).symm⟩
      | false=>rw [h2] at h; cases h
  rcases h' with ⟨h1,rfl⟩ | ⟨h1,rfl⟩
  · obtain rfl:=Nat.eq_of_beq_eq_true h1
    intro x y w hx hy hy2
    obtain ⟨m,rfl⟩:=Int.eq_ofNat_of_zero_le hx
    obtain ⟨n,rfl⟩:=Int.eq_ofNat_of_zero_le hy
    rw [run_callFunc_extern (P:=Tryz.prog) (f:=292) Tryz.func292 (by kernel_rfl) (by kernel_rfl) (by kernel_rfl) (e:=sub64Entry) (by kernel_rfl)]
    have h0:(sub64Entry #[.int .u64 (m:Int),.int .u64 (n:Int),.int .u64 0]).run Tryz.prog w = .ok (.tuple #[.int .u64 (((m + 18446744073709551616 - n - 0) % 18446744073709551616:Nat):Int),.int .u64 ((if m < n + 0 then 1 else 0:Nat):Int)]) w:=run_sub64 m n 0 (by omega) w
    have e1:extA false (m:Int) (n:Int) = (((m + 18446744073709551616 - n - 0) % 18446744073709551616:Nat):Int):=by
      show ((m:Int) - (n:Int)) % 18446744073709551616 = _
      omega
    have e2:extB false (m:Int) (n:Int) = ((if m < n + 0 then 1 else 0:Nat):Int):=by
      show cond (decide ((m:Int) < (n:Int))) 1 0 = _
      by_cases h:m < n
      · rw [decide_eq_true (by omega),if_pos (by omega)]; rfl
      · rw [decide_eq_false (by omega),if_neg (by omega)]; rfl
    rw [h0,e1,e2]
    rfl
  · obtain rfl:=Nat.eq_of_beq_eq_true h1
    intro x y w hx hy hy2
    rw [run_callFunc_extern (P:=Tryz.prog) (f:=322) Tryz.func322 (by kernel_rfl) (by kernel_rfl) (by kernel_rfl) (e:=add64Entry) (by kernel_rfl),run_add64 x y 0 hx hy (by omega) (by omega),Int.add_zero]
    rfl
theorem env {W:World} (hL:laidMetH Tryz.prog Rows.goodsRestsRow.laid W):EnvOk Tryz.prog (FH.of W) E0:=by
  exact EnvOk.nil (by kernel_rfl) (fun g v hv=>by cases hv) zJs
set_option maxRecDepth 100000 in
theorem zId (H:Type) (enc:TypeId × Value→H) (W:World) (base:Nat) (args:Array Value) (ds gs:List (DataW H)) (before:List MemPlace)
    (hval:∀ (j:Nat) t v,Tryz.f4.params[j]? = some t→args[j]? = some v→Value.okWide Tryz.prog W .any base t v)
    (hW:DataW.Whole enc Tryz.prog Tryz.f4.params.toList Rows.goodsRestsSpec.vars false W args.toList ds gs before) (hL:laidMetH Tryz.prog Rows.goodsRestsRow.laid W) :
    Calls Tryz.prog 4 args W fun e W'=>∃ v,e = .returned v ∧ Rows.goodsRestsSpec.post enc Tryz.prog Tryz.f4 false true false false W args v W':=by
  refine law_contract (a:=zru) (tb:=4) (by kernel_rfl) (by decide +kernel) (by kernel_rfl) (by kernel_rfl) (by kernel_rfl) rfl (fun ds hd=>?_) hval hW fun x hx hbk hr=>?_
  · have:Tryz.f4.params.size = 5:=by kernel_rfl
    rw [this] at hd
    match ds,hd with
    | [d1,d2,d3,d4,d5],_=>rfl
  · have hs:=zsx (FH.of W) (env hL)
    have he:zb9 x = some (true,()):=by
      obtain ⟨r,s,m,d,a,⟨⟩⟩:=x
      exact zDi (realmIn hx.1) (stateIn hx.2.1) (wf_u64 hx.2.2.2.2.1.2.1)
    have hc:=hs.2 x (true,()) he (FH.of W) W args.toList (FH.le.refl _) (FH.of_ok W) hr
    refine hc.mono fun e W' he=>?_
    obtain ⟨us,F',h1,h2,_,_,h3⟩:=he
    refine ⟨?_,h2⟩
    obtain ⟨v,r,hus,hv,hva,hnil⟩:=(show RepA Tryz.prog F' (.pair .bool .unit) (true,()) us from h3)
    have hr0:r = []:=hnil
    subst hr0
    have hv':v.cells.toList = [.bool true]:=hv
    rw [h1,hus]
    have hva':isAggV v = false:=hva
    have:v = .bool true:=by
      cases v <;> first | (simp [isAggV] at hva'; done) | (simp [Value.cells] at hv'; exact congrArg _ hv') | (simp [Value.cells] at hv')
    rw [this]
    rfl
def zJh (l:List Value):Obj→Obj
  | .cells _ t frozen=>.cells l.toArray t frozen
  | o=>o
noncomputable def laidWorld (os:Os):World :=
  { World.holding Tryz.prog os ⟨#[],#[],[]⟩ with heap:=((World.holding Tryz.prog os ⟨#[],#[],[]⟩).heap.modify 0 (zJh (zHo (Pinned.utf8FirstZ.map fun n:Nat=>(n:Int))))).modify 1 (zJh (zHo [128,191,160,191,128,159,144,191,128,143,0,0,0,0,0,0,0,0,0,0,0,0,0,0,0,0,0,0,0,0,0,0])) }
def arg0:Value:=.agg #[.slice none 0 0,.slice none 0 0,.slice none 0 0,.slice none 0 0,.slice none 0 0,.int .i64 0,.int .i64 0,.int .i64 0,.int .i64 0]
def zF3:Value:=.agg #[.int .u64 0,.slice none 0 0,.slice none 0 0,.slice none 0 0,.slice none 0 0,.slice none 0 0]
def zF4:Value:=.agg #[.int .i64 0,.int .i64 0,.int .i64 0]
def zF5:Value:=.agg #[.int .i64 0,.int .i64 0,.int .i64 0,.string ⟨#[]⟩]
def zF6:Value:=.agg #[.int .i64 0,.int .u64 0]
theorem laid_met (os:Os):laidMet Tryz.prog Rows.goodsRestsRow.laid ((laidWorld os).forCall (fun _ _=>0) ⟨#[],#[arg0,zF3,zF4,zF5,zF6],[]⟩).memory :=
  laidMet_of_run' 8 (by kernel_rfl) (by kernel_rfl)
theorem reads (os:Os) {H:Type} (enc:TypeId × Value→H):∃ places,DataW.whole enc Tryz.prog ((laidWorld os).forCall (fun _ _=>0) ⟨#[],#[arg0,zF3,zF4,zF5,zF6],[]⟩).memory Tryz.f4.params.toList Rows.goodsRestsSpec.vars false #[arg0,zF3,zF4,zF5,zF6].toList 8 = some ([.agg [.nil,.nil,.nil,.nil,.nil,.lit (.int .i64 0),.lit (.int .i64 0),.lit (.int .i64 0),.lit (.int .i64 0)],.agg [.lit (.int .u64 0),.nil,.nil,.nil,.nil,.nil],.agg [.lit (.int .i64 0),.lit (.int .i64 0),.lit (.int .i64 0)],.agg [.lit (.int .i64 0),.lit (.int .i64 0),.lit (.int .i64 0),.lit (.string [])],.agg [.lit (.int .i64 0),.lit (.int .u64 0)]],[],places) :=
  ⟨[],by kernel_rfl⟩
set_option maxRecDepth 100000 in
theorem lifted (os:Os) (started:os.Started) (H:Type) (enc:TypeId × Value→H) (F:Stop.Interp) :
    ReturnsInHanded {} Tryz.checked os 4 .any ((OpenSpec.ofChange Rows.goodsRestsSpec).preRow enc Tryz.prog Tryz.f4 Rows.goodsRestsRow.domain false Rows.goodsRestsRow.laid) (((OpenSpec.ofChange Rows.goodsRestsSpec).at F).post enc Tryz.prog Tryz.f4 false true false false):=by
  obtain ⟨places,hx⟩:=reads os enc
  refine returnsInHanded_of_row (C:=Tryz.checked) (s:=OpenSpec.ofChange Rows.goodsRestsSpec) own started (by kernel_rfl) Tryz.func4
    (witness_row_at (enc:=enc) (C:=Tryz.checked) false (laidWorld os) #[arg0,zF3,zF4,zF5,zF6] rfl (by kernel_rfl) (by kernel_rfl) (by kernel_rfl)
      (OpenSpec.preRow_of_cond 8 hx (by kernel_rfl) (fun k hk=>by cases hk) (by kernel_rfl) (laid_met os))) ?_
  intro W base args ds gs before hval hW _ _ _ hL _ _
  exact zId H enc W base args ds gs before hval hW hL
end Go.Proofs.YtejbgeokcpillaaGreatDoor.fnGoodsRests
end
section
namespace Go.Proofs.YtejbgeokcpillaaGreatDoor.fnGoodsRests
open Go.ChangeShapes Go.WideShapes Go.ChangeAt Go.RowKit Go.Ev
theorem k2:laidOutB Tryz.prog = true:=by kernel_rfl
theorem k3:mapsRowed Tryz.prog = true:=by kernel_rfl
theorem k10:(Rows.goodsRestsRow.inPlace == Tryz.prog.inPlace 4) = true:=by kernel_rfl
theorem k11:(Rows.goodsRestsRow.unfollowed == Tryz.prog.unfollowed 4) = true:=by kernel_rfl
theorem k12:(Rows.goodsRestsRow.recurses == Tryz.prog.recurses 4) = true:=by kernel_rfl
theorem k13:(Rows.goodsRestsRow.named == Tryz.prog.varsNamed 4) = true:=by kernel_rfl
theorem k23:(Rows.goodsRestsRow.plainKeys == Tryz.prog.plainKeys) = true:=by kernel_rfl
theorem k24:Tryz.prog.stopsHeard = true:=by kernel_rfl
theorem k25:Tryz.prog.mayEnter = true:=by kernel_rfl
theorem k26:(Rows.goodsRestsRow.lifted == Tryz.prog.liftsFinal) = true:=by kernel_rfl
theorem k27:(Tryz.prog.make == some Rows.goodsRestsRow.make) = true:=by kernel_rfl
theorem zIN:joinedFacts Tryz.prog 4 Tryz.f4 (OpenSpec.ofChange Rows.goodsRestsSpec).bare Rows.goodsRestsRow = true:=by
  unfold joinedFacts
  rw [k2,k3,k10,k11,k12,k13,k23,k24,k25,k26,k27]
  kernel_rfl
theorem peq:Tryz.pinned.checked.prog = Tryz.prog:=by kernel_rfl
theorem closed:joinedFacts Tryz.pinned.checked.prog 4 Tryz.f4 (OpenSpec.ofChange Rows.goodsRestsSpec).bare Rows.goodsRestsRow = true:=by
  rw [peq]; exact zIN
end Go.Proofs.YtejbgeokcpillaaGreatDoor.fnGoodsRests
end
