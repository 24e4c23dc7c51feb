import Derived.Test.YtejbgeokcpillaaGreatDoorGld
import Derived.Shelf.Spec.BitsCarry
import Derived.WideShapes
import Derived.Laws.Strings
import Derived.Test.YtejbgeokcpillaaGreatDoorCards
import Derived.Test.YtejbgeokcpillaaGreatDoorTie
import Derived.ProofKit
import Derived.OpenShut
import Derived.Deep.DeepHandedRow
set_option linter.unusedVariables false
set_option linter.unusedSimpArgs false
section
namespace Go.Proofs.YtejbgeokcpillaaGreatDoor
open Go.Ev
noncomputable section
abbrev zce:Type:=Int × (List zg) × Int × Int × qL
abbrev zxs:zce→St:=fun (v3,v65,v66,v67,o0)=>St.mk [(1,.bp 0 []),(3,.dat tI v3),(65,.dat (.sl zn) v65),(66,.dat tI v66),(67,.dat tI v67)] [.bx (.dat qb o0) false]
def zey (k0:zce→Option (Bool × Unit)):zce→Option (Bool × Unit):=fun (v3,v65,v66,v67,o0) =>
  bif decide (v67 < v66) then inR v67 ((List.length v65):Int) (inR v67 ((List.length o0.1.2.2.2.2.1):Int) (bif ((List.length (ix zf v65 v67).1):Int) != (ix jS o0.1.2.2.2.2.1 v67).1 then some (false,()) else bif ((List.length (ix zf v65 v67).2.1):Int) != (ix jS o0.1.2.2.2.2.1 v67).2.1 then some (false,()) else bif ((List.length (ix zf v65 v67).2.2.1):Int) != (ix jS o0.1.2.2.2.2.1 v67).2.2.1 then some (false,()) else bif ((List.length (ix zf v65 v67).2.2.2.1):Int) != (ix jS o0.1.2.2.2.2.1 v67).2.2.2.1 then some (false,()) else bif ((List.length (ix zf v65 v67).2.2.2.2.1):Int) != (ix jS o0.1.2.2.2.2.1 v67).2.2.2.2.1 then some (false,()) else bif ((List.length (ix zf v65 v67).2.2.2.2.2.1):Int) != v3 then some (false,()) else bif ((List.length (ix zf v65 v67).2.2.2.2.2.2.1):Int) != v3 then some (false,()) else k0 (v3,v65,v66,wI (v67 + 1),o0))) else some (true,())
abbrev zh9 (K:Nat):zce→Option (Bool × Unit):=zm zey K
theorem zxt (K:Nat):∀ n,evV Es7 K Tryz.f62 0 (ch [.bool]) [1,1,1,0,1,0] [] zxs n = zm zey n:=zv fun n0 (v3,v65,v66,v67,o0)=>by kernel_rfl
def zgr (L0:zce→Option (Bool × Unit)):(qL × Unit)→Option (Bool × Unit):=fun (x0,()) =>
  Option.bind (zac (x0.1,())) fun q0=>bif q0.1 then bif ((List.length x0.2.1.2.1):Int) != ((List.length x0.1.1):Int) then some (false,()) else bif ((List.length x0.2.1.2.2.2.1):Int) != x0.1.2.2.2.2.2.1 then some (false,()) else bif decide (((List.length x0.2.1.2.2.2.2.1):Int) > x0.1.2.2.2.2.2.2.1) then some (false,()) else bif ((List.length x0.2.1.2.2.2.2.2.1):Int) != ((List.length x0.1.2.1):Int) then some (false,()) else bif decide (x0.2.1.1 > 4611686018427387904) then some (false,()) else L0 (((List.length x0.1.2.2.1):Int),x0.2.1.2.1,((List.length x0.2.1.2.1):Int),0,x0) else some (false,())
def zbu:(qL × Unit)→Option (Bool × Unit):=zgr (zh9 K0)
abbrev zqE:Fun:=⟨62,(ch [qb]),(ch [.bool]),0,zbu⟩
theorem zAu:Sq zqE:=ml7 (d:=false) (S:=fun K=>zgr (zh9 K)) Tryz.func62 (by kernel_rfl) (fun K=>tr1 (T:=zgr) (zxt K K) fun (x0,())=>by kernel_rfl) rfl
def zbv:(qL × Unit)→Option (Bool × Unit):=fun (x0,()) =>
  Option.bind (zfK (x0.2.1.2.1,some zex,())) fun q0=>bif q0.1 then some (true,()) else some (false,())
abbrev zqF:Fun:=⟨63,(ch [qb]),(ch [.bool]),0,zbv⟩
theorem zAv:Sq zqF:=ms7 (d:=false) (K:=0) Tryz.func63 (by kernel_rfl) (funext fun (x0,())=>by kernel_rfl)
abbrev zde:Type:=(Option ((Int × Unit)→Option (Bool × Unit))) × (List (List Int)) × Int × Int × zd
abbrev zyS:zde→St:=fun (v5,v19,v20,v21,o0)=>St.mk [(2,.bp 0 []),(5,.dat (.fn (.pair tI .unit) (.pair .bool .unit)) v5),(19,.dat (.sl (.sl tI)) v19),(20,.dat tI v20),(21,.dat tI v21)] [.bx (.dat zy o0) false]
def zfp (k0:zde→Option (Bool × Unit)):zde→Option (Bool × Unit):=fun (v5,v19,v20,v21,o0) =>
  bif decide (v21 < v20) then inR v21 ((List.length v19):Int) (bif ((List.length (List.getD v19 (Int.toNat v21) ([]:List Int))):Int) != ((List.length o0.2.2.1):Int) then some (false,()) else Option.bind (qA (List.getD v19 (Int.toNat v21) ([]:List Int),v5,())) fun q1=>bif q1.1 then some (false,()) else inR v21 ((List.length o0.2.2.2.1):Int) (inR (ix qE o0.2.2.2.1 v21).2.1 ((List.length (List.getD v19 (Int.toNat v21) ([]:List Int))):Int) (bif List.getD (List.getD v19 (Int.toNat v21) ([]:List Int)) (Int.toNat (ix qE o0.2.2.2.1 v21).2.1) (0:Int) != 2 then some (false,()) else k0 (v5,v19,v20,wI (v21 + 1),o0)))) else some (true,())
abbrev zi5 (K:Nat):zde→Option (Bool × Unit):=zm zfp K
theorem zyT (K:Nat):∀ n,evV Es7 K Tryz.f109 0 (ch [.bool]) [1,1,1,0,1,0] [] zyS n = zm zfp n:=zv fun n0 (v5,v19,v20,v21,o0)=>by kernel_rfl
def zia (L0:zde→Option (Bool × Unit)):(zd × ((List (List Int)) × Unit))→Option (Bool × Unit):=fun (x0,x1,()) =>
  Option.bind (zac (x0,())) fun q0=>bif q0.1 then bif ((List.length x1):Int) != ((List.length x0.2.2.2.1):Int) then some (false,()) else L0 (some zaH,x1,((List.length x1):Int),0,x0) else some (false,())
def zib:(zd × (List (List Int)) × Unit)→Option (Bool × Unit):=zia (zi5 K0)
abbrev zsw:Fun:=⟨109,(ch [zy,(.sl (.sl tI))]),(ch [.bool]),0,zib⟩
theorem zCx:Sq zsw:=ml7 (d:=false) (S:=fun K=>zia (zi5 K)) Tryz.func109 (by kernel_rfl) (fun K=>tr1 (T:=zia) (zyT K K) fun (x0,x1,())=>by kernel_rfl) rfl
abbrev zeY:Type:=(List zI) × Int × Int × zd × List (List Int) × Nat
abbrev zCy:zeY→St:=fun (v11,v12,v13,o0,o1,c1)=>St.mk [(1,.bp 0 []),(3,.ow 1),(11,.dat (.sl vf) v11),(12,.dat tI v12),(13,.dat tI v13)] [.bx (.dat zy o0) false,.drow (.sl tI) o1 c1]
def zeZ (k0:zeY→Option ((List (List Int)) × Unit)):zeY→Option ((List (List Int)) × Unit):=fun (v11,v12,v13,o0,o1,c1) =>
  bif decide (v13 < v12) then inR v13 ((List.length v11):Int) (bif decide (((List.length o0.2.2.1):Int) ≤ ((List.length o0.2.2.1):Int)) then bif decide (((List.length o0.2.2.1):Int) ≤ (↑lim:Int)) then inR (ix qE v11 v13).2.1 ((List.length (List.replicate (Int.toNat ((List.length o0.2.2.1):Int)) (0:Int))):Int) (bif decide (List.length o1 + List.length [List.set (List.replicate (Int.toNat ((List.length o0.2.2.1):Int)) (0:Int)) (Int.toNat (ix qE v11 v13).2.1) 2] ≤ lim) then bif decide (c1 = List.length o1) then k0 (v11,v12,wI (v13 + 1),o0,o1 ++ [List.set (List.replicate (Int.toNat ((List.length o0.2.2.1):Int)) (0:Int)) (Int.toNat (ix qE v11 v13).2.1) 2],c1 + (0 + 1)) else none else none) else none else none) else bif decide (c1 = List.length o1) then some (o1,()) else none
abbrev zsx (K:Nat):zeY→Option ((List (List Int)) × Unit):=zm zeZ K
theorem zCz (K:Nat):∀ n,evV Ed7 K Tryz.f95 4 (ch [(.sl (.sl tI))]) [1,1,1,0,1,0] [] zCy n = zm zeZ n:=zv fun n0 (v11,v12,v13,o0,o1,c1)=>by kernel_rfl
def zkU (L0:zeY→Option ((List (List Int)) × Unit)):(zd × Unit)→Option ((List (List Int)) × Unit):=fun (x0,()) =>
  Option.bind (zac (x0,())) fun q0=>bif q0.1 then L0 (x0.2.2.2.1,((List.length x0.2.2.2.1):Int),0,x0,[],0) else some ([],())
def zkV:(zd × Unit)→Option ((List (List Int)) × Unit):=zkU (zsx K0)
abbrev zxu:Fun:=⟨95,(ch [zy]),(ch [(.sl (.sl tI))]),4,zkV⟩
theorem zFV:Sq zxu:=ml7 (d:=true) (S:=fun K=>zkU (zsx K)) Tryz.func95 (by kernel_rfl) (fun K=>tr1 (T:=zkU) (zCz K K) fun (x0,())=>by kernel_rfl) rfl
def zic:((List zi) × (Int × (Int × (zI × Unit))))→Option ((List zi) × (Int × Unit)):=fun (x0,x1,x2,x3,()) =>
  Option.bind (jI (x2,())) fun q0=>Option.bind (zc2 (x3,())) fun q1=>Option.bind (za5 (x0,x1,q0.1,q1.1,())) fun q2=>some q2
abbrev zsy:Fun:=⟨77,(ch [(.sl zl),tI,tI,zB]),(ch [(.sl zl),tI]),0,zic⟩
theorem zCA:Sq zsy:=ms7 (d:=false) (K:=0) Tryz.func77 (by kernel_rfl) (funext fun (x0,x1,x2,x3,())=>by kernel_rfl)
def zcf:(zd × (Int × Unit))→Option (Bool × Unit):=fun (x0,x1,()) =>
  Option.bind (zac (x0,())) fun q0=>bif q0.1 then Option.bind (qj (x1,0,wI (((List.length x0.1):Int) - 1),())) fun q1=>bif q1.1 then some (true,()) else some (false,()) else some (false,())
abbrev znk:Fun:=⟨91,(ch [zy,tI]),(ch [.bool]),0,zcf⟩
theorem zxv:Sq znk:=ms7 (d:=false) (K:=0) Tryz.func91 (by kernel_rfl) (funext fun (x0,x1,())=>by kernel_rfl)
def zid:((List zi) × (Int × (Int × (zI × Unit))))→Option ((List zi) × (Int × Unit)):=fun (x0,x1,x2,x3,()) =>
  Option.bind (zc2 (x3,())) fun q0=>Option.bind (jI (x2,())) fun q1=>Option.bind (za5 (x0,x1,q0.1,q1.1,())) fun q2=>some q2
abbrev zsz:Fun:=⟨79,(ch [(.sl zl),tI,tI,zB]),(ch [(.sl zl),tI]),0,zid⟩
theorem zCB:Sq zsz:=ms7 (d:=false) (K:=0) Tryz.func79 (by kernel_rfl) (funext fun (x0,x1,x2,x3,())=>by kernel_rfl)
def zie:((List zi) × (Int × (Int × (Int × Unit))))→Option ((List zi) × (Int × Unit)):=fun (x0,x1,x2,x3,()) =>
  Option.bind (jI (x2,())) fun q0=>Option.bind (jI (x3,())) fun q1=>Option.bind (za5 (x0,x1,q0.1,q1.1,())) fun q2=>some q2
abbrev zsA:Fun:=⟨81,(ch [(.sl zl),tI,tI,tI]),(ch [(.sl zl),tI]),0,zie⟩
theorem zCC:Sq zsA:=ms7 (d:=false) (K:=0) Tryz.func81 (by kernel_rfl) (funext fun (x0,x1,x2,x3,())=>by kernel_rfl)
def zgs:((List zi) × (Int × (Int × Unit)))→Option ((List zi) × (Int × Unit)):=fun (x0,x1,x2,()) =>
  Option.bind (jI (x2,())) fun q0=>Option.bind (jI (x2,())) fun q1=>Option.bind (za5 (x0,x1,q0.1,q1.1,())) fun q2=>bif q2.2.1 != 0 then some ([],q2.2.1,()) else Option.bind (zcx (x0,())) fun q3=>Option.bind (zaJ (q3.1,x1,ze zl,())) fun q4=>some q4
abbrev zqG:Fun:=⟨75,(ch [(.sl zl),tI,tI]),(ch [(.sl zl),tI]),0,zgs⟩
theorem zAw:Sq zqG:=ms7 (d:=false) (K:=0) Tryz.func75 (by kernel_rfl) (funext fun (x0,x1,x2,())=>by kernel_rfl)
abbrev L8:List Fun:=zqE :: zqF :: zsw :: zxu :: zsy :: znk :: zsz :: zsA :: zqG :: L7
theorem h8:Sds Tryz.prog E0 L8:=⟨zAu,zAv,zCx,zFV,zCA,zxv,zCB,zCC,zAw,h7⟩
theorem ms8 {d:Bool} {F:Fun} {f:Go.Func} {K:Nat} (hf:Tryz.prog.funcs[F.id]? = some f) (ho:qW f = true) (h:evF (En E0 d L8) K f F.md F.a F.r = F.spec):Sd Tryz.prog E0 F:=mkS h8 hf ho h
theorem ml8 {d:Bool} {F:Fun} {f:Go.Func} {S:Nat→F.a.I→Option F.r.I} (hf:Tryz.prog.funcs[F.id]? = some f) (ho:qW f = true) (h:∀ K,evF (En E0 d L8) K f F.md F.a F.r = S K) (e:S K0 = F.spec):Sd Tryz.prog E0 F:=mkS h8 hf ho ((h K0).trans e)
abbrev Ed8:Env:=En E0 true L8
def zaM:(qL × Unit)→Option (Bool × Unit):=fun (x0,()) =>
  Option.bind (zib (x0.1,x0.2.1.2.2.1,())) fun q0=>bif q0.1 then Option.bind (zlZ (x0.2.1.2.2.2.1,())) fun q1=>bif q1.1 then Option.bind (zke (x0.2.1.2.2.2.2.1,())) fun q2=>bif q2.1 then Option.bind (zdX (x0.2.1,ze zB,())) fun q3=>bif q3.1 then Option.bind (zfL (x0.2.1.2.2.2.1,some fun z=>zdN (z.1,some x0,()),())) fun q4=>bif q4.1 then Option.bind (zcL (x0.2.1.2.2.2.2.1,some fun z=>zaX (z.1,some x0,()),())) fun q5=>bif q5.1 then Option.bind (y0 (x0.2.1.2.2.2.2.2.1,some fun z=>j9 (z.1,some x0,()),())) fun q6=>bif q6.1 then some (true,()) else some (false,()) else Option.bind (y0 (x0.2.1.2.2.2.2.2.1,some fun z=>j9 (z.1,some x0,()),())) fun q7=>bif q7.1 then some (false,()) else some (false,()) else Option.bind (zcL (x0.2.1.2.2.2.2.1,some fun z=>zaX (z.1,some x0,()),())) fun q8=>bif q8.1 then Option.bind (y0 (x0.2.1.2.2.2.2.2.1,some fun z=>j9 (z.1,some x0,()),())) fun q9=>bif q9.1 then some (false,()) else some (false,()) else Option.bind (y0 (x0.2.1.2.2.2.2.2.1,some fun z=>j9 (z.1,some x0,()),())) fun q10=>bif q10.1 then some (false,()) else some (false,()) else some (false,()) else some (false,()) else some (false,()) else some (false,())
abbrev zoU:Fun:=⟨64,(ch [qb]),(ch [.bool]),0,zaM⟩
theorem zyU:Sq zoU:=ms8 (d:=false) (K:=0) Tryz.func64 (by kernel_rfl) (funext fun (x0,())=>by kernel_rfl)
abbrev zd3:Type:=Int × Int × Int × Int × List zg × Nat × List (List Int) × Nat × List zp × List zH × List Int × List zg × Nat × List (List Int) × Nat × List zp × List zH × List Int
abbrev zqH:zd3→St:=fun (v42,v43,o0_0,o1_0,o2,c2,o3,c3,o4,o5,o6,o7,c7,o8,c8,o9,o10,o11)=>St.mk [(2,.bp 0 []),(4,.bp 1 []),(42,.dat tI v42),(43,.dat tI v43)] [.bx (.fld (.pair tU (.pair (.sl zn) (.pair (.sl (.sl tI)) (.pair (.sl zo) (.pair (.sl zw) (.pair (.sl tI) .unit)))))) [.dat tU o0_0,.ow 2,.ow 3,.ow 4,.ow 5,.ow 6]) false,.bx (.fld (.pair tU (.pair (.sl zn) (.pair (.sl (.sl tI)) (.pair (.sl zo) (.pair (.sl zw) (.pair (.sl tI) .unit)))))) [.dat tU o1_0,.ow 7,.ow 8,.ow 9,.ow 10,.ow 11]) false,.drow zn o2 c2,.drow (.sl tI) o3 c3,.row zo o4 false,.row zw o5 false,.row tI o6 false,.drow zn o7 c7,.drow (.sl tI) o8 c8,.row zo o9 false,.row zw o10 false,.row tI o11 false]
abbrev zd4:Type:=(List zbG) × Int × Int × zd × Int × Int × List zg × Nat × List (List Int) × Nat × List zp × List zH × List Int × List zg × Nat × List (List Int) × Nat × List zp × List zH × List Int
abbrev zAx:zd4→St:=fun (v18,v19,v20,o0,o1_0,o2_0,o3,c3,o4,c4,o5,o6,o7,o8,c8,o9,c9,o10,o11,o12)=>St.mk [(1,.bp 0 []),(2,.bp 1 []),(4,.bp 2 []),(18,.dat (.sl zcS) v18),(19,.dat tI v19),(20,.dat tI v20)] [.bx (.dat zy o0) false,.bx (.fld (.pair tU (.pair (.sl zn) (.pair (.sl (.sl tI)) (.pair (.sl zo) (.pair (.sl zw) (.pair (.sl tI) .unit)))))) [.dat tU o1_0,.ow 3,.ow 4,.ow 5,.ow 6,.ow 7]) false,.bx (.fld (.pair tU (.pair (.sl zn) (.pair (.sl (.sl tI)) (.pair (.sl zo) (.pair (.sl zw) (.pair (.sl tI) .unit)))))) [.dat tU o2_0,.ow 8,.ow 9,.ow 10,.ow 11,.ow 12]) false,.drow zn o3 c3,.drow (.sl tI) o4 c4,.row zo o5 false,.row zw o6 false,.row tI o7 false,.drow zn o8 c8,.drow (.sl tI) o9 c9,.row zo o10 false,.row zw o11 false,.row tI o12 false]
def zd5 (k1:zd3→Option (zb × (Int × Unit))):zd3→Option (zb × (Int × Unit)):=fun (v42,v43,o0_0,o1_0,o2,c2,o3,c3,o4,o5,o6,o7,c7,o8,c8,o9,o10,o11) =>
  bif decide (v43 < v42) then bif decide (List.length o11 + List.length (zj (List.replicate 1 (0:Int)) 0 (-1)) ≤ lim) then k1 (v42,wI (v43 + 1),o0_0,o1_0,o2,c2,o3,c3,o4,o5,o6,o7,c7,o8,c8,o9,o10,o11 ++ zj (List.replicate 1 (0:Int)) 0 (-1)) else none else bif decide (c7 = List.length o7) then bif decide (c8 = List.length o8) then some ((o1_0,o7,o8,o9,o10,o11,()),0,()) else none else none
abbrev zd6 (K:Nat):zd3→Option (zb × (Int × Unit)):=zm zd5 K
theorem zAy (K:Nat):∀ n,evV Ed8 K Tryz.f57 3 (ch [zq,tI]) [1,1,1,1,1,0,1,0] [] zqH n = zm zd5 n:=zv fun n1 (v42,v43,o0_0,o1_0,o2,c2,o3,c3,o4,o5,o6,o7,c7,o8,c8,o9,o10,o11)=>by kernel_rfl
def zbw (L1:zd3→Option (zb × (Int × Unit))) (k0:zd4→Option (zb × (Int × Unit))):zd4→Option (zb × (Int × Unit)):=fun (v18,v19,v20,o0,o1_0,o2_0,o3,c3,o4,c4,o5,o6,o7,o8,c8,o9,c9,o10,o11,o12) =>
  bif decide (v20 < v19) then inR v20 ((List.length v18):Int) (Option.bind (zgi (o0,ix jS v18 v20,())) fun q2=>bif decide (List.length o8 + List.length [(q2.1.1,q2.1.2.1,q2.1.2.2.1,q2.1.2.2.2.1,q2.1.2.2.2.2.1,q2.1.2.2.2.2.2.1,q2.1.2.2.2.2.2.2.1,q2.1.2.2.2.2.2.2.2.1,q2.1.2.2.2.2.2.2.2.2.1,())] ≤ lim) then bif decide (c8 = List.length o8) then k0 (v18,v19,wI (v20 + 1),o0,o1_0,o2_0,o3,c3,o4,c4,o5,o6,o7,o8 ++ [(q2.1.1,q2.1.2.1,q2.1.2.2.1,q2.1.2.2.2.1,q2.1.2.2.2.2.1,q2.1.2.2.2.2.2.1,q2.1.2.2.2.2.2.2.1,q2.1.2.2.2.2.2.2.2.1,q2.1.2.2.2.2.2.2.2.2.1,())],c8 + (0 + 1),o9,c9,o10,o11,o12) else none else none) else bif decide (0 < ((List.length o8):Int)) then bif decide (c8 ≤ Int.toNat 0) then bif decide (0 < ((List.length (ix zf o8 0).1):Int)) then none else none else bif decide (0 < ((List.length (ix zf o8 0).1):Int)) then L1 (((List.length o0.2.1):Int),0,o1_0,o2_0,o3,c3,o4,c4,o5,o6,o7,List.set o8 (Int.toNat 0) (List.set (ix zf o8 0).1 (Int.toNat 0) (true,ByteArray.mk #[112,108,97,122,97],(ze qh).2.2),(ix zf o8 0).2),c8,o9,c9,o10,o11,o12) else none else none
abbrev zqI (K:Nat):zd4→Option (zb × (Int × Unit)):=zm (fun k0=>zbw (zd6 K) k0) K
theorem zAz (K:Nat):∀ n,evV Ed8 K Tryz.f57 3 (ch [zq,tI]) [1,1,1,0,1,0] [] zAx n = zm (fun k0=>zbw (zd6 K) k0) n:=zeG (B:=fun L1 k0=>zbw L1 k0) (V1:=fun n0=>evV Ed8 K Tryz.f57 3 (ch [zq,tI]) [1,1,1,1,1,0,1,0] [] zqH K) (W1:=fun k0=>(zd6 K)) (fun n0=>zAy K K) fun n0 (v18,v19,v20,o0,o1_0,o2_0,o3,c3,o4,c4,o5,o6,o7,o8,c8,o9,c9,o10,o11,o12)=>by kernel_rfl
def zjv (L0:zd4→Option (zb × (Int × Unit))):(zd × Unit)→Option (zb × (Int × Unit)):=fun (x0,()) =>
  Option.bind (zac (x0,())) fun q0=>bif q0.1 then Option.bind (zkV (x0,())) fun q1=>bif decide (0 ≤ x0.2.2.2.2.2.1) then bif decide (x0.2.2.2.2.2.1 ≤ x0.2.2.2.2.2.1) then bif decide (x0.2.2.2.2.2.1 ≤ (↑lim:Int)) then L0 (x0.2.2.2.2.1,((List.length x0.2.2.2.2.1):Int),0,x0,0,0,[],0,[],0,[],[],[],[],0,q1.1,List.length q1.1,List.replicate (Int.toNat x0.2.2.2.2.2.1) (ze zo),[],[]) else none else none else none else some ((0,[],[],[],[],[],()),1,())
def zf8:(zd × Unit)→Option (zb × Int × Unit):=zjv (zqI K0)
abbrev zuj:Fun:=⟨57,(ch [zy]),(ch [zq,tI]),3,zf8⟩
theorem zEg:Sq zuj:=ml8 (d:=true) (S:=fun K=>zjv (zqI K)) Tryz.func57 (by kernel_rfl) (fun K=>tr1 (T:=zjv) (zAz K K) fun (x0,())=>by kernel_rfl) rfl
def zi6:((List zi) × ((Option Int) × ((Option pMe) × ((Option zb) × Unit))))→Option ((List zi) × (Int × Unit)):=fun (x0,x1,x2,x3,()) =>
  Option.bind x1 fun q0=>Option.bind x2 fun q1=>Option.bind x3 fun q2=>Option.bind x2 fun q3=>Option.bind (vZ (q2,q3,())) fun q4=>Option.bind (zic (x0,q0,q1.2.2.1,q4.1,())) fun q5=>some q5
abbrev zoV:Fun:=⟨76,(ch [(.sl zl),(.ptr tI),(.ptr tMe),(.ptr zq)]),(ch [(.sl zl),tI]),0,zi6⟩
theorem zyV:Sq zoV:=ms8 (d:=false) (K:=0) Tryz.func76 (by kernel_rfl) (funext fun (x0,x1,x2,x3,())=>by kernel_rfl)
def zjw:(zd × (Int × (Int × Unit)))→Option (Bool × Unit):=fun (x0,x1,x2,()) =>
  Option.bind (zcf (x0,x1,())) fun q0=>bif q0.1 then Option.bind (zcf (x0,x2,())) fun q1=>bif q1.1 then inR x1 ((List.length x0.1):Int) (inR x2 ((List.length x0.1):Int) (Option.bind (zaC (ix qK x0.1 x1,ix qK x0.1 x2,())) fun q2=>bif q2.1 then some (true,()) else some (false,()))) else some (false,()) else some (false,())
abbrev zuk:Fun:=⟨52,(ch [zy,tI,tI]),(ch [.bool]),0,zjw⟩
theorem zEh:Sq zuk:=ms8 (d:=false) (K:=0) Tryz.func52 (by kernel_rfl) (funext fun (x0,x1,x2,())=>by kernel_rfl)
def zi7:((List zi) × ((Option Int) × ((Option pMe) × ((Option zb) × Unit))))→Option ((List zi) × (Int × Unit)):=fun (x0,x1,x2,x3,()) =>
  Option.bind x1 fun q0=>Option.bind x2 fun q1=>Option.bind x3 fun q2=>Option.bind x2 fun q3=>Option.bind (vZ (q2,q3,())) fun q4=>Option.bind (zid (x0,q0,q1.2.2.1,q4.1,())) fun q5=>some q5
abbrev zoW:Fun:=⟨78,(ch [(.sl zl),(.ptr tI),(.ptr tMe),(.ptr zq)]),(ch [(.sl zl),tI]),0,zi7⟩
theorem zyW:Sq zoW:=ms8 (d:=false) (K:=0) Tryz.func78 (by kernel_rfl) (funext fun (x0,x1,x2,x3,())=>by kernel_rfl)
def zif:((List zi) × ((Option Int) × ((Option pMe) × Unit)))→Option ((List zi) × (Int × Unit)):=fun (x0,x1,x2,()) =>
  Option.bind x1 fun q0=>Option.bind x2 fun q1=>Option.bind (zgs (x0,q0,q1.2.2.1,())) fun q2=>some q2
abbrev znl:Fun:=⟨74,(ch [(.sl zl),(.ptr tI),(.ptr tMe)]),(ch [(.sl zl),tI]),0,zif⟩
theorem zxw:Sq znl:=ms8 (d:=false) (K:=0) Tryz.func74 (by kernel_rfl) (funext fun (x0,x1,x2,())=>by kernel_rfl)
abbrev L9:List Fun:=zoU :: zuj :: zoV :: zuk :: zoW :: znl :: L8
theorem h9:Sds Tryz.prog E0 L9:=⟨zyU,zEg,zyV,zEh,zyW,zxw,h8⟩
theorem ms9 {d:Bool} {F:Fun} {f:Go.Func} {K:Nat} (hf:Tryz.prog.funcs[F.id]? = some f) (ho:qW f = true) (h:evF (En E0 d L9) K f F.md F.a F.r = F.spec):Sd Tryz.prog E0 F:=mkS h9 hf ho h
theorem ml9 {d:Bool} {F:Fun} {f:Go.Func} {S:Nat→F.a.I→Option F.r.I} (hf:Tryz.prog.funcs[F.id]? = some f) (ho:qW f = true) (h:∀ K,evF (En E0 d L9) K f F.md F.a F.r = S K) (e:S K0 = F.spec):Sd Tryz.prog E0 F:=mkS h9 hf ho ((h K0).trans e)
abbrev Es9:Env:=En E0 false L9
abbrev zcg:Type:=Bool × Int × Int × List (Option (Unit→Option (Bool × Unit)))
abbrev zxx:zcg→St:=fun (v6,v27,v28,o0)=>St.mk [(6,.dat .bool v6),(26,.ow 0),(27,.dat tI v27),(28,.dat tI v28)] [.row (.fn .unit (.pair .bool .unit)) o0 false]
def zez (k0:zcg→Option (Bool × Unit)):zcg→Option (Bool × Unit):=fun (v6,v27,v28,o0) =>
  bif decide (v28 < v27) then inR v28 ((List.length o0):Int) (Option.bind (List.getD o0 (Int.toNat v28) (ze (.fn .unit (.pair .bool .unit)))) fun q0=>Option.bind (q0 ()) fun q1=>bif q1.1 then k0 (true,v27,wI (v28 + 1),o0) else some (false,())) else some (v6,())
abbrev znm (K:Nat):zcg→Option (Bool × Unit):=zm zez K
theorem zxy (K:Nat):∀ n,evV Es9 K Tryz.f18 0 (ch [.bool]) [1,0,1,1,1,0,1,0] [] zxx n = zm zez n:=zv fun n0 (v6,v27,v28,o0)=>by kernel_rfl
def zki (L0:zcg→Option (Bool × Unit)):(zd × (zb × Unit))→Option (Bool × Unit):=fun (x0,x1,()) =>
  L0 (true,((List.length (zj (zj (zj (zj (zj (zj (zj (List.replicate 7 (ze (.fn .unit (.pair .bool .unit)))) 0 (some fun z=>zbu ((x0,x1,(ze qb).2.2),()))) 1 (some fun z=>zbv ((x0,x1,(ze qb).2.2),()))) 2 (some fun z=>zaM ((x0,x1,(ze qb).2.2),()))) 3 (some fun z=>zdZ ((x0,x1,(ze qb).2.2),()))) 4 (some fun z=>zaK ((x0,x1,(ze qb).2.2),()))) 5 (some fun z=>zdY ((x0,x1,(ze qb).2.2),()))) 6 (some fun z=>zd2 ((x0,x1,(ze qb).2.2),())))):Int),0,[some fun z=>zbu ((x0,x1,(ze qb).2.2),()),some fun z=>zbv ((x0,x1,(ze qb).2.2),()),some fun z=>zaM ((x0,x1,(ze qb).2.2),()),some fun z=>zdZ ((x0,x1,(ze qb).2.2),()),some fun z=>zaK ((x0,x1,(ze qb).2.2),()),some fun z=>zdY ((x0,x1,(ze qb).2.2),()),some fun z=>zd2 ((x0,x1,(ze qb).2.2),())])
def zd7:(zd × zb × Unit)→Option (Bool × Unit):=zki (znm K0)
abbrev zqJ:Fun:=⟨18,(ch [zy,zq]),(ch [.bool]),0,zd7⟩
theorem zAA:Sq zqJ:=ml9 (d:=false) (S:=fun K=>zki (znm K)) Tryz.func18 (by kernel_rfl) (fun K=>tr1 (T:=zki) (zxy K K) fun (x0,x1,())=>by kernel_rfl) rfl
def zcy:(zd × (zb × (zA × Unit)))→Option (zb × (Int × Unit)):=fun (x0,x1,x2,()) =>
  Option.bind (zf8 (x0,())) fun q0=>bif q0.2.1 != 0 then some ((0,[],[],[],[],[],()),1,()) else Option.bind (zdW (x2,())) fun q1=>bif q1.1 then Option.bind (zjn (x0,x1,())) fun q2=>bif q2.1 then Option.bind (zen (x1.2.1,q0.1.2.1,some fun z=>zbs (z.1,some x0,some x2,()),())) fun q3=>Option.bind (zeQ (x1.2.2.1,q0.1.2.2.1,some fun z=>zgk (z.1,some x0,some x2,()),())) fun q4=>Option.bind (zfF (x1.2.2.2.2.2.1,q0.1.2.2.2.2.2.1,some fun z=>zgj (z.1,some (some fun z_1=>zbs (z_1.1,some x0,some x2,())),some x0,()),())) fun q5=>Option.bind (ya ((x1.1,q3.1,q4.1,x1.2.2.2.1,x1.2.2.2.2.1,q5.1,x1.2.2.2.2.2.2),())) fun q6=>some (q6.1,0,()) else some ((0,[],[],[],[],[],()),1,()) else some ((0,[],[],[],[],[],()),1,())
abbrev zul:Fun:=⟨69,(ch [zy,zq,zD]),(ch [zq,tI]),0,zcy⟩
theorem zEi:Sq zul:=ms9 (d:=false) (K:=0) Tryz.func69 (by kernel_rfl) (funext fun (x0,x1,x2,())=>by kernel_rfl)
abbrev L10:List Fun:=zqJ :: zul :: L9
theorem h10:Sds Tryz.prog E0 L10:=⟨zAA,zEi,h9⟩
theorem zJw {d:Bool} {F:Fun} {f:Go.Func} {K:Nat} (hf:Tryz.prog.funcs[F.id]? = some f) (ho:qW f = true) (h:evF (En E0 d L10) K f F.md F.a F.r = F.spec):Sd Tryz.prog E0 F:=mkS h10 hf ho h
def vQ:(zd × (zb × (pMe × Unit)))→Option (Bool × Unit):=fun (x0,x1,x2,()) =>
  Option.bind (zd7 (x0,x1,())) fun q0=>bif q0.1 then bif decide (x2.1 ≥ 0) then bif decide (x2.1 < ((List.length x0.2.1):Int)) then inR x2.1 ((List.length x0.2.1):Int) (bif x2.2.1 == ix (0:Int) x0.2.1 x2.1 then bif decide (x2.2.2.1 ≥ 0) then bif decide (x2.2.2.1 < ((List.length x0.2.2.1):Int)) then some (true,()) else some (false,()) else some (false,()) else some (false,())) else some (false,()) else some (false,()) else some (false,())
abbrev zsB:Fun:=⟨17,(ch [zy,zq,tMe]),(ch [.bool]),0,vQ⟩
theorem zCD:Sq zsB:=zJw (d:=false) (K:=0) Tryz.func17 (by kernel_rfl) (funext fun (x0,x1,x2,())=>by kernel_rfl)
def zcz:(zd × (zb × (zb × (zA × Unit))))→Option (Bool × Unit):=fun (x0,x1,x2,x3,()) =>
  Option.bind (zcy (x0,x1,x3,())) fun q0=>Option.bind (zcy (x0,x2,x3,())) fun q1=>bif q0.2.1 == 0 then bif q1.2.1 == 0 then Option.bind (zhX (q0.1,q1.1,())) fun q2=>bif q2.1 then some (true,()) else some (false,()) else some (false,()) else some (false,())
abbrev zum:Fun:=⟨22,(ch [zy,zq,zq,zD]),(ch [.bool]),0,zcz⟩
theorem zEj:Sq zum:=zJw (d:=false) (K:=0) Tryz.func22 (by kernel_rfl) (funext fun (x0,x1,x2,x3,())=>by kernel_rfl)
abbrev L11:List Fun:=zsB :: zum :: L10
theorem h11:Sds Tryz.prog E0 L11:=⟨zCD,zEj,h10⟩
theorem zJx {d:Bool} {F:Fun} {f:Go.Func} {K:Nat} (hf:Tryz.prog.funcs[F.id]? = some f) (ho:qW f = true) (h:evF (En E0 d L11) K f F.md F.a F.r = F.spec):Sd Tryz.prog E0 F:=mkS h11 hf ho h
theorem zJ3 {d:Bool} {js:List Nat} {F:Fun} {f:Go.Func} {K:Nat} (hf:Tryz.prog.funcs[F.id]? = some f) (ho:qW f = true) (h:evF (Ej E0 d js L11) K f F.md F.a F.r = F.spec):Sd Tryz.prog E0 F:=zJ2 h11 hf ho h
theorem zJ4 {d:Bool} {js:List Nat} {fs:List (Nat × Go.Func)} {n:Nat} {F:Fun} {f:Go.Func} {K:Nat} (hfs:FOk Tryz.prog fs) (hf:Tryz.prog.funcs[F.id]? = some f) (ho:qW f = true) (h:evF ((Ej E0 d js L11).inl fs n) K f F.md F.a F.r = F.spec):Sd Tryz.prog E0 F:=Sd.mkI zFL h11 hfs hf ho h
theorem zJ5 {d:Bool} {F:Fun} {f:Go.Func} {S:Nat→F.a.I→Option F.r.I} (hf:Tryz.prog.funcs[F.id]? = some f) (ho:qW f = true) (h:∀ K,evF (En E0 d L11) K f F.md F.a F.r = S K) (e:S K0 = F.spec):Sd Tryz.prog E0 F:=mkS h11 hf ho ((h K0).trans e)
abbrev zFW:Env:=En E0 false L11
def zdf:(zd × (zb × (pMe × (ByteArray × Unit))))→Option (zb × (Int × (Int × Unit))):=fun (x0,x1,x2,x3,()) =>
  Option.bind (vQ (x0,x1,x2,())) fun q0=>bif q0.1 then Option.bind (zbr (x1,x2,())) fun q1=>Option.bind (zh8 (q1.1,x3,x2.2.2.1,())) fun q2=>bif q2.2.2.1 != 0 then some ((0,[],[],[],[],[],()),q2.2.1,q2.2.2.1,()) else Option.bind (ya (x1,())) fun q3=>inR x2.2.1 ((List.length q3.1.2.1):Int) (some ((u1 q3.1 (List.set q3.1.2.1 (Int.toNat x2.2.1) (u2 (ix zf q3.1.2.1 x2.2.1) q2.1))),q2.2.1,0,())) else some ((0,[],[],[],[],[],()),0,1,())
abbrev zsC:Fun:=⟨35,(ch [zy,zq,tMe,.str]),(ch [zq,tI,tI]),0,zdf⟩
theorem zCE:Sq zsC:=zJ4 (d:=true) (js:=[999999]) (fs:=[(71,Tryz.f71),(72,Tryz.f72)]) (n:=2) ⟨⟨Tryz.func71,by kernel_rfl⟩,⟨Tryz.func72,by kernel_rfl⟩,trivial⟩ (K:=0) Tryz.func35 (by kernel_rfl) (funext fun (x0,x1,x2,x3,())=>by kernel_rfl)
def zaD:(zd × (zb × (pMe × Unit)))→Option ((List Int) × (Int × Unit)):=fun (x0,x1,x2,()) =>
  Option.bind (vQ (x0,x1,x2,())) fun q0=>bif q0.1 then Option.bind (zbr (x1,x2,())) fun q1=>Option.bind (zhY (q1.1,x2.2.2.1,())) fun q2=>some (q2.1,0,()) else some ([],1,())
abbrev zun:Fun:=⟨9,(ch [zy,zq,tMe]),(ch [(.sl tI),tI]),0,zaD⟩
theorem zEk:Sq zun:=zJx (d:=false) (K:=0) Tryz.func9 (by kernel_rfl) (funext fun (x0,x1,x2,())=>by kernel_rfl)
def yU:(zd × (zb × (pMe × ((Option (((List zi) × Unit)→Option ((List zi) × (Int × Unit)))) × Unit))))→Option (zb × (Int × Unit)):=fun (x0,x1,x2,x3,()) =>
  Option.bind (vQ (x0,x1,x2,())) fun q0=>bif q0.1 then Option.bind (zbr (x1,x2,())) fun q1=>Option.bind x3 fun q2=>Option.bind (q2 (q1.1,())) fun q3=>bif q3.2.1 != 0 then some ((0,[],[],[],[],[],()),q3.2.1,()) else Option.bind (ya (x1,())) fun q4=>inR x2.2.1 ((List.length q4.1.2.1):Int) (some ((u1 q4.1 (List.set q4.1.2.1 (Int.toNat x2.2.1) (u2 (ix zf q4.1.2.1 x2.2.1) q3.1))),0,())) else some ((0,[],[],[],[],[],()),1,())
abbrev zsD:Fun:=⟨71,(ch [zy,zq,tMe,(.fn (ch [(.sl zl)]) (ch [(.sl zl),tI]))]),(ch [zq,tI]),0,yU⟩
theorem zCF:Sq zsD:=zJ3 (d:=true) (js:=[999999]) (K:=0) Tryz.func71 (by kernel_rfl) (funext fun (x0,x1,x2,x3,())=>by kernel_rfl)
abbrev za6:Type:=Int × (List zg) × Int × Int × (List Int) × Int × Int × zd × zb × pMe × List zI
abbrev zl1:za6→St:=fun (v9,v19,v20,v21,v37,v38,v39,o0,o1,o2,o3)=>St.mk [(3,.bp 0 []),(4,.bp 1 []),(5,.bp 2 []),(8,.ow 3),(9,.dat tI v9),(19,.dat (.sl zn) v19),(20,.dat tI v20),(21,.dat tI v21),(37,.dat (.sl tI) v37),(38,.dat tI v38),(39,.dat tI v39)] [.bx (.dat zy o0) false,.bx (.dat zq o1) false,.bx (.dat tMe o2) false,.row vf o3 false]
abbrev vc:Type:=(List zg) × Int × Int × zd × zb × pMe × List zI
abbrev zl2:vc→St:=fun (v19,v20,v21,o0,o1,o2,o3)=>St.mk [(3,.bp 0 []),(4,.bp 1 []),(5,.bp 2 []),(8,.ow 3),(19,.dat (.sl zn) v19),(20,.dat tI v20),(21,.dat tI v21)] [.bx (.dat zy o0) false,.bx (.dat zq o1) false,.bx (.dat tMe o2) false,.row vf o3 false]
def za7 (k0:vc→Option ((List zI) × (Int × Unit))) (k1:za6→Option ((List zI) × (Int × Unit))):za6→Option ((List zI) × (Int × Unit)):=fun (v9,v19,v20,v21,v37,v38,v39,o0,o1,o2,o3) =>
  bif decide (v39 < v38) then inR v39 ((List.length v37):Int) (bif decide (List.length o3 + List.length (zj (List.replicate 1 (ze zB)) 0 (v9,ix (0:Int) v37 v39,(ze zB).2.2)) ≤ lim) then k1 (v9,v19,v20,v21,v37,v38,wI (v39 + 1),o0,o1,o2,o3 ++ zj (List.replicate 1 (ze zB)) 0 (v9,ix (0:Int) v37 v39,(ze zB).2.2)) else none) else k0 (v19,v20,wI (v21 + 1),o0,o1,o2,o3)
abbrev zdS (K:Nat) (k0:vc→Option ((List zI) × (Int × Unit))):za6→Option ((List zI) × (Int × Unit)):=zm (fun k1=>za7 k0 k1) K
theorem zvy (K:Nat) (n0:Nat):∀ n,evV zFW K Tryz.f11 0 (ch [(.sl zB),tI]) [1,1,1,0,1,0,0,1,1,0,0,1,1,1,0] [n0] zl1 n = zm (fun k1=>za7 (evV zFW K Tryz.f11 0 (ch [(.sl zB),tI]) [1,1,1,0,1,0] [] zl2 n0) k1) n:=zv fun n1 (v9,v19,v20,v21,v37,v38,v39,o0,o1,o2,o3)=>by kernel_rfl
def yC (L1:za6→Option ((List zI) × (Int × Unit))) (k0:vc→Option ((List zI) × (Int × Unit))):vc→Option ((List zI) × (Int × Unit)):=fun (v19,v20,v21,o0,o1,o2,o3) =>
  bif decide (v21 < v20) then inR v21 ((List.length v19):Int) (Option.bind (zjw (o0,v21,o2.2.1,())) fun q1=>bif q1.1 then Option.bind (vZ (o1,o2,())) fun q2=>Option.bind (zgo ((ix zf v19 v21).2.2.1,q2.1,())) fun q3=>L1 (v21,v19,v20,v21,q3.1,((List.length q3.1):Int),0,o0,o1,o2,o3) else k0 (v19,v20,wI (v21 + 1),o0,o1,o2,o3)) else some (o3,0,())
abbrev zl3 (K:Nat):vc→Option ((List zI) × (Int × Unit)):=zm (fun k0=>yC (zdS K k0) k0) K
theorem zvz (K:Nat):∀ n,evV zFW K Tryz.f11 0 (ch [(.sl zB),tI]) [1,1,1,0,1,0] [] zl2 n = zm (fun k0=>yC (zdS K k0) k0) n:=zeG (B:=fun L1 k0=>yC L1 k0) (V1:=fun n0=>evV zFW K Tryz.f11 0 (ch [(.sl zB),tI]) [1,1,1,0,1,0,0,1,1,0,0,1,1,1,0] [n0] zl1 K) (W1:=fun k0=>(zdS K k0)) (fun n0=>zvy K n0 K) fun n0 (v19,v20,v21,o0,o1,o2,o3)=>by kernel_rfl
def zfq (L0:vc→Option ((List zI) × (Int × Unit))):(zd × (zb × (pMe × Unit)))→Option ((List zI) × (Int × Unit)):=fun (x0,x1,x2,()) =>
  Option.bind (vQ (x0,x1,x2,())) fun q0=>bif q0.1 then L0 (x1.2.1,((List.length x1.2.1):Int),0,x0,x1,x2,[]) else some ([],1,())
def vw:(zd × zb × pMe × Unit)→Option ((List qw) × Int × Unit):=zfq (zl3 K0)
abbrev zoX:Fun:=⟨11,(ch [zy,zq,tMe]),(ch [(.sl zB),tI]),0,vw⟩
theorem zyX:Sq zoX:=zJ5 (d:=false) (S:=fun K=>zfq (zl3 K)) Tryz.func11 (by kernel_rfl) (fun K=>tr1 (T:=zfq) (zvz K K) fun (x0,x1,x2,())=>by kernel_rfl) rfl
def zi8:((List zi) × ((Option pMe) × ((Option Int) × ((Option zd) × ((Option zb) × ((Option Int) × Unit))))))→Option ((List zi) × (Int × Unit)):=fun (x0,x1,x2,x3,x4,x5,()) =>
  Option.bind x1 fun q0=>Option.bind x1 fun q1=>Option.bind x2 fun q2=>Option.bind x2 fun q3=>Option.bind x1 fun q4=>bif q3 == q4.2.2.1 then some ([],1,()) else Option.bind x3 fun q5=>Option.bind x4 fun q6=>Option.bind (vQ (q5,q6,(q0.1,q1.2.1,q2,(ze tMe).2.2.2),())) fun q7=>bif q7.1 then Option.bind x5 fun q8=>Option.bind x1 fun q9=>Option.bind x2 fun q10=>Option.bind (zie (x0,q8,q9.2.2.1,q10,())) fun q11=>bif q11.2.1 == 0 then Option.bind x4 fun q12=>Option.bind (vZ (q12,(q0.1,q1.2.1,q2,(ze tMe).2.2.2),())) fun q13=>Option.bind x4 fun q14=>Option.bind x1 fun q15=>Option.bind (vZ (q14,q15,())) fun q16=>bif !eqI zB q13.1 q16.1 then some (q11.1,5,()) else some q11 else some q11 else some ([],1,())
abbrev zoY:Fun:=⟨80,(ch [(.sl zl),(.ptr tMe),(.ptr tI),(.ptr zy),(.ptr zq),(.ptr tI)]),(ch [(.sl zl),tI]),0,zi8⟩
theorem zyY:Sq zoY:=zJx (d:=false) (K:=0) Tryz.func80 (by kernel_rfl) (funext fun (x0,x1,x2,x3,x4,x5,())=>by kernel_rfl)
abbrev L12:List Fun:=zsC :: zun :: zsD :: zoX :: zoY :: L11
theorem h12:Sds Tryz.prog E0 L12:=⟨zCE,zEk,zCF,zyX,zyY,h11⟩
theorem zFX {d:Bool} {F:Fun} {f:Go.Func} {K:Nat} (hf:Tryz.prog.funcs[F.id]? = some f) (ho:qW f = true) (h:evF (En E0 d L12) K f F.md F.a F.r = F.spec):Sd Tryz.prog E0 F:=mkS h12 hf ho h
def zdg:(zd × (zb × (pMe × (Int × Unit))))→Option (zb × (Int × Unit)):=fun (x0,x1,x2,x3,()) =>
  Option.bind (yU (x0,x1,x2,some fun z=>zi6 (z.1,some x3,some x2,some x1,()),())) fun q0=>some q0
abbrev zsE:Fun:=⟨37,(ch [zy,zq,tMe,tI]),(ch [zq,tI]),0,zdg⟩
theorem zCG:Sq zsE:=zFX (d:=false) (K:=0) Tryz.func37 (by kernel_rfl) (funext fun (x0,x1,x2,x3,())=>by kernel_rfl)
def za8:(zd × (zb × (pMe × (Int × Unit))))→Option (zb × (Int × Unit)):=fun (x0,x1,x2,x3,()) =>
  Option.bind (yU (x0,x1,x2,some fun z=>zi7 (z.1,some x3,some x2,some x1,()),())) fun q0=>some q0
abbrev zsF:Fun:=⟨38,(ch [zy,zq,tMe,tI]),(ch [zq,tI]),0,za8⟩
theorem zCH:Sq zsF:=zFX (d:=false) (K:=0) Tryz.func38 (by kernel_rfl) (funext fun (x0,x1,x2,x3,())=>by kernel_rfl)
def za9:(zd × (zb × (pMe × (Int × (Int × Unit)))))→Option (zb × (Int × Unit)):=fun (x0,x1,x2,x3,x4,()) =>
  Option.bind (yU (x0,x1,x2,some fun z=>zi8 (z.1,some x2,some x4,some x0,some x1,some x3,()),())) fun q0=>some q0
abbrev zsG:Fun:=⟨39,(ch [zy,zq,tMe,tI,tI]),(ch [zq,tI]),0,za9⟩
theorem zCI:Sq zsG:=zFX (d:=false) (K:=0) Tryz.func39 (by kernel_rfl) (funext fun (x0,x1,x2,x3,x4,())=>by kernel_rfl)
def zbx:(zd × (zb × (pMe × (Int × Unit))))→Option (zb × (Int × Unit)):=fun (x0,x1,x2,x3,()) =>
  Option.bind (yU (x0,x1,x2,some fun z=>zif (z.1,some x3,some x2,()),())) fun q0=>some q0
abbrev zqK:Fun:=⟨36,(ch [zy,zq,tMe,tI]),(ch [zq,tI]),0,zbx⟩
theorem zAB:Sq zqK:=zFX (d:=false) (K:=0) Tryz.func36 (by kernel_rfl) (funext fun (x0,x1,x2,x3,())=>by kernel_rfl)
abbrev L13:List Fun:=zsE :: zsF :: zsG :: zqK :: L12
theorem h13:Sds Tryz.prog E0 L13:=⟨zCG,zCH,zCI,zAB,h12⟩
theorem zJy {d:Bool} {F:Fun} {f:Go.Func} {K:Nat} (hf:Tryz.prog.funcs[F.id]? = some f) (ho:qW f = true) (h:evF (En E0 d L13) K f F.md F.a F.r = F.spec):Sd Tryz.prog E0 F:=mkS h13 hf ho h
def yc:Unit→Option (Bool × Unit):=fun () =>
  Option.bind (zqi ()) fun q0=>Option.bind (zf8 (q0.1,())) fun q1=>Option.bind (zdf (q0.1,q1.1,(1,1,(ze tMe).2.2),ByteArray.mk #[108,97,109,112],())) fun q2=>Option.bind (zaD (q0.1,q2.1,(1,1,(ze tMe).2.2),())) fun q3=>Option.bind (zdg (q0.1,q2.1,(1,1,(ze tMe).2.2),0,())) fun q4=>Option.bind (vw (q0.1,q4.1,(1,1,(ze tMe).2.2),())) fun q5=>Option.bind (za8 (q0.1,q4.1,ze tMe,0,())) fun q6=>Option.bind (za9 (q0.1,q2.1,(1,1,(ze tMe).2.2),0,1,())) fun q7=>Option.bind (za9 (q0.1,q2.1,(1,1,(ze tMe).2.2),0,0,())) fun q8=>Option.bind (zbx (q0.1,q7.1,(1,1,(ze tMe).2.2),0,())) fun q9=>Option.bind (za8 (q0.1,q4.1,(1,1,(ze tMe).2.2),0,())) fun q10=>bif q1.2.1 == 0 then bif q2.2.2.1 == 0 then bif q2.2.1 == 0 then bif q3.2.1 == 0 then bif ((List.length q3.1):Int) == 1 then bif q4.2.1 == 0 then bif q5.2.1 == 0 then bif ((List.length q5.1):Int) == 1 then bif decide (0 < ((List.length q5.1):Int)) then bif eqI zB (ix zIh q5.1 0) (1,(ze zB).2) then bif q6.2.1 == 3 then bif q7.2.1 == 0 then bif q8.2.1 == 1 then bif q9.2.1 == 3 then bif q10.2.1 == 0 then bif ((List.length q7.1.2.1):Int) == 3 then bif decide (1 < ((List.length q7.1.2.1):Int)) then bif decide (0 < ((List.length (ix zf q7.1.2.1 1).2.2.1):Int)) then bif (List.getD (ix zf q7.1.2.1 1).2.2.1 (Int.toNat 0) (ze zl)).2.2.2.1 == 1 then bif decide (1 < ((List.length q1.1.2.1):Int)) then bif decide (0 < ((List.length (ix zf q1.1.2.1 1).2.2.1):Int)) then bif (List.getD (ix zf q1.1.2.1 1).2.2.1 (Int.toNat 0) (ze zl)).1 then some (false,()) else some (true,()) else none else none else some (false,()) else none else none else some (false,()) else some (false,()) else some (false,()) else some (false,()) else some (false,()) else some (false,()) else some (false,()) else none else some (false,()) else some (false,()) else some (false,()) else some (false,()) else some (false,()) else some (false,()) else some (false,()) else some (false,())
abbrev zqL:Fun:=⟨13,.unit,(ch [.bool]),0,yc⟩
theorem zAC:Sq zqL:=zJy (d:=false) (K:=0) Tryz.func13 (by kernel_rfl) (funext fun ()=>by kernel_rfl)
def zig:(zd × (zb × (pMe × (zcH × Unit))))→Option (zb × (Int × (Int × Unit))):=fun (x0,x1,x2,x3,()) =>
  bif x3.1 == 1 then Option.bind (zdf (x0,x1,x2,x3.2.2.2.1,())) fun q0=>some q0 else bif x3.1 == 2 then Option.bind (zbx (x0,x1,x2,x3.2.1,())) fun q1=>some (q1.1,0,q1.2.1,()) else bif x3.1 == 3 then Option.bind (zdg (x0,x1,x2,x3.2.1,())) fun q2=>some (q2.1,0,q2.2.1,()) else bif x3.1 == 4 then Option.bind (za8 (x0,x1,x2,x3.2.1,())) fun q3=>some (q3.1,0,q3.2.1,()) else Option.bind (za9 (x0,x1,x2,x3.2.1,x3.2.2.1,())) fun q4=>some (q4.1,0,q4.2.1,())
abbrev zxz:Fun:=⟨7,(ch [zy,zq,tMe,jh]),(ch [zq,tI,tI]),0,zig⟩
theorem zFY:Sq zxz:=zJy (d:=false) (K:=0) Tryz.func7 (by kernel_rfl) (funext fun (x0,x1,x2,x3,())=>by kernel_rfl)
abbrev L14:List Fun:=zqL :: zxz :: L13
theorem h14:Sds Tryz.prog E0 L14:=⟨zAC,zFY,h13⟩
theorem zJ6 {d:Bool} {F:Fun} {f:Go.Func} {K:Nat} (hf:Tryz.prog.funcs[F.id]? = some f) (ho:qW f = true) (h:evF (En E0 d L14) K f F.md F.a F.r = F.spec):Sd Tryz.prog E0 F:=mkS h14 hf ho h
def zch:(zd × (zb × (zb × (pMe × (zcH × (zA × Unit))))))→Option (Bool × Unit):=fun (x0,x1,x2,x3,x4,x5,()) =>
  Option.bind (vQ (x0,x1,x3,())) fun q0=>bif q0.1 then Option.bind (zd7 (x0,x2,())) fun q1=>bif q1.1 then inR x3.2.1 ((List.length x0.1):Int) (Option.bind (zaC (ix qK x0.1 x3.2.1,x5,())) fun q2=>bif q2.1 then Option.bind (zcz (x0,x1,x2,x5,())) fun q3=>bif q3.1 then Option.bind (zig (x0,x1,x3,x4,())) fun q4=>Option.bind (zig (x0,x2,x3,x4,())) fun q5=>Option.bind (zaD (x0,x1,x3,())) fun q6=>Option.bind (zaD (x0,x2,x3,())) fun q7=>Option.bind (vw (x0,x1,x3,())) fun q8=>Option.bind (vw (x0,x2,x3,())) fun q9=>Option.bind (yc ()) fun q10=>bif q10.1 then bif q4.2.1 == q5.2.1 then bif q4.2.2.1 == q5.2.2.1 then bif q4.2.2.1 != 0 then bif q6.2.1 == q7.2.1 then Option.bind (zeU (q6.1,q7.1,())) fun q11=>bif q11.1 then bif q8.2.1 == q9.2.1 then Option.bind (zaW (q8.1,q9.1,())) fun q12=>bif q12.1 then some (true,()) else some (false,()) else some (false,()) else some (false,()) else some (false,()) else Option.bind (zcz (x0,q4.1,q5.1,x5,())) fun q13=>bif q13.1 then bif q6.2.1 == q7.2.1 then Option.bind (zeU (q6.1,q7.1,())) fun q14=>bif q14.1 then bif q8.2.1 == q9.2.1 then Option.bind (zaW (q8.1,q9.1,())) fun q15=>bif q15.1 then some (true,()) else some (false,()) else some (false,()) else some (false,()) else some (false,()) else some (false,()) else some (false,()) else some (false,()) else some (false,()) else Option.bind (yc ()) fun q16=>bif q16.1 then some (true,()) else some (false,()) else Option.bind (yc ()) fun q17=>bif q17.1 then some (true,()) else some (false,())) else Option.bind (yc ()) fun q18=>bif q18.1 then some (true,()) else some (false,()) else Option.bind (yc ()) fun q19=>bif q19.1 then some (true,()) else some (false,())
abbrev zsH:Fun:=⟨5,(ch [zy,zq,zq,tMe,jh,zD]),(ch [.bool]),0,zch⟩
theorem zsI:Sq zsH:=zJ6 (d:=false) (K:=0) Tryz.func5 (by kernel_rfl) (funext fun (x0,x1,x2,x3,x4,x5,())=>by kernel_rfl)
end
end Go.Proofs.YtejbgeokcpillaaGreatDoor
end
section
namespace Go.Proofs.YtejbgeokcpillaaGreatDoor
open Go.Ev
theorem zxA {l:List Int} {g:Int × Unit→Option (Bool × Unit)} {p:Int→Bool} (hl:l.length ≤ Go.maxLen) (hp:∀ x ∈ l,g (x,()) = some (p x,())):zbJ (l,some g,()) = some (qR p l 0,()):=qH (τ:=tI) (B:=zdx) (fun _ _ _ _ _=>rfl) hl hp
theorem zci {l:List Int} {g:Int × Unit→Option (Bool × Unit)} {p:Int→Bool} (hl:l.length ≤ Go.maxLen) (hp:∀ x ∈ l,g (x,()) = some (p x,())):qA (l,some g,()) = some (l.any p,()):=qi (τ:=tI) (f:=zbJ) (zxA hl hp)
theorem ztQ {l:List zA} {g:zA × Unit→Option (Bool × Unit)} {p:zA→Bool} (hl:l.length ≤ Go.maxLen) (hp:∀ x ∈ l,g (x,()) = some (p x,())):zaq (l,some g,()) = some (qR p l 0,()):=qH (τ:=zD) (B:=zco) (fun _ _ _ _ _=>rfl) hl hp
theorem zih {l:List zA} {g:zA × Unit→Option (Bool × Unit)} {p:zA→Bool} (hl:l.length ≤ Go.maxLen) (hp:∀ x ∈ l,g (x,()) = some (p x,())):ye (l,some g,()) = some (l.any p,()):=qi (τ:=zD) (f:=zaq) (ztQ hl hp)
theorem zre {l:List qO} {g:qO × Unit→Option (Bool × Unit)} {p:qO→Bool} (hl:l.length ≤ Go.maxLen) (hp:∀ x ∈ l,g (x,()) = some (p x,())):yH (l,some g,()) = some (qR p l 0,()):=qH (τ:=qN) (B:=zaT) (fun _ _ _ _ _=>rfl) hl hp
theorem znW {l:List qO} {g:qO × Unit→Option (Bool × Unit)} {p:qO→Bool} (hl:l.length ≤ Go.maxLen) (hp:∀ x ∈ l,g (x,()) = some (p x,())):zav (l,some g,()) = some (l.any p,()):=qi (τ:=qN) (f:=yH) (zre hl hp)
theorem ztR {l:List zg} {g:zg × Unit→Option (Bool × Unit)} {p:zg→Bool} (hl:l.length ≤ Go.maxLen) (hp:∀ x ∈ l,g (x,()) = some (p x,())):zar (l,some g,()) = some (qR p l 0,()):=qH (τ:=zn) (B:=zcq) (fun _ _ _ _ _=>rfl) hl hp
theorem zpK {l:List zg} {g:zg × Unit→Option (Bool × Unit)} {p:zg→Bool} (hl:l.length ≤ Go.maxLen) (hp:∀ x ∈ l,g (x,()) = some (p x,())):jK (l,some g,()) = some (l.any p,()):=qi (τ:=zn) (f:=zar) (ztR hl hp)
theorem zvA {l:List qX} {g:qX × Unit→Option (Bool × Unit)} {p:qX→Bool} (hl:l.length ≤ Go.maxLen) (hp:∀ x ∈ l,g (x,()) = some (p x,())):zbe (l,some g,()) = some (qR p l 0,()):=qH (τ:=qh) (B:=zcY) (fun _ _ _ _ _=>rfl) hl hp
theorem zrf {l:List qX} {g:qX × Unit→Option (Bool × Unit)} {p:qX→Bool} (hl:l.length ≤ Go.maxLen) (hp:∀ x ∈ l,g (x,()) = some (p x,())):zcw (l,some g,()) = some (l.any p,()):=qi (τ:=qh) (f:=zbe) (zvA hl hp)
theorem zl4 {l:List zi} {g:zi × Unit→Option (Bool × Unit)} {p:zi→Bool} (hl:l.length ≤ Go.maxLen) (hp:∀ x ∈ l,g (x,()) = some (p x,())):yl (l,some g,()) = some (qR p l 0,()):=qH (τ:=zl) (B:=zc0) (fun _ _ _ _ _=>rfl) hl hp
theorem ziL {l:List zi} {g:zi × Unit→Option (Bool × Unit)} {p:zi→Bool} (hl:l.length ≤ Go.maxLen) (hp:∀ x ∈ l,g (x,()) = some (p x,())):jc (l,some g,()) = some (l.any p,()):=qi (τ:=zl) (f:=yl) (zl4 hl hp)
theorem zvB {l:List qq} {g:qq × Unit→Option (Bool × Unit)} {p:qq→Bool} (hl:l.length ≤ Go.maxLen) (hp:∀ x ∈ l,g (x,()) = some (p x,())):zbf (l,some g,()) = some (qR p l 0,()):=qH (τ:=zZ) (B:=zc1) (fun _ _ _ _ _=>rfl) hl hp
theorem ziM {l:List qq} {g:qq × Unit→Option (Bool × Unit)} {p:qq→Bool} (hl:l.length ≤ Go.maxLen) (hp:∀ x ∈ l,g (x,()) = some (p x,())):je (l,some g,()) = some (l.any p,()):=qi (τ:=zZ) (f:=zbf) (zvB hl hp)
theorem ztS {l:List zt} {g:zt × Unit→Option (Bool × Unit)} {p:zt→Bool} (hl:l.length ≤ Go.maxLen) (hp:∀ x ∈ l,g (x,()) = some (p x,())):zas (l,some g,()) = some (qR p l 0,()):=qH (τ:=zx) (B:=zct) (fun _ _ _ _ _=>rfl) hl hp
theorem zii {l:List zt} {g:zt × Unit→Option (Bool × Unit)} {p:zt→Bool} (hl:l.length ≤ Go.maxLen) (hp:∀ x ∈ l,g (x,()) = some (p x,())):qU (l,some g,()) = some (l.any p,()):=qi (τ:=zx) (f:=zas) (ztS hl hp)
theorem ztT {l:List zp} {g:zp × Unit→Option (Bool × Unit)} {p:zp→Bool} (hl:l.length ≤ Go.maxLen) (hp:∀ x ∈ l,g (x,()) = some (p x,())):zat (l,some g,()) = some (qR p l 0,()):=qH (τ:=zo) (B:=zcu) (fun _ _ _ _ _=>rfl) hl hp
theorem zpL {l:List zp} {g:zp × Unit→Option (Bool × Unit)} {p:zp→Bool} (hl:l.length ≤ Go.maxLen) (hp:∀ x ∈ l,g (x,()) = some (p x,())):jL (l,some g,()) = some (l.any p,()):=qi (τ:=zo) (f:=zat) (ztT hl hp)
theorem ztU {l:List zH} {g:zH × Unit→Option (Bool × Unit)} {p:zH→Bool} (hl:l.length ≤ Go.maxLen) (hp:∀ x ∈ l,g (x,()) = some (p x,())):zau (l,some g,()) = some (qR p l 0,()):=qH (τ:=zw) (B:=zcv) (fun _ _ _ _ _=>rfl) hl hp
theorem zpM {l:List zH} {g:zH × Unit→Option (Bool × Unit)} {p:zH→Bool} (hl:l.length ≤ Go.maxLen) (hp:∀ x ∈ l,g (x,()) = some (p x,())):jM (l,some g,()) = some (l.any p,()):=qi (τ:=zw) (f:=zau) (ztU hl hp)
theorem zl5 {l:List z8} {g:z8 × Unit→Option (Bool × Unit)} {p:z8→Bool} (hl:l.length ≤ Go.maxLen) (hp:∀ x ∈ l,g (x,()) = some (p x,())):yk (l,some g,()) = some (qR p l 0,()):=qH (τ:=zV) (B:=zcZ) (fun _ _ _ _ _=>rfl) hl hp
theorem zrg {l:List z8} {g:z8 × Unit→Option (Bool × Unit)} {p:z8→Bool} (hl:l.length ≤ Go.maxLen) (hp:∀ x ∈ l,g (x,()) = some (p x,())):j4 (l,some g,()) = some (l.any p,()):=qi (τ:=zV) (f:=yk) (zl5 hl hp)
theorem zxB {l:List qw} {g:qw × Unit→Option (Bool × Unit)} {p:qw→Bool} (hl:l.length ≤ Go.maxLen) (hp:∀ x ∈ l,g (x,()) = some (p x,())):zbN (l,some g,()) = some (qR p l 0,()):=qH (τ:=zB) (B:=zdE) (fun _ _ _ _ _=>rfl) hl hp
theorem zsJ {l:List qw} {g:qw × Unit→Option (Bool × Unit)} {p:qw→Bool} (hl:l.length ≤ Go.maxLen) (hp:∀ x ∈ l,g (x,()) = some (p x,())):vq (l,some g,()) = some (l.any p,()):=qi (τ:=zB) (f:=zbN) (zxB hl hp)
theorem zvC {l:List Int} {g:Int × Unit→Option (Bool × Unit)} {p:Int→Bool} (hl:l.length ≤ Go.maxLen) (hp:∀ x ∈ l,g (x,()) = some (p x,())):zbc (l,some g,()) = some (qR p l 0,()):=qH (τ:=(Ty.int .u8)) (B:=zcV) (fun _ _ _ _ _=>rfl) hl hp
theorem zrh {l:List Int} {g:Int × Unit→Option (Bool × Unit)} {p:Int→Bool} (hl:l.length ≤ Go.maxLen) (hp:∀ x ∈ l,g (x,()) = some (p x,())):j3 (l,some g,()) = some (l.any p,()):=qi (τ:=(Ty.int .u8)) (f:=zbc) (zvC hl hp)
theorem zEl {l:List zg} {g:zg × Unit→Option (Bool × Unit)} {p:zg→Bool} (hl:l.length ≤ Go.maxLen) (hp:∀ x ∈ l,g (x,()) = some (p x,())):zfK (l,some g,()) = some (l.all p,()):=by
  have h:jK (l,some fun z=>zbd (z.1,some (some g),()),()) = some (l.any fun x=>!p x,()):=zpK hl fun x hx=>by
    show Option.bind (g (x,())) (fun q=>bif q.1 then some (false,()) else some (true,())) = _
    rw [hp x hx]; cases p x <;> rfl
  show Option.bind (jK (l,some fun z=>zbd (z.1,some (some g),()),())) (fun q=>bif q.1 then some (false,()) else some (true,())) = _
  rw [h,← jP]; cases l.any fun x=>!p x <;> rfl
theorem zEm {l:List zp} {g:zp × Unit→Option (Bool × Unit)} {p:zp→Bool} (hl:l.length ≤ Go.maxLen) (hp:∀ x ∈ l,g (x,()) = some (p x,())):zfL (l,some g,()) = some (l.all p,()):=by
  have h:jL (l,some fun z=>zbg (z.1,some (some g),()),()) = some (l.any fun x=>!p x,()):=zpL hl fun x hx=>by
    show Option.bind (g (x,())) (fun q=>bif q.1 then some (false,()) else some (true,())) = _
    rw [hp x hx]; cases p x <;> rfl
  show Option.bind (jL (l,some fun z=>zbg (z.1,some (some g),()),())) (fun q=>bif q.1 then some (false,()) else some (true,())) = _
  rw [h,← jP]; cases l.any fun x=>!p x <;> rfl
theorem zEn {l:List zH} {g:zH × Unit→Option (Bool × Unit)} {p:zH→Bool} (hl:l.length ≤ Go.maxLen) (hp:∀ x ∈ l,g (x,()) = some (p x,())):zcL (l,some g,()) = some (l.all p,()):=by
  have h:jM (l,some fun z=>zbh (z.1,some (some g),()),()) = some (l.any fun x=>!p x,()):=zpM hl fun x hx=>by
    show Option.bind (g (x,())) (fun q=>bif q.1 then some (false,()) else some (true,())) = _
    rw [hp x hx]; cases p x <;> rfl
  show Option.bind (jM (l,some fun z=>zbh (z.1,some (some g),()),())) (fun q=>bif q.1 then some (false,()) else some (true,())) = _
  rw [h,← jP]; cases l.any fun x=>!p x <;> rfl
theorem zHm {l:List Int} {g:Int × Unit→Option (Bool × Unit)} {p:Int→Bool} (hl:l.length ≤ Go.maxLen) (hp:∀ x ∈ l,g (x,()) = some (p x,())):y0 (l,some g,()) = some (l.all p,()):=by
  have h:qA (l,some fun z=>zcJ (z.1,some (some g),()),()) = some (l.any fun x=>!p x,()):=zci hl fun x hx=>by
    show Option.bind (g (x,())) (fun q=>bif q.1 then some (false,()) else some (true,())) = _
    rw [hp x hx]; cases p x <;> rfl
  show Option.bind (qA (l,some fun z=>zcJ (z.1,some (some g),()),())) (fun q=>bif q.1 then some (false,()) else some (true,())) = _
  rw [h,← jP]; cases l.any fun x=>!p x <;> rfl
theorem zFZ {l:List z8} {g:z8 × Unit→Option (Bool × Unit)} {p:z8→Bool} (hl:l.length ≤ Go.maxLen) (hp:∀ x ∈ l,g (x,()) = some (p x,())):zgP (l,some g,()) = some (l.all p,()):=by
  have h:j4 (l,some fun z=>zbK (z.1,some (some g),()),()) = some (l.any fun x=>!p x,()):=zrg hl fun x hx=>by
    show Option.bind (g (x,())) (fun q=>bif q.1 then some (false,()) else some (true,())) = _
    rw [hp x hx]; cases p x <;> rfl
  show Option.bind (j4 (l,some fun z=>zbK (z.1,some (some g),()),())) (fun q=>bif q.1 then some (false,()) else some (true,())) = _
  rw [h,← jP]; cases l.any fun x=>!p x <;> rfl
theorem zxC {l:List zi} {g:zi × Unit→Option (Bool × Unit)} {p:zi→Bool} (hl:l.length ≤ Go.maxLen) (hp:∀ x ∈ l,g (x,()) = some (p x,())):yz (l,some g,()) = some (l.all p,()):=by
  have h:jc (l,some fun z=>zbM (z.1,some (some g),()),()) = some (l.any fun x=>!p x,()):=ziL hl fun x hx=>by
    show Option.bind (g (x,())) (fun q=>bif q.1 then some (false,()) else some (true,())) = _
    rw [hp x hx]; cases p x <;> rfl
  show Option.bind (jc (l,some fun z=>zbM (z.1,some (some g),()),())) (fun q=>bif q.1 then some (false,()) else some (true,())) = _
  rw [h,← jP]; cases l.any fun x=>!p x <;> rfl
theorem zHn {l:List qw} {g:qw × Unit→Option (Bool × Unit)} {p:qw→Bool} (hl:l.length ≤ Go.maxLen) (hp:∀ x ∈ l,g (x,()) = some (p x,())):zhW (l,some g,()) = some (l.all p,()):=by
  have h:vq (l,some fun z=>zcK (z.1,some (some g),()),()) = some (l.any fun x=>!p x,()):=zsJ hl fun x hx=>by
    show Option.bind (g (x,())) (fun q=>bif q.1 then some (false,()) else some (true,())) = _
    rw [hp x hx]; cases p x <;> rfl
  show Option.bind (vq (l,some fun z=>zcK (z.1,some (some g),()),())) (fun q=>bif q.1 then some (false,()) else some (true,())) = _
  rw [h,← jP]; cases l.any fun x=>!p x <;> rfl
theorem zF0 {l:List qq} {g:qq × Unit→Option (Bool × Unit)} {p:qq→Bool} (hl:l.length ≤ Go.maxLen) (hp:∀ x ∈ l,g (x,()) = some (p x,())):yA (l,some g,()) = some (l.all p,()):=by
  have h:je (l,some fun z=>zbO (z.1,some (some g),()),()) = some (l.any fun x=>!p x,()):=ziM hl fun x hx=>by
    show Option.bind (g (x,())) (fun q=>bif q.1 then some (false,()) else some (true,())) = _
    rw [hp x hx]; cases p x <;> rfl
  show Option.bind (je (l,some fun z=>zbO (z.1,some (some g),()),())) (fun q=>bif q.1 then some (false,()) else some (true,())) = _
  rw [h,← jP]; cases l.any fun x=>!p x <;> rfl
theorem zEo {l:List zt} {g:zt × Unit→Option (Bool × Unit)} {p:zt→Bool} (hl:l.length ≤ Go.maxLen) (hp:∀ x ∈ l,g (x,()) = some (p x,())):qC (l,some g,()) = some (l.all p,()):=by
  have h:qU (l,some fun z=>zbi (z.1,some (some g),()),()) = some (l.any fun x=>!p x,()):=zii hl fun x hx=>by
    show Option.bind (g (x,())) (fun q=>bif q.1 then some (false,()) else some (true,())) = _
    rw [hp x hx]; cases p x <;> rfl
  show Option.bind (qU (l,some fun z=>zbi (z.1,some (some g),()),())) (fun q=>bif q.1 then some (false,()) else some (true,())) = _
  rw [h,← jP]; cases l.any fun x=>!p x <;> rfl
theorem zuo {a b:List Int} (hl:a.length ≤ Go.maxLen):zaI (a,b,()) = some (eqL tI a b,()):=zaB (τ:=tI) (B:=zgH) (fun _ _ _ _ _=>rfl) hl
theorem zAD {a b:List zp} (hl:a.length ≤ Go.maxLen):zgJ (a,b,()) = some (eqL zo a b,()):=zaB (τ:=zo) (B:=zeS) (fun _ _ _ _ _=>rfl) hl
theorem zAE {a b:List zH} (hl:a.length ≤ Go.maxLen):zgL (a,b,()) = some (eqL zw a b,()):=zaB (τ:=zw) (B:=zeT) (fun _ _ _ _ _=>rfl) hl
theorem zCJ {a b:List qX} (hl:a.length ≤ Go.maxLen):zhJ (a,b,()) = some (eqL qh a b,()):=zaB (τ:=qh) (B:=zfG) (fun _ _ _ _ _=>rfl) hl
theorem zCK {a b:List z8} (hl:a.length ≤ Go.maxLen):zhL (a,b,()) = some (eqL zV a b,()):=zaB (τ:=zV) (B:=zfH) (fun _ _ _ _ _=>rfl) hl
theorem zCL {a b:List zi} (hl:a.length ≤ Go.maxLen):zhN (a,b,()) = some (eqL zl a b,()):=zaB (τ:=zl) (B:=zfI) (fun _ _ _ _ _=>rfl) hl
theorem zCM {a b:List qq} (hl:a.length ≤ Go.maxLen):zhP (a,b,()) = some (eqL zZ a b,()):=zaB (τ:=zZ) (B:=zfJ) (fun _ _ _ _ _=>rfl) hl
theorem zAF {a b:List zt} (hl:a.length ≤ Go.maxLen):zgF (a,b,()) = some (eqL zx a b,()):=zaB (τ:=zx) (B:=zeR) (fun _ _ _ _ _=>rfl) hl
theorem zF1 {a b:List (List Int)} (hl:a.length ≤ Go.maxLen):zj9 (a,b,()) = some (eqL (Ty.arr 4 tU) a b,()):=zaB (τ:=(Ty.arr 4 tU)) (B:=zhQ) (fun _ _ _ _ _=>rfl) hl
theorem zEp {a b:List qw} (hl:a.length ≤ Go.maxLen):ziZ (a,b,()) = some (eqL zB a b,()):=zaB (τ:=zB) (B:=zgG) (fun _ _ _ _ _=>rfl) hl
theorem zqM {l:List zp} (hl:l.length ≤ lim):zdH (l,()) = some (l,()):=vX (τ:=zo) hl rfl
theorem zAG {l:List zH} (hl:l.length ≤ lim):zgC (l,()) = some (l,()):=vX (τ:=zw) hl rfl
theorem zup {l:List Int} (hl:l.length ≤ lim):zff (l,()) = some (l,()):=vX (τ:=tI) hl rfl
theorem zCN {l:List (List Int)} (hl:l.length ≤ lim):zhD (l,()) = some (l,()):=vX (τ:=(Ty.sl tI)) hl rfl
theorem zAH {l:List zg} (hl:l.length ≤ lim):zgD (l,()) = some (l,()):=vX (τ:=zn) hl rfl
theorem zCO {l:List qX} (hl:l.length ≤ lim):zhE (l,()) = some (l,()):=vX (τ:=qh) hl rfl
theorem zCP {l:List z8} (hl:l.length ≤ lim):zhF (l,()) = some (l,()):=vX (τ:=zV) hl rfl
theorem zl6 {l:List zi} (hl:l.length ≤ lim):zbP (l,()) = some (l,()):=vX (τ:=zl) hl rfl
theorem zCQ {l:List qq} (hl:l.length ≤ lim):zhG (l,()) = some (l,()):=vX (τ:=zZ) hl rfl
theorem zkj {l:List zt} (hl:l.length ≤ lim):zdF (l,()) = some (l,()):=vX (τ:=zx) hl rfl
theorem zF2 {l:List (List Int)} (hl:l.length ≤ lim):zj7 (l,()) = some (l,()):=vX (τ:=(Ty.arr 4 tU)) hl rfl
theorem zEq {l:List qw} (hl:l.length ≤ lim):ziX (l,()) = some (l,()):=vX (τ:=zB) hl rfl
end Go.Proofs.YtejbgeokcpillaaGreatDoor
end
section
namespace Go.Proofs.YtejbgeokcpillaaGreatDoor
open Go.Ev
theorem zte:∃ m,K0 = m + 8:=⟨Go.maxLen - 6,by unfold K0 Go.maxLen; omega⟩
def qf (x a b:Int):Bool:=decide (a ≤ x ∧ x ≤ b)
theorem zdT (x a b:Int):qj (x,a,b,()) = some (qf x a b,()):=by
  simp only [qj,qf]; grind
def zdh (a:zA):Bool:=qf a.1 0 3
theorem zkk (a:zA):zdW (a,()) = some (zdh a,()):=by
  simp only [zdW,zdh,qf]; grind
theorem zF3 (a:zA):zdL (a,()) = some (!zdh a,()):=by
  simp only [zdL,zkk,Option.bind_some]; grind
def zkl (x y:Int):Int:=bif decide (x < y) then -1 else bif decide (y < x) then 1 else 0
theorem zEr (x:Int):yY (x,()) = some (false,()):=by
  simp only [yY]; grind
theorem zyZ (x:Int):vg (x,()) = some (false,()):=by
  simp only [vg]; grind
theorem zqN (x y:Int):zak (x,y,()) = some (zkl x y,()):=by
  simp only [zak,zEr,Option.bind_some,zkl]; grind
theorem zl7 (x y:Int):vM (x,y,()) = some (zkl x y,()):=by
  simp only [vM,zyZ,Option.bind_some,zkl]; grind
def orV (a b:Int):Int:=bif a != 0 then a else b
theorem zJz (a b:Int):zcU ([a,b],()) = some (orV a b,()):=by
  show zm qS K0 (0,[a,b],2,0) = _
  obtain ⟨m,hm⟩:=zte
  rw [hm]
  show qS (qS (qS (zm qS (m + 5)))) (0,[a,b],2,0) = _
  have h:qS (qS (qS (zm qS (m + 5)))) (0,[a,b],2,0) = bif a != 0 then some (a,()) else bif b != 0 then some (b,()) else some (0,()):=by kernel_rfl
  rw [h]; unfold orV; grind
def zvD (a b:zA):Int:=orV (zkl a.1 b.1) (zkl a.2.1 b.2.1)
theorem zEs (a b:zA):zjo (a,b,()) = some (zvD a b,()):=by
  simp only [zjo,zqN,zl7,Option.bind_some]
  show Option.bind (zcU ([zkl a.1 b.1,zkl a.2.1 b.2.1],())) _ = _
  rw [zJz]; rfl
def zi9 (l:List zA):Bool:=qf (l.length:Int) 1 8 && (eqI zD (l.getD 0 (ze zD)) (ze zD) && (l.all zdh && ql (fun i=>decide (zvD (l.getD (i - 1) (ze zD)) (l.getD i (ze zD)) < 0)) 1 (l.length - 1)))
theorem zIi {α:Type} {d:α} {l:List α}:ix d l 0 = l.getD 0 d:=rfl
theorem zIj (r:zd):vv (r,()) = some (zi9 r.1,()):=by
  simp only [vv,zfn,zdT,Option.bind_some]
  by_cases hw:qf (List.length r.1:Int) 1 8 = true
  · have hb:1 ≤ List.length r.1 ∧ List.length r.1 ≤ 8:=by unfold qf at hw; grind
    have hl:List.length r.1 ≤ Go.maxLen:=by unfold Go.maxLen; omega
    have hloop:zgQ K0 (1,r) = bif ql (fun i=>decide (zvD (List.getD r.1 (i - 1) (ze zD)) (List.getD r.1 i (ze zD)) < 0)) 1 (List.length r.1 - 1) then some (true,()) else some (false,()) :=
      yF (i0:=1) hl hb.1 (fun i=>(i,r)) (fun k i h1 h2=>by
        simp only [zdQ]
        rw [ltT h2,ztc h1 (by omega),zE (by omega),zE h2,qe,Int.toNat_natCast,zEs]
        simp only [cond_true,Option.bind_some]; grind) (fun k=>by simp only [zdQ]; rw [ltF]; rfl)
    rw [zih (p:=fun a=>!zdh a) hl fun x _=>zF3 x,hloop,zIi]
    have:=jP (l:=r.1) (p:=zdh)
    unfold zi9
    simp only [Option.bind_some]
    grind
  · unfold zi9; grind
end Go.Proofs.YtejbgeokcpillaaGreatDoor
end
section
namespace Go.Proofs.YtejbgeokcpillaaGreatDoor
open Go.Ev
def small (c:Int):Bool:=decide (97 ≤ c ∧ c ≤ 122)
def zA8 (c:Int):Bool:=decide (48 ≤ c ∧ c ≤ 57)
theorem zEX (c:Int):zeI (c,()) = some (small c,()):=by
  simp only [zeI,small]; grind
theorem zIZ (c:Int):zhr (c,()) = some (zA8 c,()):=by
  simp only [zhr,zA8]; grind
def zA9 (c:Int):Bool:=small c || zA8 c
theorem zJA (c:Int):zfg (c,()) = some (zA9 c,()):=by
  simp only [zfg,zEX,zIZ,Option.bind_some,zA9]; grind
def ze0 (s:ByteArray):List Int:=List.map (fun b:UInt8=>(b.toNat:Int)) s.data.toList
def chr (s:ByteArray) (i:Nat):Int:=(((s.data.toList).getD i 0).toNat:Int)
theorem zkm (s:ByteArray):(ze0 s).length = s.size:=by unfold ze0; rw [List.length_map]; rfl
theorem zoZ (s:ByteArray):s.data.toList.length = s.size:=rfl
theorem zxD (s:ByteArray) (p:Int→Bool):(ze0 s).all p = ql (fun i=>p (chr s i)) 0 s.size:=by
  rw [Bool.eq_iff_iff,jl,List.all_eq_true]
  have key:∀ i,i < s.size→(ze0 s)[i]? = some (chr s i):=fun i hi=>by
    unfold ze0 chr
    rw [List.getElem?_map,List.getElem?_eq_getElem (by rw [zoZ]; exact hi)]
    simp [List.getD,zoZ,hi]
  constructor
  · intro h j _ hj
    exact h _ (List.mem_of_getElem? (key j (by omega)))
  · intro h x hx
    obtain ⟨i,hi,rfl⟩:=List.mem_iff_getElem.1 hx
    rw [zkm] at hi
    have:=key i hi
    rw [List.getElem?_eq_getElem (by rw [zkm]; exact hi)] at this
    rw [Option.some.inj this]
    exact h i (by omega) (by omega)
theorem zxE {s:ByteArray} {g:Int × Unit→Option (Bool × Unit)} {p:Int→Bool} (hl:s.size ≤ Go.maxLen) (hp:∀ c,g (c,()) = some (p c,())):zkR (s,some g,()) = some ((ze0 s).all p,()):=by
  have h:j3 (ze0 s,some fun z=>zhq (z.1,some (some g),()),()) = some ((ze0 s).any fun x=>!p x,()):=zrh (by rw [zkm]; exact hl) fun x hx=>by
    show Option.bind (g (x,())) (fun q=>bif q.1 then some (false,()) else some (true,())) = _
    rw [hp x]; cases p x <;> rfl
  show Option.bind (j3 (ze0 s,some fun z=>zhq (z.1,some (some g),()),())) (fun q=>bif q.1 then some (false,()) else some (true,())) = _
  rw [h,← jP]; cases (ze0 s).any fun x=>!p x <;> rfl
def zfr (s:ByteArray):Bool:=decide (1 ≤ s.size) && (decide (s.size ≤ 12) && ql (fun i=>small (chr s i) || (decide (i ≠ 0) && zA8 (chr s i))) 0 s.size)
theorem zIk (s:ByteArray):zfr s = (decide (1 ≤ s.size) && (decide (s.size ≤ 12) && (small (chr s 0) && (ze0 s).all zA9))):=by
  rw [zxD,zfr,Bool.eq_iff_iff]
  simp only [Bool.and_eq_true,decide_eq_true_eq,jl,zA9]
  constructor
  · rintro ⟨h1,h2,h3⟩
    have:=h3 0 (by omega) (by omega)
    refine ⟨h1,h2,by grind,fun j h4 h5=>?_⟩
    have:=h3 j h4 h5
    grind
  · rintro ⟨h1,h2,h3,h4⟩
    refine ⟨h1,h2,fun j h5 h6=>?_⟩
    have:=h4 j h5 h6
    by_cases e:j = 0
    · subst e; grind
    · grind
theorem zij (s:ByteArray):yT (s,()) = some (zfr s,()):=by
  rw [zP]
  simp only [yT]
  rw [zIk]
  by_cases h1:s.size < 1
  · grind
  by_cases h2:s.size > 12
  · grind
  rw [zxE (by unfold Go.maxLen; omega) zJA]
  have hc:((UInt8.toNat (List.getD s.data.toList (Int.toNat 0) 0):Nat):Int) = chr s 0:=rfl
  rw [hc,zEX]
  simp only [Option.bind_some]
  grind
def zjY (a:qO):Bool:=zfr a.1 && (zfr a.2.1 && qf a.2.2.1 0 3)
theorem zCR (a:qO):zb4 (a,()) = some (!zjY a,()):=by
  simp only [zb4,zij,zdT,Option.bind_some,zjY]; grind
theorem zaR {α:Type} (d x:α):zj (List.replicate 1 d) 0 x = [x]:=rfl
theorem zd8 {n:Nat} (h:n ≤ 1000000):decide (n ≤ lim) = true:=decide_eq_true (by unfold lim; omega)
theorem zEt (r:zd) (h:r.2.2.1.length ≤ 1000):zfD (r,()) = some (r.2.2.1.map (·.1),()):=by
  have hl:r.2.2.1.length ≤ Go.maxLen:=by unfold Go.maxLen; omega
  have:=ve (B:=yj) (α:=List ByteArray) (len:=r.2.2.1.length) hl (fun i o=>(r.2.2.1,(r.2.2.1.length:Int),i,o)) (fun i o=>some (o ++ (r.2.2.1.drop i).map (·.1),())) (fun i o=>o.length ≤ i) (fun k i s hi hI hk=>by
    simp only [yj]
    rw [ltT hi,zE hi,qe,zaR,zd8 (by simp; omega)]
    simp only [cond_true]
    rw [hk _ (by simp; omega),vW zpv hi]
    simp) (fun k s _=>by
    simp only [yj]
    rw [ltF,List.drop_of_length_le (Nat.le_refl _)]
    simp) [] (Nat.le_refl _)
  exact this
def zl8:List ByteArray→Bool
  | []=>true
  | x :: l=>!(l.any fun y=>eqI .str x y) && zl8 l
theorem ztf (x y:ByteArray):eqI .str x y = (x.toList == y.toList):=rfl
theorem zHo (o:List (ByteArray × Int)) (x z:ByteArray) (v:Int):zao .str (yt .str o x v) z = (zao .str o z || eqI .str z x):=by
  induction o with
  | nil=>simp only [yt,zao]; cases eqI .str z x <;> rfl
  | cons e o ih =>
    simp only [yt,zao]
    cases h:eqI .str x e.1 with
    | true =>
      simp only [cond_true,zao]
      have:eqI .str z e.1 = eqI .str z x:=by rw [ztf] at *; rw [ztf]; have:=eq_of_beq h; rw [this]
      cases h2:eqI .str z e.1 with
      | true=>rfl
      | false=>rw [← this,h2]; simp
    | false =>
      simp only [cond_false,zao,ih]
      cases eqI .str z e.1 <;> rfl
theorem zCS (o:List (ByteArray × Int)) (x:ByteArray) (v:Int):(yt .str o x v).length = o.length + (bif zao .str o x then 0 else 1):=by
  induction o with
  | nil=>rfl
  | cons e o ih =>
    simp only [yt,zao]
    cases h:eqI .str x e.1 with
    | true=>simp only [cond_true,List.length_cons,Nat.add_zero]
    | false =>
      simp only [cond_false,List.length_cons,ih]
      generalize (bif zao .str o x then 0 else 1) = n
      omega
def zpN:List ByteArray→List (ByteArray × Int)→Nat
  | [],o=>o.length
  | x :: l,o=>zpN l (yt .str o x (wI (zcl .str (0:Int) o x + 1)))
theorem zEY:∀ (l:List ByteArray) (o:List (ByteArray × Int)),zpN l o ≤ o.length + l.length
  | [],o=>Nat.le_refl _
  | x :: l,o=>by
    have h:=zEY l (yt .str o x (wI (zcl .str (0:Int) o x + 1)))
    rw [zCS] at h
    simp only [zpN,List.length_cons]
    cases hm:zao .str o x <;> (rw [hm] at h; simp only [cond_true,cond_false] at h; omega)
theorem zEZ:∀ (l:List ByteArray) (o:List (ByteArray × Int)),(zpN l o == o.length + l.length) = (zl8 l && l.all fun x=>!zao .str o x)
  | [],o=>by simp [zpN,zl8]
  | x :: l,o=>by
    have h:=zEY l (yt .str o x (wI (zcl .str (0:Int) o x + 1)))
    have ih:=zEZ l (yt .str o x (wI (zcl .str (0:Int) o x + 1)))
    rw [zCS] at h ih
    simp only [zpN,List.length_cons,zl8,List.all_cons]
    cases hm:zao .str o x with
    | true =>
      rw [hm] at h
      simp only [cond_true] at h
      have:(zpN l (yt .str o x (wI (zcl .str (0:Int) o x + 1))) == o.length + (l.length + 1)) = false:=by
        simp only [beq_eq_false_iff_ne]; omega
      rw [this]
      simp
    | false =>
      rw [hm] at ih
      simp only [cond_false] at ih
      rw [show o.length + (l.length + 1) = o.length + 1 + l.length by omega,ih]
      simp only [zHo,Bool.not_or,Bool.not_false,Bool.true_and]
      have:(l.all fun z=>!zao .str o z && !eqI .str z x) = ((l.all fun z=>!zao .str o z) && !(l.any fun y=>eqI .str x y)):=by
        rw [Bool.eq_iff_iff]
        simp only [List.all_eq_true,Bool.and_eq_true,Bool.not_eq_true',List.any_eq_false,Bool.not_eq_true]
        have hs:∀ z,eqI .str z x = eqI .str x z:=fun z=>by rw [ztf,ztf]; exact Bool.beq_comm
        grind
      rw [this]
      cases zl8 l <;> cases (l.all fun z=>!zao .str o z) <;> cases (l.any fun y=>eqI .str x y) <;> rfl
theorem zHp (m n:Nat):(((m:Nat):Int) == ((n:Nat):Int)) = (m == n):=by
  rw [Bool.eq_iff_iff]; simp only [beq_iff_eq]; omega
theorem zI0 (l:List ByteArray) (h:l.length ≤ 1000):zlm (l,()) = some (zl8 l,()):=by
  have:=zrD (B:=zcX) (l:=l) (α:=List (ByteArray × Int)) (ze .str) (fun i o=>(l,l,(l.length:Int),i,o)) (fun rest o=>some (zpN rest o == l.length,())) (by unfold Go.maxLen; omega) (fun k i x rest s hi hx _ hr hk=>by
    simp only [zcX]
    rw [ltT hi,zE hi,Int.toNat_natCast,hx]
    simp only [cond_true]
    exact hk _) (fun k s=>by
    simp only [zcX]
    rw [ltF]
    simp only [cond_false,zpN]
    rw [zHp]
    cases s.length == l.length <;> rfl) []
  refine this.trans ?_
  have h2:=zEZ l []
  simp only [List.length_nil,Nat.zero_add] at h2
  rw [h2]
  simp [zao]
def zha (l:List qO):Bool:=qf (l.length:Int) 1 8 && (l.all zjY && zl8 (l.map (·.1)))
theorem zF4 (r:zd):jD (r,()) = some (zha r.2.2.1,()):=by
  rw [zP]
  simp only [jD,zdT,Option.bind_some]
  unfold zha
  by_cases hw:qf (List.length r.2.2.1:Int) 1 8 = true
  · have hb:1 ≤ List.length r.2.2.1 ∧ List.length r.2.2.1 ≤ 8:=by unfold qf at hw; grind
    rw [znW (p:=fun a=>!zjY a) (by unfold Go.maxLen; omega) fun x _=>zCR x,zEt r (by omega)]
    simp only [Option.bind_some]
    rw [zI0 _ (by simp; omega)]
    simp only [Option.bind_some]
    have:=jP (l:=r.2.2.1) (p:=zjY)
    grind
  · grind
def zl9 (r:zd):Bool:=qf (r.2.1.length:Int) 1 8 && r.2.1.all fun i=>decide (0 ≤ i) && decide (i < (r.1.length:Int))
theorem zI1 (r:zd) (h:r.1.length ≤ 1000):yb (r,()) = some (zl9 r,()):=by
  rw [zP]
  simp only [yb,zdT,Option.bind_some]
  unfold zl9
  by_cases hw:qf (List.length r.2.1:Int) 1 8 = true
  · have hb:1 ≤ List.length r.2.1 ∧ List.length r.2.1 ≤ 8:=by unfold qf at hw; grind
    have hq:∀ x:Int,(fun z:Int × Unit=>zbS (z.1,some r,())) (x,()) = some (!(decide (0 ≤ x) && decide (x < (r.1.length:Int))),()):=fun x=>by
      show zbS _ = _
      simp only [zbS,zdT,Option.bind_some]
      have:wI (((List.length r.1:Nat):Int) - 1) = (r.1.length:Int) - 1:=by
        unfold wI
        exact IntWalk.i64_in _ (by omega)
      rw [this]
      unfold qf
      grind
    rw [zci (by unfold Go.maxLen; omega) fun x _=>hq x]
    simp only [Option.bind_some]
    have:=jP (l:=r.2.1) (p:=fun i=>decide (0 ≤ i) && decide (i < (r.1.length:Int)))
    grind
  · grind
def ztg (r:zd):Bool:=qf r.2.2.2.2.2.1 0 24 && (qf r.2.2.2.2.2.2.1 0 48 && (qf r.2.2.2.2.2.2.2.1 1 4 && qf r.2.2.2.2.2.2.2.2.1 1 16))
theorem zJB (r:zd):yS (r,()) = some (ztg r,()):=by
  simp only [yS,zdT,Option.bind_some,ztg]; grind
def zhb (q:zbG):Bool:=qf q.1 0 12 && (qf q.2.1 0 12 && (qf q.2.2.1 0 12 && (qf q.2.2.2.1 0 12 && qf q.2.2.2.2.1 0 12)))
def zpO:Int→List zbG→Bool
  | _,[]=>true
  | left,q :: l=>zhb q && (decide (q.2.2.2.2.2.1 ≤ left) && zpO (wU (left - q.2.2.2.2.2.1)) l)
theorem zF5 (x:Int):zdM (x,()) = some (!qf x 0 12,()):=by
  simp only [zdM,zdT,Option.bind_some]; grind
def zja (n:Nat) (l:List zbG):Bool:=decide (l.length = n) && (decide (0 < l.length) && (decide (1 ≤ (l.getD 0 jS).1) && zpO 4611686018427387904 l))
theorem zIl (r:zd) (h:1 ≤ r.1.length ∧ r.1.length ≤ 1000):vu (r,()) = some (zja r.1.length r.2.2.2.2.1,()):=by
  rw [zP]
  simp only [vu,zfk]
  unfold zja
  by_cases hn:r.2.2.2.2.1.length = r.1.length
  · have hl:r.2.2.2.2.1.length ≤ Go.maxLen:=by unfold Go.maxLen; omega
    have hloop:zgO K0 (4611686018427387904,r.2.2.2.2.1,(r.2.2.2.2.1.length:Int),0) = some (zpO 4611686018427387904 r.2.2.2.2.1,()) :=
      zrD (l:=r.2.2.2.2.1) (α:=Int) jS (fun i s=>(s,r.2.2.2.2.1,(r.2.2.2.2.1.length:Int),i)) (fun rest s=>some (zpO s rest,())) hl (fun k i x rest s hi hx _ hr hk=>by
        simp only [zdP]
        rw [ltT hi,zE hi]
        simp only [qe,hx,cond_true]
        have hnum:zhs (x,()) = some ([x.1,x.2.1,x.2.2.1,x.2.2.2.1,x.2.2.2.2.1],()):=rfl
        rw [hnum]
        simp only [Option.bind_some]
        rw [zci (p:=fun n=>!qf n 0 12) (l:=[x.1,x.2.1,x.2.2.1,x.2.2.2.1,x.2.2.2.2.1]) (by unfold Go.maxLen; simp) fun n _=>zF5 n]
        simp only [Option.bind_some,hk,zpO,zhb,List.any_cons,List.any_nil]
        grind) (fun k s=>by simp only [zdP]; rw [ltF]; rfl) _
    rw [hloop,zIi]
    have h1:(((List.length r.2.2.2.2.1:Nat):Int) != ((List.length r.1:Nat):Int)) = false:=by rw [zmI]; simp [hn]
    rw [h1]
    grind
  · have h1:(((List.length r.2.2.2.2.1:Nat):Int) != ((List.length r.1:Nat):Int)) = true:=by rw [zmI]; simp [hn]
    rw [h1]
    grind
end Go.Proofs.YtejbgeokcpillaaGreatDoor
end
section
namespace Go.Proofs.YtejbgeokcpillaaGreatDoor
open Go.Ev
def zvE (b:Int):Int:=((2 ^ b.toNat:Nat):Int)
def vR (b:Int):Bool:=decide (0 ≤ b) && decide (b < 64)
theorem zJC {b:Int} (h:vR b = true):Go.IntKind.wrap .u64 (1 * 2 ^ (min (Int.toNat b) (Go.IntKind.bits .u64))) = zvE b:=by
  unfold vR at h
  simp only [Bool.and_eq_true,decide_eq_true_eq] at h
  obtain ⟨n,rfl⟩:=Int.eq_ofNat_of_zero_le h.1
  have hn:n < 64:=by omega
  unfold zvE
  rw [Int.toNat_natCast]
  have hm:min n (Go.IntKind.bits .u64) = n:=Nat.min_eq_left (by show n ≤ 64; omega)
  rw [hm]
  have:∀ n:Fin 64,Go.IntKind.wrap .u64 (1 * 2 ^ n.val) = ((2 ^ n.val:Nat):Int):=by decide +kernel
  exact this ⟨n,hn⟩
theorem zF6 {n:Int} (h:0 ≤ n ∧ n < 18446744073709551616):Go.IntKind.wrap .u64 n = n:=by
  show n % ((2 ^ 64:Nat):Int) = n
  exact Int.emod_eq_of_lt h.1 (by have:((2 ^ 64:Nat):Int) = 18446744073709551616:=by decide
                                  omega)
def zy0 (c:Int) (b:Nat):Bool:=c.toNat.testBit b
def zfs (a b:Int):Int:=Go.IntKind.wrap .u64 (BitVec.toNat (BitVec.ofInt (Go.IntKind.bits .u64) a &&& ~~~BitVec.ofInt (Go.IntKind.bits .u64) b):Int)
def orI (a b:Int):Int:=Go.IntKind.wrap .u64 (BitVec.toNat (BitVec.ofInt (Go.IntKind.bits .u64) a ||| BitVec.ofInt (Go.IntKind.bits .u64) b):Int)
def zkW:Int→List zI→Int
  | a,[]=>a
  | a,g :: gs=>zkW (orI a (zvE g.1)) gs
theorem zjZ (n:Nat):BitVec.ofInt (Go.IntKind.bits .u64) (n:Int) = BitVec.ofNat 64 n:=by
  show BitVec.ofInt 64 (n:Int) = BitVec.ofNat 64 n
  apply BitVec.eq_of_toNat_eq
  rw [BitVec.toNat_ofInt,BitVec.toNat_ofNat]
  omega
theorem zII (x:BitVec 64):Go.IntKind.wrap .u64 (x.toNat:Int) = (x.toNat:Int):=by
  have:=x.isLt
  exact zF6 (by omega)
theorem zI2 (a b:Nat) (ha:a < 2 ^ 64) (hb:b < 2 ^ 64):orI (a:Int) (b:Int) = ((a ||| b:Nat):Int):=by
  unfold orI
  rw [zjZ,zjZ]
  show Go.IntKind.wrap .u64 ((BitVec.ofNat 64 a ||| BitVec.ofNat 64 b).toNat:Int) = _
  rw [zII,BitVec.toNat_or,BitVec.toNat_ofNat,BitVec.toNat_ofNat,Nat.mod_eq_of_lt ha,Nat.mod_eq_of_lt hb]
theorem zuq (c m:Nat) (hc:c < 2 ^ 64) (hm:m < 2 ^ 64):(zfs (c:Int) (m:Int) != 0) = !((List.range' 0 64).all fun i=>!c.testBit i || m.testBit i):=by
  unfold zfs
  rw [zjZ,zjZ]
  show (Go.IntKind.wrap .u64 ((BitVec.ofNat 64 c &&& ~~~BitVec.ofNat 64 m).toNat:Int) != 0) = _
  rw [zII]
  have hbit:∀ i,i < 64→(BitVec.ofNat 64 c &&& ~~~BitVec.ofNat 64 m).getLsbD i = (c.testBit i && !m.testBit i):=by
    intro i hi
    rw [BitVec.getLsbD_and,BitVec.getLsbD_not,BitVec.getLsbD_ofNat,BitVec.getLsbD_ofNat]
    simp [hi]
  by_cases h:((List.range' 0 64).all fun i=>!c.testBit i || m.testBit i) = true
  · rw [h]
    have h0:(BitVec.ofNat 64 c &&& ~~~BitVec.ofNat 64 m) = 0#64:=by
      apply BitVec.eq_of_getLsbD_eq
      intro i hi
      rw [hbit i hi]
      have:=List.all_eq_true.1 h i (by simp [List.mem_range'_1]; omega)
      revert this
      cases c.testBit i <;> cases m.testBit i <;> simp
    rw [h0]
    rfl
  · have h':=h
    simp only [Bool.not_eq_true] at h'
    rw [h']
    have:(BitVec.ofNat 64 c &&& ~~~BitVec.ofNat 64 m).toNat ≠ 0:=by
      intro h0
      apply h
      rw [List.all_eq_true]
      intro i hi
      simp only [List.mem_range'_1] at hi
      have hb:=hbit i (by omega)
      have e0:(BitVec.ofNat 64 c &&& ~~~BitVec.ofNat 64 m) = 0#64:=BitVec.eq_of_toNat_eq (by rw [h0]; rfl)
      rw [e0] at hb
      revert hb
      cases c.testBit i <;> cases m.testBit i <;> simp
    rw [Bool.not_false,bne_iff_ne]
    omega
theorem zIm {b:Int} (h:vR b = true):∃ n:Nat,b = n ∧ n < 64 ∧ zvE b = ((2 ^ n:Nat):Int):=by
  unfold vR at h
  simp only [Bool.and_eq_true,decide_eq_true_eq] at h
  obtain ⟨n,rfl⟩:=Int.eq_ofNat_of_zero_le h.1
  exact ⟨n,rfl,by omega,rfl⟩
theorem zxF:∀ (l:List zI) (m:Nat),m < 2 ^ 64→(∀ g ∈ l,vR g.1 = true)→∃ k:Nat,zkW (m:Int) l = (k:Int) ∧ k < 2 ^ 64 ∧ ∀ i:Nat,k.testBit i = (m.testBit i || l.any fun g=>g.1 == (i:Int))
  | [],m,hm,_=>⟨m,rfl,hm,fun i=>by simp⟩
  | g :: l,m,hm,h=>by
    obtain ⟨n,hn,hn64,hv⟩:=zIm (h g (by simp))
    have hp:2 ^ n < 2 ^ 64:=Nat.pow_lt_pow_right (by omega) hn64
    obtain ⟨k,hk,hk64,hb⟩:=zxF l (m ||| 2 ^ n) (Nat.or_lt_two_pow hm hp) fun g hg=>h g (by simp [hg])
    refine ⟨k,?_,hk64,fun i=>?_⟩
    · simp only [zkW]
      rw [hv,zI2 m (2 ^ n) hm hp]
      exact hk
    · rw [hb i,Nat.testBit_or,Nat.testBit_two_pow,List.any_cons,hn,Bool.or_assoc]
      congr 2
      by_cases e:n = i
      · subst e; simp
      · rw [decide_eq_false e]
        symm
        simp only [beq_eq_false_iff_ne,ne_eq]
        omega
def zF7 (l:List zI) (c:Int) (i k:Nat):Bool:=(List.range' i k).all fun b=>!zy0 c b || l.any fun g=>g.1 == (b:Int)
def zCT (labels:List zA) (l:List zI):Bool:=labels.all fun a=>zF7 l a.2.1 0 64
def zpP (l:List zA):Prop:=∀ a ∈ l,0 ≤ a.2.1 ∧ a.2.1 < 18446744073709551616
theorem zJD (labels:List zA) (l:List zI) (hl:zpP labels) (h:∀ g ∈ l,vR g.1 = true):(labels.any fun a=>zfs a.2.1 (zkW 0 l) != 0) = !zCT labels l:=by
  obtain ⟨k,hk,hk64,hb⟩:=zxF l 0 (by decide) h
  have hk':zkW 0 l = (k:Int):=hk
  rw [hk']
  unfold zCT
  have key:∀ ls:List zA,zpP ls→(ls.any fun a=>zfs a.2.1 (k:Int) != 0) = !(ls.all fun a=>zF7 l a.2.1 0 64):=by
    intro ls
    induction ls with
    | nil=>intro _; rfl
    | cons a ls ih =>
      intro ha
      have h1:=ha a (by simp)
      rw [List.any_cons,List.all_cons,ih fun b hb=>ha b (by simp [hb]),Bool.not_and]
      congr 1
      obtain ⟨c,hc⟩:=Int.eq_ofNat_of_zero_le h1.1
      rw [hc,zuq c k (by omega) hk64]
      congr 1
      unfold zF7
      congr 1
      funext i
      rw [hb i]
      unfold zy0
      simp
  exact key labels hl
def zpQ (b:Int):zA:=(0,zvE b,())
theorem zsK (b:Int):zeK (b,()) = some (bif vR b then (zpQ b,0,()) else ((0,0,()),1,())):=by
  simp only [zeK]
  cases h:vR b with
  | true =>
    have hs:wU (1 * 2 ^ min (Int.toNat b) (Go.IntKind.bits .u64)) = zvE b:=zJC h
    rw [hs]
    simp only [vR,Bool.and_eq_true,decide_eq_true_eq] at h
    simp only [zpQ]
    grind
  | false =>
    simp only [vR,Bool.and_eq_false_iff,decide_eq_false_iff_not] at h
    grind
theorem zF8 (a:zA) (c:Int):zgB (a,some c,()) = some (zfs a.2.1 c != 0,()):=by
  rw [zP]; rfl
theorem zIn {σ α:Type} {B:(σ→Option (Int × Unit))→σ→Option (Int × Unit)} {l:List α} (d:α) {p:α→Bool} (st:Int→σ) (hl:l.length ≤ Go.maxLen)
    (hin:∀ k (i:Nat) x,i < l.length→l.getD i d = x→x ∈ l→B k (st i) = bif p x then some ((i:Int),()) else k (st (wI (i + 1)))) (hout:∀ k,B k (st l.length) = some (-1,())):zm B K0 (st 0) = some (qR p l 0,()):=by
  have:=ve (α:=Unit) (B:=B) hl (fun i _=>st i) (fun i _=>some (qR p (l.drop i) i,())) (fun _ _=>True) (fun k i s hi _ h=>?_) (fun k s _=>?_) () trivial
  · simpa using this
  · rw [hin k i _ hi rfl (z9 hi),h () trivial,vW d hi]
    simp only [qR]
    cases p (l.getD i d) <;> rfl
  · rw [hout,List.drop_of_length_le (Nat.le_refl _)]; rfl
theorem zvF {l:List zA} {a:zA} (hl:l.length ≤ Go.maxLen):zbj (l,a,()) = some (l.any fun y=>eqI zD a y,()):=by
  have h:zgA (l,a,()) = some (qR (fun y=>eqI zD a y) l 0,()) :=
    zIn (B:=yM) (l:=l) qK (fun i=>(l,(l.length:Int),i,a)) hl (fun k i x hi hx _=>by
      simp only [yM]
      rw [ltT hi,zE hi,qe,hx]; rfl) (fun k=>by simp only [yM]; rw [ltF]; rfl)
  rw [zP]
  simp only [zbj,h,Option.bind_some]
  rw [zuP (p:=fun y=>eqI zD a y) l 0 (Int.le_refl 0)]
def zCU (labels:List zA) (n:Nat) (last:Int) (g:zI):Bool:=vR g.1 && (decide (last < g.1) && (qf g.2.1 0 ((n:Int) - 1) && labels.any fun y=>eqI zD (zpQ g.1) y))
def ze1 (labels:List zA) (n:Nat):Int→List zI→Bool
  | _,[]=>true
  | last,g :: gs=>zCU labels n last g && ze1 labels n g.1 gs
def zth (labels:List zA) (n:Nat) (l:List zI):Bool:=decide (l.length ≤ 8) && (ze1 labels n (-1) l && zCT labels l)
theorem zzJ {labels:List zA} {m:Nat}:∀ (l:List zI) (last:Int),ze1 labels m last l = true→∀ g ∈ l,vR g.1 = true
  | [],_,_,g,hg=>by cases hg
  | a :: l,last,h,g,hg=>by
    simp only [ze1,zCU,Bool.and_eq_true] at h
    rcases List.mem_cons.1 hg with rfl | hg
    · exact h.1.1
    · exact zzJ l a.1 h.2 g hg
theorem zIo (r:zd) (h1:r.1.length ≤ Go.maxLen) (h2:r.2.2.1.length ≤ 1000000) (h3:r.2.2.2.1.length ≤ Go.maxLen) (hL:zpP r.1):vt (r,()) = some (zth r.1 r.2.2.1.length r.2.2.2.1,()):=by
  have hloop:vt (r,()) = some (ze1 r.1 r.2.2.1.length (-1) r.2.2.2.1 && (decide (r.2.2.2.1.length ≤ 8) && !(r.1.any fun a=>zfs a.2.1 (zkW 0 r.2.2.2.1) != 0)),()) :=
    zrD (B := za0) (l:=r.2.2.2.1) (α:=Int × Int) qE (fun i s=>(s.1,r.2.2.2.1,(r.2.2.2.1.length:Int),i,r,s.2))
      (fun rest s=>some (ze1 r.1 r.2.2.1.length s.1 rest && (decide (r.2.2.2.1.length ≤ 8) && !(r.1.any fun a=>zfs a.2.1 (zkW s.2 rest) != 0)),())) h3 (fun k i x rest s hi hx _ hr hk=>by
        simp only [za0]
        have hw:wI (((List.length r.2.2.1:Nat):Int) - 1) = (r.2.2.1.length:Int) - 1:=by
          unfold wI
          exact IntWalk.i64_in _ (by omega)
        rw [ltT hi,zE hi,hw]
        simp only [qe,hx,cond_true,zsK,Option.bind_some,ze1,zCU,zkW]
        cases hb:vR x.1 with
        | false=>rfl
        | true =>
          simp only [cond_true,zdT,Option.bind_some,Bool.true_and,zvF h1]
          have hk':=hk (x.1,orI s.2 (zvE x.1))
          have e:decide (s.1 < x.1) = !decide ((x.1:Int) ≤ s.1):=by grind
          rw [e]
          cases decide ((x.1:Int) ≤ s.1) with
          | true=>rfl
          | false =>
            cases qf x.2.1 0 ((r.2.2.1.length:Int) - 1) with
            | false=>rfl
            | true =>
              cases (r.1.any fun y=>eqI zD (zpQ x.1) y) with
              | false=>rfl
              | true=>exact hk') (fun k s=>by
        simp only [za0]
        rw [ltF]
        simp only [cond_false,ze1,zkW,Bool.true_and]
        rw [zih (p:=fun a=>zfs a.2.1 s.2 != 0) h1 fun x _=>zF8 x s.2,Option.bind_some]
        grind) (-1,0)
  rw [hloop]
  unfold zth
  cases hr:ze1 r.1 r.2.2.1.length (-1) r.2.2.2.1 with
  | false=>simp
  | true =>
    rw [zJD r.1 r.2.2.2.1 hL (zzJ _ _ hr)]
    simp
theorem zF9 {labels:List zA} {n:Nat}:∀ {l:List zI} {last:Int},ze1 labels n last l = ql (fun i=>zCU labels n (if i = 0 then last else (l.getD (i - 1) qE).1) (l.getD i qE)) 0 l.length:=by
  intro l
  induction l with
  | nil=>intro last; rfl
  | cons a l ih =>
    intro last
    simp only [ze1,List.length_cons,ql,ih]
    rw [Bool.eq_iff_iff]
    simp only [Bool.and_eq_true,jl]
    constructor
    · rintro ⟨h1,h2⟩
      refine ⟨h1,fun j h3 h4=>?_⟩
      obtain ⟨i,rfl⟩:∃ i,j = i + 1:=⟨j - 1,by omega⟩
      have:=h2 i (by omega) (by omega)
      rw [if_neg (by omega)]
      by_cases e:i = 0
      · subst e; simpa using this
      · rw [if_neg e] at this
        obtain ⟨m,rfl⟩:∃ m,i = m + 1:=⟨i - 1,by omega⟩
        exact this
    · rintro ⟨h1,h2⟩
      refine ⟨h1,fun j h3 h4=>?_⟩
      have:=h2 (j + 1) (by omega) (by omega)
      rw [if_neg (by omega)] at this
      by_cases e:j = 0
      · subst e; simpa using this
      · rw [if_neg e]
        obtain ⟨m,rfl⟩:∃ m,j = m + 1:=⟨j - 1,by omega⟩
        exact this
def qk (r:zd):Bool:=zi9 r.1 && (zl9 r && (zha r.2.2.1 && (zth r.1 r.2.2.1.length r.2.2.2.1 && (zja r.1.length r.2.2.2.2.1 && ztg r))))
structure z7 (r:zd):Prop where
  labels:zpP r.1
  guilds:r.2.2.2.1.length ≤ Go.maxLen
  quotas:r.2.2.2.2.1.length ≤ Go.maxLen
theorem zd9 (r:zd) (h:z7 r):zac (r,()) = some (qk r,()):=by
  rw [zP]
  show zm zew K0 (6,0,r,[some vv,some yb,some jD,some vt,some vu,some yS]) = _
  obtain ⟨m,hm⟩:=zte
  have hu:zm zew (m + 8) (6,0,r,[some vv,some yb,some jD,some vt,some vu,some yS]) =
    Option.bind (vv (r,())) fun q=>bif q.1 then Option.bind (yb (r,())) fun q=>bif q.1 then Option.bind (jD (r,())) fun q=>bif q.1 then Option.bind (vt (r,())) fun q=>bif q.1 then Option.bind (vu (r,())) fun q=>bif q.1 then Option.bind (yS (r,())) fun q=>bif q.1 then some (true,()) else some (false,()) else some (false,()) else some (false,()) else some (false,()) else some (false,()) else some (false,()):=by kernel_rfl
  rw [hm,hu,zIj]
  unfold qk
  simp only [Option.bind_some]
  cases h1:zi9 r.1 with
  | false=>rfl
  | true =>
    have hb:1 ≤ r.1.length ∧ r.1.length ≤ 8:=by unfold zi9 qf at h1; grind
    rw [zI1 r (by omega),zF4]
    simp only [Option.bind_some,cond_true]
    cases zl9 r with
    | false=>rfl
    | true =>
      cases h2:zha r.2.2.1 with
      | false=>rfl
      | true =>
        have hc:r.2.2.1.length ≤ 8:=by unfold zha qf at h2; grind
        rw [zIo r (by unfold Go.maxLen; omega) (by omega) h.guilds h.labels,zIl r (by omega),zJB]
        simp only [Option.bind_some]
        grind
end Go.Proofs.YtejbgeokcpillaaGreatDoor
end
section
namespace Go.Proofs.YtejbgeokcpillaaGreatDoor
open Go.Ev
def jt (x:Int):Bool:=decide (0 ≤ x ∧ x ≤ 127)
theorem zGa (x:Int):zdz (x,()) = some (jt x,()):=by simp only [zdz,jt]; grind
theorem zHq (x:Int):zg5 (x,()) = some (jt x,()):=by simp only [zg5,jt]; grind
def zpR (x:qw):Bool:=jt x.1 && jt x.2.1
theorem zI3 (x:qw):zeL (x,()) = some (zpR x,()):=by simp only [zeL,zpR,jt]; grind
def zGb (x:Int):Bool:=decide (0 ≤ x ∧ x ≤ 5)
theorem zI4 (x:Int):zhu (x,()) = some (zGb x,()):=by simp only [zhu,zGb]; grind
def zxG (s:ByteArray):Bool:=ByteArray.toList s == ByteArray.toList (ByteArray.mk #[])
def zo0 (x:qX):Bool:=bif x.1 then zfr x.2.1 else zxG x.2.1
theorem zHr (x:qX):zfo (x,()) = some (!zo0 x,()):=by
  rw [zP]
  simp only [zfo,zij,Option.bind_some,zo0,zxG]
  grind
theorem zCV {l:List qX} (hl:l.length ≤ Go.maxLen):zh4 (l,()) = some (l.all zo0,()):=by
  rw [zP]
  simp only [zh4]
  rw [zrf (p:=fun x=>!zo0 x) hl fun x _=>zHr x,Option.bind_some,← jP]
  cases l.any fun x=>!zo0 x <;> rfl
theorem zI5 (a b:qw):eqI zB a b = ((a.1:Int) == b.1 && (a.2.1:Int) == b.2.1):=by
  show cond ((a.1:Int) == b.1) (cond ((a.2.1:Int) == b.2.1) true false) false = _
  cases ((a.1:Int) == b.1) <;> cases ((a.2.1:Int) == b.2.1) <;> rfl
def zxH (x:z8):Bool:=bif x.1 then zpR x.2.1 && (zpR x.2.2.1 && zGb x.2.2.2.1) else eqI zV x (ze zV)
theorem zCW (x:z8):zhS (x,()) = some (!zxH x,()):=by
  rw [zP]
  simp only [zhS,zI3,zI4,Option.bind_some,zxH]
  grind
def zjb (a b:z8):Bool:=a.1 && (eqI zB a.2.1 b.2.1 && (a.2.2.2.1:Int) == b.2.2.2.1)
theorem zy1 (x:z8) (r:qw) (d:Int):zfc (x,some r,some d,()) = some (x.1 && (eqI zB x.2.1 r && (x.2.2.2.1:Int) == d),()):=by
  rw [zP]
  simp only [zfc,Option.bind_some]
  grind
theorem zI6 {α:Type} {d:α} {p:α→Bool}:∀ (l:List α) (i:Nat) (a:Int),i < l.length→p (l.getD i d) = true→((qR p l a) == a + (i:Int)) = ql (fun j=>!p (l.getD j d)) 0 i:=by
  intro l
  induction l with
  | nil=>intro i a h; simp at h
  | cons x l ih =>
    intro i a h hp
    cases i with
    | zero =>
      have hx:p x = true:=hp
      simp only [qR,hx,cond_true,ql]
      simp
    | succ i =>
      have h':i < l.length:=by simpa using h
      have hp':p (l.getD i d) = true:=hp
      have:=ih i (a + 1) h' hp'
      have e:a + 1 + (i:Int) = a + ((i + 1:Nat):Int):=by omega
      rw [e] at this
      simp only [qR]
      rw [Bool.eq_iff_iff,jl]
      rw [Bool.eq_iff_iff,jl] at this
      cases hx:p x with
      | true =>
        simp only [cond_true]
        constructor
        · intro h1
          have:=eq_of_beq h1
          omega
        · intro h1
          have h2:(!p x) = true:=h1 0 (by omega) (by omega)
          rw [hx] at h2; cases h2
      | false =>
        simp only [cond_false]
        rw [this]
        constructor
        · intro h1 j _ h2
          cases j with
          | zero=>show (!p x) = true; rw [hx]; rfl
          | succ j=>exact h1 j (by omega) (by omega)
        · intro h1 j _ h2
          exact h1 (j + 1) (by omega) (by omega)
def zHs (l:List z8):Bool:=ql (fun i=>zxH (l.getD i vF) && bif (l.getD i vF).1 then ql (fun j=>!zjb (l.getD j vF) (l.getD i vF)) 0 i else true) 0 (l.length - 0)
theorem zCX {l:List z8} (hl:l.length ≤ Go.maxLen):zlQ (l,()) = some (zHs l,()):=by
  rw [zP]
  exact yF (B:=zc6) (i0:=0) hl (Nat.zero_le _) (fun i=>(l,l,(l.length:Int),i)) (fun k i h1 h2=>by
    simp only [zc6]
    rw [ltT h2,zE h2]
    simp only [qe,zCW,Option.bind_some,cond_true]
    cases he:zxH (l.getD i vF) with
    | false=>rfl
    | true =>
      cases hs:(l.getD i vF).1 with
      | false=>rfl
      | true =>
        have hi:zhT (l,(l.getD i vF).2.1,(l.getD i vF).2.2.2.1,()) = some (qR (fun x=>zjb x (l.getD i vF)) l 0,()):=by
          simp only [zhT]
          rw [zl5 (p:=fun x=>zjb x (l.getD i vF)) hl fun x _=>zy1 x _ _]
          rfl
        have hp:zjb (l.getD i vF) (l.getD i vF) = true:=by
          unfold zjb; rw [zI5,hs]; simp
        have:=zI6 (d:=vF) (p:=fun x=>zjb x (l.getD i vF)) l i 0 h2 hp
        rw [Int.zero_add] at this
        rw [hi,← this]
        simp only [Option.bind_some,Bool.not_true,cond_false,cond_true,Bool.true_and,bne]
        cases (qR (fun x=>zjb x (l.getD i vF)) l 0 == (i:Int)) <;> rfl) (fun k=>by simp only [zc6]; rw [ltF]; rfl)
def zgR (k n:Int) (r:qw):Bool:=((k == 1 || k == 3) && (jt n && eqI zB r (ze zB))) || (k == 2 && (n == 0 && zpR r))
def qu (x:zi):Bool:=bif x.1 then zfr x.2.1 && zgR x.2.2.1 x.2.2.2.1 x.2.2.2.2.1 else eqI zl x (ze zl)
theorem zik (x:qx):jC (x,()) = some (zgR x.1 x.2.1 x.2.2.1,()):=by
  rw [zP]
  simp only [jC,zGa,Option.bind_some,zgR,zpR]
  grind
theorem zAI (x:zi):zgp (x,()) = some (!qu x,()):=by
  rw [zP]
  have h:zfd (x,()) = some ((x.2.2.1,x.2.2.2.1,x.2.2.2.2.1,()),()):=rfl
  simp only [zgp,zij,Option.bind_some,qu,h,zik]
  grind
theorem zkn {l:List zi} (hl:l.length ≤ Go.maxLen):zbt (l,()) = some (l.all qu,()):=by
  rw [zP]
  simp only [zbt]
  rw [ziL (p:=fun x=>!qu x) hl fun x _=>zAI x,Option.bind_some,← jP]
  cases l.any fun x=>!qu x <;> rfl
def zCY (c:Int):Bool:=decide (32 ≤ c ∧ c ≤ 126)
theorem zI7 (c:Int):zhv (c,()) = some (zCY c,()):=by simp only [zhv,zCY]; grind
def zGc (s:ByteArray):Bool:=decide (1 ≤ s.size ∧ s.size ≤ 40) && ((chr s 0 != 32 && chr s (s.size - 1) != 32) && ql (fun i=>zCY (chr s i)) 0 s.size)
theorem zxI (a b:ByteArray) (h:a.size < b.size):(ByteArray.toList a == ByteArray.toList b) = false:=by
  rw [beq_eq_false_iff_ne]
  intro e
  rw [Go.ByteArray.toList_eq,Go.ByteArray.toList_eq] at e
  have:=congrArg List.length e
  rw [zoZ,zoZ] at this
  omega
theorem zJP (s:ByteArray):∀ (n:Nat) (t:ByteArray),t.size ≤ n→∀ fuel,n < fuel→∃ r,zm zN fuel (t,32) = some (r,()) ∧ r.size ≤ t.size ∧ (chr t 0 ≠ 32→r = t) ∧ (1 ≤ t.size→chr t 0 = 32→r.size < t.size):=by
  intro n
  induction n with
  | zero =>
    intro t ht fuel hf
    obtain ⟨f,rfl⟩:∃ f,fuel = f + 1:=⟨fuel - 1,by omega⟩
    refine ⟨t,?_,Nat.le_refl _,fun _=>rfl,fun h=>by omega⟩
    show zN _ (t,32) = _
    simp only [zN]
    rw [decide_eq_false (by omega)]; rfl
  | succ n ih =>
    intro t ht fuel hf
    obtain ⟨f,rfl⟩:∃ f,fuel = f + 1:=⟨fuel - 1,by omega⟩
    by_cases h0:t.size = 0
    · refine ⟨t,?_,Nat.le_refl _,fun _=>rfl,fun h=>by omega⟩
      show zN _ (t,32) = _
      simp only [zN]
      rw [decide_eq_false (by omega)]; rfl
    have hc:((UInt8.toNat (List.getD t.data.toList (Int.toNat 0) 0):Nat):Int) = chr t 0:=rfl
    by_cases h32:chr t 0 = 32
    · have hsz:(ByteArray.extract t (Int.toNat 1) t.size).size = t.size - 1:=by
        rw [ByteArray.size_extract]
        show min t.size t.size - 1 = _
        omega
      obtain ⟨r,h1,h2,-⟩:=ih (ByteArray.extract t (Int.toNat 1) t.size) (by rw [hsz]; omega) f (by omega)
      refine ⟨r,?_,by omega,fun h=>absurd h32 h,fun _ _=>by omega⟩
      show zN (zm zN f) (t,32) = _
      simp only [zN]
      rw [hc,h32,h1]
      grind
    · refine ⟨t,?_,Nat.le_refl _,fun _=>rfl,fun _ h=>absurd h h32⟩
      show zN (zm zN f) (t,32) = _
      simp only [zN]
      rw [hc,decide_eq_true (by omega),decide_eq_true (by omega)]
      grind
theorem zJQ:∀ (n:Nat) (t:ByteArray),t.size ≤ n→n ≤ 100→∀ fuel,n < fuel→∃ r,zm zL fuel (t,32) = some (r,()) ∧ r.size ≤ t.size ∧ (chr t (t.size - 1) ≠ 32→r = t) ∧ (1 ≤ t.size→chr t (t.size - 1) = 32→r.size < t.size):=by
  intro n
  induction n with
  | zero =>
    intro t ht _ fuel hf
    obtain ⟨f,rfl⟩:∃ f,fuel = f + 1:=⟨fuel - 1,by omega⟩
    refine ⟨t,?_,Nat.le_refl _,fun _=>rfl,fun h=>by omega⟩
    show zL _ (t,32) = _
    simp only [zL]
    rw [decide_eq_false (by omega)]; rfl
  | succ n ih =>
    intro t ht hn fuel hf
    obtain ⟨f,rfl⟩:∃ f,fuel = f + 1:=⟨fuel - 1,by omega⟩
    by_cases h0:t.size = 0
    · refine ⟨t,?_,Nat.le_refl _,fun _=>rfl,fun h=>by omega⟩
      show zL _ (t,32) = _
      simp only [zL]
      rw [decide_eq_false (by omega)]; rfl
    have hw:wI ((t.size:Int) - 1) = ((t.size - 1:Nat):Int):=ztc (by omega) (by unfold Go.maxLen; omega)
    have hc:((UInt8.toNat (List.getD t.data.toList (Int.toNat ((t.size - 1:Nat):Int)) 0):Nat):Int) = chr t (t.size - 1):=by rw [Int.toNat_natCast]; rfl
    by_cases h32:chr t (t.size - 1) = 32
    · have hsz:(ByteArray.extract t 0 (Int.toNat ((t.size - 1:Nat):Int))).size = t.size - 1:=by
        rw [ByteArray.size_extract,Int.toNat_natCast]
        omega
      obtain ⟨r,h1,h2,-⟩:=ih (ByteArray.extract t 0 (Int.toNat ((t.size - 1:Nat):Int))) (by rw [hsz]; omega) (by omega) f (by omega)
      refine ⟨r,?_,by omega,fun h=>absurd h32 h,fun _ _=>by omega⟩
      show zL (zm zL f) (t,32) = _
      simp only [zL]
      rw [hw,hc,h32,h1,zE (by omega)]
      grind
    · refine ⟨t,?_,Nat.le_refl _,fun _=>rfl,fun _ h=>absurd h h32⟩
      show zL (zm zL f) (t,32) = _
      simp only [zL]
      rw [hw,hc,zE (by omega),decide_eq_true (by omega)]
      grind
theorem zJE (s:ByteArray) (h:1 ≤ s.size ∧ s.size ≤ 40):∃ r,zfh (s,ByteArray.mk #[32],()) = some (r,()) ∧ (ByteArray.toList r == ByteArray.toList s) = (chr s 0 != 32 && chr s (s.size - 1) != 32):=by
  obtain ⟨r,h1,h2,h3,h4⟩:=zJQ s.size s (Nat.le_refl _) (by omega) K0 (zA6 (by unfold Go.maxLen; omega))
  obtain ⟨r',h5,h6,h7,h8⟩:=zJP s r.size r (Nat.le_refl _) K0 (zA6 (by unfold Go.maxLen; omega))
  refine ⟨r',?_,?_⟩
  · simp only [zfh]
    have e0:(ByteArray.toList s == ByteArray.toList (ByteArray.mk #[])) = false:=by
      cases he:zxG s with
      | false=>exact he
      | true =>
        unfold zxG at he
        have:=eq_of_beq he
        rw [Go.ByteArray.toList_eq,Go.ByteArray.toList_eq] at this
        have h2:s.size = 0:=by
          rw [← zoZ,this]; rfl
        omega
    have e1:(ByteArray.toList (ByteArray.mk #[32]) == ByteArray.toList (ByteArray.mk #[])) = false:=by
      rw [Go.ByteArray.toList_eq,Go.ByteArray.toList_eq]; rfl
    have p1:zbn (s,32,()) = some (r,()):=h1
    have p2:zcs (r,32,()) = some (r',()):=h5
    have z1:((ByteArray.size (ByteArray.mk #[32]):Nat):Int) = 1:=rfl
    have z2:((UInt8.toNat (List.getD (Array.toList (ByteArray.data (ByteArray.mk #[32]))) (Int.toNat 0) 0):Nat):Int) = 32:=rfl
    rw [e0,e1,z1,z2,p1,Option.bind_some,p2]
    rfl
  · by_cases hl:chr s (s.size - 1) = 32
    · have:=h4 h.1 hl
      rw [zxI r' s (by omega),hl]; simp
    · obtain rfl:=h3 hl
      by_cases hf:chr r 0 = 32
      · have:=h8 h.1 hf
        rw [zxI r' r (by omega),hf]; simp
      · rw [h7 hf]
        simp [hf,hl]
theorem zEu (s:ByteArray):zjr (s,()) = some (zGc s,()):=by
  rw [zP]
  simp only [zjr]
  unfold zGc
  by_cases hb:1 ≤ s.size ∧ s.size ≤ 40
  · obtain ⟨r,h1,h2⟩:=zJE s hb
    rw [zxE (by unfold Go.maxLen; omega) zI7,h1,zxD,← h2]
    simp only [Option.bind_some]
    grind
  · grind
def zo1 (x:qq):Bool:=bif x.1 then (jt x.2.1 && (jt x.2.2.1 && jt x.2.2.2.1)) && zGc x.2.2.2.2.1 else eqI zZ x (ze zZ)
theorem zCZ (x:qq):zh3 (x,()) = some (!zo1 x,()):=by
  rw [zP]
  simp only [zh3,zi1,zHq,zEu,Option.bind_some,zo1]
  grind
theorem zC0 {l:List qq} (hl:l.length ≤ Go.maxLen):zh5 (l,()) = some (l.all zo1,()):=by
  rw [zP]
  simp only [zh5]
  rw [ziM (p:=fun x=>!zo1 x) hl fun x _=>zCZ x,Option.bind_some,← jP]
  cases l.any fun x=>!zo1 x <;> rfl
end Go.Proofs.YtejbgeokcpillaaGreatDoor
end
section
namespace Go.Proofs.YtejbgeokcpillaaGreatDoor
open Go.Ev
abbrev M62:Int:=4611686018427387904
abbrev U64:Int:=18446744073709551616
def vS (x:Int):Bool:=decide (0 ≤ x ∧ x ≤ 3)
theorem zba (x:Int):ja (x,()) = some (vS x,()):=by simp only [ja,vS]; grind
def zGd (a b:Int):Int × Int × Unit:=bif decide (a + b > M62) then (0,7,()) else (a + b,0,())
theorem zEv {a b:Int} (ha:0 ≤ a) (hb:0 ≤ b ∧ b < U64):zjm (a,b,()) = some (zGd a b):=by
  simp only [zjm,extA,extB,zGd,cond_true]
  have h0:0 ≤ (a + b) / 18446744073709551616:=by omega
  have h1:((a + b) / 18446744073709551616 != 0) = decide (18446744073709551616 ≤ a + b):=by
    rw [Bool.eq_iff_iff]; simp only [bne_iff_ne,ne_eq,decide_eq_true_eq]; omega
  have h2:a + b < 18446744073709551616→(a + b) % 18446744073709551616 = a + b:=fun h=>by omega
  unfold M62 at *
  unfold U64 at *
  grind
def zC1 (a b:Int):Int × Int × Unit:=bif decide (a * b > M62) then (0,7,()) else (a * b,0,())
theorem zJR (a b:Nat) (ha:a < 18446744073709551616) (hb:b < 18446744073709551616):zcI ((a:Int),(b:Int),()) = some ((((a * b) / 18446744073709551616:Nat):Int),(((a * b) % 18446744073709551616:Nat):Int),()):=by
  have e32:((2:Int) ^ min (Int.toNat 32) (Go.IntKind.bits .u64)) = 4294967296:=rfl
  have hand:∀ x:Nat,x < 18446744073709551616→wU (BitVec.toNat (BitVec.ofInt (Go.IntKind.bits .u64) (x:Int) &&& BitVec.ofInt (Go.IntKind.bits .u64) 4294967295):Int) = ((x % 4294967296:Nat):Int):=fun x hx=>by
    have h1:BitVec.ofInt (Go.IntKind.bits .u64) 4294967295 = BitVec.ofNat 64 4294967295:=rfl
    rw [zjZ,h1]
    have h2:(BitVec.ofNat 64 x &&& BitVec.ofNat 64 4294967295).toNat = x % 4294967296:=by
      rw [BitVec.toNat_and,BitVec.toNat_ofNat,BitVec.toNat_ofNat,Nat.mod_eq_of_lt (show x < 2 ^ 64 by omega)]
      exact Nat.and_two_pow_sub_one_eq_mod x 32
    have h3:((BitVec.ofNat 64 x &&& BitVec.ofNat 64 4294967295:BitVec (Go.IntKind.bits .u64)).toNat:Int) = ((x % 4294967296:Nat):Int):=congrArg _ h2
    exact (congrArg wU h3).trans (zF6 (by omega))
  have hdiv:∀ x:Nat,Int.fdiv (x:Int) 4294967296 = ((x / 4294967296:Nat):Int):=fun x=>by
    rw [Int.fdiv_eq_ediv_of_nonneg _ (by omega)]; rfl
  have hw:∀ x:Nat,x < 18446744073709551616→wU (x:Int) = (x:Int):=fun x hx=>zF6 (by omega)
  have hmod:wU ((a:Int) * (b:Int)) = (((a * b) % 18446744073709551616:Nat):Int):=by
    rw [show ((a:Int) * (b:Int)) = ((a * b:Nat):Int) by simp]
    show ((a * b:Nat):Int) % ((2 ^ 64:Nat):Int) = _
    rfl
  simp only [zcI,e32]
  have ha1:a / 4294967296 ≤ 4294967295:=by omega
  have ha0:a % 4294967296 ≤ 4294967295:=by omega
  have hb1:b / 4294967296 ≤ 4294967295:=by omega
  have hb0:b % 4294967296 ≤ 4294967295:=by omega
  have hp:=Nat.mul_le_mul ha1 hb1
  have hq:=Nat.mul_le_mul ha1 hb0
  have hr:=Nat.mul_le_mul ha0 hb1
  have hs:=Nat.mul_le_mul ha0 hb0
  have hab:a * b = (a / 4294967296 * (b / 4294967296)) * 18446744073709551616 + (a / 4294967296 * (b % 4294967296) + a % 4294967296 * (b / 4294967296)) * 4294967296 + a % 4294967296 * (b % 4294967296):=by
    conv=>lhs; rw [← Nat.div_add_mod a 4294967296,← Nat.div_add_mod b 4294967296]
    grind
  rw [hmod,hab,hand a ha,hand b hb,hdiv a,hdiv b]
  generalize a / 4294967296 = a1 at *
  generalize a % 4294967296 = a0 at *
  generalize b / 4294967296 = b1 at *
  generalize b % 4294967296 = b0 at *
  simp only [← Int.natCast_mul]
  generalize a1 * b1 = p at *
  generalize a1 * b0 = q at *
  generalize a0 * b1 = r at *
  generalize a0 * b0 = s at *
  rw [hw p (by omega),hw q (by omega),hw r (by omega),hw s (by omega),hdiv s]
  simp only [← Int.natCast_add]
  rw [hw (q + s / 4294967296) (by omega),hdiv (q + s / 4294967296),hand _ (by omega)]
  simp only [← Int.natCast_add]
  rw [hw (p + (q + s / 4294967296) / 4294967296) (by omega),hw ((q + s / 4294967296) % 4294967296 + r) (by omega),hdiv]
  simp only [← Int.natCast_add]
  rw [hw _ (by omega)]
  have:p + (q + s / 4294967296) / 4294967296 + ((q + s / 4294967296) % 4294967296 + r) / 4294967296 = (p * 18446744073709551616 + (q + r) * 4294967296 + s) / 18446744073709551616:=by omega
  rw [this]
theorem zC2 {a b:Int} (ha:0 ≤ a ∧ a < U64) (hb:0 ≤ b ∧ b < U64):zeV (a,b,()) = some (zC1 a b):=by
  obtain ⟨m,rfl⟩:=Int.eq_ofNat_of_zero_le ha.1
  obtain ⟨n,rfl⟩:=Int.eq_ofNat_of_zero_le hb.1
  unfold U64 at *
  simp only [zeV]
  rw [zJR m n (by omega) (by omega),Option.bind_some]
  unfold zC1 M62
  have e:((m:Int) * (n:Int)) = ((m * n:Nat):Int):=by simp
  rw [e]
  generalize m * n = p
  by_cases h:p < 18446744073709551616
  · have h1:p / 18446744073709551616 = 0:=by omega
    have h2:p % 18446744073709551616 = p:=by omega
    simp only [h1,h2]
    grind
  · have h1:(((p / 18446744073709551616:Nat):Int) != 0) = true:=by simp only [bne_iff_ne,ne_eq]; omega
    simp only [h1]
    grind
def zma:Int→List Int→Int × Int × Unit
  | a,[]=>(a,0,())
  | a,x :: l=>bif decide (a + x > M62) then (0,7,()) else zma (a + x) l
theorem zaw {σ α β ρ:Type} {B:(σ→Option ρ)→σ→Option ρ} {l:List β} (d:β) (I:Nat→α→Prop) (st:Int→α→σ) (G:List β→α→Option ρ) (hl:l.length ≤ Go.maxLen)
    (hin:∀ k (i:Nat) x rest s,i < l.length→I i s→l.getD i d = x→x ∈ l→l.drop (i + 1) = rest→(∀ s',I (i + 1) s'→k (st (wI (i + 1)) s') = G rest s')→B k (st i s) = G (x :: rest) s) (hout:∀ k s,I l.length s→B k (st l.length s) = G [] s) (s:α) (h0:I 0 s):zm B K0 (st 0 s) = G l s:=by
  have:=ve (B:=B) hl st (fun i s=>G (l.drop i) s) I (fun k i s hi hI h=>?_) (fun k s hI=>?_) s h0
  · simpa using this
  · rw [vW d hi]
    exact hin k i _ _ s hi hI rfl (z9 hi) rfl fun s' hI'=>h s' hI'
  · rw [hout _ _ hI,List.drop_of_length_le (Nat.le_refl _)]
theorem zkX {l:List Int} (hl:l.length ≤ Go.maxLen) (h:∀ x ∈ l,0 ≤ x ∧ x < U64):zfi (l,()) = some (zma 0 l) :=
  zaw (B:=zeX) (l:=l) (α:=Int) (0:Int) (fun _ s=>0 ≤ s) (fun i s=>(s,l,(l.length:Int),i)) (fun rest s=>some (zma s rest)) hl (fun k i x rest s hi hI hx hm hr hk=>by
    simp only [zeX]
    have hxx:=h x hm
    rw [ltT hi,zE hi,qe,hx,zEv hI hxx]
    simp only [cond_true,Option.bind_some,zGd,zma]
    by_cases hb:s + x > M62
    · rw [decide_eq_true hb]; rfl
    · rw [decide_eq_false hb]
      exact hk (s + x) (by omega)) (fun k s _=>by simp only [zeX]; rw [ltF]; rfl) 0 (Int.le_refl 0)
def zbb (a b:zA):Bool:=decide (a.1 ≤ b.1) && (List.range' 0 64).all fun i=>!zy0 a.2.1 i || zy0 b.2.1 i
def zea (a:zA):Prop:=0 ≤ a.2.1 ∧ a.2.1 < U64
theorem zf9 {a b:zA} (ha:zea a) (hb:zea b):zaC (a,b,()) = some (zbb a b,()):=by
  rw [zP]
  simp only [zaC]
  unfold zbb
  unfold zea U64 at *
  obtain ⟨m,hm⟩:=Int.eq_ofNat_of_zero_le ha.1
  obtain ⟨n,hn⟩:=Int.eq_ofNat_of_zero_le hb.1
  have h1:=zuq m n (by omega) (by omega)
  unfold zfs at h1
  have h2:(wU (BitVec.toNat (BitVec.ofInt (Go.IntKind.bits .u64) (a.2.1:Int) &&& ~~~BitVec.ofInt (Go.IntKind.bits .u64) (b.2.1:Int)):Int) == 0) = (List.range' 0 64).all fun i=>!zy0 a.2.1 i || zy0 b.2.1 i:=by
    rw [hm,hn]
    have h3:∀ z:Int,(z != 0) = !(z == 0):=fun z=>rfl
    rw [h3] at h1
    have h4:=congrArg (!·) h1
    simp only [Bool.not_not] at h4
    exact h4
  rw [h2]
  grind
theorem zxJ (x:Int):zfe (x,()) = some (jt x,()):=by simp only [zfe,jt]; grind
def zxK (x:zkM):Bool:=vS x.1 && (decide (x.2.1 ≤ M62) && decide (-1 ≤ x.2.2.1 ∧ x.2.2.1 ≤ 127))
theorem zEw (x:zkM):zf4 (x,()) = some (zxK x,()):=by
  rw [zP]
  simp only [zf4,zba,zxJ,Option.bind_some,zxK,jt]
  unfold M62
  grind
def zBa (x:zkM):Bool:=(x.2.1:Int) == 0 && (x.2.2.1:Int) == -1
theorem zC3 (x:zkM):zeN (x,()) = some (zBa x,()):=by
  rw [zP]
  simp only [zeN,zBa]
  have h:eqI zdu x (x.1,(ze zdu).2.1,-1,(ze zdu).2.2.2) = ((x.2.1:Int) == 0 && (x.2.2.1:Int) == -1):=by
    show cond ((x.1:Int) == x.1) (cond ((x.2.1:Int) == 0) (cond ((x.2.2.1:Int) == -1) true false) false) false = _
    rw [beq_self_eq_true]
    cases ((x.2.1:Int) == 0) <;> cases ((x.2.2.1:Int) == -1) <;> rfl
  rw [h]
def zvG (x:zt):Bool:=(jt x.2.1 && (jt x.2.2.1 && (x.2.1:Int) != x.2.2.1)) && ((zxK x.2.2.2.1 && zxK x.2.2.2.2.1) && !(zBa x.2.2.2.1 && zBa x.2.2.2.2.1))
def zti (x:zt):Prop:=(0 ≤ x.2.2.2.1.2.1 ∧ x.2.2.2.1.2.1 < U64) ∧ (0 ≤ x.2.2.2.2.1.2.1 ∧ x.2.2.2.2.1.2.1 < U64)
theorem zEx (x:zt):zjp (x,()) = some (zvG x,()):=by
  rw [zP]
  simp only [zjp,zxJ,zEw,zC3,Option.bind_some,zvG]
  grind
def zk4 (x:zt):Bool:=bif x.1 then zvG x else eqI zx x (ze zx)
theorem zxL (x:zt):zev (x,()) = some (!zk4 x,()):=by
  rw [zP]
  simp only [zev,zEx,Option.bind_some,zk4]
  grind
theorem zAJ {l:List zt} (hl:l.length ≤ Go.maxLen):zgq (l,()) = some (l.all zk4,()):=by
  rw [zP]
  simp only [zgq]
  rw [zii (p:=fun x=>!zk4 x) hl fun x _=>zxL x,Option.bind_some,← jP]
  cases l.any fun x=>!zk4 x <;> rfl
end Go.Proofs.YtejbgeokcpillaaGreatDoor
end
section
namespace Go.Proofs.YtejbgeokcpillaaGreatDoor
open Go.Ev
theorem zk5 {α:Type} {p:α→Bool} {x:α} {l:List α}:(x :: l).filter p = bif p x then x :: l.filter p else l.filter p:=by
  rw [List.filter_cons]; cases p x <;> rfl
def z6 {α:Type} (p:α→Bool):Nat→List α→List Int
  | _,[]=>[]
  | i,x :: l=>bif p x then (i:Int) :: z6 p (i + 1) l else z6 p (i + 1) l
theorem zdU {α:Type} {p:α→Bool}:∀ (l:List α) (i:Nat),(z6 p i l).length ≤ l.length
  | [],_=>Nat.le_refl _
  | x :: l,i=>by
    have:=zdU (p:=p) l (i + 1)
    simp only [z6,List.length_cons]
    cases p x <;> simp <;> omega
theorem zkY {α:Type} {p:α→Bool}:∀ (l:List α) (i:Nat),∀ z ∈ z6 p i l,∃ j:Nat,z = (j:Int) ∧ i ≤ j ∧ j < i + l.length
  | [],i,z,h=>by cases h
  | x :: l,i,z,h=>by
    simp only [z6] at h
    have ih:=zkY (p:=p) l (i + 1)
    cases hp:p x with
    | true =>
      rw [hp,cond_true] at h
      rcases List.mem_cons.1 h with rfl | h
      · exact ⟨i,rfl,Nat.le_refl _,by simp⟩
      · obtain ⟨j,h1,h2,h3⟩:=ih z h
        exact ⟨j,h1,by omega,by simp; omega⟩
    | false =>
      rw [hp,cond_false] at h
      obtain ⟨j,h1,h2,h3⟩:=ih z h
      exact ⟨j,h1,by omega,by simp; omega⟩
theorem zko {α β:Type} {p q:α→Bool} {g:α→β} (d:α) (L:List α):∀ (l:List α) (i:Nat),(∀ j,j < l.length→L.getD (i + j) d = l.getD j d)→((z6 p i l).filter fun z=>q (L.getD z.toNat d)).map (fun z=>g (L.getD z.toNat d)) = (l.filter fun x=>p x && q x).map g
  | [],_,_=>rfl
  | x :: l,i,h=>by
    have ih:=zko (p:=p) (q:=q) (g:=g) d L l (i + 1) fun j hj=>by
      have:=h (j + 1) (by simp; omega)
      rw [show i + 1 + j = i + (j + 1) by omega,this]; rfl
    have h0:L.getD i d = x:=h 0 (by simp)
    simp only [z6,zk5]
    cases hp:p x with
    | false=>simp only [cond_false,Bool.false_and]; exact ih
    | true =>
      simp only [cond_true,Bool.true_and,zk5,Int.toNat_natCast,h0]
      cases hq:q x with
      | false=>exact ih
      | true=>simp only [cond_true,List.map_cons,Int.toNat_natCast,h0,ih]
theorem zsL {l:List zt} {g:zt × Unit→Option (Bool × Unit)}:zdG (some (l,some g,()),()) = some (true,()):=rfl
theorem zur {l:List zt} {g:zt × Unit→Option (Bool × Unit)} {p:zt→Bool} (hg:∀ x,g (x,()) = some (p x,())) {i:Nat} (hi:i < l.length):vN (some (l,some g,()),(i:Int),()) = some (p (l.getD i qD),()):=by
  rw [zP]
  simp only [vN,zsL,Option.bind_some,cond_true]
  rw [decide_eq_true (by omega),ltT hi,zE hi,qe,hg]
  simp only [cond_true,Option.bind_some]
theorem zqO {l:List zt} {g:zt × Unit→Option (Bool × Unit)} {p:zt→Bool} (hl:l.length ≤ lim) (hg:∀ x,g (x,()) = some (p x,())):zcM (some (l,some g,()),()) = some (z6 p 0 l,()):=by
  have hl':l.length ≤ Go.maxLen:=by unfold lim at hl; unfold Go.maxLen; omega
  have:=ve (B:=yp) (α:=List Int) hl' (fun i o=>(some (l,some g,()),(l.length:Int),i,o)) (fun i o=>some (o ++ z6 p i (l.drop i),())) (fun i o=>o.length ≤ i) (fun k i o hi hI hk=>by
    simp only [yp]
    rw [ltT hi,zur hg hi,zaR,vW qD hi]
    simp only [cond_true,Option.bind_some,z6]
    rw [decide_eq_true (by simp; omega)]
    cases hp:p (l.getD i qD) with
    | false =>
      simp only [cond_false]
      exact hk o (by omega)
    | true =>
      simp only [cond_true]
      rw [hk _ (by simp; omega)]
      simp) (fun k o _=>by
    simp only [yp]
    rw [ltF,List.drop_of_length_le (Nat.le_refl _)]
    simp [z6]) [] (Nat.le_refl _)
  refine Eq.trans ?_ (this.trans ?_)
  · rfl
  · simp
theorem zC4 {l:List zp} {g:zp × Unit→Option (Bool × Unit)}:zdI (some (l,some g,()),()) = some (true,()):=rfl
theorem zEy {l:List zp} {g:zp × Unit→Option (Bool × Unit)} {p:zp→Bool} (hg:∀ x,g (x,()) = some (p x,())) {i:Nat} (hi:i < l.length):zeu (some (l,some g,()),(i:Int),()) = some (p (l.getD i qp),()):=by
  rw [zP]
  simp only [zeu,zC4,Option.bind_some,cond_true]
  rw [decide_eq_true (by omega),ltT hi,zE hi,qe,hg]
  simp only [cond_true,Option.bind_some]
theorem zAK {l:List zp} {g:zp × Unit→Option (Bool × Unit)} {p:zp→Bool} (hl:l.length ≤ lim) (hg:∀ x,g (x,()) = some (p x,())):zfO (some (l,some g,()),()) = some (z6 p 0 l,()):=by
  have hl':l.length ≤ Go.maxLen:=by unfold lim at hl; unfold Go.maxLen; omega
  have:=ve (B:=yr) (α:=List Int) hl' (fun i o=>(some (l,some g,()),(l.length:Int),i,o)) (fun i o=>some (o ++ z6 p i (l.drop i),())) (fun i o=>o.length ≤ i) (fun k i o hi hI hk=>by
    simp only [yr]
    rw [ltT hi,zEy hg hi,zaR,vW qp hi]
    simp only [cond_true,Option.bind_some,z6]
    rw [decide_eq_true (by simp; omega)]
    cases hp:p (l.getD i qp) with
    | false =>
      simp only [cond_false]
      exact hk o (by omega)
    | true =>
      simp only [cond_true]
      rw [hk _ (by simp; omega)]
      simp) (fun k o _=>by
    simp only [yr]
    rw [ltF,List.drop_of_length_le (Nat.le_refl _)]
    simp [z6]) [] (Nat.le_refl _)
  refine Eq.trans ?_ (this.trans ?_)
  · rfl
  · simp
def znn (l:List zt) (c:Int):Int × Int × Unit:=bif vS c then zma 0 ((l.filter fun x=>x.1 && (x.2.2.2.1.1:Int) == c).map fun x=>x.2.2.2.1.2.1) else (0,1,())
theorem zEz (l:List zt) (hl:l.length ≤ lim):zjq (l,()) = some (some (l,some zgh,()),()):=by
  simp only [zjq,yx,zkj hl,Option.bind_some]
  rfl
theorem zAL (x:zt):zgh (x,()) = some (x.1,()):=by
  rw [zP]; rfl
theorem zC5 {l:List zt} (hl:l.length ≤ lim) (h:∀ x ∈ l,zti x) (c:Int):zh1 (l,c,()) = some (znn l c):=by
  have hl':l.length ≤ Go.maxLen:=by unfold lim at hl; unfold Go.maxLen; omega
  simp only [zh1,zh0,zba,Option.bind_some]
  unfold znn
  cases hc:vS c with
  | false=>rfl
  | true =>
    simp only [cond_true]
    rw [zEz l hl,Option.bind_some,zqO hl zAL,Option.bind_some]
    have hsl:=zdU (p:=fun x:zt=>x.1) l 0
    have hsm:=zkY (p:=fun x:zt=>x.1) l 0
    have hloop:=zaw (B:=zc8) (l:=z6 (fun x:zt=>x.1) 0 l) (α:=List Int) (0:Int) (fun i o=>o.length ≤ i ∧ ∀ x ∈ o,0 ≤ x ∧ x < U64) (fun i o=>(l,c,z6 (fun x:zt=>x.1) 0 l,((z6 (fun x:zt=>x.1) 0 l).length:Int),i,o))
      (fun rest o=>some (zma 0 (o ++ (rest.filter fun z=>((l.getD z.toNat qD).2.2.2.1.1:Int) == c).map fun z=>(l.getD z.toNat qD).2.2.2.1.2.1))) (by omega) (fun k i x rest o hi hI hx hm hr hk=>by
        simp only [zc8]
        obtain ⟨j,rfl,-,hj⟩:=hsm x hm
        rw [ltT hi,zE hi,qe,hx,zE (by omega),zE (by omega),Int.toNat_natCast,zaR]
        have hxx:=(h (l.getD j qD) (z9 (by omega))).1
        simp only [cond_true,zk5,Int.toNat_natCast]
        rw [decide_eq_true (by simp; omega)]
        simp only [cond_true]
        cases hq:((l.getD j qD).2.2.2.1.1:Int) == c with
        | false =>
          exact hk o ⟨by omega,hI.2⟩
        | true =>
          simp only [cond_true,List.map_cons,Int.toNat_natCast]
          refine (hk _ ⟨by simp; omega,fun x hx=>?_⟩).trans ?_
          · rcases List.mem_append.1 hx with hx | hx
            · exact hI.2 x hx
            · rcases List.mem_singleton.1 hx with rfl
              exact hxx
          · rw [List.append_assoc]; rfl) (fun k o hI=>by
        simp only [zc8]
        rw [ltF]
        simp only [cond_false]
        rw [zkX (by omega) hI.2,List.filter_nil,List.map_nil,List.append_nil]
        rfl) [] ⟨Nat.le_refl _,fun x hx=>by cases hx⟩
    refine hloop.trans ?_
    rw [List.nil_append,zko (q:=fun x:zt=>(x.2.2.2.1.1:Int) == c) (g:=fun x:zt=>x.2.2.2.1.2.1) qD l l 0 fun j _=>by rw [Nat.zero_add]]
end Go.Proofs.YtejbgeokcpillaaGreatDoor
end
section
namespace Go.Proofs.YtejbgeokcpillaaGreatDoor
open Go.Ev
def zC6 (x:Int):Bool:=decide (0 ≤ x ∧ x ≤ 2)
theorem zy2 (x:Int):zaH (x,()) = some (!zC6 x,()):=by simp only [zaH,zC6]; grind
def zxM (r:zd) (i:Nat) (row:List Int):Bool:=decide (row.length = r.2.2.1.length) && (row.all zC6 && row.getD (Int.toNat (r.2.2.2.1.getD i qE).2.1) (0:Int) == 2)
def zil (r:zd) (l:List (List Int)):Bool:=decide (l.length = r.2.2.2.1.length) && ql (fun i=>zxM r i (l.getD i [])) 0 (l.length - 0)
structure zhc (r:zd):Prop where
  labels:1 ≤ r.1.length ∧ r.1.length ≤ 8
  lines:1 ≤ r.2.1.length ∧ r.2.1.length ≤ 8
  accounts:1 ≤ r.2.2.1.length ∧ r.2.2.1.length ≤ 8
  guilds:r.2.2.2.1.length ≤ 8
  quotas:r.2.2.2.2.1.length = r.1.length
  heads:∀ i,i < r.2.2.2.1.length→0 ≤ (r.2.2.2.1.getD i qE).2.1 ∧ (r.2.2.2.1.getD i qE).2.1 < (r.2.2.1.length:Int)
theorem jE {r:zd} (h:qk r = true):zhc r:=by
  simp only [qk,Bool.and_eq_true] at h
  obtain ⟨h1,h2,h3,h4,h5,-⟩:=h
  simp only [zi9,zl9,zha,zth,zja,qf,Bool.and_eq_true,decide_eq_true_eq,zF9,jl] at h1 h2 h3 h4 h5
  refine ⟨by omega,by omega,by omega,h4.1,by omega,fun i hi=>?_⟩
  have:=h4.2.1 i (by omega) (by omega)
  simp only [zCU,qf,Bool.and_eq_true,decide_eq_true_eq] at this
  omega
theorem ixR {n:Nat} {x:Int} {ρ:Type} {y:Option ρ} (h:0 ≤ x ∧ x < (n:Int)):inR x (n:Int) y = y:=zHj h.1 h.2
theorem zC7 {r:zd} (hr:z7 r) (l:List (List Int)):zib (r,l,()) = some (qk r && zil r l,()):=by
  rw [zP]
  simp only [zib,zia,zd9 r hr,Option.bind_some]
  cases hb:qk r with
  | false=>rfl
  | true =>
    have ok:=jE hb
    rw [zmI]
    unfold zil
    by_cases hn:l.length = r.2.2.2.1.length
    · have hg:=ok.guilds
      have hloop:zi5 K0 (some zaH,l,(l.length:Int),0,r) = bif ql (fun i=>zxM r i (l.getD i [])) 0 (l.length - 0) then some (true,()) else some (false,()) :=
        yF (i0:=0) (n:=l.length) (by unfold Go.maxLen; omega) (Nat.zero_le _) (fun i=>(some zaH,l,(l.length:Int),i,r)) (fun k i h1 h2=>by
          simp only [zfp]
          rw [ltT h2,zE h2,Int.toNat_natCast,zmI]
          unfold zxM
          by_cases hm:(l.getD i []).length = r.2.2.1.length
          · have ha:=ok.accounts
            have hh:=ok.heads i (by omega)
            rw [zci (p:=fun x=>!zC6 x) (l:=l.getD i []) (by unfold Go.maxLen; omega) fun x _=>zy2 x,zE (by omega),qe,ixR (by rw [hm]; exact hh)]
            have:=jP (l:=l.getD i []) (p:=zC6)
            simp only [Option.bind_some,cond_true]
            grind
          · grind) (fun k=>by simp only [zfp]; rw [ltF]; rfl)
      rw [hloop]
      grind
    · grind
theorem zHt (x:Int):zjK (x,()) = some (jt x,()):=by simp only [zjK,jt]; grind
theorem zGe (x:Int):zdB (x,()) = some (jt x,()):=by simp only [zdB,jt]; grind
def zpS (k a b:Int):Int × Int × Unit:=bif (k != 1 && k != 2) || (a == 0 || b == 0) then (0,1,()) else bif decide (a * b > M62) then (0,7,()) else bif k == 2 then (a,0,()) else (a * b,0,())
theorem zus {k a b:Int} (ha:0 ≤ a ∧ a < U64) (hb:0 ≤ b ∧ b < U64):zf7 (k,a,b,()) = some (zpS k a b):=by
  simp only [zf7,zC2 ha hb,Option.bind_some,zC1,zpS]
  generalize a * b = p
  cases h:decide (p > M62) <;> simp only [cond_true,cond_false] <;> grind
def zeA (x:Int):Prop:=0 ≤ x ∧ x < U64
structure zk6 (x:zp):Prop where
  amount:zeA x.2.2.2.2.2.2.1
  price:zeA x.2.2.2.2.2.2.2.1
  held:zeA x.2.2.2.2.2.2.2.2.1
def zpT (x:zp):Bool:=((zpS x.2.2.2.1 x.2.2.2.2.2.2.2.1 x.2.2.2.2.2.2.1).2.1 == 0 && (zpS x.2.2.2.1 x.2.2.2.2.2.2.2.1 x.2.2.2.2.2.2.1).1 == x.2.2.2.2.2.2.2.2.1) && ((jt x.2.1 && jt x.2.2.1) && ((vS x.2.2.2.2.1 && vS x.2.2.2.2.2.1) && ((x.2.2.2.2.1:Int) != x.2.2.2.2.2.1 && decide (0 ≤ x.2.2.2.2.2.2.2.2.2.1))))
theorem zGf {x:zp} (h:zk6 x):zkT (x,()) = some (zpT x,()):=by
  rw [zP]
  simp only [zkT,zus h.price h.amount,zHt,zba,Option.bind_some,zpT]
  generalize zpS x.2.2.2.1 x.2.2.2.2.2.2.2.1 x.2.2.2.2.2.2.1 = n
  grind
def zy3 (x:zp):Bool:=bif x.1 then zpT x else eqI zo x (ze zo)
def zvH (l:List zp):List Int:=(l.filter fun x=>x.1).map fun x=>x.2.2.2.2.2.2.2.2.2.1
def zC8:List Int→List (Int × Int)→Nat
  | [],o=>o.length
  | x :: l,o=>zC8 l (yt tI o x (wI (zcl tI (0:Int) o x + 1)))
def ztj (l:List zp):Bool:=l.all zy3 && zC8 (zvH l) [] == (zvH l).length
theorem zC9 {l:List zp} (hl:l.length ≤ 1000000) (h:∀ x ∈ l,zk6 x):zlZ (l,()) = some (ztj l,()):=by
  have hloop:=zaw (B:=zda) (l:=l) (α:=Nat × List (Int × Int)) qp (fun i s=>s.1 ≤ i) (fun i s=>((s.1:Int),l,(l.length:Int),i,s.2))
    (fun rest s=>some (rest.all zy3 && zC8 (zvH rest) s.2 == s.1 + (zvH rest).length,())) (by unfold Go.maxLen; omega) (fun k i x rest s hi hI hx hm hr hk=>by
      obtain ⟨n,o⟩:=s
      simp only [zda]
      have hn:n ≤ i:=hI
      have hw:wI ((n:Int) + 1) = ((n + 1:Nat):Int):=by
        unfold wI
        rw [IntWalk.i64_in _ (by omega)]; rfl
      rw [ltT hi,zE hi]
      simp only [qe,hx,cond_true,zGf (h x hm),Option.bind_some,hw,zvH,zk5,List.all_cons,zy3]
      cases hlive:x.1 with
      | false =>
        simp only [cond_false]
        have:=hk (n,o) (by show n ≤ i + 1; omega)
        cases eqI zo x (ze zo) with
        | false=>rfl
        | true=>exact this
      | true =>
        simp only [cond_true,List.map_cons,zC8,List.length_cons]
        have:=hk (n + 1,yt tI o x.2.2.2.2.2.2.2.2.2.1 (wI (zcl tI (0:Int) o x.2.2.2.2.2.2.2.2.2.1 + 1))) (by show n + 1 ≤ i + 1; omega)
        cases zpT x with
        | false=>rfl
        | true =>
          refine this.trans ?_
          simp only [zvH,Bool.true_and]
          rw [show n + 1 + (List.map (fun x:zp=>x.2.2.2.2.2.2.2.2.2.1) (List.filter (fun x=>x.1) rest)).length = n + ((List.map (fun x:zp=>x.2.2.2.2.2.2.2.2.2.1) (List.filter (fun x=>x.1) rest)).length + 1) by omega]) (fun k s _=>by
      obtain ⟨n,o⟩:=s
      simp only [zda]
      rw [ltF]
      simp only [cond_false,zvH,List.filter_nil,List.map_nil,zC8,List.length_nil,List.all_nil,Bool.true_and,Nat.add_zero]
      rw [zHp]
      cases o.length == n <;> rfl) (0,[]) (Nat.le_refl _)
  refine hloop.trans ?_
  unfold ztj
  rw [Nat.zero_add]
structure ztk (x:zH):Prop where
  amount:zeA x.2.2.2.2.2.2.2.1
  price:zeA x.2.2.2.2.2.2.2.2.1
def zk7 (x:zH):Bool:=(decide (x.1 ≤ M62) && (jt x.2.1 && (jt x.2.2.1 && (jt x.2.2.2.1 && jt x.2.2.2.2.2.2.2.2.2.1)))) && bif (x.2.2.2.2.1:Int) == 3 then ((x.2.2.2.2.2.1:Int) == 0 && (x.2.2.2.2.2.2.1:Int) == 0) && ((x.2.2.2.2.2.2.2.1:Int) == 0 && (x.2.2.2.2.2.2.2.2.1:Int) == 0)
  else ((zpS x.2.2.2.2.1 x.2.2.2.2.2.2.2.1 x.2.2.2.2.2.2.2.2.1).2.1 == 0 && (x.2.2.2.2.2.2.2.2.2.1:Int) == 0) && ((x.2.2.2.2.2.1:Int) != x.2.2.2.2.2.2.1 && (vS x.2.2.2.2.2.1 && vS x.2.2.2.2.2.2.1))
theorem zHu (x:zH):eqI zw x (x.1,x.2.1,x.2.2.1,x.2.2.2.1,x.2.2.2.2.1,(ze zw).2.2.2.2.2.1,(ze zw).2.2.2.2.2.2.1,(ze zw).2.2.2.2.2.2.2.1,(ze zw).2.2.2.2.2.2.2.2.1,x.2.2.2.2.2.2.2.2.2.1,(ze zw).2.2.2.2.2.2.2.2.2.2) = (((x.2.2.2.2.2.1:Int) == 0 && (x.2.2.2.2.2.2.1:Int) == 0) && ((x.2.2.2.2.2.2.2.1:Int) == 0 && (x.2.2.2.2.2.2.2.2.1:Int) == 0)):=by
  show cond ((x.1:Int) == x.1) (cond ((x.2.1:Int) == x.2.1) (cond ((x.2.2.1:Int) == x.2.2.1) (cond ((x.2.2.2.1:Int) == x.2.2.2.1) (cond ((x.2.2.2.2.1:Int) == x.2.2.2.2.1) (cond ((x.2.2.2.2.2.1:Int) == 0) (cond ((x.2.2.2.2.2.2.1:Int) == 0) (cond ((x.2.2.2.2.2.2.2.1:Int) == 0) (cond ((x.2.2.2.2.2.2.2.2.1:Int) == 0) (cond ((x.2.2.2.2.2.2.2.2.2.1:Int) == x.2.2.2.2.2.2.2.2.2.1) true false) false) false) false) false) false) false) false) false) false = _
  simp only [beq_self_eq_true,cond_true]
  cases ((x.2.2.2.2.2.1:Int) == 0) <;> cases ((x.2.2.2.2.2.2.1:Int) == 0) <;> cases ((x.2.2.2.2.2.2.2.1:Int) == 0) <;> cases ((x.2.2.2.2.2.2.2.2.1:Int) == 0) <;> rfl
theorem zEA {x:zH} (h:ztk x):zjs (x,()) = some (zk7 x,()):=by
  rw [zP]
  simp only [zjs,zus h.amount h.price,zGe,zba,Option.bind_some,zk7]
  rw [zHu x]
  generalize zpS x.2.2.2.2.1 x.2.2.2.2.2.2.2.1 x.2.2.2.2.2.2.2.2.1 = n
  unfold M62
  grind
def zHv (a b:zH):Int:=orV (zkl a.1 b.1) (zkl a.2.1 b.2.1)
theorem zAM (a b:zH):zgn (a,b,()) = some (zHv a b,()):=by
  simp only [zgn,zqN,zl7,Option.bind_some]
  show Option.bind (zcU ([zkl a.1 b.1,zkl a.2.1 b.2.1],())) _ = _
  rw [zJz]; rfl
def zmb (l:List zH):Bool:=ql (fun i=>zk7 (l.getD i zhn) && (decide (i = 0) || !decide (zHv (l.getD (i - 1) zhn) (l.getD i zhn) ≥ 0))) 0 (l.length - 0)
theorem zAN {l:List zH} (hl:l.length ≤ Go.maxLen) (h:∀ x ∈ l,ztk x):zke (l,()) = some (zmb l,()):=by
  rw [zP]
  exact yF (B:=zb6) (i0:=0) hl (Nat.zero_le _) (fun i=>(l,l,(l.length:Int),i)) (fun k i h1 h2=>by
    simp only [zb6]
    rw [ltT h2,zE h2,qe,zEA (h _ (z9 h2))]
    by_cases h0:i = 0
    · subst h0
      simp only [cond_true,Option.bind_some]
      grind
    · rw [ztc (by omega) (by omega),zE (by omega),Int.toNat_natCast,zAM]
      simp only [cond_true,Option.bind_some]
      grind) (fun k=>by simp only [zb6]; rw [ltF]; rfl)
end Go.Proofs.YtejbgeokcpillaaGreatDoor
end
section
namespace Go.Proofs.YtejbgeokcpillaaGreatDoor
open Go.Ev
def zpU (a:List Int):Prop:=∀ x ∈ a,zeA x
theorem zmc {a:List Int} (h:zpU a) (i:Nat):zeA (a.getD i 0):=by
  by_cases hi:i < a.length
  · exact h _ (z9 hi)
  · rw [List.getD_eq_getElem?_getD,List.getElem?_eq_none (by omega)]
    unfold zeA U64; decide
structure zk8 (x:zg):Prop where
  trades:∀ t ∈ x.2.2.2.2.1,zti t
  purses:∀ a ∈ x.2.2.2.2.2.1,zpU a
  made:zpU x.2.2.2.2.2.2.2.1
  spent:zpU x.2.2.2.2.2.2.2.2.1
structure qB (s:zb):Prop where
  shelves:∀ x ∈ s.2.1,zk8 x
  orders:∀ x ∈ s.2.2.2.1,zk6 x
  entries:∀ x ∈ s.2.2.2.2.1,ztk x
def zj0 (r:zd) (x:zg) (q:zbG):Bool:=((decide ((x.1.length:Int) = q.1) && decide ((x.2.1.length:Int) = q.2.1)) && (decide ((x.2.2.1.length:Int) = q.2.2.1) && decide ((x.2.2.2.1.length:Int) = q.2.2.2.1))) && (decide ((x.2.2.2.2.1.length:Int) = q.2.2.2.2.1) && (decide (x.2.2.2.2.2.1.length = r.2.2.1.length) && decide (x.2.2.2.2.2.2.1.length = r.2.2.1.length)))
def zim (r:zd) (s:zb):Bool:=(decide (s.2.1.length = r.1.length) && (decide ((s.2.2.2.1.length:Int) = r.2.2.2.2.2.1) && decide ((s.2.2.2.2.1.length:Int) ≤ r.2.2.2.2.2.2.1))) && ((decide (s.2.2.2.2.2.1.length = r.2.1.length) && decide (s.1 ≤ M62)) && ql (fun i=>zj0 r (s.2.1.getD i zf) (r.2.2.2.2.1.getD i jS)) 0 (s.2.1.length - 0))
theorem neI (a b:Int):(a != b) = !decide (a = b):=by
  rw [Bool.eq_iff_iff]; simp
theorem zAO {r:zd} (hr:z7 r) (s:zb):zbu ((r,s,()),()) = some (qk r && zim r s,()):=by
  rw [zP]
  simp only [zbu,zgr,zd9 r hr,Option.bind_some]
  cases hb:qk r with
  | false=>rfl
  | true =>
    have ok:=jE hb
    have ok1:=ok.labels
    have ok2:=ok.quotas
    rw [zmI,zmI]
    unfold zim M62
    by_cases hn:s.2.1.length = r.1.length
    · have hloop:zh9 K0 ((r.2.2.1.length:Int),s.2.1,(s.2.1.length:Int),0,(r,s,())) = bif ql (fun i=>zj0 r (s.2.1.getD i zf) (r.2.2.2.2.1.getD i jS)) 0 (s.2.1.length - 0) then some (true,()) else some (false,()) :=
        yF (i0:=0) (n:=s.2.1.length) (by unfold Go.maxLen; omega) (Nat.zero_le _) (fun i=>((r.2.2.1.length:Int),s.2.1,(s.2.1.length:Int),i,(r,s,()))) (fun k i h1 h2=>by
          simp only [zey]
          rw [ltT h2,zE h2,zE (by omega)]
          simp only [qe,neI,cond_true,zj0]
          generalize s.2.1.getD i zf = x
          generalize r.2.2.2.2.1.getD i jS = q
          generalize k _ = kk
          grind (splits:=30)) (fun k=>by simp only [zey]; rw [ltF]; rfl)
      rw [hloop]
      grind
    · grind
structure zhd (r:zd) (s:zb):Prop where
  shelves:s.2.1.length = r.1.length
  orders:s.2.2.2.1.length ≤ 24
  entries:s.2.2.2.2.1.length ≤ 48
  people:s.2.2.2.2.2.1.length = r.2.1.length
  shelf:∀ x ∈ s.2.1,x.1.length ≤ 12 ∧ x.2.1.length ≤ 12 ∧ x.2.2.1.length ≤ 12 ∧ x.2.2.2.1.length ≤ 12 ∧ x.2.2.2.2.1.length ≤ 12 ∧ x.2.2.2.2.2.1.length = r.2.2.1.length ∧ x.2.2.2.2.2.2.1.length = r.2.2.1.length
theorem zvI:∀ (l:List zbG) (n:Int),zpO n l = true→∀ q ∈ l,zhb q = true
  | [],_,_,q,h=>by cases h
  | a :: l,n,h,q,hq=>by
    simp only [zpO,Bool.and_eq_true] at h
    rcases List.mem_cons.1 hq with rfl | hq
    · exact h.1
    · exact zvI l _ h.2.2 q hq
theorem zaE {r:zd} {s:zb} (hb:qk r = true) (h:zim r s = true):zhd r s:=by
  have ok:=jE hb
  simp only [qk,Bool.and_eq_true] at hb
  obtain ⟨-,-,-,-,h5,h6⟩:=hb
  simp only [zja,ztg,qf,Bool.and_eq_true,decide_eq_true_eq] at h5 h6
  simp only [zim,Bool.and_eq_true,decide_eq_true_eq,jl] at h
  obtain ⟨⟨h7,h8,h9⟩,⟨h10,-⟩,h11⟩:=h
  refine ⟨h7,by omega,by omega,h10,fun x hx=>?_⟩
  obtain ⟨i,hi,rfl⟩:=List.mem_iff_getElem.1 hx
  have h12:=h11 i (by omega) (by omega)
  have e:s.2.1.getD i zf = s.2.1[i]:=by simp [List.getD,hi]
  rw [e] at h12
  have hq:=zvI _ _ h5.2.2.2 (r.2.2.2.2.1.getD i jS) (z9 (by have:=ok.quotas; omega))
  simp only [zhb,qf,Bool.and_eq_true,decide_eq_true_eq] at hq
  simp only [zj0,Bool.and_eq_true,decide_eq_true_eq] at h12
  omega
def j5 (x:zg):Bool:=(x.1.all zo0) && (zHs x.2.1 && (x.2.2.1.all qu && (x.2.2.2.1.all zo1 && x.2.2.2.2.1.all zk4)))
theorem zxN {x:zg} (h:x.1.length ≤ 12 ∧ x.2.1.length ≤ 12 ∧ x.2.2.1.length ≤ 12 ∧ x.2.2.2.1.length ≤ 12 ∧ x.2.2.2.2.1.length ≤ 12):zex (x,()) = some (j5 x,()):=by
  rw [zP]
  have hm:12 ≤ Go.maxLen:=by unfold Go.maxLen; omega
  simp only [zex]
  rw [zCV (by omega),zCX (by omega),zkn (by omega),zC0 (by omega),zAJ (by omega)]
  simp only [Option.bind_some,j5]
  grind
theorem zAP {r:zd} {s:zb} (ok:zhc r) (sz:zhd r s):zbv ((r,s,()),()) = some (s.2.1.all j5,()):=by
  rw [zP]
  simp only [zbv]
  have h1:=ok.labels
  have h2:=sz.shelves
  rw [zEl (p:=j5) (by unfold Go.maxLen; omega) fun x hx=>zxN (by have:=sz.shelf x hx; omega)]
  simp only [Option.bind_some]
def vT (r:zd) (x:Int):Bool:=decide (0 ≤ x ∧ x < (r.2.2.1.length:Int))
def zdi (r:zd) (x:Int):Bool:=decide (0 ≤ x ∧ x < (r.1.length:Int))
theorem y6 (r:zd) (s:zb) (x:Int):qM ((r,s,()),x,()) = some (vT r x,()):=by simp only [qM,vT]; grind
theorem zqP (r:zd) (s:zb) (x:Int):zbq ((r,s,()),x,()) = some (zdi r x,()):=by simp only [zbq,zdi]; grind
def zmd (s:zb) (x:qw):Bool:=decide (0 ≤ x.1 ∧ x.1 < (s.2.1.length:Int)) && (decide (0 ≤ x.2.1 ∧ x.2.1 < ((s.2.1.getD x.1.toNat zf).1.length:Int)) && ((s.2.1.getD x.1.toNat zf).1.getD x.2.1.toNat ztd).1)
theorem zqQ (s:zb) (x:qw):zdX (s,x,()) = some (zmd s x,()):=by
  rw [zP]
  simp only [zdX,zmd,ix]
  by_cases h1:0 ≤ x.1 ∧ x.1 < (s.2.1.length:Int)
  · rw [ixR h1,ixR h1]
    by_cases h2:0 ≤ x.2.1 ∧ x.2.1 < ((s.2.1.getD x.1.toNat zf).1.length:Int)
    · rw [ixR h2]
      grind
    · grind
  · grind
def zjc (r:zd) (s:zb) (x:zp):Bool:=!x.1 || (zdi r x.2.1 && (vT r x.2.2.1 && decide (x.2.2.2.2.2.2.2.2.2.1 < (s.2.2.2.2.1.length:Int))))
def zjd (r:zd) (s:zb) (x:zH):Bool:=decide (x.2.1 < (r.2.1.length:Int)) && ((x.2.2.1:Int) == r.2.1.getD x.2.1.toNat 0 && (vT r x.2.2.2.1 && decide (x.1 ≤ s.1)))
def ztl (r:zd) (x:Int):Bool:=x == -1 || vT r x
theorem zGg (r:zd) (s:zb) (x:zp):zdN (x,some (r,s,()),()) = some (zjc r s x,()):=by
  rw [zP]
  simp only [zdN,y6,zqP,Option.bind_some,zjc]
  grind
theorem zGh (r:zd) (s:zb) {x:zH} (h:zk7 x = true):zaX (x,some (r,s,()),()) = some (zjd r s x,()):=by
  rw [zP]
  simp only [zaX,y6,Option.bind_some,zjd,ix]
  have:0 ≤ x.2.1:=by unfold zk7 jt at h; grind
  by_cases h1:x.2.1 < (r.2.1.length:Int)
  · rw [ixR ⟨this,h1⟩]
    grind
  · grind
theorem zGi (r:zd) (s:zb) (x:Int):j9 (x,some (r,s,()),()) = some (ztl r x,()):=by
  rw [zP]
  simp only [j9,y6,Option.bind_some,ztl]
  grind
def zef (r:zd) (s:zb):Bool:=zil r s.2.2.1 && (ztj s.2.2.2.1 && (zmb s.2.2.2.2.1 && (zmd s (ze zB) && (s.2.2.2.1.all (zjc r s) && (s.2.2.2.2.1.all (zjd r s) && s.2.2.2.2.2.1.all (ztl r))))))
theorem zDa {l:List zH} (h:zmb l = true):∀ x ∈ l,zk7 x = true:=by
  intro x hx
  simp only [zmb,jl,Bool.and_eq_true] at h
  obtain ⟨i,hi,rfl⟩:=List.mem_iff_getElem.1 hx
  have e:l.getD i zhn = l[i]:=by simp [List.getD,hi]
  rw [← e]
  exact (h i (by omega) (by omega)).1
theorem zy4 {r:zd} {s:zb} (hr:z7 r) (hb:qk r = true) (hs:qB s) (sz:zhd r s):zaM ((r,s,()),()) = some (zef r s,()):=by
  rw [zP]
  have ok:=jE hb
  have h1:=ok.lines
  have h2:=sz.orders
  have h3:=sz.entries
  have h4:=sz.people
  have hm:48 ≤ Go.maxLen:=by unfold Go.maxLen; omega
  simp only [zaM,zC7 hr,hb,Bool.true_and,Option.bind_some]
  unfold zef
  cases zil r s.2.2.1 with
  | false=>rfl
  | true =>
    rw [zC9 (by omega) hs.orders,zAN (by omega) hs.entries,zqQ]
    simp only [Option.bind_some,cond_true]
    cases ztj s.2.2.2.1 with
    | false=>rfl
    | true =>
      cases he:zmb s.2.2.2.2.1 with
      | false=>rfl
      | true =>
        rw [zEm (p:=zjc r s) (by omega) fun x _=>zGg r s x,zEn (p:=zjd r s) (by omega) fun x hx=>zGh r s (zDa he x hx),zHm (p:=ztl r) (by omega) fun x _=>zGi r s x]
        simp only [Option.bind_some,cond_true]
        grind
end Go.Proofs.YtejbgeokcpillaaGreatDoor
end
section
namespace Go.Proofs.YtejbgeokcpillaaGreatDoor
open Go.Ev
def zin (r:zd) (a b:Int):Bool:=zdi r a && (zdi r b && zbb (r.1.getD a.toNat qK) (r.1.getD b.toNat qK))
theorem zsM {r:zd} (hr:z7 r) (a:Int) (h:zdi r a = true):zea (r.1.getD a.toNat qK):=by
  simp only [zdi,decide_eq_true_eq] at h
  exact hr.labels _ (z9 (by omega))
theorem zut {r:zd} (hr:z7 r) (s:zb) (a b:Int):zf5 ((r,s,()),a,b,()) = some (zin r a b,()):=by
  rw [zP]
  simp only [zf5,zqP,Option.bind_some,zin,ix]
  cases ha:zdi r a with
  | false=>rfl
  | true =>
    cases hb:zdi r b with
    | false=>rfl
    | true =>
      rw [zf9 (zsM hr a ha) (zsM hr b hb)]
      simp only [zdi,decide_eq_true_eq] at ha hb
      rw [ixR ha,ixR hb]
      simp only [Option.bind_some]
      grind
def zeb (r:zd) (s:zb) (i:Int) (x:qw):Bool:=zmd s x && zin r x.1 i
theorem zio {r:zd} (hr:z7 r) (s:zb) (i:Int) (x:qw):vO (x,some (r,s,()),some i,()) = some (zeb r s i x,()):=by
  rw [zP]
  simp only [vO,zqQ,zut hr,Option.bind_some,zeb]
  grind
def ze2 (r:zd) (s:zb) (i:Int) (x:z8):Bool:=!x.1 || (zeb r s i x.2.1 && zeb r s i x.2.2.1)
def yV (r:zd) (s:zb) (i:Int) (x:zi):Bool:=(x.2.2.1:Int) != 2 || zeb r s i x.2.2.2.2.1
def ziq (r:zd) (s:zb) (i:Int) (x:zg):Bool:=x.2.1.all (ze2 r s i) && (x.2.2.1.all (yV r s i) && x.2.2.2.2.2.2.1.all (zeb r s i))
theorem zHw {r:zd} (hr:z7 r) (s:zb) (i:Int) (x:z8):zes (x,some (some fun z=>vO (z.1,some (r,s,()),some i,())),()) = some (ze2 r s i x,()):=by
  rw [zP]
  simp only [zes,zio hr,Option.bind_some,ze2]
  grind
theorem zHx {r:zd} (hr:z7 r) (s:zb) (i:Int) (x:zi):zbL (x,some (some fun z=>vO (z.1,some (r,s,()),some i,())),()) = some (yV r s i x,()):=by
  rw [zP]
  simp only [zbL,zio hr,Option.bind_some,yV]
  grind
theorem zAQ {r:zd} {s:zb} (hr:z7 r) (ok:zhc r) (sz:zhd r s):zdZ ((r,s,()),()) = some (ql (fun i=>ziq r s (i:Int) (s.2.1.getD i zf)) 0 (s.2.1.length - 0),()):=by
  rw [zP]
  have h1:=ok.labels
  have h2:=sz.shelves
  have h3:=ok.accounts
  exact yF (B:=zb8) (i0:=0) (n:=s.2.1.length) (by unfold Go.maxLen; omega) (Nat.zero_le _) (fun i=>(s.2.1,(s.2.1.length:Int),i,(r,s,()))) (fun k i _ h=>by
    have hm:12 ≤ Go.maxLen:=by unfold Go.maxLen; omega
    have hz:=sz.shelf _ (z9 (d:=zf) h)
    simp only [zb8]
    have hbelow:zkb ((r,s,()),(i:Int),()) = some (some fun z=>vO (z.1,some (r,s,()),some (i:Int),()),()):=rfl
    rw [ltT h,zE h,qe,hbelow,Option.bind_some,zFZ (p:=ze2 r s i) (by omega) fun x _=>zHw hr s i x,zxC (p:=yV r s i) (by omega) fun x _=>zHx hr s i x,zHn (p:=zeb r s i) (by omega) fun x _=>zio hr s i x]
    simp only [Option.bind_some,cond_true]
    unfold ziq
    grind) (fun k=>by simp only [zb8]; rw [ltF]; rfl)
theorem zEB {σ ρ:Type} {B:(σ→Option ρ)→σ→Option ρ} {i0 n:Nat} (hn:n ≤ Go.maxLen) (h0:i0 ≤ n) {p:Nat→Bool} {fin bad:Option ρ} (st:Int→σ)
    (hin:∀ k (i:Nat),i0 ≤ i→i < n→B k (st i) = bif p i then k (st (wI (i + 1))) else bad) (hout:∀ k,B k (st n) = fin) (K:Nat) (hK:n - i0 < K):zm B K (st i0) = bif ql p i0 (n - i0) then fin else bad:=by
  have key:∀ (m i fuel:Nat),i0 ≤ i→i + m = n→m < fuel→zm B fuel (st i) = bif ql p i m then fin else bad:=by
    intro m
    induction m with
    | zero =>
      intro i fuel _ h1 h2
      obtain ⟨f,rfl⟩:∃ f,fuel = f + 1:=⟨fuel - 1,by omega⟩
      obtain rfl:i = n:=by omega
      exact hout _
    | succ m ih =>
      intro i fuel h1 h2 h3
      obtain ⟨f,rfl⟩:∃ f,fuel = f + 1:=⟨fuel - 1,by omega⟩
      show B (zm B f) (st i) = _
      rw [hin _ i h1 (by omega),wI,zwA (len:=n) (by omega) hn,show ((i:Int) + 1) = ((i + 1:Nat):Int) by omega,ih (i + 1) f (by omega) (by omega) (by omega)]
      simp only [ql]
      cases p i <;> rfl
  exact key (n - i0) i0 K (Nat.le_refl _) (by omega) hK
def zft (r:zd) (x:zi):Bool:=(x.2.2.1:Int) != 1 || vT r x.2.2.2.1
def ztm (r:zd) (i:Int) (x:qq):Bool:=!x.1 || (zin r x.2.1 i && (vT r x.2.2.1 && vT r x.2.2.2.1))
def zpV (r:zd) (x:zt):Bool:=!x.1 || (vT r x.2.1 && vT r x.2.2.1)
def zdj (r:zd) (i:Int) (x:zg):Bool:=x.2.2.1.all (zft r) && (x.2.2.2.1.all (ztm r i) && x.2.2.2.2.1.all (zpV r))
theorem zGj (r:zd) (s:zb) (x:zi):zaY (x,some (r,s,()),()) = some (zft r x,()):=by
  rw [zP]
  simp only [zaY,y6,Option.bind_some,zft]
  grind
theorem zGk {r:zd} (hr:z7 r) (s:zb) (i:Int) (x:qq):va (x,some (r,s,()),some i,()) = some (ztm r i x,()):=by
  rw [zP]
  simp only [va,y6,zut hr,Option.bind_some,ztm]
  grind
theorem zGl (r:zd) (s:zb) (x:zt):qz (x,some (r,s,()),()) = some (zpV r x,()):=by
  rw [zP]
  simp only [qz,y6,Option.bind_some,zpV]
  grind
theorem zy5 {r:zd} {s:zb} (hr:z7 r) (ok:zhc r) (sz:zhd r s):zaK ((r,s,()),()) = some (ql (fun i=>zdj r (i:Int) (s.2.1.getD i zf)) 0 s.2.1.length,()):=by
  rw [zP]
  have h1:=ok.labels
  have h2:=sz.shelves
  have hm:12 ≤ Go.maxLen:=by unfold Go.maxLen; omega
  have step:∀ k (i:Nat),i < s.2.1.length→qP k (s.2.1,(s.2.1.length:Int),(i:Int),(r,s,())) = bif zdj r (i:Int) (s.2.1.getD i zf) then k (s.2.1,(s.2.1.length:Int),wI ((i:Int) + 1),(r,s,())) else some (false,()):=fun k i h=>by
    have hz:=sz.shelf _ (z9 (d:=zf) h)
    simp only [qP]
    rw [ltT h,zE h,qe,zxC (p:=zft r) (by omega) fun x _=>zGj r s x,zF0 (p:=ztm r i) (by omega) fun x _=>zGk hr s i x,zEo (p:=zpV r) (by omega) fun x _=>zGl r s x]
    simp only [Option.bind_some,cond_true]
    unfold zdj
    grind
  have hend:∀ k,qP k (s.2.1,(s.2.1.length:Int),(s.2.1.length:Int),(r,s,())) = some (true,()):=fun k=>by simp only [qP]; rw [ltF]; rfl
  have first:zaK ((r,s,()),()) = zwB (qP) (qP) K0 (s.2.1,(s.2.1.length:Int),((0:Nat):Int),(r,s,())):=rfl
  have hw:wI (((0:Nat):Int) + 1) = ((1:Nat):Int):=rfl
  obtain ⟨m,hK⟩:=zte
  have hf:∀ (B0 B1:(vb→Option (Bool × Unit))→vb→Option (Bool × Unit)) (x:vb),zwB B0 B1 K0 x = B0 (zm B1 (m + 7)) x:=fun B0 B1 x=>by rw [hK]; rfl
  have rest:=zEB (B:=qP) (i0:=1) (n:=s.2.1.length) (by unfold Go.maxLen; omega) (by omega) (p:=fun i=>zdj r (i:Int) (s.2.1.getD i zf)) (fun i=>(s.2.1,(s.2.1.length:Int),i,(r,s,()))) (fun k i _ h=>step k i h) hend (m + 7) (by unfold K0 Go.maxLen at hK; omega)
  rw [hf] at first
  rw [first,step _ 0 (by omega),hw]
  refine (congrArg (fun z=>bif zdj r ((0:Nat):Int) (s.2.1.getD 0 zf) then z else some (false,())) rest).trans ?_
  obtain ⟨n,hn⟩:∃ n,s.2.1.length = n + 1:=⟨s.2.1.length - 1,by omega⟩
  rw [hn]
  simp only [ql,Nat.add_sub_cancel]
  cases zdj r ((0:Nat):Int) (s.2.1.getD 0 zf) <;> rfl
theorem zDb {l:List zt} {g:zt × Unit→Option (Bool × Unit)} {p:zt→Bool} (hg:∀ x,g (x,()) = some (p x,())) (z:Int):vN (some (l,some g,()),z,()) = some (decide (0 ≤ z ∧ z < (l.length:Int)) && p (l.getD z.toNat qD),()):=by
  by_cases h:0 ≤ z ∧ z < (l.length:Int)
  · obtain ⟨n,rfl⟩:=Int.eq_ofNat_of_zero_le h.1
    rw [zur hg (by omega),decide_eq_true h,Bool.true_and,Int.toNat_natCast]
  · rw [decide_eq_false h,Bool.false_and]
    simp only [vN,zsL,Option.bind_some,cond_true]
    grind
theorem zxO {α:Type} {p:α→Bool} (d:α) (L:List α) (q:Int→Bool):∀ (l:List α) (i:Nat),(∀ j,j < l.length→L.getD (i + j) d = l.getD j d)→(z6 p i l).all q = ql (fun j=>!p (L.getD j d) || q (j:Int)) i l.length
  | [],_,_=>rfl
  | x :: l,i,h=>by
    have ih:=zxO (p:=p) d L q l (i + 1) fun j hj=>by
      have:=h (j + 1) (by simp; omega)
      rw [show i + 1 + j = i + (j + 1) by omega,this]; rfl
    have h0:L.getD i d = x:=h 0 (by simp)
    simp only [z6,List.length_cons,ql,h0]
    rw [← ih]
    cases p x <;> simp
def zje (x:zg) (j:Nat) (t:zi):Bool:=(t.2.2.1:Int) != 3 || (decide (0 ≤ t.2.2.2.1 ∧ t.2.2.2.1 < (x.2.2.2.2.1.length:Int)) && ((x.2.2.2.2.1.getD (Int.toNat t.2.2.2.1) qD).1 && ((x.2.2.2.2.1.getD (Int.toNat t.2.2.2.1) qD).2.2.2.1.2.2.1:Int) == (j:Int)))
def zaF (x:zg) (j:Int) (t:zt):Bool:=(decide (t.2.2.2.1.2.2.1 < (x.2.2.1.length:Int)) && decide (t.2.2.2.2.1.2.2.1 < (x.2.2.1.length:Int))) && (decide (t.2.2.2.1.2.2.1 < 0) || (((x.2.2.1.getD (Int.toNat t.2.2.2.1.2.2.1) zO).2.2.1:Int) == 3 && ((x.2.2.1.getD (Int.toNat t.2.2.2.1.2.2.1) zO).2.2.2.1:Int) == j))
def zga (x:zg):Bool:=ql (fun j=>zje x j (x.2.2.1.getD j zO)) 0 (x.2.2.1.length - 0) && ql (fun j=>!(x.2.2.2.2.1.getD j qD).1 || zaF x (j:Int) (x.2.2.2.2.1.getD j qD)) 0 x.2.2.2.2.1.length
theorem zno (x:zt):vJ (x,()) = some (x.1,()):=by
  rw [zP]; rfl
theorem zAR {r:zd} {s:zb} (ok:zhc r) (sz:zhd r s):zdY ((r,s,()),()) = some (ql (fun i=>zga (s.2.1.getD i zf)) 0 (s.2.1.length - 0),()):=by
  rw [zP]
  have h1:=ok.labels
  have h2:=sz.shelves
  have hm:12 ≤ Go.maxLen:=by unfold Go.maxLen; omega
  have hlm:12 ≤ lim:=by unfold lim; omega
  have l2:∀ k0 (i:Nat) (x:zg),x.2.2.2.2.1.length ≤ 12→zb2 K0 k0 (s.2.1,(s.2.1.length:Int),(i:Int),z6 (fun t:zt=>t.1) 0 x.2.2.2.2.1,((z6 (fun t:zt=>t.1) 0 x.2.2.2.2.1).length:Int),0,x) = bif ql (fun j=>!(x.2.2.2.2.1.getD j qD).1 || zaF x (j:Int) (x.2.2.2.2.1.getD j qD)) 0 x.2.2.2.2.1.length then k0 (s.2.1,(s.2.1.length:Int),wI ((i:Int) + 1)) else some (false,()):=fun k0 i x hx=>by
    have hsl:=zdU (p:=fun t:zt=>t.1) x.2.2.2.2.1 0
    have hsm:=zkY (p:=fun t:zt=>t.1) x.2.2.2.2.1 0
    have:=zuQ (B:=fun k2=>zb1 k0 k2) (l:=z6 (fun t:zt=>t.1) 0 x.2.2.2.2.1) (0:Int) (p:=fun z=>zaF x z (x.2.2.2.2.1.getD z.toNat qD)) (fin:=k0 (s.2.1,(s.2.1.length:Int),wI ((i:Int) + 1))) (bad:=some (false,())) (fun j=>(s.2.1,(s.2.1.length:Int),(i:Int),z6 (fun t:zt=>t.1) 0 x.2.2.2.2.1,((z6 (fun t:zt=>t.1) 0 x.2.2.2.2.1).length:Int),j,x)) (by omega) (fun k j z hj hz hmem=>by
      obtain ⟨n,rfl,-,hn⟩:=hsm z hmem
      simp only [zb1]
      rw [ltT hj,zE hj,qe,hz,zE (by omega),zE (by omega),Int.toNat_natCast]
      simp only [cond_true,zaF,neI]
      by_cases ha:(x.2.2.2.2.1.getD n qD).2.2.2.1.2.2.1 < (x.2.2.1.length:Int)
      · by_cases hb:0 ≤ (x.2.2.2.2.1.getD n qD).2.2.2.1.2.2.1
        · rw [ixR ⟨hb,ha⟩,ixR ⟨hb,ha⟩]
          grind
        · grind
      · grind) (fun k=>by simp only [zb1]; rw [ltF]; rfl)
    refine this.trans ?_
    rw [zxO (p:=fun t:zt=>t.1) qD x.2.2.2.2.1 (fun z=>zaF x z (x.2.2.2.2.1.getD z.toNat qD)) x.2.2.2.2.1 0 fun j _=>by rw [Nat.zero_add]]
    simp only [Int.toNat_natCast]
  have l1:∀ k0 (i:Nat) (x:zg),x.2.2.1.length ≤ 12→x.2.2.2.2.1.length ≤ 12→zb3 K0 k0 (some (x.2.2.2.2.1,some vJ,()),s.2.1,(s.2.1.length:Int),(i:Int),x.2.2.1,(x.2.2.1.length:Int),0,x) = bif zga x then k0 (s.2.1,(s.2.1.length:Int),wI ((i:Int) + 1)) else some (false,()):=fun k0 i x hx hx2=>by
    have:=yF (B:=fun k1=>y4 (zb2 K0 k0) k0 k1) (i0:=0) (n:=x.2.2.1.length) (p:=fun j=>zje x j (x.2.2.1.getD j zO)) (fin:=bif ql (fun j=>!(x.2.2.2.2.1.getD j qD).1 || zaF x (j:Int) (x.2.2.2.2.1.getD j qD)) 0 x.2.2.2.2.1.length then k0 (s.2.1,(s.2.1.length:Int),wI ((i:Int) + 1)) else some (false,())) (bad:=some (false,())) (by omega) (Nat.zero_le _) (fun j=>(some (x.2.2.2.2.1,some vJ,()),s.2.1,(s.2.1.length:Int),(i:Int),x.2.2.1,(x.2.2.1.length:Int),j,x)) (fun k j _ hj=>by
      simp only [y4]
      rw [ltT hj,zE hj,qe,zDb zno]
      simp only [cond_true,Option.bind_some,zje,neI]
      by_cases ha:0 ≤ (x.2.2.1.getD j zO).2.2.2.1 ∧ (x.2.2.1.getD j zO).2.2.2.1 < (x.2.2.2.2.1.length:Int)
      · rw [ixR ha]
        grind
      · grind) (fun k=>by
      simp only [y4]
      rw [ltF,zqO (by omega) zno,Option.bind_some]
      exact l2 k0 i x hx2)
    refine this.trans ?_
    unfold zga
    cases ql (fun j=>zje x j (x.2.2.1.getD j zO)) 0 (x.2.2.1.length - 0) <;> rfl
  exact yF (B:=fun k0=>y5 (zb3 K0 k0) k0) (i0:=0) (n:=s.2.1.length) (by omega) (Nat.zero_le _) (fun i=>(s.2.1,(s.2.1.length:Int),i)) (fun k i _ h=>by
    have hz:=sz.shelf _ (z9 (d:=zf) h)
    simp only [y5]
    have hq:yx ((s.2.1.getD i zf).2.2.2.2.1,some vJ,()) = some (some ((s.2.1.getD i zf).2.2.2.2.1,some vJ,()),()):=by
      simp only [yx,zkj (show (s.2.1.getD i zf).2.2.2.2.1.length ≤ lim by omega),Option.bind_some]
      rfl
    rw [ltT h,zE h,qe,hq,Option.bind_some]
    exact l1 k i _ (by omega) (by omega)) (fun k=>by simp only [y5]; rw [ltF]; rfl)
end Go.Proofs.YtejbgeokcpillaaGreatDoor
end
section
namespace Go.Proofs.YtejbgeokcpillaaGreatDoor
open Go.Ev
def zir (r:zd) (s:zb) (i:Int) (x:zg):Bool:=ziq r s i x && (zdj r i x && zga x)
theorem zIp {α:Type} {d:α} {l:List α} {p:α→Bool}:l.all p = true ↔ ∀ j,j < l.length→p (l.getD j d) = true:=by
  rw [List.all_eq_true]
  constructor
  · exact fun h j hj=>h _ (z9 hj)
  · intro h x hx
    obtain ⟨i,hi,rfl⟩:=List.mem_iff_getElem.1 hx
    have:=h i hi
    simpa [List.getD,hi] using this
theorem zHy {t:zi} (h:qu t = true) (h1:t.1 = false):t.2.2.1 = 0:=by
  unfold qu at h
  rw [h1,cond_false] at h
  have e:eqI zl t (ze zl) = cond (t.1 == false) (cond (ByteArray.toList t.2.1 == ByteArray.toList (ze zl).2.1) (cond ((t.2.2.1:Int) == 0) (cond ((t.2.2.2.1:Int) == 0) (cond (eqI zB t.2.2.2.2.1 (ze zB)) true false) false) false) false) false:=rfl
  rw [e] at h
  cases hk:(t.2.2.1:Int) == 0 with
  | true=>exact eq_of_beq hk
  | false =>
    rw [hk] at h
    revert h
    cases (t.1 == false) <;> cases (ByteArray.toList t.2.1 == ByteArray.toList (ze zl).2.1) <;> intro h <;> cases h
end Go.Proofs.YtejbgeokcpillaaGreatDoor
end
section
namespace Go.Proofs.YtejbgeokcpillaaGreatDoor
open Go.Ev
def qm:List Int→Int
  | []=>0
  | x :: l=>x + qm l
theorem zvJ:∀ (l m:List Int),qm (l ++ m) = qm l + qm m
  | [],m=>by simp [qm]
  | x :: l,m=>by simp only [List.cons_append,qm,zvJ l m]; omega
theorem zpW:∀ {l:List Int},(∀ x ∈ l,0 ≤ x)→0 ≤ qm l
  | [],_=>Int.le_refl 0
  | x :: l,h=>by
    have h1:=h x (by simp)
    have h2:=zpW (l:=l) fun y hy=>h y (by simp [hy])
    simp only [qm]; omega
theorem zdk {α:Type} {g:α→Int} {l:List α} (h:∀ x ∈ l,0 ≤ g x):0 ≤ qm (l.map g):=zpW fun x hx=>by
  obtain ⟨y,hy,rfl⟩:=List.mem_map.1 hx
  exact h y hy
def znX (n:Int):Int × Int × Unit:=bif decide (n > M62) then (0,7,()) else (n,0,())
theorem zjf {n:Int} (h:n > M62):znX n = (0,7,()):=by unfold znX; rw [decide_eq_true h]; rfl
theorem zo2 {n:Int} (h:n ≤ M62):znX n = (n,0,()):=by unfold znX; rw [decide_eq_false (by omega)]; rfl
theorem zme:∀ (l:List Int) (a:Int),a ≤ M62→(∀ x ∈ l,0 ≤ x)→zma a l = znX (a + qm l)
  | [],a,h,_=>by simp only [zma,qm,Int.add_zero]; exact (zo2 h).symm
  | x :: l,a,h,hp=>by
    have h2:=zpW (l:=l) fun y hy=>hp y (by simp [hy])
    simp only [zma,qm]
    by_cases hb:a + x > M62
    · rw [decide_eq_true hb,zjf (by omega)]; rfl
    · rw [decide_eq_false hb,cond_false,zme l (a + x) (by omega) fun y hy=>hp y (by simp [hy])]
      congr 1; omega
theorem znY {α:Type} (p:α→Bool) (g:α→Int):∀ l:List α,qm ((l.filter p).map g) = qm (l.map fun x=>bif p x then g x else 0)
  | []=>rfl
  | x :: l=>by
    have ih:=znY p g l
    rw [zk5]
    simp only [List.map_cons,qm]
    cases hp:p x with
    | true=>simp only [cond_true,List.map_cons,qm,ih]
    | false=>simp only [cond_false,ih]; omega
def zmf (x:zp):Int:=bif (x.2.2.2.1:Int) == 2 then x.2.2.2.2.1 else x.2.2.2.2.2.1
theorem zIq (x:zp):zgg (x,()) = some (zmf x,()):=by
  simp only [zgg,zmf]; grind
def zdV (c:Int) (x:zp):Int:=bif x.1 && zmf x == c then x.2.2.2.2.2.2.2.2.1 else 0
def zvK (l:List zp) (c:Int):Int × Int × Unit:=bif vS c then znX (qm (l.map (zdV c))) else (0,1,())
theorem zGm (l:List zp) (hl:l.length ≤ lim):zkS (l,()) = some (some (l,some zhA,()),()):=by
  simp only [zkS,zgN,zqM hl,Option.bind_some]
  rfl
theorem zDc (x:zp):zhA (x,()) = some (x.1,()):=by
  rw [zP]; rfl
theorem zEC {l:List zp} (hl:l.length ≤ lim) (h:∀ x ∈ l,zk6 x) (c:Int):zju (l,c,()) = some (zvK l c):=by
  have hl':l.length ≤ Go.maxLen:=by unfold lim at hl; unfold Go.maxLen; omega
  simp only [zju,zjt,zba,Option.bind_some]
  unfold zvK
  cases hc:vS c with
  | false=>rfl
  | true =>
    have hslots:zhZ (l,()) = some (z6 (fun x:zp=>x.1) 0 l,()):=by
      simp only [zhZ]
      rw [zGm l hl,Option.bind_some,zAK hl zDc,Option.bind_some]
    simp only [cond_true]
    rw [hslots,Option.bind_some]
    have hsl:=zdU (p:=fun x:zp=>x.1) l 0
    have hsm:=zkY (p:=fun x:zp=>x.1) l 0
    have hloop:=zaw (B:=zd1) (l:=z6 (fun x:zp=>x.1) 0 l) (α:=List Int) (0:Int) (fun i o=>o.length ≤ i ∧ ∀ x ∈ o,0 ≤ x ∧ x < U64) (fun i o=>(l,c,z6 (fun x:zp=>x.1) 0 l,((z6 (fun x:zp=>x.1) 0 l).length:Int),i,o))
      (fun rest o=>some (zma 0 (o ++ (rest.filter fun z=>zmf (l.getD z.toNat qp) == c).map fun z=>(l.getD z.toNat qp).2.2.2.2.2.2.2.2.1))) (by omega) (fun k i x rest o hi hI hx hm hr hk=>by
        simp only [zd1]
        obtain ⟨j,rfl,-,hj⟩:=hsm x hm
        rw [ltT hi,zE hi,qe,hx,zE (by omega),zE (by omega),Int.toNat_natCast,zaR,zIq]
        have hxx:=(h (l.getD j qp) (z9 (by omega))).held
        simp only [cond_true,zk5,Int.toNat_natCast,Option.bind_some]
        rw [decide_eq_true (by simp; omega)]
        simp only [cond_true]
        cases hq:zmf (l.getD j qp) == c with
        | false =>
          exact hk o ⟨by omega,hI.2⟩
        | true =>
          simp only [cond_true,List.map_cons,Int.toNat_natCast]
          refine (hk _ ⟨by simp; omega,fun x hx=>?_⟩).trans ?_
          · rcases List.mem_append.1 hx with hx | hx
            · exact hI.2 x hx
            · rcases List.mem_singleton.1 hx with rfl
              exact hxx
          · rw [List.append_assoc]; rfl) (fun k o hI=>by
        simp only [zd1]
        rw [ltF]
        simp only [cond_false]
        rw [zkX (by omega) hI.2,List.filter_nil,List.map_nil,List.append_nil]
        rfl) [] ⟨Nat.le_refl _,fun x hx=>by cases hx⟩
    refine hloop.trans ?_
    rw [List.nil_append,zko (q:=fun x:zp=>zmf x == c) (g:=fun x:zp=>x.2.2.2.2.2.2.2.2.1) qp l l 0 fun j _=>by rw [Nat.zero_add]]
    rw [zme _ 0 (by unfold M62; omega) fun x hx=>?_,znY,Int.zero_add]
    · rfl
    · obtain ⟨y,hy,rfl⟩:=List.mem_map.1 hx
      exact (h y (List.mem_filter.1 hy).1).held.1
theorem zAS {x:zp} (h:zk6 x) (c:Int):zeA (zdV c x):=by
  unfold zdV
  cases x.1 && zmf x == c with
  | true=>exact h.held
  | false=>exact (⟨Int.le_refl 0,by unfold U64; decide⟩:zeA 0)
def zfu (c:Int) (x:zt):Int:=bif x.1 && (x.2.2.2.1.1:Int) == c then x.2.2.2.1.2.1 else 0
theorem zDd {l:List zt} (h:∀ x ∈ l,zti x) {c:Int} (hc:vS c = true):znn l c = znX (qm (l.map (zfu c))):=by
  unfold znn
  rw [hc,cond_true,zme _ 0 (by unfold M62; omega) fun x hx=>?_,znY,Int.zero_add]
  · rfl
  · obtain ⟨y,hy,rfl⟩:=List.mem_map.1 hx
    exact (h y (List.mem_filter.1 hy).1).1.1
theorem zAT {x:zt} (h:zti x) (c:Int):zeA (zfu c x):=by
  unfold zfu
  cases x.1 && (x.2.2.2.1.1:Int) == c with
  | true=>exact h.1
  | false=>exact (⟨Int.le_refl 0,by unfold U64; decide⟩:zeA 0)
def zpX (c:Int) (a:List Int):Int:=a.getD c.toNat 0
def zdo (c:Int) (x:zg):Int:=qm (x.2.2.2.2.1.map (zfu c)) + qm (x.2.2.2.2.2.1.map (zpX c))
theorem zxP {x:zg} (h:zk8 x) (c:Int):0 ≤ qm (x.2.2.2.2.1.map (zfu c)):=zdk fun y hy=>(zAT (h.trades y hy) c).1
theorem zxQ {x:zg} (h:zk8 x) (c:Int):0 ≤ qm (x.2.2.2.2.2.1.map (zpX c)):=zdk fun y hy=>(zmc (h.purses y hy) _).1
theorem zqR {x:zg} (h:zk8 x) (c:Int):0 ≤ zdo c x:=by
  have:=zxP h c
  have:=zxQ h c
  unfold zdo; omega
def znp (s:zb) (c:Int):Int × Int × Unit:=bif vS c then znX (qm (s.2.2.2.1.map (zdV c)) + qm (s.2.1.map (zdo c))) else (0,1,())
def wts:List zg→Nat
  | []=>0
  | x :: l=>1 + x.2.2.2.2.2.1.length + wts l
structure zBb (s:zb):Prop where
  shelves:s.2.1.length ≤ 2000000
  orders:s.2.2.2.1.length ≤ 2000000
  shelf:∀ x ∈ s.2.1,x.2.2.2.2.1.length ≤ 2000000 ∧ x.2.2.2.2.2.1.length ≤ 2000000
  all:wts s.2.1 ≤ 2000000
theorem zIr {l:List zg} {i:Nat} {x:zg} {rest:List zg} (hi:i < l.length) (hx:l.getD i zf = x) (hr:l.drop (i + 1) = rest):wts (l.drop i) = 1 + x.2.2.2.2.2.1.length + wts rest:=by
  rw [vW zf hi,hx,hr]; rfl
theorem zHz {n:Nat}:∀ {l:List zg},(∀ x ∈ l,x.2.2.2.2.2.1.length ≤ n)→wts l ≤ l.length * (n + 1)
  | [],_=>Nat.zero_le _
  | x :: l,h=>by
    have h1:=h x (by simp)
    have h2:=zHz (l:=l) fun y hy=>h y (by simp [hy])
    simp only [wts,List.length_cons,Nat.add_mul]
    omega
theorem zzK {c:Int} (hc:vS c = true):0 ≤ c ∧ c < ((4:Nat):Int):=by
  simp only [vS,decide_eq_true_eq] at hc; omega
theorem zDe {s:zb} (hs:qB s) (sh:zBb s) (c:Int):zh7 (s,c,()) = some (znp s c):=by
  have hlm:10000000 ≤ lim:=by unfold lim; omega
  have hmm:10000000 ≤ Go.maxLen:=by unfold Go.maxLen; omega
  have hsh:=sh.shelves
  have hso:=sh.orders
  simp only [zh7,zh6,zba,Option.bind_some]
  rw [zEC (by omega) hs.orders]
  unfold znp zvK
  cases hc:vS c with
  | false=>rfl
  | true =>
    have hcin:=zzK hc
    simp only [cond_true,Option.bind_some]
    have hbook:0 ≤ qm (s.2.2.2.1.map (zdV c)):=zdk fun y hy=>(zAS (hs.orders y hy) c).1
    have hall:0 ≤ qm (s.2.1.map (zdo c)):=zdk fun y hy=>zqR (hs.shelves y hy) c
    have inner:∀ k0 (i:Nat) (x:zg) (o:List Int),x.2.2.2.2.2.1.length ≤ 2000000→o.length ≤ 2000001→zdd K0 k0 (c,s.2.1,(s.2.1.length:Int),(i:Int),x.2.2.2.2.2.1,(x.2.2.2.2.2.1.length:Int),0,o) = k0 (c,s.2.1,(s.2.1.length:Int),wI ((i:Int) + 1),o ++ x.2.2.2.2.2.1.map (zpX c)):=fun k0 i x o hx ho =>
      zaw (B:=fun k1=>zdc k0 k1) (l:=x.2.2.2.2.2.1) (α:=List Int) (ze (Ty.arr 4 tU)) (fun j o'=>o'.length ≤ 2000001 + j) (fun j o'=>(c,s.2.1,(s.2.1.length:Int),(i:Int),x.2.2.2.2.2.1,(x.2.2.2.2.2.1.length:Int),j,o')) (fun rest o'=>k0 (c,s.2.1,(s.2.1.length:Int),wI ((i:Int) + 1),o' ++ rest.map (zpX c))) (by omega) (fun k j a rest o' hj hI ha hm hr hk=>by
        simp only [zdc]
        have h4:((4:Int)) = ((4:Nat):Int):=rfl
        rw [ltT hj,zE hj,Int.toNat_natCast,ha,zaR,decide_eq_true (by simp; omega)]
        simp only [cond_true]
        refine Eq.trans (ixR hcin) ?_
        refine (hk _ (by simp; omega)).trans ?_
        rw [List.append_assoc]; rfl) (fun k o' _=>by
        simp only [zdc]; rw [ltF]
        simp only [cond_false,List.map_nil,List.append_nil]) o ho
    by_cases hb:qm (s.2.2.2.1.map (zdV c)) > M62
    · rw [zjf hb,zjf (by omega)]; rfl
    · rw [zo2 (by omega)]
      have hloop:=zaw (B:=fun k0=>zaL (zdd K0 k0) k0) (l:=s.2.1) (α:=List Int) zf (fun i o=>o.length + wts (s.2.1.drop i) ≤ 2000001 ∧ ∀ x ∈ o,0 ≤ x ∧ x < U64) (fun i o=>(c,s.2.1,(s.2.1.length:Int),i,o)) (fun rest o=>some (znX (qm o + qm (rest.map (zdo c))))) (by omega) (fun k i x rest o hi hI hx hm hr hk=>by
        simp only [zaL]
        have hin:=hs.shelves x hm
        have hlen:=sh.shelf x hm
        have hw:=zIr hi hx hr
        have hw2:=hI.1
        rw [hw] at hw2
        have h1:=zxP hin c
        have h2:=zxQ hin c
        have ho:0 ≤ qm o:=zpW fun y hy=>(hI.2 y hy).1
        have hrest:0 ≤ qm (rest.map (zdo c)):=zdk fun y hy=>zqR (hs.shelves y (by rw [← hr] at hy; exact List.mem_of_mem_drop hy)) c
        rw [ltT hi,zE hi,qe,hx,zC5 (by omega) hin.trades,zDd hin.trades hc]
        simp only [cond_true,Option.bind_some,List.map_cons,qm,zdo]
        by_cases hb:qm (x.2.2.2.2.1.map (zfu c)) > M62
        · rw [zjf hb,zjf (by omega)]; rfl
        · rw [zo2 (by omega),zaR,inner k i x _ (by omega) (by simp; omega)]
          rw [decide_eq_true (by simp; omega)]
          simp only [bne_self_eq_false,cond_true,cond_false]
          refine (hk _ ⟨by rw [hr]; simp; omega,fun y hy=>?_⟩).trans ?_
          · rcases List.mem_append.1 hy with hy | hy
            · rcases List.mem_append.1 hy with hy | hy
              · exact hI.2 y hy
              · rcases List.mem_singleton.1 hy with rfl
                unfold M62 at hb; unfold U64; omega
            · obtain ⟨a,ha,rfl⟩:=List.mem_map.1 hy
              exact zmc (hin.purses a ha) _
          · rw [zvJ,zvJ]
            simp only [qm]
            congr 2; omega) (fun k o hI=>by
        simp only [zaL]
        rw [ltF]
        simp only [cond_false]
        rw [zkX (by omega) hI.2,zme o 0 (by unfold M62; omega) fun y hy=>(hI.2 y hy).1]
        simp only [List.map_nil,qm,Int.add_zero,Int.zero_add]
        rfl) [qm (s.2.2.2.1.map (zdV c))] ⟨by have:=sh.all; simp; omega,fun y hy=>by
          rcases List.mem_singleton.1 hy with rfl
          unfold M62 at hb; unfold U64; omega⟩
      refine hloop.trans ?_
      simp only [qm,Int.add_zero]
end Go.Proofs.YtejbgeokcpillaaGreatDoor
end
section
namespace Go.Proofs.YtejbgeokcpillaaGreatDoor
open Go.Ev
def zDf (a b:Int):Int × Int × Unit:=bif decide (a < b) then (0,6,()) else (a - b,0,())
theorem zDg {a b:Int} (ha:0 ≤ a ∧ a ≤ M62) (hb:0 ≤ b ∧ b ≤ M62):zhB (a,b,()) = some (zDf a b):=by
  simp only [zhB,extA,extB,zDf,cond_false]
  unfold M62 at *
  have h2:b ≤ a→(a - b) % 18446744073709551616 = a - b:=fun h=>by omega
  grind
def zmg (f:zg→List Int) (s:zb) (c:Int):Int:=qm (s.2.1.map fun x=>zpX c (f x))
theorem zDh {f:zg→List Int} {s:zb} (h:∀ x ∈ s.2.1,zpU (f x)) (c:Int):0 ≤ zmg f s c:=zdk fun y hy=>(zmc (h y hy) _).1
theorem zDi {s:zb} (sh:zBb s) {f:zg→List Int} {g:zg × Unit→Option (List Int × Unit)} (hg:∀ x,g (x,()) = some (f x,())) (h:∀ x ∈ s.2.1,zpU (f x)) {c:Int} (hc:vS c = true):zfl (s,c,some g,()) = some (znX (zmg f s c)):=by
  have hlm:10000000 ≤ lim:=by unfold lim; omega
  have hmm:10000000 ≤ Go.maxLen:=by unfold Go.maxLen; omega
  have hsh:=sh.shelves
  have hcin:=zzK hc
  have hloop:=zaw (B:=za3) (l:=s.2.1) (α:=List Int) zf (fun i o=>o.length ≤ i ∧ ∀ x ∈ o,0 ≤ x ∧ x < U64) (fun i o=>(c,some g,s.2.1,(s.2.1.length:Int),i,o)) (fun rest o=>some (zma 0 (o ++ rest.map fun x=>zpX c (f x)))) (by omega) (fun k i x rest o hi hI hx hm hr hk=>by
    simp only [za3]
    rw [ltT hi,zE hi,qe,hx]
    simp only [cond_true,Option.bind_some]
    rw [hg]
    simp only [Option.bind_some]
    refine Eq.trans (ixR hcin) ?_
    rw [zaR,decide_eq_true (by simp; omega)]
    simp only [cond_true]
    refine (hk _ ⟨by simp; omega,fun y hy=>?_⟩).trans ?_
    · rcases List.mem_append.1 hy with hy | hy
      · exact hI.2 y hy
      · rcases List.mem_singleton.1 hy with rfl
        exact zmc (h x hm) _
    · rw [List.append_assoc]; rfl) (fun k o hI=>by
    simp only [za3]
    rw [ltF]
    simp only [cond_false]
    rw [zkX (by omega) hI.2,List.map_nil,List.append_nil]
    rfl) [] ⟨Nat.le_refl _,fun x hx=>by cases hx⟩
  refine Eq.trans ?_ (hloop.trans ?_)
  · rfl
  · rw [List.nil_append,zme _ 0 (by unfold M62; omega) fun y hy=>?_,Int.zero_add]
    · rfl
    · obtain ⟨z,hz,rfl⟩:=List.mem_map.1 hy
      exact (zmc (h z hz) _).1
def znq (s:zb) (c:Int):Int × Int × Unit:=bif vS c then bif decide (zmg (fun x=>x.2.2.2.2.2.2.2.1) s c > M62) then (0,7,()) else bif decide (zmg (fun x=>x.2.2.2.2.2.2.2.2.1) s c > M62) then (0,7,()) else zDf (zmg (fun x=>x.2.2.2.2.2.2.2.1) s c) (zmg (fun x=>x.2.2.2.2.2.2.2.2.1) s c) else (0,1,())
theorem zDj {s:zb} (hs:qB s) (sh:zBb s) (c:Int):zh2 (s,c,()) = some (znq s c):=by
  simp only [zh2,zba,Option.bind_some]
  unfold znq
  cases hc:vS c with
  | false=>rfl
  | true =>
    have p1:=zDh (f:=fun x=>x.2.2.2.2.2.2.2.1) (fun x hx=>(hs.shelves x hx).made) c
    have p2:=zDh (f:=fun x=>x.2.2.2.2.2.2.2.2.1) (fun x hx=>(hs.shelves x hx).spent) c
    rw [zDi sh (f:=fun x=>x.2.2.2.2.2.2.2.1) (g:=ziV) (fun x=>rfl) (fun x hx=>(hs.shelves x hx).made) hc,zDi sh (f:=fun x=>x.2.2.2.2.2.2.2.2.1) (g:=ziW) (fun x=>rfl) (fun x hx=>(hs.shelves x hx).spent) hc]
    simp only [cond_true,Option.bind_some]
    generalize zmg (fun x=>x.2.2.2.2.2.2.2.1) s c = a at *
    generalize zmg (fun x=>x.2.2.2.2.2.2.2.2.1) s c = b at *
    by_cases h1:a > M62
    · rw [zjf h1,decide_eq_true h1]; rfl
    · rw [zo2 (by omega),decide_eq_false h1]
      by_cases h2:b > M62
      · rw [zjf h2,decide_eq_true h2]; rfl
      · rw [zo2 (by omega),decide_eq_false h2]
        simp only [bne_self_eq_false,cond_false]
        rw [zDg (by omega) (by omega)]; rfl
end Go.Proofs.YtejbgeokcpillaaGreatDoor
end
section
namespace Go.Proofs.YtejbgeokcpillaaGreatDoor
open Go.Ev
def znr (r:zd) (s:zb) (c i:Nat):Bool:=!decide (((s.2.1.getD i zf).2.2.2.2.2.2.2.1.getD c 0:Int) > (r.2.2.2.2.1.getD i jS).2.2.2.2.2.1)
def zis (s:zb) (c:Int):Bool:=(znp s c).2.1 == 0 && ((znq s c).2.1 == 0 && (znp s c).1 == (znq s c).1)
def z4 (r:zd) (s:zb):Bool:=qk r && (zim r s && (zef r s && (ql (fun i=>(j5 (s.2.1.getD i zf) && zir r s i (s.2.1.getD i zf)) && ql (fun c=>znr r s c i) 0 (4 - 0)) 0 (s.2.1.length - 0) && ql (fun c=>zis s (c:Int)) 0 (4 - 0))))
theorem zJF {r:zd} {s:zb} (ok:zhc r) (sz:zhd r s):zBb s:=by
  have h1:=sz.shelves
  have h2:=ok.labels
  have h3:=ok.accounts
  have h4:=sz.orders
  have h5:=zHz (n:=8) (l:=s.2.1) fun x hx=>by
    have:=sz.shelf x hx
    omega
  refine ⟨by omega,by omega,fun x hx=>?_,by omega⟩
  have:=sz.shelf x hx
  omega
theorem zAU {r:zd} {s:zb} (ok:zhc r) (hs:qB s) (sz:zhd r s):zd2 ((r,s,()),()) = some (ql (fun c=>ql (fun i=>znr r s c i) 0 (s.2.1.length - 0) && zis s (c:Int)) 0 (4 - 0),()):=by
  rw [zP]
  have hmm:1000000 ≤ Go.maxLen:=by unfold Go.maxLen; omega
  have sh:=zJF ok sz
  have hsh:s.2.1.length ≤ 8:=by rw [sz.shelves]; exact ok.labels.2
  have h2:=sz.shelves
  have h3:=ok.quotas
  have inner:∀ k0 (c:Nat),c < 4→zcc K0 k0 ((c:Int),(c:Int),s.2.1,(s.2.1.length:Int),0,(r,s,())) = bif ql (fun i=>znr r s c i) 0 (s.2.1.length - 0) then bif zis s (c:Int) then k0 (wI ((c:Int) + 1),(r,s,())) else some (false,()) else some (false,()):=fun k0 c hc =>
    yF (B:=fun k1=>zcb k0 k1) (i0:=0) (n:=s.2.1.length) (by omega) (Nat.zero_le _) (fun i=>((c:Int),(c:Int),s.2.1,(s.2.1.length:Int),i,(r,s,()))) (fun k i _ hi=>by
      simp only [zcb]
      rw [ltT hi,zE hi,qe,Int.toNat_natCast]
      simp only [cond_true]
      refine Eq.trans (zE (n:=4) hc) ?_
      rw [zE (by omega),qe]
      unfold znr
      grind) (fun k=>by
      simp only [zcb]
      rw [ltF,zDe hs sh,zDj hs sh]
      simp only [Option.bind_some,cond_false,zis]
      generalize znp s (c:Int) = h
      generalize znq s (c:Int) = m
      grind)
  exact yF (B:=fun k0=>zcd (zcc K0 k0) k0) (i0:=0) (n:=4) (by omega) (Nat.zero_le _) (fun c=>(c,(r,s,()))) (fun k c _ hc=>by
    simp only [zcd]
    rw [decide_eq_true (by omega),cond_true]
    refine (inner k c hc).trans ?_
    cases ql (fun i=>znr r s c i) 0 (s.2.1.length - 0) <;> rfl) (fun k=>rfl)
def zDk (r:zd) (s:zb):Bool:=qk r && (zim r s && (s.2.1.all j5 && (zef r s && (ql (fun i=>ziq r s (i:Int) (s.2.1.getD i zf)) 0 (s.2.1.length - 0) && (ql (fun i=>zdj r (i:Int) (s.2.1.getD i zf)) 0 s.2.1.length && (ql (fun i=>zga (s.2.1.getD i zf)) 0 (s.2.1.length - 0) && ql (fun c=>ql (fun i=>znr r s c i) 0 (s.2.1.length - 0) && zis s (c:Int)) 0 (4 - 0)))))))
theorem zHA (r:zd) (s:zb):zDk r s = z4 r s:=by
  rw [Bool.eq_iff_iff]
  unfold zDk z4 zir
  simp only [Bool.and_eq_true,jl,@zIp zg zf]
  constructor
  · rintro ⟨h1,h2,h3,h4,h5,h6,h7,h8⟩
    exact ⟨h1,h2,h4,fun i hi1 hi=>⟨⟨h3 i (by omega),h5 i hi1 hi,h6 i hi1 (by omega),h7 i hi1 hi⟩,fun c hc1 hc=>(h8 c hc1 hc).1 i hi1 hi⟩,fun c hc1 hc=>(h8 c hc1 hc).2⟩
  · rintro ⟨h1,h2,h4,h5,h6⟩
    exact ⟨h1,h2,fun i hi=>(h5 i (by omega) (by omega)).1.1,h4,fun i h7 h8=>(h5 i h7 h8).1.2.1,fun i h7 h8=>(h5 i h7 (by omega)).1.2.2.1,fun i h7 h8=>(h5 i h7 h8).1.2.2.2,fun c h7 h8=>⟨fun i h9 h10=>(h5 i h9 h10).2 c h7 h8,h6 c h7 h8⟩⟩
theorem zqS {r:zd} {s:zb} (hr:z7 r) (hs:qB s):zd7 (r,s,()) = some (z4 r s,()):=by
  rw [← zHA,zP]
  obtain ⟨m,hm⟩:=zte
  have first:zd7 (r,s,()) = zm zez K0 (true,7,0,[some fun z=>zbu ((r,s,()),()),some fun z=>zbv ((r,s,()),()),some fun z=>zaM ((r,s,()),()),some fun z=>zdZ ((r,s,()),()),some fun z=>zaK ((r,s,()),()),some fun z=>zdY ((r,s,()),()),some fun z=>zd2 ((r,s,()),())]):=rfl
  have hu:∀ (f1 f2 f3 f4 f5 f6 f7:Option (Bool × Unit)),zm zez (m + 8) (true,7,0,[some fun z=>f1,some fun z=>f2,some fun z=>f3,some fun z=>f4,some fun z=>f5,some fun z=>f6,some fun z=>f7]) =
    Option.bind f1 fun q=>bif q.1 then Option.bind f2 fun q=>bif q.1 then Option.bind f3 fun q=>bif q.1 then Option.bind f4 fun q=>bif q.1 then Option.bind f5 fun q=>bif q.1 then Option.bind f6 fun q=>bif q.1 then Option.bind f7 fun q=>bif q.1 then some (true,()) else some (false,()) else some (false,()) else some (false,()) else some (false,()) else some (false,()) else some (false,()) else some (false,()):=fun f1 f2 f3 f4 f5 f6 f7=>by kernel_rfl
  rw [first,hm,hu,zAO hr s,Option.bind_some]
  unfold zDk
  cases hb:qk r with
  | false=>rfl
  | true =>
    cases hz:zim r s with
    | false=>rfl
    | true =>
      have ok:=jE hb
      have sz:=zaE hb hz
      rw [zAP ok sz,zy4 hr hb hs sz,zAQ hr ok sz,zy5 hr ok sz,zAR ok sz,zAU ok hs sz]
      simp only [Option.bind_some,Bool.true_and,cond_true]
      generalize s.2.1.all j5 = c1
      generalize zef r s = c2
      generalize ql (fun i=>ziq r s (i:Int) (s.2.1.getD i zf)) 0 (s.2.1.length - 0) = c3
      generalize ql (fun i=>zdj r (i:Int) (s.2.1.getD i zf)) 0 s.2.1.length = c4
      generalize ql (fun i=>zga (s.2.1.getD i zf)) 0 (s.2.1.length - 0) = c5
      generalize ql (fun c=>ql (fun i=>znr r s c i) 0 (s.2.1.length - 0) && zis s (c:Int)) 0 (4 - 0) = c6
      cases c1 <;> cases c2 <;> cases c3 <;> cases c4 <;> cases c5 <;> cases c6 <;> rfl
def j6 (r:zd) (x:pMe):Bool:=decide (0 ≤ x.1 ∧ x.1 < (r.2.1.length:Int)) && ((x.2.1:Int) == r.2.1.getD x.1.toNat 0 && vT r x.2.2.1)
theorem zdl {r:zd} {s:zb} (hr:z7 r) (hs:qB s) (x:pMe):vQ (r,s,x,()) = some (z4 r s && j6 r x,()):=by
  rw [zP]
  simp only [vQ,zqS hr hs,Option.bind_some,j6,ix,vT]
  cases z4 r s with
  | false=>rfl
  | true =>
    by_cases h:0 ≤ x.1 ∧ x.1 < (r.2.1.length:Int)
    · rw [ixR h]; grind
    · grind
end Go.Proofs.YtejbgeokcpillaaGreatDoor
end
section
namespace Go.Proofs.YtejbgeokcpillaaGreatDoor
open Go.Ev
theorem zxR {r:zd} (hr:z7 r) (i:Int):zcf (r,i,()) = some (qk r && zdi r i,()):=by
  rw [zP]
  simp only [zcf,zd9 r hr,Option.bind_some]
  cases hb:qk r with
  | false=>rfl
  | true =>
    have hl:=(jE hb).labels
    have hw:wI ((r.1.length:Int) - 1) = (r.1.length:Int) - 1:=by
      have:=ztc (i:=r.1.length) (by omega) (by unfold Go.maxLen; omega)
      rw [this]; omega
    rw [hw,zdT]
    simp only [Option.bind_some,cond_true,Bool.true_and,qf,zdi]
    grind
theorem zED {r:zd} (hr:z7 r) (hb:qk r = true) (a b:Int):zjw (r,a,b,()) = some (zin r a b,()):=by
  rw [zP]
  simp only [zjw,zxR hr,hb,Bool.true_and,Option.bind_some,zin,ix]
  cases ha:zdi r a with
  | false=>rfl
  | true =>
    cases hbb:zdi r b with
    | false=>rfl
    | true =>
      have h1:=zsM hr a ha
      have h2:=zsM hr b hbb
      simp only [zdi,decide_eq_true_eq] at ha hbb
      rw [ixR ha,ixR hbb,zf9 h1 h2]
      simp only [Option.bind_some]
      generalize zbb (r.1.getD a.toNat qK) (r.1.getD b.toNat qK) = u
      cases u <;> rfl
def eqW {α:Type} (p:α→α→Bool) (a b:List α):Bool:=decide (a.length = b.length) && (List.zip a b).all fun q=>p q.1 q.2
theorem zpY {α σ:Type} {B:(σ→Option (Bool × Unit))→σ→Option (Bool × Unit)} {a b:List α} (d:α) (p:α→α→Bool) (st:Int→σ) (hl:a.length ≤ Go.maxLen) (hab:a.length = b.length)
    (hin:∀ k (i:Nat),i < a.length→B k (st i) = bif p (a.getD i d) (b.getD i d) then k (st (wI (i + 1))) else some (false,())) {fin:Bool} (hout:∀ k,B k (st a.length) = some (fin,())) :
    zm B K0 (st 0) = some (eqW p a b && fin,()):=by
  have hz:(List.zip a b).length = a.length:=by rw [List.length_zip]; omega
  have hx:∀ i,i < a.length→(List.zip a b).getD i (d,d) = (a.getD i d,b.getD i d):=fun i hi=>zpu a b i hi (by omega)
  have:=zuQ (B:=B) (l:=List.zip a b) (d,d) (p:=fun q=>p q.1 q.2) (fin:=some (fin,())) (bad:=some (false,())) st (by rw [hz]; exact hl) (fun k i x hi hx' _=>?_) (fun k=>?_)
  · rw [this]
    unfold eqW
    rw [decide_eq_true hab]
    cases (List.zip a b).all fun q=>p q.1 q.2 <;> rfl
  · rw [hz] at hi
    rw [hx i hi] at hx'
    subst hx'
    exact hin k i hi
  · rw [hz]; exact hout k
theorem zJG {α ρ:Type} (a b:List α) (p:α→α→Bool) (x:Option ρ) (y:Option ρ):(bif ((List.length a:Int) != (List.length b:Int)) then y else x) = bif decide (a.length = b.length) then x else y:=by
  rw [zmI]; cases decide (a.length = b.length) <;> rfl
theorem zJH {α:Type} {p:α→α→Bool} {a b:List α} (h:¬ a.length = b.length):eqW p a b = false:=by unfold eqW; rw [decide_eq_false h]; rfl
theorem zns {α:Type} {p:α→α→Bool} {a b:List α} {x:Option (Bool × Unit)} (h:a.length = b.length→x = some (eqW p a b,())):(bif ((List.length a:Int) != (List.length b:Int)) then some (false,()) else x) = some (eqW p a b,()):=by
  rw [zJG a b p]
  by_cases hl:a.length = b.length
  · rw [decide_eq_true hl,h hl]; rfl
  · rw [decide_eq_false hl,zJH hl]; rfl
theorem zJI {p:Bool} {ρ:Type} (x y:ρ):(bif !p then y else x) = bif p then x else y:=by cases p <;> rfl
theorem zJ7 {ρ:Type} (u v:Int) (x y:ρ):(bif u != v then y else x) = bif u == v then x else y:=by
  show (bif !(u == v) then y else x) = _
  exact zJI _ _
structure zxS (x:zg):Prop where
  rooms:x.1.length ≤ Go.maxLen
  exits:x.2.1.length ≤ Go.maxLen
  items:x.2.2.1.length ≤ Go.maxLen
  mails:x.2.2.2.1.length ≤ Go.maxLen
  trades:x.2.2.2.2.1.length ≤ Go.maxLen
  purses:x.2.2.2.2.2.1.length ≤ Go.maxLen
  places:x.2.2.2.2.2.2.1.length ≤ Go.maxLen
structure zJJ (s:zb):Prop where
  shelves:s.2.1.length ≤ Go.maxLen
  ranks:s.2.2.1.length ≤ Go.maxLen
  orders:s.2.2.2.1.length ≤ Go.maxLen
  entries:s.2.2.2.2.1.length ≤ Go.maxLen
  seats:s.2.2.2.2.2.1.length ≤ Go.maxLen
  shelf:∀ x ∈ s.2.1,zxS x
  rank:∀ l ∈ s.2.2.1,l.length ≤ Go.maxLen
def vx (a b:zg):Bool:=eqL qh a.1 b.1 && (eqL zV a.2.1 b.2.1 && (eqL zl a.2.2.1 b.2.2.1 && (eqL zZ a.2.2.2.1 b.2.2.2.1 && (eqL zx a.2.2.2.2.1 b.2.2.2.2.1 && (eqL (.arr 4 tU) a.2.2.2.2.2.1 b.2.2.2.2.2.1 && (eqL zB a.2.2.2.2.2.2.1 b.2.2.2.2.2.2.1 && (eqI (.arr 4 tU) a.2.2.2.2.2.2.2.1 b.2.2.2.2.2.2.2.1 && eqI (.arr 4 tU) a.2.2.2.2.2.2.2.2.1 b.2.2.2.2.2.2.2.2.1)))))))
def zgt (a b:zb):Bool:=(a.1:Int) == b.1 && (eqW vx a.2.1 b.2.1 && (eqW (eqL tI) a.2.2.1 b.2.2.1 && (eqL zo a.2.2.2.1 b.2.2.2.1 && (eqL zw a.2.2.2.2.1 b.2.2.2.2.1 && eqL tI a.2.2.2.2.2.1 b.2.2.2.2.2.1))))
theorem zvL {r:zd} {l:List (List Int)} (h:zil r l = true):l.length = r.2.2.2.1.length ∧ ∀ g,g < r.2.2.2.1.length→(l.getD g []).length = r.2.2.1.length:=by
  simp only [zil,Bool.and_eq_true,decide_eq_true_eq,jl] at h
  refine ⟨h.1,fun g hg=>?_⟩
  have:=h.2 g (by omega) (by omega)
  simp only [zxM,Bool.and_eq_true,decide_eq_true_eq] at this
  exact this.1
theorem jf {r:zd} {s:zb} (h:z4 r s = true):qk r = true ∧ zim r s = true ∧ zef r s = true:=by
  simp only [z4,Bool.and_eq_true] at h
  exact ⟨h.1,h.2.1,h.2.2.1⟩
theorem zlf:∀ {τ:Ty},τ.eqIn = true→∀ x:τ.I,eqI τ x x = true:=by
  intro τ
  induction τ with
  | unit=>intro _ _; rfl
  | bool=>intro _ x; exact beq_self_eq_true x
  | int k=>intro _ x; exact beq_self_eq_true (α:=Int) x
  | str=>intro _ x; exact beq_self_eq_true _
  | pair a b iha ihb =>
    intro h x
    simp only [Ty.eqIn,Bool.and_eq_true] at h
    simp only [eqI,iha h.1,ihb h.2,cond_true]
  | st a ih=>intro h x; exact ih h x
  | arr n a ih =>
    intro h x
    simp only [eqI,List.all_eq_true]
    intro p hp
    have:p.1 = p.2:=by
      obtain ⟨i,hi,rfl⟩:=List.mem_iff_getElem.1 hp
      rw [List.getElem_zip]
    rw [this]
    exact ih h _
  | _=>intro h; cases h
theorem zIs {α:Type} {p:α→α→Bool} (h:∀ x,p x x = true) (l:List α):eqW p l l = true:=by
  simp only [eqW,decide_true,Bool.true_and,List.all_eq_true]
  intro q hq
  have:q.1 = q.2:=by
    obtain ⟨i,hi,rfl⟩:=List.mem_iff_getElem.1 hq
    rw [List.getElem_zip]
  rw [this]; exact h _
theorem zcA {τ:Ty} (h:τ.eqIn = true) (l:List τ.I):eqL τ l l = true:=zIs (zlf h) l
theorem zsN (x:zg):vx x x = true:=by
  simp only [vx,Bool.and_eq_true]
  exact ⟨zcA (τ:=qh) rfl _,zcA (τ:=zV) rfl _,zcA (τ:=zl) rfl _,zcA (τ:=zZ) rfl _,zcA (τ:=zx) rfl _,zcA (τ:=.arr 4 tU) rfl _,zcA (τ:=zB) rfl _,zlf (τ:=.arr 4 tU) rfl _,zlf (τ:=.arr 4 tU) rfl _⟩
end Go.Proofs.YtejbgeokcpillaaGreatDoor
end
section
namespace Go.Proofs.YtejbgeokcpillaaGreatDoor
open Go.Ev
structure zxT (x:zg):Prop where
  rooms:x.1.length ≤ 2000000
  exits:x.2.1.length ≤ 2000000
  items:x.2.2.1.length ≤ 2000000
  mails:x.2.2.2.1.length ≤ 2000000
  trades:x.2.2.2.2.1.length ≤ 2000000
  purses:x.2.2.2.2.2.1.length ≤ 2000000
  places:x.2.2.2.2.2.2.1.length ≤ 2000000
structure zsO (s:zb):Prop where
  shelves:s.2.1.length ≤ 2000000
  ranks:s.2.2.1.length ≤ 2000000
  orders:s.2.2.2.1.length ≤ 2000000
  entries:s.2.2.2.2.1.length ≤ 2000000
  seats:s.2.2.2.2.2.1.length ≤ 2000000
  shelf:∀ x ∈ s.2.1,zxT x
  rank:∀ l ∈ s.2.2.1,l.length ≤ 2000000
theorem zDl {α:Type} {l:List α} {i:Nat} {d:α} (h:i < l.length):List.set l i (l.getD i d) = l:=by
  rw [List.getD_eq_getElem?_getD,List.getElem?_eq_getElem h]
  exact List.set_getElem_self h
theorem zgu {s:zb} (h:zsO s):ya (s,()) = some (s,()):=by
  have hlm:2000000 ≤ lim:=by unfold lim; omega
  have hmm:2000000 ≤ Go.maxLen:=by unfold Go.maxLen; omega
  have h1:=h.shelves
  have h2:=h.ranks
  have h3:=h.orders
  have h4:=h.entries
  have h5:=h.seats
  have l1:zbW K0 ((s.2.1.length:Int),0,s.1,0,s.2.1,0,s.2.2.1,s.2.2.1.length,s.2.2.2.1,s.2.2.2.2.1,s.2.2.2.2.2.1,[],0,[],0,[],[],[]) = some (s,()) :=
    ve (α:=Unit) (B:=zbV) (len:=s.2.1.length) (by omega) (fun i _=>((s.2.1.length:Int),i,s.1,0,s.2.1,i.toNat,s.2.2.1,s.2.2.1.length,s.2.2.2.1,s.2.2.2.2.1,s.2.2.2.2.2.1,[],0,[],0,[],[],[])) (fun _ _=>some (s,())) (fun _ _=>True) (fun k i _ hi _ hk=>by
      have hx:=h.shelf _ (z9 (d:=zf) hi)
      have e1:=hx.rooms
      have e2:=hx.exits
      have e3:=hx.items
      have e4:=hx.mails
      have e5:=hx.trades
      have e6:=hx.purses
      have e7:=hx.places
      have hk':=hk () trivial
      have hw:wI ((i:Int) + 1) = (i:Int) + 1:=zwA hi (by omega)
      simp only [zbV]
      rw [ltT hi,zE hi,qe]
      simp only [Int.toNat_natCast,Nat.le_refl,decide_true,cond_true]
      rw [zCO (by omega),zCP (by omega),zl6 (by omega),zCQ (by omega),zkj (by omega),zF2 (by omega),zEq (by omega)]
      simp only [Option.bind_some]
      rw [zE hi]
      refine Eq.trans ?_ hk'
      have hs:List.set s.2.1 i (s.2.1.getD i zf) = s.2.1:=zDl hi
      have ht:(wI ((i:Int) + 1)).toNat = i + 1:=by rw [hw]; omega
      rw [ht]
      exact congrArg (fun l=>k ((s.2.1.length:Int),wI ((i:Int) + 1),s.1,0,l,i + 1,s.2.2.1,s.2.2.1.length,s.2.2.2.1,s.2.2.2.2.1,s.2.2.2.2.2.1,[],0,[],0,[],[],[])) hs) (fun k _ _=>by
      simp only [zbV]
      rw [ltF]
      simp only [Int.toNat_natCast,decide_true,cond_true,cond_false]) () trivial
  have l0:zhU K0 ((s.2.2.1.length:Int),0,s.1,s.2.1,0,s.2.2.1,0,s.2.2.2.1,s.2.2.2.2.1,s.2.2.2.2.2.1,[],0,[],0,[],[],[]) = some (s,()) :=
    ve (α:=Unit) (B:=fun k0=>yZ (zbW K0) k0) (len:=s.2.2.1.length) (by omega) (fun i _=>((s.2.2.1.length:Int),i,s.1,s.2.1,0,s.2.2.1,i.toNat,s.2.2.2.1,s.2.2.2.2.1,s.2.2.2.2.2.1,[],0,[],0,[],[],[])) (fun _ _=>some (s,())) (fun _ _=>True) (fun k i _ hi _ hk=>by
      have hx:=h.rank _ (z9 (d:=([]:List Int)) hi)
      have hk':=hk () trivial
      have hw:wI ((i:Int) + 1) = (i:Int) + 1:=zwA hi (by omega)
      simp only [yZ]
      rw [ltT hi,zE hi]
      simp only [Int.toNat_natCast,Nat.le_refl,decide_true,cond_true]
      rw [zup (by omega)]
      simp only [Option.bind_some]
      rw [zE hi]
      refine Eq.trans ?_ hk'
      have hs:List.set s.2.2.1 i (s.2.2.1.getD i []) = s.2.2.1:=zDl hi
      have ht:(wI ((i:Int) + 1)).toNat = i + 1:=by rw [hw]; omega
      rw [ht,hs]) (fun k _ _=>by
      simp only [yZ]
      rw [ltF,zAH (by omega)]
      simp only [Int.toNat_natCast,Option.bind_some,cond_false]
      exact l1) () trivial
  simp only [ya,zgl]
  rw [zqM (by omega),zAG (by omega),zup (by omega),zCN (by omega)]
  simp only [Option.bind_some]
  exact l0
end Go.Proofs.YtejbgeokcpillaaGreatDoor
end
section
namespace Go.Proofs.YtejbgeokcpillaaGreatDoor
open Go.Ev
structure At (s:zb) (i w:Int):Prop where
  hi:0 ≤ i ∧ i < (s.2.1.length:Int)
  hw:0 ≤ w ∧ w < (((ix zf s.2.1 i).2.2.2.2.2.1.length:Nat):Int)
theorem zsP {s:zb} {i:Int} (hi:0 ≤ i ∧ i < (s.2.1.length:Int)):ix zf s.2.1 i ∈ s.2.1:=z9 (by omega)
theorem zJS {r:zd} {s:zb} (h:z4 r s = true) {i w:Int} (hi:zdi r i = true) (hw:vT r w = true):At s i w:=by
  obtain ⟨hb,hz,-⟩:=jf h
  have sz:=zaE hb hz
  have hsl:=sz.shelves
  simp only [zdi,vT,decide_eq_true_eq] at hi hw
  have h1:0 ≤ i ∧ i < (s.2.1.length:Int):=by omega
  have h2:=(sz.shelf _ (zsP h1)).2.2.2.2.2.1
  exact ⟨h1,by omega⟩
theorem zHB {r:zd} (hb:qk r = true) {x:pMe} (hm:j6 r x = true):zdi r x.2.1 = true:=by
  simp only [qk,zl9,Bool.and_eq_true,decide_eq_true_eq,List.all_eq_true] at hb
  simp only [j6,Bool.and_eq_true,decide_eq_true_eq,beq_iff_eq] at hm
  have:=hb.2.1.2 _ (z9 (d:=(0:Int)) (i:=x.1.toNat) (by omega))
  rw [← hm.2.1] at this
  simp only [zdi,decide_eq_true_eq]
  exact this
theorem zJT {r:zd} {s:zb} (h:z4 r s = true) {x:pMe} (hm:j6 r x = true):At s x.2.1 x.2.2.1:=by
  have hw:vT r x.2.2.1 = true:=by
    simp only [j6,Bool.and_eq_true] at hm; exact hm.2.2
  exact zJS h (zHB (jf h).1 hm) hw
end Go.Proofs.YtejbgeokcpillaaGreatDoor
end
section
namespace Go.Proofs.YtejbgeokcpillaaGreatDoor
open Go.Ev
theorem bnd {α β:Type} {x:Option α} {a:α} {f:α→Option β} (h:x = some a):Option.bind x f = f a:=by rw [h]; rfl
theorem cT {α:Type} {b:Bool} {x y:α} (h:b = true):cond b x y = x:=by rw [h]; rfl
theorem cF {α:Type} {b:Bool} {x y:α} (h:b = false):cond b x y = y:=by rw [h]; rfl
abbrev upd (s:zb) (i:Int) (h:zg):zb:=u1 s (List.set s.2.1 (Int.toNat i) h)
theorem zjx {α:Type} {l:List α} {i:Nat} {x d:α} (h:i < l.length):(List.set l i x).getD i d = x:=by
  rw [List.getD_eq_getElem?_getD,List.getElem?_set_self h]; rfl
theorem getD_set_ne {α:Type} {l:List α} {i j:Nat} {x d:α} (h:i ≠ j):(List.set l i x).getD j d = l.getD j d:=by
  rw [List.getD_eq_getElem?_getD,List.getElem?_set_ne h,List.getD_eq_getElem?_getD]
def zE0 (x:zg):Bool:=decide (x.1.length ≤ 2000000) && (decide (x.2.1.length ≤ 2000000) && (decide (x.2.2.1.length ≤ 2000000) && (decide (x.2.2.2.1.length ≤ 2000000) && (decide (x.2.2.2.2.1.length ≤ 2000000) && (decide (x.2.2.2.2.2.1.length ≤ 2000000) && decide (x.2.2.2.2.2.2.1.length ≤ 2000000))))))
def zBc (s:zb):Bool:=decide (s.2.1.length ≤ 2000000) && (decide (s.2.2.1.length ≤ 2000000) && (decide (s.2.2.2.1.length ≤ 2000000) && (decide (s.2.2.2.2.1.length ≤ 2000000) && (decide (s.2.2.2.2.2.1.length ≤ 2000000) && (s.2.1.all zE0 && s.2.2.1.all fun l=>decide (l.length ≤ 2000000))))))
theorem zIt {s:zb} (h:zBc s = true):zsO s:=by
  simp only [zBc,Bool.and_eq_true,decide_eq_true_eq,List.all_eq_true] at h
  obtain ⟨h1,h2,h3,h4,h5,h6,h7⟩:=h
  refine ⟨h1,h2,h3,h4,h5,fun x hx=>?_,h7⟩
  have:=h6 x hx
  simp only [zE0,Bool.and_eq_true,decide_eq_true_eq] at this
  obtain ⟨a,b,c,d,e,f,g⟩:=this
  exact ⟨a,b,c,d,e,f,g⟩
noncomputable def zHC (x:zb × Unit):Option (zb × Unit):=bif zBc x.1 then some x else ya x
theorem zIu:ya = zHC:=by
  funext ⟨s,u⟩
  cases u
  unfold zHC
  cases h:zBc s with
  | true=>exact zgu (zIt h)
  | false=>rfl
theorem zEE {x:zg} (h:zxT x):zxS x:=by
  have hm:2000000 ≤ Go.maxLen:=by unfold Go.maxLen; omega
  exact ⟨Nat.le_trans h.rooms hm,Nat.le_trans h.exits hm,Nat.le_trans h.items hm,Nat.le_trans h.mails hm,Nat.le_trans h.trades hm,Nat.le_trans h.purses hm,Nat.le_trans h.places hm⟩
theorem zHD {s:zb} (h:zsO s):zJJ s:=by
  have hm:2000000 ≤ Go.maxLen:=by unfold Go.maxLen; omega
  exact ⟨Nat.le_trans h.shelves hm,Nat.le_trans h.ranks hm,Nat.le_trans h.orders hm,Nat.le_trans h.entries hm,Nat.le_trans h.seats hm,fun x hx=>zEE (h.shelf x hx),fun l hl=>Nat.le_trans (h.rank l hl) hm⟩
theorem wf_u64 {x:Int} (h:(Lit.int .u64 x).wf = true):zeA x:=by
  unfold Lit.wf at h
  simp only [Bool.and_eq_true,decide_eq_true_eq] at h
  have e1:IntKind.min .u64 = 0:=by decide
  have e2:IntKind.max .u64 = 18446744073709551615:=by decide
  rw [e1,e2] at h
  exact ⟨h.1,Int.lt_of_le_of_lt h.2 (by decide)⟩
theorem realmIn {r:zd} (h:InR zy r):z7 r:=by
  obtain ⟨hl,h2⟩:=h
  refine ⟨fun a ha=>?_,h2.2.2.1.1,h2.2.2.2.1.1⟩
  have h3:(Lit.int .u64 a.2.1).wf = true:=(hl.2 a ha).2.1
  exact wf_u64 h3
theorem zDm {a:List Int} (h:InR (.arr 4 tU) a):zpU a:=fun x hx=>wf_u64 (h.2 x hx)
theorem zE1 {x:zkM} (h:InR zdu x):zeA x.2.1:=wf_u64 (show (Lit.int .u64 x.2.1).wf = true from h.2.1)
theorem zI8 {x:zg} (h:InR zn x):zk8 x:=by
  obtain ⟨-,-,-,-,h5,h6,-,h8,h9,-⟩:=h
  refine ⟨fun t ht=>?_,fun a ha=>zDm (h6.2 a ha),zDm h8,zDm h9⟩
  obtain ⟨-,-,-,g1,g2,-⟩:=h5.2 t ht
  exact ⟨zE1 g1,zE1 g2⟩
theorem zI9 {x:zp} (h:InR zo x):zk6 x:=by
  obtain ⟨-,-,-,-,-,-,h7,h8,h9,-⟩:=h
  exact ⟨wf_u64 h7,wf_u64 h8,wf_u64 h9⟩
theorem zJa {x:zH} (h:InR zw x):ztk x:=by
  obtain ⟨-,-,-,-,-,-,-,h8,h9,-⟩:=h
  exact ⟨wf_u64 h8,wf_u64 h9⟩
theorem stateIn {s:zb} (h:InR zq s):qB s:=by
  obtain ⟨-,h2,-,h4,h5,-⟩:=h
  exact ⟨fun x hx=>zI8 (h2.2 x hx),fun x hx=>zI9 (h4.2 x hx),fun x hx=>zJa (h5.2 x hx)⟩
def zsQ:zb:=(0,[],[],[],[],[],())
theorem zmh {n:Nat} (h:n ≤ 2000000):n ≤ lim:=by unfold lim; omega
theorem zsR {n:Nat} (h:n ≤ 2000000):n ≤ Go.maxLen:=by unfold Go.maxLen; omega
theorem ztn {r:zd} {s:zb} (h:z4 r s = true):zsO s:=by
  obtain ⟨hb,hz,hp⟩:=jf h
  have ok:=jE hb
  have sz:=zaE hb hz
  have h1:=ok.labels
  have h2:=ok.lines
  have h3:=ok.accounts
  have h4:=sz.shelves
  have h5:=sz.orders
  have h6:=sz.entries
  have h7:=sz.people
  have h8:=ok.guilds
  have hh:zil r s.2.2.1 = true:=by simp only [zef,Bool.and_eq_true] at hp; exact hp.1
  have hr:=zvL hh
  refine ⟨by omega,by omega,by omega,by omega,by omega,fun x hx=>?_,fun l hl=>?_⟩
  · have:=sz.shelf x hx
    exact ⟨by omega,by omega,by omega,by omega,by omega,by omega,by omega⟩
  · obtain ⟨i,hi,rfl⟩:=List.mem_iff_getElem.1 hl
    have:=hr.2 i (by omega)
    rw [List.getD_eq_getElem?_getD,List.getElem?_eq_getElem hi] at this
    have this:(s.2.2.1[i]).length = _:=this
    omega
end Go.Proofs.YtejbgeokcpillaaGreatDoor
end
section
namespace Go.Proofs.YtejbgeokcpillaaGreatDoor
open Go.Ev
abbrev zy6 (l:List zi):Option zbI:=some (l,some qI,())
theorem zjy {l:List zi} (hl:l.length ≤ lim):zcx (l,()) = some (zy6 l,()):=by
  simp only [zcx,zhV]
  rw [zl6 hl]; rfl
theorem zE2 (x:zi):qI (x,()) = some (x.1,()):=(zP x.1).symm
theorem znZ (l:List zi):zbR (zy6 l,()) = some (true,()):=rfl
def zit (l:List zi) (i:Int):Bool:=decide (0 ≤ i ∧ i < (l.length:Int)) && (ix zO l i).1
theorem zto {l:List zi} {i:Int} (h:zit l i = true):0 ≤ i ∧ i < (l.length:Int):=by
  simp only [zit,Bool.and_eq_true,decide_eq_true_eq] at h; exact h.1
theorem zGn (l:List zi) (i:Int):zfj (zy6 l,i,()) = some (zit l i,()):=by
  rw [zP]
  simp only [zfj]
  refine (bnd (znZ l)).trans ?_
  refine (cT rfl).trans ?_
  unfold zit
  by_cases h:0 ≤ i ∧ i < (l.length:Int)
  · rw [decide_eq_true h,Bool.true_and]
    refine (cT (decide_eq_true (show i ≥ 0 from h.1))).trans ?_
    refine (bnd (a:=(l,some qI,())) rfl).trans ?_
    refine (cT (decide_eq_true (show i < (l.length:Int) from h.2))).trans ?_
    refine (bnd (a:=(l,some qI,())) rfl).trans ?_
    refine (bnd (a:=(l,some qI,())) rfl).trans ?_
    refine (ixR h).trans ?_
    refine (bnd (a:=qI) rfl).trans ?_
    refine (bnd (zE2 _)).trans ?_
    cases (ix zO l i).1 <;> rfl
  · rw [decide_eq_false h,Bool.false_and]
    by_cases h0:i ≥ 0
    · refine (cT (decide_eq_true h0)).trans ?_
      refine (bnd (a:=(l,some qI,())) rfl).trans ?_
      exact cF (decide_eq_false (show ¬ i < (l.length:Int) by omega))
    · exact cF (decide_eq_false h0)
theorem zpZ {l:List zi} (hl:l.length ≤ lim) {i:Int} (hi:0 ≤ i ∧ i < (l.length:Int)) (x:zi):zaJ (zy6 l,i,x,()) = some (List.set l i.toNat x,0,()):=by
  simp only [zaJ]
  refine (bnd (znZ l)).trans ?_
  refine (cT rfl).trans ?_
  refine (cF (decide_eq_false (by omega))).trans ?_
  refine (bnd (a:=(l,some qI,())) rfl).trans ?_
  refine (cF (decide_eq_false (show ¬ i ≥ (l.length:Int) by omega))).trans ?_
  refine (bnd (a:=(l,some qI,())) rfl).trans ?_
  refine (bnd (zl6 hl)).trans ?_
  exact ixR hi
def yf (l:List zi):Int:=qR (fun x=>!x.1) l 0
theorem zy7 {α:Type} {p:α→Bool}:∀ (l:List α) (i:Int),0 ≤ i→qR p l i = -1 ∨ (i ≤ qR p l i ∧ qR p l i < i + l.length)
  | [],_,_=>.inl rfl
  | x :: l,i,h=>by
    simp only [qR]
    cases p x with
    | true=>right; simp only [cond_true,List.length_cons]; omega
    | false =>
      simp only [cond_false,List.length_cons]
      rcases zy7 (p:=p) l (i + 1) (by omega) with e | e
      · exact .inl e
      · right; omega
theorem zDn {l:List zi} (hl:l.length ≤ Go.maxLen):zdO (zy6 l,()) = some (bif decide (yf l < 0) then (0,8,()) else (yf l,0,())):=by
  simp only [zdO]
  refine (bnd (znZ l)).trans ?_
  refine (cT rfl).trans ?_
  refine (bnd (a:=(l,some qI,())) rfl).trans ?_
  refine (bnd (zl4 (p:=fun x=>!x.1) hl fun x _=>?_)).trans ?_
  · show Option.bind (qI (x,())) (fun q3=>bif q3.1 then some (false,()) else some (true,())) = some (!x.1,())
    refine (bnd (zE2 x)).trans ?_
    cases x.1 <;> rfl
  · show (bif decide (yf l < 0) then some (0,8,()) else some (yf l,0,())) = _
    cases decide (yf l < 0) <;> rfl
def zDo (l:List zi) (x:zi):List zi × Int × Int × Unit:=bif decide (yf l < 0) then ([],0,8,()) else (List.set l (yf l).toNat x,yf l,0,())
theorem zE3 {l:List zi} (h:¬ yf l < 0):0 ≤ yf l ∧ yf l < (l.length:Int):=by
  have hr:=zy7 (p:=fun x:zi=>!x.1) l 0 (Int.le_refl 0)
  unfold yf at h ⊢
  omega
theorem zGo {l:List zi} (hl:l.length ≤ 2000000) (x:zi):zfm (zy6 l,x,()) = some (zDo l x):=by
  simp only [zfm]
  refine (bnd (zDn (zsR hl))).trans ?_
  unfold zDo
  by_cases h:yf l < 0
  · rw [decide_eq_true h]; rfl
  · rw [decide_eq_false h]
    refine (cF rfl).trans ?_
    exact bnd (zpZ (zmh hl) (zE3 h) x)
def toV (x:zi) (h:qx):zi:=(x.1,x.2.1,h.1,h.2.1,h.2.2.1,())
abbrev ofV (x:zi):qx:=(x.2.2.1,x.2.2.2.1,x.2.2.2.2.1,())
abbrev inH (who:Int):qx:=(1,who,(0,0,()),())
abbrev zgS (r:qw):qx:=(2,0,r,())
def hOk (h:qx):Bool:=zgR h.1 h.2.1 h.2.2.1
theorem zp0 (who:Int):hOk (inH who) = jt who:=by
  show ((true && (jt who && true)) || (false && ((who:Int) == 0 && zpR (0,0,())))) = jt who
  cases jt who <;> rfl
theorem zxU (x:zi):zfd (x,()) = some (ofV x,()):=rfl
theorem zxV (x:zi) (h:qx):zkP (x,h,()) = some (toV x h,()):=rfl
theorem zgT (w:Int):jI (w,()) = some (inH w,()):=rfl
theorem zvM (r:qw):zc2 (r,()) = some (zgS r,()):=rfl
def j7 (l:List zi) (i:Int) (f g:qx):List zi × Int × Unit:=bif l.all qu then bif hOk f then bif hOk g then bif zit l i then bif eqI qa (ofV (ix zO l i)) f then (List.set l i.toNat (toV (ix zO l i) g),0,()) else ([],3,()) else ([],3,()) else ([],1,()) else ([],1,()) else ([],1,())
theorem ziu {l:List zi} (hl:l.length ≤ 2000000) (i:Int) (f g:qx):za5 (l,i,f,g,()) = some (j7 l i f g):=by
  simp only [za5]
  refine (bnd (zkn (zsR hl))).trans ?_
  unfold j7
  cases l.all qu with
  | false=>rfl
  | true =>
    refine (cT rfl).trans ?_
    refine (bnd (zik f)).trans ?_
    show cond (hOk f) _ _ = _
    cases hOk f with
    | false=>rfl
    | true =>
      refine (cT rfl).trans ?_
      refine (bnd (zik g)).trans ?_
      show cond (hOk g) _ _ = _
      cases hOk g with
      | false=>rfl
      | true =>
        refine (cT rfl).trans ?_
        refine (bnd (zjy (zmh hl))).trans ?_
        refine (bnd (zGn l i)).trans ?_
        cases h:zit l i with
        | false=>rfl
        | true =>
          have hi:=zto h
          refine (cT rfl).trans ?_
          refine (ixR hi).trans ?_
          refine (bnd (zxU _)).trans ?_
          show cond (!eqI qa (ofV (ix zO l i)) f) _ _ = _
          cases eqI qa (ofV (ix zO l i)) f with
          | false=>rfl
          | true =>
            refine (cF rfl).trans ?_
            refine (bnd (zjy (zmh hl))).trans ?_
            refine (ixR hi).trans ?_
            refine (bnd (zxV _ _)).trans ?_
            exact bnd (zpZ (zmh hl) hi _)
def zj1 (l:List zi) (i w:Int):List zi × Int × Unit:=bif (j7 l i (inH w) (inH w)).2.1 != 0 then ([],(j7 l i (inH w) (inH w)).2.1,()) else (List.set l i.toNat (ze zl),0,())
theorem zy8 {l:List zi} {i:Int} {f g:qx} (h:((j7 l i f g).2.1 != 0) = false):l.all qu = true ∧ hOk f = true ∧ hOk g = true ∧ zit l i = true ∧ eqI qa (ofV (ix zO l i)) f = true ∧ j7 l i f g = (List.set l i.toNat (toV (ix zO l i) g),0,()):=by
  unfold j7 at h ⊢
  cases h1:l.all qu with
  | false=>rw [h1] at h; cases h
  | true =>
    cases h2:hOk f with
    | false=>rw [h1,h2] at h; cases h
    | true =>
      cases h3:hOk g with
      | false=>rw [h1,h2,h3] at h; cases h
      | true =>
        cases h4:zit l i with
        | false=>rw [h1,h2,h3,h4] at h; cases h
        | true =>
          cases h5:eqI qa (ofV (ix zO l i)) f with
          | false=>rw [h1,h2,h3,h4,h5] at h; cases h
          | true=>exact ⟨rfl,rfl,rfl,rfl,rfl,rfl⟩
theorem zAV {l:List zi} (hl:l.length ≤ 2000000) (i w:Int):zgs (l,i,w,()) = some (zj1 l i w):=by
  simp only [zgs]
  refine (bnd (zgT w)).trans ?_
  refine (bnd (zgT w)).trans ?_
  refine (bnd (ziu hl i _ _)).trans ?_
  unfold zj1
  cases h:(j7 l i (inH w) (inH w)).2.1 != 0 with
  | true=>exact cT rfl
  | false =>
    refine (cF rfl).trans ?_
    refine (bnd (zjy (zmh hl))).trans ?_
    exact bnd (zpZ (zmh hl) (zto (zy8 h).2.2.2.1) _)
theorem zDp {l:List zi} (hl:l.length ≤ 2000000) (i w:Int) (r:qw):zic (l,i,w,r,()) = some (j7 l i (inH w) (zgS r)):=by
  simp only [zic]
  refine (bnd (zgT w)).trans ?_
  refine (bnd (zvM r)).trans ?_
  exact bnd (ziu hl i _ _)
theorem zDq {l:List zi} (hl:l.length ≤ 2000000) (i w:Int) (r:qw):zid (l,i,w,r,()) = some (j7 l i (zgS r) (inH w)):=by
  simp only [zid]
  refine (bnd (zvM r)).trans ?_
  refine (bnd (zgT w)).trans ?_
  exact bnd (ziu hl i _ _)
theorem zDr {l:List zi} (hl:l.length ≤ 2000000) (i w v:Int):zie (l,i,w,v,()) = some (j7 l i (inH w) (inH v)):=by
  simp only [zie]
  refine (bnd (zgT w)).trans ?_
  refine (bnd (zgT v)).trans ?_
  exact bnd (ziu hl i _ _)
def zDs (s:ByteArray) (w:Int):zi:=(true,s,1,w,(0,0,()),())
def zbk (l:List zi) (s:ByteArray) (w:Int):List zi × Int × Int × Unit:=bif l.all qu then bif jt w then bif zfr s then zDo l (zDs s w) else ([],0,2,()) else ([],0,1,()) else ([],0,1,())
theorem zDt {l:List zi} (hl:l.length ≤ 2000000) (s:ByteArray) (w:Int):zh8 (l,s,w,()) = some (zbk l s w):=by
  simp only [zh8]
  refine (bnd (zkn (zsR hl))).trans ?_
  unfold zbk
  cases l.all qu with
  | false=>rfl
  | true =>
    refine (cT rfl).trans ?_
    refine (bnd (zik (inH w))).trans ?_
    show cond (hOk (inH w)) _ _ = _
    rw [zp0]
    cases jt w with
    | false=>rfl
    | true =>
      refine (cT rfl).trans ?_
      refine (bnd (zij s)).trans ?_
      cases zfr s with
      | false=>rfl
      | true =>
        refine (cT rfl).trans ?_
        refine (bnd (zjy (zmh hl))).trans ?_
        refine (bnd (zxV _ _)).trans ?_
        exact bnd (zGo hl _)
end Go.Proofs.YtejbgeokcpillaaGreatDoor
end
section
namespace Go.Proofs.YtejbgeokcpillaaGreatDoor
open Go.Ev
theorem zHE (l:List zi) (i:Int) (f g:qx):j7 l i f g = bif l.all qu then bif hOk f then bif hOk g then bif zit l i && eqI qa (ofV (ix zO l i)) f then (List.set l i.toNat (toV (ix zO l i) g),0,()) else ([],3,()) else ([],1,()) else ([],1,()) else ([],1,()):=by
  unfold j7
  cases zit l i <;> rfl
theorem zxW (a b:qx):eqI qa a b = ((a.1:Int) == b.1 && ((a.2.1:Int) == b.2.1 && eqI zB a.2.2.1 b.2.2.1)):=by
  show cond ((a.1:Int) == b.1) (cond ((a.2.1:Int) == b.2.1) (cond (eqI zB a.2.2.1 b.2.2.1) true false) false) false = _
  cases ((a.1:Int) == b.1) <;> cases ((a.2.1:Int) == b.2.1) <;> cases eqI zB a.2.2.1 b.2.2.1 <;> rfl
theorem zHF {x:zi} (h:qu x = true) (hu:x.1 = true) (hk:(x.2.2.1:Int) = 1):eqI zB x.2.2.2.2.1 (0,0,()) = true:=by
  unfold qu at h
  rw [hu,cond_true] at h
  simp only [zgR,Bool.and_eq_true,Bool.or_eq_true] at h
  rcases h.2 with h2 | h2
  · exact h2.2.2
  · have:(x.2.2.1:Int) = 2:=by simpa using h2.1
    omega
theorem zJb {x:zi} (h:qu x = true) (hu:x.1 = true) (w:Int):eqI qa (ofV x) (inH w) = ((x.2.2.1:Int) == 1 && (x.2.2.2.1:Int) == w):=by
  rw [zxW]
  show ((x.2.2.1:Int) == 1 && ((x.2.2.2.1:Int) == w && eqI zB x.2.2.2.2.1 (0,0,()))) = _
  by_cases hk:(x.2.2.1:Int) = 1
  · rw [zHF h hu hk,Bool.and_true]
  · rw [beq_eq_false_iff_ne.2 hk]; rfl
theorem zy9 {l:List zi} (h:l.all qu = true) {i:Int} (hi:0 ≤ i ∧ i < (l.length:Int)):qu (ix zO l i) = true:=List.all_eq_true.1 h _ (z9 (by omega))
def zk9 (l:List zi) (i w:Int):Bool:=decide (0 ≤ i ∧ i < (l.length:Int)) && ((ix zO l i).1 && (((ix zO l i).2.2.1:Int) == 1 && ((ix zO l i).2.2.2.1:Int) == w))
theorem zJc {l:List zi} (h:l.all qu = true) (i w:Int):(zit l i && eqI qa (ofV (ix zO l i)) (inH w)) = zk9 l i w:=by
  unfold zit zk9
  by_cases hi:0 ≤ i ∧ i < (l.length:Int)
  · rw [decide_eq_true hi,Bool.true_and,Bool.true_and]
    cases hu:(ix zO l i).1 with
    | false=>rfl
    | true=>rw [zJb (zy9 h hi) hu]
  · rw [decide_eq_false hi]; rfl
end Go.Proofs.YtejbgeokcpillaaGreatDoor
end
section
namespace Go.Proofs.YtejbgeokcpillaaGreatDoor
open Go.Ev
abbrev zz (s:zb) (me:pMe):List zi:=(ix zf s.2.1 me.2.1).2.2.1
abbrev zjg (s:zb) (i w:Int):qw:=List.getD (ix zf s.2.1 i).2.2.2.2.2.2.1 (Int.toNat w) (ze zB)
abbrev qF (s:zb) (me:pMe):qw:=zjg s me.2.1 me.2.2.1
structure Ctx (r:zd) (s:zb) (me:pMe):Prop where
  rs:z4 r s = true
  im:j6 r me = true
theorem Ctx.hi {r:zd} {s:zb} {me:pMe} (x:Ctx r s me):0 ≤ me.2.1 ∧ me.2.1 < (s.2.1.length:Int):=(zJT x.rs x.im).hi
theorem Ctx.shelf {r:zd} {s:zb} {me:pMe} (x:Ctx r s me):(ix zf s.2.1 me.2.1).2.2.1.length ≤ 12 ∧ (ix zf s.2.1 me.2.1).2.2.2.2.2.2.1.length = r.2.2.1.length:=by
  obtain ⟨hb,hz,-⟩:=jf x.rs
  have h:=(zaE hb hz).shelf _ (zsP x.hi)
  exact ⟨h.2.2.1,h.2.2.2.2.2.2⟩
theorem Ctx.small {r:zd} {s:zb} {me:pMe} (x:Ctx r s me):(zz s me).length ≤ 2000000:=Nat.le_trans x.shelf.1 (by omega)
theorem Ctx.who {r:zd} {s:zb} {me:pMe} (x:Ctx r s me):vT r me.2.2.1 = true:=by
  have:=x.im
  simp only [j6,Bool.and_eq_true] at this; exact this.2.2
theorem Ctx.place {r:zd} {s:zb} {me:pMe} (x:Ctx r s me) {w:Int} (hw:vT r w = true):0 ≤ w ∧ w < ((ix zf s.2.1 me.2.1).2.2.2.2.2.2.1.length:Int):=by
  simp only [vT,decide_eq_true_eq] at hw
  rw [x.shelf.2]; exact hw
theorem Ctx.slots {r:zd} {s:zb} {me:pMe} (x:Ctx r s me):(zz s me).all qu = true:=by
  have h:=x.rs
  have hi:=x.hi
  simp only [z4,Bool.and_eq_true,jl] at h
  have:=(h.2.2.2.1 me.2.1.toNat (Nat.zero_le _) (by omega)).1.1
  simp only [j5,Bool.and_eq_true] at this
  exact this.2.2.1
theorem zza {r:zd} (hb:qk r = true) {w:Int} (hw:vT r w = true):jt w = true:=by
  have:=(jE hb).accounts
  simp only [vT,jt,decide_eq_true_eq] at hw ⊢
  omega
theorem zkp {r:zd} {s:zb} {me:pMe} (x:Ctx r s me):zbr (s,me,()) = some (zz s me,()):=by
  simp only [zbr]
  exact ixR x.hi
theorem zec {r:zd} {s:zb} {me:pMe} (x:Ctx r s me) {y:pMe} (hy:y.2.1 = me.2.1) (hw:vT r y.2.2.1 = true):vZ (s,y,()) = some (zjg s me.2.1 y.2.2.1,()):=by
  simp only [vZ]
  rw [hy]
  refine (ixR x.hi).trans ?_
  exact ixR (x.place hw)
def zzb (e:Int):zb × Int × Unit:=(zsQ,e,())
def zfv (s:zb) (me:pMe) (v:List zi × Int × Unit):zb × Int × Unit:=bif v.2.1 != 0 then zzb v.2.1 else (upd s me.2.1 (u2 (ix zf s.2.1 me.2.1) v.1),0,())
theorem zxX {r:zd} {s:zb} {me:pMe} {g:List zi × Unit→Option (List zi × Int × Unit)} {v:List zi × Int × Unit} (hr:z7 r) (hs:qB s) (hg:Ctx r s me→g (zz s me,()) = some v):yU (r,s,me,some g,()) = some (bif z4 r s && j6 r me then zfv s me v else zzb 1):=by
  simp only [yU]
  refine (bnd (zdl hr hs me)).trans ?_
  cases h:z4 r s && j6 r me with
  | false=>rfl
  | true =>
    simp only [Bool.and_eq_true] at h
    have x:Ctx r s me:=⟨h.1,h.2⟩
    refine (cT rfl).trans ?_
    refine (bnd (zkp x)).trans ?_
    refine (bnd (a:=g) rfl).trans ?_
    refine (bnd (hg x)).trans ?_
    show _ = some (zfv s me v)
    unfold zfv
    cases he:v.2.1 != 0 with
    | true=>exact cT rfl
    | false =>
      refine (cF rfl).trans ?_
      refine (bnd (zgu (ztn x.rs))).trans ?_
      exact ixR x.hi
theorem zAW {r:zd} {s:zb} {me:pMe} (hr:z7 r) (hs:qB s) (i:Int):zbx (r,s,me,i,()) = some (bif z4 r s && j6 r me then zfv s me (zj1 (zz s me) i me.2.2.1) else zzb 1):=by
  simp only [zbx]
  refine (bnd (zxX (v:=zj1 (zz s me) i me.2.2.1) hr hs fun x=>?_)).trans rfl
  simp only [zif]
  refine (bnd (a:=i) rfl).trans ?_
  refine (bnd (a:=me) rfl).trans ?_
  exact bnd (zAV x.small i me.2.2.1)
theorem zDu {r:zd} {s:zb} {me:pMe} (hr:z7 r) (hs:qB s) (i:Int):zdg (r,s,me,i,()) = some (bif z4 r s && j6 r me then zfv s me (j7 (zz s me) i (inH me.2.2.1) (zgS (qF s me))) else zzb 1):=by
  simp only [zdg]
  refine (bnd (zxX (v:=j7 (zz s me) i (inH me.2.2.1) (zgS (qF s me))) hr hs fun x=>?_)).trans rfl
  simp only [zi6]
  refine (bnd (a:=i) rfl).trans ?_
  refine (bnd (a:=me) rfl).trans ?_
  refine (bnd (a:=s) rfl).trans ?_
  refine (bnd (a:=me) rfl).trans ?_
  refine (bnd (zec x rfl x.who)).trans ?_
  exact bnd (zDp x.small i me.2.2.1 (qF s me))
theorem zDv {r:zd} {s:zb} {me:pMe} (hr:z7 r) (hs:qB s) (i:Int):za8 (r,s,me,i,()) = some (bif z4 r s && j6 r me then zfv s me (j7 (zz s me) i (zgS (qF s me)) (inH me.2.2.1)) else zzb 1):=by
  simp only [za8]
  refine (bnd (zxX (v:=j7 (zz s me) i (zgS (qF s me)) (inH me.2.2.1)) hr hs fun x=>?_)).trans rfl
  simp only [zi7]
  refine (bnd (a:=i) rfl).trans ?_
  refine (bnd (a:=me) rfl).trans ?_
  refine (bnd (a:=s) rfl).trans ?_
  refine (bnd (a:=me) rfl).trans ?_
  refine (bnd (zec x rfl x.who)).trans ?_
  exact bnd (zDq x.small i me.2.2.1 (qF s me))
def znt (r:zd) (s:zb) (me:pMe) (i w:Int):List zi × Int × Unit:=bif vT r w && w != me.2.2.1 then bif zk9 (zz s me) i me.2.2.1 then bif eqI zB (zjg s me.2.1 w) (qF s me) then j7 (zz s me) i (inH me.2.2.1) (inH w) else ((j7 (zz s me) i (inH me.2.2.1) (inH w)).1,5,()) else ([],3,()) else ([],1,())
theorem zHG {r:zd} {s:zb} {me:pMe} (x:Ctx r s me) {w:Int} (hw:vT r w = true) (i:Int):j7 (zz s me) i (inH me.2.2.1) (inH w) = bif zk9 (zz s me) i me.2.2.1 then (List.set (zz s me) i.toNat (toV (ix zO (zz s me) i) (inH w)),0,()) else ([],3,()):=by
  have hb:=(jf x.rs).1
  rw [zHE,x.slots,zp0,zp0,zza hb x.who,zza hb hw,zJc x.slots]; rfl
theorem zDw {r:zd} {s:zb} {me:pMe} (hr:z7 r) (hs:qB s) (i w:Int):za9 (r,s,me,i,w,()) = some (bif z4 r s && j6 r me then zfv s me (znt r s me i w) else zzb 1):=by
  simp only [za9]
  refine (bnd (zxX (v:=znt r s me i w) hr hs fun x=>?_)).trans rfl
  have him:∀ u:Unit,j6 r (me.1,me.2.1,w,u) = vT r w:=fun u=>by
    have:=x.im
    simp only [j6,Bool.and_eq_true] at this ⊢
    rw [this.1,this.2.1,Bool.true_and,Bool.true_and]
  simp only [zi8]
  refine (bnd (a:=me) rfl).trans ?_
  refine (bnd (a:=me) rfl).trans ?_
  refine (bnd (a:=w) rfl).trans ?_
  refine (bnd (a:=w) rfl).trans ?_
  refine (bnd (a:=me) rfl).trans ?_
  unfold znt
  by_cases hne:w = me.2.2.1
  · refine (cT (beq_iff_eq.2 hne)).trans ?_
    have:(w != me.2.2.1) = false:=by rw [hne]; simp
    rw [this,Bool.and_false]; rfl
  · refine (cF (beq_eq_false_iff_ne.2 hne)).trans ?_
    rw [bne_iff_ne.2 hne,Bool.and_true]
    refine (bnd (a:=r) rfl).trans ?_
    refine (bnd (a:=s) rfl).trans ?_
    refine (bnd (zdl hr hs _)).trans ?_
    rw [x.rs,him,Bool.true_and]
    cases hw:vT r w with
    | false=>rfl
    | true =>
      refine (cT rfl).trans ?_
      refine (bnd (a:=i) rfl).trans ?_
      refine (bnd (a:=me) rfl).trans ?_
      refine (bnd (a:=w) rfl).trans ?_
      refine (bnd (zDr x.small i me.2.2.1 w)).trans ?_
      rw [zHG x hw i]
      cases zk9 (zz s me) i me.2.2.1 with
      | false=>rfl
      | true =>
        refine (cT rfl).trans ?_
        refine (bnd (a:=s) rfl).trans ?_
        refine (bnd (zec x (y:=(me.1,me.2.1,w,(ze tMe).2.2.2)) rfl hw)).trans ?_
        refine (bnd (a:=s) rfl).trans ?_
        refine (bnd (a:=me) rfl).trans ?_
        refine (bnd (zec x rfl x.who)).trans ?_
        show cond (!eqI zB (zjg s me.2.1 w) (qF s me)) _ _ = _
        cases eqI zB (zjg s me.2.1 w) (qF s me) <;> rfl
end Go.Proofs.YtejbgeokcpillaaGreatDoor
end
section
namespace Go.Proofs.YtejbgeokcpillaaGreatDoor
open Go.Ev
def zgv (h:qx) (x:zi):Bool:=x.1 && eqI qa (ofV x) h
theorem zqT {l:List zi} (hl:l.length ≤ 1000000) (h:qx):zgm (l,h,()) = some (z6 (zgv h) 0 l,()):=by
  have hl':l.length ≤ Go.maxLen:=by unfold Go.maxLen; omega
  have:=ve (B:=zbY) (α:=List Int) hl' (fun i o=>(l,(l.length:Int),i,h,o)) (fun i o=>some (o ++ z6 (zgv h) i (l.drop i),())) (fun i o=>o.length ≤ i) (fun k i o hi hI hk=>by
    simp only [zbY]
    rw [ltT hi,zE hi,qe,zaR,vW zO hi]
    simp only [cond_true,z6,zgv]
    cases hu:(l.getD i zO).1 with
    | false=>exact hk o (by omega)
    | true =>
      simp only [cond_true,Bool.true_and]
      refine (bnd (zxU _)).trans ?_
      show cond (eqI qa (ofV (l.getD i zO)) h) _ _ = _
      cases eqI qa (ofV (l.getD i zO)) h with
      | false=>exact hk o (by omega)
      | true =>
        refine (cT rfl).trans ?_
        refine (cT (zd8 (by simp; omega))).trans ?_
        refine (hk _ (by simp; omega)).trans ?_
        simp [z6]) (fun k o _=>by
    simp only [zbY]
    rw [ltF,List.drop_of_length_le (Nat.le_refl _)]
    simp [z6]) [] (Nat.le_refl _)
  exact this
theorem zDx {l:List zi} (hl:l.length ≤ 1000000) (w:Int):zhY (l,w,()) = some (z6 (zgv (inH w)) 0 l,()):=by
  simp only [zhY]
  refine (bnd (zgT w)).trans ?_
  exact bnd (zqT hl _)
theorem zAX {l:List zi} (hl:l.length ≤ 1000000) (r:qw):zgo (l,r,()) = some (z6 (zgv (zgS r)) 0 l,()):=by
  simp only [zgo]
  refine (bnd (zvM r)).trans ?_
  exact bnd (zqT hl _)
def zsS (s:zb) (me:pMe):List Int:=z6 (zgv (inH me.2.2.1)) 0 (zz s me)
theorem zuu {r:zd} {s:zb} (hr:z7 r) (hs:qB s) (me:pMe):zaD (r,s,me,()) = some (bif z4 r s && j6 r me then (zsS s me,0,()) else ([],1,())):=by
  simp only [zaD]
  refine (bnd (zdl hr hs me)).trans ?_
  cases h:z4 r s && j6 r me with
  | false=>rfl
  | true =>
    simp only [Bool.and_eq_true] at h
    have x:Ctx r s me:=⟨h.1,h.2⟩
    refine (cT rfl).trans ?_
    refine (bnd (zkp x)).trans ?_
    exact bnd (zDx (Nat.le_trans x.shelf.1 (by omega)) me.2.2.1)
def zxY (i:Int) (l:List Int):List qw:=l.map fun z=>(i,z,())
def vy (r:zd) (j:Int) (at':qw):Nat→List zg→List qw
  | _,[]=>[]
  | i,x :: l=>(bif zin r i j then zxY i (z6 (zgv (zgS at')) 0 x.2.2.1) else []) ++ vy r j at' (i + 1) l
theorem Ctx.items {r:zd} {s:zb} {me:pMe} (x:Ctx r s me) {i:Nat} (hi:i < s.2.1.length):(s.2.1.getD i zf).2.2.1.length ≤ 12 ∧ (s.2.1.getD i zf).2.2.1.all qu = true:=by
  obtain ⟨hb,hz,-⟩:=jf x.rs
  have h:=(zaE hb hz).shelf _ (z9 (d:=zf) hi)
  have h':=x.rs
  simp only [z4,Bool.and_eq_true,jl] at h'
  have:=(h'.2.2.2.1 i (Nat.zero_le _) (by omega)).1.1
  simp only [j5,Bool.and_eq_true] at this
  exact ⟨h.2.2.1,this.2.2.1⟩
theorem Ctx.count {r:zd} {s:zb} {me:pMe} (x:Ctx r s me):s.2.1.length ≤ 8:=by
  obtain ⟨hb,hz,-⟩:=jf x.rs
  have h1:=(zaE hb hz).shelves
  have h2:=(jE hb).labels
  omega
theorem zo3 {r:zd} {s:zb} (hr:z7 r) (hs:qB s) (me:pMe):vw (r,s,me,()) = some (bif z4 r s && j6 r me then (vy r me.2.1 (qF s me) 0 s.2.1,0,()) else ([],1,())):=by
  simp only [vw,zfq]
  refine (bnd (zdl hr hs me)).trans ?_
  cases h:z4 r s && j6 r me with
  | false=>rfl
  | true =>
    simp only [Bool.and_eq_true] at h
    have x:Ctx r s me:=⟨h.1,h.2⟩
    have hc:=x.count
    refine (cT rfl).trans ?_
    have:=ve (B:=fun k0=>yC (zdS K0 k0) k0) (α:=List qw) (len:=s.2.1.length) (by unfold Go.maxLen; omega) (fun i o=>(s.2.1,(s.2.1.length:Int),i,r,s,me,o)) (fun i o=>some (o ++ vy r me.2.1 (qF s me) i (s.2.1.drop i),0,())) (fun i o=>o.length ≤ i * 12) (fun k i o hi hI hk=>by
      obtain ⟨h12,hok⟩:=x.items hi
      simp only [yC]
      rw [ltT hi,zE hi,qe,vW zf hi]
      simp only [cond_true,vy]
      refine (bnd (zED hr (jf x.rs).1 _ _)).trans ?_
      cases zin r (i:Int) me.2.1 with
      | false=>exact hk o (by omega)
      | true =>
        refine (cT rfl).trans ?_
        refine (bnd (zec x rfl x.who)).trans ?_
        refine (bnd (zAX (Nat.le_trans h12 (by omega)) _)).trans ?_
        have hsl:=zdU (p:=zgv (zgS (qF s me))) (s.2.1.getD i zf).2.2.1 0
        simp only [cond_true]
        generalize z6 (zgv (zgS (qF s me))) 0 (s.2.1.getD i zf).2.2.1 = L at *
        have inner:=ve (B:=fun k1=>za7 k k1) (α:=List qw) (len:=L.length) (by unfold Go.maxLen; omega) (fun j o=>((i:Int),s.2.1,(s.2.1.length:Int),(i:Int),L,(L.length:Int),j,r,s,me,o)) (fun j o=>some (o ++ (zxY (i:Int) (L.drop j) ++ vy r me.2.1 (qF s me) (i + 1) (s.2.1.drop (i + 1))),0,())) (fun j o=>o.length ≤ i * 12 + j) (fun k1 j o hj hJ hk1=>by
          simp only [za7]
          rw [ltT hj,zE hj,qe,zaR,vW (0:Int) hj]
          refine (cT rfl).trans ?_
          refine (cT (zd8 (by simp; omega))).trans ?_
          refine (hk1 _ (by simp; omega)).trans ?_
          simp only [zxY,List.map_cons,List.append_assoc,List.cons_append,List.nil_append]) (fun k1 o hJ=>by
          simp only [za7]
          rw [ltF,List.drop_of_length_le (Nat.le_refl _)]
          refine (cF rfl).trans ?_
          exact hk o (by omega)) o (by omega)
        exact inner) (fun k o _=>by
      simp only [yC]
      rw [ltF,List.drop_of_length_le (Nat.le_refl _)]
      simp [vy]) [] (Nat.zero_le _)
    exact this
theorem zGp {a b:List qw} (hl:a.length ≤ Go.maxLen):zaW (a,b,()) = some (eqL zB a b,()):=zns (p:=eqI zB) fun h=>by
  have:=zpY (B:=yR) zIh (eqI zB) (fun i=>(a,b,i)) hl h (fun k i hi=>by
    simp only [yR]
    rw [ltT hi,zE hi,zE (by omega),qe,qe,zJI]; rfl) (fin:=true) (fun k=>by simp only [yR]; rw [ltF]; rfl)
  rw [Bool.and_true] at this; exact this
theorem zJK {a b:List Int} (hl:a.length ≤ Go.maxLen):zeU (a,b,()) = some (eqL tI a b,()):=zns (p:=eqI tI) fun h=>by
  have:=zpY (B:=zc4) (0:Int) (eqI tI) (fun i=>(a,b,i)) hl h (fun k i hi=>by
    simp only [zc4]
    rw [ltT hi,zE hi,zE (by omega),qe,qe,zJ7]; rfl) (fin:=true) (fun k=>by simp only [zc4]; rw [ltF]; rfl)
  rw [Bool.and_true] at this; exact this
end Go.Proofs.YtejbgeokcpillaaGreatDoor
end
section
namespace Go.Proofs.YtejbgeokcpillaaGreatDoor
open Go.Ev
def ztp (s:zb) (me:pMe) (v:List zi × Int × Int × Unit):zb × Int × Int × Unit:=bif v.2.2.1 != 0 then (zsQ,0,v.2.2.1,()) else (upd s me.2.1 (u2 (ix zf s.2.1 me.2.1) v.1),v.2.1,0,())
theorem zIv {l:List zi} {nm:ByteArray} {w:Int} (h:((zbk l nm w).2.2.1 != 0) = true):(zbk l nm w).2.1 = 0:=by
  revert h
  unfold zbk zDo
  cases l.all qu <;> cases jt w <;> cases zfr nm <;> cases decide (yf l < 0) <;> intro h <;> first | rfl | cases h
theorem zDy {r:zd} {s:zb} {me:pMe} (hr:z7 r) (hs:qB s) (nm:ByteArray):zdf (r,s,me,nm,()) = some (bif z4 r s && j6 r me then ztp s me (zbk (zz s me) nm me.2.2.1) else (zsQ,0,1,())):=by
  simp only [zdf]
  refine (bnd (zdl hr hs me)).trans ?_
  cases h:z4 r s && j6 r me with
  | false=>rfl
  | true =>
    simp only [Bool.and_eq_true] at h
    have x:Ctx r s me:=⟨h.1,h.2⟩
    refine (cT rfl).trans ?_
    refine (bnd (zkp x)).trans ?_
    refine (bnd (zDt x.small nm me.2.2.1)).trans ?_
    show _ = some (ztp s me (zbk (zz s me) nm me.2.2.1))
    unfold ztp
    cases he:(zbk (zz s me) nm me.2.2.1).2.2.1 != 0 with
    | true =>
      refine (cT rfl).trans ?_
      show some (_,(zbk (zz s me) nm me.2.2.1).2.1,_,()) = _
      rw [zIv he]; rfl
    | false =>
      refine (cF rfl).trans ?_
      refine (bnd (zgu (ztn x.rs))).trans ?_
      exact ixR x.hi
def zBd (v:zb × Int × Unit):zb × Int × Int × Unit:=(v.1,0,v.2.1,())
def zvN (r:zd) (s:zb) (me:pMe) (k i w:Int):List zi × Int × Unit:=bif k == 2 then zj1 (zz s me) i me.2.2.1 else bif k == 3 then j7 (zz s me) i (inH me.2.2.1) (zgS (qF s me)) else bif k == 4 then j7 (zz s me) i (zgS (qF s me)) (inH me.2.2.1) else znt r s me i w
def zmi (r:zd) (s:zb) (me:pMe) (k i w:Int) (nm:ByteArray):zb × Int × Int × Unit:=bif z4 r s && j6 r me then bif k == 1 then ztp s me (zbk (zz s me) nm me.2.2.1) else zBd (zfv s me (zvN r s me k i w)) else (zsQ,0,1,())
theorem zJL {r:zd} {s:zb} {me:pMe} (hr:z7 r) (hs:qB s) (x:zcH):zig (r,s,me,x,()) = some (zmi r s me x.1 x.2.1 x.2.2.1 x.2.2.2.1):=by
  simp only [zig]
  rw [zDy hr hs,zAW hr hs,zDu hr hs,zDv hr hs,zDw hr hs]
  simp only [Option.bind_some]
  unfold zmi zvN
  cases z4 r s && j6 r me with
  | false=>cases ((x.1:Int) == 1) <;> cases ((x.1:Int) == 2) <;> cases ((x.1:Int) == 3) <;> cases ((x.1:Int) == 4) <;> rfl
  | true=>cases ((x.1:Int) == 1) <;> cases ((x.1:Int) == 2) <;> cases ((x.1:Int) == 3) <;> cases ((x.1:Int) == 4) <;> rfl
theorem zhe:yc () = some (true,()):=by
  simp only [yc,zdf,zdg,za8,za9,zbx,yU,zIu]
  kernel_rfl
theorem zJd (s:zb) (me:pMe):(zsS s me).length ≤ (zz s me).length:=zdU _ _
theorem zxZ {r:zd} {j:Int} {a:qw}:∀ (l:List zg) (i:Nat),(∀ x ∈ l,x.2.2.1.length ≤ 12)→(vy r j a i l).length ≤ l.length * 12
  | [],_,_=>Nat.le_refl _
  | x :: l,i,h=>by
    have h1:=zxZ (r:=r) (j:=j) (a:=a) l (i + 1) fun y hy=>h y (List.mem_cons_of_mem _ hy)
    have h2:=h x List.mem_cons_self
    have h3:=zdU (p:=zgv (zgS a)) x.2.2.1 0
    have h4:(bif zin r (i:Int) j then zxY (i:Int) (z6 (zgv (zgS a)) 0 x.2.2.1) else []).length ≤ 12:=by
      cases zin r (i:Int) j with
      | false=>exact Nat.zero_le _
      | true=>show (List.map _ _).length ≤ _; rw [List.length_map]; omega
    simp only [vy,List.length_append,List.length_cons]
    omega
end Go.Proofs.YtejbgeokcpillaaGreatDoor
end
section
namespace Go.Proofs.YtejbgeokcpillaaGreatDoor
open Go.Ev
theorem zp1 {s:zb} {i:Int} {h:zg} (hi:0 ≤ i ∧ i < (s.2.1.length:Int)) (k:Nat):(upd s i h).2.1.getD k zf = if i.toNat = k then h else s.2.1.getD k zf:=by
  by_cases hk:i.toNat = k
  · rw [if_pos hk,← hk]; exact zjx (by omega)
  · rw [if_neg hk]; exact getD_set_ne hk
theorem zzc (s:zb) (i:Int) (h:zg):(upd s i h).2.1.length = s.2.1.length:=List.length_set ..
abbrev zbo (s:zb) (i:Int) (l:List zi):zb:=upd s i (u2 (ix zf s.2.1 i) l)
theorem zIw {s:zb} {i:Int} {l:List zi} (hi:0 ≤ i ∧ i < (s.2.1.length:Int)) (k:Nat):((zbo s i l).2.1.getD k zf).1 = (s.2.1.getD k zf).1:=by
  rw [zp1 hi]
  split
  · rename_i e; subst e; rfl
  · rfl
theorem zDz {s:zb} {i:Int} {l:List zi} (hi:0 ≤ i ∧ i < (s.2.1.length:Int)):zmd (zbo s i l) = zmd s:=by
  funext x
  unfold zmd
  rw [zIw hi,zzc]
theorem zvO {r:zd} {s:zb} {i:Int} {l:List zi} (hi:0 ≤ i ∧ i < (s.2.1.length:Int)):zeb r (zbo s i l) = zeb r s:=by
  funext j x
  unfold zeb
  rw [zDz hi]
theorem zHH {r:zd} {s:zb} {i:Int} {l:List zi} (hi:0 ≤ i ∧ i < (s.2.1.length:Int)):zir r (zbo s i l) = zir r s:=by
  funext j x
  have e1:ze2 r (zbo s i l) = ze2 r s:=by funext a b; unfold ze2; rw [zvO hi]
  have e2:yV r (zbo s i l) = yV r s:=by funext a b; unfold yV; rw [zvO hi]
  unfold zir ziq
  rw [e1,e2,zvO hi]
structure ztq (r:zd) (s:zb) (i:Int) (x:zg) (l:List zi):Prop where
  len:l.length = x.2.2.1.length
  ok:l.all qu = true
  below:l.all (yV r s i) = true
  who:l.all (zft r) = true
  deals:zga (u2 x l) = true
theorem zHI {r:zd} {s:zb} (h:z4 r s = true) {i:Int} (hi:0 ≤ i ∧ i < (s.2.1.length:Int)):ztq r s (i.toNat:Int) (ix zf s.2.1 i) (ix zf s.2.1 i).2.2.1:=by
  simp only [z4,Bool.and_eq_true,jl] at h
  have h1:=(h.2.2.2.1 i.toNat (Nat.zero_le _) (by omega)).1
  simp only [j5,zir,ziq,zdj,Bool.and_eq_true] at h1
  exact ⟨rfl,h1.1.2.2.1,h1.2.1.2.1,h1.2.2.1.1,h1.2.2.2⟩
theorem zp2 {α:Type} (f:α→Int) (d:α):∀ (l:List α) (i:Nat) (x:α),i < l.length→qm ((List.set l i x).map f) = qm (l.map f) - f (l.getD i d) + f x
  | [],_,_,h=>by cases h
  | y :: l,0,x,_=>by
    show f x + qm (l.map f) = f y + qm (l.map f) - f y + f x
    omega
  | y :: l,i + 1,x,h=>by
    have:=zp2 f d l i x (by simpa using h)
    show f y + qm ((List.set l i x).map f) = f y + qm (l.map f) - f (l.getD i d) + f x
    omega
theorem zHJ {s:zb} {i:Int} {l:List zi} (hi:0 ≤ i ∧ i < (s.2.1.length:Int)) (f:zg→Int) (hf:∀ x:zg,f (u2 x l) = f x):qm ((zbo s i l).2.1.map f) = qm (s.2.1.map f):=by
  have:=zp2 f zf s.2.1 i.toNat (u2 (ix zf s.2.1 i) l) (by omega)
  refine this.trans ?_
  rw [hf]
  exact Int.sub_add_cancel _ _
theorem zJe {s:zb} {i:Int} {l:List zi} (hi:0 ≤ i ∧ i < (s.2.1.length:Int)) (c:Int):zis (zbo s i l) c = zis s c:=by
  have e1:znp (zbo s i l) c = znp s c:=by
    unfold znp
    rw [zHJ hi (zdo c) fun _=>rfl]
  have e2:∀ f:zg→List Int,(∀ x,f (u2 x l) = f x)→zmg f (zbo s i l) c = zmg f s c:=fun f hf=>by
    unfold zmg
    exact zHJ hi (fun x=>zpX c (f x)) fun x=>by rw [hf]
  have e3:znq (zbo s i l) c = znq s c:=by
    unfold znq
    rw [e2 (fun x=>x.2.2.2.2.2.2.2.1) fun _=>rfl,e2 (fun x=>x.2.2.2.2.2.2.2.2.1) fun _=>rfl]
  unfold zis
  rw [e1,e3]
theorem zEF {r:zd} {s:zb} (h:z4 r s = true) {i:Int} (hi:0 ≤ i ∧ i < (s.2.1.length:Int)) {l:List zi} (k:ztq r s (i.toNat:Int) (ix zf s.2.1 i) l):z4 r (zbo s i l) = true:=by
  unfold z4 at h ⊢
  simp only [Bool.and_eq_true,jl] at h ⊢
  obtain ⟨h1,h2,h3,h4,h5⟩:=h
  refine ⟨h1,?_,?_,fun j hj hj2=>?_,fun c hc hc2=>?_⟩
  · unfold zim at h2 ⊢
    simp only [Bool.and_eq_true,decide_eq_true_eq,jl] at h2 ⊢
    rw [zzc]
    refine ⟨h2.1,h2.2.1,fun j hj1 hj2=>?_⟩
    have:=h2.2.2 j hj1 hj2
    rw [zp1 hi]
    split
    · rename_i e; subst e
      unfold zj0 at this ⊢
      show ((_ && _) && (decide ((l.length:Int) = _) && _) && _) = true
      rw [k.len]
      exact this
    · exact this
  · unfold zef at h3 ⊢
    have e1:zjc r (zbo s i l) = zjc r s:=rfl
    have e2:zjd r (zbo s i l) = zjd r s:=rfl
    rw [zDz hi,e1,e2]
    exact h3
  · rw [zzc] at hj2
    obtain ⟨⟨g1,g2⟩,g3⟩:=h4 j hj hj2
    rw [zHH hi]
    refine ⟨?_,fun c hc hc2=>?_⟩
    · rw [zp1 hi]
      split
      · rename_i e; subst e
        have g1':j5 (ix zf s.2.1 i) = true:=g1
        have g2':zir r s (i.toNat:Int) (ix zf s.2.1 i) = true:=g2
        simp only [j5,zir,ziq,zdj,Bool.and_eq_true] at g1' g2' ⊢
        exact ⟨⟨g1'.1,g1'.2.1,k.ok,g1'.2.2.2⟩,⟨g2'.1.1,k.below,g2'.1.2.2⟩,⟨k.who,g2'.2.1.2⟩,k.deals⟩
      · exact ⟨g1,g2⟩
    · have:=g3 c hc hc2
      unfold znr at this ⊢
      rw [zp1 hi]
      split
      · rename_i e; subst e; exact this
      · exact this
  · rw [zJe hi]
    exact h5 c hc hc2
theorem zHK {x:zg} {k:Nat} {y:zi} (hk:k < x.2.2.1.length) (h:zga x = true) (hold:((x.2.2.1.getD k zO).2.2.1:Int) ≠ 3) (hnew:(y.2.2.1:Int) ≠ 3):zga (u2 x (List.set x.2.2.1 k y)) = true:=by
  unfold zga at h ⊢
  simp only [Bool.and_eq_true,jl] at h ⊢
  obtain ⟨h1,h2⟩:=h
  refine ⟨fun j hj hj2=>?_,fun j hj hj2=>?_⟩
  · have hj3:j < x.2.2.1.length:=by
      have:j < 0 + ((List.set x.2.2.1 k y).length - 0):=hj2
      rw [List.length_set] at this; omega
    show zje (u2 x _) j ((List.set x.2.2.1 k y).getD j zO) = true
    by_cases e:k = j
    · subst e
      rw [zjx hk]
      unfold zje
      rw [bne_iff_ne.2 hnew]; rfl
    · rw [getD_set_ne e]
      exact h1 j hj (by omega)
  · have h9:=h2 j hj hj2
    show (!(x.2.2.2.2.1.getD j qD).1 || zaF (u2 x _) (j:Int) (x.2.2.2.2.1.getD j qD)) = true
    generalize x.2.2.2.2.1.getD j qD = t at *
    cases hu:t.1 with
    | false=>rfl
    | true =>
      rw [hu] at h9
      have hd:zaF x (j:Int) t = true:=h9
      show zaF (u2 x (List.set x.2.2.1 k y)) (j:Int) t = true
      unfold zaF at hd ⊢
      simp only [Bool.and_eq_true,Bool.or_eq_true,decide_eq_true_eq,List.length_set] at hd ⊢
      refine ⟨hd.1,hd.2.imp id fun h3=>?_⟩
      have e:k ≠ Int.toNat t.2.2.2.1.2.2.1:=fun e=>by
        rw [← e] at h3
        exact hold (beq_iff_eq.1 h3.1)
      rw [getD_set_ne e]; exact h3
theorem zzd {α:Type} {p:α→Bool} {l:List α} {k:Nat} {y:α} (h:l.all p = true) (hy:p y = true):(List.set l k y).all p = true:=by
  rw [List.all_eq_true] at h ⊢
  intro z hz
  rcases List.mem_or_eq_of_mem_set hz with hz | rfl
  · exact h z hz
  · exact hy
theorem zHL {r:zd} {s:zb} {i:Int} {x:zg} {k:Nat} {y:zi} (h:ztq r s i x x.2.2.1) (hk:k < x.2.2.1.length) (hold:((x.2.2.1.getD k zO).2.2.1:Int) ≠ 3) (hnew:(y.2.2.1:Int) ≠ 3) (h1:qu y = true) (h2:yV r s i y = true) (h3:zft r y = true):ztq r s i x (List.set x.2.2.1 k y) :=
  ⟨List.length_set ..,zzd h.ok h1,zzd h.below h2,zzd h.who h3,zHK hk (by have:=h.deals; exact this) hold hnew⟩
def vz (x:zi):Int:=bif x.1 then 1 else 0
def zBe (x:zg):Int:=qm (x.2.2.1.map vz)
def zvP (s:zb):Int:=qm (s.2.1.map zBe)
theorem zJf {s:zb} {i:Int} {k:Nat} {y:zi} (hi:0 ≤ i ∧ i < (s.2.1.length:Int)) (hk:k < (ix zf s.2.1 i).2.2.1.length):zvP (zbo s i (List.set (ix zf s.2.1 i).2.2.1 k y)) = zvP s - vz ((ix zf s.2.1 i).2.2.1.getD k zO) + vz y:=by
  have h1:=zp2 zBe zf s.2.1 i.toNat (u2 (ix zf s.2.1 i) (List.set (ix zf s.2.1 i).2.2.1 k y)) (by omega)
  have h2:=zp2 vz zO (ix zf s.2.1 i).2.2.1 k y hk
  have e1:zBe (u2 (ix zf s.2.1 i) (List.set (ix zf s.2.1 i).2.2.1 k y)) = qm ((List.set (ix zf s.2.1 i).2.2.1 k y).map vz):=rfl
  have e2:zBe (s.2.1.getD i.toNat zf) = qm ((ix zf s.2.1 i).2.2.1.map vz):=rfl
  rw [e1,e2,h2] at h1
  unfold zvP
  refine h1.trans ?_
  omega
end Go.Proofs.YtejbgeokcpillaaGreatDoor
end
section
namespace Go.Proofs.YtejbgeokcpillaaGreatDoor
open Go.Ev
theorem zIx {β:Type} {d:β} {n i:Nat} (h:i < n) (o:List β):(o ++ [d]) ++ List.replicate (n - (i + 1)) d = o ++ List.replicate (n - i) d:=by
  rw [List.append_assoc,show n - i = (n - (i + 1)) + 1 by omega,List.replicate_succ]; rfl
theorem zIy {σ β ρ:Type} {B:(σ→Option ρ)→σ→Option ρ} {n:Nat} (hn:n ≤ Go.maxLen) (d:β) (st:Int→List β→σ) (fin:List β→Option ρ) (o0:List β)
    (hin:∀ k (i:Nat) o,i < n→o.length = o0.length + i→B k (st i o) = k (st (wI (i + 1)) (o ++ [d]))) (hout:∀ k o,B k (st n o) = fin o):zm B K0 (st 0 o0) = fin (o0 ++ List.replicate n d):=by
  have:=ve (B:=B) hn st (fun i o=>fin (o ++ List.replicate (n - i) d)) (fun i o=>o.length = o0.length + i) (fun k i o hi hI h=>?_) (fun k o hI=>?_) o0 rfl
  · simpa using this
  · rw [hin k i o hi hI,h _ (by rw [List.length_append,hI]; simp; omega),zIx hi]
  · rw [hout]; simp
abbrev zJU:ByteArray:=ByteArray.mk #[112,108,97,122,97]
def zal (r:zd) (q:zbG):zg:=(List.replicate q.1.toNat ztd,List.replicate q.2.1.toNat vF,List.replicate q.2.2.1.toNat zO,List.replicate q.2.2.2.1.toNat zA7,List.replicate q.2.2.2.2.1.toNat qD,List.replicate r.2.2.1.length [0,0,0,0],List.replicate r.2.2.1.length zIh,[0,0,0,0],[0,0,0,0],())
def zze (x:zg):zg:=(x.1.set 0 (true,zJU,()),x.2)
def znu (r:zd) (g:zI):List Int:=(List.replicate r.2.2.1.length 0).set g.2.1.toNat 2
def zIz (r:zd):List zg:=(r.2.2.2.2.1.map (zal r)).set 0 (zze ((r.2.2.2.2.1.map (zal r)).getD 0 zf))
def ze3 (r:zd):zb:=(0,zIz r,r.2.2.2.1.map (znu r),List.replicate r.2.2.2.2.2.1.toNat qp,[],List.replicate r.2.1.length (-1),())
theorem zDA {q:zbG} (h:zhb q = true):(0 ≤ q.1 ∧ q.1 ≤ 12) ∧ (0 ≤ q.2.1 ∧ q.2.1 ≤ 12) ∧ (0 ≤ q.2.2.1 ∧ q.2.2.1 ≤ 12) ∧ (0 ≤ q.2.2.2.1 ∧ q.2.2.2.1 ≤ 12) ∧ (0 ≤ q.2.2.2.2.1 ∧ q.2.2.2.2.1 ≤ 12):=by
  simp only [zhb,qf,Bool.and_eq_true,decide_eq_true_eq] at h
  omega
theorem zAY {r:zd} {q:zbG} (hq:zhb q = true) (ha:r.2.2.1.length ≤ 8):zgi (r,q,()) = some (zal r q,()):=by
  simp only [zgi]
  have h:=zDA hq
  have hl:((lim:Nat):Int) = 4294967296:=rfl
  rw [hl]
  have t:∀ {p:Prop} [Decidable p],p→decide p = true:=fun h=>decide_eq_true h
  rw [t (p:=0 ≤ q.1) (by omega),t (p:=q.1 ≤ q.1) (by omega),t (p:=q.1 ≤ 4294967296) (by omega),
    t (p:=0 ≤ q.2.1) (by omega),t (p:=q.2.1 ≤ q.2.1) (by omega),t (p:=q.2.1 ≤ 4294967296) (by omega),
    t (p:=0 ≤ q.2.2.1) (by omega),t (p:=q.2.2.1 ≤ q.2.2.1) (by omega),t (p:=q.2.2.1 ≤ 4294967296) (by omega),
    t (p:=0 ≤ q.2.2.2.1) (by omega),t (p:=q.2.2.2.1 ≤ q.2.2.2.1) (by omega),t (p:=q.2.2.2.1 ≤ 4294967296) (by omega),
    t (p:=0 ≤ q.2.2.2.2.1) (by omega),t (p:=q.2.2.2.2.1 ≤ q.2.2.2.2.1) (by omega),t (p:=q.2.2.2.2.1 ≤ 4294967296) (by omega),
    t (p:=(r.2.2.1.length:Int) ≤ (r.2.2.1.length:Int)) (by omega),t (p:=(r.2.2.1.length:Int) ≤ 4294967296) (by omega),Int.toNat_natCast]
  rfl
theorem zx0 {r:zd} (hb:qk r = true):∀ q ∈ r.2.2.2.2.1,zhb q = true:=by
  simp only [qk,zja,Bool.and_eq_true] at hb
  exact zvI _ _ hb.2.2.2.2.1.2.2.2
theorem zJV {r:zd} (hb:qk r = true):1 ≤ (r.2.2.2.2.1.getD 0 jS).1:=by
  simp only [qk,zja,Bool.and_eq_true,decide_eq_true_eq] at hb
  exact hb.2.2.2.2.1.2.2.1
theorem zGq {r:zd} (hr:z7 r) (hb:qk r = true):zkV (r,()) = some (r.2.2.2.1.map (znu r),()):=by
  have ok:=jE hb
  have ha:=ok.accounts
  have hg:=ok.guilds
  have hl:((lim:Nat):Int) = 4294967296:=rfl
  simp only [zkV,zkU,zd9 r hr,Option.bind_some,hb,cond_true]
  exact zaw (B:=zeZ) (l:=r.2.2.2.1) (α:=List (List Int)) qE (fun i o=>o.length = i) (fun i o=>(r.2.2.2.1,(r.2.2.2.1.length:Int),i,r,o,o.length)) (fun rest o=>some (o ++ rest.map (znu r),())) (by unfold Go.maxLen; omega) (fun k i x rest o hi hI hx hm hr' hk=>by
    have hh:=ok.heads i hi
    rw [show r.2.2.2.1.getD i qE = x from hx] at hh
    have hx':List.getD r.2.2.2.1 i (ze vf) = x:=hx
    simp only [zeZ]
    rw [ltT hi,zE hi,qe,hx,hl,decide_eq_true (Int.le_refl _),decide_eq_true (p:=(r.2.2.1.length:Int) ≤ 4294967296) (by omega),Int.toNat_natCast]
    simp only [cond_true]
    rw [ixR (by rw [List.length_replicate]; exact hh),zd8 (by simp; omega)]
    simp only [cond_true,decide_true]
    have:=hk (o ++ [znu r x]) (by rw [List.length_append,hI]; rfl)
    rw [List.length_append] at this
    refine Eq.trans this ?_
    simp) (fun k o hI=>by
    simp only [zeZ]
    rw [ltF]
    simp) [] rfl
theorem zJW {r:zd} (ok:zhc r) (o:List zg) (l:List (List Int)) (w:List zp):zd6 K0 ((r.2.1.length:Int),0,0,0,[],0,[],0,[],[],[],o,o.length,l,l.length,w,[],[]) = some ((0,o,l,w,[],List.replicate r.2.1.length (-1),()),0,()):=by
  have hl:=ok.lines
  have:=zIy (B:=zd5) (n:=r.2.1.length) (by unfold Go.maxLen; omega) (-1:Int) (fun i (e:List Int)=>((r.2.1.length:Int),i,0,0,[],0,[],0,[],[],[],o,o.length,l,l.length,w,[],e)) (fun e=>some ((0,o,l,w,[],e,()),0,())) [] (fun k i e hi hI=>by
    simp only [zd5]
    rw [ltT hi,zaR,zd8 (by simp at hI ⊢; omega)]
    rfl) (fun k e=>by
    simp only [zd5]
    rw [ltF]
    simp only [decide_true]
    rfl)
  exact this
theorem zHM (q:zg):(q.1,q.2.1,q.2.2.1,q.2.2.2.1,q.2.2.2.2.1,q.2.2.2.2.2.1,q.2.2.2.2.2.2.1,q.2.2.2.2.2.2.2.1,q.2.2.2.2.2.2.2.2.1,()) = q:=rfl
theorem zuv {r:zd} (hr:z7 r):zf8 (r,()) = some (bif qk r then (ze3 r,0,()) else ((0,[],[],[],[],[],()),1,())):=by
  simp only [zf8,zjv,zd9 r hr,Option.bind_some]
  cases hb:qk r with
  | false=>rfl
  | true =>
    have ok:=jE hb
    have ha:=ok.accounts
    have hl:=ok.labels
    have hq:=ok.quotas
    have h24:0 ≤ r.2.2.2.2.2.1 ∧ r.2.2.2.2.2.1 ≤ 24:=by
      simp only [qk,ztg,qf,Bool.and_eq_true,decide_eq_true_eq] at hb
      omega
    have hlim:((lim:Nat):Int) = 4294967296:=rfl
    rw [zGq hr hb]
    simp only [Option.bind_some,cond_true]
    rw [hlim,decide_eq_true h24.1,decide_eq_true (Int.le_refl _),decide_eq_true (p:=r.2.2.2.2.2.1 ≤ 4294967296) (by omega)]
    simp only [cond_true]
    have hall:=zx0 hb
    have hloop:=zaw (B:=fun k0=>zbw (zd6 K0) k0) (l:=r.2.2.2.2.1) (α:=List zg) jS (fun i o=>o.length = i)
      (fun i o=>(r.2.2.2.2.1,(r.2.2.2.2.1.length:Int),i,r,0,0,[],0,[],0,[],[],[],o,o.length,r.2.2.2.1.map (znu r),(r.2.2.2.1.map (znu r)).length,List.replicate r.2.2.2.2.2.1.toNat qp,[],[]))
      (fun rest o=>bif decide (0 < (o ++ rest.map (zal r)).length) && decide (0 < ((o ++ rest.map (zal r)).getD 0 zf).1.length) then some ((0,(o ++ rest.map (zal r)).set 0 (zze ((o ++ rest.map (zal r)).getD 0 zf)),r.2.2.2.1.map (znu r),List.replicate r.2.2.2.2.2.1.toNat qp,[],List.replicate r.2.1.length (-1),()),0,()) else none)
      (by unfold Go.maxLen; omega) (fun k i x rest o hi hI hx hm hr' hk=>by
        have hx':List.getD r.2.2.2.2.1 i (ze zcS) = x:=hx
        simp only [zbw]
        rw [ltT hi,zE hi,qe,hx,zAY (hall x hm) ha.2]
        simp only [Option.bind_some,cond_true]
        rw [zHM,zd8 (by simp; omega)]
        simp only [cond_true,decide_true]
        have:=hk (o ++ [zal r x]) (by rw [List.length_append,hI]; rfl)
        rw [List.length_append] at this
        refine Eq.trans this ?_
        rw [List.append_assoc]; rfl) (fun k o hI=>by
        have e0:o ++ List.map (zal r) [] = o:=by simp
        rw [e0]
        simp only [zbw]
        rw [ltF,cond_false]
        by_cases h0:0 < o.length
        · have e1:decide (0 < ((List.length o:Nat):Int)) = true:=decide_eq_true (by omega)
          have e2:decide (o.length ≤ Int.toNat 0) = false:=decide_eq_false (by show ¬ o.length ≤ 0; omega)
          rw [e1,e2,decide_eq_true h0,zIi]
          simp only [cond_true,cond_false,Bool.true_and]
          by_cases h1:0 < (o.getD 0 zf).1.length
          · have e3:decide (0 < ((List.length (o.getD 0 zf).1:Nat):Int)) = true:=decide_eq_true (by omega)
            rw [e3,decide_eq_true h1]
            simp only [cond_true]
            have:=zJW (r:=r) ok (o.set 0 (zze (o.getD 0 zf))) (r.2.2.2.1.map (znu r)) (List.replicate r.2.2.2.2.2.1.toNat qp)
            rw [List.length_set] at this
            exact this
          · have e3:decide (0 < ((List.length (o.getD 0 zf).1:Nat):Int)) = false:=decide_eq_false (by omega)
            rw [e3,decide_eq_false h1]; rfl
        · have e1:decide (0 < ((List.length o:Nat):Int)) = false:=decide_eq_false (by omega)
          rw [e1,decide_eq_false h0]; rfl) [] rfl
    refine Eq.trans hloop ?_
    have hrm:=zJV hb
    have hpos:0 < r.2.2.2.2.1.length:=by omega
    have hget:(r.2.2.2.2.1.map (zal r)).getD 0 zf = zal r (r.2.2.2.2.1.getD 0 jS):=by
      cases hl:r.2.2.2.2.1 with
      | nil=>rw [hl] at hpos; simp at hpos
      | cons q l=>rfl
    rw [List.nil_append,decide_eq_true (by rw [List.length_map]; exact hpos),decide_eq_true (p:=0 < ((r.2.2.2.2.1.map (zal r)).getD 0 zf).1.length) (by rw [hget]; show 0 < (List.replicate _ ztd).length; rw [List.length_replicate]; omega)]
    rfl
end Go.Proofs.YtejbgeokcpillaaGreatDoor
end
section
namespace Go.Proofs.YtejbgeokcpillaaGreatDoor
open Go.Ev
theorem zEG {a b:zg} (h:zxS a):vV (a,b,()) = some (vx a b,()):=by
  rw [zP]
  simp only [vV]
  rw [zCJ h.rooms,zCK h.exits,zCL h.items,zCM h.mails,zAF h.trades,zF1 h.purses,zEp h.places]
  simp only [Option.bind_some,vx]
  grind
theorem ztV {a b:List zg} (hl:a.length ≤ Go.maxLen) (h:∀ x ∈ a,zxS x):zdK (a,b,some vV,()) = some (eqW vx a b,()):=zns (p:=vx) fun hab=>by
  have:=zpY (B:=jZ) zf vx (fun i=>(b,some vV,a,(a.length:Int),i)) hl hab (fun k i hi=>by
    simp only [jZ]
    rw [ltT hi,zE hi,zE (by omega),qe,qe]
    simp only [cond_true,Option.bind_some]
    rw [zEG (h _ (z9 hi))]; rfl) (fin:=true) (fun k=>by simp only [jZ]; rw [ltF]; rfl)
  rw [Bool.and_true] at this; exact this
theorem zvQ {a b:List (List Int)} (hl:a.length ≤ Go.maxLen) (h:∀ x ∈ a,x.length ≤ Go.maxLen):zep (a,b,some zaI,()) = some (eqW (eqL tI) a b,()):=zns (p:=eqL tI) fun hab=>by
  have:=zpY (B:=vp) ([]:List Int) (eqL tI) (fun i=>(b,some zaI,a,(a.length:Int),i)) hl hab (fun k i hi=>by
    simp only [vp]
    rw [ltT hi,zE hi,zE (by omega),Int.toNat_natCast]
    simp only [cond_true,Option.bind_some]
    rw [zuo (h _ (z9 hi))]; rfl) (fin:=true) (fun k=>by simp only [vp]; rw [ltF]; rfl)
  rw [Bool.and_true] at this; exact this
theorem zDB {a b:zb} (h:zJJ a):zhX (a,b,()) = some (zgt a b,()):=by
  rw [zP]
  simp only [zhX]
  rw [ztV h.shelves h.shelf,zvQ h.ranks h.rank,zAD h.orders,zAE h.entries,zuo h.seats]
  simp only [Option.bind_some,zgt]
  generalize eqW vx a.2.1 b.2.1 = c1
  generalize eqW (eqL tI) a.2.2.1 b.2.2.1 = c2
  generalize eqL zo a.2.2.2.1 b.2.2.2.1 = c3
  generalize eqL zw a.2.2.2.2.1 b.2.2.2.2.1 = c4
  generalize eqL tI a.2.2.2.2.2.1 b.2.2.2.2.2.1 = c5
  generalize (a.1 == b.1) = c6
  grind
def zgw {α:Type} (d:α) (p:Nat→Bool) (now fresh:List α) (i:Nat):α:=bif p i then now.getD i d else fresh.getD i d
def qn {α:Type} (d:α) (p:Nat→Bool) (now fresh:List α):List α:=(List.range now.length).map (zgw d p now fresh)
theorem zp3 {α:Type} {f:Nat→α} {i:Nat} {o:List α} (h:o = (List.range i).map f):o ++ [f i] = (List.range (i + 1)).map f:=by
  rw [List.range_succ,List.map_append,h]; rfl
theorem zzf {now fresh:List zg} {g:Int × Unit→Option (Bool × Unit)} {p:Nat→Bool} (hl:now.length ≤ 1000) (hf:now.length ≤ fresh.length) (hg:∀ i:Nat,i < now.length→g ((i:Int),()) = some (p i,())):zen (now,fresh,some g,()) = some (qn zf p now fresh,()) :=
  ve (α:=List zg) (B:=vn) (len:=now.length) (by unfold Go.maxLen; omega) (fun i o=>(now,fresh,some g,(now.length:Int),i,o,0)) (fun _ _=>some (qn zf p now fresh,())) (fun i o=>o = (List.range i).map (zgw zf p now fresh)) (fun k i o hi hI hk=>by
    have hx:=zp3 hI
    have hlen:o.length = i:=by rw [hI]; simp
    have hk':=hk _ hx
    simp only [vn]
    rw [ltT hi]
    simp only [cond_true,Option.bind_some]
    rw [hg i hi]
    simp only [Option.bind_some]
    unfold zgw at hk'
    cases hp:p i with
    | true =>
      rw [hp] at hk'
      simp only [cond_true] at hk' ⊢
      rw [zE hi,zaR,zd8 (by simp; omega),qe]
      exact hk'
    | false =>
      rw [hp] at hk'
      simp only [cond_false] at hk' ⊢
      rw [zE (by omega),zaR,zd8 (by simp; omega),qe]
      exact hk') (fun k o hI=>by
    simp only [vn]
    rw [ltF]
    simp only [cond_false]
    rw [hI]; rfl) [] rfl
theorem zAZ {now fresh:List (List Int)} {g:Int × Unit→Option (Bool × Unit)} {p:Nat→Bool} (hl:now.length ≤ 1000) (hf:now.length ≤ fresh.length) (hg:∀ i:Nat,i < now.length→g ((i:Int),()) = some (p i,())):zeQ (now,fresh,some g,()) = some (qn [] p now fresh,()) :=
  ve (α:=List (List Int)) (B:=vL) (len:=now.length) (by unfold Go.maxLen; omega) (fun i o=>(now,fresh,some g,(now.length:Int),i,o,0)) (fun _ _=>some (qn [] p now fresh,())) (fun i o=>o = (List.range i).map (zgw [] p now fresh)) (fun k i o hi hI hk=>by
    have hx:=zp3 hI
    have hlen:o.length = i:=by rw [hI]; simp
    have hk':=hk _ hx
    simp only [vL]
    rw [ltT hi]
    simp only [cond_true,Option.bind_some]
    rw [hg i hi]
    simp only [Option.bind_some]
    unfold zgw at hk'
    cases hp:p i with
    | true =>
      rw [hp] at hk'
      simp only [cond_true] at hk' ⊢
      rw [zE hi,zaR,zd8 (by simp; omega),Int.toNat_natCast]
      exact hk'
    | false =>
      rw [hp] at hk'
      simp only [cond_false] at hk' ⊢
      rw [zE (by omega),zaR,zd8 (by simp; omega),Int.toNat_natCast]
      exact hk') (fun k o hI=>by
    simp only [vL]
    rw [ltF]
    simp only [cond_false]
    rw [hI]; rfl) [] rfl
theorem zDC {now fresh:List Int} {g:Int × Unit→Option (Bool × Unit)} {p:Nat→Bool} (hl:now.length ≤ 1000) (hf:now.length ≤ fresh.length) (hg:∀ i:Nat,i < now.length→g ((i:Int),()) = some (p i,())):zfF (now,fresh,some g,()) = some (qn 0 p now fresh,()) :=
  ve (α:=List Int) (B:=yn) (len:=now.length) (by unfold Go.maxLen; omega) (fun i o=>(now,fresh,some g,(now.length:Int),i,o)) (fun _ _=>some (qn 0 p now fresh,())) (fun i o=>o = (List.range i).map (zgw 0 p now fresh)) (fun k i o hi hI hk=>by
    have hx:=zp3 hI
    have hlen:o.length = i:=by rw [hI]; simp
    have hk':=hk _ hx
    simp only [yn]
    rw [ltT hi]
    simp only [cond_true,Option.bind_some]
    rw [hg i hi]
    simp only [Option.bind_some]
    unfold zgw at hk'
    cases hp:p i with
    | true =>
      rw [hp] at hk'
      simp only [cond_true] at hk' ⊢
      rw [zE hi,zaR,zd8 (by simp; omega),qe]
      exact hk'
    | false =>
      rw [hp] at hk'
      simp only [cond_false] at hk' ⊢
      rw [zE (by omega),zaR,zd8 (by simp; omega),qe]
      exact hk') (fun k o hI=>by
    simp only [yn]
    rw [ltF]
    simp only [cond_false]
    rw [hI]; rfl) [] rfl
theorem zGr {α:Type} {d:α} {p:Nat→Bool} {now fresh:List α} {i:Nat} {x:α} (h:p i = false):qn d p (List.set now i x) fresh = qn d p now fresh:=by
  unfold qn
  rw [List.length_set]
  refine List.map_congr_left fun j hj=>?_
  unfold zgw
  by_cases e:i = j
  · subst e; rw [h]; rfl
  · rw [getD_set_ne e]
theorem zcj {α:Type} {d:α} {p:Nat→Bool} {now fresh:List α}:(qn d p now fresh).length = now.length:=by
  unfold qn; simp
end Go.Proofs.YtejbgeokcpillaaGreatDoor
end
section
namespace Go.Proofs.YtejbgeokcpillaaGreatDoor
open Go.Ev
theorem zIA {b:Int} (h:vR b = true):zea (zpQ b):=by
  simp only [vR,Bool.and_eq_true,decide_eq_true_eq] at h
  have h1:b.toNat < 64:=by omega
  have h2:2 ^ b.toNat < 2 ^ 64:=Nat.pow_lt_pow_right (by omega) h1
  have h3:(2:Nat) ^ 64 = 18446744073709551616:=by decide
  show 0 ≤ ((2 ^ b.toNat:Nat):Int) ∧ ((2 ^ b.toNat:Nat):Int) < ((18446744073709551616:Nat):Int)
  rw [h3] at h2
  exact ⟨Int.natCast_nonneg _,Int.ofNat_lt.2 h2⟩
def zp4 (b:Int):zA:=bif vR b then zpQ b else (0,0,())
theorem zGs (b:Int):zea (zp4 b):=by
  unfold zp4
  cases h:vR b with
  | true=>exact zIA h
  | false=>exact ⟨Int.le_refl 0,show (0:Int) < U64 by unfold U64; decide⟩
theorem zDD {r:zd} {a:zA} (hr:z7 r) (ha:zea a) {i:Nat} (hi:i < r.1.length):zbs ((i:Int),some r,some a,()) = some (zbb (r.1.getD i qK) a,()):=by
  rw [zP]
  simp only [zbs,Option.bind_some]
  rw [zE hi,qe,zf9 (hr.labels _ (z9 hi)) ha]
  rfl
theorem zIB {r:zd} {a:zA} (ha:zea a) {i:Nat} (hi:i < r.2.2.2.1.length):zgk ((i:Int),some r,some a,()) = some (zbb (zp4 (r.2.2.2.1.getD i qE).1) a,()):=by
  rw [zP]
  simp only [zgk,Option.bind_some]
  rw [zE hi,qe,zsK]
  simp only [Option.bind_some]
  have e:(bif vR (r.2.2.2.1.getD i qE).1 then (zpQ (r.2.2.2.1.getD i qE).1,(0:Int),()) else ((0,0,()),1,())).1 = zp4 (r.2.2.2.1.getD i qE).1:=by
    unfold zp4
    cases vR (r.2.2.2.1.getD i qE).1 <;> rfl
  rw [e,zf9 (zGs _) ha]
  rfl
def zmj (r:zd) (i:Nat):Int:=r.2.1.getD i 0
theorem zJg {r:zd} (hb:qk r = true) {i:Nat} (hi:i < r.2.1.length):0 ≤ zmj r i ∧ zmj r i < (r.1.length:Int):=by
  simp only [qk,zl9,Bool.and_eq_true,decide_eq_true_eq,List.all_eq_true] at hb
  exact hb.2.1.2 _ (z9 (d:=(0:Int)) hi)
theorem zIC {r:zd} {a:zA} (hr:z7 r) (hb:qk r = true) (ha:zea a) {i:Nat} (hi:i < r.2.1.length):zgj ((i:Int),some (some fun z=>zbs (z.1,some r,some a,())),some r,()) = some (zbb (r.1.getD (zmj r i).toNat qK) a,()):=by
  have hl:=zJg hb hi
  rw [zP]
  simp only [zgj,Option.bind_some]
  rw [zE hi,qe]
  have e:r.2.1.getD i 0 = (((zmj r i).toNat:Nat):Int):=by
    show zmj r i = _
    omega
  rw [e,zDD hr ha (by omega)]
  rfl
def vA (r:zd) (a:zA) (s:zb):zb:=(s.1,qn zf (fun i=>zbb (r.1.getD i qK) a) s.2.1 (ze3 r).2.1,qn [] (fun i=>zbb (zp4 (r.2.2.2.1.getD i qE).1) a) s.2.2.1 (ze3 r).2.2.1,s.2.2.2.1,s.2.2.2.2.1,qn 0 (fun i=>zbb (r.1.getD (zmj r i).toNat qK) a) s.2.2.2.2.2.1 (ze3 r).2.2.2.2.2.1,())
theorem zkZ {α:Type} {d:α} {p:Nat→Bool} {now fresh:List α} (hf:now.length ≤ fresh.length) {x:α} (h:x ∈ qn d p now fresh):x ∈ now ∨ x ∈ fresh:=by
  unfold qn at h
  obtain ⟨i,hi,rfl⟩:=List.mem_map.1 h
  have hi':=List.mem_range.1 hi
  unfold zgw
  cases p i with
  | true=>exact .inl (z9 hi')
  | false=>exact .inr (z9 (by omega))
theorem zDE {r:zd} (hb:qk r = true):zsO (ze3 r):=by
  have ok:=jE hb
  have ha:=ok.accounts
  have hg:=ok.guilds
  have hl:=ok.lines
  have ho:=ok.labels
  have hq:=ok.quotas
  have h24:0 ≤ r.2.2.2.2.2.1 ∧ r.2.2.2.2.2.1 ≤ 24:=by
    simp only [qk,ztg,qf,Bool.and_eq_true,decide_eq_true_eq] at hb
    omega
  have hsh:∀ q ∈ r.2.2.2.2.1,zxT (zal r q):=fun q hq=>by
    have h:=zDA (zx0 hb q hq)
    refine ⟨?_,?_,?_,?_,?_,?_,?_⟩ <;> (show (List.replicate _ _).length ≤ _; rw [List.length_replicate]; omega)
  refine ⟨by show (List.set _ _ _).length ≤ _; rw [List.length_set,List.length_map]; omega,by show (List.map _ _).length ≤ _; rw [List.length_map]; omega,by show (List.replicate _ _).length ≤ _; rw [List.length_replicate]; omega,Nat.zero_le _,by show (List.replicate _ _).length ≤ _; rw [List.length_replicate]; omega,fun x hx=>?_,fun l hl=>?_⟩
  · rcases List.mem_or_eq_of_mem_set hx with hx | rfl
    · obtain ⟨q,hq,rfl⟩:=List.mem_map.1 hx
      exact hsh q hq
    · have h0:zxT ((r.2.2.2.2.1.map (zal r)).getD 0 zf):=by
        have hm:(r.2.2.2.2.1.map (zal r)).getD 0 zf ∈ r.2.2.2.2.1.map (zal r):=z9 (by rw [List.length_map]; omega)
        obtain ⟨q,hq,e⟩:=List.mem_map.1 hm
        rw [← e]; exact hsh q hq
      exact ⟨by show (List.set _ _ _).length ≤ _; rw [List.length_set]; exact h0.rooms,h0.exits,h0.items,h0.mails,h0.trades,h0.purses,h0.places⟩
  · obtain ⟨g,hg,rfl⟩:=List.mem_map.1 hl
    show (List.set _ _ _).length ≤ _
    rw [List.length_set,List.length_replicate]; omega
theorem zuw {r:zd} {s:zb} {a:zA} (hr:z7 r) (h:z4 r s = true) (ha:zea a) (la:zdh a = true):zcy (r,s,a,()) = some (vA r a s,0,()):=by
  obtain ⟨hb,hz,hp⟩:=jf h
  have ok:=jE hb
  have sz:=zaE hb hz
  have hf:=ztn h
  have hn:=zDE hb
  have h1:=sz.shelves
  have h2:s.2.2.1.length = r.2.2.2.1.length:=by
    have hh:zil r s.2.2.1 = true:=by simp only [zef,Bool.and_eq_true] at hp; exact hp.1
    exact (zvL hh).1
  have h3:=sz.people
  have hlab:=ok.labels
  have hgui:=ok.guilds
  have hlin:=ok.lines
  have hq:=ok.quotas
  have f1:(ze3 r).2.1.length = r.1.length:=by show (List.set _ _ _).length = _; rw [List.length_set,List.length_map]; exact hq
  have f2:(ze3 r).2.2.1.length = r.2.2.2.1.length:=List.length_map ..
  have f3:(ze3 r).2.2.2.2.2.1.length = r.2.1.length:=List.length_replicate ..
  have hfit:zjn (r,s,()) = some (true,()):=by
    simp only [zjn]
    rw [h1,h2,h3]
    simp
  have hv:zsO (vA r a s):=by
    refine ⟨?_,?_,hf.orders,hf.entries,?_,fun x hx=>?_,fun l hl=>?_⟩
    · show (qn _ _ _ _).length ≤ _; rw [zcj]; exact hf.shelves
    · show (qn _ _ _ _).length ≤ _; rw [zcj]; exact hf.ranks
    · show (qn _ _ _ _).length ≤ _; rw [zcj]; exact hf.seats
    · rcases zkZ (by omega) hx with hx | hx
      · exact hf.shelf x hx
      · exact hn.shelf x hx
    · rcases zkZ (by omega) hl with hl | hl
      · exact hf.rank l hl
      · exact hn.rank l hl
  simp only [zcy]
  refine (bnd (zuv hr)).trans ?_
  rw [hb]
  refine (cF rfl).trans ?_
  refine (bnd (zkk a)).trans ?_
  refine (cT la).trans ?_
  refine (bnd hfit).trans ?_
  refine (cT rfl).trans ?_
  refine (bnd (zzf (by omega) (by show s.2.1.length ≤ (ze3 r).2.1.length; omega) fun i hi=>zDD hr ha (by omega))).trans ?_
  refine (bnd (zAZ (by omega) (by show s.2.2.1.length ≤ (ze3 r).2.2.1.length; omega) fun i hi=>zIB ha (by omega))).trans ?_
  refine (bnd (zDC (by omega) (by show s.2.2.2.2.2.1.length ≤ (ze3 r).2.2.2.2.2.1.length; omega) fun i hi=>zIC hr hb ha (by omega))).trans ?_
  refine (bnd (zgu hv)).trans ?_
  rfl
theorem zux {r:zd} {s t:zb} {a:zA} (hr:z7 r) (h:z4 r s = true) (h':z4 r t = true) (ha:zea a) (la:zdh a = true) (hf:zsO (vA r a s)):zcz (r,s,t,a,()) = some (zgt (vA r a s) (vA r a t),()):=by
  rw [zP]
  simp only [zcz]
  refine (bnd (zuw hr h ha la)).trans ?_
  refine (bnd (zuw hr h' ha la)).trans ?_
  refine (cT rfl).trans ?_
  refine (cT rfl).trans ?_
  refine (bnd (zDB (zHD hf))).trans ?_
  rfl
end Go.Proofs.YtejbgeokcpillaaGreatDoor
end
section
namespace Go.Proofs.YtejbgeokcpillaaGreatDoor
open Go.Ev
theorem zJM {s:zb} (hs:qB s) {i:Int} {h:zg} (hh:zk8 h):qB (upd s i h):=by
  refine ⟨fun x hx=>?_,hs.orders,hs.entries⟩
  rcases List.mem_or_eq_of_mem_set hx with hx | rfl
  · exact hs.shelves x hx
  · exact hh
theorem zGt {a b c:zA} (h1:zbb a b = true) (h2:zbb b c = true):zbb a c = true:=by
  simp only [zbb,Bool.and_eq_true,decide_eq_true_eq,List.all_eq_true,Bool.or_eq_true,Bool.not_eq_true'] at h1 h2 ⊢
  refine ⟨by omega,fun i hi=>?_⟩
  rcases h1.2 i hi with h | h
  · exact .inl h
  · rcases h2.2 i hi with h' | h'
    · rw [h] at h'; cases h'
    · exact .inr h'
theorem zID {r:zd} {s:zb} {a:zA} {i:Int} {h:zg} (hi:zbb (r.1.getD i.toNat qK) a = false):vA r a (upd s i h) = vA r a s:=by
  have e:qn zf (fun i=>zbb (r.1.getD i qK) a) (List.set s.2.1 i.toNat h) (ze3 r).2.1 = qn zf (fun i=>zbb (r.1.getD i qK) a) s.2.1 (ze3 r).2.1:=zGr hi
  exact congrArg (fun l=>(s.1,l,qn [] (fun i=>zbb (zp4 (r.2.2.2.1.getD i qE).1) a) s.2.2.1 (ze3 r).2.2.1,s.2.2.2.1,s.2.2.2.2.1,qn 0 (fun i=>zbb (r.1.getD (zmj r i).toNat qK) a) s.2.2.2.2.2.1 (ze3 r).2.2.2.2.2.1,())) e
structure zsT (r:zd) (s:zb) (me:pMe) (jz:Int) (t:zb):Prop where
  right:z4 r t = true
  inn:qB t
  cnt:zvP t = zvP s + jz
  view:∀ a,zbb (r.1.getD me.2.1.toNat qK) a = false→vA r a t = vA r a s
theorem zvR {r:zd} {s:zb} {me:pMe} (x:Ctx r s me) (hs:qB s) {k:Nat} {y:zi} (hk:k < (zz s me).length) (hold:(((zz s me).getD k zO).2.2.1:Int) ≠ 3) (hnew:(y.2.2.1:Int) ≠ 3) (h1:qu y = true) (h2:yV r s me.2.1 y = true) (h3:zft r y = true):zsT r s me (vz y - vz ((zz s me).getD k zO)) (zbo s me.2.1 (List.set (zz s me) k y)):=by
  have hi:=x.hi
  have e:(me.2.1.toNat:Int) = me.2.1:=by omega
  have a:=hs.shelves _ (zsP hi)
  refine ⟨zEF x.rs hi (zHL (zHI x.rs hi) hk hold hnew h1 (by rw [e]; exact h2) h3),zJM hs ⟨a.trades,a.purses,a.made,a.spent⟩,?_,fun l hl=>zID hl⟩
  have h9:zvP (zbo s me.2.1 (List.set (zz s me) k y)) = zvP s - vz ((zz s me).getD k zO) + vz y:=zJf hi hk
  omega
theorem zE4 {x:zi} {f:qx} (h:eqI qa (ofV x) f = true):(x.2.2.1:Int) = f.1:=by
  rw [zxW] at h
  simp only [Bool.and_eq_true,beq_iff_eq] at h
  exact h.1
theorem zE5 {l:List zi} {i:Int} (h:zit l i = true):(l.getD i.toNat zO).1 = true:=by
  simp only [zit,Bool.and_eq_true] at h; exact h.2
theorem zJX {x:zi} {g:qx} (h:qu x = true) (hu:x.1 = true) (hg:hOk g = true):qu (toV x g) = true:=by
  unfold qu at h
  rw [hu,cond_true] at h
  simp only [Bool.and_eq_true] at h
  show (bif x.1 then zfr x.2.1 && zgR g.1 g.2.1 g.2.2.1 else _) = true
  rw [hu,cond_true,h.1]; exact hg
theorem zsU {r:zd} {s:zb} {me:pMe} (x:Ctx r s me) (hs:qB s) {i:Int} {f g:qx} (h:((j7 (zz s me) i f g).2.1 != 0) = false) (hf:(f.1:Int) ≠ 3) (hg:(g.1:Int) ≠ 3) (hb:∀ z:zi,yV r s me.2.1 (toV z g) = true) (hw:∀ z:zi,zft r (toV z g) = true):zsT r s me 0 (zbo s me.2.1 (j7 (zz s me) i f g).1):=by
  obtain ⟨ha,h1,h2,h3,h4,h5⟩:=zy8 h
  rw [h5]
  have hi:=zto h3
  have hu:=zE5 h3
  have hk:=zE4 h4
  have hok:=zy9 ha hi
  have hk':(((zz s me).getD i.toNat zO).2.2.1:Int) = f.1:=hk
  have:=zvR x hs (k:=i.toNat) (y:=toV (ix zO (zz s me) i) g) (by omega) (by rw [hk']; exact hf) hg (zJX hok hu h2) (hb _) (hw _)
  have e:vz (toV (ix zO (zz s me) i) g) - vz ((zz s me).getD i.toNat zO) = 0:=by
    have e1:vz (toV (ix zO (zz s me) i) g) = vz ((zz s me).getD i.toNat zO):=rfl
    omega
  rw [e] at this
  exact this
theorem zGu {r:zd} {s:zb} {me:pMe} (x:Ctx r s me) (hs:qB s) {i:Int} (h:((zj1 (zz s me) i me.2.2.1).2.1 != 0) = false):zsT r s me (-1) (zbo s me.2.1 (zj1 (zz s me) i me.2.2.1).1):=by
  unfold zj1 at h ⊢
  cases hm:(j7 (zz s me) i (inH me.2.2.1) (inH me.2.2.1)).2.1 != 0 with
  | true=>rw [hm] at h; exact absurd (show (true = false) from hm.symm.trans h) (by decide)
  | false =>
    obtain ⟨ha,h1,h2,h3,h4,h5⟩:=zy8 hm
    have hi:=zto h3
    have hu:=zE5 h3
    have hk':(((zz s me).getD i.toNat zO).2.2.1:Int) = 1:=zE4 h4
    have:=zvR x hs (k:=i.toNat) (y:=ze zl) (by omega) (by rw [hk']; decide) (by decide) (by unfold qu; exact zlf (τ:=zl) rfl (ze zl)) rfl rfl
    have e:vz (ze zl) - vz ((zz s me).getD i.toNat zO) = -1:=by
      have e1:vz (ze zl) = 0:=rfl
      have e2:vz ((zz s me).getD i.toNat zO) = 1:=by unfold vz; rw [hu]; rfl
      omega
    rw [e] at this
    exact this
theorem zDF {α:Type} {p:α→Bool} (d:α):∀ (l:List α) (i:Int),0 ≤ i→¬ qR p l i < 0→p (l.getD (qR p l i - i).toNat d) = true
  | [],i,h,hn=>absurd (show qR p [] i < 0 from (by decide:(-1:Int) < 0)) hn
  | x :: l,i,h,hn=>by
    simp only [qR] at hn ⊢
    cases hp:p x with
    | true =>
      rw [hp] at hn
      simp only [cond_true]
      rw [show (i - i).toNat = 0 by omega]; exact hp
    | false =>
      rw [hp] at hn
      simp only [cond_false] at hn ⊢
      have h1:=zDF (p:=p) d l (i + 1) (by omega) hn
      have h2:=zy7 (p:=p) l (i + 1) (by omega)
      have h3:(qR p l (i + 1) - i).toNat = (qR p l (i + 1) - (i + 1)).toNat + 1:=by
        rcases h2 with h2 | h2 <;> omega
      rw [h3]; exact h1
theorem zHN {r:zd} {s:zb} {me:pMe} (x:Ctx r s me) (hs:qB s) {nm:ByteArray} (h:((zbk (zz s me) nm me.2.2.1).2.2.1 != 0) = false):zsT r s me 1 (zbo s me.2.1 (zbk (zz s me) nm me.2.2.1).1):=by
  have hb:=(jf x.rs).1
  have hn:=zza hb x.who
  unfold zbk at h ⊢
  rw [x.slots,hn] at h ⊢
  cases hnm:zfr nm with
  | false=>rw [hnm] at h; cases h
  | true =>
    rw [hnm] at h
    simp only [cond_true] at h ⊢
    unfold zDo at h ⊢
    by_cases h0:yf (zz s me) < 0
    · rw [decide_eq_true h0] at h; cases h
    · rw [decide_eq_false h0]
      have hi:=zE3 h0
      have hfree:((zz s me).getD (yf (zz s me)).toNat zO).1 = false:=by
        have:=zDF (p:=fun z:zi=>!z.1) zO (zz s me) 0 (Int.le_refl 0) h0
        have e:(qR (fun z:zi=>!z.1) (zz s me) 0 - 0).toNat = (yf (zz s me)).toNat:=by unfold yf; omega
        rw [e] at this
        simpa using this
      have hk0:(((zz s me).getD (yf (zz s me)).toNat zO).2.2.1:Int) = 0:=zHy (zy9 x.slots hi) hfree
      have hok:qu (zDs nm me.2.2.1) = true:=by
        show (zfr nm && zgR 1 me.2.2.1 (0,0,())) = true
        rw [hnm]
        exact (zp0 me.2.2.1).trans hn
      have:=zvR x hs (k:=(yf (zz s me)).toNat) (y:=zDs nm me.2.2.1) (by omega) (by rw [hk0]; decide) (show (1:Int) ≠ 3 by decide) hok rfl (by
        show ((1:Int) != 1 || vT r me.2.2.1) = true
        rw [x.who]; rfl)
      have e:vz (zDs nm me.2.2.1) - vz ((zz s me).getD (yf (zz s me)).toNat zO) = 1:=by
        have e1:vz (zDs nm me.2.2.1) = 1:=rfl
        have e2:vz ((zz s me).getD (yf (zz s me)).toNat zO) = 0:=by unfold vz; rw [hfree]; rfl
        omega
      rw [e] at this
      exact this
theorem zDG {r:zd} {w:Int} (hw:vT r w = true) (z:zi):zft r (toV z (inH w)) = true:=by
  show ((1:Int) != 1 || vT r w) = true
  rw [hw]; rfl
theorem zEH {r:zd} {s:zb} {me:pMe} (x:Ctx r s me):zeb r s me.2.1 (qF s me) = true:=by
  have h:=x.rs
  have hi:=x.hi
  have hp:=x.place x.who
  simp only [z4,Bool.and_eq_true,jl] at h
  have h1:=(h.2.2.2.1 me.2.1.toNat (Nat.zero_le _) (by omega)).1.2
  simp only [zir,ziq,Bool.and_eq_true] at h1
  have e:(me.2.1.toNat:Int) = me.2.1:=by omega
  have h2:=List.all_eq_true.1 h1.1.2.2 (qF s me) (z9 (by
    have h3:me.2.2.1.toNat < (ix zf s.2.1 me.2.1).2.2.2.2.2.2.1.length:=by omega
    exact h3))
  rw [e] at h2
  exact h2
def zHO (k:Int):Int:=bif k == 1 then 1 else bif k == 2 then -1 else 0
theorem zDH {r:zd} {s:zb} {me:pMe} (x:Ctx r s me) (hs:qB s) (k i w:Int) (nm:ByteArray):(∃ e:Int,(e != 0) = true ∧ zmi r s me k i w nm = (zsQ,0,e,())) ∨ ((zmi r s me k i w nm).2.2.1 = 0 ∧ zsT r s me (zHO k) (zmi r s me k i w nm).1):=by
  unfold zmi zHO
  rw [x.rs,x.im]
  cases h1:k == 1 with
  | true =>
    simp only [Bool.and_true,cond_true]
    unfold ztp
    cases he:(zbk (zz s me) nm me.2.2.1).2.2.1 != 0 with
    | true=>exact .inl ⟨_,he,rfl⟩
    | false=>exact .inr ⟨rfl,zHN x hs he⟩
  | false =>
    simp only [Bool.and_true,cond_true,cond_false]
    have go:∀ (m:Int) (v:List zi × Int × Unit),((v.2.1 != 0) = false→zsT r s me m (zbo s me.2.1 v.1))→(∃ e:Int,(e != 0) = true ∧ zBd (zfv s me v) = (zsQ,0,e,())) ∨ ((zBd (zfv s me v)).2.2.1 = 0 ∧ zsT r s me m (zBd (zfv s me v)).1):=fun m v hv=>by
      unfold zfv
      cases he:v.2.1 != 0 with
      | true=>exact .inl ⟨_,he,rfl⟩
      | false=>exact .inr ⟨rfl,hv he⟩
    unfold zvN
    cases h2:k == 2 with
    | true=>exact go _ _ fun he=>zGu x hs he
    | false =>
      cases h3:k == 3 with
      | true =>
        exact go _ _ fun he=>zsU x hs he (show (1:Int) ≠ 3 by decide) (show (2:Int) ≠ 3 by decide) (fun z=>by
          show ((2:Int) != 2 || zeb r s me.2.1 (qF s me)) = true
          rw [zEH x]; rfl) fun z=>rfl
      | false =>
        cases h4:k == 4 with
        | true=>exact go _ _ fun he=>zsU x hs he (show (2:Int) ≠ 3 by decide) (show (1:Int) ≠ 3 by decide) (fun z=>rfl) (zDG x.who)
        | false =>
          refine go _ _ fun he=>?_
          show zsT r s me 0 (zbo s me.2.1 (znt r s me i w).1)
          have he':((znt r s me i w).2.1 != 0) = false:=he
          unfold znt at he' ⊢
          cases hw:vT r w && w != me.2.2.1 with
          | false=>rw [hw] at he'; cases he'
          | true =>
            rw [hw] at he'
            simp only [cond_true] at he' ⊢
            cases hh:zk9 (zz s me) i me.2.2.1 with
            | false=>rw [hh] at he'; cases he'
            | true =>
              rw [hh] at he'
              simp only [cond_true] at he' ⊢
              cases hp:eqI zB (zjg s me.2.1 w) (qF s me) with
              | false=>rw [hp] at he'; cases he'
              | true =>
                rw [hp] at he'
                simp only [cond_true] at he' ⊢
                simp only [Bool.and_eq_true] at hw
                exact zsU x hs he' (show (1:Int) ≠ 3 by decide) (show (1:Int) ≠ 3 by decide) (fun z=>rfl) (zDG hw.1)
theorem zIE {r:zd} {s:zb} (h:z4 r s = true):s.2.1.length ≤ 8 ∧ ∀ x ∈ s.2.1,x.2.2.1.length ≤ 12:=by
  obtain ⟨hb,hz,-⟩:=jf h
  have h1:=(zaE hb hz).shelves
  have h2:=(jE hb).labels
  exact ⟨by omega,fun x hx=>((zaE hb hz).shelf x hx).2.2.1⟩
end Go.Proofs.YtejbgeokcpillaaGreatDoor
end
section
namespace Go.Proofs.YtejbgeokcpillaaGreatDoor
open Go.Ev
theorem zzL {r:zd} {s:zb} {a:zA} (h:z4 r s = true):zsO (vA r a s):=by
  obtain ⟨hb,hz,hp⟩:=jf h
  have ok:=jE hb
  have sz:=zaE hb hz
  have hf:=ztn h
  have hn:=zDE hb
  have h1:=sz.shelves
  have h2:s.2.2.1.length = r.2.2.2.1.length:=by
    have hh:zil r s.2.2.1 = true:=by simp only [zef,Bool.and_eq_true] at hp; exact hp.1
    exact (zvL hh).1
  have hq:=ok.quotas
  have f1:(ze3 r).2.1.length = r.1.length:=by show (List.set _ _ _).length = _; rw [List.length_set,List.length_map]; exact hq
  have f2:(ze3 r).2.2.1.length = r.2.2.2.1.length:=List.length_map ..
  refine ⟨?_,?_,hf.orders,hf.entries,?_,fun x hx=>?_,fun l hl=>?_⟩
  · show (qn _ _ _ _).length ≤ _; rw [zcj]; exact hf.shelves
  · show (qn _ _ _ _).length ≤ _; rw [zcj]; exact hf.ranks
  · show (qn _ _ _ _).length ≤ _; rw [zcj]; exact hf.seats
  · rcases zkZ (by omega) hx with hx | hx
    · exact hf.shelf x hx
    · exact hn.shelf x hx
  · rcases zkZ (by omega) hl with hl | hl
    · exact hf.rank l hl
    · exact hn.rank l hl
end Go.Proofs.YtejbgeokcpillaaGreatDoor
end
section
namespace Go.Proofs.YtejbgeokcpillaaGreatDoor
open Go.Ev
theorem zE6 {α:Type} {p:α→α→Bool} {a b:List α} (d:α):eqW p a b = true ↔ a.length = b.length ∧ ∀ i,i < a.length→p (a.getD i d) (b.getD i d) = true:=by
  unfold eqW
  simp only [Bool.and_eq_true,decide_eq_true_eq,List.all_eq_true]
  constructor
  · rintro ⟨h1,h2⟩
    refine ⟨h1,fun i hi=>?_⟩
    have hz:(List.zip a b).getD i (d,d) = (a.getD i d,b.getD i d):=zpu a b i hi (by omega)
    have:=h2 ((List.zip a b).getD i (d,d)) (z9 (by rw [List.length_zip]; omega))
    rw [hz] at this; exact this
  · rintro ⟨h1,h2⟩
    refine ⟨h1,fun q hq=>?_⟩
    obtain ⟨i,hi,rfl⟩:=List.mem_iff_getElem.1 hq
    rw [List.length_zip] at hi
    have:=h2 i (by omega)
    rw [List.getElem_zip]
    rw [List.getD_eq_getElem?_getD,List.getElem?_eq_getElem (by omega),List.getD_eq_getElem?_getD,List.getElem?_eq_getElem (by omega)] at this
    exact this
theorem zsV {α:Type} {p:α→α→Bool} {d:α} (q:Nat→Bool) (hp:∀ x,p x x = true) {l1 l2 f:List α}:eqW p (qn d q l1 f) (qn d q l2 f) = true ↔ l1.length = l2.length ∧ ∀ i,i < l1.length→q i = true→p (l1.getD i d) (l2.getD i d) = true:=by
  have e:∀ (l:List α) (i:Nat),i < l.length→(qn d q l f).getD i d = zgw d q l f i:=fun l i hi=>by
    unfold qn
    rw [List.getD_eq_getElem?_getD,List.getElem?_map,List.getElem?_range hi]; rfl
  rw [zE6 d,zcj,zcj]
  constructor
  · rintro ⟨hl,h⟩
    refine ⟨hl,fun i hi hq=>?_⟩
    have:=h i hi
    rw [e l1 i hi,e l2 i (by omega)] at this
    unfold zgw at this
    rw [hq] at this; exact this
  · rintro ⟨hl,h⟩
    refine ⟨hl,fun i hi=>?_⟩
    rw [e l1 i hi,e l2 i (by omega)]
    unfold zgw
    cases hq:q i with
    | true=>exact h i hi hq
    | false=>exact hp _
abbrev ztr (r:zd) (a:zA) (i:Nat):Bool:=zbb (r.1.getD i qK) a
theorem zvS {r:zd} {a:zA} {s t:zb} (h:zgt (vA r a s) (vA r a t) = true):s.2.1.length = t.2.1.length ∧ ∀ i,i < s.2.1.length→ztr r a i = true→vx (s.2.1.getD i zf) (t.2.1.getD i zf) = true:=by
  simp only [zgt,Bool.and_eq_true] at h
  exact (zsV (ztr r a) zsN).1 h.2.1
theorem zzM {r:zd} {a:zA} {s t:zb} {i:Int} {x y:zg} (h:zgt (vA r a s) (vA r a t) = true) (hxy:ztr r a i.toNat = true→vx x y = true):zgt (vA r a (upd s i x)) (vA r a (upd t i y)) = true:=by
  have h':=h
  simp only [zgt,Bool.and_eq_true] at h' ⊢
  obtain ⟨h1,h2,h3⟩:=h'
  obtain ⟨hl,hs⟩:=zvS h
  refine ⟨h1,(zsV (l1:=List.set s.2.1 i.toNat x) (l2:=List.set t.2.1 i.toNat y) (ztr r a) zsN).2 ⟨by rw [List.length_set,List.length_set]; exact hl,fun j hj hq=>?_⟩,h3⟩
  rw [List.length_set] at hj
  by_cases e:i.toNat = j
  · subst e
    rw [zjx hj,zjx (by omega)]
    exact hxy hq
  · rw [getD_set_ne e,getD_set_ne e]
    exact hs j hj hq
def eqS:Ty→Bool
  | .unit | .bool | .int _ | .str=>true
  | .pair a b=>eqS a && eqS b
  | .st a=>eqS a
  | _=>false
theorem zwi:∀ {τ:Ty},eqS τ = true→∀ x y:τ.I,eqI τ x y = true→x = y:=by
  intro τ
  induction τ with
  | unit=>intro _ _ _ _; rfl
  | bool=>intro _ x y h; exact beq_iff_eq.1 h
  | int k=>intro _ x y h; exact beq_iff_eq.1 (show ((x:Int) == y) = true from h)
  | str =>
    intro _ x y h
    have h':(x:ByteArray).toList = (y:ByteArray).toList:=beq_iff_eq.1 h
    rw [Go.ByteArray.toList_eq,Go.ByteArray.toList_eq] at h'
    exact Go.WideShapes.bytes_inj h'
  | pair a b iha ihb =>
    intro h x y e
    simp only [eqS,Bool.and_eq_true] at h
    obtain ⟨x1,x2⟩:=x
    obtain ⟨y1,y2⟩:=y
    have e':cond (eqI a x1 y1) (eqI b x2 y2) false = true:=e
    cases h1:eqI a x1 y1 with
    | false=>rw [h1] at e'; cases e'
    | true =>
      rw [h1] at e'
      rw [iha h.1 _ _ h1,ihb h.2 _ _ e']
  | st a ih=>intro h x y e; exact ih h x y e
  | _=>intro h; cases h
theorem zE7 {τ:Ty} (hs:eqS τ = true) {a b:List τ.I} (h:eqL τ a b = true):a = b:=by
  obtain ⟨h1,h2⟩:=(zE6 (ze τ)).1 h
  refine List.ext_getElem h1 fun i hi hi'=>?_
  have:=h2 i hi
  rw [List.getD_eq_getElem?_getD,List.getElem?_eq_getElem hi,List.getD_eq_getElem?_getD,List.getElem?_eq_getElem hi'] at this
  exact zwi hs _ _ this
theorem zvT {x y:zg} (h:vx x y = true):x.2.2.1 = y.2.2.1 ∧ x.2.2.2.2.2.2.1 = y.2.2.2.2.2.2.1:=by
  simp only [vx,Bool.and_eq_true] at h
  obtain ⟨-,-,h3,-,-,-,h7,-,-⟩:=h
  exact ⟨zE7 (τ:=zl) rfl h3,zE7 (τ:=zB) rfl h7⟩
theorem zHP {x y:zg} (h:vx x y = true) (l:List zi):vx (u2 x l) (u2 y l) = true:=by
  simp only [vx,Bool.and_eq_true] at h ⊢
  obtain ⟨h1,h2,h3,h4,h5,h6,h7,h8,h9⟩:=h
  exact ⟨h1,h2,zcA (τ:=zl) rfl _,h4,h5,h6,h7,h8,h9⟩
def zJ8 (r:zd) (a:zA) (v w:zb × Int × Int × Unit):Prop:=(∃ e,(e != 0) = true ∧ v = (zsQ,0,e,()) ∧ w = (zsQ,0,e,())) ∨ (v.2.2.1 = 0 ∧ w.2.2.1 = 0 ∧ v.2.1 = w.2.1 ∧ zgt (vA r a v.1) (vA r a w.1) = true)
theorem zE8 {r:zd} {a:zA} {s t:zb} {me:pMe} (hv:zgt (vA r a s) (vA r a t) = true) (c:Ctx r s me) (sv:ztr r a me.2.1.toNat = true):vx (ix zf s.2.1 me.2.1) (ix zf t.2.1 me.2.1) = true:=by
  obtain ⟨hl,hs⟩:=zvS hv
  have:=c.hi
  exact hs _ (by omega) sv
theorem zIF {r:zd} {a:zA} {s t:zb} {me:pMe} (hv:zgt (vA r a s) (vA r a t) = true) (c:Ctx r s me) (d:Ctx r t me) (sv:ztr r a me.2.1.toNat = true) (k i w:Int) (nm:ByteArray):zJ8 r a (zmi r s me k i w nm) (zmi r t me k i w nm):=by
  have hsh:=zE8 hv c sv
  obtain ⟨e1,e2⟩:=zvT hsh
  have em:zbk (zz t me) nm me.2.2.1 = zbk (zz s me) nm me.2.2.1:=congrArg (fun l=>zbk l nm me.2.2.1) e1.symm
  have el:zvN r t me k i w = zvN r s me k i w:=by
    simp only [zvN,znt,zz,qF,zjg,e1,e2]
  unfold zmi
  rw [c.rs,d.rs,c.im,em,el]
  simp only [Bool.and_true,cond_true]
  cases k == 1 with
  | true =>
    simp only [cond_true]
    unfold ztp
    cases he:(zbk (zz s me) nm me.2.2.1).2.2.1 != 0 with
    | true=>exact .inl ⟨_,he,rfl,rfl⟩
    | false=>exact .inr ⟨rfl,rfl,rfl,zzM hv fun _=>zHP hsh _⟩
  | false =>
    simp only [cond_false]
    unfold zfv
    cases he:(zvN r s me k i w).2.1 != 0 with
    | true=>exact .inl ⟨_,he,rfl,rfl⟩
    | false=>exact .inr ⟨rfl,rfl,rfl,zzM hv fun _=>zHP hsh _⟩
theorem zzN {r:zd} {j:Int} {p:qw}:∀ (l1 l2:List zg) (i:Nat),l1.length = l2.length→(∀ k,k < l1.length→zin r ((i + k:Nat):Int) j = true→(l1.getD k zf).2.2.1 = (l2.getD k zf).2.2.1)→vy r j p i l1 = vy r j p i l2
  | [],[],_,_,_=>rfl
  | x :: l1,y :: l2,i,hl,h=>by
    have ih:=zzN (p:=p) l1 l2 (i + 1) (by simpa using hl) fun k hk hq=>by
      have:=h (k + 1) (by simpa using hk) (by rw [show i + (k + 1) = i + 1 + k by omega]; exact hq)
      exact this
    simp only [vy]
    rw [ih]
    have h0:zin r (i:Int) j = true→x.2.2.1 = y.2.2.1:=fun hq=>h 0 (by simp) hq
    cases hq:zin r (i:Int) j with
    | false=>rfl
    | true=>rw [h0 hq]
theorem zsW {r:zd} {s:zb} {a:zA} (hr:z7 r) (rb:qk r = true) (la:zdh a = false):zcy (r,s,a,()) = some ((0,[],[],[],[],[],()),1,()):=by
  simp only [zcy]
  refine (bnd (zuv hr)).trans ?_
  rw [rb]
  refine (cF rfl).trans ?_
  refine (bnd (zkk a)).trans ?_
  exact cF la
theorem zDI {r:zd} {s t:zb} {a:zA} (hr:z7 r) (rb:qk r = true) (la:zdh a = false):zcz (r,s,t,a,()) = some (false,()):=by
  simp only [zcz]
  refine (bnd (zsW hr rb la)).trans ?_
  refine (bnd (zsW hr rb la)).trans ?_
  exact cF rfl
theorem zDJ {r:zd} {s t:zb} {a:zA} (hr:z7 r) (hs:qB s) (ht:qB t) (ha:zea a) {me:pMe} {x:zcH}:zch (r,s,t,me,x,a,()) = some (true,()):=by
  have hb:∀ z:Int,(z == z) = true:=fun z=>beq_self_eq_true (α:=Int) z
  simp only [zch]
  refine (bnd (zdl hr hs _)).trans ?_
  cases hme:z4 r s && j6 r me with
  | false =>
    refine (cF rfl).trans ?_
    rw [zhe]; rfl
  | true =>
    simp only [Bool.and_eq_true] at hme
    obtain ⟨rs,im⟩:=hme
    refine (cT rfl).trans ?_
    refine (bnd (zqS hr ht)).trans ?_
    cases rt:z4 r t with
    | false =>
      refine (cF rfl).trans ?_
      rw [zhe]; rfl
    | true =>
      refine (cT rfl).trans ?_
      have rb:=(jf rs).1
      have ml:=zHB rb im
      have ml':=ml
      simp only [zdi,decide_eq_true_eq] at ml'
      refine (ixR ml').trans ?_
      refine (bnd (zf9 (zsM hr _ ml) ha)).trans ?_
      cases sv:zbb (r.1.getD me.2.1.toNat qK) a with
      | false =>
        refine (cF rfl).trans ?_
        rw [zhe]; rfl
      | true =>
        refine (cT rfl).trans ?_
        cases la:zdh a with
        | false =>
          refine (bnd (zDI hr rb la)).trans ?_
          refine (cF rfl).trans ?_
          rw [zhe]; rfl
        | true =>
          refine (bnd (zux hr rs rt ha la (zzL rs))).trans ?_
          cases hv:zgt (vA r a s) (vA r a t) with
          | false =>
            refine (cF rfl).trans ?_
            rw [zhe]; rfl
          | true =>
            have c:Ctx r s me:=⟨rs,im⟩
            have d:Ctx r t me:=⟨rt,im⟩
            obtain ⟨e1,e2⟩:=zvT (zE8 hv c sv)
            obtain ⟨hl,hsh⟩:=zvS hv
            have hbag:zsS t me = zsS s me:=congrArg (fun l=>z6 (zgv (inH me.2.2.1)) 0 l) e1.symm
            have hhere:qF t me = qF s me:=congrArg (fun l=>List.getD l (Int.toNat me.2.2.1) (ze zB)) e2.symm
            have hth:vy r me.2.1 (qF t me) 0 t.2.1 = vy r me.2.1 (qF s me) 0 s.2.1:=by
              rw [hhere]
              refine (zzN s.2.1 t.2.1 0 hl fun k hk hq=>?_).symm
              have hq':zbb (r.1.getD k qK) (r.1.getD me.2.1.toNat qK) = true:=by
                rw [Nat.zero_add] at hq
                simp only [zin,Bool.and_eq_true] at hq
                exact hq.2.2
              exact (zvT (hsh k hk (zGt hq' sv))).1
            have b1:zaD (r,s,me,()) = some (zsS s me,0,()):=by rw [zuu hr hs,rs,im]; rfl
            have b2:zaD (r,t,me,()) = some (zsS s me,0,()):=by rw [zuu hr ht,rt,im,hbag]; rfl
            have t1:vw (r,s,me,()) = some (vy r me.2.1 (qF s me) 0 s.2.1,0,()):=by rw [zo3 hr hs,rs,im]; rfl
            have t2:vw (r,t,me,()) = some (vy r me.2.1 (qF s me) 0 s.2.1,0,()):=by rw [zo3 hr ht,rt,im,hth]; rfl
            have i1:zeU (zsS s me,zsS s me,()) = some (true,()):=by
              rw [zJK (zsR (Nat.le_trans (zJd s me) c.small)),zcA (τ:=tI) rfl]
            have i2:zaW (vy r me.2.1 (qF s me) 0 s.2.1,vy r me.2.1 (qF s me) 0 s.2.1,()) = some (true,()):=by
              obtain ⟨g8,g12⟩:=zIE rs
              have:=zxZ (r:=r) (j:=me.2.1) (a:=qF s me) s.2.1 0 g12
              rw [zGp (zsR (by omega)),zcA (τ:=zB) rfl]
            refine (cT rfl).trans ?_
            refine (bnd (zJL hr hs x)).trans ?_
            refine (bnd (zJL hr ht x)).trans ?_
            refine (bnd b1).trans ?_
            refine (bnd b2).trans ?_
            refine (bnd t1).trans ?_
            refine (bnd t2).trans ?_
            refine (bnd zhe).trans ?_
            refine (cT rfl).trans ?_
            have w1:=zDH c hs x.1 x.2.1 x.2.2.1 x.2.2.2.1
            have w2:=zDH d ht x.1 x.2.1 x.2.2.1 x.2.2.2.1
            rcases zIF hv c d sv x.1 x.2.1 x.2.2.1 x.2.2.2.1 with ⟨e,hne,v1,v2⟩ | ⟨v1,v2,v3,hsim⟩
            · rw [v1,v2]
              refine (cT rfl).trans ?_
              refine (cT (hb e)).trans ?_
              refine (cT hne).trans ?_
              refine (cT rfl).trans ?_
              refine (bnd i1).trans ?_
              refine (cT rfl).trans ?_
              refine (cT rfl).trans ?_
              refine (bnd i2).trans ?_
              rfl
            · generalize zmi r s me x.1 x.2.1 x.2.2.1 x.2.2.2.1 = v at *
              generalize zmi r t me x.1 x.2.1 x.2.2.1 x.2.2.2.1 = w at *
              have r1:z4 r v.1 = true:=by
                rcases w1 with ⟨e,hne,h⟩ | h
                · rw [h] at v1
                  have v0:e = 0:=v1
                  rw [v0] at hne; cases hne
                · exact h.2.right
              have r2:z4 r w.1 = true:=by
                rcases w2 with ⟨e,hne,h⟩ | h
                · rw [h] at v2
                  have v0:e = 0:=v2
                  rw [v0] at hne; cases hne
                · exact h.2.right
              refine (cT (beq_iff_eq.2 v3)).trans ?_
              refine (cT (beq_iff_eq.2 (v1.trans v2.symm))).trans ?_
              refine (cF (by rw [v1]; rfl)).trans ?_
              refine (bnd (zux hr r1 r2 ha la (zzL r1))).trans ?_
              refine (cT hsim).trans ?_
              refine (cT rfl).trans ?_
              refine (bnd i1).trans ?_
              refine (cT rfl).trans ?_
              refine (cT rfl).trans ?_
              refine (bnd i2).trans ?_
              rfl
end Go.Proofs.YtejbgeokcpillaaGreatDoor
end
section
namespace Go.Proofs.YtejbgeokcpillaaGreatDoor.fnGoodsAlike
open Go.ChangeShapes Go.WideShapes Go.ChangeAt Go.RowKit Go.Ev
theorem own:ownKnob Tryz.prog.godebug = none:=by kernel_rfl
def zHQ:List Int→List Value:=List.map (Value.int .u8)
theorem zJY:∀ f add,Ev.look ext f = some add→ExtOk Tryz.prog f add:=by
  intro f add h
  have h':(Nat.beq 292 f = true ∧ add = false) ∨ (Nat.beq 322 f = true ∧ add = true):=by
    simp only [ext,Ev.look] at h
    cases h1:Nat.beq 292 f with
    | true=>rw [h1] at h; exact .inl ⟨rfl,(Option.some.inj h).symm⟩
    | false =>
      rw [h1] at h
      cases h2:Nat.beq 322 f with
      | true=>rw [h2] at h; exact .inr ⟨rfl,(Option.some.inj h).symm⟩
      | false=>rw [h2] at h; cases h
  rcases h' with ⟨h1,rfl⟩ | ⟨h1,rfl⟩
  · obtain rfl:=Nat.eq_of_beq_eq_true h1
    intro x y w hx hy hy2
    obtain ⟨m,rfl⟩:=Int.eq_ofNat_of_zero_le hx
    obtain ⟨n,rfl⟩:=Int.eq_ofNat_of_zero_le hy
    rw [run_callFunc_extern (P:=Tryz.prog) (f:=292) Tryz.func292 (by kernel_rfl) (by kernel_rfl) (by kernel_rfl) (e:=sub64Entry) (by kernel_rfl)]
    have h0:(sub64Entry #[.int .u64 (m:Int),.int .u64 (n:Int),.int .u64 0]).run Tryz.prog w = .ok (.tuple #[.int .u64 (((m + 18446744073709551616 - n - 0) % 18446744073709551616:Nat):Int),.int .u64 ((if m < n + 0 then 1 else 0:Nat):Int)]) w:=run_sub64 m n 0 (by omega) w
    have e1:extA false (m:Int) (n:Int) = (((m + 18446744073709551616 - n - 0) % 18446744073709551616:Nat):Int):=by
      show ((m:Int) - (n:Int)) % 18446744073709551616 = _
      omega
    have e2:extB false (m:Int) (n:Int) = ((if m < n + 0 then 1 else 0:Nat):Int):=by
      show cond (decide ((m:Int) < (n:Int))) 1 0 = _
      by_cases h:m < n
      · rw [decide_eq_true (by omega),if_pos (by omega)]; rfl
      · rw [decide_eq_false (by omega),if_neg (by omega)]; rfl
    rw [h0,e1,e2]
    rfl
  · obtain rfl:=Nat.eq_of_beq_eq_true h1
    intro x y w hx hy hy2
    rw [run_callFunc_extern (P:=Tryz.prog) (f:=322) Tryz.func322 (by kernel_rfl) (by kernel_rfl) (by kernel_rfl) (e:=add64Entry) (by kernel_rfl),run_add64 x y 0 hx hy (by omega) (by omega),Int.add_zero]
    rfl
theorem env {W:World} (hL:laidMetH Tryz.prog Rows.goodsAlikeRow.laid W):EnvOk Tryz.prog (FH.of W) E0:=by
  exact EnvOk.nil (by kernel_rfl) (fun g v hv=>by cases hv) zJY
set_option maxRecDepth 100000 in
theorem zIG (H:Type) (enc:TypeId × Value→H) (W:World) (base:Nat) (args:Array Value) (ds gs:List (DataW H)) (before:List MemPlace)
    (hval:∀ (j:Nat) t v,Tryz.f5.params[j]? = some t→args[j]? = some v→Value.okWide Tryz.prog W .any base t v)
    (hW:DataW.Whole enc Tryz.prog Tryz.f5.params.toList Rows.goodsAlikeSpec.vars false W args.toList ds gs before) (hL:laidMetH Tryz.prog Rows.goodsAlikeRow.laid W) :
    Calls Tryz.prog 5 args W fun e W'=>∃ v,e = .returned v ∧ Rows.goodsAlikeSpec.post enc Tryz.prog Tryz.f5 false true false false W args v W':=by
  refine law_contract (a:=zrE) (tb:=4) (by kernel_rfl) (by decide +kernel) (by kernel_rfl) (by kernel_rfl) (by kernel_rfl) rfl (fun ds hd=>?_) hval hW fun x hx hbk hr=>?_
  · have:Tryz.f5.params.size = 6:=by kernel_rfl
    rw [this] at hd
    match ds,hd with
    | [d1,d2,d3,d4,d5,d6],_=>rfl
  · have hs:=zsI (FH.of W) (env hL)
    have he:zch x = some (true,()):=by
      obtain ⟨r,s,t,m,d,a,⟨⟩⟩:=x
      exact zDJ (realmIn hx.1) (stateIn hx.2.1) (stateIn hx.2.2.1) (wf_u64 hx.2.2.2.2.2.1.2.1)
    have hc:=hs.2 x (true,()) he (FH.of W) W args.toList (FH.le.refl _) (FH.of_ok W) hr
    refine hc.mono fun e W' he=>?_
    obtain ⟨us,F',h1,h2,_,_,h3⟩:=he
    refine ⟨?_,h2⟩
    obtain ⟨v,r,hus,hv,hva,hnil⟩:=(show RepA Tryz.prog F' (.pair .bool .unit) (true,()) us from h3)
    have hr0:r = []:=hnil
    subst hr0
    have hv':v.cells.toList = [.bool true]:=hv
    rw [h1,hus]
    have hva':isAggV v = false:=hva
    have:v = .bool true:=by
      cases v <;> first | (simp [isAggV] at hva'; done) | (simp [Value.cells] at hv'; exact congrArg _ hv') | (simp [Value.cells] at hv')
    rw [this]
    rfl
def zJN (l:List Value):Obj→Obj
  | .cells _ t frozen=>.cells l.toArray t frozen
  | o=>o
noncomputable def laidWorld (os:Os):World :=
  { World.holding Tryz.prog os ⟨#[],#[],[]⟩ with heap:=((World.holding Tryz.prog os ⟨#[],#[],[]⟩).heap.modify 0 (zJN (zHQ (Pinned.utf8FirstZ.map fun n:Nat=>(n:Int))))).modify 1 (zJN (zHQ [128,191,160,191,128,159,144,191,128,143,0,0,0,0,0,0,0,0,0,0,0,0,0,0,0,0,0,0,0,0,0,0])) }
def arg0:Value:=.agg #[.slice none 0 0,.slice none 0 0,.slice none 0 0,.slice none 0 0,.slice none 0 0,.int .i64 0,.int .i64 0,.int .i64 0,.int .i64 0]
def zGv:Value:=.agg #[.int .u64 0,.slice none 0 0,.slice none 0 0,.slice none 0 0,.slice none 0 0,.slice none 0 0]
def zGw:Value:=.agg #[.int .u64 0,.slice none 0 0,.slice none 0 0,.slice none 0 0,.slice none 0 0,.slice none 0 0]
def zGx:Value:=.agg #[.int .i64 0,.int .i64 0,.int .i64 0]
def zGy:Value:=.agg #[.int .i64 0,.int .i64 0,.int .i64 0,.string ⟨#[]⟩]
def zGz:Value:=.agg #[.int .i64 0,.int .u64 0]
theorem laid_met (os:Os):laidMet Tryz.prog Rows.goodsAlikeRow.laid ((laidWorld os).forCall (fun _ _=>0) ⟨#[],#[arg0,zGv,zGw,zGx,zGy,zGz],[]⟩).memory :=
  laidMet_of_run' 8 (by kernel_rfl) (by kernel_rfl)
theorem reads (os:Os) {H:Type} (enc:TypeId × Value→H):∃ places,DataW.whole enc Tryz.prog ((laidWorld os).forCall (fun _ _=>0) ⟨#[],#[arg0,zGv,zGw,zGx,zGy,zGz],[]⟩).memory Tryz.f5.params.toList Rows.goodsAlikeSpec.vars false #[arg0,zGv,zGw,zGx,zGy,zGz].toList 8 = some ([.agg [.nil,.nil,.nil,.nil,.nil,.lit (.int .i64 0),.lit (.int .i64 0),.lit (.int .i64 0),.lit (.int .i64 0)],.agg [.lit (.int .u64 0),.nil,.nil,.nil,.nil,.nil],.agg [.lit (.int .u64 0),.nil,.nil,.nil,.nil,.nil],.agg [.lit (.int .i64 0),.lit (.int .i64 0),.lit (.int .i64 0)],.agg [.lit (.int .i64 0),.lit (.int .i64 0),.lit (.int .i64 0),.lit (.string [])],.agg [.lit (.int .i64 0),.lit (.int .u64 0)]],[],places) :=
  ⟨[],by kernel_rfl⟩
set_option maxRecDepth 100000 in
theorem lifted (os:Os) (started:os.Started) (H:Type) (enc:TypeId × Value→H) (F:Stop.Interp) :
    ReturnsInHanded {} Tryz.checked os 5 .any ((OpenSpec.ofChange Rows.goodsAlikeSpec).preRow enc Tryz.prog Tryz.f5 Rows.goodsAlikeRow.domain false Rows.goodsAlikeRow.laid) (((OpenSpec.ofChange Rows.goodsAlikeSpec).at F).post enc Tryz.prog Tryz.f5 false true false false):=by
  obtain ⟨places,hx⟩:=reads os enc
  refine returnsInHanded_of_row (C:=Tryz.checked) (s:=OpenSpec.ofChange Rows.goodsAlikeSpec) own started (by kernel_rfl) Tryz.func5
    (witness_row_at (enc:=enc) (C:=Tryz.checked) false (laidWorld os) #[arg0,zGv,zGw,zGx,zGy,zGz] rfl (by kernel_rfl) (by kernel_rfl) (by kernel_rfl)
      (OpenSpec.preRow_of_cond 8 hx (by kernel_rfl) (fun k hk=>by cases hk) (by kernel_rfl) (laid_met os))) ?_
  intro W base args ds gs before hval hW _ _ _ hL _ _
  exact zIG H enc W base args ds gs before hval hW hL
end Go.Proofs.YtejbgeokcpillaaGreatDoor.fnGoodsAlike
end
section
namespace Go.Proofs.YtejbgeokcpillaaGreatDoor.fnGoodsAlike
open Go.ChangeShapes Go.WideShapes Go.ChangeAt Go.RowKit Go.Ev
theorem k2:laidOutB Tryz.prog = true:=by kernel_rfl
theorem k3:mapsRowed Tryz.prog = true:=by kernel_rfl
theorem k10:(Rows.goodsAlikeRow.inPlace == Tryz.prog.inPlace 5) = true:=by kernel_rfl
theorem k11:(Rows.goodsAlikeRow.unfollowed == Tryz.prog.unfollowed 5) = true:=by kernel_rfl
theorem k12:(Rows.goodsAlikeRow.recurses == Tryz.prog.recurses 5) = true:=by kernel_rfl
theorem k13:(Rows.goodsAlikeRow.named == Tryz.prog.varsNamed 5) = true:=by kernel_rfl
theorem k23:(Rows.goodsAlikeRow.plainKeys == Tryz.prog.plainKeys) = true:=by kernel_rfl
theorem k24:Tryz.prog.stopsHeard = true:=by kernel_rfl
theorem k25:Tryz.prog.mayEnter = true:=by kernel_rfl
theorem k26:(Rows.goodsAlikeRow.lifted == Tryz.prog.liftsFinal) = true:=by kernel_rfl
theorem k27:(Tryz.prog.make == some Rows.goodsAlikeRow.make) = true:=by kernel_rfl
theorem zJh:joinedFacts Tryz.prog 5 Tryz.f5 (OpenSpec.ofChange Rows.goodsAlikeSpec).bare Rows.goodsAlikeRow = true:=by
  unfold joinedFacts
  rw [k2,k3,k10,k11,k12,k13,k23,k24,k25,k26,k27]
  kernel_rfl
theorem peq:Tryz.pinned.checked.prog = Tryz.prog:=by kernel_rfl
theorem closed:joinedFacts Tryz.pinned.checked.prog 5 Tryz.f5 (OpenSpec.ofChange Rows.goodsAlikeSpec).bare Rows.goodsAlikeRow = true:=by
  rw [peq]; exact zJh
end Go.Proofs.YtejbgeokcpillaaGreatDoor.fnGoodsAlike
end
