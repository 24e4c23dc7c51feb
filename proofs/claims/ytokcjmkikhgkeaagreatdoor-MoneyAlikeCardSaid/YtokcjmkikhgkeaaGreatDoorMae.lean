import Derived.Test.YtokcjmkikhgkeaaGreatDoorMad
import Derived.Shelf.Spec.BitsCarry
import Derived.Test.YtokcjmkikhgkeaaGreatDoorCards
import Derived.Test.YtokcjmkikhgkeaaGreatDoorTie
import Derived.ProofKit
import Derived.OpenShut
import Derived.Deep.DeepHandedRow
set_option linter.unusedVariables false
set_option linter.unusedSimpArgs false
section
namespace Go.Proofs.YtokcjmkikhgkeaaGreatDoor
open Go.Ev
noncomputable section
abbrev zdL:Type:=Int × Int × Int × Int × List zg × Nat × List (List Int) × Nat × List zn × List zF × List Int × List zg × Nat × List (List Int) × Nat × List zn × List zF × List Int
abbrev zpT:zdL→St:=fun (v42,v43,o0_0,o1_0,o2,c2,o3,c3,o4,o5,o6,o7,c7,o8,c8,o9,o10,o11)=>St.mk [(2,.bp 0 []),(4,.bp 1 []),(42,.dat tI v42),(43,.dat tI v43)] [.bx (.fld (.pair tU (.pair (.sl zj) (.pair (.sl (.sl tI)) (.pair (.sl zm) (.pair (.sl zt) (.pair (.sl tI) .unit)))))) [.dat tU o0_0,.ow 2,.ow 3,.ow 4,.ow 5,.ow 6]) false,.bx (.fld (.pair tU (.pair (.sl zj) (.pair (.sl (.sl tI)) (.pair (.sl zm) (.pair (.sl zt) (.pair (.sl tI) .unit)))))) [.dat tU o1_0,.ow 7,.ow 8,.ow 9,.ow 10,.ow 11]) false,.drow zj o2 c2,.drow (.sl tI) o3 c3,.row zm o4 false,.row zt o5 false,.row tI o6 false,.drow zj o7 c7,.drow (.sl tI) o8 c8,.row zm o9 false,.row zt o10 false,.row tI o11 false]
abbrev zdM:Type:=(List zah) × Int × Int × ze × Int × Int × List zg × Nat × List (List Int) × Nat × List zn × List zF × List Int × List zg × Nat × List (List Int) × Nat × List zn × List zF × List Int
abbrev zyX:zdM→St:=fun (v18,v19,v20,o0,o1_0,o2_0,o3,c3,o4,c4,o5,o6,o7,o8,c8,o9,c9,o10,o11,o12)=>St.mk [(1,.bp 0 []),(2,.bp 1 []),(4,.bp 2 []),(18,.dat (.sl zcJ) v18),(19,.dat tI v19),(20,.dat tI v20)] [.bx (.dat zy o0) false,.bx (.fld (.pair tU (.pair (.sl zj) (.pair (.sl (.sl tI)) (.pair (.sl zm) (.pair (.sl zt) (.pair (.sl tI) .unit)))))) [.dat tU o1_0,.ow 3,.ow 4,.ow 5,.ow 6,.ow 7]) false,.bx (.fld (.pair tU (.pair (.sl zj) (.pair (.sl (.sl tI)) (.pair (.sl zm) (.pair (.sl zt) (.pair (.sl tI) .unit)))))) [.dat tU o2_0,.ow 8,.ow 9,.ow 10,.ow 11,.ow 12]) false,.drow zj o3 c3,.drow (.sl tI) o4 c4,.row zm o5 false,.row zt o6 false,.row tI o7 false,.drow zj o8 c8,.drow (.sl tI) o9 c9,.row zm o10 false,.row zt o11 false,.row tI o12 false]
def zdN (k1:zdL→Option (zb × (Int × Unit))):zdL→Option (zb × (Int × Unit)):=fun (v42,v43,o0_0,o1_0,o2,c2,o3,c3,o4,o5,o6,o7,c7,o8,c8,o9,o10,o11) =>
  bif decide (v43 < v42) then bif decide (List.length o11 + List.length (zi (List.replicate 1 (0:Int)) 0 (-1)) ≤ lim) then k1 (v42,wI (v43 + 1),o0_0,o1_0,o2,c2,o3,c3,o4,o5,o6,o7,c7,o8,c8,o9,o10,o11 ++ zi (List.replicate 1 (0:Int)) 0 (-1)) else none else bif decide (c7 = List.length o7) then bif decide (c8 = List.length o8) then some ((o1_0,o7,o8,o9,o10,o11,()),0,()) else none else none
abbrev zdO (K:Nat):zdL→Option (zb × (Int × Unit)):=zl zdN K
theorem zyY (K:Nat):∀ n,evV Ed8 K Tryz.f24 3 (ch [zu,tI]) [1,1,1,1,1,0,1,0] [] zpT n = zl zdN n:=zv fun n1 (v42,v43,o0_0,o1_0,o2,c2,o3,c3,o4,o5,o6,o7,c7,o8,c8,o9,o10,o11)=>by kernel_rfl
def zbs (L1:zdL→Option (zb × (Int × Unit))) (k0:zdM→Option (zb × (Int × Unit))):zdM→Option (zb × (Int × Unit)):=fun (v18,v19,v20,o0,o1_0,o2_0,o3,c3,o4,c4,o5,o6,o7,o8,c8,o9,c9,o10,o11,o12) =>
  bif decide (v20 < v19) then inR v20 ((List.length v18):Int) (Option.bind (zf2 (o0,ix qC v18 v20,())) fun q2=>bif decide (List.length o8 + List.length [(q2.1.1,q2.1.2.1,q2.1.2.2.1,q2.1.2.2.2.1,q2.1.2.2.2.2.1,q2.1.2.2.2.2.2.1,q2.1.2.2.2.2.2.2.1,q2.1.2.2.2.2.2.2.2.1,q2.1.2.2.2.2.2.2.2.2.1,())] ≤ lim) then bif decide (c8 = List.length o8) then k0 (v18,v19,wI (v20 + 1),o0,o1_0,o2_0,o3,c3,o4,c4,o5,o6,o7,o8 ++ [(q2.1.1,q2.1.2.1,q2.1.2.2.1,q2.1.2.2.2.1,q2.1.2.2.2.2.1,q2.1.2.2.2.2.2.1,q2.1.2.2.2.2.2.2.1,q2.1.2.2.2.2.2.2.2.1,q2.1.2.2.2.2.2.2.2.2.1,())],c8 + (0 + 1),o9,c9,o10,o11,o12) else none else none) else bif decide (0 < ((List.length o8):Int)) then bif decide (c8 ≤ Int.toNat 0) then bif decide (0 < ((List.length (ix za o8 0).1):Int)) then none else none else bif decide (0 < ((List.length (ix za o8 0).1):Int)) then L1 (((List.length o0.2.1):Int),0,o1_0,o2_0,o3,c3,o4,c4,o5,o6,o7,List.set o8 (Int.toNat 0) (List.set (ix za o8 0).1 (Int.toNat 0) (true,ByteArray.mk #[112,108,97,122,97],(zf qj).2.2),(ix za o8 0).2),c8,o9,c9,o10,o11,o12) else none else none
abbrev zpU (K:Nat):zdM→Option (zb × (Int × Unit)):=zl (fun k0=>zbs (zdO K) k0) K
theorem zyZ (K:Nat):∀ n,evV Ed8 K Tryz.f24 3 (ch [zu,tI]) [1,1,1,0,1,0] [] zyX n = zl (fun k0=>zbs (zdO K) k0) n:=zgF (B:=fun L1 k0=>zbs L1 k0) (V1:=fun n0=>evV Ed8 K Tryz.f24 3 (ch [zu,tI]) [1,1,1,1,1,0,1,0] [] zpT K) (W1:=fun k0=>(zdO K)) (fun n0=>zyY K K) fun n0 (v18,v19,v20,o0,o1_0,o2_0,o3,c3,o4,c4,o5,o6,o7,o8,c8,o9,c9,o10,o11,o12)=>by kernel_rfl
def zi4 (L0:zdM→Option (zb × (Int × Unit))):(ze × Unit)→Option (zb × (Int × Unit)):=fun (x0,()) =>
  Option.bind (zac (x0,())) fun q0=>bif q0.1 then Option.bind (zkp (x0,())) fun q1=>bif decide (0 ≤ x0.2.2.2.2.2.1) then bif decide (x0.2.2.2.2.2.1 ≤ x0.2.2.2.2.2.1) then bif decide (x0.2.2.2.2.2.1 ≤ (↑lim:Int)) then L0 (x0.2.2.2.2.1,((List.length x0.2.2.2.2.1):Int),0,x0,0,0,[],0,[],0,[],[],[],[],0,q1.1,List.length q1.1,List.replicate (Int.toNat x0.2.2.2.2.2.1) (zf zm),[],[]) else none else none else none else some ((0,[],[],[],[],[],()),1,())
def zfQ:(ze × Unit)→Option (zb × Int × Unit):=zi4 (zpU K0)
abbrev ztj:Fun:=⟨24,(ch [zy]),(ch [zu,tI]),3,zfQ⟩
theorem zCq:Sq ztj:=ml8 (d:=true) (S:=fun K=>zi4 (zpU K)) Tryz.func24 (by kernel_rfl) (fun K=>tr1 (T:=zi4) (zyZ K K) fun (x0,())=>by kernel_rfl) rfl
def zi5:(ze × (Int × (Int × Unit)))→Option (Bool × Unit):=fun (x0,x1,x2,()) =>
  Option.bind (zb6 (x0,x1,())) fun q0=>bif q0.1 then Option.bind (zb6 (x0,x2,())) fun q1=>bif q1.1 then inR x1 ((List.length x0.1):Int) (inR x2 ((List.length x0.1):Int) (Option.bind (zaF (ix qz x0.1 x1,ix qz x0.1 x2,())) fun q2=>bif q2.1 then some (true,()) else some (false,()))) else some (false,()) else some (false,())
abbrev ztk:Fun:=⟨18,(ch [zy,tI,tI]),(ch [.bool]),0,zi5⟩
theorem zCr:Sq ztk:=ms8 (d:=false) (K:=0) Tryz.func18 (by kernel_rfl) (funext fun (x0,x1,x2,())=>by kernel_rfl)
abbrev L9:List Fun:=zod :: ztj :: ztk :: L8
theorem h9:Sds Tryz.prog E0 L9:=⟨zxy,zCq,zCr,h8⟩
theorem ms9 {d:Bool} {F:Fun} {f:Go.Func} {K:Nat} (hf:Tryz.prog.funcs[F.id]? = some f) (ho:jL f = true) (h:evF (En E0 d L9) K f F.md F.a F.r = F.spec):Sd Tryz.prog E0 F:=mkS h9 hf ho h
theorem ml9 {d:Bool} {F:Fun} {f:Go.Func} {S:Nat→F.a.I→Option F.r.I} (hf:Tryz.prog.funcs[F.id]? = some f) (ho:jL f = true) (h:∀ K,evF (En E0 d L9) K f F.md F.a F.r = S K) (e:S K0 = F.spec):Sd Tryz.prog E0 F:=mkS h9 hf ho ((h K0).trans e)
abbrev Es9:Env:=En E0 false L9
abbrev zb7:Type:=Bool × Int × Int × List (Option (Unit→Option (Bool × Unit)))
abbrev zwn:zb7→St:=fun (v6,v27,v28,o0)=>St.mk [(6,.dat .bool v6),(26,.ow 0),(27,.dat tI v27),(28,.dat tI v28)] [.row (.fn .unit (.pair .bool .unit)) o0 false]
def zei (k0:zb7→Option (Bool × Unit)):zb7→Option (Bool × Unit):=fun (v6,v27,v28,o0) =>
  bif decide (v28 < v27) then inR v28 ((List.length o0):Int) (Option.bind (List.getD o0 (Int.toNat v28) (zf (.fn .unit (.pair .bool .unit)))) fun q0=>Option.bind (q0 ()) fun q1=>bif q1.1 then k0 (true,v27,wI (v28 + 1),o0) else some (false,())) else some (v6,())
abbrev zmN (K:Nat):zb7→Option (Bool × Unit):=zl zei K
theorem zwo (K:Nat):∀ n,evV Es9 K Tryz.f12 0 (ch [.bool]) [1,0,1,1,1,0,1,0] [] zwn n = zl zei n:=zv fun n0 (v6,v27,v28,o0)=>by kernel_rfl
def zjO (L0:zb7→Option (Bool × Unit)):(ze × (zb × Unit))→Option (Bool × Unit):=fun (x0,x1,()) =>
  L0 (true,((List.length (zi (zi (zi (zi (zi (zi (zi (List.replicate 7 (zf (.fn .unit (.pair .bool .unit)))) 0 (some fun z=>zbq ((x0,x1,(zf qe).2.2),()))) 1 (some fun z=>zbr ((x0,x1,(zf qe).2.2),()))) 2 (some fun z=>zaM ((x0,x1,(zf qe).2.2),()))) 3 (some fun z=>zdH ((x0,x1,(zf qe).2.2),()))) 4 (some fun z=>zaK ((x0,x1,(zf qe).2.2),()))) 5 (some fun z=>zdG ((x0,x1,(zf qe).2.2),()))) 6 (some fun z=>zdK ((x0,x1,(zf qe).2.2),())))):Int),0,[some fun z=>zbq ((x0,x1,(zf qe).2.2),()),some fun z=>zbr ((x0,x1,(zf qe).2.2),()),some fun z=>zaM ((x0,x1,(zf qe).2.2),()),some fun z=>zdH ((x0,x1,(zf qe).2.2),()),some fun z=>zaK ((x0,x1,(zf qe).2.2),()),some fun z=>zdG ((x0,x1,(zf qe).2.2),()),some fun z=>zdK ((x0,x1,(zf qe).2.2),())])
def zdP:(ze × zb × Unit)→Option (Bool × Unit):=zjO (zmN K0)
abbrev zpV:Fun:=⟨12,(ch [zy,zu]),(ch [.bool]),0,zdP⟩
theorem zy0:Sq zpV:=ml9 (d:=false) (S:=fun K=>zjO (zmN K)) Tryz.func12 (by kernel_rfl) (fun K=>tr1 (T:=zjO) (zwo K K) fun (x0,x1,())=>by kernel_rfl) rfl
def zcr:(ze × (zb × (zr × Unit)))→Option (zb × (Int × Unit)):=fun (x0,x1,x2,()) =>
  Option.bind (zfQ (x0,())) fun q0=>bif q0.2.1 != 0 then some ((0,[],[],[],[],[],()),1,()) else Option.bind (zdD (x2,())) fun q1=>bif q1.1 then Option.bind (ziW (x0,x1,())) fun q2=>bif q2.1 then Option.bind (zd6 (x1.2.1,q0.1.2.1,some fun z=>zbp (z.1,some x0,some x2,()),())) fun q3=>Option.bind (zex (x1.2.2.1,q0.1.2.2.1,some fun z=>zf4 (z.1,some x0,some x2,()),())) fun q4=>Option.bind (zfm (x1.2.2.2.2.2.1,q0.1.2.2.2.2.2.1,some fun z=>zf3 (z.1,some (some fun z_1=>zbp (z_1.1,some x0,some x2,())),some x0,()),())) fun q5=>Option.bind (qv ((x1.1,q3.1,q4.1,x1.2.2.2.1,x1.2.2.2.2.1,q5.1,x1.2.2.2.2.2.2),())) fun q6=>some (q6.1,0,()) else some ((0,[],[],[],[],[],()),1,()) else some ((0,[],[],[],[],[],()),1,())
abbrev ztl:Fun:=⟨45,(ch [zy,zu,zA]),(ch [zu,tI]),0,zcr⟩
theorem zCs:Sq ztl:=ms9 (d:=false) (K:=0) Tryz.func45 (by kernel_rfl) (funext fun (x0,x1,x2,())=>by kernel_rfl)
abbrev L10:List Fun:=zpV :: ztl :: L9
theorem h10:Sds Tryz.prog E0 L10:=⟨zy0,zCs,h9⟩
theorem zHw {d:Bool} {F:Fun} {f:Go.Func} {K:Nat} (hf:Tryz.prog.funcs[F.id]? = some f) (ho:jL f = true) (h:evF (En E0 d L10) K f F.md F.a F.r = F.spec):Sd Tryz.prog E0 F:=mkS h10 hf ho h
def za6:(ze × (zb × (pMe × Unit)))→Option (Bool × Unit):=fun (x0,x1,x2,()) =>
  Option.bind (zdP (x0,x1,())) fun q0=>bif q0.1 then bif decide (x2.1 ≥ 0) then bif decide (x2.1 < ((List.length x0.2.1):Int)) then inR x2.1 ((List.length x0.2.1):Int) (bif x2.2.1 == ix (0:Int) x0.2.1 x2.1 then bif decide (x2.2.2.1 ≥ 0) then bif decide (x2.2.2.1 < ((List.length x0.2.2.1):Int)) then some (true,()) else some (false,()) else some (false,()) else some (false,())) else some (false,()) else some (false,()) else some (false,())
abbrev zrB:Fun:=⟨11,(ch [zy,zu,tMe]),(ch [.bool]),0,za6⟩
theorem zAS:Sq zrB:=zHw (d:=false) (K:=0) Tryz.func11 (by kernel_rfl) (funext fun (x0,x1,x2,())=>by kernel_rfl)
def zcs:(ze × (zb × (zb × (zr × Unit))))→Option (Bool × Unit):=fun (x0,x1,x2,x3,()) =>
  Option.bind (zcr (x0,x1,x3,())) fun q0=>Option.bind (zcr (x0,x2,x3,())) fun q1=>bif q0.2.1 == 0 then bif q1.2.1 == 0 then Option.bind (zhF (q0.1,q1.1,())) fun q2=>bif q2.1 then some (true,()) else some (false,()) else some (false,()) else some (false,())
abbrev ztm:Fun:=⟨15,(ch [zy,zu,zu,zA]),(ch [.bool]),0,zcs⟩
theorem zCt:Sq ztm:=zHw (d:=false) (K:=0) Tryz.func15 (by kernel_rfl) (funext fun (x0,x1,x2,x3,())=>by kernel_rfl)
abbrev L11:List Fun:=zrB :: ztm :: L10
theorem h11:Sds Tryz.prog E0 L11:=⟨zAS,zCt,h10⟩
theorem zH9 {d:Bool} {F:Fun} {f:Go.Func} {K:Nat} (hf:Tryz.prog.funcs[F.id]? = some f) (ho:jL f = true) (h:evF (En E0 d L11) K f F.md F.a F.r = F.spec):Sd Tryz.prog E0 F:=mkS h11 hf ho h
theorem zIa {d:Bool} {js:List Nat} {fs:List (Nat × Go.Func)} {n:Nat} {F:Fun} {f:Go.Func} {K:Nat} (hfs:FOk Tryz.prog fs) (hf:Tryz.prog.funcs[F.id]? = some f) (ho:jL f = true) (h:evF ((Ej E0 d js L11).inl fs n) K f F.md F.a F.r = F.spec):Sd Tryz.prog E0 F:=Sd.mkI zDR h11 hfs hf ho h
def zct:(ze × (zb × (pMe × (Int × (Int × Unit)))))→Option (Bool × Unit):=fun (x0,x1,x2,x3,x4,()) =>
  Option.bind (za6 (x0,x1,x2,())) fun q0=>bif q0.1 then Option.bind (qO (x3,())) fun q1=>bif q1.1 then bif decide (x4 > 0) then some (true,()) else some (false,()) else some (false,()) else some (false,())
abbrev ztn:Fun:=⟨17,(ch [zy,zu,tMe,tI,tU]),(ch [.bool]),0,zct⟩
theorem zCu:Sq ztn:=zH9 (d:=false) (K:=0) Tryz.func17 (by kernel_rfl) (funext fun (x0,x1,x2,x3,x4,())=>by kernel_rfl)
def yb:(ze × (zb × (pMe × Unit)))→Option ((List Int) × (Int × Unit)):=fun (x0,x1,x2,()) =>
  Option.bind (za6 (x0,x1,x2,())) fun q0=>bif q0.1 then inR x2.2.1 ((List.length x1.2.1):Int) (inR x2.2.2.1 ((List.length (ix za x1.2.1 x2.2.1).2.2.2.2.2.1):Int) (some (List.getD (ix za x1.2.1 x2.2.1).2.2.2.2.2.1 (Int.toNat x2.2.2.1) (zf (.arr 4 tU)),0,()))) else some ([0,0,0,0],1,())
abbrev zpW:Fun:=⟨16,(ch [zy,zu,tMe]),(ch [(.arr 4 tU),tI]),0,yb⟩
theorem zy1:Sq zpW:=zIa (d:=false) (js:=[]) (fs:=[(47,Tryz.f47)]) (n:=1) ⟨⟨Tryz.func47,by kernel_rfl⟩,trivial⟩ (K:=0) Tryz.func16 (by kernel_rfl) (funext fun (x0,x1,x2,())=>by kernel_rfl)
abbrev L12:List Fun:=ztn :: zpW :: L11
theorem h12:Sds Tryz.prog E0 L12:=⟨zCu,zy1,h11⟩
theorem zD1 {d:Bool} {js:List Nat} {fs:List (Nat × Go.Func)} {n:Nat} {F:Fun} {f:Go.Func} {K:Nat} (hfs:FOk Tryz.prog fs) (hf:Tryz.prog.funcs[F.id]? = some f) (ho:jL f = true) (h:evF ((Ej E0 d js L12).inl fs n) K f F.md F.a F.r = F.spec):Sd Tryz.prog E0 F:=Sd.mkI zDR h12 hfs hf ho h
def j9:(ze × (zb × (pMe × (Int × (Int × Unit)))))→Option (zb × (Int × Unit)):=fun (x0,x1,x2,x3,x4,()) =>
  Option.bind (zct (x0,x1,x2,x3,x4,())) fun q0=>bif q0.1 then inR x2.2.1 ((List.length x0.2.2.2.2.1):Int) (inR x2.2.1 ((List.length x1.2.1):Int) (inR x3 (↑4:Int) (inR x2.2.2.1 ((List.length x0.2.2.1):Int) (bif (ix zcf x0.2.2.1 x2.2.2.1).2.2.2.1 then bif decide (x4 ≤ wU ((ix qC x0.2.2.2.2.1 x2.2.1).2.2.2.2.2.1 - List.getD (ix za x1.2.1 x2.2.1).2.2.2.2.2.2.2.1 (Int.toNat x3) (0:Int))) then Option.bind (qv (x1,())) fun q1=>inR x2.2.1 ((List.length q1.1.2.1):Int) (inR x3 (↑4:Int) (inR x2.2.1 ((List.length q1.1.2.1):Int) (inR x3 (↑4:Int) (inR x2.2.1 ((List.length (List.set q1.1.2.1 (Int.toNat x2.2.1) (u7 (ix za q1.1.2.1 x2.2.1) (List.set (ix za q1.1.2.1 x2.2.1).2.2.2.2.2.2.2.1 (Int.toNat x3) (wU (List.getD (ix za q1.1.2.1 x2.2.1).2.2.2.2.2.2.2.1 (Int.toNat x3) (0:Int) + x4)))))):Int) (bif decide (List.length q1.1.2.1 ≤ Int.toNat x2.2.1) then none else inR x2.2.2.1 ((List.length (List.getD (List.set q1.1.2.1 (Int.toNat x2.2.1) (u7 (ix za q1.1.2.1 x2.2.1) (List.set (ix za q1.1.2.1 x2.2.1).2.2.2.2.2.2.2.1 (Int.toNat x3) (wU (List.getD (ix za q1.1.2.1 x2.2.1).2.2.2.2.2.2.2.1 (Int.toNat x3) (0:Int) + x4))))) (Int.toNat x2.2.1) (zf zj)).2.2.2.2.2.1):Int) (Option.bind (zcp (List.getD (List.getD (List.set q1.1.2.1 (Int.toNat x2.2.1) (u7 (ix za q1.1.2.1 x2.2.1) (List.set (ix za q1.1.2.1 x2.2.1).2.2.2.2.2.2.2.1 (Int.toNat x3) (wU (List.getD (ix za q1.1.2.1 x2.2.1).2.2.2.2.2.2.2.1 (Int.toNat x3) (0:Int) + x4))))) (Int.toNat x2.2.1) (zf zj)).2.2.2.2.2.1 (Int.toNat x2.2.2.1) (zf (.arr 4 tU)),x3,x4,())) fun q2=>inR x2.2.1 ((List.length (List.set q1.1.2.1 (Int.toNat x2.2.1) (u7 (ix za q1.1.2.1 x2.2.1) (List.set (ix za q1.1.2.1 x2.2.1).2.2.2.2.2.2.2.1 (Int.toNat x3) (wU (List.getD (ix za q1.1.2.1 x2.2.1).2.2.2.2.2.2.2.1 (Int.toNat x3) (0:Int) + x4)))))):Int) (bif decide (List.length q1.1.2.1 ≤ Int.toNat x2.2.1) then none else inR x2.2.2.1 ((List.length (List.getD (List.set q1.1.2.1 (Int.toNat x2.2.1) (u7 (ix za q1.1.2.1 x2.2.1) (List.set (ix za q1.1.2.1 x2.2.1).2.2.2.2.2.2.2.1 (Int.toNat x3) (wU (List.getD (ix za q1.1.2.1 x2.2.1).2.2.2.2.2.2.2.1 (Int.toNat x3) (0:Int) + x4))))) (Int.toNat x2.2.1) (zf zj)).2.2.2.2.2.1):Int) (bif q2.2.1 != 0 then some ((0,[],[],[],[],[],()),q2.2.1,()) else bif decide (List.length q1.1.2.1 = List.length (List.set (List.set q1.1.2.1 (Int.toNat x2.2.1) (u7 (ix za q1.1.2.1 x2.2.1) (List.set (ix za q1.1.2.1 x2.2.1).2.2.2.2.2.2.2.1 (Int.toNat x3) (wU (List.getD (ix za q1.1.2.1 x2.2.1).2.2.2.2.2.2.2.1 (Int.toNat x3) (0:Int) + x4))))) (Int.toNat x2.2.1) (u5 (List.getD (List.set q1.1.2.1 (Int.toNat x2.2.1) (u7 (ix za q1.1.2.1 x2.2.1) (List.set (ix za q1.1.2.1 x2.2.1).2.2.2.2.2.2.2.1 (Int.toNat x3) (wU (List.getD (ix za q1.1.2.1 x2.2.1).2.2.2.2.2.2.2.1 (Int.toNat x3) (0:Int) + x4))))) (Int.toNat x2.2.1) (zf zj)) (List.set (List.getD (List.set q1.1.2.1 (Int.toNat x2.2.1) (u7 (ix za q1.1.2.1 x2.2.1) (List.set (ix za q1.1.2.1 x2.2.1).2.2.2.2.2.2.2.1 (Int.toNat x3) (wU (List.getD (ix za q1.1.2.1 x2.2.1).2.2.2.2.2.2.2.1 (Int.toNat x3) (0:Int) + x4))))) (Int.toNat x2.2.1) (zf zj)).2.2.2.2.2.1 (Int.toNat x2.2.2.1) q2.1)))) then bif decide (List.length q1.1.2.2.1 = List.length q1.1.2.2.1) then some ((u1 q1.1 (List.set (List.set q1.1.2.1 (Int.toNat x2.2.1) (u7 (ix za q1.1.2.1 x2.2.1) (List.set (ix za q1.1.2.1 x2.2.1).2.2.2.2.2.2.2.1 (Int.toNat x3) (wU (List.getD (ix za q1.1.2.1 x2.2.1).2.2.2.2.2.2.2.1 (Int.toNat x3) (0:Int) + x4))))) (Int.toNat x2.2.1) (u5 (List.getD (List.set q1.1.2.1 (Int.toNat x2.2.1) (u7 (ix za q1.1.2.1 x2.2.1) (List.set (ix za q1.1.2.1 x2.2.1).2.2.2.2.2.2.2.1 (Int.toNat x3) (wU (List.getD (ix za q1.1.2.1 x2.2.1).2.2.2.2.2.2.2.1 (Int.toNat x3) (0:Int) + x4))))) (Int.toNat x2.2.1) (zf zj)) (List.set (List.getD (List.set q1.1.2.1 (Int.toNat x2.2.1) (u7 (ix za q1.1.2.1 x2.2.1) (List.set (ix za q1.1.2.1 x2.2.1).2.2.2.2.2.2.2.1 (Int.toNat x3) (wU (List.getD (ix za q1.1.2.1 x2.2.1).2.2.2.2.2.2.2.1 (Int.toNat x3) (0:Int) + x4))))) (Int.toNat x2.2.1) (zf zj)).2.2.2.2.2.1 (Int.toNat x2.2.2.1) q2.1)))),0,()) else none else none)))))))) else Option.bind (qv (x1,())) fun q3=>some ((0,[],[],[],[],[],()),8,()) else bif decide (x4 ≤ wU ((ix qC x0.2.2.2.2.1 x2.2.1).2.2.2.2.2.1 - List.getD (ix za x1.2.1 x2.2.1).2.2.2.2.2.2.2.1 (Int.toNat x3) (0:Int))) then Option.bind (qv (x1,())) fun q4=>some ((0,[],[],[],[],[],()),5,()) else Option.bind (qv (x1,())) fun q5=>some ((0,[],[],[],[],[],()),5,()))))) else some ((0,[],[],[],[],[],()),1,())
abbrev zrC:Fun:=⟨25,(ch [zy,zu,tMe,tI,tU]),(ch [zu,tI]),3,j9⟩
theorem zAT:Sq zrC:=zD1 (d:=true) (js:=[999999]) (fs:=[(19,Tryz.f19),(20,Tryz.f20),(22,Tryz.f22),(58,Tryz.f58),(50,Tryz.f50),(53,Tryz.f53),(47,Tryz.f47)]) (n:=3) ⟨⟨Tryz.func19,by kernel_rfl⟩,⟨Tryz.func20,by kernel_rfl⟩,⟨Tryz.func22,by kernel_rfl⟩,⟨Tryz.func58,by kernel_rfl⟩,⟨Tryz.func50,by kernel_rfl⟩,⟨Tryz.func53,by kernel_rfl⟩,⟨Tryz.func47,by kernel_rfl⟩,trivial⟩ (K:=0) Tryz.func25 (by kernel_rfl) (funext fun (x0,x1,x2,x3,x4,())=>by kernel_rfl)
def vS:(ze × (zb × (pMe × (Int × (Int × Unit)))))→Option (zb × (Int × Unit)):=fun (x0,x1,x2,x3,x4,()) =>
  Option.bind (zct (x0,x1,x2,x3,x4,())) fun q0=>bif q0.1 then Option.bind (qv (x1,())) fun q1=>inR x2.2.1 ((List.length q1.1.2.1):Int) (bif decide (List.length q1.1.2.1 ≤ Int.toNat x2.2.1) then none else inR x2.2.2.1 ((List.length (ix za q1.1.2.1 x2.2.1).2.2.2.2.2.1):Int) (Option.bind (zcq (List.getD (ix za q1.1.2.1 x2.2.1).2.2.2.2.2.1 (Int.toNat x2.2.2.1) (zf (.arr 4 tU)),x3,x4,())) fun q2=>inR x2.2.1 ((List.length q1.1.2.1):Int) (bif decide (List.length q1.1.2.1 ≤ Int.toNat x2.2.1) then none else inR x2.2.2.1 ((List.length (ix za q1.1.2.1 x2.2.1).2.2.2.2.2.1):Int) (bif q2.2.1 != 0 then some ((0,[],[],[],[],[],()),q2.2.1,()) else inR x2.2.1 ((List.length (List.set q1.1.2.1 (Int.toNat x2.2.1) (u5 (ix za q1.1.2.1 x2.2.1) (List.set (ix za q1.1.2.1 x2.2.1).2.2.2.2.2.1 (Int.toNat x2.2.2.1) q2.1)))):Int) (inR x3 (↑4:Int) (inR x2.2.1 ((List.length (List.set q1.1.2.1 (Int.toNat x2.2.1) (u5 (ix za q1.1.2.1 x2.2.1) (List.set (ix za q1.1.2.1 x2.2.1).2.2.2.2.2.1 (Int.toNat x2.2.2.1) q2.1)))):Int) (inR x3 (↑4:Int) (bif decide (List.length q1.1.2.1 = List.length (List.set (List.set q1.1.2.1 (Int.toNat x2.2.1) (u5 (ix za q1.1.2.1 x2.2.1) (List.set (ix za q1.1.2.1 x2.2.1).2.2.2.2.2.1 (Int.toNat x2.2.2.1) q2.1))) (Int.toNat x2.2.1) (u8 (List.getD (List.set q1.1.2.1 (Int.toNat x2.2.1) (u5 (ix za q1.1.2.1 x2.2.1) (List.set (ix za q1.1.2.1 x2.2.1).2.2.2.2.2.1 (Int.toNat x2.2.2.1) q2.1))) (Int.toNat x2.2.1) (zf zj)) (List.set (List.getD (List.set q1.1.2.1 (Int.toNat x2.2.1) (u5 (ix za q1.1.2.1 x2.2.1) (List.set (ix za q1.1.2.1 x2.2.1).2.2.2.2.2.1 (Int.toNat x2.2.2.1) q2.1))) (Int.toNat x2.2.1) (zf zj)).2.2.2.2.2.2.2.2.1 (Int.toNat x3) (wU (List.getD (List.getD (List.set q1.1.2.1 (Int.toNat x2.2.1) (u5 (ix za q1.1.2.1 x2.2.1) (List.set (ix za q1.1.2.1 x2.2.1).2.2.2.2.2.1 (Int.toNat x2.2.2.1) q2.1))) (Int.toNat x2.2.1) (zf zj)).2.2.2.2.2.2.2.2.1 (Int.toNat x3) (0:Int) + x4)))))) then bif decide (List.length q1.1.2.2.1 = List.length q1.1.2.2.1) then some ((u1 q1.1 (List.set (List.set q1.1.2.1 (Int.toNat x2.2.1) (u5 (ix za q1.1.2.1 x2.2.1) (List.set (ix za q1.1.2.1 x2.2.1).2.2.2.2.2.1 (Int.toNat x2.2.2.1) q2.1))) (Int.toNat x2.2.1) (u8 (List.getD (List.set q1.1.2.1 (Int.toNat x2.2.1) (u5 (ix za q1.1.2.1 x2.2.1) (List.set (ix za q1.1.2.1 x2.2.1).2.2.2.2.2.1 (Int.toNat x2.2.2.1) q2.1))) (Int.toNat x2.2.1) (zf zj)) (List.set (List.getD (List.set q1.1.2.1 (Int.toNat x2.2.1) (u5 (ix za q1.1.2.1 x2.2.1) (List.set (ix za q1.1.2.1 x2.2.1).2.2.2.2.2.1 (Int.toNat x2.2.2.1) q2.1))) (Int.toNat x2.2.1) (zf zj)).2.2.2.2.2.2.2.2.1 (Int.toNat x3) (wU (List.getD (List.getD (List.set q1.1.2.1 (Int.toNat x2.2.1) (u5 (ix za q1.1.2.1 x2.2.1) (List.set (ix za q1.1.2.1 x2.2.1).2.2.2.2.2.1 (Int.toNat x2.2.2.1) q2.1))) (Int.toNat x2.2.1) (zf zj)).2.2.2.2.2.2.2.2.1 (Int.toNat x3) (0:Int) + x4)))))),0,()) else none else none)))))))) else some ((0,[],[],[],[],[],()),1,())
abbrev zrD:Fun:=⟨26,(ch [zy,zu,tMe,tI,tU]),(ch [zu,tI]),3,vS⟩
theorem zAU:Sq zrD:=zD1 (d:=true) (js:=[999999]) (fs:=[(19,Tryz.f19),(21,Tryz.f21),(59,Tryz.f59),(51,Tryz.f51),(47,Tryz.f47)]) (n:=3) ⟨⟨Tryz.func19,by kernel_rfl⟩,⟨Tryz.func21,by kernel_rfl⟩,⟨Tryz.func59,by kernel_rfl⟩,⟨Tryz.func51,by kernel_rfl⟩,⟨Tryz.func47,by kernel_rfl⟩,trivial⟩ (K:=0) Tryz.func26 (by kernel_rfl) (funext fun (x0,x1,x2,x3,x4,())=>by kernel_rfl)
def yH:(ze × (zb × (pMe × (Int × (Int × (Int × Unit))))))→Option (zb × (Int × Unit)):=fun (x0,x1,x2,x3,x4,x5,()) =>
  Option.bind (zct (x0,x1,x2,x4,x5,())) fun q0=>bif q0.1 then bif x3 == x2.2.2.1 then some ((0,[],[],[],[],[],()),1,()) else Option.bind (za6 (x0,x1,(x2.1,x2.2.1,x3,(zf tMe).2.2.2),())) fun q1=>bif q1.1 then Option.bind (qv (x1,())) fun q2=>inR x2.2.1 ((List.length q2.1.2.1):Int) (bif decide (List.length q2.1.2.1 ≤ Int.toNat x2.2.1) then none else inR x2.2.2.1 ((List.length (ix za q2.1.2.1 x2.2.1).2.2.2.2.2.1):Int) (Option.bind (zcq (List.getD (ix za q2.1.2.1 x2.2.1).2.2.2.2.2.1 (Int.toNat x2.2.2.1) (zf (.arr 4 tU)),x4,x5,())) fun q3=>inR x2.2.1 ((List.length q2.1.2.1):Int) (bif decide (List.length q2.1.2.1 ≤ Int.toNat x2.2.1) then none else inR x2.2.2.1 ((List.length (ix za q2.1.2.1 x2.2.1).2.2.2.2.2.1):Int) (bif q3.2.1 != 0 then some ((0,[],[],[],[],[],()),q3.2.1,()) else inR x2.2.1 ((List.length (List.set q2.1.2.1 (Int.toNat x2.2.1) (u5 (ix za q2.1.2.1 x2.2.1) (List.set (ix za q2.1.2.1 x2.2.1).2.2.2.2.2.1 (Int.toNat x2.2.2.1) q3.1)))):Int) (bif decide (List.length q2.1.2.1 ≤ Int.toNat x2.2.1) then none else inR x3 ((List.length (List.getD (List.set q2.1.2.1 (Int.toNat x2.2.1) (u5 (ix za q2.1.2.1 x2.2.1) (List.set (ix za q2.1.2.1 x2.2.1).2.2.2.2.2.1 (Int.toNat x2.2.2.1) q3.1))) (Int.toNat x2.2.1) (zf zj)).2.2.2.2.2.1):Int) (Option.bind (zcp (List.getD (List.getD (List.set q2.1.2.1 (Int.toNat x2.2.1) (u5 (ix za q2.1.2.1 x2.2.1) (List.set (ix za q2.1.2.1 x2.2.1).2.2.2.2.2.1 (Int.toNat x2.2.2.1) q3.1))) (Int.toNat x2.2.1) (zf zj)).2.2.2.2.2.1 (Int.toNat x3) (zf (.arr 4 tU)),x4,x5,())) fun q4=>inR x2.2.1 ((List.length (List.set q2.1.2.1 (Int.toNat x2.2.1) (u5 (ix za q2.1.2.1 x2.2.1) (List.set (ix za q2.1.2.1 x2.2.1).2.2.2.2.2.1 (Int.toNat x2.2.2.1) q3.1)))):Int) (bif decide (List.length q2.1.2.1 ≤ Int.toNat x2.2.1) then none else inR x3 ((List.length (List.getD (List.set q2.1.2.1 (Int.toNat x2.2.1) (u5 (ix za q2.1.2.1 x2.2.1) (List.set (ix za q2.1.2.1 x2.2.1).2.2.2.2.2.1 (Int.toNat x2.2.2.1) q3.1))) (Int.toNat x2.2.1) (zf zj)).2.2.2.2.2.1):Int) (bif q4.2.1 != 0 then some ((0,[],[],[],[],[],()),q4.2.1,()) else bif decide (List.length q2.1.2.1 = List.length (List.set (List.set q2.1.2.1 (Int.toNat x2.2.1) (u5 (ix za q2.1.2.1 x2.2.1) (List.set (ix za q2.1.2.1 x2.2.1).2.2.2.2.2.1 (Int.toNat x2.2.2.1) q3.1))) (Int.toNat x2.2.1) (u5 (List.getD (List.set q2.1.2.1 (Int.toNat x2.2.1) (u5 (ix za q2.1.2.1 x2.2.1) (List.set (ix za q2.1.2.1 x2.2.1).2.2.2.2.2.1 (Int.toNat x2.2.2.1) q3.1))) (Int.toNat x2.2.1) (zf zj)) (List.set (List.getD (List.set q2.1.2.1 (Int.toNat x2.2.1) (u5 (ix za q2.1.2.1 x2.2.1) (List.set (ix za q2.1.2.1 x2.2.1).2.2.2.2.2.1 (Int.toNat x2.2.2.1) q3.1))) (Int.toNat x2.2.1) (zf zj)).2.2.2.2.2.1 (Int.toNat x3) q4.1)))) then bif decide (List.length q2.1.2.2.1 = List.length q2.1.2.2.1) then some ((u1 q2.1 (List.set (List.set q2.1.2.1 (Int.toNat x2.2.1) (u5 (ix za q2.1.2.1 x2.2.1) (List.set (ix za q2.1.2.1 x2.2.1).2.2.2.2.2.1 (Int.toNat x2.2.2.1) q3.1))) (Int.toNat x2.2.1) (u5 (List.getD (List.set q2.1.2.1 (Int.toNat x2.2.1) (u5 (ix za q2.1.2.1 x2.2.1) (List.set (ix za q2.1.2.1 x2.2.1).2.2.2.2.2.1 (Int.toNat x2.2.2.1) q3.1))) (Int.toNat x2.2.1) (zf zj)) (List.set (List.getD (List.set q2.1.2.1 (Int.toNat x2.2.1) (u5 (ix za q2.1.2.1 x2.2.1) (List.set (ix za q2.1.2.1 x2.2.1).2.2.2.2.2.1 (Int.toNat x2.2.2.1) q3.1))) (Int.toNat x2.2.1) (zf zj)).2.2.2.2.2.1 (Int.toNat x3) q4.1)))),0,()) else none else none)))))))) else some ((0,[],[],[],[],[],()),1,()) else some ((0,[],[],[],[],[],()),1,())
abbrev zto:Fun:=⟨27,(ch [zy,zu,tMe,tI,tI,tU]),(ch [zu,tI]),3,yH⟩
theorem zCv:Sq zto:=zD1 (d:=true) (js:=[999999]) (fs:=[(19,Tryz.f19),(21,Tryz.f21),(22,Tryz.f22),(51,Tryz.f51),(53,Tryz.f53),(47,Tryz.f47)]) (n:=3) ⟨⟨Tryz.func19,by kernel_rfl⟩,⟨Tryz.func21,by kernel_rfl⟩,⟨Tryz.func22,by kernel_rfl⟩,⟨Tryz.func51,by kernel_rfl⟩,⟨Tryz.func53,by kernel_rfl⟩,⟨Tryz.func47,by kernel_rfl⟩,trivial⟩ (K:=0) Tryz.func27 (by kernel_rfl) (funext fun (x0,x1,x2,x3,x4,x5,())=>by kernel_rfl)
def vT:(ze × (zb × (pMe × (Int × (Int × (Int × (Int × Unit)))))))→Option (zb × (Int × Unit)):=fun (x0,x1,x2,x3,x4,x5,x6,()) =>
  Option.bind (zct (x0,x1,x2,x5,x6,())) fun q0=>bif q0.1 then bif decide (x3 < 0) then some ((0,[],[],[],[],[],()),1,()) else bif decide (x3 ≥ ((List.length x0.1):Int)) then some ((0,[],[],[],[],[],()),1,()) else bif decide (x4 < 0) then some ((0,[],[],[],[],[],()),1,()) else bif decide (x4 ≥ ((List.length x0.2.2.1):Int)) then some ((0,[],[],[],[],[],()),1,()) else bif x3 != x2.2.1 then Option.bind (zi5 (x0,x2.2.1,x3,())) fun q1=>bif q1.1 then Option.bind (qv (x1,())) fun q2=>inR x2.2.1 ((List.length q2.1.2.1):Int) (bif decide (List.length q2.1.2.1 ≤ Int.toNat x2.2.1) then none else inR x2.2.2.1 ((List.length (ix za q2.1.2.1 x2.2.1).2.2.2.2.2.1):Int) (Option.bind (zcq (List.getD (ix za q2.1.2.1 x2.2.1).2.2.2.2.2.1 (Int.toNat x2.2.2.1) (zf (.arr 4 tU)),x5,x6,())) fun q3=>inR x2.2.1 ((List.length q2.1.2.1):Int) (bif decide (List.length q2.1.2.1 ≤ Int.toNat x2.2.1) then none else inR x2.2.2.1 ((List.length (ix za q2.1.2.1 x2.2.1).2.2.2.2.2.1):Int) (bif q3.2.1 != 0 then some ((0,[],[],[],[],[],()),q3.2.1,()) else inR x3 ((List.length (List.set q2.1.2.1 (Int.toNat x2.2.1) (u5 (ix za q2.1.2.1 x2.2.1) (List.set (ix za q2.1.2.1 x2.2.1).2.2.2.2.2.1 (Int.toNat x2.2.2.1) q3.1)))):Int) (bif decide (List.length q2.1.2.1 ≤ Int.toNat x3) then none else inR x4 ((List.length (List.getD (List.set q2.1.2.1 (Int.toNat x2.2.1) (u5 (ix za q2.1.2.1 x2.2.1) (List.set (ix za q2.1.2.1 x2.2.1).2.2.2.2.2.1 (Int.toNat x2.2.2.1) q3.1))) (Int.toNat x3) (zf zj)).2.2.2.2.2.1):Int) (Option.bind (zcp (List.getD (List.getD (List.set q2.1.2.1 (Int.toNat x2.2.1) (u5 (ix za q2.1.2.1 x2.2.1) (List.set (ix za q2.1.2.1 x2.2.1).2.2.2.2.2.1 (Int.toNat x2.2.2.1) q3.1))) (Int.toNat x3) (zf zj)).2.2.2.2.2.1 (Int.toNat x4) (zf (.arr 4 tU)),x5,x6,())) fun q4=>inR x3 ((List.length (List.set q2.1.2.1 (Int.toNat x2.2.1) (u5 (ix za q2.1.2.1 x2.2.1) (List.set (ix za q2.1.2.1 x2.2.1).2.2.2.2.2.1 (Int.toNat x2.2.2.1) q3.1)))):Int) (bif decide (List.length q2.1.2.1 ≤ Int.toNat x3) then none else inR x4 ((List.length (List.getD (List.set q2.1.2.1 (Int.toNat x2.2.1) (u5 (ix za q2.1.2.1 x2.2.1) (List.set (ix za q2.1.2.1 x2.2.1).2.2.2.2.2.1 (Int.toNat x2.2.2.1) q3.1))) (Int.toNat x3) (zf zj)).2.2.2.2.2.1):Int) (bif q4.2.1 != 0 then some ((0,[],[],[],[],[],()),q4.2.1,()) else bif decide (List.length q2.1.2.1 = List.length (List.set (List.set q2.1.2.1 (Int.toNat x2.2.1) (u5 (ix za q2.1.2.1 x2.2.1) (List.set (ix za q2.1.2.1 x2.2.1).2.2.2.2.2.1 (Int.toNat x2.2.2.1) q3.1))) (Int.toNat x3) (u5 (List.getD (List.set q2.1.2.1 (Int.toNat x2.2.1) (u5 (ix za q2.1.2.1 x2.2.1) (List.set (ix za q2.1.2.1 x2.2.1).2.2.2.2.2.1 (Int.toNat x2.2.2.1) q3.1))) (Int.toNat x3) (zf zj)) (List.set (List.getD (List.set q2.1.2.1 (Int.toNat x2.2.1) (u5 (ix za q2.1.2.1 x2.2.1) (List.set (ix za q2.1.2.1 x2.2.1).2.2.2.2.2.1 (Int.toNat x2.2.2.1) q3.1))) (Int.toNat x3) (zf zj)).2.2.2.2.2.1 (Int.toNat x4) q4.1)))) then bif decide (List.length q2.1.2.2.1 = List.length q2.1.2.2.1) then some ((u1 q2.1 (List.set (List.set q2.1.2.1 (Int.toNat x2.2.1) (u5 (ix za q2.1.2.1 x2.2.1) (List.set (ix za q2.1.2.1 x2.2.1).2.2.2.2.2.1 (Int.toNat x2.2.2.1) q3.1))) (Int.toNat x3) (u5 (List.getD (List.set q2.1.2.1 (Int.toNat x2.2.1) (u5 (ix za q2.1.2.1 x2.2.1) (List.set (ix za q2.1.2.1 x2.2.1).2.2.2.2.2.1 (Int.toNat x2.2.2.1) q3.1))) (Int.toNat x3) (zf zj)) (List.set (List.getD (List.set q2.1.2.1 (Int.toNat x2.2.1) (u5 (ix za q2.1.2.1 x2.2.1) (List.set (ix za q2.1.2.1 x2.2.1).2.2.2.2.2.1 (Int.toNat x2.2.2.1) q3.1))) (Int.toNat x3) (zf zj)).2.2.2.2.2.1 (Int.toNat x4) q4.1)))),0,()) else none else none)))))))) else Option.bind (qv (x1,())) fun q5=>some ((0,[],[],[],[],[],()),5,()) else Option.bind (qv (x1,())) fun q6=>some ((0,[],[],[],[],[],()),5,()) else some ((0,[],[],[],[],[],()),1,())
abbrev zrE:Fun:=⟨6,(ch [zy,zu,tMe,tI,tI,tI,tU]),(ch [zu,tI]),3,vT⟩
theorem zAV:Sq zrE:=zD1 (d:=true) (js:=[999999]) (fs:=[(19,Tryz.f19),(20,Tryz.f20),(21,Tryz.f21),(22,Tryz.f22),(50,Tryz.f50),(51,Tryz.f51),(53,Tryz.f53),(47,Tryz.f47)]) (n:=3) ⟨⟨Tryz.func19,by kernel_rfl⟩,⟨Tryz.func20,by kernel_rfl⟩,⟨Tryz.func21,by kernel_rfl⟩,⟨Tryz.func22,by kernel_rfl⟩,⟨Tryz.func50,by kernel_rfl⟩,⟨Tryz.func51,by kernel_rfl⟩,⟨Tryz.func53,by kernel_rfl⟩,⟨Tryz.func47,by kernel_rfl⟩,trivial⟩ (K:=0) Tryz.func6 (by kernel_rfl) (funext fun (x0,x1,x2,x3,x4,x5,x6,())=>by kernel_rfl)
abbrev L13:List Fun:=zrC :: zrD :: zto :: zrE :: L12
theorem h13:Sds Tryz.prog E0 L13:=⟨zAT,zAU,zCv,zAV,h12⟩
theorem zHx {d:Bool} {F:Fun} {f:Go.Func} {K:Nat} (hf:Tryz.prog.funcs[F.id]? = some f) (ho:jL f = true) (h:evF (En E0 d L13) K f F.md F.a F.r = F.spec):Sd Tryz.prog E0 F:=mkS h13 hf ho h
def yc:Unit→Option (Bool × Unit):=fun () =>
  Option.bind (zpz ()) fun q0=>Option.bind (zfQ (q0.1,())) fun q1=>Option.bind (j9 (q0.1,q1.1,(1,1,(zf tMe).2.2),2,5,())) fun q2=>Option.bind (vS (q0.1,q2.1,(1,1,(zf tMe).2.2),2,2,())) fun q3=>Option.bind (yb (q0.1,q3.1,(1,1,(zf tMe).2.2),())) fun q4=>Option.bind (yH (q0.1,q3.1,(1,1,(zf tMe).2.2),1,2,1,())) fun q5=>Option.bind (vT (q0.1,q5.1,(1,1,(zf tMe).2.2),2,1,2,2,())) fun q6=>Option.bind (vT (q0.1,q5.1,(1,1,(zf tMe).2.2),0,1,2,2,())) fun q7=>Option.bind (vS (q0.1,q6.1,(1,1,(zf tMe).2.2),2,1,())) fun q8=>Option.bind (j9 (q0.1,q1.1,(u2 (u0 (zf tMe) 0) 1),2,5,())) fun q9=>Option.bind (j9 (q0.1,q2.1,(1,1,(zf tMe).2.2),2,996,())) fun q10=>Option.bind (yH (q0.1,q3.1,(1,1,(zf tMe).2.2),0,2,1,())) fun q11=>bif q1.2.1 != 0 then some (false,()) else bif q2.2.1 != 0 then some (false,()) else bif q3.2.1 != 0 then some (false,()) else bif q4.2.1 != 0 then some (false,()) else bif q5.2.1 != 0 then some (false,()) else bif q6.2.1 != 0 then some (false,()) else bif ((List.length q6.1.2.1):Int) != 3 then some (false,()) else bif eqI (.arr 4 tU) q4.1 (zi (zi (zi (zf (.arr 4 tU)) 0 0) 1 0) 2 3) then bif decide (2 < ((List.length q6.1.2.1):Int)) then bif decide (1 < ((List.length (ix za q6.1.2.1 2).2.2.2.2.2.1):Int)) then bif List.getD (List.getD (ix za q6.1.2.1 2).2.2.2.2.2.1 (Int.toNat 1) (zf (.arr 4 tU))) (Int.toNat 2) (0:Int) == 2 then bif decide (1 < ((List.length q6.1.2.1):Int)) then bif decide (1 < ((List.length (ix za q6.1.2.1 1).2.2.2.2.2.1):Int)) then bif List.getD (List.getD (ix za q6.1.2.1 1).2.2.2.2.2.1 (Int.toNat 1) (zf (.arr 4 tU))) (Int.toNat 2) (0:Int) == 1 then bif q7.2.1 == 5 then bif q8.2.1 == 6 then bif q9.2.1 == 5 then bif q10.2.1 == 8 then bif q11.2.1 == 1 then bif decide (1 < ((List.length q1.1.2.1):Int)) then bif List.getD (ix za q1.1.2.1 1).2.2.2.2.2.2.2.1 (Int.toNat 2) (0:Int) == 0 then bif decide (1 < ((List.length q6.1.2.1):Int)) then bif List.getD (ix za q6.1.2.1 1).2.2.2.2.2.2.2.2.1 (Int.toNat 2) (0:Int) == 2 then some (true,()) else some (false,()) else none else some (false,()) else none else some (false,()) else some (false,()) else some (false,()) else some (false,()) else some (false,()) else some (false,()) else none else none else some (false,()) else none else none else some (false,())
abbrev zpX:Fun:=⟨7,.unit,(ch [.bool]),0,yc⟩
theorem zy2:Sq zpX:=zHx (d:=false) (K:=0) Tryz.func7 (by kernel_rfl) (funext fun ()=>by kernel_rfl)
def zhS:(ze × (zb × (pMe × (zag × Unit))))→Option (zb × (Int × Unit)):=fun (x0,x1,x2,x3,()) =>
  bif x3.1 == 1 then Option.bind (j9 (x0,x1,x2,x3.2.2.2.1,x3.2.2.2.2.1,())) fun q0=>some q0 else bif x3.1 == 2 then Option.bind (vS (x0,x1,x2,x3.2.2.2.1,x3.2.2.2.2.1,())) fun q1=>some q1 else bif x3.1 == 3 then Option.bind (yH (x0,x1,x2,x3.2.2.1,x3.2.2.2.1,x3.2.2.2.2.1,())) fun q2=>some q2 else Option.bind (vT (x0,x1,x2,x3.2.1,x3.2.2.1,x3.2.2.2.1,x3.2.2.2.2.1,())) fun q3=>some q3
abbrev zwp:Fun:=⟨10,(ch [zy,zu,tMe,qW]),(ch [zu,tI]),0,zhS⟩
theorem zD2:Sq zwp:=zHx (d:=false) (K:=0) Tryz.func10 (by kernel_rfl) (funext fun (x0,x1,x2,x3,())=>by kernel_rfl)
abbrev L14:List Fun:=zpX :: zwp :: L13
theorem h14:Sds Tryz.prog E0 L14:=⟨zy2,zD2,h13⟩
theorem zIb {d:Bool} {F:Fun} {f:Go.Func} {K:Nat} (hf:Tryz.prog.funcs[F.id]? = some f) (ho:jL f = true) (h:evF (En E0 d L14) K f F.md F.a F.r = F.spec):Sd Tryz.prog E0 F:=mkS h14 hf ho h
def P_law30_MoneyAlike:(ze × (zb × (zb × (pMe × (zag × (zr × Unit))))))→Option (Bool × Unit):=fun (x0,x1,x2,x3,x4,x5,()) =>
  Option.bind (za6 (x0,x1,x3,())) fun q0=>bif q0.1 then Option.bind (zdP (x0,x2,())) fun q1=>bif q1.1 then inR x3.2.1 ((List.length x0.1):Int) (Option.bind (zaF (ix qz x0.1 x3.2.1,x5,())) fun q2=>bif q2.1 then Option.bind (zcs (x0,x1,x2,x5,())) fun q3=>bif q3.1 then Option.bind (zhS (x0,x1,x3,x4,())) fun q4=>Option.bind (zhS (x0,x2,x3,x4,())) fun q5=>Option.bind (yb (x0,x1,x3,())) fun q6=>Option.bind (yb (x0,x2,x3,())) fun q7=>Option.bind (yc ()) fun q8=>bif q8.1 then bif q4.2.1 == q5.2.1 then bif q4.2.1 != 0 then bif eqI (.arr 4 tU) q6.1 q7.1 then bif q6.2.1 == q7.2.1 then some (true,()) else some (false,()) else some (false,()) else Option.bind (zcs (x0,q4.1,q5.1,x5,())) fun q9=>bif q9.1 then bif eqI (.arr 4 tU) q6.1 q7.1 then bif q6.2.1 == q7.2.1 then some (true,()) else some (false,()) else some (false,()) else some (false,()) else some (false,()) else some (false,()) else Option.bind (yc ()) fun q10=>bif q10.1 then some (true,()) else some (false,()) else Option.bind (yc ()) fun q11=>bif q11.1 then some (true,()) else some (false,())) else Option.bind (yc ()) fun q12=>bif q12.1 then some (true,()) else some (false,()) else Option.bind (yc ()) fun q13=>bif q13.1 then some (true,()) else some (false,())
abbrev zrF:Fun:=⟨5,(ch [zy,zu,zu,tMe,qW,zA]),(ch [.bool]),0,P_law30_MoneyAlike⟩
theorem s_law30_MoneyAlike:Sq zrF:=zIb (d:=false) (K:=0) Tryz.func5 (by kernel_rfl) (funext fun (x0,x1,x2,x3,x4,x5,())=>by kernel_rfl)
end
end Go.Proofs.YtokcjmkikhgkeaaGreatDoor
end
section
namespace Go.Proofs.YtokcjmkikhgkeaaGreatDoor
open Go.Ev
theorem zwq {l:List Int} {g:Int × Unit→Option (Bool × Unit)} {p:Int→Bool} (hl:l.length ≤ Go.maxLen) (hp:∀ x ∈ l,g (x,()) = some (p x,())):zbD (l,some g,()) = some (vG p l 0,()):=qJ (τ:=tI) (B:=zdh) (fun _ _ _ _ _=>rfl) hl hp
theorem zb8 {l:List Int} {g:Int × Unit→Option (Bool × Unit)} {p:Int→Bool} (hl:l.length ≤ Go.maxLen) (hp:∀ x ∈ l,g (x,()) = some (p x,())):qE (l,some g,()) = some (l.any p,()):=qk (τ:=tI) (f:=zbD) (zwq hl hp)
theorem zsP {l:List zr} {g:zr × Unit→Option (Bool × Unit)} {p:zr→Bool} (hl:l.length ≤ Go.maxLen) (hp:∀ x ∈ l,g (x,()) = some (p x,())):zas (l,some g,()) = some (vG p l 0,()):=qJ (τ:=zA) (B:=zcg) (fun _ _ _ _ _=>rfl) hl hp
theorem zhT {l:List zr} {g:zr × Unit→Option (Bool × Unit)} {p:zr→Bool} (hl:l.length ≤ Go.maxLen) (hp:∀ x ∈ l,g (x,()) = some (p x,())):ye (l,some g,()) = some (l.any p,()):=qk (τ:=zA) (f:=zas) (zsP hl hp)
theorem zqp {l:List qR} {g:qR × Unit→Option (Bool × Unit)} {p:qR→Bool} (hl:l.length ≤ Go.maxLen) (hp:∀ x ∈ l,g (x,()) = some (p x,())):yG (l,some g,()) = some (vG p l 0,()):=qJ (τ:=qQ) (B:=zaT) (fun _ _ _ _ _=>rfl) hl hp
theorem znk {l:List qR} {g:qR × Unit→Option (Bool × Unit)} {p:qR→Bool} (hl:l.length ≤ Go.maxLen) (hp:∀ x ∈ l,g (x,()) = some (p x,())):zax (l,some g,()) = some (l.any p,()):=qk (τ:=qQ) (f:=yG) (zqp hl hp)
theorem zsQ {l:List zg} {g:zg × Unit→Option (Bool × Unit)} {p:zg→Bool} (hl:l.length ≤ Go.maxLen) (hp:∀ x ∈ l,g (x,()) = some (p x,())):zat (l,some g,()) = some (vG p l 0,()):=qJ (τ:=zj) (B:=zci) (fun _ _ _ _ _=>rfl) hl hp
theorem zo2 {l:List zg} {g:zg × Unit→Option (Bool × Unit)} {p:zg→Bool} (hl:l.length ≤ Go.maxLen) (hp:∀ x ∈ l,g (x,()) = some (p x,())):jN (l,some g,()) = some (l.any p,()):=qk (τ:=zj) (f:=zat) (zsQ hl hp)
theorem zux {l:List jc} {g:jc × Unit→Option (Bool × Unit)} {p:jc→Bool} (hl:l.length ≤ Go.maxLen) (hp:∀ x ∈ l,g (x,()) = some (p x,())):zbb (l,some g,()) = some (vG p l 0,()):=qJ (τ:=qj) (B:=zcP) (fun _ _ _ _ _=>rfl) hl hp
theorem zqq {l:List jc} {g:jc × Unit→Option (Bool × Unit)} {p:jc→Bool} (hl:l.length ≤ Go.maxLen) (hp:∀ x ∈ l,g (x,()) = some (p x,())):zco (l,some g,()) = some (l.any p,()):=qk (τ:=qj) (f:=zbb) (zux hl hp)
theorem zuy {l:List qc} {g:qc × Unit→Option (Bool × Unit)} {p:qc→Bool} (hl:l.length ≤ Go.maxLen) (hp:∀ x ∈ l,g (x,()) = some (p x,())):zbc (l,some g,()) = some (vG p l 0,()):=qJ (τ:=zU) (B:=zcR) (fun _ _ _ _ _=>rfl) hl hp
theorem zil {l:List qc} {g:qc × Unit→Option (Bool × Unit)} {p:qc→Bool} (hl:l.length ≤ Go.maxLen) (hp:∀ x ∈ l,g (x,()) = some (p x,())):jk (l,some g,()) = some (l.any p,()):=qk (τ:=zU) (f:=zbc) (zuy hl hp)
theorem zuz {l:List qs} {g:qs × Unit→Option (Bool × Unit)} {p:qs→Bool} (hl:l.length ≤ Go.maxLen) (hp:∀ x ∈ l,g (x,()) = some (p x,())):zbd (l,some g,()) = some (vG p l 0,()):=qJ (τ:=z4) (B:=zcS) (fun _ _ _ _ _=>rfl) hl hp
theorem zim {l:List qs} {g:qs × Unit→Option (Bool × Unit)} {p:qs→Bool} (hl:l.length ≤ Go.maxLen) (hp:∀ x ∈ l,g (x,()) = some (p x,())):jl (l,some g,()) = some (l.any p,()):=qk (τ:=z4) (f:=zbd) (zuz hl hp)
theorem zsR {l:List zp} {g:zp × Unit→Option (Bool × Unit)} {p:zp→Bool} (hl:l.length ≤ Go.maxLen) (hp:∀ x ∈ l,g (x,()) = some (p x,())):zau (l,some g,()) = some (vG p l 0,()):=qJ (τ:=zw) (B:=zcl) (fun _ _ _ _ _=>rfl) hl hp
theorem zhU {l:List zp} {g:zp × Unit→Option (Bool × Unit)} {p:zp→Bool} (hl:l.length ≤ Go.maxLen) (hp:∀ x ∈ l,g (x,()) = some (p x,())):ja (l,some g,()) = some (l.any p,()):=qk (τ:=zw) (f:=zau) (zsR hl hp)
theorem zsS {l:List zn} {g:zn × Unit→Option (Bool × Unit)} {p:zn→Bool} (hl:l.length ≤ Go.maxLen) (hp:∀ x ∈ l,g (x,()) = some (p x,())):zav (l,some g,()) = some (vG p l 0,()):=qJ (τ:=zm) (B:=zcm) (fun _ _ _ _ _=>rfl) hl hp
theorem zo3 {l:List zn} {g:zn × Unit→Option (Bool × Unit)} {p:zn→Bool} (hl:l.length ≤ Go.maxLen) (hp:∀ x ∈ l,g (x,()) = some (p x,())):jO (l,some g,()) = some (l.any p,()):=qk (τ:=zm) (f:=zav) (zsS hl hp)
theorem zsT {l:List zF} {g:zF × Unit→Option (Bool × Unit)} {p:zF→Bool} (hl:l.length ≤ Go.maxLen) (hp:∀ x ∈ l,g (x,()) = some (p x,())):zaw (l,some g,()) = some (vG p l 0,()):=qJ (τ:=zt) (B:=zcn) (fun _ _ _ _ _=>rfl) hl hp
theorem zo4 {l:List zF} {g:zF × Unit→Option (Bool × Unit)} {p:zF→Bool} (hl:l.length ≤ Go.maxLen) (hp:∀ x ∈ l,g (x,()) = some (p x,())):jP (l,some g,()) = some (l.any p,()):=qk (τ:=zt) (f:=zaw) (zsT hl hp)
theorem zly {l:List z9} {g:z9 × Unit→Option (Bool × Unit)} {p:z9→Bool} (hl:l.length ≤ Go.maxLen) (hp:∀ x ∈ l,g (x,()) = some (p x,())):yk (l,some g,()) = some (vG p l 0,()):=qJ (τ:=zV) (B:=zcQ) (fun _ _ _ _ _=>rfl) hl hp
theorem zqr {l:List z9} {g:z9 × Unit→Option (Bool × Unit)} {p:z9→Bool} (hl:l.length ≤ Go.maxLen) (hp:∀ x ∈ l,g (x,()) = some (p x,())):j8 (l,some g,()) = some (l.any p,()):=qk (τ:=zV) (f:=yk) (zly hl hp)
theorem zwr {l:List vA} {g:vA × Unit→Option (Bool × Unit)} {p:vA→Bool} (hl:l.length ≤ Go.maxLen) (hp:∀ x ∈ l,g (x,()) = some (p x,())):zbH (l,some g,()) = some (vG p l 0,()):=qJ (τ:=zW) (B:=zdo) (fun _ _ _ _ _=>rfl) hl hp
theorem zrG {l:List vA} {g:vA × Unit→Option (Bool × Unit)} {p:vA→Bool} (hl:l.length ≤ Go.maxLen) (hp:∀ x ∈ l,g (x,()) = some (p x,())):vu (l,some g,()) = some (l.any p,()):=qk (τ:=zW) (f:=zbH) (zwr hl hp)
theorem zuA {l:List Int} {g:Int × Unit→Option (Bool × Unit)} {p:Int→Bool} (hl:l.length ≤ Go.maxLen) (hp:∀ x ∈ l,g (x,()) = some (p x,())):za9 (l,some g,()) = some (vG p l 0,()):=qJ (τ:=(Ty.int .u8)) (B:=zcM) (fun _ _ _ _ _=>rfl) hl hp
theorem zqs {l:List Int} {g:Int × Unit→Option (Bool × Unit)} {p:Int→Bool} (hl:l.length ≤ Go.maxLen) (hp:∀ x ∈ l,g (x,()) = some (p x,())):j7 (l,some g,()) = some (l.any p,()):=qk (τ:=(Ty.int .u8)) (f:=za9) (zuA hl hp)
theorem zCw {l:List zg} {g:zg × Unit→Option (Bool × Unit)} {p:zg→Bool} (hl:l.length ≤ Go.maxLen) (hp:∀ x ∈ l,g (x,()) = some (p x,())):zfr (l,some g,()) = some (l.all p,()):=by
  have h:jN (l,some fun z=>zba (z.1,some (some g),()),()) = some (l.any fun x=>!p x,()):=zo2 hl fun x hx=>by
    show Option.bind (g (x,())) (fun q=>bif q.1 then some (false,()) else some (true,())) = _
    rw [hp x hx]; cases p x <;> rfl
  show Option.bind (jN (l,some fun z=>zba (z.1,some (some g),()),())) (fun q=>bif q.1 then some (false,()) else some (true,())) = _
  rw [h,← jU]; cases l.any fun x=>!p x <;> rfl
theorem zCx {l:List zn} {g:zn × Unit→Option (Bool × Unit)} {p:zn→Bool} (hl:l.length ≤ Go.maxLen) (hp:∀ x ∈ l,g (x,()) = some (p x,())):zfs (l,some g,()) = some (l.all p,()):=by
  have h:jO (l,some fun z=>zbe (z.1,some (some g),()),()) = some (l.any fun x=>!p x,()):=zo3 hl fun x hx=>by
    show Option.bind (g (x,())) (fun q=>bif q.1 then some (false,()) else some (true,())) = _
    rw [hp x hx]; cases p x <;> rfl
  show Option.bind (jO (l,some fun z=>zbe (z.1,some (some g),()),())) (fun q=>bif q.1 then some (false,()) else some (true,())) = _
  rw [h,← jU]; cases l.any fun x=>!p x <;> rfl
theorem zCy {l:List zF} {g:zF × Unit→Option (Bool × Unit)} {p:zF→Bool} (hl:l.length ≤ Go.maxLen) (hp:∀ x ∈ l,g (x,()) = some (p x,())):zcC (l,some g,()) = some (l.all p,()):=by
  have h:jP (l,some fun z=>zbf (z.1,some (some g),()),()) = some (l.any fun x=>!p x,()):=zo4 hl fun x hx=>by
    show Option.bind (g (x,())) (fun q=>bif q.1 then some (false,()) else some (true,())) = _
    rw [hp x hx]; cases p x <;> rfl
  show Option.bind (jP (l,some fun z=>zbf (z.1,some (some g),()),())) (fun q=>bif q.1 then some (false,()) else some (true,())) = _
  rw [h,← jU]; cases l.any fun x=>!p x <;> rfl
theorem zFt {l:List Int} {g:Int × Unit→Option (Bool × Unit)} {p:Int→Bool} (hl:l.length ≤ Go.maxLen) (hp:∀ x ∈ l,g (x,()) = some (p x,())):yY (l,some g,()) = some (l.all p,()):=by
  have h:qE (l,some fun z=>zcz (z.1,some (some g),()),()) = some (l.any fun x=>!p x,()):=zb8 hl fun x hx=>by
    show Option.bind (g (x,())) (fun q=>bif q.1 then some (false,()) else some (true,())) = _
    rw [hp x hx]; cases p x <;> rfl
  show Option.bind (qE (l,some fun z=>zcz (z.1,some (some g),()),())) (fun q=>bif q.1 then some (false,()) else some (true,())) = _
  rw [h,← jU]; cases l.any fun x=>!p x <;> rfl
theorem zD3 {l:List z9} {g:z9 × Unit→Option (Bool × Unit)} {p:z9→Bool} (hl:l.length ≤ Go.maxLen) (hp:∀ x ∈ l,g (x,()) = some (p x,())):zgw (l,some g,()) = some (l.all p,()):=by
  have h:j8 (l,some fun z=>zbE (z.1,some (some g),()),()) = some (l.any fun x=>!p x,()):=zqr hl fun x hx=>by
    show Option.bind (g (x,())) (fun q=>bif q.1 then some (false,()) else some (true,())) = _
    rw [hp x hx]; cases p x <;> rfl
  show Option.bind (j8 (l,some fun z=>zbE (z.1,some (some g),()),())) (fun q=>bif q.1 then some (false,()) else some (true,())) = _
  rw [h,← jU]; cases l.any fun x=>!p x <;> rfl
theorem zws {l:List qc} {g:qc × Unit→Option (Bool × Unit)} {p:qc→Bool} (hl:l.length ≤ Go.maxLen) (hp:∀ x ∈ l,g (x,()) = some (p x,())):yx (l,some g,()) = some (l.all p,()):=by
  have h:jk (l,some fun z=>zbG (z.1,some (some g),()),()) = some (l.any fun x=>!p x,()):=zil hl fun x hx=>by
    show Option.bind (g (x,())) (fun q=>bif q.1 then some (false,()) else some (true,())) = _
    rw [hp x hx]; cases p x <;> rfl
  show Option.bind (jk (l,some fun z=>zbG (z.1,some (some g),()),())) (fun q=>bif q.1 then some (false,()) else some (true,())) = _
  rw [h,← jU]; cases l.any fun x=>!p x <;> rfl
theorem zFu {l:List vA} {g:vA × Unit→Option (Bool × Unit)} {p:vA→Bool} (hl:l.length ≤ Go.maxLen) (hp:∀ x ∈ l,g (x,()) = some (p x,())):zhE (l,some g,()) = some (l.all p,()):=by
  have h:vu (l,some fun z=>zcA (z.1,some (some g),()),()) = some (l.any fun x=>!p x,()):=zrG hl fun x hx=>by
    show Option.bind (g (x,())) (fun q=>bif q.1 then some (false,()) else some (true,())) = _
    rw [hp x hx]; cases p x <;> rfl
  show Option.bind (vu (l,some fun z=>zcA (z.1,some (some g),()),())) (fun q=>bif q.1 then some (false,()) else some (true,())) = _
  rw [h,← jU]; cases l.any fun x=>!p x <;> rfl
theorem zD4 {l:List qs} {g:qs × Unit→Option (Bool × Unit)} {p:qs→Bool} (hl:l.length ≤ Go.maxLen) (hp:∀ x ∈ l,g (x,()) = some (p x,())):yz (l,some g,()) = some (l.all p,()):=by
  have h:jl (l,some fun z=>zbI (z.1,some (some g),()),()) = some (l.any fun x=>!p x,()):=zim hl fun x hx=>by
    show Option.bind (g (x,())) (fun q=>bif q.1 then some (false,()) else some (true,())) = _
    rw [hp x hx]; cases p x <;> rfl
  show Option.bind (jl (l,some fun z=>zbI (z.1,some (some g),()),())) (fun q=>bif q.1 then some (false,()) else some (true,())) = _
  rw [h,← jU]; cases l.any fun x=>!p x <;> rfl
theorem zCz {l:List zp} {g:zp × Unit→Option (Bool × Unit)} {p:zp→Bool} (hl:l.length ≤ Go.maxLen) (hp:∀ x ∈ l,g (x,()) = some (p x,())):qF (l,some g,()) = some (l.all p,()):=by
  have h:ja (l,some fun z=>zbg (z.1,some (some g),()),()) = some (l.any fun x=>!p x,()):=zhU hl fun x hx=>by
    show Option.bind (g (x,())) (fun q=>bif q.1 then some (false,()) else some (true,())) = _
    rw [hp x hx]; cases p x <;> rfl
  show Option.bind (ja (l,some fun z=>zbg (z.1,some (some g),()),())) (fun q=>bif q.1 then some (false,()) else some (true,())) = _
  rw [h,← jU]; cases l.any fun x=>!p x <;> rfl
theorem ztp {a b:List Int} (hl:a.length ≤ Go.maxLen):zaJ (a,b,()) = some (eqL tI a b,()):=zaE (τ:=tI) (B:=zgp) (fun _ _ _ _ _=>rfl) hl
theorem zy3 {a b:List zn} (hl:a.length ≤ Go.maxLen):zgr (a,b,()) = some (eqL zm a b,()):=zaE (τ:=zm) (B:=zez) (fun _ _ _ _ _=>rfl) hl
theorem zy4 {a b:List zF} (hl:a.length ≤ Go.maxLen):zgt (a,b,()) = some (eqL zt a b,()):=zaE (τ:=zt) (B:=zeA) (fun _ _ _ _ _=>rfl) hl
theorem zAW {a b:List jc} (hl:a.length ≤ Go.maxLen):zhs (a,b,()) = some (eqL qj a b,()):=zaE (τ:=qj) (B:=zfn) (fun _ _ _ _ _=>rfl) hl
theorem zAX {a b:List z9} (hl:a.length ≤ Go.maxLen):zhu (a,b,()) = some (eqL zV a b,()):=zaE (τ:=zV) (B:=zfo) (fun _ _ _ _ _=>rfl) hl
theorem zAY {a b:List qc} (hl:a.length ≤ Go.maxLen):zhw (a,b,()) = some (eqL zU a b,()):=zaE (τ:=zU) (B:=zfp) (fun _ _ _ _ _=>rfl) hl
theorem zAZ {a b:List qs} (hl:a.length ≤ Go.maxLen):zhy (a,b,()) = some (eqL z4 a b,()):=zaE (τ:=z4) (B:=zfq) (fun _ _ _ _ _=>rfl) hl
theorem zy5 {a b:List zp} (hl:a.length ≤ Go.maxLen):zgn (a,b,()) = some (eqL zw a b,()):=zaE (τ:=zw) (B:=zey) (fun _ _ _ _ _=>rfl) hl
theorem zD5 {a b:List (List Int)} (hl:a.length ≤ Go.maxLen):zjG (a,b,()) = some (eqL (Ty.arr 4 tU) a b,()):=zaE (τ:=(Ty.arr 4 tU)) (B:=zhz) (fun _ _ _ _ _=>rfl) hl
theorem zCA {a b:List vA} (hl:a.length ≤ Go.maxLen):ziz (a,b,()) = some (eqL zW a b,()):=zaE (τ:=zW) (B:=zgo) (fun _ _ _ _ _=>rfl) hl
theorem zpY {l:List zn} (hl:l.length ≤ lim):zdr (l,()) = some (l,()):=vZ (τ:=zm) hl rfl
theorem zy6 {l:List zF} (hl:l.length ≤ lim):zgk (l,()) = some (l,()):=vZ (τ:=zt) hl rfl
theorem ztq {l:List Int} (hl:l.length ≤ lim):zeZ (l,()) = some (l,()):=vZ (τ:=tI) hl rfl
theorem zA0 {l:List (List Int)} (hl:l.length ≤ lim):zhl (l,()) = some (l,()):=vZ (τ:=(Ty.sl tI)) hl rfl
theorem zy7 {l:List zg} (hl:l.length ≤ lim):zgl (l,()) = some (l,()):=vZ (τ:=zj) hl rfl
theorem zA1 {l:List jc} (hl:l.length ≤ lim):zhm (l,()) = some (l,()):=vZ (τ:=qj) hl rfl
theorem zA2 {l:List z9} (hl:l.length ≤ lim):zhn (l,()) = some (l,()):=vZ (τ:=zV) hl rfl
theorem zA3 {l:List qc} (hl:l.length ≤ lim):zho (l,()) = some (l,()):=vZ (τ:=zU) hl rfl
theorem zA4 {l:List qs} (hl:l.length ≤ lim):zhp (l,()) = some (l,()):=vZ (τ:=z4) hl rfl
theorem zjP {l:List zp} (hl:l.length ≤ lim):zdp (l,()) = some (l,()):=vZ (τ:=zw) hl rfl
theorem zD6 {l:List (List Int)} (hl:l.length ≤ lim):zjE (l,()) = some (l,()):=vZ (τ:=(Ty.arr 4 tU)) hl rfl
theorem zCB {l:List vA} (hl:l.length ≤ lim):zix (l,()) = some (l,()):=vZ (τ:=zW) hl rfl
end Go.Proofs.YtokcjmkikhgkeaaGreatDoor
end
section
namespace Go.Proofs.YtokcjmkikhgkeaaGreatDoor
open Go.Ev
theorem zsd:∃ m,K0 = m + 8:=⟨Go.maxLen - 6,by unfold K0 Go.maxLen; omega⟩
def qf (x a b:Int):Bool:=decide (a ≤ x ∧ x ≤ b)
theorem zdB (x a b:Int):ql (x,a,b,()) = some (qf x a b,()):=by
  simp only [ql,qf]; grind
def zc3 (a:zr):Bool:=qf a.1 0 3
theorem zjQ (a:zr):zdD (a,()) = some (zc3 a,()):=by
  simp only [zdD,zc3,qf]; grind
theorem zD7 (a:zr):zdv (a,()) = some (!zc3 a,()):=by
  simp only [zdv,zjQ,Option.bind_some]; grind
def zjR (x y:Int):Int:=bif decide (x < y) then -1 else bif decide (y < x) then 1 else 0
theorem zCC (x:Int):yW (x,()) = some (false,()):=by
  simp only [yW]; grind
theorem zxz (x:Int):vi (x,()) = some (false,()):=by
  simp only [vi]; grind
theorem zpZ (x y:Int):zam (x,y,()) = some (zjR x y,()):=by
  simp only [zam,zCC,Option.bind_some,zjR]; grind
theorem zlz (x y:Int):vO (x,y,()) = some (zjR x y,()):=by
  simp only [vO,zxz,Option.bind_some,zjR]; grind
def orV (a b:Int):Int:=bif a != 0 then a else b
theorem zHy (a b:Int):zcL ([a,b],()) = some (orV a b,()):=by
  show zl qZ K0 (0,[a,b],2,0) = _
  obtain ⟨m,hm⟩:=zsd
  rw [hm]
  show qZ (qZ (qZ (zl qZ (m + 5)))) (0,[a,b],2,0) = _
  have h:qZ (qZ (qZ (zl qZ (m + 5)))) (0,[a,b],2,0) = bif a != 0 then some (a,()) else bif b != 0 then some (b,()) else some (0,()):=by kernel_rfl
  rw [h]; unfold orV; grind
def zuB (a b:zr):Int:=orV (zjR a.1 b.1) (zjR a.2.1 b.2.1)
theorem zCD (a b:zr):ziX (a,b,()) = some (zuB a b,()):=by
  simp only [ziX,zpZ,zlz,Option.bind_some]
  show Option.bind (zcL ([zjR a.1 b.1,zjR a.2.1 b.2.1],())) _ = _
  rw [zHy]; rfl
def ziG (l:List zr):Bool:=qf (l.length:Int) 1 8 && (eqI zA (l.getD 0 (zf zA)) (zf zA) && (l.all zc3 && qn (fun i=>decide (zuB (l.getD (i - 1) (zf zA)) (l.getD i (zf zA)) < 0)) 1 (l.length - 1)))
theorem zGj {α:Type} {d:α} {l:List α}:ix d l 0 = l.getD 0 d:=rfl
theorem zGk (r:ze):vx (r,()) = some (ziG r.1,()):=by
  simp only [vx,ze5,zdB,Option.bind_some]
  by_cases hw:qf (List.length r.1:Int) 1 8 = true
  · have hb:1 ≤ List.length r.1 ∧ List.length r.1 ≤ 8:=by unfold qf at hw; grind
    have hl:List.length r.1 ≤ Go.maxLen:=by unfold Go.maxLen; omega
    have hloop:zgx K0 (1,r) = bif qn (fun i=>decide (zuB (List.getD r.1 (i - 1) (zf zA)) (List.getD r.1 i (zf zA)) < 0)) 1 (List.length r.1 - 1) then some (true,()) else some (false,()) :=
      yE (i0:=1) hl hb.1 (fun i=>(i,r)) (fun k i h1 h2=>by
        simp only [zdz]
        rw [ltT h2,zsa h1 (by omega),zE (by omega),zE h2,qw,Int.toNat_natCast,zCD]
        simp only [cond_true,Option.bind_some]; grind) (fun k=>by simp only [zdz]; rw [ltF]; rfl)
    rw [zhT (p:=fun a=>!zc3 a) hl fun x _=>zD7 x,hloop,zGj]
    have:=jU (l:=r.1) (p:=zc3)
    unfold ziG
    simp only [Option.bind_some]
    grind
  · unfold ziG; grind
end Go.Proofs.YtokcjmkikhgkeaaGreatDoor
end
section
namespace Go.Proofs.YtokcjmkikhgkeaaGreatDoor
open Go.Ev
def small (c:Int):Bool:=decide (97 ≤ c ∧ c ≤ 122)
def zzv (c:Int):Bool:=decide (48 ≤ c ∧ c ≤ 57)
theorem zC7 (c:Int):zep (c,()) = some (small c,()):=by
  simp only [zep,small]; grind
theorem zG1 (c:Int):zha (c,()) = some (zzv c,()):=by
  simp only [zha,zzv]; grind
def zzw (c:Int):Bool:=small c || zzv c
theorem zHz (c:Int):ze0 (c,()) = some (zzw c,()):=by
  simp only [ze0,zC7,zG1,Option.bind_some,zzw]; grind
def zeG (s:ByteArray):List Int:=List.map (fun b:UInt8=>(b.toNat:Int)) s.data.toList
def chr (s:ByteArray) (i:Nat):Int:=(((s.data.toList).getD i 0).toNat:Int)
theorem zjS (s:ByteArray):(zeG s).length = s.size:=by unfold zeG; rw [List.length_map]; rfl
theorem zoe (s:ByteArray):s.data.toList.length = s.size:=rfl
theorem zwt (s:ByteArray) (p:Int→Bool):(zeG s).all p = qn (fun i=>p (chr s i)) 0 s.size:=by
  rw [Bool.eq_iff_iff,vc,List.all_eq_true]
  have key:∀ i,i < s.size→(zeG s)[i]? = some (chr s i):=fun i hi=>by
    unfold zeG chr
    rw [List.getElem?_map,List.getElem?_eq_getElem (by rw [zoe]; exact hi)]
    simp [List.getD,zoe,hi]
  constructor
  · intro h j _ hj
    exact h _ (List.mem_of_getElem? (key j (by omega)))
  · intro h x hx
    obtain ⟨i,hi,rfl⟩:=List.mem_iff_getElem.1 hx
    rw [zjS] at hi
    have:=key i hi
    rw [List.getElem?_eq_getElem (by rw [zjS]; exact hi)] at this
    rw [Option.some.inj this]
    exact h i (by omega) (by omega)
theorem zwu {s:ByteArray} {g:Int × Unit→Option (Bool × Unit)} {p:Int→Bool} (hl:s.size ≤ Go.maxLen) (hp:∀ c,g (c,()) = some (p c,())):zkl (s,some g,()) = some ((zeG s).all p,()):=by
  have h:j7 (zeG s,some fun z=>zg9 (z.1,some (some g),()),()) = some ((zeG s).any fun x=>!p x,()):=zqs (by rw [zjS]; exact hl) fun x hx=>by
    show Option.bind (g (x,())) (fun q=>bif q.1 then some (false,()) else some (true,())) = _
    rw [hp x]; cases p x <;> rfl
  show Option.bind (j7 (zeG s,some fun z=>zg9 (z.1,some (some g),()),())) (fun q=>bif q.1 then some (false,()) else some (true,())) = _
  rw [h,← jU]; cases (zeG s).any fun x=>!p x <;> rfl
def zo5 (s:ByteArray):Bool:=decide (1 ≤ s.size) && (decide (s.size ≤ 12) && qn (fun i=>small (chr s i) || (decide (i ≠ 0) && zzv (chr s i))) 0 s.size)
theorem zGl (s:ByteArray):zo5 s = (decide (1 ≤ s.size) && (decide (s.size ≤ 12) && (small (chr s 0) && (zeG s).all zzw))):=by
  rw [zwt,zo5,Bool.eq_iff_iff]
  simp only [Bool.and_eq_true,decide_eq_true_eq,vc,zzw]
  constructor
  · rintro ⟨h1,h2,h3⟩
    have:=h3 0 (by omega) (by omega)
    refine ⟨h1,h2,by grind,fun j h4 h5=>?_⟩
    have:=h3 j h4 h5
    grind
  · rintro ⟨h1,h2,h3,h4⟩
    refine ⟨h1,h2,fun j h5 h6=>?_⟩
    have:=h4 j h5 h6
    by_cases e:j = 0
    · subst e; grind
    · grind
theorem zlA (s:ByteArray):za5 (s,()) = some (zo5 s,()):=by
  rw [zN]
  simp only [za5]
  rw [zGl]
  by_cases h1:s.size < 1
  · grind
  by_cases h2:s.size > 12
  · grind
  rw [zwu (by unfold Go.maxLen; omega) zHz]
  have hc:((UInt8.toNat (List.getD s.data.toList (Int.toNat 0) 0):Nat):Int) = chr s 0:=rfl
  rw [hc,zC7]
  simp only [Option.bind_some]
  grind
def zjv (a:qR):Bool:=zo5 a.1 && (zo5 a.2.1 && qf a.2.2.1 0 3)
theorem zA5 (a:qR):zbV (a,()) = some (!zjv a,()):=by
  simp only [zbV,zlA,zdB,Option.bind_some,zjv]; grind
theorem zgy {α:Type} (d x:α):zi (List.replicate 1 d) 0 x = [x]:=rfl
theorem zfR {n:Nat} (h:n ≤ 1000000):decide (n ≤ lim) = true:=decide_eq_true (by unfold lim; omega)
theorem zCE (r:ze) (h:r.2.2.1.length ≤ 1000):zfk (r,()) = some (r.2.2.1.map (·.1),()):=by
  have hl:r.2.2.1.length ≤ Go.maxLen:=by unfold Go.maxLen; omega
  have:=yV (B:=yj) (α:=List ByteArray) (len:=r.2.2.1.length) hl (fun i o=>(r.2.2.1,(r.2.2.1.length:Int),i,o)) (fun i o=>some (o ++ (r.2.2.1.drop i).map (·.1),())) (fun i o=>o.length ≤ i) (fun k i s hi hI hk=>by
    simp only [yj]
    rw [ltT hi,zE hi,qw,zgy,zfR (by simp; omega)]
    simp only [cond_true]
    rw [hk _ (by simp; omega),zbB zcf hi]
    simp) (fun k s _=>by
    simp only [yj]
    rw [ltF,List.drop_of_length_le (Nat.le_refl _)]
    simp) [] (Nat.le_refl _)
  exact this
def zlB:List ByteArray→Bool
  | []=>true
  | x :: l=>!(l.any fun y=>eqI .str x y) && zlB l
theorem zse (x y:ByteArray):eqI .str x y = (x.toList == y.toList):=rfl
theorem zFv (o:List (ByteArray × Int)) (x z:ByteArray) (v:Int):zaq .str (yr .str o x v) z = (zaq .str o z || eqI .str z x):=by
  induction o with
  | nil=>simp only [yr,zaq]; cases eqI .str z x <;> rfl
  | cons e o ih =>
    simp only [yr,zaq]
    cases h:eqI .str x e.1 with
    | true =>
      simp only [cond_true,zaq]
      have:eqI .str z e.1 = eqI .str z x:=by rw [zse] at *; rw [zse]; have:=eq_of_beq h; rw [this]
      cases h2:eqI .str z e.1 with
      | true=>rfl
      | false=>rw [← this,h2]; simp
    | false =>
      simp only [cond_false,zaq,ih]
      cases eqI .str z e.1 <;> rfl
theorem zA6 (o:List (ByteArray × Int)) (x:ByteArray) (v:Int):(yr .str o x v).length = o.length + (bif zaq .str o x then 0 else 1):=by
  induction o with
  | nil=>rfl
  | cons e o ih =>
    simp only [yr,zaq]
    cases h:eqI .str x e.1 with
    | true=>simp only [cond_true,List.length_cons,Nat.add_zero]
    | false =>
      simp only [cond_false,List.length_cons,ih]
      generalize (bif zaq .str o x then 0 else 1) = n
      omega
def zo6:List ByteArray→List (ByteArray × Int)→Nat
  | [],o=>o.length
  | x :: l,o=>zo6 l (yr .str o x (wI (zcc .str (0:Int) o x + 1)))
theorem zC8:∀ (l:List ByteArray) (o:List (ByteArray × Int)),zo6 l o ≤ o.length + l.length
  | [],o=>Nat.le_refl _
  | x :: l,o=>by
    have h:=zC8 l (yr .str o x (wI (zcc .str (0:Int) o x + 1)))
    rw [zA6] at h
    simp only [zo6,List.length_cons]
    cases hm:zaq .str o x <;> (rw [hm] at h; simp only [cond_true,cond_false] at h; omega)
theorem zC9:∀ (l:List ByteArray) (o:List (ByteArray × Int)),(zo6 l o == o.length + l.length) = (zlB l && l.all fun x=>!zaq .str o x)
  | [],o=>by simp [zo6,zlB]
  | x :: l,o=>by
    have h:=zC8 l (yr .str o x (wI (zcc .str (0:Int) o x + 1)))
    have ih:=zC9 l (yr .str o x (wI (zcc .str (0:Int) o x + 1)))
    rw [zA6] at h ih
    simp only [zo6,List.length_cons,zlB,List.all_cons]
    cases hm:zaq .str o x with
    | true =>
      rw [hm] at h
      simp only [cond_true] at h
      have:(zo6 l (yr .str o x (wI (zcc .str (0:Int) o x + 1))) == o.length + (l.length + 1)) = false:=by
        simp only [beq_eq_false_iff_ne]; omega
      rw [this]
      simp
    | false =>
      rw [hm] at ih
      simp only [cond_false] at ih
      rw [show o.length + (l.length + 1) = o.length + 1 + l.length by omega,ih]
      simp only [zFv,Bool.not_or,Bool.not_false,Bool.true_and]
      have:(l.all fun z=>!zaq .str o z && !eqI .str z x) = ((l.all fun z=>!zaq .str o z) && !(l.any fun y=>eqI .str x y)):=by
        rw [Bool.eq_iff_iff]
        simp only [List.all_eq_true,Bool.and_eq_true,Bool.not_eq_true',List.any_eq_false,Bool.not_eq_true]
        have hs:∀ z,eqI .str z x = eqI .str x z:=fun z=>by rw [zse,zse]; exact Bool.beq_comm
        grind
      rw [this]
      cases zlB l <;> cases (l.all fun z=>!zaq .str o z) <;> cases (l.any fun y=>eqI .str x y) <;> rfl
theorem zFw (m n:Nat):(((m:Nat):Int) == ((n:Nat):Int)) = (m == n):=by
  rw [Bool.eq_iff_iff]; simp only [beq_iff_eq]; omega
theorem zG2 (l:List ByteArray) (h:l.length ≤ 1000):zkW (l,()) = some (zlB l,()):=by
  have:=zqO (B:=zcO) (l:=l) (α:=List (ByteArray × Int)) (zf .str) (fun i o=>(l,l,(l.length:Int),i,o)) (fun rest o=>some (zo6 rest o == l.length,())) (by unfold Go.maxLen; omega) (fun k i x rest s hi hx _ hr hk=>by
    simp only [zcO]
    rw [ltT hi,zE hi,Int.toNat_natCast,hx]
    simp only [cond_true]
    exact hk _) (fun k s=>by
    simp only [zcO]
    rw [ltF]
    simp only [cond_false,zo6]
    rw [zFw]
    cases s.length == l.length <;> rfl) []
  refine this.trans ?_
  have h2:=zC9 l []
  simp only [List.length_nil,Nat.zero_add] at h2
  rw [h2]
  simp [zaq]
def zgQ (l:List qR):Bool:=qf (l.length:Int) 1 8 && (l.all zjv && zlB (l.map (·.1)))
theorem zD8 (r:ze):jF (r,()) = some (zgQ r.2.2.1,()):=by
  rw [zN]
  simp only [jF,zdB,Option.bind_some]
  unfold zgQ
  by_cases hw:qf (List.length r.2.2.1:Int) 1 8 = true
  · have hb:1 ≤ List.length r.2.2.1 ∧ List.length r.2.2.1 ≤ 8:=by unfold qf at hw; grind
    rw [znk (p:=fun a=>!zjv a) (by unfold Go.maxLen; omega) fun x _=>zA5 x,zCE r (by omega)]
    simp only [Option.bind_some]
    rw [zG2 _ (by simp; omega)]
    simp only [Option.bind_some]
    have:=jU (l:=r.2.2.1) (p:=zjv)
    grind
  · grind
def zlC (r:ze):Bool:=qf (r.2.1.length:Int) 1 8 && r.2.1.all fun i=>decide (0 ≤ i) && decide (i < (r.1.length:Int))
theorem zG3 (r:ze) (h:r.1.length ≤ 1000):ya (r,()) = some (zlC r,()):=by
  rw [zN]
  simp only [ya,zdB,Option.bind_some]
  unfold zlC
  by_cases hw:qf (List.length r.2.1:Int) 1 8 = true
  · have hb:1 ≤ List.length r.2.1 ∧ List.length r.2.1 ≤ 8:=by unfold qf at hw; grind
    have hq:∀ x:Int,(fun z:Int × Unit=>zbK (z.1,some r,())) (x,()) = some (!(decide (0 ≤ x) && decide (x < (r.1.length:Int))),()):=fun x=>by
      show zbK _ = _
      simp only [zbK,zdB,Option.bind_some]
      have:wI (((List.length r.1:Nat):Int) - 1) = (r.1.length:Int) - 1:=by
        unfold wI
        exact IntWalk.i64_in _ (by omega)
      rw [this]
      unfold qf
      grind
    rw [zb8 (by unfold Go.maxLen; omega) fun x _=>hq x]
    simp only [Option.bind_some]
    have:=jU (l:=r.2.1) (p:=fun i=>decide (0 ≤ i) && decide (i < (r.1.length:Int)))
    grind
  · grind
def zsf (r:ze):Bool:=qf r.2.2.2.2.2.1 0 24 && (qf r.2.2.2.2.2.2.1 0 48 && (qf r.2.2.2.2.2.2.2.1 1 4 && qf r.2.2.2.2.2.2.2.2.1 1 16))
theorem zHA (r:ze):yQ (r,()) = some (zsf r,()):=by
  simp only [yQ,zdB,Option.bind_some,zsf]; grind
def zgR (q:zah):Bool:=qf q.1 0 12 && (qf q.2.1 0 12 && (qf q.2.2.1 0 12 && (qf q.2.2.2.1 0 12 && qf q.2.2.2.2.1 0 12)))
def zkq:Int→List zah→Bool
  | _,[]=>true
  | left,q :: l=>zgR q && (decide (q.2.2.2.2.2.1 ≤ left) && zkq (wU (left - q.2.2.2.2.2.1)) l)
theorem zD9 (x:Int):zdw (x,()) = some (!qf x 0 12,()):=by
  simp only [zdw,zdB,Option.bind_some]; grind
def ze8 (n:Nat) (l:List zah):Bool:=decide (l.length = n) && (decide (0 < l.length) && (decide (1 ≤ (l.getD 0 qC).1) && zkq 4611686018427387904 l))
theorem zGm (r:ze) (h:1 ≤ r.1.length ∧ r.1.length ≤ 1000):vw (r,()) = some (ze8 r.1.length r.2.2.2.2.1,()):=by
  rw [zN]
  simp only [vw,ze3]
  unfold ze8
  by_cases hn:r.2.2.2.2.1.length = r.1.length
  · have hl:r.2.2.2.2.1.length ≤ Go.maxLen:=by unfold Go.maxLen; omega
    have hloop:zgv K0 (4611686018427387904,r.2.2.2.2.1,(r.2.2.2.2.1.length:Int),0) = some (zkq 4611686018427387904 r.2.2.2.2.1,()) :=
      zqO (l:=r.2.2.2.2.1) (α:=Int) qC (fun i s=>(s,r.2.2.2.2.1,(r.2.2.2.2.1.length:Int),i)) (fun rest s=>some (zkq s rest,())) hl (fun k i x rest s hi hx _ hr hk=>by
        simp only [zdy]
        rw [ltT hi,zE hi]
        simp only [qw,hx,cond_true]
        have hnum:zhb (x,()) = some ([x.1,x.2.1,x.2.2.1,x.2.2.2.1,x.2.2.2.2.1],()):=rfl
        rw [hnum]
        simp only [Option.bind_some]
        rw [zb8 (p:=fun n=>!qf n 0 12) (l:=[x.1,x.2.1,x.2.2.1,x.2.2.2.1,x.2.2.2.2.1]) (by unfold Go.maxLen; simp) fun n _=>zD9 n]
        simp only [Option.bind_some,hk,zkq,zgR,List.any_cons,List.any_nil]
        grind) (fun k s=>by simp only [zdy]; rw [ltF]; rfl) _
    rw [hloop,zGj]
    have h1:(((List.length r.2.2.2.2.1:Nat):Int) != ((List.length r.1:Nat):Int)) = false:=by rw [zmd]; simp [hn]
    rw [h1]
    grind
  · have h1:(((List.length r.2.2.2.2.1:Nat):Int) != ((List.length r.1:Nat):Int)) = true:=by rw [zmd]; simp [hn]
    rw [h1]
    grind
end Go.Proofs.YtokcjmkikhgkeaaGreatDoor
end
section
namespace Go.Proofs.YtokcjmkikhgkeaaGreatDoor
open Go.Ev
def zuC (b:Int):Int:=((2 ^ b.toNat:Nat):Int)
def vU (b:Int):Bool:=decide (0 ≤ b) && decide (b < 64)
theorem zHB {b:Int} (h:vU b = true):Go.IntKind.wrap .u64 (1 * 2 ^ (min (Int.toNat b) (Go.IntKind.bits .u64))) = zuC b:=by
  unfold vU at h
  simp only [Bool.and_eq_true,decide_eq_true_eq] at h
  obtain ⟨n,rfl⟩:=Int.eq_ofNat_of_zero_le h.1
  have hn:n < 64:=by omega
  unfold zuC
  rw [Int.toNat_natCast]
  have hm:min n (Go.IntKind.bits .u64) = n:=Nat.min_eq_left (by show n ≤ 64; omega)
  rw [hm]
  have:∀ n:Fin 64,Go.IntKind.wrap .u64 (1 * 2 ^ n.val) = ((2 ^ n.val:Nat):Int):=by decide +kernel
  exact this ⟨n,hn⟩
theorem zo7 {n:Int} (h:0 ≤ n ∧ n < 18446744073709551616):Go.IntKind.wrap .u64 n = n:=by
  show n % ((2 ^ 64:Nat):Int) = n
  exact Int.emod_eq_of_lt h.1 (by have:((2 ^ 64:Nat):Int) = 18446744073709551616:=by decide
                                  omega)
def zxA (c:Int) (b:Nat):Bool:=c.toNat.testBit b
def ze9 (a b:Int):Int:=Go.IntKind.wrap .u64 (BitVec.toNat (BitVec.ofInt (Go.IntKind.bits .u64) a &&& ~~~BitVec.ofInt (Go.IntKind.bits .u64) b):Int)
def orI (a b:Int):Int:=Go.IntKind.wrap .u64 (BitVec.toNat (BitVec.ofInt (Go.IntKind.bits .u64) a ||| BitVec.ofInt (Go.IntKind.bits .u64) b):Int)
def zkr:Int→List qb→Int
  | a,[]=>a
  | a,g :: gs=>zkr (orI a (zuC g.1)) gs
theorem zjw (n:Nat):BitVec.ofInt (Go.IntKind.bits .u64) (n:Int) = BitVec.ofNat 64 n:=by
  show BitVec.ofInt 64 (n:Int) = BitVec.ofNat 64 n
  apply BitVec.eq_of_toNat_eq
  rw [BitVec.toNat_ofInt,BitVec.toNat_ofNat]
  omega
theorem zGJ (x:BitVec 64):Go.IntKind.wrap .u64 (x.toNat:Int) = (x.toNat:Int):=by
  have:=x.isLt
  exact zo7 (by omega)
theorem zG4 (a b:Nat) (ha:a < 2 ^ 64) (hb:b < 2 ^ 64):orI (a:Int) (b:Int) = ((a ||| b:Nat):Int):=by
  unfold orI
  rw [zjw,zjw]
  show Go.IntKind.wrap .u64 ((BitVec.ofNat 64 a ||| BitVec.ofNat 64 b).toNat:Int) = _
  rw [zGJ,BitVec.toNat_or,BitVec.toNat_ofNat,BitVec.toNat_ofNat,Nat.mod_eq_of_lt ha,Nat.mod_eq_of_lt hb]
theorem ztr (c m:Nat) (hc:c < 2 ^ 64) (hm:m < 2 ^ 64):(ze9 (c:Int) (m:Int) != 0) = !((List.range' 0 64).all fun i=>!c.testBit i || m.testBit i):=by
  unfold ze9
  rw [zjw,zjw]
  show (Go.IntKind.wrap .u64 ((BitVec.ofNat 64 c &&& ~~~BitVec.ofNat 64 m).toNat:Int) != 0) = _
  rw [zGJ]
  have hbit:∀ i,i < 64→(BitVec.ofNat 64 c &&& ~~~BitVec.ofNat 64 m).getLsbD i = (c.testBit i && !m.testBit i):=by
    intro i hi
    rw [BitVec.getLsbD_and,BitVec.getLsbD_not,BitVec.getLsbD_ofNat,BitVec.getLsbD_ofNat]
    simp [hi]
  by_cases h:((List.range' 0 64).all fun i=>!c.testBit i || m.testBit i) = true
  · rw [h]
    have h0:(BitVec.ofNat 64 c &&& ~~~BitVec.ofNat 64 m) = 0#64:=by
      apply BitVec.eq_of_getLsbD_eq
      intro i hi
      rw [hbit i hi]
      have:=List.all_eq_true.1 h i (by simp [List.mem_range'_1]; omega)
      revert this
      cases c.testBit i <;> cases m.testBit i <;> simp
    rw [h0]
    rfl
  · have h':=h
    simp only [Bool.not_eq_true] at h'
    rw [h']
    have:(BitVec.ofNat 64 c &&& ~~~BitVec.ofNat 64 m).toNat ≠ 0:=by
      intro h0
      apply h
      rw [List.all_eq_true]
      intro i hi
      simp only [List.mem_range'_1] at hi
      have hb:=hbit i (by omega)
      have e0:(BitVec.ofNat 64 c &&& ~~~BitVec.ofNat 64 m) = 0#64:=BitVec.eq_of_toNat_eq (by rw [h0]; rfl)
      rw [e0] at hb
      revert hb
      cases c.testBit i <;> cases m.testBit i <;> simp
    rw [Bool.not_false,bne_iff_ne]
    omega
theorem zGn {b:Int} (h:vU b = true):∃ n:Nat,b = n ∧ n < 64 ∧ zuC b = ((2 ^ n:Nat):Int):=by
  unfold vU at h
  simp only [Bool.and_eq_true,decide_eq_true_eq] at h
  obtain ⟨n,rfl⟩:=Int.eq_ofNat_of_zero_le h.1
  exact ⟨n,rfl,by omega,rfl⟩
theorem zwv:∀ (l:List qb) (m:Nat),m < 2 ^ 64→(∀ g ∈ l,vU g.1 = true)→∃ k:Nat,zkr (m:Int) l = (k:Int) ∧ k < 2 ^ 64 ∧ ∀ i:Nat,k.testBit i = (m.testBit i || l.any fun g=>g.1 == (i:Int))
  | [],m,hm,_=>⟨m,rfl,hm,fun i=>by simp⟩
  | g :: l,m,hm,h=>by
    obtain ⟨n,hn,hn64,hv⟩:=zGn (h g (by simp))
    have hp:2 ^ n < 2 ^ 64:=Nat.pow_lt_pow_right (by omega) hn64
    obtain ⟨k,hk,hk64,hb⟩:=zwv l (m ||| 2 ^ n) (Nat.or_lt_two_pow hm hp) fun g hg=>h g (by simp [hg])
    refine ⟨k,?_,hk64,fun i=>?_⟩
    · simp only [zkr]
      rw [hv,zG4 m (2 ^ n) hm hp]
      exact hk
    · rw [hb i,Nat.testBit_or,Nat.testBit_two_pow,List.any_cons,hn,Bool.or_assoc]
      congr 2
      by_cases e:n = i
      · subst e; simp
      · rw [decide_eq_false e]
        symm
        simp only [beq_eq_false_iff_ne,ne_eq]
        omega
def zEa (l:List qb) (c:Int) (i k:Nat):Bool:=(List.range' i k).all fun b=>!zxA c b || l.any fun g=>g.1 == (b:Int)
def zA7 (labels:List zr) (l:List qb):Bool:=labels.all fun a=>zEa l a.2.1 0 64
def zo8 (l:List zr):Prop:=∀ a ∈ l,0 ≤ a.2.1 ∧ a.2.1 < 18446744073709551616
theorem zHC (labels:List zr) (l:List qb) (hl:zo8 labels) (h:∀ g ∈ l,vU g.1 = true):(labels.any fun a=>ze9 a.2.1 (zkr 0 l) != 0) = !zA7 labels l:=by
  obtain ⟨k,hk,hk64,hb⟩:=zwv l 0 (by decide) h
  have hk':zkr 0 l = (k:Int):=hk
  rw [hk']
  unfold zA7
  have key:∀ ls:List zr,zo8 ls→(ls.any fun a=>ze9 a.2.1 (k:Int) != 0) = !(ls.all fun a=>zEa l a.2.1 0 64):=by
    intro ls
    induction ls with
    | nil=>intro _; rfl
    | cons a ls ih =>
      intro ha
      have h1:=ha a (by simp)
      rw [List.any_cons,List.all_cons,ih fun b hb=>ha b (by simp [hb]),Bool.not_and]
      congr 1
      obtain ⟨c,hc⟩:=Int.eq_ofNat_of_zero_le h1.1
      rw [hc,ztr c k (by omega) hk64]
      congr 1
      unfold zEa
      congr 1
      funext i
      rw [hb i]
      unfold zxA
      simp
  exact key labels hl
def zo9 (b:Int):zr:=(0,zuC b,())
theorem zrH (b:Int):zer (b,()) = some (bif vU b then (zo9 b,0,()) else ((0,0,()),1,())):=by
  simp only [zer]
  cases h:vU b with
  | true =>
    have hs:wU (1 * 2 ^ min (Int.toNat b) (Go.IntKind.bits .u64)) = zuC b:=zHB h
    rw [hs]
    simp only [vU,Bool.and_eq_true,decide_eq_true_eq] at h
    simp only [zo9]
    grind
  | false =>
    simp only [vU,Bool.and_eq_false_iff,decide_eq_false_iff_not] at h
    grind
theorem zEb (a:zr) (c:Int):zgj (a,some c,()) = some (ze9 a.2.1 c != 0,()):=by
  rw [zN]; rfl
theorem zGo {σ α:Type} {B:(σ→Option (Int × Unit))→σ→Option (Int × Unit)} {l:List α} (d:α) {p:α→Bool} (st:Int→σ) (hl:l.length ≤ Go.maxLen)
    (hin:∀ k (i:Nat) x,i < l.length→l.getD i d = x→x ∈ l→B k (st i) = bif p x then some ((i:Int),()) else k (st (wI (i + 1)))) (hout:∀ k,B k (st l.length) = some (-1,())):zl B K0 (st 0) = some (vG p l 0,()):=by
  have:=yV (α:=Unit) (B:=B) hl (fun i _=>st i) (fun i _=>some (vG p (l.drop i) i,())) (fun _ _=>True) (fun k i s hi _ h=>?_) (fun k s _=>?_) () trivial
  · simpa using this
  · rw [hin k i _ hi rfl (z8 hi),h () trivial,zbB d hi]
    simp only [vG]
    cases p (l.getD i d) <;> rfl
  · rw [hout,List.drop_of_length_le (Nat.le_refl _)]; rfl
theorem zuD {l:List zr} {a:zr} (hl:l.length ≤ Go.maxLen):zbh (l,a,()) = some (l.any fun y=>eqI zA a y,()):=by
  have h:zgi (l,a,()) = some (vG (fun y=>eqI zA a y) l 0,()) :=
    zGo (B:=yM) (l:=l) qz (fun i=>(l,(l.length:Int),i,a)) hl (fun k i x hi hx _=>by
      simp only [yM]
      rw [ltT hi,zE hi,qw,hx]; rfl) (fun k=>by simp only [yM]; rw [ltF]; rfl)
  rw [zN]
  simp only [zbh,h,Option.bind_some]
  rw [ztQ (p:=fun y=>eqI zA a y) l 0 (Int.le_refl 0)]
def zA8 (labels:List zr) (n:Nat) (last:Int) (g:qb):Bool:=vU g.1 && (decide (last < g.1) && (qf g.2.1 0 ((n:Int) - 1) && labels.any fun y=>eqI zA (zo9 g.1) y))
def zeH (labels:List zr) (n:Nat):Int→List qb→Bool
  | _,[]=>true
  | last,g :: gs=>zA8 labels n last g && zeH labels n g.1 gs
def zsg (labels:List zr) (n:Nat) (l:List qb):Bool:=decide (l.length ≤ 8) && (zeH labels n (-1) l && zA7 labels l)
theorem zyb {labels:List zr} {m:Nat}:∀ (l:List qb) (last:Int),zeH labels m last l = true→∀ g ∈ l,vU g.1 = true
  | [],_,_,g,hg=>by cases hg
  | a :: l,last,h,g,hg=>by
    simp only [zeH,zA8,Bool.and_eq_true] at h
    rcases List.mem_cons.1 hg with rfl | hg
    · exact h.1.1
    · exact zyb l a.1 h.2 g hg
theorem zGp (r:ze) (h1:r.1.length ≤ Go.maxLen) (h2:r.2.2.1.length ≤ 1000000) (h3:r.2.2.2.1.length ≤ Go.maxLen) (hL:zo8 r.1):vv (r,()) = some (zsg r.1 r.2.2.1.length r.2.2.2.1,()):=by
  have hloop:vv (r,()) = some (zeH r.1 r.2.2.1.length (-1) r.2.2.2.1 && (decide (r.2.2.2.1.length ≤ 8) && !(r.1.any fun a=>ze9 a.2.1 (zkr 0 r.2.2.2.1) != 0)),()) :=
    zqO (B := za0) (l:=r.2.2.2.1) (α:=Int × Int) qU (fun i s=>(s.1,r.2.2.2.1,(r.2.2.2.1.length:Int),i,r,s.2))
      (fun rest s=>some (zeH r.1 r.2.2.1.length s.1 rest && (decide (r.2.2.2.1.length ≤ 8) && !(r.1.any fun a=>ze9 a.2.1 (zkr s.2 rest) != 0)),())) h3 (fun k i x rest s hi hx _ hr hk=>by
        simp only [za0]
        have hw:wI (((List.length r.2.2.1:Nat):Int) - 1) = (r.2.2.1.length:Int) - 1:=by
          unfold wI
          exact IntWalk.i64_in _ (by omega)
        rw [ltT hi,zE hi,hw]
        simp only [qw,hx,cond_true,zrH,Option.bind_some,zeH,zA8,zkr]
        cases hb:vU x.1 with
        | false=>rfl
        | true =>
          simp only [cond_true,zdB,Option.bind_some,Bool.true_and,zuD h1]
          have hk':=hk (x.1,orI s.2 (zuC x.1))
          have e:decide (s.1 < x.1) = !decide ((x.1:Int) ≤ s.1):=by grind
          rw [e]
          cases decide ((x.1:Int) ≤ s.1) with
          | true=>rfl
          | false =>
            cases qf x.2.1 0 ((r.2.2.1.length:Int) - 1) with
            | false=>rfl
            | true =>
              cases (r.1.any fun y=>eqI zA (zo9 x.1) y) with
              | false=>rfl
              | true=>exact hk') (fun k s=>by
        simp only [za0]
        rw [ltF]
        simp only [cond_false,zeH,zkr,Bool.true_and]
        rw [zhT (p:=fun a=>ze9 a.2.1 s.2 != 0) h1 fun x _=>zEb x s.2,Option.bind_some]
        grind) (-1,0)
  rw [hloop]
  unfold zsg
  cases hr:zeH r.1 r.2.2.1.length (-1) r.2.2.2.1 with
  | false=>simp
  | true =>
    rw [zHC r.1 r.2.2.2.1 hL (zyb _ _ hr)]
    simp
theorem zEc {labels:List zr} {n:Nat}:∀ {l:List qb} {last:Int},zeH labels n last l = qn (fun i=>zA8 labels n (if i = 0 then last else (l.getD (i - 1) qU).1) (l.getD i qU)) 0 l.length:=by
  intro l
  induction l with
  | nil=>intro last; rfl
  | cons a l ih =>
    intro last
    simp only [zeH,List.length_cons,qn,ih]
    rw [Bool.eq_iff_iff]
    simp only [Bool.and_eq_true,vc]
    constructor
    · rintro ⟨h1,h2⟩
      refine ⟨h1,fun j h3 h4=>?_⟩
      obtain ⟨i,rfl⟩:∃ i,j = i + 1:=⟨j - 1,by omega⟩
      have:=h2 i (by omega) (by omega)
      rw [if_neg (by omega)]
      by_cases e:i = 0
      · subst e; simpa using this
      · rw [if_neg e] at this
        obtain ⟨m,rfl⟩:∃ m,i = m + 1:=⟨i - 1,by omega⟩
        exact this
    · rintro ⟨h1,h2⟩
      refine ⟨h1,fun j h3 h4=>?_⟩
      have:=h2 (j + 1) (by omega) (by omega)
      rw [if_neg (by omega)] at this
      by_cases e:j = 0
      · subst e; simpa using this
      · rw [if_neg e]
        obtain ⟨m,rfl⟩:∃ m,j = m + 1:=⟨j - 1,by omega⟩
        exact this
def qg (r:ze):Bool:=ziG r.1 && (zlC r && (zgQ r.2.2.1 && (zsg r.1 r.2.2.1.length r.2.2.2.1 && (ze8 r.1.length r.2.2.2.2.1 && zsf r))))
structure z3 (r:ze):Prop where
  labels:zo8 r.1
  guilds:r.2.2.2.1.length ≤ Go.maxLen
  quotas:r.2.2.2.2.1.length ≤ Go.maxLen
theorem zdQ (r:ze) (h:z3 r):zac (r,()) = some (qg r,()):=by
  rw [zN]
  show zl zef K0 (6,0,r,[some vx,some ya,some jF,some vv,some vw,some yQ]) = _
  obtain ⟨m,hm⟩:=zsd
  have hu:zl zef (m + 8) (6,0,r,[some vx,some ya,some jF,some vv,some vw,some yQ]) =
    Option.bind (vx (r,())) fun q=>bif q.1 then Option.bind (ya (r,())) fun q=>bif q.1 then Option.bind (jF (r,())) fun q=>bif q.1 then Option.bind (vv (r,())) fun q=>bif q.1 then Option.bind (vw (r,())) fun q=>bif q.1 then Option.bind (yQ (r,())) fun q=>bif q.1 then some (true,()) else some (false,()) else some (false,()) else some (false,()) else some (false,()) else some (false,()) else some (false,()):=by kernel_rfl
  rw [hm,hu,zGk]
  unfold qg
  simp only [Option.bind_some]
  cases h1:ziG r.1 with
  | false=>rfl
  | true =>
    have hb:1 ≤ r.1.length ∧ r.1.length ≤ 8:=by unfold ziG qf at h1; grind
    rw [zG3 r (by omega),zD8]
    simp only [Option.bind_some,cond_true]
    cases zlC r with
    | false=>rfl
    | true =>
      cases h2:zgQ r.2.2.1 with
      | false=>rfl
      | true =>
        have hc:r.2.2.1.length ≤ 8:=by unfold zgQ qf at h2; grind
        rw [zGp r (by unfold Go.maxLen; omega) (by omega) h.guilds h.labels,zGm r (by omega),zHA]
        simp only [Option.bind_some]
        grind
end Go.Proofs.YtokcjmkikhgkeaaGreatDoor
end
section
namespace Go.Proofs.YtokcjmkikhgkeaaGreatDoor
open Go.Ev
def yB (x:Int):Bool:=decide (0 ≤ x ∧ x ≤ 127)
theorem zEd (x:Int):zdj (x,()) = some (yB x,()):=by simp only [zdj,yB]; grind
theorem zFx (x:Int):zgL (x,()) = some (yB x,()):=by simp only [zgL,yB]; grind
def zsh (x:vA):Bool:=yB x.1 && yB x.2.1
theorem zG5 (x:vA):zes (x,()) = some (zsh x,()):=by simp only [zes,zsh,yB]; grind
def zEe (x:Int):Bool:=decide (0 ≤ x ∧ x ≤ 5)
theorem zG6 (x:Int):zhd (x,()) = some (zEe x,()):=by simp only [zhd,zEe]; grind
def zww (s:ByteArray):Bool:=ByteArray.toList s == ByteArray.toList (ByteArray.mk #[])
def zof (x:jc):Bool:=bif x.1 then zo5 x.2.1 else zww x.2.1
theorem zFy (x:jc):ze6 (x,()) = some (!zof x,()):=by
  rw [zN]
  simp only [ze6,zlA,Option.bind_some,zof,zww]
  grind
theorem zA9 {l:List jc} (hl:l.length ≤ Go.maxLen):zhL (l,()) = some (l.all zof,()):=by
  rw [zN]
  simp only [zhL]
  rw [zqq (p:=fun x=>!zof x) hl fun x _=>zFy x,Option.bind_some,← jU]
  cases l.any fun x=>!zof x <;> rfl
theorem zG7 (a b:vA):eqI zW a b = ((a.1:Int) == b.1 && (a.2.1:Int) == b.2.1):=by
  show cond ((a.1:Int) == b.1) (cond ((a.2.1:Int) == b.2.1) true false) false = _
  cases ((a.1:Int) == b.1) <;> cases ((a.2.1:Int) == b.2.1) <;> rfl
def zwx (x:z9):Bool:=bif x.1 then zsh x.2.1 && (zsh x.2.2.1 && zEe x.2.2.2.1) else eqI zV x (zf zV)
theorem zBa (x:z9):zhB (x,()) = some (!zwx x,()):=by
  rw [zN]
  simp only [zhB,zG5,zG6,Option.bind_some,zwx]
  grind
def ziH (a b:z9):Bool:=a.1 && (eqI zW a.2.1 b.2.1 && (a.2.2.2.1:Int) == b.2.2.2.1)
theorem zxB (x:z9) (r:vA) (d:Int):zeX (x,some r,some d,()) = some (x.1 && (eqI zW x.2.1 r && (x.2.2.2.1:Int) == d),()):=by
  rw [zN]
  simp only [zeX,Option.bind_some]
  grind
theorem zG8 {α:Type} {d:α} {p:α→Bool}:∀ (l:List α) (i:Nat) (a:Int),i < l.length→p (l.getD i d) = true→((vG p l a) == a + (i:Int)) = qn (fun j=>!p (l.getD j d)) 0 i:=by
  intro l
  induction l with
  | nil=>intro i a h; simp at h
  | cons x l ih =>
    intro i a h hp
    cases i with
    | zero =>
      have hx:p x = true:=hp
      simp only [vG,hx,cond_true,qn]
      simp
    | succ i =>
      have h':i < l.length:=by simpa using h
      have hp':p (l.getD i d) = true:=hp
      have:=ih i (a + 1) h' hp'
      have e:a + 1 + (i:Int) = a + ((i + 1:Nat):Int):=by omega
      rw [e] at this
      simp only [vG]
      rw [Bool.eq_iff_iff,vc]
      rw [Bool.eq_iff_iff,vc] at this
      cases hx:p x with
      | true =>
        simp only [cond_true]
        constructor
        · intro h1
          have:=eq_of_beq h1
          omega
        · intro h1
          have h2:(!p x) = true:=h1 0 (by omega) (by omega)
          rw [hx] at h2; cases h2
      | false =>
        simp only [cond_false]
        rw [this]
        constructor
        · intro h1 j _ h2
          cases j with
          | zero=>show (!p x) = true; rw [hx]; rfl
          | succ j=>exact h1 j (by omega) (by omega)
        · intro h1 j _ h2
          exact h1 (j + 1) (by omega) (by omega)
def zFz (l:List z9):Bool:=qn (fun i=>zwx (l.getD i vH) && bif (l.getD i vH).1 then qn (fun j=>!ziH (l.getD j vH) (l.getD i vH)) 0 i else true) 0 (l.length - 0)
theorem zBb {l:List z9} (hl:l.length ≤ Go.maxLen):zln (l,()) = some (zFz l,()):=by
  rw [zN]
  exact yE (B:=zcU) (i0:=0) hl (Nat.zero_le _) (fun i=>(l,l,(l.length:Int),i)) (fun k i h1 h2=>by
    simp only [zcU]
    rw [ltT h2,zE h2]
    simp only [qw,zBa,Option.bind_some,cond_true]
    cases he:zwx (l.getD i vH) with
    | false=>rfl
    | true =>
      cases hs:(l.getD i vH).1 with
      | false=>rfl
      | true =>
        have hi:zhC (l,(l.getD i vH).2.1,(l.getD i vH).2.2.2.1,()) = some (vG (fun x=>ziH x (l.getD i vH)) l 0,()):=by
          simp only [zhC]
          rw [zly (p:=fun x=>ziH x (l.getD i vH)) hl fun x _=>zxB x _ _]
          rfl
        have hp:ziH (l.getD i vH) (l.getD i vH) = true:=by
          unfold ziH; rw [zG7,hs]; simp
        have:=zG8 (d:=vH) (p:=fun x=>ziH x (l.getD i vH)) l i 0 h2 hp
        rw [Int.zero_add] at this
        rw [hi,← this]
        simp only [Option.bind_some,Bool.not_true,cond_false,cond_true,Bool.true_and,bne]
        cases (vG (fun x=>ziH x (l.getD i vH)) l 0 == (i:Int)) <;> rfl) (fun k=>by simp only [zcU]; rw [ltF]; rfl)
def zuE (k n:Int) (r:vA):Bool:=((k == 1 || k == 3) && (yB n && eqI zW r (zf zW))) || (k == 2 && (n == 0 && zsh r))
def zog (x:qc):Bool:=bif x.1 then zo5 x.2.1 && zuE x.2.2.1 x.2.2.2.1 x.2.2.2.2.1 else eqI zU x (zf zU)
theorem zBc (x:zw1):zbL (x,()) = some (zuE x.1 x.2.1 x.2.2.1,()):=by
  rw [zN]
  simp only [zbL,zEd,Option.bind_some,zuE,zsh]
  grind
theorem zy8 (x:qc):zf7 (x,()) = some (!zog x,()):=by
  rw [zN]
  have h:zoR (x,()) = some ((x.2.2.1,x.2.2.2.1,x.2.2.2.2.1,()),()):=rfl
  simp only [zf7,zlA,Option.bind_some,zog,h,zBc]
  grind
theorem zy9 {l:List qc} (hl:l.length ≤ Go.maxLen):zf9 (l,()) = some (l.all zog,()):=by
  rw [zN]
  simp only [zf9]
  rw [zil (p:=fun x=>!zog x) hl fun x _=>zy8 x,Option.bind_some,← jU]
  cases l.any fun x=>!zog x <;> rfl
def zBd (c:Int):Bool:=decide (32 ≤ c ∧ c ≤ 126)
theorem zG9 (c:Int):zhe (c,()) = some (zBd c,()):=by simp only [zhe,zBd]; grind
def zEf (s:ByteArray):Bool:=decide (1 ≤ s.size ∧ s.size ≤ 40) && ((chr s 0 != 32 && chr s (s.size - 1) != 32) && qn (fun i=>zBd (chr s i)) 0 s.size)
theorem zwy (a b:ByteArray) (h:a.size < b.size):(ByteArray.toList a == ByteArray.toList b) = false:=by
  rw [beq_eq_false_iff_ne]
  intro e
  rw [Go.ByteArray.toList_eq,Go.ByteArray.toList_eq] at e
  have:=congrArg List.length e
  rw [zoe,zoe] at this
  omega
theorem zHW (s:ByteArray):∀ (n:Nat) (t:ByteArray),t.size ≤ n→∀ fuel,n < fuel→∃ r,zl zL fuel (t,32) = some (r,()) ∧ r.size ≤ t.size ∧ (chr t 0 ≠ 32→r = t) ∧ (1 ≤ t.size→chr t 0 = 32→r.size < t.size):=by
  intro n
  induction n with
  | zero =>
    intro t ht fuel hf
    obtain ⟨f,rfl⟩:∃ f,fuel = f + 1:=⟨fuel - 1,by omega⟩
    refine ⟨t,?_,Nat.le_refl _,fun _=>rfl,fun h=>by omega⟩
    show zL _ (t,32) = _
    simp only [zL]
    rw [decide_eq_false (by omega)]; rfl
  | succ n ih =>
    intro t ht fuel hf
    obtain ⟨f,rfl⟩:∃ f,fuel = f + 1:=⟨fuel - 1,by omega⟩
    by_cases h0:t.size = 0
    · refine ⟨t,?_,Nat.le_refl _,fun _=>rfl,fun h=>by omega⟩
      show zL _ (t,32) = _
      simp only [zL]
      rw [decide_eq_false (by omega)]; rfl
    have hc:((UInt8.toNat (List.getD t.data.toList (Int.toNat 0) 0):Nat):Int) = chr t 0:=rfl
    by_cases h32:chr t 0 = 32
    · have hsz:(ByteArray.extract t (Int.toNat 1) t.size).size = t.size - 1:=by
        rw [ByteArray.size_extract]
        show min t.size t.size - 1 = _
        omega
      obtain ⟨r,h1,h2,-⟩:=ih (ByteArray.extract t (Int.toNat 1) t.size) (by rw [hsz]; omega) f (by omega)
      refine ⟨r,?_,by omega,fun h=>absurd h32 h,fun _ _=>by omega⟩
      show zL (zl zL f) (t,32) = _
      simp only [zL]
      rw [hc,h32,h1]
      grind
    · refine ⟨t,?_,Nat.le_refl _,fun _=>rfl,fun _ h=>absurd h h32⟩
      show zL (zl zL f) (t,32) = _
      simp only [zL]
      rw [hc,decide_eq_true (by omega),decide_eq_true (by omega)]
      grind
theorem zHX:∀ (n:Nat) (t:ByteArray),t.size ≤ n→n ≤ 100→∀ fuel,n < fuel→∃ r,zl zI fuel (t,32) = some (r,()) ∧ r.size ≤ t.size ∧ (chr t (t.size - 1) ≠ 32→r = t) ∧ (1 ≤ t.size→chr t (t.size - 1) = 32→r.size < t.size):=by
  intro n
  induction n with
  | zero =>
    intro t ht _ fuel hf
    obtain ⟨f,rfl⟩:∃ f,fuel = f + 1:=⟨fuel - 1,by omega⟩
    refine ⟨t,?_,Nat.le_refl _,fun _=>rfl,fun h=>by omega⟩
    show zI _ (t,32) = _
    simp only [zI]
    rw [decide_eq_false (by omega)]; rfl
  | succ n ih =>
    intro t ht hn fuel hf
    obtain ⟨f,rfl⟩:∃ f,fuel = f + 1:=⟨fuel - 1,by omega⟩
    by_cases h0:t.size = 0
    · refine ⟨t,?_,Nat.le_refl _,fun _=>rfl,fun h=>by omega⟩
      show zI _ (t,32) = _
      simp only [zI]
      rw [decide_eq_false (by omega)]; rfl
    have hw:wI ((t.size:Int) - 1) = ((t.size - 1:Nat):Int):=zsa (by omega) (by unfold Go.maxLen; omega)
    have hc:((UInt8.toNat (List.getD t.data.toList (Int.toNat ((t.size - 1:Nat):Int)) 0):Nat):Int) = chr t (t.size - 1):=by rw [Int.toNat_natCast]; rfl
    by_cases h32:chr t (t.size - 1) = 32
    · have hsz:(ByteArray.extract t 0 (Int.toNat ((t.size - 1:Nat):Int))).size = t.size - 1:=by
        rw [ByteArray.size_extract,Int.toNat_natCast]
        omega
      obtain ⟨r,h1,h2,-⟩:=ih (ByteArray.extract t 0 (Int.toNat ((t.size - 1:Nat):Int))) (by rw [hsz]; omega) (by omega) f (by omega)
      refine ⟨r,?_,by omega,fun h=>absurd h32 h,fun _ _=>by omega⟩
      show zI (zl zI f) (t,32) = _
      simp only [zI]
      rw [hw,hc,h32,h1,zE (by omega)]
      grind
    · refine ⟨t,?_,Nat.le_refl _,fun _=>rfl,fun _ h=>absurd h h32⟩
      show zI (zl zI f) (t,32) = _
      simp only [zI]
      rw [hw,hc,zE (by omega),decide_eq_true (by omega)]
      grind
theorem zHD (s:ByteArray) (h:1 ≤ s.size ∧ s.size ≤ 40):∃ r,ze1 (s,ByteArray.mk #[32],()) = some (r,()) ∧ (ByteArray.toList r == ByteArray.toList s) = (chr s 0 != 32 && chr s (s.size - 1) != 32):=by
  obtain ⟨r,h1,h2,h3,h4⟩:=zHX s.size s (Nat.le_refl _) (by omega) K0 (zzt (by unfold Go.maxLen; omega))
  obtain ⟨r',h5,h6,h7,h8⟩:=zHW s r.size r (Nat.le_refl _) K0 (zzt (by unfold Go.maxLen; omega))
  refine ⟨r',?_,?_⟩
  · simp only [ze1]
    have e0:(ByteArray.toList s == ByteArray.toList (ByteArray.mk #[])) = false:=by
      cases he:zww s with
      | false=>exact he
      | true =>
        unfold zww at he
        have:=eq_of_beq he
        rw [Go.ByteArray.toList_eq,Go.ByteArray.toList_eq] at this
        have h2:s.size = 0:=by
          rw [← zoe,this]; rfl
        omega
    have e1:(ByteArray.toList (ByteArray.mk #[32]) == ByteArray.toList (ByteArray.mk #[])) = false:=by
      rw [Go.ByteArray.toList_eq,Go.ByteArray.toList_eq]; rfl
    have p1:zbl (s,32,()) = some (r,()):=h1
    have p2:zck (r,32,()) = some (r',()):=h5
    have z1:((ByteArray.size (ByteArray.mk #[32]):Nat):Int) = 1:=rfl
    have z2:((UInt8.toNat (List.getD (Array.toList (ByteArray.data (ByteArray.mk #[32]))) (Int.toNat 0) 0):Nat):Int) = 32:=rfl
    rw [e0,e1,z1,z2,p1,Option.bind_some,p2]
    rfl
  · by_cases hl:chr s (s.size - 1) = 32
    · have:=h4 h.1 hl
      rw [zwy r' s (by omega),hl]; simp
    · obtain rfl:=h3 hl
      by_cases hf:chr r 0 = 32
      · have:=h8 h.1 hf
        rw [zwy r' r (by omega),hf]; simp
      · rw [h7 hf]
        simp [hf,hl]
theorem zCF (s:ByteArray):zi0 (s,()) = some (zEf s,()):=by
  rw [zN]
  simp only [zi0]
  unfold zEf
  by_cases hb:1 ≤ s.size ∧ s.size ≤ 40
  · obtain ⟨r,h1,h2⟩:=zHD s hb
    rw [zwu (by unfold Go.maxLen; omega) zG9,h1,zwt,← h2]
    simp only [Option.bind_some]
    grind
  · grind
def zoh (x:qs):Bool:=bif x.1 then (yB x.2.1 && (yB x.2.2.1 && yB x.2.2.2.1)) && zEf x.2.2.2.2.1 else eqI z4 x (zf z4)
theorem zBe (x:qs):zhK (x,()) = some (!zoh x,()):=by
  rw [zN]
  simp only [zhK,ziB,zFx,zCF,Option.bind_some,zoh]
  grind
theorem zBf {l:List qs} (hl:l.length ≤ Go.maxLen):zhM (l,()) = some (l.all zoh,()):=by
  rw [zN]
  simp only [zhM]
  rw [zim (p:=fun x=>!zoh x) hl fun x _=>zBe x,Option.bind_some,← jU]
  cases l.any fun x=>!zoh x <;> rfl
end Go.Proofs.YtokcjmkikhgkeaaGreatDoor
end
section
namespace Go.Proofs.YtokcjmkikhgkeaaGreatDoor
open Go.Ev
abbrev M62:Int:=4611686018427387904
abbrev U64:Int:=18446744073709551616
def zJ (x:Int):Bool:=decide (0 ≤ x ∧ x ≤ 3)
theorem vV (x:Int):qO (x,()) = some (zJ x,()):=by simp only [qO,zJ]; grind
def zzx (a b:Int):Int × Int × Unit:=bif decide (a + b > M62) then (0,7,()) else (a + b,0,())
theorem zts {a b:Int} (ha:0 ≤ a) (hb:0 ≤ b ∧ b < U64):zdU (a,b,()) = some (zzx a b):=by
  simp only [zdU,extA,extB,zzx,cond_true]
  have h0:0 ≤ (a + b) / 18446744073709551616:=by omega
  have h1:((a + b) / 18446744073709551616 != 0) = decide (18446744073709551616 ≤ a + b):=by
    rw [Bool.eq_iff_iff]; simp only [bne_iff_ne,ne_eq,decide_eq_true_eq]; omega
  have h2:a + b < 18446744073709551616→(a + b) % 18446744073709551616 = a + b:=fun h=>by omega
  unfold M62 at *
  unfold U64 at *
  grind
def zBg (a b:Int):Int × Int × Unit:=bif decide (a * b > M62) then (0,7,()) else (a * b,0,())
theorem zHY (a b:Nat) (ha:a < 18446744073709551616) (hb:b < 18446744073709551616):zcy ((a:Int),(b:Int),()) = some ((((a * b) / 18446744073709551616:Nat):Int),(((a * b) % 18446744073709551616:Nat):Int),()):=by
  have e32:((2:Int) ^ min (Int.toNat 32) (Go.IntKind.bits .u64)) = 4294967296:=rfl
  have hand:∀ x:Nat,x < 18446744073709551616→wU (BitVec.toNat (BitVec.ofInt (Go.IntKind.bits .u64) (x:Int) &&& BitVec.ofInt (Go.IntKind.bits .u64) 4294967295):Int) = ((x % 4294967296:Nat):Int):=fun x hx=>by
    have h1:BitVec.ofInt (Go.IntKind.bits .u64) 4294967295 = BitVec.ofNat 64 4294967295:=rfl
    rw [zjw,h1]
    have h2:(BitVec.ofNat 64 x &&& BitVec.ofNat 64 4294967295).toNat = x % 4294967296:=by
      rw [BitVec.toNat_and,BitVec.toNat_ofNat,BitVec.toNat_ofNat,Nat.mod_eq_of_lt (show x < 2 ^ 64 by omega)]
      exact Nat.and_two_pow_sub_one_eq_mod x 32
    have h3:((BitVec.ofNat 64 x &&& BitVec.ofNat 64 4294967295:BitVec (Go.IntKind.bits .u64)).toNat:Int) = ((x % 4294967296:Nat):Int):=congrArg _ h2
    exact (congrArg wU h3).trans (zo7 (by omega))
  have hdiv:∀ x:Nat,Int.fdiv (x:Int) 4294967296 = ((x / 4294967296:Nat):Int):=fun x=>by
    rw [Int.fdiv_eq_ediv_of_nonneg _ (by omega)]; rfl
  have hw:∀ x:Nat,x < 18446744073709551616→wU (x:Int) = (x:Int):=fun x hx=>zo7 (by omega)
  have hmod:wU ((a:Int) * (b:Int)) = (((a * b) % 18446744073709551616:Nat):Int):=by
    rw [show ((a:Int) * (b:Int)) = ((a * b:Nat):Int) by simp]
    show ((a * b:Nat):Int) % ((2 ^ 64:Nat):Int) = _
    rfl
  simp only [zcy,e32]
  have ha1:a / 4294967296 ≤ 4294967295:=by omega
  have ha0:a % 4294967296 ≤ 4294967295:=by omega
  have hb1:b / 4294967296 ≤ 4294967295:=by omega
  have hb0:b % 4294967296 ≤ 4294967295:=by omega
  have hp:=Nat.mul_le_mul ha1 hb1
  have hq:=Nat.mul_le_mul ha1 hb0
  have hr:=Nat.mul_le_mul ha0 hb1
  have hs:=Nat.mul_le_mul ha0 hb0
  have hab:a * b = (a / 4294967296 * (b / 4294967296)) * 18446744073709551616 + (a / 4294967296 * (b % 4294967296) + a % 4294967296 * (b / 4294967296)) * 4294967296 + a % 4294967296 * (b % 4294967296):=by
    conv=>lhs; rw [← Nat.div_add_mod a 4294967296,← Nat.div_add_mod b 4294967296]
    grind
  rw [hmod,hab,hand a ha,hand b hb,hdiv a,hdiv b]
  generalize a / 4294967296 = a1 at *
  generalize a % 4294967296 = a0 at *
  generalize b / 4294967296 = b1 at *
  generalize b % 4294967296 = b0 at *
  simp only [← Int.natCast_mul]
  generalize a1 * b1 = p at *
  generalize a1 * b0 = q at *
  generalize a0 * b1 = r at *
  generalize a0 * b0 = s at *
  rw [hw p (by omega),hw q (by omega),hw r (by omega),hw s (by omega),hdiv s]
  simp only [← Int.natCast_add]
  rw [hw (q + s / 4294967296) (by omega),hdiv (q + s / 4294967296),hand _ (by omega)]
  simp only [← Int.natCast_add]
  rw [hw (p + (q + s / 4294967296) / 4294967296) (by omega),hw ((q + s / 4294967296) % 4294967296 + r) (by omega),hdiv]
  simp only [← Int.natCast_add]
  rw [hw _ (by omega)]
  have:p + (q + s / 4294967296) / 4294967296 + ((q + s / 4294967296) % 4294967296 + r) / 4294967296 = (p * 18446744073709551616 + (q + r) * 4294967296 + s) / 18446744073709551616:=by omega
  rw [this]
theorem zBh {a b:Int} (ha:0 ≤ a ∧ a < U64) (hb:0 ≤ b ∧ b < U64):zeB (a,b,()) = some (zBg a b):=by
  obtain ⟨m,rfl⟩:=Int.eq_ofNat_of_zero_le ha.1
  obtain ⟨n,rfl⟩:=Int.eq_ofNat_of_zero_le hb.1
  unfold U64 at *
  simp only [zeB]
  rw [zHY m n (by omega) (by omega),Option.bind_some]
  unfold zBg M62
  have e:((m:Int) * (n:Int)) = ((m * n:Nat):Int):=by simp
  rw [e]
  generalize m * n = p
  by_cases h:p < 18446744073709551616
  · have h1:p / 18446744073709551616 = 0:=by omega
    have h2:p % 18446744073709551616 = p:=by omega
    simp only [h1,h2]
    grind
  · have h1:(((p / 18446744073709551616:Nat):Int) != 0) = true:=by simp only [bne_iff_ne,ne_eq]; omega
    simp only [h1]
    grind
def zlD:Int→List Int→Int × Int × Unit
  | a,[]=>(a,0,())
  | a,x :: l=>bif decide (a + x > M62) then (0,7,()) else zlD (a + x) l
theorem zay {σ α β ρ:Type} {B:(σ→Option ρ)→σ→Option ρ} {l:List β} (d:β) (I:Nat→α→Prop) (st:Int→α→σ) (G:List β→α→Option ρ) (hl:l.length ≤ Go.maxLen)
    (hin:∀ k (i:Nat) x rest s,i < l.length→I i s→l.getD i d = x→x ∈ l→l.drop (i + 1) = rest→(∀ s',I (i + 1) s'→k (st (wI (i + 1)) s') = G rest s')→B k (st i s) = G (x :: rest) s) (hout:∀ k s,I l.length s→B k (st l.length s) = G [] s) (s:α) (h0:I 0 s):zl B K0 (st 0 s) = G l s:=by
  have:=yV (B:=B) hl st (fun i s=>G (l.drop i) s) I (fun k i s hi hI h=>?_) (fun k s hI=>?_) s h0
  · simpa using this
  · rw [zbB d hi]
    exact hin k i _ _ s hi hI rfl (z8 hi) rfl fun s' hI'=>h s' hI'
  · rw [hout _ _ hI,List.drop_of_length_le (Nat.le_refl _)]
theorem zks {l:List Int} (hl:l.length ≤ Go.maxLen) (h:∀ x ∈ l,0 ≤ x ∧ x < U64):ze2 (l,()) = some (zlD 0 l) :=
  zay (B:=zeD) (l:=l) (α:=Int) (0:Int) (fun _ s=>0 ≤ s) (fun i s=>(s,l,(l.length:Int),i)) (fun rest s=>some (zlD s rest)) hl (fun k i x rest s hi hI hx hm hr hk=>by
    simp only [zeD]
    have hxx:=h x hm
    rw [ltT hi,zE hi,qw,hx,zts hI hxx]
    simp only [cond_true,Option.bind_some,zzx,zlD]
    by_cases hb:s + x > M62
    · rw [decide_eq_true hb]; rfl
    · rw [decide_eq_false hb]
      exact hk (s + x) (by omega)) (fun k s _=>by simp only [zeD]; rw [ltF]; rfl) 0 (Int.le_refl 0)
def yR (a b:zr):Bool:=decide (a.1 ≤ b.1) && (List.range' 0 64).all fun i=>!zxA a.2.1 i || zxA b.2.1 i
def zdR (a:zr):Prop:=0 ≤ a.2.1 ∧ a.2.1 < U64
theorem zfS {a b:zr} (ha:zdR a) (hb:zdR b):zaF (a,b,()) = some (yR a b,()):=by
  rw [zN]
  simp only [zaF]
  unfold yR
  unfold zdR U64 at *
  obtain ⟨m,hm⟩:=Int.eq_ofNat_of_zero_le ha.1
  obtain ⟨n,hn⟩:=Int.eq_ofNat_of_zero_le hb.1
  have h1:=ztr m n (by omega) (by omega)
  unfold ze9 at h1
  have h2:(wU (BitVec.toNat (BitVec.ofInt (Go.IntKind.bits .u64) (a.2.1:Int) &&& ~~~BitVec.ofInt (Go.IntKind.bits .u64) (b.2.1:Int)):Int) == 0) = (List.range' 0 64).all fun i=>!zxA a.2.1 i || zxA b.2.1 i:=by
    rw [hm,hn]
    have h3:∀ z:Int,(z != 0) = !(z == 0):=fun z=>rfl
    rw [h3] at h1
    have h4:=congrArg (!·) h1
    simp only [Bool.not_not] at h4
    exact h4
  rw [h2]
  grind
theorem zwz (x:Int):zeY (x,()) = some (yB x,()):=by simp only [zeY,yB]; grind
def zwA (x:zkh):Bool:=zJ x.1 && (decide (x.2.1 ≤ M62) && decide (-1 ≤ x.2.2.1 ∧ x.2.2.1 ≤ 127))
theorem zCG (x:zkh):zfM (x,()) = some (zwA x,()):=by
  rw [zN]
  simp only [zfM,vV,zwz,Option.bind_some,zwA,yB]
  unfold M62
  grind
def zzy (x:zkh):Bool:=(x.2.1:Int) == 0 && (x.2.2.1:Int) == -1
theorem zBi (x:zkh):zeu (x,()) = some (zzy x,()):=by
  rw [zN]
  simp only [zeu,zzy]
  have h:eqI zde x (x.1,(zf zde).2.1,-1,(zf zde).2.2.2) = ((x.2.1:Int) == 0 && (x.2.2.1:Int) == -1):=by
    show cond ((x.1:Int) == x.1) (cond ((x.2.1:Int) == 0) (cond ((x.2.2.1:Int) == -1) true false) false) false = _
    rw [beq_self_eq_true]
    cases ((x.2.1:Int) == 0) <;> cases ((x.2.2.1:Int) == -1) <;> rfl
  rw [h]
def zuF (x:zp):Bool:=(yB x.2.1 && (yB x.2.2.1 && (x.2.1:Int) != x.2.2.1)) && ((zwA x.2.2.2.1 && zwA x.2.2.2.2.1) && !(zzy x.2.2.2.1 && zzy x.2.2.2.2.1))
def zsi (x:zp):Prop:=(0 ≤ x.2.2.2.1.2.1 ∧ x.2.2.2.1.2.1 < U64) ∧ (0 ≤ x.2.2.2.2.1.2.1 ∧ x.2.2.2.2.1.2.1 < U64)
theorem zCH (x:zp):ziY (x,()) = some (zuF x,()):=by
  rw [zN]
  simp only [ziY,zwz,zCG,zBi,Option.bind_some,zuF]
  grind
def zkG (x:zp):Bool:=bif x.1 then zuF x else eqI zw x (zf zw)
theorem zwB (x:zp):zee (x,()) = some (!zkG x,()):=by
  rw [zN]
  simp only [zee,zCH,Option.bind_some,zkG]
  grind
theorem zza {l:List zp} (hl:l.length ≤ Go.maxLen):zf8 (l,()) = some (l.all zkG,()):=by
  rw [zN]
  simp only [zf8]
  rw [zhU (p:=fun x=>!zkG x) hl fun x _=>zwB x,Option.bind_some,← jU]
  cases l.any fun x=>!zkG x <;> rfl
end Go.Proofs.YtokcjmkikhgkeaaGreatDoor
end
section
namespace Go.Proofs.YtokcjmkikhgkeaaGreatDoor
open Go.Ev
theorem zkH {α:Type} {p:α→Bool} {x:α} {l:List α}:(x :: l).filter p = bif p x then x :: l.filter p else l.filter p:=by
  rw [List.filter_cons]; cases p x <;> rfl
def qG {α:Type} (p:α→Bool):Nat→List α→List Int
  | _,[]=>[]
  | i,x :: l=>bif p x then (i:Int) :: qG p (i + 1) l else qG p (i + 1) l
theorem zkt {α:Type} {p:α→Bool}:∀ (l:List α) (i:Nat),(qG p i l).length ≤ l.length
  | [],_=>Nat.le_refl _
  | x :: l,i=>by
    have:=zkt (p:=p) l (i + 1)
    simp only [qG,List.length_cons]
    cases p x <;> simp <;> omega
theorem zku {α:Type} {p:α→Bool}:∀ (l:List α) (i:Nat),∀ z ∈ qG p i l,∃ j:Nat,z = (j:Int) ∧ i ≤ j ∧ j < i + l.length
  | [],i,z,h=>by cases h
  | x :: l,i,z,h=>by
    simp only [qG] at h
    have ih:=zku (p:=p) l (i + 1)
    cases hp:p x with
    | true =>
      rw [hp,cond_true] at h
      rcases List.mem_cons.1 h with rfl | h
      · exact ⟨i,rfl,Nat.le_refl _,by simp⟩
      · obtain ⟨j,h1,h2,h3⟩:=ih z h
        exact ⟨j,h1,by omega,by simp; omega⟩
    | false =>
      rw [hp,cond_false] at h
      obtain ⟨j,h1,h2,h3⟩:=ih z h
      exact ⟨j,h1,by omega,by simp; omega⟩
theorem zjT {α β:Type} {p q:α→Bool} {g:α→β} (d:α) (L:List α):∀ (l:List α) (i:Nat),(∀ j,j < l.length→L.getD (i + j) d = l.getD j d)→((qG p i l).filter fun z=>q (L.getD z.toNat d)).map (fun z=>g (L.getD z.toNat d)) = (l.filter fun x=>p x && q x).map g
  | [],_,_=>rfl
  | x :: l,i,h=>by
    have ih:=zjT (p:=p) (q:=q) (g:=g) d L l (i + 1) fun j hj=>by
      have:=h (j + 1) (by simp; omega)
      rw [show i + 1 + j = i + (j + 1) by omega,this]; rfl
    have h0:L.getD i d = x:=h 0 (by simp)
    simp only [qG,zkH]
    cases hp:p x with
    | false=>simp only [cond_false,Bool.false_and]; exact ih
    | true =>
      simp only [cond_true,Bool.true_and,zkH,Int.toNat_natCast,h0]
      cases hq:q x with
      | false=>exact ih
      | true=>simp only [cond_true,List.map_cons,Int.toNat_natCast,h0,ih]
theorem zrI {l:List zp} {g:zp × Unit→Option (Bool × Unit)}:zdq (some (l,some g,()),()) = some (true,()):=rfl
theorem ztt {l:List zp} {g:zp × Unit→Option (Bool × Unit)} {p:zp→Bool} (hg:∀ x,g (x,()) = some (p x,())) {i:Nat} (hi:i < l.length):vP (some (l,some g,()),(i:Int),()) = some (p (l.getD i qY),()):=by
  rw [zN]
  simp only [vP,zrI,Option.bind_some,cond_true]
  rw [decide_eq_true (by omega),ltT hi,zE hi,qw,hg]
  simp only [cond_true,Option.bind_some]
theorem zp0 {l:List zp} {g:zp × Unit→Option (Bool × Unit)} {p:zp→Bool} (hl:l.length ≤ lim) (hg:∀ x,g (x,()) = some (p x,())):zcD (some (l,some g,()),()) = some (qG p 0 l,()):=by
  have hl':l.length ≤ Go.maxLen:=by unfold lim at hl; unfold Go.maxLen; omega
  have:=yV (B:=yo) (α:=List Int) hl' (fun i o=>(some (l,some g,()),(l.length:Int),i,o)) (fun i o=>some (o ++ qG p i (l.drop i),())) (fun i o=>o.length ≤ i) (fun k i o hi hI hk=>by
    simp only [yo]
    rw [ltT hi,ztt hg hi,zgy,zbB qY hi]
    simp only [cond_true,Option.bind_some,qG]
    rw [decide_eq_true (by simp; omega)]
    cases hp:p (l.getD i qY) with
    | false =>
      simp only [cond_false]
      exact hk o (by omega)
    | true =>
      simp only [cond_true]
      rw [hk _ (by simp; omega)]
      simp) (fun k o _=>by
    simp only [yo]
    rw [ltF,List.drop_of_length_le (Nat.le_refl _)]
    simp [qG]) [] (Nat.le_refl _)
  refine Eq.trans ?_ (this.trans ?_)
  · rfl
  · simp
theorem zBj {l:List zn} {g:zn × Unit→Option (Bool × Unit)}:zds (some (l,some g,()),()) = some (true,()):=rfl
theorem zCI {l:List zn} {g:zn × Unit→Option (Bool × Unit)} {p:zn→Bool} (hg:∀ x,g (x,()) = some (p x,())) {i:Nat} (hi:i < l.length):zed (some (l,some g,()),(i:Int),()) = some (p (l.getD i qr),()):=by
  rw [zN]
  simp only [zed,zBj,Option.bind_some,cond_true]
  rw [decide_eq_true (by omega),ltT hi,zE hi,qw,hg]
  simp only [cond_true,Option.bind_some]
theorem zzb {l:List zn} {g:zn × Unit→Option (Bool × Unit)} {p:zn→Bool} (hl:l.length ≤ lim) (hg:∀ x,g (x,()) = some (p x,())):zfv (some (l,some g,()),()) = some (qG p 0 l,()):=by
  have hl':l.length ≤ Go.maxLen:=by unfold lim at hl; unfold Go.maxLen; omega
  have:=yV (B:=yq) (α:=List Int) hl' (fun i o=>(some (l,some g,()),(l.length:Int),i,o)) (fun i o=>some (o ++ qG p i (l.drop i),())) (fun i o=>o.length ≤ i) (fun k i o hi hI hk=>by
    simp only [yq]
    rw [ltT hi,zCI hg hi,zgy,zbB qr hi]
    simp only [cond_true,Option.bind_some,qG]
    rw [decide_eq_true (by simp; omega)]
    cases hp:p (l.getD i qr) with
    | false =>
      simp only [cond_false]
      exact hk o (by omega)
    | true =>
      simp only [cond_true]
      rw [hk _ (by simp; omega)]
      simp) (fun k o _=>by
    simp only [yq]
    rw [ltF,List.drop_of_length_le (Nat.le_refl _)]
    simp [qG]) [] (Nat.le_refl _)
  refine Eq.trans ?_ (this.trans ?_)
  · rfl
  · simp
def zmO (l:List zp) (c:Int):Int × Int × Unit:=bif zJ c then zlD 0 ((l.filter fun x=>x.1 && (x.2.2.2.1.1:Int) == c).map fun x=>x.2.2.2.1.2.1) else (0,1,())
theorem zCJ (l:List zp) (hl:l.length ≤ lim):ziZ (l,()) = some (some (l,some zf1,()),()):=by
  simp only [ziZ,yw,zjP hl,Option.bind_some]
  rfl
theorem zzc (x:zp):zf1 (x,()) = some (x.1,()):=by
  rw [zN]; rfl
theorem zBk {l:List zp} (hl:l.length ≤ lim) (h:∀ x ∈ l,zsi x) (c:Int):zhI (l,c,()) = some (zmO l c):=by
  have hl':l.length ≤ Go.maxLen:=by unfold lim at hl; unfold Go.maxLen; omega
  simp only [zhI,zhH,vV,Option.bind_some]
  unfold zmO
  cases hc:zJ c with
  | false=>rfl
  | true =>
    simp only [cond_true]
    rw [zCJ l hl,Option.bind_some,zp0 hl zzc,Option.bind_some]
    have hsl:=zkt (p:=fun x:zp=>x.1) l 0
    have hsm:=zku (p:=fun x:zp=>x.1) l 0
    have hloop:=zay (B:=zcW) (l:=qG (fun x:zp=>x.1) 0 l) (α:=List Int) (0:Int) (fun i o=>o.length ≤ i ∧ ∀ x ∈ o,0 ≤ x ∧ x < U64) (fun i o=>(l,c,qG (fun x:zp=>x.1) 0 l,((qG (fun x:zp=>x.1) 0 l).length:Int),i,o))
      (fun rest o=>some (zlD 0 (o ++ (rest.filter fun z=>((l.getD z.toNat qY).2.2.2.1.1:Int) == c).map fun z=>(l.getD z.toNat qY).2.2.2.1.2.1))) (by omega) (fun k i x rest o hi hI hx hm hr hk=>by
        simp only [zcW]
        obtain ⟨j,rfl,-,hj⟩:=hsm x hm
        rw [ltT hi,zE hi,qw,hx,zE (by omega),zE (by omega),Int.toNat_natCast,zgy]
        have hxx:=(h (l.getD j qY) (z8 (by omega))).1
        simp only [cond_true,zkH,Int.toNat_natCast]
        rw [decide_eq_true (by simp; omega)]
        simp only [cond_true]
        cases hq:((l.getD j qY).2.2.2.1.1:Int) == c with
        | false =>
          exact hk o ⟨by omega,hI.2⟩
        | true =>
          simp only [cond_true,List.map_cons,Int.toNat_natCast]
          refine (hk _ ⟨by simp; omega,fun x hx=>?_⟩).trans ?_
          · rcases List.mem_append.1 hx with hx | hx
            · exact hI.2 x hx
            · rcases List.mem_singleton.1 hx with rfl
              exact hxx
          · rw [List.append_assoc]; rfl) (fun k o hI=>by
        simp only [zcW]
        rw [ltF]
        simp only [cond_false]
        rw [zks (by omega) hI.2,List.filter_nil,List.map_nil,List.append_nil]
        rfl) [] ⟨Nat.le_refl _,fun x hx=>by cases hx⟩
    refine hloop.trans ?_
    rw [List.nil_append,zjT (q:=fun x:zp=>(x.2.2.2.1.1:Int) == c) (g:=fun x:zp=>x.2.2.2.1.2.1) qY l l 0 fun j _=>by rw [Nat.zero_add]]
end Go.Proofs.YtokcjmkikhgkeaaGreatDoor
end
section
namespace Go.Proofs.YtokcjmkikhgkeaaGreatDoor
open Go.Ev
def zBl (x:Int):Bool:=decide (0 ≤ x ∧ x ≤ 2)
theorem zxC (x:Int):zaI (x,()) = some (!zBl x,()):=by simp only [zaI,zBl]; grind
def zwC (r:ze) (i:Nat) (row:List Int):Bool:=decide (row.length = r.2.2.1.length) && (row.all zBl && row.getD (Int.toNat (r.2.2.2.1.getD i qU).2.1) (0:Int) == 2)
def zhV (r:ze) (l:List (List Int)):Bool:=decide (l.length = r.2.2.2.1.length) && qn (fun i=>zwC r i (l.getD i [])) 0 (l.length - 0)
structure zgS (r:ze):Prop where
  labels:1 ≤ r.1.length ∧ r.1.length ≤ 8
  lines:1 ≤ r.2.1.length ∧ r.2.1.length ≤ 8
  accounts:1 ≤ r.2.2.1.length ∧ r.2.2.1.length ≤ 8
  guilds:r.2.2.2.1.length ≤ 8
  quotas:r.2.2.2.2.1.length = r.1.length
  heads:∀ i,i < r.2.2.2.1.length→0 ≤ (r.2.2.2.1.getD i qU).2.1 ∧ (r.2.2.2.1.getD i qU).2.1 < (r.2.2.1.length:Int)
theorem jG {r:ze} (h:qg r = true):zgS r:=by
  simp only [qg,Bool.and_eq_true] at h
  obtain ⟨h1,h2,h3,h4,h5,-⟩:=h
  simp only [ziG,zlC,zgQ,zsg,ze8,qf,Bool.and_eq_true,decide_eq_true_eq,zEc,vc] at h1 h2 h3 h4 h5
  refine ⟨by omega,by omega,by omega,h4.1,by omega,fun i hi=>?_⟩
  have:=h4.2.1 i (by omega) (by omega)
  simp only [zA8,qf,Bool.and_eq_true,decide_eq_true_eq] at this
  omega
theorem ixR {n:Nat} {x:Int} {ρ:Type} {y:Option ρ} (h:0 ≤ x ∧ x < (n:Int)):inR x (n:Int) y = y:=zFq h.1 h.2
theorem zBm {r:ze} (hr:z3 r) (l:List (List Int)):zhR (r,l,()) = some (qg r && zhV r l,()):=by
  rw [zN]
  simp only [zhR,zhQ,zdQ r hr,Option.bind_some]
  cases hb:qg r with
  | false=>rfl
  | true =>
    have ok:=jG hb
    rw [zmd]
    unfold zhV
    by_cases hn:l.length = r.2.2.2.1.length
    · have hg:=ok.guilds
      have hloop:ziF K0 (some zaI,l,(l.length:Int),0,r) = bif qn (fun i=>zwC r i (l.getD i [])) 0 (l.length - 0) then some (true,()) else some (false,()) :=
        yE (i0:=0) (n:=l.length) (by unfold Go.maxLen; omega) (Nat.zero_le _) (fun i=>(some zaI,l,(l.length:Int),i,r)) (fun k i h1 h2=>by
          simp only [ze7]
          rw [ltT h2,zE h2,Int.toNat_natCast,zmd]
          unfold zwC
          by_cases hm:(l.getD i []).length = r.2.2.1.length
          · have ha:=ok.accounts
            have hh:=ok.heads i (by omega)
            rw [zb8 (p:=fun x=>!zBl x) (l:=l.getD i []) (by unfold Go.maxLen; omega) fun x _=>zxC x,zE (by omega),qw,ixR (by rw [hm]; exact hh)]
            have:=jU (l:=l.getD i []) (p:=zBl)
            simp only [Option.bind_some,cond_true]
            grind
          · grind) (fun k=>by simp only [ze7]; rw [ltF]; rfl)
      rw [hloop]
      grind
    · grind
theorem zFA (x:Int):zjk (x,()) = some (yB x,()):=by simp only [zjk,yB]; grind
theorem zEg (x:Int):zdl (x,()) = some (yB x,()):=by simp only [zdl,yB]; grind
def zpa (k a b:Int):Int × Int × Unit:=bif (k != 1 && k != 2) || (a == 0 || b == 0) then (0,1,()) else bif decide (a * b > M62) then (0,7,()) else bif k == 2 then (a,0,()) else (a * b,0,())
theorem ztu {k a b:Int} (ha:0 ≤ a ∧ a < U64) (hb:0 ≤ b ∧ b < U64):zfP (k,a,b,()) = some (zpa k a b):=by
  simp only [zfP,zBh ha hb,Option.bind_some,zBg,zpa]
  generalize a * b = p
  cases h:decide (p > M62) <;> simp only [cond_true,cond_false] <;> grind
def qa (x:Int):Prop:=0 ≤ x ∧ x < U64
structure zkI (x:zn):Prop where
  amount:qa x.2.2.2.2.2.2.1
  price:qa x.2.2.2.2.2.2.2.1
  held:qa x.2.2.2.2.2.2.2.2.1
def zpb (x:zn):Bool:=((zpa x.2.2.2.1 x.2.2.2.2.2.2.2.1 x.2.2.2.2.2.2.1).2.1 == 0 && (zpa x.2.2.2.1 x.2.2.2.2.2.2.2.1 x.2.2.2.2.2.2.1).1 == x.2.2.2.2.2.2.2.2.1) && ((yB x.2.1 && yB x.2.2.1) && ((zJ x.2.2.2.2.1 && zJ x.2.2.2.2.2.1) && ((x.2.2.2.2.1:Int) != x.2.2.2.2.2.1 && decide (0 ≤ x.2.2.2.2.2.2.2.2.2.1))))
theorem zEh {x:zn} (h:zkI x):zkn (x,()) = some (zpb x,()):=by
  rw [zN]
  simp only [zkn,ztu h.price h.amount,zFA,vV,Option.bind_some,zpb]
  generalize zpa x.2.2.2.1 x.2.2.2.2.2.2.2.1 x.2.2.2.2.2.2.1 = n
  grind
def zxD (x:zn):Bool:=bif x.1 then zpb x else eqI zm x (zf zm)
def zuG (l:List zn):List Int:=(l.filter fun x=>x.1).map fun x=>x.2.2.2.2.2.2.2.2.2.1
def zBn:List Int→List (Int × Int)→Nat
  | [],o=>o.length
  | x :: l,o=>zBn l (yr tI o x (wI (zcc tI (0:Int) o x + 1)))
def zsj (l:List zn):Bool:=l.all zxD && zBn (zuG l) [] == (zuG l).length
theorem zBo {l:List zn} (hl:l.length ≤ 1000000) (h:∀ x ∈ l,zkI x):zlw (l,()) = some (zsj l,()):=by
  have hloop:=zay (B:=zcY) (l:=l) (α:=Nat × List (Int × Int)) qr (fun i s=>s.1 ≤ i) (fun i s=>((s.1:Int),l,(l.length:Int),i,s.2))
    (fun rest s=>some (rest.all zxD && zBn (zuG rest) s.2 == s.1 + (zuG rest).length,())) (by unfold Go.maxLen; omega) (fun k i x rest s hi hI hx hm hr hk=>by
      obtain ⟨n,o⟩:=s
      simp only [zcY]
      have hn:n ≤ i:=hI
      have hw:wI ((n:Int) + 1) = ((n + 1:Nat):Int):=by
        unfold wI
        rw [IntWalk.i64_in _ (by omega)]; rfl
      rw [ltT hi,zE hi]
      simp only [qw,hx,cond_true,zEh (h x hm),Option.bind_some,hw,zuG,zkH,List.all_cons,zxD]
      cases hlive:x.1 with
      | false =>
        simp only [cond_false]
        have:=hk (n,o) (by show n ≤ i + 1; omega)
        cases eqI zm x (zf zm) with
        | false=>rfl
        | true=>exact this
      | true =>
        simp only [cond_true,List.map_cons,zBn,List.length_cons]
        have:=hk (n + 1,yr tI o x.2.2.2.2.2.2.2.2.2.1 (wI (zcc tI (0:Int) o x.2.2.2.2.2.2.2.2.2.1 + 1))) (by show n + 1 ≤ i + 1; omega)
        cases zpb x with
        | false=>rfl
        | true =>
          refine this.trans ?_
          simp only [zuG,Bool.true_and]
          rw [show n + 1 + (List.map (fun x:zn=>x.2.2.2.2.2.2.2.2.2.1) (List.filter (fun x=>x.1) rest)).length = n + ((List.map (fun x:zn=>x.2.2.2.2.2.2.2.2.2.1) (List.filter (fun x=>x.1) rest)).length + 1) by omega]) (fun k s _=>by
      obtain ⟨n,o⟩:=s
      simp only [zcY]
      rw [ltF]
      simp only [cond_false,zuG,List.filter_nil,List.map_nil,zBn,List.length_nil,List.all_nil,Bool.true_and,Nat.add_zero]
      rw [zFw]
      cases o.length == n <;> rfl) (0,[]) (Nat.le_refl _)
  refine hloop.trans ?_
  unfold zsj
  rw [Nat.zero_add]
structure zsk (x:zF):Prop where
  amount:qa x.2.2.2.2.2.2.2.1
  price:qa x.2.2.2.2.2.2.2.2.1
def zkJ (x:zF):Bool:=(decide (x.1 ≤ M62) && (yB x.2.1 && (yB x.2.2.1 && (yB x.2.2.2.1 && yB x.2.2.2.2.2.2.2.2.2.1)))) && bif (x.2.2.2.2.1:Int) == 3 then ((x.2.2.2.2.2.1:Int) == 0 && (x.2.2.2.2.2.2.1:Int) == 0) && ((x.2.2.2.2.2.2.2.1:Int) == 0 && (x.2.2.2.2.2.2.2.2.1:Int) == 0)
  else ((zpa x.2.2.2.2.1 x.2.2.2.2.2.2.2.1 x.2.2.2.2.2.2.2.2.1).2.1 == 0 && (x.2.2.2.2.2.2.2.2.2.1:Int) == 0) && ((x.2.2.2.2.2.1:Int) != x.2.2.2.2.2.2.1 && (zJ x.2.2.2.2.2.1 && zJ x.2.2.2.2.2.2.1))
theorem zFB (x:zF):eqI zt x (x.1,x.2.1,x.2.2.1,x.2.2.2.1,x.2.2.2.2.1,(zf zt).2.2.2.2.2.1,(zf zt).2.2.2.2.2.2.1,(zf zt).2.2.2.2.2.2.2.1,(zf zt).2.2.2.2.2.2.2.2.1,x.2.2.2.2.2.2.2.2.2.1,(zf zt).2.2.2.2.2.2.2.2.2.2) = (((x.2.2.2.2.2.1:Int) == 0 && (x.2.2.2.2.2.2.1:Int) == 0) && ((x.2.2.2.2.2.2.2.1:Int) == 0 && (x.2.2.2.2.2.2.2.2.1:Int) == 0)):=by
  show cond ((x.1:Int) == x.1) (cond ((x.2.1:Int) == x.2.1) (cond ((x.2.2.1:Int) == x.2.2.1) (cond ((x.2.2.2.1:Int) == x.2.2.2.1) (cond ((x.2.2.2.2.1:Int) == x.2.2.2.2.1) (cond ((x.2.2.2.2.2.1:Int) == 0) (cond ((x.2.2.2.2.2.2.1:Int) == 0) (cond ((x.2.2.2.2.2.2.2.1:Int) == 0) (cond ((x.2.2.2.2.2.2.2.2.1:Int) == 0) (cond ((x.2.2.2.2.2.2.2.2.2.1:Int) == x.2.2.2.2.2.2.2.2.2.1) true false) false) false) false) false) false) false) false) false) false = _
  simp only [beq_self_eq_true,cond_true]
  cases ((x.2.2.2.2.2.1:Int) == 0) <;> cases ((x.2.2.2.2.2.2.1:Int) == 0) <;> cases ((x.2.2.2.2.2.2.2.1:Int) == 0) <;> cases ((x.2.2.2.2.2.2.2.2.1:Int) == 0) <;> rfl
theorem zCK {x:zF} (h:zsk x):zi1 (x,()) = some (zkJ x,()):=by
  rw [zN]
  simp only [zi1,ztu h.amount h.price,zEg,vV,Option.bind_some,zkJ]
  rw [zFB x]
  generalize zpa x.2.2.2.2.1 x.2.2.2.2.2.2.2.1 x.2.2.2.2.2.2.2.2.1 = n
  unfold M62
  grind
def zFC (a b:zF):Int:=orV (zjR a.1 b.1) (zjR a.2.1 b.2.1)
theorem zzd (a b:zF):zf6 (a,b,()) = some (zFC a b,()):=by
  simp only [zf6,zpZ,zlz,Option.bind_some]
  show Option.bind (zcL ([zjR a.1 b.1,zjR a.2.1 b.2.1],())) _ = _
  rw [zHy]; rfl
def zlE (l:List zF):Bool:=qn (fun i=>zkJ (l.getD i zg6) && (decide (i = 0) || !decide (zFC (l.getD (i - 1) zg6) (l.getD i zg6) ≥ 0))) 0 (l.length - 0)
theorem zze {l:List zF} (hl:l.length ≤ Go.maxLen) (h:∀ x ∈ l,zsk x):zjK (l,()) = some (zlE l,()):=by
  rw [zN]
  exact yE (B:=zbX) (i0:=0) hl (Nat.zero_le _) (fun i=>(l,l,(l.length:Int),i)) (fun k i h1 h2=>by
    simp only [zbX]
    rw [ltT h2,zE h2,qw,zCK (h _ (z8 h2))]
    by_cases h0:i = 0
    · subst h0
      simp only [cond_true,Option.bind_some]
      grind
    · rw [zsa (by omega) (by omega),zE (by omega),Int.toNat_natCast,zzd]
      simp only [cond_true,Option.bind_some]
      grind) (fun k=>by simp only [zbX]; rw [ltF]; rfl)
end Go.Proofs.YtokcjmkikhgkeaaGreatDoor
end
section
namespace Go.Proofs.YtokcjmkikhgkeaaGreatDoor
open Go.Ev
def zkv (a:List Int):Prop:=∀ x ∈ a,qa x
theorem za7 {a:List Int} (h:zkv a) (i:Nat):qa (a.getD i 0):=by
  by_cases hi:i < a.length
  · exact h _ (z8 hi)
  · rw [List.getD_eq_getElem?_getD,List.getElem?_eq_none (by omega)]
    unfold qa U64; decide
structure ziI (x:zg):Prop where
  trades:∀ t ∈ x.2.2.2.2.1,zsi t
  purses:∀ a ∈ x.2.2.2.2.2.1,zkv a
  made:zkv x.2.2.2.2.2.2.2.1
  spent:zkv x.2.2.2.2.2.2.2.2.1
structure zP (s:zb):Prop where
  shelves:∀ x ∈ s.2.1,ziI x
  orders:∀ x ∈ s.2.2.2.1,zkI x
  entries:∀ x ∈ s.2.2.2.2.1,zsk x
def zeI (r:ze) (x:zg) (q:zah):Bool:=((decide ((x.1.length:Int) = q.1) && decide ((x.2.1.length:Int) = q.2.1)) && (decide ((x.2.2.1.length:Int) = q.2.2.1) && decide ((x.2.2.2.1.length:Int) = q.2.2.2.1))) && (decide ((x.2.2.2.2.1.length:Int) = q.2.2.2.2.1) && (decide (x.2.2.2.2.2.1.length = r.2.2.1.length) && decide (x.2.2.2.2.2.2.1.length = r.2.2.1.length)))
def zfT (r:ze) (s:zb):Bool:=(decide (s.2.1.length = r.1.length) && (decide ((s.2.2.2.1.length:Int) = r.2.2.2.2.2.1) && decide ((s.2.2.2.2.1.length:Int) ≤ r.2.2.2.2.2.2.1))) && ((decide (s.2.2.2.2.2.1.length = r.2.1.length) && decide (s.1 ≤ M62)) && qn (fun i=>zeI r (s.2.1.getD i za) (r.2.2.2.2.1.getD i qC)) 0 (s.2.1.length - 0))
theorem neI (a b:Int):(a != b) = !decide (a = b):=by
  rw [Bool.eq_iff_iff]; simp
theorem zzf {r:ze} (hr:z3 r) (s:zb):zbq ((r,s,()),()) = some (qg r && zfT r s,()):=by
  rw [zN]
  simp only [zbq,zga,zdQ r hr,Option.bind_some]
  cases hb:qg r with
  | false=>rfl
  | true =>
    have ok:=jG hb
    have ok1:=ok.labels
    have ok2:=ok.quotas
    rw [zmd,zmd]
    unfold zfT M62
    by_cases hn:s.2.1.length = r.1.length
    · have hloop:zhP K0 ((r.2.2.1.length:Int),s.2.1,(s.2.1.length:Int),0,(r,s,())) = bif qn (fun i=>zeI r (s.2.1.getD i za) (r.2.2.2.2.1.getD i qC)) 0 (s.2.1.length - 0) then some (true,()) else some (false,()) :=
        yE (i0:=0) (n:=s.2.1.length) (by unfold Go.maxLen; omega) (Nat.zero_le _) (fun i=>((r.2.2.1.length:Int),s.2.1,(s.2.1.length:Int),i,(r,s,()))) (fun k i h1 h2=>by
          simp only [zeh]
          rw [ltT h2,zE h2,zE (by omega)]
          simp only [qw,neI,cond_true,zeI]
          generalize s.2.1.getD i za = x
          generalize r.2.2.2.2.1.getD i qC = q
          generalize k _ = kk
          grind (splits:=30)) (fun k=>by simp only [zeh]; rw [ltF]; rfl)
      rw [hloop]
      grind
    · grind
structure zgT (r:ze) (s:zb):Prop where
  shelves:s.2.1.length = r.1.length
  orders:s.2.2.2.1.length ≤ 24
  entries:s.2.2.2.2.1.length ≤ 48
  people:s.2.2.2.2.2.1.length = r.2.1.length
  shelf:∀ x ∈ s.2.1,x.1.length ≤ 12 ∧ x.2.1.length ≤ 12 ∧ x.2.2.1.length ≤ 12 ∧ x.2.2.2.1.length ≤ 12 ∧ x.2.2.2.2.1.length ≤ 12 ∧ x.2.2.2.2.2.1.length = r.2.2.1.length ∧ x.2.2.2.2.2.2.1.length = r.2.2.1.length
theorem zuH:∀ (l:List zah) (n:Int),zkq n l = true→∀ q ∈ l,zgR q = true
  | [],_,_,q,h=>by cases h
  | a :: l,n,h,q,hq=>by
    simp only [zkq,Bool.and_eq_true] at h
    rcases List.mem_cons.1 hq with rfl | hq
    · exact h.1
    · exact zuH l _ h.2.2 q hq
theorem zc7 {r:ze} {s:zb} (hb:qg r = true) (h:zfT r s = true):zgT r s:=by
  have ok:=jG hb
  simp only [qg,Bool.and_eq_true] at hb
  obtain ⟨-,-,-,-,h5,h6⟩:=hb
  simp only [ze8,zsf,qf,Bool.and_eq_true,decide_eq_true_eq] at h5 h6
  simp only [zfT,Bool.and_eq_true,decide_eq_true_eq,vc] at h
  obtain ⟨⟨h7,h8,h9⟩,⟨h10,-⟩,h11⟩:=h
  refine ⟨h7,by omega,by omega,h10,fun x hx=>?_⟩
  obtain ⟨i,hi,rfl⟩:=List.mem_iff_getElem.1 hx
  have h12:=h11 i (by omega) (by omega)
  have e:s.2.1.getD i za = s.2.1[i]:=by simp [List.getD,hi]
  rw [e] at h12
  have hq:=zuH _ _ h5.2.2.2 (r.2.2.2.2.1.getD i qC) (z8 (by have:=ok.quotas; omega))
  simp only [zgR,qf,Bool.and_eq_true,decide_eq_true_eq] at hq
  simp only [zeI,Bool.and_eq_true,decide_eq_true_eq] at h12
  omega
def vW (x:zg):Bool:=(x.1.all zof) && (zFz x.2.1 && (x.2.2.1.all zog && (x.2.2.2.1.all zoh && x.2.2.2.2.1.all zkG)))
theorem zwD {x:zg} (h:x.1.length ≤ 12 ∧ x.2.1.length ≤ 12 ∧ x.2.2.1.length ≤ 12 ∧ x.2.2.2.1.length ≤ 12 ∧ x.2.2.2.2.1.length ≤ 12):zeg (x,()) = some (vW x,()):=by
  rw [zN]
  have hm:12 ≤ Go.maxLen:=by unfold Go.maxLen; omega
  simp only [zeg]
  rw [zA9 (by omega),zBb (by omega),zy9 (by omega),zBf (by omega),zza (by omega)]
  simp only [Option.bind_some,vW]
  grind
theorem zzg {r:ze} {s:zb} (ok:zgS r) (sz:zgT r s):zbr ((r,s,()),()) = some (s.2.1.all vW,()):=by
  rw [zN]
  simp only [zbr]
  have h1:=ok.labels
  have h2:=sz.shelves
  rw [zCw (p:=vW) (by unfold Go.maxLen; omega) fun x hx=>zwD (by have:=sz.shelf x hx; omega)]
  simp only [Option.bind_some]
def jy (r:ze) (x:Int):Bool:=decide (0 ≤ x ∧ x < (r.2.2.1.length:Int))
def vg (r:ze) (x:Int):Bool:=decide (0 ≤ x ∧ x < (r.1.length:Int))
theorem y4 (r:ze) (s:zb) (x:Int):qP ((r,s,()),x,()) = some (jy r x,()):=by simp only [qP,jy]; grind
theorem zp1 (r:ze) (s:zb) (x:Int):zbo ((r,s,()),x,()) = some (vg r x,()):=by simp only [zbo,vg]; grind
def zlF (s:zb) (x:vA):Bool:=decide (0 ≤ x.1 ∧ x.1 < (s.2.1.length:Int)) && (decide (0 ≤ x.2.1 ∧ x.2.1 < ((s.2.1.getD x.1.toNat za).1.length:Int)) && ((s.2.1.getD x.1.toNat za).1.getD x.2.1.toNat zsb).1)
theorem zp2 (s:zb) (x:vA):zdE (s,x,()) = some (zlF s x,()):=by
  rw [zN]
  simp only [zdE,zlF,ix]
  by_cases h1:0 ≤ x.1 ∧ x.1 < (s.2.1.length:Int)
  · rw [ixR h1,ixR h1]
    by_cases h2:0 ≤ x.2.1 ∧ x.2.1 < ((s.2.1.getD x.1.toNat za).1.length:Int)
    · rw [ixR h2]
      grind
    · grind
  · grind
def ziJ (r:ze) (s:zb) (x:zn):Bool:=!x.1 || (vg r x.2.1 && (jy r x.2.2.1 && decide (x.2.2.2.2.2.2.2.2.2.1 < (s.2.2.2.2.1.length:Int))))
def ziK (r:ze) (s:zb) (x:zF):Bool:=decide (x.2.1 < (r.2.1.length:Int)) && ((x.2.2.1:Int) == r.2.1.getD x.2.1.toNat 0 && (jy r x.2.2.2.1 && decide (x.1 ≤ s.1)))
def zsl (r:ze) (x:Int):Bool:=x == -1 || jy r x
theorem zEi (r:ze) (s:zb) (x:zn):zdx (x,some (r,s,()),()) = some (ziJ r s x,()):=by
  rw [zN]
  simp only [zdx,y4,zp1,Option.bind_some,ziJ]
  grind
theorem zEj (r:ze) (s:zb) {x:zF} (h:zkJ x = true):zaX (x,some (r,s,()),()) = some (ziK r s x,()):=by
  rw [zN]
  simp only [zaX,y4,Option.bind_some,ziK,ix]
  have:0 ≤ x.2.1:=by unfold zkJ yB at h; grind
  by_cases h1:x.2.1 < (r.2.1.length:Int)
  · rw [ixR ⟨this,h1⟩]
    grind
  · grind
theorem zEk (r:ze) (s:zb) (x:Int):vd (x,some (r,s,()),()) = some (zsl r x,()):=by
  rw [zN]
  simp only [vd,y4,Option.bind_some,zsl]
  grind
def zc4 (r:ze) (s:zb):Bool:=zhV r s.2.2.1 && (zsj s.2.2.2.1 && (zlE s.2.2.2.2.1 && (zlF s (zf zW) && (s.2.2.2.1.all (ziJ r s) && (s.2.2.2.2.1.all (ziK r s) && s.2.2.2.2.2.1.all (zsl r))))))
theorem zBp {l:List zF} (h:zlE l = true):∀ x ∈ l,zkJ x = true:=by
  intro x hx
  simp only [zlE,vc,Bool.and_eq_true] at h
  obtain ⟨i,hi,rfl⟩:=List.mem_iff_getElem.1 hx
  have e:l.getD i zg6 = l[i]:=by simp [List.getD,hi]
  rw [← e]
  exact (h i (by omega) (by omega)).1
theorem zxE {r:ze} {s:zb} (hr:z3 r) (hb:qg r = true) (hs:zP s) (sz:zgT r s):zaM ((r,s,()),()) = some (zc4 r s,()):=by
  rw [zN]
  have ok:=jG hb
  have h1:=ok.lines
  have h2:=sz.orders
  have h3:=sz.entries
  have h4:=sz.people
  have hm:48 ≤ Go.maxLen:=by unfold Go.maxLen; omega
  simp only [zaM,zBm hr,hb,Bool.true_and,Option.bind_some]
  unfold zc4
  cases zhV r s.2.2.1 with
  | false=>rfl
  | true =>
    rw [zBo (by omega) hs.orders,zze (by omega) hs.entries,zp2]
    simp only [Option.bind_some,cond_true]
    cases zsj s.2.2.2.1 with
    | false=>rfl
    | true =>
      cases he:zlE s.2.2.2.2.1 with
      | false=>rfl
      | true =>
        rw [zCx (p:=ziJ r s) (by omega) fun x _=>zEi r s x,zCy (p:=ziK r s) (by omega) fun x hx=>zEj r s (zBp he x hx),zFt (p:=zsl r) (by omega) fun x _=>zEk r s x]
        simp only [Option.bind_some,cond_true]
        grind
end Go.Proofs.YtokcjmkikhgkeaaGreatDoor
end
section
namespace Go.Proofs.YtokcjmkikhgkeaaGreatDoor
open Go.Ev
def zlG (r:ze) (a b:Int):Bool:=vg r a && (vg r b && yR (r.1.getD a.toNat qz) (r.1.getD b.toNat qz))
theorem zrJ {r:ze} (hr:z3 r) (a:Int) (h:vg r a = true):zdR (r.1.getD a.toNat qz):=by
  simp only [vg,decide_eq_true_eq] at h
  exact hr.labels _ (z8 (by omega))
theorem ztv {r:ze} (hr:z3 r) (s:zb) (a b:Int):zfN ((r,s,()),a,b,()) = some (zlG r a b,()):=by
  rw [zN]
  simp only [zfN,zp1,Option.bind_some,zlG,ix]
  cases ha:vg r a with
  | false=>rfl
  | true =>
    cases hb:vg r b with
    | false=>rfl
    | true =>
      rw [zfS (zrJ hr a ha) (zrJ hr b hb)]
      simp only [vg,decide_eq_true_eq] at ha hb
      rw [ixR ha,ixR hb]
      simp only [Option.bind_some]
      grind
def zfU (r:ze) (s:zb) (i:Int) (x:vA):Bool:=zlF s x && zlG r x.1 i
theorem zhW {r:ze} (hr:z3 r) (s:zb) (i:Int) (x:vA):vQ (x,some (r,s,()),some i,()) = some (zfU r s i x,()):=by
  rw [zN]
  simp only [vQ,zp2,ztv hr,Option.bind_some,zfU]
  grind
def zeJ (r:ze) (s:zb) (i:Int) (x:z9):Bool:=!x.1 || (zfU r s i x.2.1 && zfU r s i x.2.2.1)
def zeK (r:ze) (s:zb) (i:Int) (x:qc):Bool:=(x.2.2.1:Int) != 2 || zfU r s i x.2.2.2.2.1
def zhX (r:ze) (s:zb) (i:Int) (x:zg):Bool:=x.2.1.all (zeJ r s i) && (x.2.2.1.all (zeK r s i) && x.2.2.2.2.2.2.1.all (zfU r s i))
theorem zFD {r:ze} (hr:z3 r) (s:zb) (i:Int) (x:z9):zeb (x,some (some fun z=>vQ (z.1,some (r,s,()),some i,())),()) = some (zeJ r s i x,()):=by
  rw [zN]
  simp only [zeb,zhW hr,Option.bind_some,zeJ]
  grind
theorem zFE {r:ze} (hr:z3 r) (s:zb) (i:Int) (x:qc):zbF (x,some (some fun z=>vQ (z.1,some (r,s,()),some i,())),()) = some (zeK r s i x,()):=by
  rw [zN]
  simp only [zbF,zhW hr,Option.bind_some,zeK]
  grind
theorem zzh {r:ze} {s:zb} (hr:z3 r) (ok:zgS r) (sz:zgT r s):zdH ((r,s,()),()) = some (qn (fun i=>zhX r s (i:Int) (s.2.1.getD i za)) 0 (s.2.1.length - 0),()):=by
  rw [zN]
  have h1:=ok.labels
  have h2:=sz.shelves
  have h3:=ok.accounts
  exact yE (B:=zbZ) (i0:=0) (n:=s.2.1.length) (by unfold Go.maxLen; omega) (Nat.zero_le _) (fun i=>(s.2.1,(s.2.1.length:Int),i,(r,s,()))) (fun k i _ h=>by
    have hm:12 ≤ Go.maxLen:=by unfold Go.maxLen; omega
    have hz:=sz.shelf _ (z8 (d:=za) h)
    simp only [zbZ]
    have hbelow:zjH ((r,s,()),(i:Int),()) = some (some fun z=>vQ (z.1,some (r,s,()),some (i:Int),()),()):=rfl
    rw [ltT h,zE h,qw,hbelow,Option.bind_some,zD3 (p:=zeJ r s i) (by omega) fun x _=>zFD hr s i x,zws (p:=zeK r s i) (by omega) fun x _=>zFE hr s i x,zFu (p:=zfU r s i) (by omega) fun x _=>zhW hr s i x]
    simp only [Option.bind_some,cond_true]
    unfold zhX
    grind) (fun k=>by simp only [zbZ]; rw [ltF]; rfl)
theorem zCL {σ ρ:Type} {B:(σ→Option ρ)→σ→Option ρ} {i0 n:Nat} (hn:n ≤ Go.maxLen) (h0:i0 ≤ n) {p:Nat→Bool} {fin bad:Option ρ} (st:Int→σ)
    (hin:∀ k (i:Nat),i0 ≤ i→i < n→B k (st i) = bif p i then k (st (wI (i + 1))) else bad) (hout:∀ k,B k (st n) = fin) (K:Nat) (hK:n - i0 < K):zl B K (st i0) = bif qn p i0 (n - i0) then fin else bad:=by
  have key:∀ (m i fuel:Nat),i0 ≤ i→i + m = n→m < fuel→zl B fuel (st i) = bif qn p i m then fin else bad:=by
    intro m
    induction m with
    | zero =>
      intro i fuel _ h1 h2
      obtain ⟨f,rfl⟩:∃ f,fuel = f + 1:=⟨fuel - 1,by omega⟩
      obtain rfl:i = n:=by omega
      exact hout _
    | succ m ih =>
      intro i fuel h1 h2 h3
      obtain ⟨f,rfl⟩:∃ f,fuel = f + 1:=⟨fuel - 1,by omega⟩
      show B (zl B f) (st i) = _
      rw [hin _ i h1 (by omega),wI,zvw (len:=n) (by omega) hn,show ((i:Int) + 1) = ((i + 1:Nat):Int) by omega,ih (i + 1) f (by omega) (by omega) (by omega)]
      simp only [qn]
      cases p i <;> rfl
  exact key (n - i0) i0 K (Nat.le_refl _) (by omega) hK
def zsm (r:ze) (x:qc):Bool:=(x.2.2.1:Int) != 1 || jy r x.2.2.2.1
def zsn (r:ze) (i:Int) (x:qs):Bool:=!x.1 || (zlG r x.2.1 i && (jy r x.2.2.1 && jy r x.2.2.2.1))
def zpc (r:ze) (x:zp):Bool:=!x.1 || (jy r x.2.1 && jy r x.2.2.1)
def zdV (r:ze) (i:Int) (x:zg):Bool:=x.2.2.1.all (zsm r) && (x.2.2.2.1.all (zsn r i) && x.2.2.2.2.1.all (zpc r))
theorem zEl (r:ze) (s:zb) (x:qc):zaY (x,some (r,s,()),()) = some (zsm r x,()):=by
  rw [zN]
  simp only [zaY,y4,Option.bind_some,zsm]
  grind
theorem zEm {r:ze} (hr:z3 r) (s:zb) (i:Int) (x:qs):ve (x,some (r,s,()),some i,()) = some (zsn r i x,()):=by
  rw [zN]
  simp only [ve,y4,ztv hr,Option.bind_some,zsn]
  grind
theorem zEn (r:ze) (s:zb) (x:zp):qD (x,some (r,s,()),()) = some (zpc r x,()):=by
  rw [zN]
  simp only [qD,y4,Option.bind_some,zpc]
  grind
theorem zxF {r:ze} {s:zb} (hr:z3 r) (ok:zgS r) (sz:zgT r s):zaK ((r,s,()),()) = some (qn (fun i=>zdV r (i:Int) (s.2.1.getD i za)) 0 s.2.1.length,()):=by
  rw [zN]
  have h1:=ok.labels
  have h2:=sz.shelves
  have hm:12 ≤ Go.maxLen:=by unfold Go.maxLen; omega
  have step:∀ k (i:Nat),i < s.2.1.length→qS k (s.2.1,(s.2.1.length:Int),(i:Int),(r,s,())) = bif zdV r (i:Int) (s.2.1.getD i za) then k (s.2.1,(s.2.1.length:Int),wI ((i:Int) + 1),(r,s,())) else some (false,()):=fun k i h=>by
    have hz:=sz.shelf _ (z8 (d:=za) h)
    simp only [qS]
    rw [ltT h,zE h,qw,zws (p:=zsm r) (by omega) fun x _=>zEl r s x,zD4 (p:=zsn r i) (by omega) fun x _=>zEm hr s i x,zCz (p:=zpc r) (by omega) fun x _=>zEn r s x]
    simp only [Option.bind_some,cond_true]
    unfold zdV
    grind
  have hend:∀ k,qS k (s.2.1,(s.2.1.length:Int),(s.2.1.length:Int),(r,s,())) = some (true,()):=fun k=>by simp only [qS]; rw [ltF]; rfl
  have first:zaK ((r,s,()),()) = zvx (qS) (qS) K0 (s.2.1,(s.2.1.length:Int),((0:Nat):Int),(r,s,())):=rfl
  have hw:wI (((0:Nat):Int) + 1) = ((1:Nat):Int):=rfl
  obtain ⟨m,hK⟩:=zsd
  have hf:∀ (B0 B1:(vf→Option (Bool × Unit))→vf→Option (Bool × Unit)) (x:vf),zvx B0 B1 K0 x = B0 (zl B1 (m + 7)) x:=fun B0 B1 x=>by rw [hK]; rfl
  have rest:=zCL (B:=qS) (i0:=1) (n:=s.2.1.length) (by unfold Go.maxLen; omega) (by omega) (p:=fun i=>zdV r (i:Int) (s.2.1.getD i za)) (fun i=>(s.2.1,(s.2.1.length:Int),i,(r,s,()))) (fun k i _ h=>step k i h) hend (m + 7) (by unfold K0 Go.maxLen at hK; omega)
  rw [hf] at first
  rw [first,step _ 0 (by omega),hw]
  refine (congrArg (fun z=>bif zdV r ((0:Nat):Int) (s.2.1.getD 0 za) then z else some (false,())) rest).trans ?_
  obtain ⟨n,hn⟩:∃ n,s.2.1.length = n + 1:=⟨s.2.1.length - 1,by omega⟩
  rw [hn]
  simp only [qn,Nat.add_sub_cancel]
  cases zdV r ((0:Nat):Int) (s.2.1.getD 0 za) <;> rfl
theorem zBq {l:List zp} {g:zp × Unit→Option (Bool × Unit)} {p:zp→Bool} (hg:∀ x,g (x,()) = some (p x,())) (z:Int):vP (some (l,some g,()),z,()) = some (decide (0 ≤ z ∧ z < (l.length:Int)) && p (l.getD z.toNat qY),()):=by
  by_cases h:0 ≤ z ∧ z < (l.length:Int)
  · obtain ⟨n,rfl⟩:=Int.eq_ofNat_of_zero_le h.1
    rw [ztt hg (by omega),decide_eq_true h,Bool.true_and,Int.toNat_natCast]
  · rw [decide_eq_false h,Bool.false_and]
    simp only [vP,zrI,Option.bind_some,cond_true]
    grind
theorem zwE {α:Type} {p:α→Bool} (d:α) (L:List α) (q:Int→Bool):∀ (l:List α) (i:Nat),(∀ j,j < l.length→L.getD (i + j) d = l.getD j d)→(qG p i l).all q = qn (fun j=>!p (L.getD j d) || q (j:Int)) i l.length
  | [],_,_=>rfl
  | x :: l,i,h=>by
    have ih:=zwE (p:=p) d L q l (i + 1) fun j hj=>by
      have:=h (j + 1) (by simp; omega)
      rw [show i + 1 + j = i + (j + 1) by omega,this]; rfl
    have h0:L.getD i d = x:=h 0 (by simp)
    simp only [qG,List.length_cons,qn,h0]
    rw [← ih]
    cases p x <;> simp
def zlH (x:zg) (j:Nat) (t:qc):Bool:=(t.2.2.1:Int) != 3 || (decide (0 ≤ t.2.2.2.1 ∧ t.2.2.2.1 < (x.2.2.2.2.1.length:Int)) && ((x.2.2.2.2.1.getD (Int.toNat t.2.2.2.1) qY).1 && ((x.2.2.2.2.1.getD (Int.toNat t.2.2.2.1) qY).2.2.2.1.2.2.1:Int) == (j:Int)))
def zeL (x:zg) (j:Int) (t:zp):Bool:=(decide (t.2.2.2.1.2.2.1 < (x.2.2.1.length:Int)) && decide (t.2.2.2.2.1.2.2.1 < (x.2.2.1.length:Int))) && (decide (t.2.2.2.1.2.2.1 < 0) || (((x.2.2.1.getD (Int.toNat t.2.2.2.1.2.2.1) zdd).2.2.1:Int) == 3 && ((x.2.2.1.getD (Int.toNat t.2.2.2.1.2.2.1) zdd).2.2.2.1:Int) == j))
def zlI (x:zg):Bool:=qn (fun j=>zlH x j (x.2.2.1.getD j zdd)) 0 (x.2.2.1.length - 0) && qn (fun j=>!(x.2.2.2.2.1.getD j qY).1 || zeL x (j:Int) (x.2.2.2.2.1.getD j qY)) 0 x.2.2.2.2.1.length
theorem zmP (x:zp):vL (x,()) = some (x.1,()):=by
  rw [zN]; rfl
theorem zzi {r:ze} {s:zb} (ok:zgS r) (sz:zgT r s):zdG ((r,s,()),()) = some (qn (fun i=>zlI (s.2.1.getD i za)) 0 (s.2.1.length - 0),()):=by
  rw [zN]
  have h1:=ok.labels
  have h2:=sz.shelves
  have hm:12 ≤ Go.maxLen:=by unfold Go.maxLen; omega
  have hlm:12 ≤ lim:=by unfold lim; omega
  have l2:∀ k0 (i:Nat) (x:zg),x.2.2.2.2.1.length ≤ 12→zbT K0 k0 (s.2.1,(s.2.1.length:Int),(i:Int),qG (fun t:zp=>t.1) 0 x.2.2.2.2.1,((qG (fun t:zp=>t.1) 0 x.2.2.2.2.1).length:Int),0,x) = bif qn (fun j=>!(x.2.2.2.2.1.getD j qY).1 || zeL x (j:Int) (x.2.2.2.2.1.getD j qY)) 0 x.2.2.2.2.1.length then k0 (s.2.1,(s.2.1.length:Int),wI ((i:Int) + 1)) else some (false,()):=fun k0 i x hx=>by
    have hsl:=zkt (p:=fun t:zp=>t.1) x.2.2.2.2.1 0
    have hsm:=zku (p:=fun t:zp=>t.1) x.2.2.2.2.1 0
    have:=ztR (B:=fun k2=>zbS k0 k2) (l:=qG (fun t:zp=>t.1) 0 x.2.2.2.2.1) (0:Int) (p:=fun z=>zeL x z (x.2.2.2.2.1.getD z.toNat qY)) (fin:=k0 (s.2.1,(s.2.1.length:Int),wI ((i:Int) + 1))) (bad:=some (false,())) (fun j=>(s.2.1,(s.2.1.length:Int),(i:Int),qG (fun t:zp=>t.1) 0 x.2.2.2.2.1,((qG (fun t:zp=>t.1) 0 x.2.2.2.2.1).length:Int),j,x)) (by omega) (fun k j z hj hz hmem=>by
      obtain ⟨n,rfl,-,hn⟩:=hsm z hmem
      simp only [zbS]
      rw [ltT hj,zE hj,qw,hz,zE (by omega),zE (by omega),Int.toNat_natCast]
      simp only [cond_true,zeL,neI]
      by_cases ha:(x.2.2.2.2.1.getD n qY).2.2.2.1.2.2.1 < (x.2.2.1.length:Int)
      · by_cases hb:0 ≤ (x.2.2.2.2.1.getD n qY).2.2.2.1.2.2.1
        · rw [ixR ⟨hb,ha⟩,ixR ⟨hb,ha⟩]
          grind
        · grind
      · grind) (fun k=>by simp only [zbS]; rw [ltF]; rfl)
    refine this.trans ?_
    rw [zwE (p:=fun t:zp=>t.1) qY x.2.2.2.2.1 (fun z=>zeL x z (x.2.2.2.2.1.getD z.toNat qY)) x.2.2.2.2.1 0 fun j _=>by rw [Nat.zero_add]]
    simp only [Int.toNat_natCast]
  have l1:∀ k0 (i:Nat) (x:zg),x.2.2.1.length ≤ 12→x.2.2.2.2.1.length ≤ 12→zbU K0 k0 (some (x.2.2.2.2.1,some vL,()),s.2.1,(s.2.1.length:Int),(i:Int),x.2.2.1,(x.2.2.1.length:Int),0,x) = bif zlI x then k0 (s.2.1,(s.2.1.length:Int),wI ((i:Int) + 1)) else some (false,()):=fun k0 i x hx hx2=>by
    have:=yE (B:=fun k1=>y0 (zbT K0 k0) k0 k1) (i0:=0) (n:=x.2.2.1.length) (p:=fun j=>zlH x j (x.2.2.1.getD j zdd)) (fin:=bif qn (fun j=>!(x.2.2.2.2.1.getD j qY).1 || zeL x (j:Int) (x.2.2.2.2.1.getD j qY)) 0 x.2.2.2.2.1.length then k0 (s.2.1,(s.2.1.length:Int),wI ((i:Int) + 1)) else some (false,())) (bad:=some (false,())) (by omega) (Nat.zero_le _) (fun j=>(some (x.2.2.2.2.1,some vL,()),s.2.1,(s.2.1.length:Int),(i:Int),x.2.2.1,(x.2.2.1.length:Int),j,x)) (fun k j _ hj=>by
      simp only [y0]
      rw [ltT hj,zE hj,qw,zBq zmP]
      simp only [cond_true,Option.bind_some,zlH,neI]
      by_cases ha:0 ≤ (x.2.2.1.getD j zdd).2.2.2.1 ∧ (x.2.2.1.getD j zdd).2.2.2.1 < (x.2.2.2.2.1.length:Int)
      · rw [ixR ha]
        grind
      · grind) (fun k=>by
      simp only [y0]
      rw [ltF,zp0 (by omega) zmP,Option.bind_some]
      exact l2 k0 i x hx2)
    refine this.trans ?_
    unfold zlI
    cases qn (fun j=>zlH x j (x.2.2.1.getD j zdd)) 0 (x.2.2.1.length - 0) <;> rfl
  exact yE (B:=fun k0=>y3 (zbU K0 k0) k0) (i0:=0) (n:=s.2.1.length) (by omega) (Nat.zero_le _) (fun i=>(s.2.1,(s.2.1.length:Int),i)) (fun k i _ h=>by
    have hz:=sz.shelf _ (z8 (d:=za) h)
    simp only [y3]
    have hq:yw ((s.2.1.getD i za).2.2.2.2.1,some vL,()) = some (some ((s.2.1.getD i za).2.2.2.2.1,some vL,()),()):=by
      simp only [yw,zjP (show (s.2.1.getD i za).2.2.2.2.1.length ≤ lim by omega),Option.bind_some]
      rfl
    rw [ltT h,zE h,qw,hq,Option.bind_some]
    exact l1 k i _ (by omega) (by omega)) (fun k=>by simp only [y3]; rw [ltF]; rfl)
end Go.Proofs.YtokcjmkikhgkeaaGreatDoor
end
section
namespace Go.Proofs.YtokcjmkikhgkeaaGreatDoor
open Go.Ev
def zhY (r:ze) (s:zb) (i:Int) (x:zg):Bool:=zhX r s i x && (zdV r i x && zlI x)
theorem zGq {α:Type} {d:α} {l:List α} {p:α→Bool}:l.all p = true ↔ ∀ j,j < l.length→p (l.getD j d) = true:=by
  rw [List.all_eq_true]
  constructor
  · exact fun h j hj=>h _ (z8 hj)
  · intro h x hx
    obtain ⟨i,hi,rfl⟩:=List.mem_iff_getElem.1 hx
    have:=h i hi
    simpa [List.getD,hi] using this
end Go.Proofs.YtokcjmkikhgkeaaGreatDoor
end
section
namespace Go.Proofs.YtokcjmkikhgkeaaGreatDoor
open Go.Ev
def zD:List Int→Int
  | []=>0
  | x :: l=>x + zD l
theorem zuI:∀ (l m:List Int),zD (l ++ m) = zD l + zD m
  | [],m=>by simp [zD]
  | x :: l,m=>by simp only [List.cons_append,zD,zuI l m]; omega
theorem zlJ:∀ {l:List Int},(∀ x ∈ l,0 ≤ x)→0 ≤ zD l
  | [],_=>Int.le_refl 0
  | x :: l,h=>by
    have h1:=h x (by simp)
    have h2:=zlJ (l:=l) fun y hy=>h y (by simp [hy])
    simp only [zD]; omega
theorem za8 {α:Type} {g:α→Int} {l:List α} (h:∀ x ∈ l,0 ≤ g x):0 ≤ zD (l.map g):=zlJ fun x hx=>by
  obtain ⟨y,hy,rfl⟩:=List.mem_map.1 hx
  exact h y hy
def zhZ (n:Int):Int × Int × Unit:=bif decide (n > M62) then (0,7,()) else (n,0,())
theorem zdW {n:Int} (h:n > M62):zhZ n = (0,7,()):=by unfold zhZ; rw [decide_eq_true h]; rfl
theorem zfa {n:Int} (h:n ≤ M62):zhZ n = (n,0,()):=by unfold zhZ; rw [decide_eq_false (by omega)]; rfl
theorem zlK:∀ (l:List Int) (a:Int),a ≤ M62→(∀ x ∈ l,0 ≤ x)→zlD a l = zhZ (a + zD l)
  | [],a,h,_=>by simp only [zlD,zD,Int.add_zero]; exact (zfa h).symm
  | x :: l,a,h,hp=>by
    have h2:=zlJ (l:=l) fun y hy=>hp y (by simp [hy])
    simp only [zlD,zD]
    by_cases hb:a + x > M62
    · rw [decide_eq_true hb,zdW (by omega)]; rfl
    · rw [decide_eq_false hb,cond_false,zlK l (a + x) (by omega) fun y hy=>hp y (by simp [hy])]
      congr 1; omega
theorem znl {α:Type} (p:α→Bool) (g:α→Int):∀ l:List α,zD ((l.filter p).map g) = zD (l.map fun x=>bif p x then g x else 0)
  | []=>rfl
  | x :: l=>by
    have ih:=znl p g l
    rw [zkH]
    simp only [List.map_cons,zD]
    cases hp:p x with
    | true=>simp only [cond_true,List.map_cons,zD,ih]
    | false=>simp only [cond_false,ih]; omega
def zlL (x:zn):Int:=bif (x.2.2.2.1:Int) == 2 then x.2.2.2.2.1 else x.2.2.2.2.2.1
theorem zGr (x:zn):zf0 (x,()) = some (zlL x,()):=by
  simp only [zf0,zlL]; grind
def qX (c:Int) (x:zn):Int:=bif x.1 && zlL x == c then x.2.2.2.2.2.2.2.2.1 else 0
def zuJ (l:List zn) (c:Int):Int × Int × Unit:=bif zJ c then zhZ (zD (l.map (qX c))) else (0,1,())
theorem zEo (l:List zn) (hl:l.length ≤ lim):zkm (l,()) = some (some (l,some zhj,()),()):=by
  simp only [zkm,zgu,zpY hl,Option.bind_some]
  rfl
theorem zBr (x:zn):zhj (x,()) = some (x.1,()):=by
  rw [zN]; rfl
theorem zCM {l:List zn} (hl:l.length ≤ lim) (h:∀ x ∈ l,zkI x) (c:Int):zi3 (l,c,()) = some (zuJ l c):=by
  have hl':l.length ≤ Go.maxLen:=by unfold lim at hl; unfold Go.maxLen; omega
  simp only [zi3,zi2,vV,Option.bind_some]
  unfold zuJ
  cases hc:zJ c with
  | false=>rfl
  | true =>
    have hslots:zhG (l,()) = some (qG (fun x:zn=>x.1) 0 l,()):=by
      simp only [zhG]
      rw [zEo l hl,Option.bind_some,zzb hl zBr,Option.bind_some]
    simp only [cond_true]
    rw [hslots,Option.bind_some]
    have hsl:=zkt (p:=fun x:zn=>x.1) l 0
    have hsm:=zku (p:=fun x:zn=>x.1) l 0
    have hloop:=zay (B:=zdJ) (l:=qG (fun x:zn=>x.1) 0 l) (α:=List Int) (0:Int) (fun i o=>o.length ≤ i ∧ ∀ x ∈ o,0 ≤ x ∧ x < U64) (fun i o=>(l,c,qG (fun x:zn=>x.1) 0 l,((qG (fun x:zn=>x.1) 0 l).length:Int),i,o))
      (fun rest o=>some (zlD 0 (o ++ (rest.filter fun z=>zlL (l.getD z.toNat qr) == c).map fun z=>(l.getD z.toNat qr).2.2.2.2.2.2.2.2.1))) (by omega) (fun k i x rest o hi hI hx hm hr hk=>by
        simp only [zdJ]
        obtain ⟨j,rfl,-,hj⟩:=hsm x hm
        rw [ltT hi,zE hi,qw,hx,zE (by omega),zE (by omega),Int.toNat_natCast,zgy,zGr]
        have hxx:=(h (l.getD j qr) (z8 (by omega))).held
        simp only [cond_true,zkH,Int.toNat_natCast,Option.bind_some]
        rw [decide_eq_true (by simp; omega)]
        simp only [cond_true]
        cases hq:zlL (l.getD j qr) == c with
        | false =>
          exact hk o ⟨by omega,hI.2⟩
        | true =>
          simp only [cond_true,List.map_cons,Int.toNat_natCast]
          refine (hk _ ⟨by simp; omega,fun x hx=>?_⟩).trans ?_
          · rcases List.mem_append.1 hx with hx | hx
            · exact hI.2 x hx
            · rcases List.mem_singleton.1 hx with rfl
              exact hxx
          · rw [List.append_assoc]; rfl) (fun k o hI=>by
        simp only [zdJ]
        rw [ltF]
        simp only [cond_false]
        rw [zks (by omega) hI.2,List.filter_nil,List.map_nil,List.append_nil]
        rfl) [] ⟨Nat.le_refl _,fun x hx=>by cases hx⟩
    refine hloop.trans ?_
    rw [List.nil_append,zjT (q:=fun x:zn=>zlL x == c) (g:=fun x:zn=>x.2.2.2.2.2.2.2.2.1) qr l l 0 fun j _=>by rw [Nat.zero_add]]
    rw [zlK _ 0 (by unfold M62; omega) fun x hx=>?_,znl,Int.zero_add]
    · rfl
    · obtain ⟨y,hy,rfl⟩:=List.mem_map.1 hx
      exact (h y (List.mem_filter.1 hy).1).held.1
theorem zp3 {x:zn} (h:zkI x) (c:Int):qa (qX c x):=by
  unfold qX
  cases x.1 && zlL x == c with
  | true=>exact h.held
  | false=>exact (⟨Int.le_refl 0,by unfold U64; decide⟩:qa 0)
def zb9 (c:Int) (x:zp):Int:=bif x.1 && (x.2.2.2.1.1:Int) == c then x.2.2.2.1.2.1 else 0
theorem zBs {l:List zp} (h:∀ x ∈ l,zsi x) {c:Int} (hc:zJ c = true):zmO l c = zhZ (zD (l.map (zb9 c))):=by
  unfold zmO
  rw [hc,cond_true,zlK _ 0 (by unfold M62; omega) fun x hx=>?_,znl,Int.zero_add]
  · rfl
  · obtain ⟨y,hy,rfl⟩:=List.mem_map.1 hx
    exact (h y (List.mem_filter.1 hy).1).1.1
theorem zzj {x:zp} (h:zsi x) (c:Int):qa (zb9 c x):=by
  unfold zb9
  cases x.1 && (x.2.2.2.1.1:Int) == c with
  | true=>exact h.1
  | false=>exact (⟨Int.le_refl 0,by unfold U64; decide⟩:qa 0)
def je (c:Int) (a:List Int):Int:=a.getD c.toNat 0
def zM (c:Int) (x:zg):Int:=zD (x.2.2.2.2.1.map (zb9 c)) + zD (x.2.2.2.2.2.1.map (je c))
theorem zkw {x:zg} (h:ziI x) (c:Int):0 ≤ zD (x.2.2.2.2.1.map (zb9 c)):=za8 fun y hy=>(zzj (h.trades y hy) c).1
theorem zwF {x:zg} (h:ziI x) (c:Int):0 ≤ zD (x.2.2.2.2.2.1.map (je c)):=za8 fun y hy=>(za7 (h.purses y hy) _).1
theorem zgb {x:zg} (h:ziI x) (c:Int):0 ≤ zM c x:=by
  have:=zkw h c
  have:=zwF h c
  unfold zM; omega
def zdC (s:zb) (c:Int):Int × Int × Unit:=bif zJ c then zhZ (zD (s.2.2.2.1.map (qX c)) + zD (s.2.1.map (zM c))) else (0,1,())
def wts:List zg→Nat
  | []=>0
  | x :: l=>1 + x.2.2.2.2.2.1.length + wts l
structure zzz (s:zb):Prop where
  shelves:s.2.1.length ≤ 2000000
  orders:s.2.2.2.1.length ≤ 2000000
  shelf:∀ x ∈ s.2.1,x.2.2.2.2.1.length ≤ 2000000 ∧ x.2.2.2.2.2.1.length ≤ 2000000
  all:wts s.2.1 ≤ 2000000
theorem zGs {l:List zg} {i:Nat} {x:zg} {rest:List zg} (hi:i < l.length) (hx:l.getD i za = x) (hr:l.drop (i + 1) = rest):wts (l.drop i) = 1 + x.2.2.2.2.2.1.length + wts rest:=by
  rw [zbB za hi,hx,hr]; rfl
theorem zFF {n:Nat}:∀ {l:List zg},(∀ x ∈ l,x.2.2.2.2.2.1.length ≤ n)→wts l ≤ l.length * (n + 1)
  | [],_=>Nat.zero_le _
  | x :: l,h=>by
    have h1:=h x (by simp)
    have h2:=zFF (l:=l) fun y hy=>h y (by simp [hy])
    simp only [wts,List.length_cons,Nat.add_mul]
    omega
theorem yS {c:Int} (hc:zJ c = true):0 ≤ c ∧ c < ((4:Nat):Int):=by
  simp only [zJ,decide_eq_true_eq] at hc; omega
theorem zBt {s:zb} (hs:zP s) (sh:zzz s) (c:Int):zhO (s,c,()) = some (zdC s c):=by
  have hlm:10000000 ≤ lim:=by unfold lim; omega
  have hmm:10000000 ≤ Go.maxLen:=by unfold Go.maxLen; omega
  have hsh:=sh.shelves
  have hso:=sh.orders
  simp only [zhO,zhN,vV,Option.bind_some]
  rw [zCM (by omega) hs.orders]
  unfold zdC zuJ
  cases hc:zJ c with
  | false=>rfl
  | true =>
    have hcin:=yS hc
    simp only [cond_true,Option.bind_some]
    have hbook:0 ≤ zD (s.2.2.2.1.map (qX c)):=za8 fun y hy=>(zp3 (hs.orders y hy) c).1
    have hall:0 ≤ zD (s.2.1.map (zM c)):=za8 fun y hy=>zgb (hs.shelves y hy) c
    have inner:∀ k0 (i:Nat) (x:zg) (o:List Int),x.2.2.2.2.2.1.length ≤ 2000000→o.length ≤ 2000001→zc1 K0 k0 (c,s.2.1,(s.2.1.length:Int),(i:Int),x.2.2.2.2.2.1,(x.2.2.2.2.2.1.length:Int),0,o) = k0 (c,s.2.1,(s.2.1.length:Int),wI ((i:Int) + 1),o ++ x.2.2.2.2.2.1.map (je c)):=fun k0 i x o hx ho =>
      zay (B:=fun k1=>zc0 k0 k1) (l:=x.2.2.2.2.2.1) (α:=List Int) (zf (Ty.arr 4 tU)) (fun j o'=>o'.length ≤ 2000001 + j) (fun j o'=>(c,s.2.1,(s.2.1.length:Int),(i:Int),x.2.2.2.2.2.1,(x.2.2.2.2.2.1.length:Int),j,o')) (fun rest o'=>k0 (c,s.2.1,(s.2.1.length:Int),wI ((i:Int) + 1),o' ++ rest.map (je c))) (by omega) (fun k j a rest o' hj hI ha hm hr hk=>by
        simp only [zc0]
        have h4:((4:Int)) = ((4:Nat):Int):=rfl
        rw [ltT hj,zE hj,Int.toNat_natCast,ha,zgy,decide_eq_true (by simp; omega)]
        simp only [cond_true]
        refine Eq.trans (ixR hcin) ?_
        refine (hk _ (by simp; omega)).trans ?_
        rw [List.append_assoc]; rfl) (fun k o' _=>by
        simp only [zc0]; rw [ltF]
        simp only [cond_false,List.map_nil,List.append_nil]) o ho
    by_cases hb:zD (s.2.2.2.1.map (qX c)) > M62
    · rw [zdW hb,zdW (by omega)]; rfl
    · rw [zfa (by omega)]
      have hloop:=zay (B:=fun k0=>zaL (zc1 K0 k0) k0) (l:=s.2.1) (α:=List Int) za (fun i o=>o.length + wts (s.2.1.drop i) ≤ 2000001 ∧ ∀ x ∈ o,0 ≤ x ∧ x < U64) (fun i o=>(c,s.2.1,(s.2.1.length:Int),i,o)) (fun rest o=>some (zhZ (zD o + zD (rest.map (zM c))))) (by omega) (fun k i x rest o hi hI hx hm hr hk=>by
        simp only [zaL]
        have hin:=hs.shelves x hm
        have hlen:=sh.shelf x hm
        have hw:=zGs hi hx hr
        have hw2:=hI.1
        rw [hw] at hw2
        have h1:=zkw hin c
        have h2:=zwF hin c
        have ho:0 ≤ zD o:=zlJ fun y hy=>(hI.2 y hy).1
        have hrest:0 ≤ zD (rest.map (zM c)):=za8 fun y hy=>zgb (hs.shelves y (by rw [← hr] at hy; exact List.mem_of_mem_drop hy)) c
        rw [ltT hi,zE hi,qw,hx,zBk (by omega) hin.trades,zBs hin.trades hc]
        simp only [cond_true,Option.bind_some,List.map_cons,zD,zM]
        by_cases hb:zD (x.2.2.2.2.1.map (zb9 c)) > M62
        · rw [zdW hb,zdW (by omega)]; rfl
        · rw [zfa (by omega),zgy,inner k i x _ (by omega) (by simp; omega)]
          rw [decide_eq_true (by simp; omega)]
          simp only [bne_self_eq_false,cond_true,cond_false]
          refine (hk _ ⟨by rw [hr]; simp; omega,fun y hy=>?_⟩).trans ?_
          · rcases List.mem_append.1 hy with hy | hy
            · rcases List.mem_append.1 hy with hy | hy
              · exact hI.2 y hy
              · rcases List.mem_singleton.1 hy with rfl
                unfold M62 at hb; unfold U64; omega
            · obtain ⟨a,ha,rfl⟩:=List.mem_map.1 hy
              exact za7 (hin.purses a ha) _
          · rw [zuI,zuI]
            simp only [zD]
            congr 2; omega) (fun k o hI=>by
        simp only [zaL]
        rw [ltF]
        simp only [cond_false]
        rw [zks (by omega) hI.2,zlK o 0 (by unfold M62; omega) fun y hy=>(hI.2 y hy).1]
        simp only [List.map_nil,zD,Int.add_zero,Int.zero_add]
        rfl) [zD (s.2.2.2.1.map (qX c))] ⟨by have:=sh.all; simp; omega,fun y hy=>by
          rcases List.mem_singleton.1 hy with rfl
          unfold M62 at hb; unfold U64; omega⟩
      refine hloop.trans ?_
      simp only [zD,Int.add_zero]
end Go.Proofs.YtokcjmkikhgkeaaGreatDoor
end
section
namespace Go.Proofs.YtokcjmkikhgkeaaGreatDoor
open Go.Ev
def zjx (a b:Int):Int × Int × Unit:=bif decide (a < b) then (0,6,()) else (a - b,0,())
theorem zBu {a b:Int} (ha:0 ≤ a ∧ a ≤ M62) (hb:0 ≤ b ∧ b ≤ M62):zaU (a,b,()) = some (zjx a b):=by
  simp only [zaU,extA,extB,zjx,cond_false]
  unfold M62 at *
  have h2:b ≤ a→(a - b) % 18446744073709551616 = a - b:=fun h=>by omega
  grind
def qT (f:zg→List Int) (s:zb) (c:Int):Int:=zD (s.2.1.map fun x=>je c (f x))
theorem zpd {f:zg→List Int} {s:zb} (h:∀ x ∈ s.2.1,zkv (f x)) (c:Int):0 ≤ qT f s c:=za8 fun y hy=>(za7 (h y hy) _).1
theorem zBv {s:zb} (sh:zzz s) {f:zg→List Int} {g:zg × Unit→Option (List Int × Unit)} (hg:∀ x,g (x,()) = some (f x,())) (h:∀ x ∈ s.2.1,zkv (f x)) {c:Int} (hc:zJ c = true):ze4 (s,c,some g,()) = some (zhZ (qT f s c)):=by
  have hlm:10000000 ≤ lim:=by unfold lim; omega
  have hmm:10000000 ≤ Go.maxLen:=by unfold Go.maxLen; omega
  have hsh:=sh.shelves
  have hcin:=yS hc
  have hloop:=zay (B:=za3) (l:=s.2.1) (α:=List Int) za (fun i o=>o.length ≤ i ∧ ∀ x ∈ o,0 ≤ x ∧ x < U64) (fun i o=>(c,some g,s.2.1,(s.2.1.length:Int),i,o)) (fun rest o=>some (zlD 0 (o ++ rest.map fun x=>je c (f x)))) (by omega) (fun k i x rest o hi hI hx hm hr hk=>by
    simp only [za3]
    rw [ltT hi,zE hi,qw,hx]
    simp only [cond_true,Option.bind_some]
    rw [hg]
    simp only [Option.bind_some]
    refine Eq.trans (ixR hcin) ?_
    rw [zgy,decide_eq_true (by simp; omega)]
    simp only [cond_true]
    refine (hk _ ⟨by simp; omega,fun y hy=>?_⟩).trans ?_
    · rcases List.mem_append.1 hy with hy | hy
      · exact hI.2 y hy
      · rcases List.mem_singleton.1 hy with rfl
        exact za7 (h x hm) _
    · rw [List.append_assoc]; rfl) (fun k o hI=>by
    simp only [za3]
    rw [ltF]
    simp only [cond_false]
    rw [zks (by omega) hI.2,List.map_nil,List.append_nil]
    rfl) [] ⟨Nat.le_refl _,fun x hx=>by cases hx⟩
  refine Eq.trans ?_ (hloop.trans ?_)
  · rfl
  · rw [List.nil_append,zlK _ 0 (by unfold M62; omega) fun y hy=>?_,Int.zero_add]
    · rfl
    · obtain ⟨z,hz,rfl⟩:=List.mem_map.1 hy
      exact (za7 (h z hz) _).1
def zgc (s:zb) (c:Int):Int × Int × Unit:=bif zJ c then bif decide (qT (fun x=>x.2.2.2.2.2.2.2.1) s c > M62) then (0,7,()) else bif decide (qT (fun x=>x.2.2.2.2.2.2.2.2.1) s c > M62) then (0,7,()) else zjx (qT (fun x=>x.2.2.2.2.2.2.2.1) s c) (qT (fun x=>x.2.2.2.2.2.2.2.2.1) s c) else (0,1,())
theorem zBw {s:zb} (hs:zP s) (sh:zzz s) (c:Int):zhJ (s,c,()) = some (zgc s c):=by
  simp only [zhJ,vV,Option.bind_some]
  unfold zgc
  cases hc:zJ c with
  | false=>rfl
  | true =>
    have p1:=zpd (f:=fun x=>x.2.2.2.2.2.2.2.1) (fun x hx=>(hs.shelves x hx).made) c
    have p2:=zpd (f:=fun x=>x.2.2.2.2.2.2.2.2.1) (fun x hx=>(hs.shelves x hx).spent) c
    rw [zBv sh (f:=fun x=>x.2.2.2.2.2.2.2.1) (g:=ziv) (fun x=>rfl) (fun x hx=>(hs.shelves x hx).made) hc,zBv sh (f:=fun x=>x.2.2.2.2.2.2.2.2.1) (g:=ziw) (fun x=>rfl) (fun x hx=>(hs.shelves x hx).spent) hc]
    simp only [cond_true,Option.bind_some]
    generalize qT (fun x=>x.2.2.2.2.2.2.2.1) s c = a at *
    generalize qT (fun x=>x.2.2.2.2.2.2.2.2.1) s c = b at *
    by_cases h1:a > M62
    · rw [zdW h1,decide_eq_true h1]; rfl
    · rw [zfa (by omega),decide_eq_false h1]
      by_cases h2:b > M62
      · rw [zdW h2,decide_eq_true h2]; rfl
      · rw [zfa (by omega),decide_eq_false h2]
        simp only [bne_self_eq_false,cond_false]
        rw [zBu (by omega) (by omega)]; rfl
end Go.Proofs.YtokcjmkikhgkeaaGreatDoor
end
section
namespace Go.Proofs.YtokcjmkikhgkeaaGreatDoor
open Go.Ev
def zh0 (r:ze) (s:zb) (c i:Nat):Bool:=!decide (((s.2.1.getD i za).2.2.2.2.2.2.2.1.getD c 0:Int) > (r.2.2.2.2.1.getD i qC).2.2.2.2.2.1)
def zeM (s:zb) (c:Int):Bool:=(zdC s c).2.1 == 0 && ((zgc s c).2.1 == 0 && (zdC s c).1 == (zgc s c).1)
def z6 (r:ze) (s:zb):Bool:=qg r && (zfT r s && (zc4 r s && (qn (fun i=>(vW (s.2.1.getD i za) && zhY r s i (s.2.1.getD i za)) && qn (fun c=>zh0 r s c i) 0 (4 - 0)) 0 (s.2.1.length - 0) && qn (fun c=>zeM s (c:Int)) 0 (4 - 0))))
theorem zHE {r:ze} {s:zb} (ok:zgS r) (sz:zgT r s):zzz s:=by
  have h1:=sz.shelves
  have h2:=ok.labels
  have h3:=ok.accounts
  have h4:=sz.orders
  have h5:=zFF (n:=8) (l:=s.2.1) fun x hx=>by
    have:=sz.shelf x hx
    omega
  refine ⟨by omega,by omega,fun x hx=>?_,by omega⟩
  have:=sz.shelf x hx
  omega
theorem zzk {r:ze} {s:zb} (ok:zgS r) (hs:zP s) (sz:zgT r s):zdK ((r,s,()),()) = some (qn (fun c=>qn (fun i=>zh0 r s c i) 0 (s.2.1.length - 0) && zeM s (c:Int)) 0 (4 - 0),()):=by
  rw [zN]
  have hmm:1000000 ≤ Go.maxLen:=by unfold Go.maxLen; omega
  have sh:=zHE ok sz
  have hsh:s.2.1.length ≤ 8:=by rw [sz.shelves]; exact ok.labels.2
  have h2:=sz.shelves
  have h3:=ok.quotas
  have inner:∀ k0 (c:Nat),c < 4→zb3 K0 k0 ((c:Int),(c:Int),s.2.1,(s.2.1.length:Int),0,(r,s,())) = bif qn (fun i=>zh0 r s c i) 0 (s.2.1.length - 0) then bif zeM s (c:Int) then k0 (wI ((c:Int) + 1),(r,s,())) else some (false,()) else some (false,()):=fun k0 c hc =>
    yE (B:=fun k1=>zb2 k0 k1) (i0:=0) (n:=s.2.1.length) (by omega) (Nat.zero_le _) (fun i=>((c:Int),(c:Int),s.2.1,(s.2.1.length:Int),i,(r,s,()))) (fun k i _ hi=>by
      simp only [zb2]
      rw [ltT hi,zE hi,qw,Int.toNat_natCast]
      simp only [cond_true]
      refine Eq.trans (zE (n:=4) hc) ?_
      rw [zE (by omega),qw]
      unfold zh0
      grind) (fun k=>by
      simp only [zb2]
      rw [ltF,zBt hs sh,zBw hs sh]
      simp only [Option.bind_some,cond_false,zeM]
      generalize zdC s (c:Int) = h
      generalize zgc s (c:Int) = m
      grind)
  exact yE (B:=fun k0=>zb4 (zb3 K0 k0) k0) (i0:=0) (n:=4) (by omega) (Nat.zero_le _) (fun c=>(c,(r,s,()))) (fun k c _ hc=>by
    simp only [zb4]
    rw [decide_eq_true (by omega),cond_true]
    refine (inner k c hc).trans ?_
    cases qn (fun i=>zh0 r s c i) 0 (s.2.1.length - 0) <;> rfl) (fun k=>rfl)
def zBx (r:ze) (s:zb):Bool:=qg r && (zfT r s && (s.2.1.all vW && (zc4 r s && (qn (fun i=>zhX r s (i:Int) (s.2.1.getD i za)) 0 (s.2.1.length - 0) && (qn (fun i=>zdV r (i:Int) (s.2.1.getD i za)) 0 s.2.1.length && (qn (fun i=>zlI (s.2.1.getD i za)) 0 (s.2.1.length - 0) && qn (fun c=>qn (fun i=>zh0 r s c i) 0 (s.2.1.length - 0) && zeM s (c:Int)) 0 (4 - 0)))))))
theorem zFG (r:ze) (s:zb):zBx r s = z6 r s:=by
  rw [Bool.eq_iff_iff]
  unfold zBx z6 zhY
  simp only [Bool.and_eq_true,vc,@zGq zg za]
  constructor
  · rintro ⟨h1,h2,h3,h4,h5,h6,h7,h8⟩
    exact ⟨h1,h2,h4,fun i hi1 hi=>⟨⟨h3 i (by omega),h5 i hi1 hi,h6 i hi1 (by omega),h7 i hi1 hi⟩,fun c hc1 hc=>(h8 c hc1 hc).1 i hi1 hi⟩,fun c hc1 hc=>(h8 c hc1 hc).2⟩
  · rintro ⟨h1,h2,h4,h5,h6⟩
    exact ⟨h1,h2,fun i hi=>(h5 i (by omega) (by omega)).1.1,h4,fun i h7 h8=>(h5 i h7 h8).1.2.1,fun i h7 h8=>(h5 i h7 (by omega)).1.2.2.1,fun i h7 h8=>(h5 i h7 h8).1.2.2.2,fun c h7 h8=>⟨fun i h9 h10=>(h5 i h9 h10).2 c h7 h8,h6 c h7 h8⟩⟩
theorem zp4 {r:ze} {s:zb} (hr:z3 r) (hs:zP s):zdP (r,s,()) = some (z6 r s,()):=by
  rw [← zFG,zN]
  obtain ⟨m,hm⟩:=zsd
  have first:zdP (r,s,()) = zl zei K0 (true,7,0,[some fun z=>zbq ((r,s,()),()),some fun z=>zbr ((r,s,()),()),some fun z=>zaM ((r,s,()),()),some fun z=>zdH ((r,s,()),()),some fun z=>zaK ((r,s,()),()),some fun z=>zdG ((r,s,()),()),some fun z=>zdK ((r,s,()),())]):=rfl
  have hu:∀ (f1 f2 f3 f4 f5 f6 f7:Option (Bool × Unit)),zl zei (m + 8) (true,7,0,[some fun z=>f1,some fun z=>f2,some fun z=>f3,some fun z=>f4,some fun z=>f5,some fun z=>f6,some fun z=>f7]) =
    Option.bind f1 fun q=>bif q.1 then Option.bind f2 fun q=>bif q.1 then Option.bind f3 fun q=>bif q.1 then Option.bind f4 fun q=>bif q.1 then Option.bind f5 fun q=>bif q.1 then Option.bind f6 fun q=>bif q.1 then Option.bind f7 fun q=>bif q.1 then some (true,()) else some (false,()) else some (false,()) else some (false,()) else some (false,()) else some (false,()) else some (false,()) else some (false,()):=fun f1 f2 f3 f4 f5 f6 f7=>by kernel_rfl
  rw [first,hm,hu,zzf hr s,Option.bind_some]
  unfold zBx
  cases hb:qg r with
  | false=>rfl
  | true =>
    cases hz:zfT r s with
    | false=>rfl
    | true =>
      have ok:=jG hb
      have sz:=zc7 hb hz
      rw [zzg ok sz,zxE hr hb hs sz,zzh hr ok sz,zxF hr ok sz,zzi ok sz,zzk ok hs sz]
      simp only [Option.bind_some,Bool.true_and,cond_true]
      generalize s.2.1.all vW = c1
      generalize zc4 r s = c2
      generalize qn (fun i=>zhX r s (i:Int) (s.2.1.getD i za)) 0 (s.2.1.length - 0) = c3
      generalize qn (fun i=>zdV r (i:Int) (s.2.1.getD i za)) 0 s.2.1.length = c4
      generalize qn (fun i=>zlI (s.2.1.getD i za)) 0 (s.2.1.length - 0) = c5
      generalize qn (fun c=>qn (fun i=>zh0 r s c i) 0 (s.2.1.length - 0) && zeM s (c:Int)) 0 (4 - 0) = c6
      cases c1 <;> cases c2 <;> cases c3 <;> cases c4 <;> cases c5 <;> cases c6 <;> rfl
def zbi (r:ze) (x:pMe):Bool:=decide (0 ≤ x.1 ∧ x.1 < (r.2.1.length:Int)) && ((x.2.1:Int) == r.2.1.getD x.1.toNat 0 && jy r x.2.2.1)
theorem zh1 {r:ze} {s:zb} (hr:z3 r) (hs:zP s) (x:pMe):za6 (r,s,x,()) = some (z6 r s && zbi r x,()):=by
  rw [zN]
  simp only [za6,zp4 hr hs,Option.bind_some,zbi,ix,jy]
  cases z6 r s with
  | false=>rfl
  | true =>
    by_cases h:0 ≤ x.1 ∧ x.1 < (r.2.1.length:Int)
    · rw [ixR h]; grind
    · grind
end Go.Proofs.YtokcjmkikhgkeaaGreatDoor
end
section
namespace Go.Proofs.YtokcjmkikhgkeaaGreatDoor
open Go.Ev
theorem zwG {r:ze} (hr:z3 r) (i:Int):zb6 (r,i,()) = some (qg r && vg r i,()):=by
  rw [zN]
  simp only [zb6,zdQ r hr,Option.bind_some]
  cases hb:qg r with
  | false=>rfl
  | true =>
    have hl:=(jG hb).labels
    have hw:wI ((r.1.length:Int) - 1) = (r.1.length:Int) - 1:=by
      have:=zsa (i:=r.1.length) (by omega) (by unfold Go.maxLen; omega)
      rw [this]; omega
    rw [hw,zdB]
    simp only [Option.bind_some,cond_true,Bool.true_and,qf,vg]
    grind
theorem zCN {r:ze} (hr:z3 r) (hb:qg r = true) (a b:Int):zi5 (r,a,b,()) = some (zlG r a b,()):=by
  rw [zN]
  simp only [zi5,zwG hr,hb,Bool.true_and,Option.bind_some,zlG,ix]
  cases ha:vg r a with
  | false=>rfl
  | true =>
    cases hbb:vg r b with
    | false=>rfl
    | true =>
      have h1:=zrJ hr a ha
      have h2:=zrJ hr b hbb
      simp only [vg,decide_eq_true_eq] at ha hbb
      rw [ixR ha,ixR hbb,zfS h1 h2]
      simp only [Option.bind_some]
      generalize yR (r.1.getD a.toNat qz) (r.1.getD b.toNat qz) = u
      cases u <;> rfl
def eqW {α:Type} (p:α→α→Bool) (a b:List α):Bool:=decide (a.length = b.length) && (List.zip a b).all fun q=>p q.1 q.2
theorem zBy {α σ:Type} {B:(σ→Option (Bool × Unit))→σ→Option (Bool × Unit)} {a b:List α} (d:α) (p:α→α→Bool) (st:Int→σ) (hl:a.length ≤ Go.maxLen) (hab:a.length = b.length)
    (hin:∀ k (i:Nat),i < a.length→B k (st i) = bif p (a.getD i d) (b.getD i d) then k (st (wI (i + 1))) else some (false,())) {fin:Bool} (hout:∀ k,B k (st a.length) = some (fin,())) :
    zl B K0 (st 0) = some (eqW p a b && fin,()):=by
  have hz:(List.zip a b).length = a.length:=by rw [List.length_zip]; omega
  have hx:∀ i,i < a.length→(List.zip a b).getD i (d,d) = (a.getD i d,b.getD i d):=fun i hi=>zoM a b i hi (by omega)
  have:=ztR (B:=B) (l:=List.zip a b) (d,d) (p:=fun q=>p q.1 q.2) (fin:=some (fin,())) (bad:=some (false,())) st (by rw [hz]; exact hl) (fun k i x hi hx' _=>?_) (fun k=>?_)
  · rw [this]
    unfold eqW
    rw [decide_eq_true hab]
    cases (List.zip a b).all fun q=>p q.1 q.2 <;> rfl
  · rw [hz] at hi
    rw [hx i hi] at hx'
    subst hx'
    exact hin k i hi
  · rw [hz]; exact hout k
theorem zHF {α ρ:Type} (a b:List α) (p:α→α→Bool) (x:Option ρ) (y:Option ρ):(bif ((List.length a:Int) != (List.length b:Int)) then y else x) = bif decide (a.length = b.length) then x else y:=by
  rw [zmd]; cases decide (a.length = b.length) <;> rfl
theorem zHG {α:Type} {p:α→α→Bool} {a b:List α} (h:¬ a.length = b.length):eqW p a b = false:=by unfold eqW; rw [decide_eq_false h]; rfl
theorem zyc {α:Type} {p:α→α→Bool} {a b:List α} {x:Option (Bool × Unit)} (h:a.length = b.length→x = some (eqW p a b,())):(bif ((List.length a:Int) != (List.length b:Int)) then some (false,()) else x) = some (eqW p a b,()):=by
  rw [zHF a b p]
  by_cases hl:a.length = b.length
  · rw [decide_eq_true hl,h hl]; rfl
  · rw [decide_eq_false hl,zHG hl]; rfl
structure zwH (x:zg):Prop where
  rooms:x.1.length ≤ Go.maxLen
  exits:x.2.1.length ≤ Go.maxLen
  items:x.2.2.1.length ≤ Go.maxLen
  mails:x.2.2.2.1.length ≤ Go.maxLen
  trades:x.2.2.2.2.1.length ≤ Go.maxLen
  purses:x.2.2.2.2.2.1.length ≤ Go.maxLen
  places:x.2.2.2.2.2.2.1.length ≤ Go.maxLen
structure zHH (s:zb):Prop where
  shelves:s.2.1.length ≤ Go.maxLen
  ranks:s.2.2.1.length ≤ Go.maxLen
  orders:s.2.2.2.1.length ≤ Go.maxLen
  entries:s.2.2.2.2.1.length ≤ Go.maxLen
  seats:s.2.2.2.2.2.1.length ≤ Go.maxLen
  shelf:∀ x ∈ s.2.1,zwH x
  rank:∀ l ∈ s.2.2.1,l.length ≤ Go.maxLen
def qK (a b:zg):Bool:=eqL qj a.1 b.1 && (eqL zV a.2.1 b.2.1 && (eqL zU a.2.2.1 b.2.2.1 && (eqL z4 a.2.2.2.1 b.2.2.2.1 && (eqL zw a.2.2.2.2.1 b.2.2.2.2.1 && (eqL (.arr 4 tU) a.2.2.2.2.2.1 b.2.2.2.2.2.1 && (eqL zW a.2.2.2.2.2.2.1 b.2.2.2.2.2.2.1 && (eqI (.arr 4 tU) a.2.2.2.2.2.2.2.1 b.2.2.2.2.2.2.2.1 && eqI (.arr 4 tU) a.2.2.2.2.2.2.2.2.1 b.2.2.2.2.2.2.2.2.1)))))))
def zh2 (a b:zb):Bool:=(a.1:Int) == b.1 && (eqW qK a.2.1 b.2.1 && (eqW (eqL tI) a.2.2.1 b.2.2.1 && (eqL zm a.2.2.2.1 b.2.2.2.1 && (eqL zt a.2.2.2.2.1 b.2.2.2.2.1 && eqL tI a.2.2.2.2.2.1 b.2.2.2.2.2.1))))
theorem zuK {r:ze} {l:List (List Int)} (h:zhV r l = true):l.length = r.2.2.2.1.length ∧ ∀ g,g < r.2.2.2.1.length→(l.getD g []).length = r.2.2.1.length:=by
  simp only [zhV,Bool.and_eq_true,decide_eq_true_eq,vc] at h
  refine ⟨h.1,fun g hg=>?_⟩
  have:=h.2 g (by omega) (by omega)
  simp only [zwC,Bool.and_eq_true,decide_eq_true_eq] at this
  exact this.1
theorem jm {r:ze} {s:zb} (h:z6 r s = true):qg r = true ∧ zfT r s = true ∧ zc4 r s = true:=by
  simp only [z6,Bool.and_eq_true] at h
  exact ⟨h.1,h.2.1,h.2.2.1⟩
theorem zgg:∀ {τ:Ty},τ.eqIn = true→∀ x:τ.I,eqI τ x x = true:=by
  intro τ
  induction τ with
  | unit=>intro _ _; rfl
  | bool=>intro _ x; exact beq_self_eq_true x
  | int k=>intro _ x; exact beq_self_eq_true (α:=Int) x
  | str=>intro _ x; exact beq_self_eq_true _
  | pair a b iha ihb =>
    intro h x
    simp only [Ty.eqIn,Bool.and_eq_true] at h
    simp only [eqI,iha h.1,ihb h.2,cond_true]
  | st a ih=>intro h x; exact ih h x
  | arr n a ih =>
    intro h x
    simp only [eqI,List.all_eq_true]
    intro p hp
    have:p.1 = p.2:=by
      obtain ⟨i,hi,rfl⟩:=List.mem_iff_getElem.1 hp
      rw [List.getElem_zip]
    rw [this]
    exact ih h _
  | _=>intro h; cases h
theorem zGt {α:Type} {p:α→α→Bool} (h:∀ x,p x x = true) (l:List α):eqW p l l = true:=by
  simp only [eqW,decide_true,Bool.true_and,List.all_eq_true]
  intro q hq
  have:q.1 = q.2:=by
    obtain ⟨i,hi,rfl⟩:=List.mem_iff_getElem.1 hq
    rw [List.getElem_zip]
  rw [this]; exact h _
theorem zeN {τ:Ty} (h:τ.eqIn = true) (l:List τ.I):eqL τ l l = true:=zGt (zgg h) l
theorem zrK (x:zg):qK x x = true:=by
  simp only [qK,Bool.and_eq_true]
  exact ⟨zeN (τ:=qj) rfl _,zeN (τ:=zV) rfl _,zeN (τ:=zU) rfl _,zeN (τ:=z4) rfl _,zeN (τ:=zw) rfl _,zeN (τ:=.arr 4 tU) rfl _,zeN (τ:=zW) rfl _,zgg (τ:=.arr 4 tU) rfl _,zgg (τ:=.arr 4 tU) rfl _⟩
theorem zCO {r:ze} {s:zb} (h:z6 r s = true) {c:Nat} (hc:c < 4):∃ n,zdC s c = (n,0,()) ∧ zgc s c = (n,0,()) ∧ n ≤ M62:=by
  simp only [z6,Bool.and_eq_true,vc] at h
  have h1:=h.2.2.2.2 c (Nat.zero_le _) (by omega)
  simp only [zeM,Bool.and_eq_true,beq_iff_eq] at h1
  obtain ⟨h2,h3,h4⟩:=h1
  have hck:zJ (c:Int) = true:=by simp only [zJ,decide_eq_true_eq]; omega
  have hle:(zdC s c).2.1 = 0→(zdC s c).1 ≤ M62:=by
    unfold zdC
    rw [hck,cond_true]
    intro h
    by_cases hb:zD (s.2.2.2.1.map (qX c)) + zD (s.2.1.map (zM c)) > M62
    · rw [zdW hb] at h; cases h
    · rw [zfa (by omega)]; show _ ≤ M62; omega
  have h5:=hle h2
  rcases e1:zdC s c with ⟨a,b,⟨⟩⟩
  rcases e2:zgc s c with ⟨a',b',⟨⟩⟩
  rw [e1] at h2 h4 h5
  rw [e2] at h3 h4
  simp only at h2 h3 h4 h5
  subst h2; subst h3; subst h4
  exact ⟨a,rfl,rfl,h5⟩
end Go.Proofs.YtokcjmkikhgkeaaGreatDoor
end
section
namespace Go.Proofs.YtokcjmkikhgkeaaGreatDoor
open Go.Ev
structure zwI (x:zg):Prop where
  rooms:x.1.length ≤ 2000000
  exits:x.2.1.length ≤ 2000000
  items:x.2.2.1.length ≤ 2000000
  mails:x.2.2.2.1.length ≤ 2000000
  trades:x.2.2.2.2.1.length ≤ 2000000
  purses:x.2.2.2.2.2.1.length ≤ 2000000
  places:x.2.2.2.2.2.2.1.length ≤ 2000000
structure zjU (s:zb):Prop where
  shelves:s.2.1.length ≤ 2000000
  ranks:s.2.2.1.length ≤ 2000000
  orders:s.2.2.2.1.length ≤ 2000000
  entries:s.2.2.2.2.1.length ≤ 2000000
  seats:s.2.2.2.2.2.1.length ≤ 2000000
  shelf:∀ x ∈ s.2.1,zwI x
  rank:∀ l ∈ s.2.2.1,l.length ≤ 2000000
theorem zBz {α:Type} {l:List α} {i:Nat} {d:α} (h:i < l.length):List.set l i (l.getD i d) = l:=by
  rw [List.getD_eq_getElem?_getD,List.getElem?_eq_getElem h]
  exact List.set_getElem_self h
theorem jI {s:zb} (h:zjU s):qv (s,()) = some (s,()):=by
  have hlm:2000000 ≤ lim:=by unfold lim; omega
  have hmm:2000000 ≤ Go.maxLen:=by unfold Go.maxLen; omega
  have h1:=h.shelves
  have h2:=h.ranks
  have h3:=h.orders
  have h4:=h.entries
  have h5:=h.seats
  have l1:zbP K0 ((s.2.1.length:Int),0,s.1,0,s.2.1,0,s.2.2.1,s.2.2.1.length,s.2.2.2.1,s.2.2.2.2.1,s.2.2.2.2.2.1,[],0,[],0,[],[],[]) = some (s,()) :=
    yV (α:=Unit) (B:=zbO) (len:=s.2.1.length) (by omega) (fun i _=>((s.2.1.length:Int),i,s.1,0,s.2.1,i.toNat,s.2.2.1,s.2.2.1.length,s.2.2.2.1,s.2.2.2.2.1,s.2.2.2.2.2.1,[],0,[],0,[],[],[])) (fun _ _=>some (s,())) (fun _ _=>True) (fun k i _ hi _ hk=>by
      have hx:=h.shelf _ (z8 (d:=za) hi)
      have e1:=hx.rooms
      have e2:=hx.exits
      have e3:=hx.items
      have e4:=hx.mails
      have e5:=hx.trades
      have e6:=hx.purses
      have e7:=hx.places
      have hk':=hk () trivial
      have hw:wI ((i:Int) + 1) = (i:Int) + 1:=zvw hi (by omega)
      simp only [zbO]
      rw [ltT hi,zE hi,qw]
      simp only [Int.toNat_natCast,Nat.le_refl,decide_true,cond_true]
      rw [zA1 (by omega),zA2 (by omega),zA3 (by omega),zA4 (by omega),zjP (by omega),zD6 (by omega),zCB (by omega)]
      simp only [Option.bind_some]
      rw [zE hi]
      refine Eq.trans ?_ hk'
      have hs:List.set s.2.1 i (s.2.1.getD i za) = s.2.1:=zBz hi
      have ht:(wI ((i:Int) + 1)).toNat = i + 1:=by rw [hw]; omega
      rw [ht]
      exact congrArg (fun l=>k ((s.2.1.length:Int),wI ((i:Int) + 1),s.1,0,l,i + 1,s.2.2.1,s.2.2.1.length,s.2.2.2.1,s.2.2.2.2.1,s.2.2.2.2.2.1,[],0,[],0,[],[],[])) hs) (fun k _ _=>by
      simp only [zbO]
      rw [ltF]
      simp only [Int.toNat_natCast,decide_true,cond_true,cond_false]) () trivial
  have l0:zhD K0 ((s.2.2.1.length:Int),0,s.1,s.2.1,0,s.2.2.1,0,s.2.2.2.1,s.2.2.2.2.1,s.2.2.2.2.2.1,[],0,[],0,[],[],[]) = some (s,()) :=
    yV (α:=Unit) (B:=fun k0=>yX (zbP K0) k0) (len:=s.2.2.1.length) (by omega) (fun i _=>((s.2.2.1.length:Int),i,s.1,s.2.1,0,s.2.2.1,i.toNat,s.2.2.2.1,s.2.2.2.2.1,s.2.2.2.2.2.1,[],0,[],0,[],[],[])) (fun _ _=>some (s,())) (fun _ _=>True) (fun k i _ hi _ hk=>by
      have hx:=h.rank _ (z8 (d:=([]:List Int)) hi)
      have hk':=hk () trivial
      have hw:wI ((i:Int) + 1) = (i:Int) + 1:=zvw hi (by omega)
      simp only [yX]
      rw [ltT hi,zE hi]
      simp only [Int.toNat_natCast,Nat.le_refl,decide_true,cond_true]
      rw [ztq (by omega)]
      simp only [Option.bind_some]
      rw [zE hi]
      refine Eq.trans ?_ hk'
      have hs:List.set s.2.2.1 i (s.2.2.1.getD i []) = s.2.2.1:=zBz hi
      have ht:(wI ((i:Int) + 1)).toNat = i + 1:=by rw [hw]; omega
      rw [ht,hs]) (fun k _ _=>by
      simp only [yX]
      rw [ltF,zy7 (by omega)]
      simp only [Int.toNat_natCast,Option.bind_some,cond_false]
      exact l1) () trivial
  simp only [qv,zf5]
  rw [zpY (by omega),zy6 (by omega),ztq (by omega),zA0 (by omega)]
  simp only [Option.bind_some]
  exact l0
theorem ziL:∀ {l:List Int} {i:Nat},(∀ x ∈ l,0 ≤ x)→i < l.length→l.getD i 0 ≤ zD l
  | [],i,_,hi=>by cases hi
  | x :: l,0,h,_=>by
    have:=zlJ (l:=l) fun y hy=>h y (by simp [hy])
    show x ≤ x + zD l; omega
  | x :: l,i + 1,h,hi=>by
    have h1:=h x (by simp)
    have h2:=ziL (l:=l) (i:=i) (fun y hy=>h y (by simp [hy])) (by simpa using hi)
    show l.getD i 0 ≤ x + zD l; omega
theorem zuL:∀ {l:List Int} {i j:Nat},(∀ x ∈ l,0 ≤ x)→i < l.length→j < l.length→i ≠ j→l.getD i 0 + l.getD j 0 ≤ zD l
  | [],i,_,_,hi,_,_=>by cases hi
  | x :: l,0,0,_,_,_,hij=>absurd rfl hij
  | x :: l,0,j + 1,h,_,hj,_=>by
    have:=ziL (l:=l) (i:=j) (fun y hy=>h y (by simp [hy])) (by simpa using hj)
    show x + l.getD j 0 ≤ x + zD l; omega
  | x :: l,i + 1,0,h,hi,_,_=>by
    have:=ziL (l:=l) (i:=i) (fun y hy=>h y (by simp [hy])) (by simpa using hi)
    show l.getD i 0 + x ≤ x + zD l; omega
  | x :: l,i + 1,j + 1,h,hi,hj,hij=>by
    have h1:=h x (by simp)
    have:=zuL (l:=l) (i:=i) (j:=j) (fun y hy=>h y (by simp [hy])) (by simpa using hi) (by simpa using hj) (by omega)
    show l.getD i 0 + l.getD j 0 ≤ x + zD l; omega
theorem jS {α:Type} {f:α→Int} {l:List α} {i:Nat} (d:α) (h:i < l.length):(l.map f).getD i 0 = f (l.getD i d):=by
  rw [List.getD_eq_getElem?_getD,List.getD_eq_getElem?_getD,List.getElem?_map,List.getElem?_eq_getElem h]; rfl
theorem znm:∀ {a b:List Int} {i:Nat} {n:Int},a.length = b.length→i < a.length→(∀ j,j < a.length→a.getD j 0 ≤ b.getD j 0)→a.getD i 0 + n ≤ b.getD i 0→zD a + n ≤ zD b
  | [],_,i,_,_,hi,_,_=>by cases hi
  | x :: a,[],_,_,hl,_,_,_=>by cases hl
  | x :: a,y :: b,i,n,hl,hi,h,hn=>by
    have hl':a.length = b.length:=by simpa using hl
    have hall:∀ j,j < a.length→a.getD j 0 ≤ b.getD j 0:=fun j hj=>h (j + 1) (by simpa using hj)
    have key:zD a ≤ zD b:=isum_le hl' hall
    cases i with
    | zero =>
      have hn':x + n ≤ y:=hn
      show x + zD a + n ≤ y + zD b; omega
    | succ i =>
      have h0:x ≤ y:=h 0 (by simp)
      have:=znm (a:=a) (b:=b) (i:=i) (n:=n) hl' (by simpa using hi) hall hn
      show x + zD a + n ≤ y + zD b; omega
where isum_le:∀ {a b:List Int},a.length = b.length→(∀ j,j < a.length→a.getD j 0 ≤ b.getD j 0)→zD a ≤ zD b
  | [],[],_,_=>Int.le_refl _
  | x :: a,y :: b,hl,h=>by
    have:=isum_le (a:=a) (b:=b) (by simpa using hl) fun j hj=>h (j + 1) (by simpa using hj)
    have h0:x ≤ y:=h 0 (by simp)
    show x + zD a ≤ y + zD b; omega
  | [],_ :: _,hl,_=>by cases hl
  | _ :: _,[],hl,_=>by cases hl
def zfV (r:ze):Prop:=∀ q ∈ r.2.2.2.2.1,qa q.2.2.2.2.2.1
theorem zrL:∀ {l:List zah} {n:Int},n < U64→(∀ q ∈ l,qa q.2.2.2.2.2.1)→zkq n l = true→zD (l.map fun q=>q.2.2.2.2.2.1) ≤ n ∨ l = []
  | [],_,_,_,_=>.inr rfl
  | q :: l,n,hn,hp,h=>by
    left
    simp only [zkq,Bool.and_eq_true,decide_eq_true_eq] at h
    obtain ⟨-,h1,h2⟩:=h
    have hq:=hp q (by simp)
    unfold qa U64 at hq
    unfold U64 at hn
    have hw:wU (n - q.2.2.2.2.2.1) = n - q.2.2.2.2.2.1:=zo7 (by omega)
    rw [hw] at h2
    show q.2.2.2.2.2.1 + zD _ ≤ n
    rcases zrL (l:=l) (n:=n - q.2.2.2.2.2.1) (by unfold U64; omega) (fun y hy=>hp y (by simp [hy])) h2 with h3 | h3
    · omega
    · subst h3; simp only [List.map_nil,zD]; omega
end Go.Proofs.YtokcjmkikhgkeaaGreatDoor
end
section
namespace Go.Proofs.YtokcjmkikhgkeaaGreatDoor
open Go.Ev
abbrev jh (s:zb) (i w:Int):List Int:=List.getD (ix za s.2.1 i).2.2.2.2.2.1 (Int.toNat w) (zf (.arr 4 tU))
abbrev zz (s:zb) (i w c:Int):Int:=List.getD (jh s i w) (Int.toNat c) (0:Int)
abbrev qH (s:zb) (i c:Int):Int:=List.getD (ix za s.2.1 i).2.2.2.2.2.2.2.1 (Int.toNat c) (0:Int)
abbrev y5 (r:ze) (i:Int):Int:=(ix qC r.2.2.2.2.1 i).2.2.2.2.2.1
structure At (s:zb) (i w:Int):Prop where
  hi:0 ≤ i ∧ i < (s.2.1.length:Int)
  hw:0 ≤ w ∧ w < (((ix za s.2.1 i).2.2.2.2.2.1.length:Nat):Int)
theorem zHa {n a:Int} (h:zhZ n = (a,0,())):n = a ∧ n ≤ M62:=by
  by_cases hb:n > M62
  · rw [zdW hb] at h; cases h
  · rw [zfa (by omega)] at h
    injection h with h1 h2
    exact ⟨h1,by omega⟩
theorem zBA {c:Int} (hc:zJ c = true):∃ k:Nat,c = (k:Int) ∧ k < 4:=by
  have:=yS hc
  exact ⟨c.toNat,by omega,by omega⟩
theorem zuM {r:ze} {s:zb} (h:z6 r s = true) (hs:zP s) {c:Int} (hc:zJ c = true):zD (s.2.2.2.1.map (qX c)) + zD (s.2.1.map (zM c)) ≤ M62 ∧ zD (s.2.2.2.1.map (qX c)) + zD (s.2.1.map (zM c)) ≤ qT (fun x=>x.2.2.2.2.2.2.2.1) s c:=by
  obtain ⟨k,rfl,hk⟩:=zBA hc
  obtain ⟨n,h1,h2,h3⟩:=zCO h hk
  unfold zdC at h1
  rw [hc,cond_true] at h1
  obtain ⟨h4,h5⟩:=zHa h1
  refine ⟨h5,?_⟩
  unfold zgc at h2
  rw [hc,cond_true] at h2
  have p2:=zpd (f:=fun x=>x.2.2.2.2.2.2.2.2.1) (fun x hx=>(hs.shelves x hx).spent) (k:Int)
  generalize qT (fun x=>x.2.2.2.2.2.2.2.1) s (k:Int) = a at *
  generalize qT (fun x=>x.2.2.2.2.2.2.2.2.1) s (k:Int) = b at *
  by_cases c1:a > M62
  · rw [decide_eq_true c1] at h2; cases h2
  · rw [decide_eq_false c1] at h2
    by_cases c2:b > M62
    · rw [decide_eq_true c2] at h2; cases h2
    · rw [decide_eq_false c2] at h2
      simp only [cond_false] at h2
      unfold zjx at h2
      by_cases c3:a < b
      · rw [decide_eq_true c3] at h2; cases h2
      · rw [decide_eq_false c3] at h2
        injection h2 with h6 h7
        omega
theorem zkx {s:zb} (hs:zP s) (c:Int):0 ≤ zD (s.2.2.2.1.map (qX c)):=za8 fun y hy=>(zp3 (hs.orders y hy) c).1
theorem qA {s:zb} {i:Int} (hi:0 ≤ i ∧ i < (s.2.1.length:Int)):ix za s.2.1 i ∈ s.2.1:=z8 (by omega)
theorem zpe {s:zb} (hs:zP s) {i c:Int} (hi:0 ≤ i ∧ i < (s.2.1.length:Int)):zM c (ix za s.2.1 i) ≤ zD (s.2.1.map (zM c)):=by
  have h1:=ziL (l:=s.2.1.map (zM c)) (i:=i.toNat) (fun x hx=>by
    obtain ⟨y,hy,rfl⟩:=List.mem_map.1 hx
    exact zgb (hs.shelves y hy) c) (by rw [List.length_map]; omega)
  rw [jS za (by omega)] at h1
  exact h1
theorem zlM {x:zg} (hx:ziI x) {w c:Int} (hw:0 ≤ w ∧ w < ((x.2.2.2.2.2.1.length:Nat):Int)):(x.2.2.2.2.2.1.getD w.toNat (zf (.arr 4 tU))).getD c.toNat 0 ≤ zM c x:=by
  have h1:=ziL (l:=x.2.2.2.2.2.1.map (je c)) (i:=w.toNat) (fun y hy=>by
    obtain ⟨a,ha,rfl⟩:=List.mem_map.1 hy
    exact (za7 (hx.purses a ha) _).1) (by rw [List.length_map]; omega)
  rw [jS (zf (.arr 4 tU)) (by omega)] at h1
  have:=zkw hx c
  unfold zM
  unfold je at h1 ⊢
  omega
theorem zwJ {s:zb} (hs:zP s) {i w:Int} (a:At s i w) (c:Int):qa (zz s i w c):=za7 ((hs.shelves _ (qA a.hi)).purses _ (z8 (by have:=a.hw; omega))) _
theorem zkK {r:ze} {s:zb} (h:z6 r s = true) (hs:zP s) {i w c:Int} (hc:zJ c = true) (a:At s i w):0 ≤ zz s i w c ∧ zz s i w c ≤ M62:=by
  have h0:=(zwJ hs a c).1
  have h1:=(zuM h hs hc).1
  have h2:=zkx hs c
  have h3:=zpe hs (c:=c) a.hi
  have h4:=zlM (hs.shelves _ (qA a.hi)) (c:=c) a.hw
  refine ⟨h0,?_⟩
  show _ ≤ M62
  have h5:zz s i w c ≤ zM c (ix za s.2.1 i):=h4
  omega
theorem zGu {r:ze} {s:zb} (h:z6 r s = true) (hs:zP s) {i w j v c:Int} (hc:zJ c = true) (a:At s i w) (b:At s j v) (hne:¬ (i = j ∧ w = v)):zz s i w c + zz s j v c ≤ M62:=by
  have h1:=(zuM h hs hc).1
  have h2:=zkx hs c
  have h4:zz s i w c ≤ zM c (ix za s.2.1 i):=zlM (hs.shelves _ (qA a.hi)) (c:=c) a.hw
  have h5:zz s j v c ≤ zM c (ix za s.2.1 j):=zlM (hs.shelves _ (qA b.hi)) (c:=c) b.hw
  have ahi:=a.hi
  have bhi:=b.hi
  by_cases hij:i = j
  · subst hij
    have hwv:w ≠ v:=fun e=>hne ⟨rfl,e⟩
    have h3:=zpe hs (c:=c) a.hi
    have hx:=hs.shelves _ (qA a.hi)
    have ahw:=a.hw
    have bhw:=b.hw
    have h6:=zuL (l:=(ix za s.2.1 i).2.2.2.2.2.1.map (je c)) (i:=w.toNat) (j:=v.toNat) (fun y hy=>by
      obtain ⟨q,hq,rfl⟩:=List.mem_map.1 hy
      exact (za7 (hx.purses q hq) _).1) (by rw [List.length_map]; omega) (by rw [List.length_map]; omega) (by omega)
    rw [jS (zf (.arr 4 tU)) (by omega),jS (zf (.arr 4 tU)) (by omega)] at h6
    have h7:=zkw hx c
    have h8:zz s i w c + zz s i v c ≤ zM c (ix za s.2.1 i):=by
      unfold zM
      have h9:zz s i w c + zz s i v c ≤ zD ((ix za s.2.1 i).2.2.2.2.2.1.map (je c)):=h6
      omega
    omega
  · have h6:=zuL (l:=s.2.1.map (zM c)) (i:=i.toNat) (j:=j.toNat) (fun x hx=>by
      obtain ⟨y,hy,rfl⟩:=List.mem_map.1 hx
      exact zgb (hs.shelves y hy) c) (by rw [List.length_map]; omega) (by rw [List.length_map]; omega) (by omega)
    rw [jS za (by omega),jS za (by omega)] at h6
    have h7:zM c (ix za s.2.1 i) + zM c (ix za s.2.1 j) ≤ zD (s.2.1.map (zM c)):=h6
    omega
theorem zDa {s:zb} (hs:zP s) {i:Int} (hi:0 ≤ i ∧ i < (s.2.1.length:Int)) (c:Int):qa (qH s i c):=za7 (hs.shelves _ (qA hi)).made _
theorem zBB {r:ze} {s:zb} (h:z6 r s = true) {i c:Int} (hc:zJ c = true) (hi:0 ≤ i ∧ i < (s.2.1.length:Int)):qH s i c ≤ y5 r i:=by
  simp only [z6,Bool.and_eq_true,vc] at h
  have:=(h.2.2.2.1 i.toNat (Nat.zero_le _) (by omega)).2 c.toNat (Nat.zero_le _) (by have:=yS hc; omega)
  simp only [zh0,Bool.not_eq_true',decide_eq_false_iff_not] at this
  exact Int.not_lt.1 this
theorem zrM {r:ze} {s:zb} (h:z6 r s = true) (hs:zP s) (hq:zfV r) {i w c n:Int} (hc:zJ c = true) (a:At s i w) (hn:qH s i c + n ≤ y5 r i):zz s i w c + n ≤ M62 ∧ 0 ≤ y5 r i ∧ y5 r i ≤ M62:=by
  obtain ⟨hb,hz,-⟩:=jm h
  have ok:=jG hb
  have sz:=zc7 hb hz
  have hl:=ok.quotas
  have hsl:=sz.shelves
  have h1:=(zuM h hs hc).2
  have h2:=zkx hs c
  have h3:=zpe hs (c:=c) a.hi
  have h4:zz s i w c ≤ zM c (ix za s.2.1 i):=zlM (hs.shelves _ (qA a.hi)) (c:=c) a.hw
  have ahi:=a.hi
  have hcaps:zD (r.2.2.2.2.1.map fun q=>q.2.2.2.2.2.1) ≤ M62:=by
    have hb':=hb
    simp only [qg,ze8,Bool.and_eq_true,decide_eq_true_eq] at hb'
    obtain ⟨-,-,-,-,⟨-,h6,-,h7⟩,-⟩:=hb'
    rcases zrL (by unfold U64; omega) hq h7 with h8 | h8
    · exact h8
    · rw [h8] at h6; cases h6
  have hcap:0 ≤ y5 r i ∧ y5 r i ≤ M62:=by
    have h6:=ziL (l:=r.2.2.2.2.1.map fun q=>q.2.2.2.2.2.1) (i:=i.toNat) (fun x hx=>by
      obtain ⟨y,hy,rfl⟩:=List.mem_map.1 hx
      exact (hq y hy).1) (by rw [List.length_map]; omega)
    rw [jS qC (by omega)] at h6
    have h7:y5 r i ≤ zD (r.2.2.2.2.1.map fun q=>q.2.2.2.2.2.1):=h6
    exact ⟨(hq _ (z8 (by omega))).1,by omega⟩
  refine ⟨?_,hcap⟩
  have h6:=znm (a:=s.2.1.map fun x=>je c x.2.2.2.2.2.2.2.1) (b:=r.2.2.2.2.1.map fun q=>q.2.2.2.2.2.1) (i:=i.toNat) (n:=n) (by rw [List.length_map,List.length_map]; omega) (by rw [List.length_map]; omega) (fun j hj=>by
    rw [List.length_map] at hj
    rw [jS za hj,jS qC (by omega)]
    have:=zBB h hc (i:=(j:Int)) (by omega)
    exact this) (by
    rw [jS za (by omega),jS qC (by omega)]
    exact hn)
  have h7:qT (fun x=>x.2.2.2.2.2.2.2.1) s c + n ≤ zD (r.2.2.2.2.1.map fun q=>q.2.2.2.2.2.1):=h6
  omega
theorem zmQ {r:ze} {s:zb} (h:z6 r s = true) {i w:Int} (hi:vg r i = true) (hw:jy r w = true):At s i w:=by
  obtain ⟨hb,hz,-⟩:=jm h
  have sz:=zc7 hb hz
  have hsl:=sz.shelves
  simp only [vg,jy,decide_eq_true_eq] at hi hw
  have h1:0 ≤ i ∧ i < (s.2.1.length:Int):=by omega
  have h2:=(sz.shelf _ (qA h1)).2.2.2.2.2.1
  exact ⟨h1,by omega⟩
theorem zrN {r:ze} (hb:qg r = true) {x:pMe} (hm:zbi r x = true):vg r x.2.1 = true:=by
  simp only [qg,zlC,Bool.and_eq_true,decide_eq_true_eq,List.all_eq_true] at hb
  simp only [zbi,Bool.and_eq_true,decide_eq_true_eq,beq_iff_eq] at hm
  have:=hb.2.1.2 _ (z8 (d:=(0:Int)) (i:=x.1.toNat) (by omega))
  rw [← hm.2.1] at this
  simp only [vg,decide_eq_true_eq]
  exact this
theorem zej {r:ze} {s:zb} (h:z6 r s = true) {x:pMe} (hm:zbi r x = true):At s x.2.1 x.2.2.1:=by
  have hw:jy r x.2.2.1 = true:=by
    simp only [zbi,Bool.and_eq_true] at hm; exact hm.2.2
  exact zmQ h (zrN (jm h).1 hm) hw
end Go.Proofs.YtokcjmkikhgkeaaGreatDoor
end
section
namespace Go.Proofs.YtokcjmkikhgkeaaGreatDoor
open Go.Ev
theorem bnd {α β:Type} {x:Option α} {a:α} {f:α→Option β} (h:x = some a):Option.bind x f = f a:=by rw [h]; rfl
theorem cT {α:Type} {b:Bool} {x y:α} (h:b = true):cond b x y = x:=by rw [h]; rfl
theorem cF {α:Type} {b:Bool} {x y:α} (h:b = false):cond b x y = y:=by rw [h]; rfl
theorem geF {n:Nat} {i:Int} {ρ:Type} {x y:ρ} (h:0 ≤ i ∧ i < (n:Int)):cond (decide (n ≤ Int.toNat i)) x y = y:=cF (decide_eq_false (by omega))
abbrev upd (s:zb) (i:Int) (h:zg):zb:=u1 s (List.set s.2.1 (Int.toNat i) h)
abbrev va (s:zb) (i w c v:Int):zb:=upd s i (u5 (ix za s.2.1 i) (List.set (ix za s.2.1 i).2.2.2.2.2.1 (Int.toNat w) (List.set (jh s i w) (Int.toNat c) v)))
theorem zdX {α:Type} {l:List α} {i:Nat} {x d:α} (h:i < l.length):(List.set l i x).getD i d = x:=by
  rw [List.getD_eq_getElem?_getD,List.getElem?_set_self h]; rfl
theorem getD_set_ne {α:Type} {l:List α} {i j:Nat} {x d:α} (h:i ≠ j):(List.set l i x).getD j d = l.getD j d:=by
  rw [List.getD_eq_getElem?_getD,List.getElem?_set_ne h,List.getD_eq_getElem?_getD]
theorem zoi {s:zb} {i:Int} {h:zg} (hi:0 ≤ i ∧ i < (s.2.1.length:Int)):ix za (upd s i h).2.1 i = h:=zdX (by omega)
theorem zyd {s:zb} {i j:Int} {h:zg} (hi:0 ≤ i) (hj:0 ≤ j) (hne:i ≠ j):ix za (upd s i h).2.1 j = ix za s.2.1 j:=getD_set_ne (by omega)
theorem zoj {s:zb} {i j v:Int} {h:zg} (hi:0 ≤ i ∧ i < (s.2.1.length:Int)) (hp:h.2.2.2.2.2.1.length = (ix za s.2.1 i).2.2.2.2.2.1.length) (a:At s j v):At (upd s i h) j v:=by
  refine ⟨by have:=a.hi; show 0 ≤ j ∧ j < (((List.set s.2.1 i.toNat h).length:Nat):Int); rw [List.length_set]; exact this,?_⟩
  by_cases hij:i = j
  · subst hij
    rw [zoi hi,hp]; exact a.hw
  · rw [zyd hi.1 a.hi.1 hij]; exact a.hw
theorem zdY {s:zb} {i w c v j u:Int} (hi:0 ≤ i ∧ i < (s.2.1.length:Int)) (a:At s j u):At (va s i w c v) j u:=zoj hi (by show (List.set _ _ _).length = _; rw [List.length_set]) a
theorem zFH {s:zb} {i w c v j u c':Int} (a:At s i w) (b:At s j u) (hne:¬ (i = j ∧ w = u)):zz (va s i w c v) j u c' = zz s j u c':=by
  by_cases hij:i = j
  · subst hij
    have hwu:w ≠ u:=fun e=>hne ⟨rfl,e⟩
    have e:jh (va s i w c v) i u = jh s i u:=by
      show List.getD (ix za (upd s i _).2.1 i).2.2.2.2.2.1 _ _ = _
      rw [zoi a.hi]
      exact getD_set_ne (by have:=a.hw; have:=b.hw; omega)
    show List.getD (jh (va s i w c v) i u) _ _ = _
    rw [e]
  · have e:jh (va s i w c v) j u = jh s j u:=by
      show List.getD (ix za (upd s i _).2.1 j).2.2.2.2.2.1 _ _ = _
      rw [zyd a.hi.1 b.hi.1 hij]
    show List.getD (jh (va s i w c v) j u) _ _ = _
    rw [e]
theorem zGv {a b:Int} (ha:qa a) (hb:qa b):zaU (a,b,()) = some (zjx a b):=by
  simp only [zaU,extA,extB,zjx,cond_false]
  unfold qa U64 at *
  have h2:b ≤ a→(a - b) % 18446744073709551616 = a - b:=fun h=>by omega
  grind
theorem zBC {row:List Int} {c n:Int} {by':Int × Int × Unit→Option (Int × Int × Unit)} {v:Int × Int × Unit} (hc:zJ c = true) (h:by' (List.getD row c.toNat 0,n,()) = some v):zdF (row,c,n,some by',()) = bif v.2.1 != 0 then some ([0,0,0,0],v.2.1,()) else some (List.set row c.toNat v.1,0,()):=by
  have hc4:=yS hc
  simp only [zdF]
  refine (bnd (vV c)).trans ?_
  refine (cT hc).trans ?_
  refine (ixR hc4).trans ?_
  refine (bnd (a:=by') rfl).trans ?_
  refine (bnd h).trans ?_
  cases v.2.1 != 0 with
  | true=>rfl
  | false=>exact ixR hc4
theorem zHI {row:List Int} {c n:Int} (hc:zJ c = true) (ha:0 ≤ List.getD row c.toNat 0) (hn:qa n) (h:List.getD row c.toNat 0 + n ≤ M62):zcp (row,c,n,()) = some (List.set row c.toNat (List.getD row c.toNat 0 + n),0,()):=by
  have e:zdU (List.getD row c.toNat 0,n,()) = some (List.getD row c.toNat 0 + n,0,()):=by
    rw [zts ha hn]; unfold zzx; rw [decide_eq_false (by omega)]; rfl
  simp only [zcp]
  rw [zBC hc e]; rfl
theorem zHJ {row:List Int} {c n:Int} (hc:zJ c = true) (ha:qa (List.getD row c.toNat 0)) (hn:qa n):zcq (row,c,n,()) = bif decide (List.getD row c.toNat 0 < n) then some ([0,0,0,0],6,()) else some (List.set row c.toNat (List.getD row c.toNat 0 - n),0,()):=by
  simp only [zcq]
  rw [zBC hc (zGv ha hn)]
  unfold zjx
  cases decide (List.getD row c.toNat 0 < n) <;> rfl
def zaz (e:Int):zb × Int × Unit:=((0,[],[],[],[],[],()),e,())
def vB (r:ze) (s:zb) (me:pMe) (c n:Int):Bool:=(z6 r s && zbi r me) && (zJ c && decide (n > 0))
abbrev qt (s:zb) (me:pMe) (c n:Int):zb:=va s me.2.1 me.2.2.1 c (zz s me.2.1 me.2.2.1 c - n)
abbrev vz (s:zb) (me:pMe) (c n:Int):zb:=upd s me.2.1 (u7 (ix za s.2.1 me.2.1) (List.set (ix za s.2.1 me.2.1).2.2.2.2.2.2.2.1 (Int.toNat c) (qH s me.2.1 c + n)))
def zpf (t:zb) (i w c n:Int):zb × Int × Unit:=(va t i w c (zz t i w c + n),0,())
def zi6 (r:ze) (s:zb) (me:pMe) (c n:Int):zb × Int × Unit:=bif (ix zcf r.2.2.1 me.2.2.1).2.2.2.1 then bif decide (qH s me.2.1 c + n ≤ y5 r me.2.1) then zpf (vz s me c n) me.2.1 me.2.2.1 c n else zaz 8 else zaz 5
def zi7 (s:zb) (me:pMe) (c n:Int):zb × Int × Unit:=bif decide (zz s me.2.1 me.2.2.1 c < n) then zaz 6 else (upd (qt s me c n) me.2.1 (u8 (ix za (qt s me c n).2.1 me.2.1) (List.set (ix za (qt s me c n).2.1 me.2.1).2.2.2.2.2.2.2.2.1 (Int.toNat c) (wU (List.getD (ix za (qt s me c n).2.1 me.2.1).2.2.2.2.2.2.2.2.1 (Int.toNat c) (0:Int) + n)))),0,())
def ziM (s:zb) (me:pMe) (i w c n:Int):zb × Int × Unit:=bif decide (zz s me.2.1 me.2.2.1 c < n) then zaz 6 else zpf (qt s me c n) i w c n
def zi8 (r:ze) (s:zb) (me:pMe) (i w c n:Int):zb × Int × Unit:=bif (i != me.2.1) && zlG r me.2.1 i then ziM s me i w c n else zaz 5
def znn (r:ze) (s:zb) (me:pMe) (k i w c n:Int):zb × Int × Unit :=
  bif vB r s me c n then bif k == 1 then zi6 r s me c n else bif k == 2 then zi7 s me c n else bif k == 3 then (bif jy r w && w != me.2.2.1 then ziM s me me.2.1 w c n else zaz 1) else (bif jy r w && vg r i then zi8 r s me i w c n else zaz 1) else zaz 1
structure Ctx (r:ze) (s:zb) (me:pMe) (c n:Int):Prop where
  rs:z6 r s = true
  im:zbi r me = true
  hc:zJ c = true
  pos:0 < n
theorem zfb {r:ze} {s:zb} {me:pMe} {c n:Int} (h:vB r s me c n = true):Ctx r s me c n:=by
  simp only [vB,Bool.and_eq_true,decide_eq_true_eq] at h
  exact ⟨h.1.1,h.1.2,h.2.1,h.2.2⟩
end Go.Proofs.YtokcjmkikhgkeaaGreatDoor
end
section
namespace Go.Proofs.YtokcjmkikhgkeaaGreatDoor
open Go.Ev
theorem zaG {r:ze} {s:zb} (hr:z3 r) (hs:zP s) (me:pMe) (c n:Int):zct (r,s,me,c,n,()) = some (vB r s me c n,()):=by
  rw [zN]
  simp only [zct,zh1 hr hs,vV,Option.bind_some,vB]
  cases z6 r s <;> cases zbi r me <;> cases zJ c <;> rfl
theorem zDb {r:ze} {s:zb} (hr:z3 r) (hs:zP s) (me:pMe):yb (r,s,me,()) = bif z6 r s && zbi r me then some (jh s me.2.1 me.2.2.1,0,()) else some ([0,0,0,0],1,()):=by
  simp only [yb,zh1 hr hs,Option.bind_some]
  cases h:z6 r s && zbi r me with
  | false=>rfl
  | true =>
    simp only [Bool.and_eq_true] at h
    have a:=zej h.1 h.2
    exact (ixR a.hi).trans (ixR a.hw)
theorem zEp {t:zb} {i w c n:Int} {k:List Int × Int × Unit→Option (zb × Int × Unit)} (a:At t i w) (hc:zJ c = true) (h0:qa (zz t i w c)) (hn:qa n) :
    inR i ((List.length t.2.1):Int) (bif decide (List.length t.2.1 ≤ Int.toNat i) then none else inR w ((List.length (ix za t.2.1 i).2.2.2.2.2.1):Int) (Option.bind (zcq (jh t i w,c,n,())) fun q=>inR i ((List.length t.2.1):Int) (bif decide (List.length t.2.1 ≤ Int.toNat i) then none else inR w ((List.length (ix za t.2.1 i).2.2.2.2.2.1):Int) (bif q.2.1 != 0 then some ((0,[],[],[],[],[],()),q.2.1,()) else k q)))) = bif decide (zz t i w c < n) then some (zaz 6) else k (List.set (jh t i w) c.toNat (zz t i w c - n),0,()):=by
  refine (ixR a.hi).trans ?_
  refine (geF a.hi).trans ?_
  refine (ixR a.hw).trans ?_
  rw [zHJ hc h0 hn]
  cases h:decide (zz t i w c < n) with
  | true =>
    refine (ixR a.hi).trans ?_
    refine (geF a.hi).trans ?_
    exact ixR a.hw
  | false =>
    refine (ixR a.hi).trans ?_
    refine (geF a.hi).trans ?_
    exact ixR a.hw
theorem zEq {t:zb} {i w c n:Int} {m:Nat} {k:List Int × Int × Unit→Option (zb × Int × Unit)} (a:At t i w) (hm:i < (m:Int)) (hc:zJ c = true) (h0:0 ≤ zz t i w c) (hn:qa n) (hle:zz t i w c + n ≤ M62) :
    inR i ((List.length t.2.1):Int) (bif decide (m ≤ Int.toNat i) then none else inR w ((List.length (ix za t.2.1 i).2.2.2.2.2.1):Int) (Option.bind (zcp (jh t i w,c,n,())) fun q=>inR i ((List.length t.2.1):Int) (bif decide (m ≤ Int.toNat i) then none else inR w ((List.length (ix za t.2.1 i).2.2.2.2.2.1):Int) (bif q.2.1 != 0 then some ((0,[],[],[],[],[],()),q.2.1,()) else k q)))) = k (List.set (jh t i w) c.toNat (zz t i w c + n),0,()):=by
  have hi:0 ≤ i ∧ i < (m:Int):=⟨a.hi.1,hm⟩
  refine (ixR a.hi).trans ?_
  refine (geF hi).trans ?_
  refine (ixR a.hw).trans ?_
  rw [zHI hc h0 hn hle]
  refine (ixR a.hi).trans ?_
  refine (geF hi).trans ?_
  exact ixR a.hw
theorem zHK {r:ze} {s:zb} (hr:z3 r) (hs:zP s) (hf:zjU s) {me:pMe} {c n:Int} (hn:qa n):vS (r,s,me,c,n,()) = some (bif vB r s me c n then zi7 s me c n else zaz 1):=by
  simp only [vS]
  refine (bnd (zaG hr hs me c n)).trans ?_
  cases h:vB r s me c n with
  | false=>rfl
  | true =>
    obtain ⟨rs,im,hc,pos⟩:=zfb h
    have a:=zej rs im
    have hc4:=yS hc
    refine (bnd (jI hf)).trans ?_
    refine (zEp (t:=s) (k:=fun q=>_) a hc (zwJ hs a c) hn).trans ?_
    show _ = some (zi7 s me c n)
    unfold zi7
    cases decide (zz s me.2.1 me.2.2.1 c < n) with
    | true=>rfl
    | false =>
      have b:At (qt s me c n) me.2.1 me.2.2.1:=zdY a.hi a
      refine (ixR b.hi).trans ?_
      refine (ixR hc4).trans ?_
      refine (ixR b.hi).trans ?_
      refine (ixR hc4).trans ?_
      refine (cT (decide_eq_true (by rw [List.length_set,List.length_set]))).trans ?_
      exact cT (decide_eq_true trivial)
theorem zGw {r:ze} {s:zb} (hs:zP s) {me:pMe} {i w c n:Int} (x:Ctx r s me c n) (hn:qa n) (b:At s i w) (hne:¬ (me.2.1 = i ∧ me.2.2.1 = w)) (h:¬ zz s me.2.1 me.2.2.1 c < n):zz (qt s me c n) i w c = zz s i w c ∧ 0 ≤ zz s i w c ∧ zz s i w c + n ≤ M62:=by
  have a:=zej x.rs x.im
  have h1:=zGu x.rs hs x.hc a b hne
  have h2:=zkK x.rs hs x.hc b
  exact ⟨zFH a b hne,h2.1,by omega⟩
theorem zHZ {r:ze} {s:zb} (hr:z3 r) (hs:zP s) (hf:zjU s) {me:pMe} {w c n:Int} (hn:qa n):yH (r,s,me,w,c,n,()) = some (bif vB r s me c n then (bif jy r w && w != me.2.2.1 then ziM s me me.2.1 w c n else zaz 1) else zaz 1):=by
  simp only [yH]
  refine (bnd (zaG hr hs me c n)).trans ?_
  cases h:vB r s me c n with
  | false=>rfl
  | true =>
    have x:=zfb h
    obtain ⟨rs,im,hc,pos⟩:=x
    have a:=zej rs im
    by_cases hw:w = me.2.2.1
    · subst hw
      refine (cT (beq_self_eq_true (α:=Int) me.2.2.1)).trans ?_
      have:(me.2.2.1 != me.2.2.1) = false:=by simp
      show _ = some (bif jy r me.2.2.1 && (me.2.2.1 != me.2.2.1) then _ else _)
      rw [this,Bool.and_false]; rfl
    · have hne:(w != me.2.2.1) = true:=bne_iff_ne.2 hw
      refine (cF (beq_eq_false_iff_ne.2 hw)).trans ?_
      refine (bnd (zh1 hr hs _)).trans ?_
      rw [rs,hne,Bool.and_true,Bool.true_and]
      have him:zbi r (me.1,me.2.1,w,(zf tMe).2.2.2) = jy r w:=by
        have:=im
        simp only [zbi,Bool.and_eq_true] at this ⊢
        rw [this.1,this.2.1,Bool.true_and,Bool.true_and]
      rw [him]
      cases hww:jy r w with
      | false=>rfl
      | true =>
        have b0:At s me.2.1 w:=zmQ rs (zrN (jm rs).1 im) hww
        refine (bnd (jI hf)).trans ?_
        refine (zEp (t:=s) (k:=fun q=>_) a hc (zwJ hs a c) hn).trans ?_
        show _ = some (ziM s me me.2.1 w c n)
        unfold ziM
        cases hlt:decide (zz s me.2.1 me.2.2.1 c < n) with
        | true=>rfl
        | false =>
          have hge:=of_decide_eq_false hlt
          obtain ⟨e,h0,hle⟩:=zGw hs ⟨rs,im,hc,pos⟩ hn b0 (fun e=>hw e.2.symm) hge
          have b:At (qt s me c n) me.2.1 w:=zdY a.hi b0
          refine (zEq (t:=qt s me c n) (m:=List.length s.2.1) (k:=fun q=>_) b a.hi.2 hc (by rw [e]; exact h0) hn (by rw [e]; exact hle)).trans ?_
          refine (cT (decide_eq_true (by rw [List.length_set,List.length_set]))).trans ?_
          exact cT (decide_eq_true trivial)
theorem zHL {r:ze} {s:zb} (hr:z3 r) (hs:zP s) (hf:zjU s) {me:pMe} {i w c n:Int} (hn:qa n):vT (r,s,me,i,w,c,n,()) = some (bif vB r s me c n then (bif jy r w && vg r i then zi8 r s me i w c n else zaz 1) else zaz 1):=by
  simp only [vT]
  refine (bnd (zaG hr hs me c n)).trans ?_
  cases h:vB r s me c n with
  | false=>rfl
  | true =>
    obtain ⟨rs,im,hc,pos⟩:=zfb h
    have a:=zej rs im
    simp only [cond_true]
    by_cases hb:jy r w = true ∧ vg r i = true
    · obtain ⟨hww,hii⟩:=hb
      have b0:At s i w:=zmQ rs hii hww
      rw [hww,hii]
      simp only [jy,vg,decide_eq_true_eq] at hww hii
      refine (cF (decide_eq_false (by omega))).trans ?_
      refine (cF (decide_eq_false (by omega))).trans ?_
      refine (cF (decide_eq_false (by omega))).trans ?_
      refine (cF (decide_eq_false (by omega))).trans ?_
      show _ = some (zi8 r s me i w c n)
      unfold zi8
      cases hne:i != me.2.1 with
      | false =>
        simp only [cond_false,Bool.false_and]
        rw [jI hf]; rfl
      | true =>
        simp only [cond_true,Bool.true_and]
        refine (bnd (zCN hr (jm rs).1 _ _)).trans ?_
        cases zlG r me.2.1 i with
        | false=>rw [jI hf]; rfl
        | true =>
          refine (bnd (jI hf)).trans ?_
          refine (zEp (t:=s) (k:=fun q=>_) a hc (zwJ hs a c) hn).trans ?_
          show _ = some (ziM s me i w c n)
          unfold ziM
          cases hlt:decide (zz s me.2.1 me.2.2.1 c < n) with
          | true=>rfl
          | false =>
            have hge:=of_decide_eq_false hlt
            have hni:¬ i = me.2.1:=bne_iff_ne.1 hne
            obtain ⟨e,h0,hle⟩:=zGw hs ⟨rs,im,hc,pos⟩ hn b0 (fun e=>hni e.1.symm) hge
            have b:At (qt s me c n) i w:=zdY a.hi b0
            refine (zEq (t:=qt s me c n) (m:=List.length s.2.1) (k:=fun q=>_) b b0.hi.2 hc (by rw [e]; exact h0) hn (by rw [e]; exact hle)).trans ?_
            refine (cT (decide_eq_true (by rw [List.length_set,List.length_set]))).trans ?_
            exact cT (decide_eq_true trivial)
    · have hbf:(jy r w && vg r i) = false:=by
        cases h1:jy r w <;> cases h2:vg r i <;> first | rfl | exact absurd ⟨h1,h2⟩ hb
      rw [hbf]
      simp only [jy,vg,decide_eq_true_eq] at hb
      simp only [cond_false]
      by_cases c1:i < 0
      · exact cT (decide_eq_true c1)
      · refine (cF (decide_eq_false c1)).trans ?_
        by_cases c2:i ≥ (r.1.length:Int)
        · exact cT (decide_eq_true c2)
        · refine (cF (decide_eq_false c2)).trans ?_
          by_cases c3:w < 0
          · exact cT (decide_eq_true c3)
          · refine (cF (decide_eq_false c3)).trans ?_
            by_cases c4:w ≥ (r.2.2.1.length:Int)
            · exact cT (decide_eq_true c4)
            · omega
theorem zHM {r:ze} {s:zb} (hr:z3 r) (hs:zP s) (hf:zjU s) (hq:zfV r) {me:pMe} {c n:Int} (hn:qa n):j9 (r,s,me,c,n,()) = some (bif vB r s me c n then zi6 r s me c n else zaz 1):=by
  simp only [j9]
  refine (bnd (zaG hr hs me c n)).trans ?_
  cases h:vB r s me c n with
  | false=>rfl
  | true =>
    obtain ⟨rs,im,hc,pos⟩:=zfb h
    have a:=zej rs im
    have hc4:=yS hc
    obtain ⟨hb,hz,-⟩:=jm rs
    have ok:=jG hb
    have sz:=zc7 hb hz
    have hl:=ok.quotas
    have hsl:=sz.shelves
    have ahi:=a.hi
    have hww:jy r me.2.2.1 = true:=by
      have:=im; simp only [zbi,Bool.and_eq_true] at this; exact this.2.2
    simp only [jy,decide_eq_true_eq] at hww
    have hqi:0 ≤ me.2.1 ∧ me.2.1 < (r.2.2.2.2.1.length:Int):=by omega
    simp only [cond_true]
    refine (ixR hqi).trans ?_
    refine (ixR a.hi).trans ?_
    refine (ixR hc4).trans ?_
    refine (ixR hww).trans ?_
    have hm0:=zDa hs a.hi c
    have hcap:=zBB rs hc a.hi
    have hcm:=zrM (n:=0) rs hs hq hc a (by omega)
    have hw1:wU (y5 r me.2.1 - qH s me.2.1 c) = y5 r me.2.1 - qH s me.2.1 c:=zo7 (by have:=hm0.1; have:=hcm.2.2; unfold M62 at this; omega)
    have hiff:decide (n ≤ wU (y5 r me.2.1 - qH s me.2.1 c)) = decide (qH s me.2.1 c + n ≤ y5 r me.2.1):=by
      rw [hw1]; exact decide_eq_decide.2 (by omega)
    show (bif (ix zcf r.2.2.1 me.2.2.1).2.2.2.1 then (bif decide (n ≤ wU (y5 r me.2.1 - qH s me.2.1 c)) then _ else _) else (bif decide (n ≤ wU (y5 r me.2.1 - qH s me.2.1 c)) then _ else _)) = some (zi6 r s me c n)
    rw [hiff]
    unfold zi6
    cases (ix zcf r.2.2.1 me.2.2.1).2.2.2.1 with
    | false =>
      rw [jI hf]
      cases decide (qH s me.2.1 c + n ≤ y5 r me.2.1) <;> rfl
    | true =>
      cases hle:decide (qH s me.2.1 c + n ≤ y5 r me.2.1) with
      | false=>rw [jI hf]; rfl
      | true =>
        have hle:=of_decide_eq_true hle
        have hgo:=zrM rs hs hq hc a hle
        have hw2:wU (qH s me.2.1 c + n) = qH s me.2.1 c + n:=zo7 (by have:=hm0.1; have:=hgo.2.2; have:=hn.1; unfold M62 at *; omega)
        refine (bnd (jI hf)).trans ?_
        refine (ixR a.hi).trans ?_
        refine (ixR hc4).trans ?_
        refine (ixR a.hi).trans ?_
        refine (ixR hc4).trans ?_
        have b:At (vz s me c n) me.2.1 me.2.2.1:=zoj a.hi rfl a
        have e:zz (vz s me c n) me.2.1 me.2.2.1 c = zz s me.2.1 me.2.2.1 c:=by
          show List.getD (List.getD (ix za (upd s me.2.1 _).2.1 me.2.1).2.2.2.2.2.1 _ _) _ _ = _
          rw [zoi a.hi]
        have hco:=zkK rs hs hc a
        have key:=zEq (t:=upd s me.2.1 (u7 (ix za s.2.1 me.2.1) (List.set (ix za s.2.1 me.2.1).2.2.2.2.2.2.2.1 (Int.toNat c) (wU (qH s me.2.1 c + n))))) (i:=me.2.1) (w:=me.2.2.1) (c:=c) (n:=n) (m:=List.length s.2.1) (k:=fun q=>some (u1 s (List.set (vz s me c n).2.1 me.2.1.toNat (u5 (ix za (vz s me c n).2.1 me.2.1) (List.set (ix za (vz s me c n).2.1 me.2.1).2.2.2.2.2.1 me.2.2.1.toNat q.1))),0,())) (by rw [hw2]; exact b) a.hi.2 hc (by rw [hw2]; show 0 ≤ zz (vz s me c n) me.2.1 me.2.2.1 c; rw [e]; exact hco.1) hn (by rw [hw2]; show zz (vz s me c n) me.2.1 me.2.2.1 c + n ≤ M62; rw [e]; exact hgo.1)
        rw [hw2] at key
        show inR me.2.1 _ _ = _
        simp only [hw2]
        refine Eq.trans ?_ key
        have el:∀ (X:zg),List.length s.2.1 = List.length (List.set (List.set s.2.1 (Int.toNat me.2.1) (u7 (ix za s.2.1 me.2.1) (List.set (ix za s.2.1 me.2.1).2.2.2.2.2.2.2.1 (Int.toNat c) (qH s me.2.1 c + n)))) (Int.toNat me.2.1) X):=fun X=>by rw [List.length_set,List.length_set]
        simp only [decide_eq_true (el _),decide_true,cond_true]
end Go.Proofs.YtokcjmkikhgkeaaGreatDoor
end
section
namespace Go.Proofs.YtokcjmkikhgkeaaGreatDoor
open Go.Ev
theorem zok {x:Int} (h0:0 ≤ x) (h1:x ≤ M62):qa x:=⟨h0,by unfold M62 at h1; unfold U64; omega⟩
end Go.Proofs.YtokcjmkikhgkeaaGreatDoor
end
section
namespace Go.Proofs.YtokcjmkikhgkeaaGreatDoor
open Go.Ev
def zDc (x:zg):Bool:=decide (x.1.length ≤ 2000000) && (decide (x.2.1.length ≤ 2000000) && (decide (x.2.2.1.length ≤ 2000000) && (decide (x.2.2.2.1.length ≤ 2000000) && (decide (x.2.2.2.2.1.length ≤ 2000000) && (decide (x.2.2.2.2.2.1.length ≤ 2000000) && decide (x.2.2.2.2.2.2.1.length ≤ 2000000))))))
def zzA (s:zb):Bool:=decide (s.2.1.length ≤ 2000000) && (decide (s.2.2.1.length ≤ 2000000) && (decide (s.2.2.2.1.length ≤ 2000000) && (decide (s.2.2.2.2.1.length ≤ 2000000) && (decide (s.2.2.2.2.2.1.length ≤ 2000000) && (s.2.1.all zDc && s.2.2.1.all fun l=>decide (l.length ≤ 2000000))))))
theorem zGx {s:zb} (h:zzA s = true):zjU s:=by
  simp only [zzA,Bool.and_eq_true,decide_eq_true_eq,List.all_eq_true] at h
  obtain ⟨h1,h2,h3,h4,h5,h6,h7⟩:=h
  refine ⟨h1,h2,h3,h4,h5,fun x hx=>?_,h7⟩
  have:=h6 x hx
  simp only [zDc,Bool.and_eq_true,decide_eq_true_eq] at this
  obtain ⟨a,b,c,d,e,f,g⟩:=this
  exact ⟨a,b,c,d,e,f,g⟩
noncomputable def zFI (x:zb × Unit):Option (zb × Unit):=bif zzA x.1 then some x else qv x
theorem zGy:qv = zFI:=by
  funext ⟨s,u⟩
  cases u
  unfold zFI
  cases h:zzA s with
  | true=>exact jI (zGx h)
  | false=>rfl
theorem zgU:yc () = some (true,()):=by
  simp only [yc,j9,vS,yH,vT,zGy]
  kernel_rfl
theorem zCP {x:zg} (h:zwI x):zwH x:=by
  have hm:2000000 ≤ Go.maxLen:=by unfold Go.maxLen; omega
  exact ⟨Nat.le_trans h.rooms hm,Nat.le_trans h.exits hm,Nat.le_trans h.items hm,Nat.le_trans h.mails hm,Nat.le_trans h.trades hm,Nat.le_trans h.purses hm,Nat.le_trans h.places hm⟩
theorem zFJ {s:zb} (h:zjU s):zHH s:=by
  have hm:2000000 ≤ Go.maxLen:=by unfold Go.maxLen; omega
  exact ⟨Nat.le_trans h.shelves hm,Nat.le_trans h.ranks hm,Nat.le_trans h.orders hm,Nat.le_trans h.entries hm,Nat.le_trans h.seats hm,fun x hx=>zCP (h.shelf x hx),fun l hl=>Nat.le_trans (h.rank l hl) hm⟩
def zlN (a:Int):Int:=bif decide (a < 1) then 4 else bif decide (a > 3) then 4 else a
end Go.Proofs.YtokcjmkikhgkeaaGreatDoor
end
section
namespace Go.Proofs.YtokcjmkikhgkeaaGreatDoor
open Go.Ev
theorem wf_u64 {x:Int} (h:(Lit.int .u64 x).wf = true):qa x:=by
  unfold Lit.wf at h
  simp only [Bool.and_eq_true,decide_eq_true_eq] at h
  have e1:IntKind.min .u64 = 0:=by decide
  have e2:IntKind.max .u64 = 18446744073709551615:=by decide
  rw [e1,e2] at h
  exact ⟨h.1,Int.lt_of_le_of_lt h.2 (by decide)⟩
theorem realmIn {r:ze} (h:InR zy r):z3 r:=by
  obtain ⟨hl,h2⟩:=h
  refine ⟨fun a ha=>?_,h2.2.2.1.1,h2.2.2.2.1.1⟩
  have h3:(Lit.int .u64 a.2.1).wf = true:=(hl.2 a ha).2.1
  exact wf_u64 h3
theorem zBD {a:List Int} (h:InR (.arr 4 tU) a):zkv a:=fun x hx=>wf_u64 (h.2 x hx)
theorem zDd {x:zkh} (h:InR zde x):qa x.2.1:=wf_u64 (show (Lit.int .u64 x.2.1).wf = true from h.2.1)
theorem zHb {x:zg} (h:InR zj x):ziI x:=by
  obtain ⟨-,-,-,-,h5,h6,-,h8,h9,-⟩:=h
  refine ⟨fun t ht=>?_,fun a ha=>zBD (h6.2 a ha),zBD h8,zBD h9⟩
  obtain ⟨-,-,-,g1,g2,-⟩:=h5.2 t ht
  exact ⟨zDd g1,zDd g2⟩
theorem zHc {x:zn} (h:InR zm x):zkI x:=by
  obtain ⟨-,-,-,-,-,-,h7,h8,h9,-⟩:=h
  exact ⟨wf_u64 h7,wf_u64 h8,wf_u64 h9⟩
theorem zHd {x:zF} (h:InR zt x):zsk x:=by
  obtain ⟨-,-,-,-,-,-,-,h8,h9,-⟩:=h
  exact ⟨wf_u64 h8,wf_u64 h9⟩
theorem stateIn {s:zb} (h:InR zu s):zP s:=by
  obtain ⟨-,h2,-,h4,h5,-⟩:=h
  exact ⟨fun x hx=>zHb (h2.2 x hx),fun x hx=>zHc (h4.2 x hx),fun x hx=>zHd (h5.2 x hx)⟩
theorem capsIn {r:ze} (h:InR zy r):zfV r:=by
  obtain ⟨-,-,-,-,h5,-⟩:=h
  intro q hq
  have h3:(Lit.int .u64 q.2.2.2.2.2.1).wf = true:=(h5.2 q hq).2.2.2.2.2.1
  exact wf_u64 h3
theorem deedIn {x:zag} (h:InR qW x):qa x.2.2.2.2.1:=by
  obtain ⟨-,-,-,-,h5,-⟩:=h
  exact wf_u64 h5
end Go.Proofs.YtokcjmkikhgkeaaGreatDoor
end
section
namespace Go.Proofs.YtokcjmkikhgkeaaGreatDoor
open Go.Ev
structure zky (x y:zg):Prop where
  rooms:y.1 = x.1
  exits:y.2.1 = x.2.1
  items:y.2.2.1 = x.2.2.1
  mails:y.2.2.2.1 = x.2.2.2.1
  trades:y.2.2.2.2.1 = x.2.2.2.2.1
  purses:y.2.2.2.2.2.1.length = x.2.2.2.2.2.1.length
  places:y.2.2.2.2.2.2.1 = x.2.2.2.2.2.2.1
theorem zpg {s:zb} {i:Int} {h:zg} (hi:0 ≤ i ∧ i < (s.2.1.length:Int)) (k:Nat):(upd s i h).2.1.getD k za = if i.toNat = k then h else s.2.1.getD k za:=by
  by_cases hk:i.toNat = k
  · rw [if_pos hk,← hk]; exact zdX (by omega)
  · rw [if_neg hk]; exact getD_set_ne hk
theorem zso (s:zb) (i:Int) (h:zg):(upd s i h).2.1.length = s.2.1.length:=List.length_set ..
theorem zFK {s:zb} {i:Int} {h:zg} (hi:0 ≤ i ∧ i < (s.2.1.length:Int)) (al:zky (ix za s.2.1 i) h) (k:Nat):((upd s i h).2.1.getD k za).1 = (s.2.1.getD k za).1:=by
  rw [zpg hi]
  split
  · rename_i e; subst e; exact al.rooms
  · rfl
theorem zye {s:zb} {i:Int} {h:zg} (hi:0 ≤ i ∧ i < (s.2.1.length:Int)) (al:zky (ix za s.2.1 i) h):zlF (upd s i h) = zlF s:=by
  funext x
  unfold zlF
  rw [zFK hi al,zso]
theorem zrO {r:ze} {s:zb} {i:Int} {h:zg} (hi:0 ≤ i ∧ i < (s.2.1.length:Int)) (al:zky (ix za s.2.1 i) h):zfU r (upd s i h) = zfU r s:=by
  funext j x
  unfold zfU
  rw [zye hi al]
theorem zEr {r:ze} {s:zb} {i:Int} {h:zg} (hi:0 ≤ i ∧ i < (s.2.1.length:Int)) (al:zky (ix za s.2.1 i) h):zhX r (upd s i h) = zhX r s:=by
  funext j x
  have e1:zeJ r (upd s i h) = zeJ r s:=by funext a b; unfold zeJ; rw [zrO hi al]
  have e2:zeK r (upd s i h) = zeK r s:=by funext a b; unfold zeK; rw [zrO hi al]
  unfold zhX
  rw [e1,e2,zrO hi al]
theorem zBE {r:ze} {s:zb} {i:Int} {x y:zg} (al:zky x y):zhY r s i y = zhY r s i x:=by
  unfold zhY zhX zdV zlI zlH zeL
  rw [al.exits,al.items,al.places,al.mails,al.trades]
theorem zCQ {x y:zg} (al:zky x y):vW y = vW x:=by
  unfold vW
  rw [al.rooms,al.exits,al.items,al.mails,al.trades]
theorem zEs {r:ze} {x y:zg} {q:zah} (al:zky x y):zeI r y q = zeI r x q:=by
  unfold zeI
  rw [al.rooms,al.exits,al.items,al.mails,al.trades,al.places,al.purses]
structure zol (r:ze) (s:zb):Prop where
  realm:qg r = true
  sizes:zfT r s = true
  pub:zc4 r s = true
  shelf:∀ i,i < s.2.1.length→(vW (s.2.1.getD i za) && zhY r s i (s.2.1.getD i za)) = true
def zph (r:ze) (s:zb):Prop:=∀ i,i < s.2.1.length→∀ c,c < 4→zh0 r s c i = true
def zDe (s:zb):Prop:=∀ c:Nat,c < 4→zeM s c = true
theorem zgV {r:ze} {s:zb}:z6 r s = true ↔ zol r s ∧ zph r s ∧ zDe s:=by
  unfold z6 zph zDe
  simp only [Bool.and_eq_true,vc]
  constructor
  · rintro ⟨h1,h2,h3,h4,h5⟩
    exact ⟨⟨h1,h2,h3,fun i hi=>by have:=(h4 i (Nat.zero_le _) (by omega)).1; simp only [Bool.and_eq_true]; exact this⟩,fun i hi c hc=>(h4 i (Nat.zero_le _) (by omega)).2 c (Nat.zero_le _) (by omega),fun c hc=>h5 c (Nat.zero_le _) (by omega)⟩
  · rintro ⟨h1,h2,h3⟩
    exact ⟨h1.realm,h1.sizes,h1.pub,fun i _ hi=>⟨by have:=h1.shelf i (by omega); simp only [Bool.and_eq_true] at this; exact this,fun c _ hc=>h2 i (by omega) c (by omega)⟩,fun c _ hc=>h3 c (by omega)⟩
theorem zrP {r:ze} {s:zb} {i:Int} {h:zg} (hi:0 ≤ i ∧ i < (s.2.1.length:Int)) (al:zky (ix za s.2.1 i) h) (p:zol r s):zol r (upd s i h):=by
  have hs:=p.sizes
  have hp:=p.pub
  refine ⟨p.realm,?_,?_,fun k hk=>?_⟩
  · unfold zfT at hs ⊢
    simp only [Bool.and_eq_true,decide_eq_true_eq,vc] at hs ⊢
    rw [zso]
    refine ⟨hs.1,hs.2.1,fun k hk1 hk2=>?_⟩
    rw [zpg hi]
    split
    · rename_i e; subst e
      rw [zEs al]
      exact hs.2.2 _ hk1 hk2
    · exact hs.2.2 _ hk1 hk2
  · unfold zc4 at hp ⊢
    have e1:ziJ r (upd s i h) = ziJ r s:=rfl
    have e2:ziK r (upd s i h) = ziK r s:=rfl
    rw [zye hi al,e1,e2]
    exact hp
  · rw [zso] at hk
    have:=p.shelf k hk
    have e:zhY r (upd s i h) = zhY r s:=by funext a b; unfold zhY; rw [zEr hi al]
    rw [e,zpg hi]
    split
    · rename_i e'; subst e'
      rw [zCQ al,zBE al]
      exact this
    · exact this
theorem zuN {r:ze} {s:zb} {i:Int} {h:zg} (hi:0 ≤ i ∧ i < (s.2.1.length:Int)) (hm:∀ c,c < 4→h.2.2.2.2.2.2.2.1.getD c 0 ≤ (r.2.2.2.2.1.getD i.toNat qC).2.2.2.2.2.1) (p:zph r s):zph r (upd s i h):=by
  intro k hk c hc
  rw [zso] at hk
  have:=p k hk c hc
  unfold zh0 at this ⊢
  rw [zpg hi]
  split
  · rename_i e; subst e
    simp only [Bool.not_eq_true',decide_eq_false_iff_not]
    exact Int.not_lt.2 (hm c hc)
  · exact this
theorem zuO {r:ze} {s:zb} {i:Int} (hi:0 ≤ i ∧ i < (s.2.1.length:Int)) (p:zph r s):∀ c,c < 4→(ix za s.2.1 i).2.2.2.2.2.2.2.1.getD c 0 ≤ (r.2.2.2.2.1.getD i.toNat qC).2.2.2.2.2.1:=by
  intro c hc
  have:=p i.toNat (by omega) c hc
  simp only [zh0,Bool.not_eq_true',decide_eq_false_iff_not] at this
  exact Int.not_lt.1 this
theorem zpi {α:Type} (f:α→Int) (d:α):∀ (l:List α) (i:Nat) (x:α),i < l.length→zD ((List.set l i x).map f) = zD (l.map f) - f (l.getD i d) + f x
  | [],_,_,h=>by cases h
  | y :: l,0,x,_=>by
    show f x + zD (l.map f) = f y + zD (l.map f) - f y + f x
    omega
  | y :: l,i + 1,x,h=>by
    have:=zpi f d l i x (by simpa using h)
    show f y + zD ((List.set l i x).map f) = f y + zD (l.map f) - f (l.getD i d) + f x
    omega
structure zEt (x:zg):Prop where
  purses:∀ a ∈ x.2.2.2.2.2.1,a.length = 4
  made:x.2.2.2.2.2.2.2.1.length = 4
  spent:x.2.2.2.2.2.2.2.2.1.length = 4
def y6 (s:zb):Prop:=∀ x ∈ s.2.1,zEt x
theorem zuP {s:zb} {i:Int} {h:zg} (hi:0 ≤ i ∧ i < (s.2.1.length:Int)) (k:Int):zD ((upd s i h).2.1.map (zM k)) = zD (s.2.1.map (zM k)) - zM k (ix za s.2.1 i) + zM k h:=zpi _ za _ _ _ (by omega)
theorem ziN {f:zg→List Int} {s:zb} {i:Int} {h:zg} (hi:0 ≤ i ∧ i < (s.2.1.length:Int)) (k:Int):qT f (upd s i h) k = qT f s k - je k (f (ix za s.2.1 i)) + je k (f h):=zpi (fun x=>je k (f x)) za _ _ _ (by omega)
theorem zrQ {row:List Int} {c k v:Int} (hc:zJ c = true) (hk:zJ k = true) (h4:row.length = 4):je k (List.set row c.toNat v) = if k = c then v else je k row:=by
  have hc4:=yS hc
  have hk4:=yS hk
  unfold je
  by_cases e:k = c
  · subst e; rw [if_pos rfl]; exact zdX (by omega)
  · rw [if_neg e]; exact getD_set_ne (by omega)
theorem zBF {s:zb} (h4:y6 s) {i w:Int} (a:At s i w):(jh s i w).length = 4:=(h4 _ (qA a.hi)).purses _ (z8 (by have:=a.hw; omega))
theorem zrR {s:zb} (h4:y6 s) {i w c v k:Int} (a:At s i w) (hc:zJ c = true) (hk:zJ k = true):zD ((va s i w c v).2.1.map (zM k)) = zD (s.2.1.map (zM k)) - zz s i w k + (if k = c then v else zz s i w k):=by
  rw [zuP a.hi]
  have h1:=zpi (je k) (zf (.arr 4 tU)) (ix za s.2.1 i).2.2.2.2.2.1 w.toNat (List.set (jh s i w) c.toNat v) (by have:=a.hw; omega)
  rw [zrQ hc hk (zBF h4 a)] at h1
  have e1:zM k (u5 (ix za s.2.1 i) (List.set (ix za s.2.1 i).2.2.2.2.2.1 w.toNat (List.set (jh s i w) c.toNat v))) = zD ((ix za s.2.1 i).2.2.2.2.1.map (zb9 k)) + zD ((List.set (ix za s.2.1 i).2.2.2.2.2.1 w.toNat (List.set (jh s i w) c.toNat v)).map (je k)):=rfl
  have e2:zM k (ix za s.2.1 i) = zD ((ix za s.2.1 i).2.2.2.2.1.map (zb9 k)) + zD ((ix za s.2.1 i).2.2.2.2.2.1.map (je k)):=rfl
  rw [e1,e2,h1]
  have e3:je k (jh s i w) = zz s i w k:=rfl
  rw [e3]
  omega
theorem zkz {s:zb} (h4:y6 s) {i w c v:Int} (a:At s i w):y6 (va s i w c v):=by
  intro x hx
  rcases List.mem_or_eq_of_mem_set hx with hx | rfl
  · exact h4 x hx
  · have h:=h4 _ (qA a.hi)
    refine ⟨fun y hy=>?_,h.made,h.spent⟩
    rcases List.mem_or_eq_of_mem_set hy with hy | rfl
    · exact h.purses y hy
    · rw [List.length_set]; exact zBF h4 a
theorem zEu (x:zg) (l:List (List Int)) (h:l.length = x.2.2.2.2.2.1.length):zky x (u5 x l):=⟨rfl,rfl,rfl,rfl,rfl,h,rfl⟩
theorem zkA {r:ze} {s:zb} {i w c v:Int} (a:At s i w) (p:zol r s):zol r (va s i w c v):=zrP a.hi (zEu _ _ (List.length_set ..)) p
theorem zjy {r:ze} {s:zb} {i w c v:Int} (a:At s i w) (p:zph r s):zph r (va s i w c v):=zuN a.hi (zuO a.hi p) p
theorem zyf {s:zb} {i w c v k:Int} (a:At s i w):zgc (va s i w c v) k = zgc s k:=by
  have e1:qT (fun x=>x.2.2.2.2.2.2.2.1) (va s i w c v) k = qT (fun x=>x.2.2.2.2.2.2.2.1) s k:=by
    rw [ziN a.hi]; exact Int.sub_add_cancel _ _
  have e2:qT (fun x=>x.2.2.2.2.2.2.2.2.1) (va s i w c v) k = qT (fun x=>x.2.2.2.2.2.2.2.2.1) s k:=by
    rw [ziN a.hi]; exact Int.sub_add_cancel _ _
  unfold zgc
  rw [e1,e2]
theorem zFL {r:ze} {s:zb} (h:z6 r s = true) (h4:y6 s) {i w j v c n:Int} (a:At s i w) (b:At s j v) (hne:¬ (i = j ∧ w = v)) (hc:zJ c = true):z6 r (va (va s i w c (zz s i w c - n)) j v c (zz (va s i w c (zz s i w c - n)) j v c + n)) = true:=by
  obtain ⟨p1,p2,p3⟩:=zgV.1 h
  have b':At (va s i w c (zz s i w c - n)) j v:=zdY a.hi b
  refine zgV.2 ⟨zkA b' (zkA a p1),zjy b' (zjy a p2),fun k hk=>?_⟩
  have hkk:zJ (k:Int) = true:=by simp only [zJ,decide_eq_true_eq]; omega
  have h5:=p3 k hk
  have e1:=zrR (zkz (c:=c) (v:=zz s i w c - n) h4 a) (v:=zz (va s i w c (zz s i w c - n)) j v c + n) b' hc hkk
  rw [zrR h4 a hc hkk] at e1
  have e2:zdC (va (va s i w c (zz s i w c - n)) j v c (zz (va s i w c (zz s i w c - n)) j v c + n)) (k:Int) = zdC s (k:Int):=by
    unfold zdC
    rw [e1]
    have e3:(va (va s i w c (zz s i w c - n)) j v c (zz (va s i w c (zz s i w c - n)) j v c + n)).2.2.2.1 = s.2.2.2.1:=rfl
    rw [e3]
    congr 2
    by_cases ek:(k:Int) = c
    · rw [if_pos ek,if_pos ek,ek]; omega
    · rw [if_neg ek,if_neg ek]; omega
  unfold zeM at h5 ⊢
  rw [e2,zyf b',zyf a]
  exact h5
end Go.Proofs.YtokcjmkikhgkeaaGreatDoor
end
section
namespace Go.Proofs.YtokcjmkikhgkeaaGreatDoor
open Go.Ev
theorem zkL {r:ze} {s:zb} (h:z6 r s = true):zjU s:=by
  obtain ⟨hb,hz,hp⟩:=jm h
  have ok:=jG hb
  have sz:=zc7 hb hz
  have h1:=ok.labels
  have h2:=ok.lines
  have h3:=ok.accounts
  have h4:=sz.shelves
  have h5:=sz.orders
  have h6:=sz.entries
  have h7:=sz.people
  have h8:=ok.guilds
  have hh:zhV r s.2.2.1 = true:=by simp only [zc4,Bool.and_eq_true] at hp; exact hp.1
  have hr:=zuK hh
  refine ⟨by omega,by omega,by omega,by omega,by omega,fun x hx=>?_,fun l hl=>?_⟩
  · have:=sz.shelf x hx
    exact ⟨by omega,by omega,by omega,by omega,by omega,by omega,by omega⟩
  · obtain ⟨i,hi,rfl⟩:=List.mem_iff_getElem.1 hl
    have:=hr.2 i (by omega)
    rw [List.getD_eq_getElem?_getD,List.getElem?_eq_getElem hi] at this
    have this:(s.2.2.1[i]).length = _:=this
    omega
theorem zHN {r:ze} {s:zb} (hr:z3 r) (hs:zP s) {me:pMe} {i w c n:Int} (hn:qa n):vT (r,s,me,i,w,c,n,()) = some (bif vB r s me c n then (bif jy r w && vg r i then zi8 r s me i w c n else zaz 1) else zaz 1):=by
  cases h:vB r s me c n with
  | true =>
    have:=zHL hr hs (zkL (zfb h).rs) (me:=me) (i:=i) (w:=w) (c:=c) hn
    rw [h] at this; exact this
  | false =>
    simp only [vT]
    refine (bnd (zaG hr hs me c n)).trans ?_
    rw [h]; rfl
theorem zsp {s:zb} (hs:zP s) {i w c v:Int} (a:At s i w) (hv:qa v):zP (va s i w c v):=by
  refine ⟨fun x hx=>?_,hs.orders,hs.entries⟩
  rcases List.mem_or_eq_of_mem_set hx with hx | rfl
  · exact hs.shelves x hx
  · have h:=hs.shelves _ (qA a.hi)
    refine ⟨h.trades,fun y hy=>?_,h.made,h.spent⟩
    rcases List.mem_or_eq_of_mem_set hy with hy | rfl
    · exact h.purses y hy
    · intro z hz
      rcases List.mem_or_eq_of_mem_set hz with hz | rfl
      · exact h.purses _ (z8 (by have:=a.hw; omega)) z hz
      · exact hv
theorem foursIn {s:zb} (h:InR zu s):y6 s:=by
  obtain ⟨-,h2,-⟩:=h
  intro x hx
  obtain ⟨-,-,-,-,-,h6,-,h8,h9,-⟩:=h2.2 x hx
  exact ⟨fun a ha=>(h6.2 a ha).1,h8.1,h9.1⟩
end Go.Proofs.YtokcjmkikhgkeaaGreatDoor
end
section
namespace Go.Proofs.YtokcjmkikhgkeaaGreatDoor
open Go.Ev
abbrev vy (x:zg):List Int:=x.2.2.2.2.2.2.2.1
abbrev qh (x:zg):List Int:=x.2.2.2.2.2.2.2.2.1
def qo (s:zb) (c:Int):Int:=zD (s.2.2.2.1.map (qX c)) + zD (s.2.1.map (zM c))
theorem zh3 {s:zb} {k:Int} (hk:zJ k = true):zeM s k = true ↔ qo s k ≤ M62 ∧ qT vy s k ≤ M62 ∧ qT qh s k ≤ M62 ∧ ¬ qT vy s k < qT qh s k ∧ qo s k = qT vy s k - qT qh s k:=by
  unfold zeM zdC zgc zjx
  rw [hk]
  simp only [cond_true]
  show ((zhZ (qo s k)).2.1 == 0 && _) = true ↔ _
  by_cases h1:qo s k > M62
  · show ((zhZ (qo s k)).2.1 == 0 && _) = true ↔ _
    rw [zdW h1]
    constructor
    · intro h; cases h
    · intro h; omega
  · have e1:zhZ (zD (s.2.2.2.1.map (qX k)) + zD (s.2.1.map (zM k))) = (qo s k,0,()):=zfa (n:=qo s k) (by omega)
    rw [e1,zfa (n:=qo s k) (by omega)]
    generalize qo s k = H at *
    generalize qT vy s k = A at *
    generalize qT qh s k = B at *
    by_cases h2:A > M62
    · rw [decide_eq_true h2]
      constructor
      · intro h; cases h
      · intro h; omega
    · rw [decide_eq_false h2]
      by_cases h3:B > M62
      · rw [decide_eq_true h3]
        constructor
        · intro h; cases h
        · intro h; omega
      · rw [decide_eq_false h3]
        by_cases h4:A < B
        · rw [decide_eq_true h4]
          constructor
          · intro h; cases h
          · intro h; omega
        · rw [decide_eq_false h4]
          simp only [cond_false,beq_self_eq_true,Bool.true_and,beq_iff_eq]
          constructor
          · intro h; exact ⟨by omega,by omega,by omega,by omega,h⟩
          · intro h; exact h.2.2.2.2
theorem zFM {s:zb} (hs:zP s) {i:Int} {h:zg} (hh:ziI h):zP (upd s i h):=by
  refine ⟨fun x hx=>?_,hs.orders,hs.entries⟩
  rcases List.mem_or_eq_of_mem_set hx with hx | rfl
  · exact hs.shelves x hx
  · exact hh
theorem zyg {a:List Int} (h:zkv a) {k:Nat} {v:Int} (hv:qa v):zkv (List.set a k v):=by
  intro z hz
  rcases List.mem_or_eq_of_mem_set hz with hz | rfl
  · exact h z hz
  · exact hv
theorem zh4 {s:zb} (h4:y6 s) {i w c v k:Int} (a:At s i w) (hc:zJ c = true) (hk:zJ k = true):qo (va s i w c v) k = qo s k - zz s i w k + (if k = c then v else zz s i w k):=by
  have:=zrR h4 (v:=v) a hc hk
  unfold qo
  show zD (s.2.2.2.1.map (qX k)) + _ = _
  rw [this]; omega
theorem zpj {f:zg→List Int} {s:zb} {i w c v k:Int} (a:At s i w) (hf:∀ (x:zg) (l:List (List Int)),f (u5 x l) = f x):qT f (va s i w c v) k = qT f s k:=by
  rw [ziN a.hi]
  show qT f s k - je k (f (ix za s.2.1 i)) + je k (f (u5 (ix za s.2.1 i) (List.set (ix za s.2.1 i).2.2.2.2.2.1 (Int.toNat w) (List.set (jh s i w) (Int.toNat c) v)))) = _
  have e:=hf (ix za s.2.1 i) (List.set (ix za s.2.1 i).2.2.2.2.2.1 (Int.toNat w) (List.set (jh s i w) (Int.toNat c) v))
  exact (congrArg (fun z=>qT f s k - je k (f (ix za s.2.1 i)) + je k z) e).trans (Int.sub_add_cancel _ _)
theorem zFN {s:zb} (hs:zP s) {i w c:Int} (a:At s i w):zz s i w c ≤ qo s c:=by
  have h2:=zkx hs c
  have h3:=zpe hs (c:=c) a.hi
  have h4:zz s i w c ≤ zM c (ix za s.2.1 i):=zlM (hs.shelves _ (qA a.hi)) (c:=c) a.hw
  unfold qo; omega
theorem zGz {r:ze} {s:zb} (h:z6 r s = true) (hq:zfV r) {i c n:Int} (hc:zJ c = true) (hi:0 ≤ i ∧ i < (s.2.1.length:Int)) (hn:qH s i c + n ≤ y5 r i):qT vy s c + n ≤ M62:=by
  obtain ⟨hb,hz,-⟩:=jm h
  have ok:=jG hb
  have sz:=zc7 hb hz
  have hl:=ok.quotas
  have hsl:=sz.shelves
  have hcaps:zD (r.2.2.2.2.1.map fun q=>q.2.2.2.2.2.1) ≤ M62:=by
    have hb':=hb
    simp only [qg,ze8,Bool.and_eq_true,decide_eq_true_eq] at hb'
    obtain ⟨-,-,-,-,⟨-,h6,-,h7⟩,-⟩:=hb'
    rcases zrL (by unfold U64; omega) hq h7 with h8 | h8
    · exact h8
    · rw [h8] at h6; cases h6
  have h6:=znm (a:=s.2.1.map fun x=>je c (vy x)) (b:=r.2.2.2.2.1.map fun q=>q.2.2.2.2.2.1) (i:=i.toNat) (n:=n) (by rw [List.length_map,List.length_map]; omega) (by rw [List.length_map]; omega) (fun j hj=>by
    rw [List.length_map] at hj
    rw [jS za hj,jS qC (by omega)]
    have:=zBB h hc (i:=(j:Int)) (by omega)
    exact this) (by
    rw [jS za (by omega),jS qC (by omega)]
    exact hn)
  have h7:qT vy s c + n ≤ zD (r.2.2.2.2.1.map fun q=>q.2.2.2.2.2.1):=h6
  omega
theorem zEv {r:ze} {s:zb} {me:pMe} {c n:Int} (h:z6 r s = true) (hs:zP s) (h4:y6 s) (hq:zfV r) (im:zbi r me = true) (hc:zJ c = true) (hn:0 < n) (hle:qH s me.2.1 c + n ≤ y5 r me.2.1) :
    z6 r (zpf (vz s me c n) me.2.1 me.2.2.1 c n).1 = true ∧ ∀ k,zJ k = true→qo (zpf (vz s me c n) me.2.1 me.2.2.1 c n).1 k = qo s k + if k = c then n else 0:=by
  obtain ⟨p1,p2,p3⟩:=zgV.1 h
  have a:=zej h im
  have hc4:=yS hc
  have f4:=h4 _ (qA a.hi)
  have b:At (vz s me c n) me.2.1 me.2.2.1:=zoj a.hi rfl a
  have m4:y6 (vz s me c n):=by
    intro x hx
    rcases List.mem_or_eq_of_mem_set hx with hx | rfl
    · exact h4 x hx
    · exact ⟨f4.purses,by show (List.set _ _ _).length = 4; rw [List.length_set]; exact f4.made,f4.spent⟩
  have ec:∀ k,zz (vz s me c n) me.2.1 me.2.2.1 k = zz s me.2.1 me.2.2.1 k:=fun k=>by
    show List.getD (List.getD (ix za (upd s me.2.1 _).2.1 me.2.1).2.2.2.2.2.1 _ _) _ _ = _
    rw [zoi a.hi]
  have eH:∀ k,qo (vz s me c n) k = qo s k:=fun k=>by
    unfold qo
    rw [zuP a.hi]
    exact congrArg (fun z=>zD (s.2.2.2.1.map (qX k)) + z) (Int.sub_add_cancel _ _)
  have hH:∀ k,zJ k = true→qo (zpf (vz s me c n) me.2.1 me.2.2.1 c n).1 k = qo s k + if k = c then n else 0:=fun k hk=>by
    refine (zh4 m4 b hc hk).trans ?_
    rw [eH,ec,ec]
    by_cases e:k = c
    · simp only [if_pos e]; rw [e]; omega
    · simp only [if_neg e]; omega
  refine ⟨zgV.2 ⟨zkA b (zrP a.hi ⟨rfl,rfl,rfl,rfl,rfl,rfl,rfl⟩ p1),zjy b (zuN a.hi (fun c' hc'=>?_) p2),fun k hk=>?_⟩,hH⟩
  · show (List.set (vy (ix za s.2.1 me.2.1)) c.toNat (qH s me.2.1 c + n)).getD c' 0 ≤ _
    by_cases e:c.toNat = c'
    · rw [← e,zdX (by have:(vy (ix za s.2.1 me.2.1)).length = 4:=f4.made; omega)]; exact hle
    · rw [getD_set_ne e]; exact zuO a.hi p2 c' hc'
  · have hkk:zJ (k:Int) = true:=by simp only [zJ,decide_eq_true_eq]; omega
    have h5:=(zh3 hkk).1 (p3 k hk)
    have eA:qT vy (zpf (vz s me c n) me.2.1 me.2.2.1 c n).1 (k:Int) = qT vy s (k:Int) + if (k:Int) = c then n else 0:=by
      refine (zpj b (fun _ _=>rfl)).trans ?_
      rw [ziN a.hi]
      show qT vy s k - je k (vy (ix za s.2.1 me.2.1)) + je k (List.set (vy (ix za s.2.1 me.2.1)) c.toNat (qH s me.2.1 c + n)) = _
      rw [zrQ (row:=vy (ix za s.2.1 me.2.1)) hc hkk f4.made]
      by_cases e:(k:Int) = c
      · simp only [if_pos e]; rw [e]
        show _ - qH s me.2.1 c + _ = _
        omega
      · simp only [if_neg e]; omega
    have eB:qT qh (zpf (vz s me c n) me.2.1 me.2.2.1 c n).1 (k:Int) = qT qh s (k:Int):=by
      refine (zpj b (fun _ _=>rfl)).trans ?_
      rw [ziN a.hi]; exact Int.sub_add_cancel _ _
    refine (zh3 hkk).2 ?_
    rw [hH _ hkk,eA,eB]
    by_cases e:(k:Int) = c
    · have:=zGz h hq hc a.hi hle
      have hB:=zpd (f:=qh) (fun x hx=>(hs.shelves x hx).spent) c
      simp only [if_pos e]
      rw [e] at h5 ⊢
      omega
    · simp only [if_neg e]; omega
theorem zEw {r:ze} {s:zb} {me:pMe} {c n:Int} (h:z6 r s = true) (hs:zP s) (h4:y6 s) (im:zbi r me = true) (hc:zJ c = true) (hn:0 < n) (hge:¬ zz s me.2.1 me.2.2.1 c < n) :
    z6 r (upd (qt s me c n) me.2.1 (u8 (ix za (qt s me c n).2.1 me.2.1) (List.set (qh (ix za (qt s me c n).2.1 me.2.1)) c.toNat (wU (List.getD (qh (ix za (qt s me c n).2.1 me.2.1)) c.toNat (0:Int) + n))))) = true ∧ ∀ k,zJ k = true→qo (upd (qt s me c n) me.2.1 (u8 (ix za (qt s me c n).2.1 me.2.1) (List.set (qh (ix za (qt s me c n).2.1 me.2.1)) c.toNat (wU (List.getD (qh (ix za (qt s me c n).2.1 me.2.1)) c.toNat (0:Int) + n))))) k = qo s k - if k = c then n else 0:=by
  obtain ⟨p1,p2,p3⟩:=zgV.1 h
  have a:=zej h im
  have hc4:=yS hc
  have f4:=h4 _ (qA a.hi)
  have b:At (qt s me c n) me.2.1 me.2.2.1:=zdY a.hi a
  have ei:qh (ix za (qt s me c n).2.1 me.2.1) = qh (ix za s.2.1 me.2.1):=by rw [zoi a.hi]
  have hco:=zkK h hs hc a
  have hch:=zFN hs (c:=c) a
  have hbu:qa (List.getD (qh (ix za s.2.1 me.2.1)) c.toNat (0:Int)):=za7 (hs.shelves _ (qA a.hi)).spent _
  have h5c:=(zh3 (k:=c) hc).1 (by
    obtain ⟨k,e,hk⟩:=zBA hc
    rw [e]; exact p3 k hk)
  have hbl:List.getD (qh (ix za s.2.1 me.2.1)) c.toNat (0:Int) ≤ qT qh s c:=by
    have h1:=ziL (l:=s.2.1.map fun x=>je c (qh x)) (i:=me.2.1.toNat) (fun y hy=>by
      obtain ⟨q,hq,rfl⟩:=List.mem_map.1 hy
      exact (za7 (hs.shelves q hq).spent _).1) (by rw [List.length_map]; have:=a.hi; omega)
    rw [jS za (by have:=a.hi; omega)] at h1
    exact h1
  have hw:wU (List.getD (qh (ix za s.2.1 me.2.1)) c.toNat (0:Int) + n) = List.getD (qh (ix za s.2.1 me.2.1)) c.toNat (0:Int) + n:=zo7 (by have:=hbu.1; unfold M62 at *; omega)
  rw [ei,hw]
  have hH:∀ k,zJ k = true→qo (upd (qt s me c n) me.2.1 (u8 (ix za (qt s me c n).2.1 me.2.1) (List.set (qh (ix za s.2.1 me.2.1)) c.toNat (List.getD (qh (ix za s.2.1 me.2.1)) c.toNat (0:Int) + n)))) k = qo s k - if k = c then n else 0:=fun k hk=>by
    have e1:=zh4 (v:=zz s me.2.1 me.2.2.1 c - n) h4 a hc hk
    have e2:qo (upd (qt s me c n) me.2.1 (u8 (ix za (qt s me c n).2.1 me.2.1) (List.set (qh (ix za s.2.1 me.2.1)) c.toNat (List.getD (qh (ix za s.2.1 me.2.1)) c.toNat (0:Int) + n)))) k = qo (qt s me c n) k:=by
      unfold qo
      rw [zuP b.hi]
      exact congrArg (fun z=>zD (s.2.2.2.1.map (qX k)) + z) (Int.sub_add_cancel _ _)
    rw [e2,e1]
    by_cases e:k = c
    · simp only [if_pos e]; rw [e]; omega
    · simp only [if_neg e]; omega
  refine ⟨zgV.2 ⟨zrP b.hi ⟨rfl,rfl,rfl,rfl,rfl,rfl,rfl⟩ (zkA a p1),zuN b.hi (zuO b.hi (zjy a p2)) (zjy a p2),fun k hk=>?_⟩,hH⟩
  have hkk:zJ (k:Int) = true:=by simp only [zJ,decide_eq_true_eq]; omega
  have h5:=(zh3 hkk).1 (p3 k hk)
  refine (zh3 hkk).2 ?_
  have eA:qT vy (upd (qt s me c n) me.2.1 (u8 (ix za (qt s me c n).2.1 me.2.1) (List.set (qh (ix za s.2.1 me.2.1)) c.toNat (List.getD (qh (ix za s.2.1 me.2.1)) c.toNat (0:Int) + n)))) (k:Int) = qT vy s (k:Int):=by
    rw [ziN b.hi]
    refine Eq.trans (Int.sub_add_cancel _ _) ?_
    exact zpj a (fun _ _=>rfl)
  have eB:qT qh (upd (qt s me c n) me.2.1 (u8 (ix za (qt s me c n).2.1 me.2.1) (List.set (qh (ix za s.2.1 me.2.1)) c.toNat (List.getD (qh (ix za s.2.1 me.2.1)) c.toNat (0:Int) + n)))) (k:Int) = qT qh s (k:Int) + if (k:Int) = c then n else 0:=by
    rw [ziN b.hi,zpj a (fun _ _=>rfl),ei]
    show qT qh s k - je k (qh (ix za s.2.1 me.2.1)) + je k (List.set (qh (ix za s.2.1 me.2.1)) c.toNat (List.getD (qh (ix za s.2.1 me.2.1)) c.toNat (0:Int) + n)) = _
    rw [zrQ (row:=qh (ix za s.2.1 me.2.1)) hc hkk f4.spent]
    by_cases e:(k:Int) = c
    · simp only [if_pos e]; rw [e]
      show _ - List.getD (qh (ix za s.2.1 me.2.1)) c.toNat (0:Int) + _ = _
      omega
    · simp only [if_neg e]; omega
  rw [hH _ hkk,eA,eB]
  by_cases e:(k:Int) = c
  · simp only [if_pos e]
    rw [e] at h5 ⊢
    omega
  · simp only [if_neg e]; omega
end Go.Proofs.YtokcjmkikhgkeaaGreatDoor
end
section
namespace Go.Proofs.YtokcjmkikhgkeaaGreatDoor
open Go.Ev
theorem zGA {β:Type} {d:β} {n i:Nat} (h:i < n) (o:List β):(o ++ [d]) ++ List.replicate (n - (i + 1)) d = o ++ List.replicate (n - i) d:=by
  rw [List.append_assoc,show n - i = (n - (i + 1)) + 1 by omega,List.replicate_succ]; rfl
theorem zGB {σ β ρ:Type} {B:(σ→Option ρ)→σ→Option ρ} {n:Nat} (hn:n ≤ Go.maxLen) (d:β) (st:Int→List β→σ) (fin:List β→Option ρ) (o0:List β)
    (hin:∀ k (i:Nat) o,i < n→o.length = o0.length + i→B k (st i o) = k (st (wI (i + 1)) (o ++ [d]))) (hout:∀ k o,B k (st n o) = fin o):zl B K0 (st 0 o0) = fin (o0 ++ List.replicate n d):=by
  have:=yV (B:=B) hn st (fun i o=>fin (o ++ List.replicate (n - i) d)) (fun i o=>o.length = o0.length + i) (fun k i o hi hI h=>?_) (fun k o hI=>?_) o0 rfl
  · simpa using this
  · rw [hin k i o hi hI,h _ (by rw [List.length_append,hI]; simp; omega),zGA hi]
  · rw [hout]; simp
abbrev zH0:ByteArray:=ByteArray.mk #[112,108,97,122,97]
def zan (r:ze) (q:zah):zg:=(List.replicate q.1.toNat zsb,List.replicate q.2.1.toNat vH,List.replicate q.2.2.1.toNat zdd,List.replicate q.2.2.2.1.toNat zzu,List.replicate q.2.2.2.2.1.toNat qY,List.replicate r.2.2.1.length [0,0,0,0],List.replicate r.2.2.1.length zH8,[0,0,0,0],[0,0,0,0],())
def zxG (x:zg):zg:=(x.1.set 0 (true,zH0,()),x.2)
def zmR (r:ze) (g:qb):List Int:=(List.replicate r.2.2.1.length 0).set g.2.1.toNat 2
def zGC (r:ze):List zg:=(r.2.2.2.2.1.map (zan r)).set 0 (zxG ((r.2.2.2.2.1.map (zan r)).getD 0 za))
def zeO (r:ze):zb:=(0,zGC r,r.2.2.2.1.map (zmR r),List.replicate r.2.2.2.2.2.1.toNat qr,[],List.replicate r.2.1.length (-1),())
theorem zBG {q:zah} (h:zgR q = true):(0 ≤ q.1 ∧ q.1 ≤ 12) ∧ (0 ≤ q.2.1 ∧ q.2.1 ≤ 12) ∧ (0 ≤ q.2.2.1 ∧ q.2.2.1 ≤ 12) ∧ (0 ≤ q.2.2.2.1 ∧ q.2.2.2.1 ≤ 12) ∧ (0 ≤ q.2.2.2.2.1 ∧ q.2.2.2.2.1 ≤ 12):=by
  simp only [zgR,qf,Bool.and_eq_true,decide_eq_true_eq] at h
  omega
theorem zzl {r:ze} {q:zah} (hq:zgR q = true) (ha:r.2.2.1.length ≤ 8):zf2 (r,q,()) = some (zan r q,()):=by
  simp only [zf2]
  have h:=zBG hq
  have hl:((lim:Nat):Int) = 4294967296:=rfl
  rw [hl]
  have t:∀ {p:Prop} [Decidable p],p→decide p = true:=fun h=>decide_eq_true h
  rw [t (p:=0 ≤ q.1) (by omega),t (p:=q.1 ≤ q.1) (by omega),t (p:=q.1 ≤ 4294967296) (by omega),
    t (p:=0 ≤ q.2.1) (by omega),t (p:=q.2.1 ≤ q.2.1) (by omega),t (p:=q.2.1 ≤ 4294967296) (by omega),
    t (p:=0 ≤ q.2.2.1) (by omega),t (p:=q.2.2.1 ≤ q.2.2.1) (by omega),t (p:=q.2.2.1 ≤ 4294967296) (by omega),
    t (p:=0 ≤ q.2.2.2.1) (by omega),t (p:=q.2.2.2.1 ≤ q.2.2.2.1) (by omega),t (p:=q.2.2.2.1 ≤ 4294967296) (by omega),
    t (p:=0 ≤ q.2.2.2.2.1) (by omega),t (p:=q.2.2.2.2.1 ≤ q.2.2.2.2.1) (by omega),t (p:=q.2.2.2.2.1 ≤ 4294967296) (by omega),
    t (p:=(r.2.2.1.length:Int) ≤ (r.2.2.1.length:Int)) (by omega),t (p:=(r.2.2.1.length:Int) ≤ 4294967296) (by omega),Int.toNat_natCast]
  rfl
theorem zwK {r:ze} (hb:qg r = true):∀ q ∈ r.2.2.2.2.1,zgR q = true:=by
  simp only [qg,ze8,Bool.and_eq_true] at hb
  exact zuH _ _ hb.2.2.2.2.1.2.2.2
theorem zH1 {r:ze} (hb:qg r = true):1 ≤ (r.2.2.2.2.1.getD 0 qC).1:=by
  simp only [qg,ze8,Bool.and_eq_true,decide_eq_true_eq] at hb
  exact hb.2.2.2.2.1.2.2.1
theorem zEx {r:ze} (hr:z3 r) (hb:qg r = true):zkp (r,()) = some (r.2.2.2.1.map (zmR r),()):=by
  have ok:=jG hb
  have ha:=ok.accounts
  have hg:=ok.guilds
  have hl:((lim:Nat):Int) = 4294967296:=rfl
  simp only [zkp,zko,zdQ r hr,Option.bind_some,hb,cond_true]
  exact zay (B:=zeF) (l:=r.2.2.2.1) (α:=List (List Int)) qU (fun i o=>o.length = i) (fun i o=>(r.2.2.2.1,(r.2.2.2.1.length:Int),i,r,o,o.length)) (fun rest o=>some (o ++ rest.map (zmR r),())) (by unfold Go.maxLen; omega) (fun k i x rest o hi hI hx hm hr' hk=>by
    have hh:=ok.heads i hi
    rw [show r.2.2.2.1.getD i qU = x from hx] at hh
    have hx':List.getD r.2.2.2.1 i (zf zaS) = x:=hx
    simp only [zeF]
    rw [ltT hi,zE hi,qw,hx,hl,decide_eq_true (Int.le_refl _),decide_eq_true (p:=(r.2.2.1.length:Int) ≤ 4294967296) (by omega),Int.toNat_natCast]
    simp only [cond_true]
    rw [ixR (by rw [List.length_replicate]; exact hh),zfR (by simp; omega)]
    simp only [cond_true,decide_true]
    have:=hk (o ++ [zmR r x]) (by rw [List.length_append,hI]; rfl)
    rw [List.length_append] at this
    refine Eq.trans this ?_
    simp) (fun k o hI=>by
    simp only [zeF]
    rw [ltF]
    simp) [] rfl
theorem zH2 {r:ze} (ok:zgS r) (o:List zg) (l:List (List Int)) (w:List zn):zdO K0 ((r.2.1.length:Int),0,0,0,[],0,[],0,[],[],[],o,o.length,l,l.length,w,[],[]) = some ((0,o,l,w,[],List.replicate r.2.1.length (-1),()),0,()):=by
  have hl:=ok.lines
  have:=zGB (B:=zdN) (n:=r.2.1.length) (by unfold Go.maxLen; omega) (-1:Int) (fun i (e:List Int)=>((r.2.1.length:Int),i,0,0,[],0,[],0,[],[],[],o,o.length,l,l.length,w,[],e)) (fun e=>some ((0,o,l,w,[],e,()),0,())) [] (fun k i e hi hI=>by
    simp only [zdN]
    rw [ltT hi,zgy,zfR (by simp at hI ⊢; omega)]
    rfl) (fun k e=>by
    simp only [zdN]
    rw [ltF]
    simp only [decide_true]
    rfl)
  exact this
theorem zFO (q:zg):(q.1,q.2.1,q.2.2.1,q.2.2.2.1,q.2.2.2.2.1,q.2.2.2.2.2.1,q.2.2.2.2.2.2.1,q.2.2.2.2.2.2.2.1,q.2.2.2.2.2.2.2.2.1,()) = q:=rfl
theorem ztw {r:ze} (hr:z3 r):zfQ (r,()) = some (bif qg r then (zeO r,0,()) else ((0,[],[],[],[],[],()),1,())):=by
  simp only [zfQ,zi4,zdQ r hr,Option.bind_some]
  cases hb:qg r with
  | false=>rfl
  | true =>
    have ok:=jG hb
    have ha:=ok.accounts
    have hl:=ok.labels
    have hq:=ok.quotas
    have h24:0 ≤ r.2.2.2.2.2.1 ∧ r.2.2.2.2.2.1 ≤ 24:=by
      simp only [qg,zsf,qf,Bool.and_eq_true,decide_eq_true_eq] at hb
      omega
    have hlim:((lim:Nat):Int) = 4294967296:=rfl
    rw [zEx hr hb]
    simp only [Option.bind_some,cond_true]
    rw [hlim,decide_eq_true h24.1,decide_eq_true (Int.le_refl _),decide_eq_true (p:=r.2.2.2.2.2.1 ≤ 4294967296) (by omega)]
    simp only [cond_true]
    have hall:=zwK hb
    have hloop:=zay (B:=fun k0=>zbs (zdO K0) k0) (l:=r.2.2.2.2.1) (α:=List zg) qC (fun i o=>o.length = i)
      (fun i o=>(r.2.2.2.2.1,(r.2.2.2.2.1.length:Int),i,r,0,0,[],0,[],0,[],[],[],o,o.length,r.2.2.2.1.map (zmR r),(r.2.2.2.1.map (zmR r)).length,List.replicate r.2.2.2.2.2.1.toNat qr,[],[]))
      (fun rest o=>bif decide (0 < (o ++ rest.map (zan r)).length) && decide (0 < ((o ++ rest.map (zan r)).getD 0 za).1.length) then some ((0,(o ++ rest.map (zan r)).set 0 (zxG ((o ++ rest.map (zan r)).getD 0 za)),r.2.2.2.1.map (zmR r),List.replicate r.2.2.2.2.2.1.toNat qr,[],List.replicate r.2.1.length (-1),()),0,()) else none)
      (by unfold Go.maxLen; omega) (fun k i x rest o hi hI hx hm hr' hk=>by
        have hx':List.getD r.2.2.2.2.1 i (zf zcJ) = x:=hx
        simp only [zbs]
        rw [ltT hi,zE hi,qw,hx,zzl (hall x hm) ha.2]
        simp only [Option.bind_some,cond_true]
        rw [zFO,zfR (by simp; omega)]
        simp only [cond_true,decide_true]
        have:=hk (o ++ [zan r x]) (by rw [List.length_append,hI]; rfl)
        rw [List.length_append] at this
        refine Eq.trans this ?_
        rw [List.append_assoc]; rfl) (fun k o hI=>by
        have e0:o ++ List.map (zan r) [] = o:=by simp
        rw [e0]
        simp only [zbs]
        rw [ltF,cond_false]
        by_cases h0:0 < o.length
        · have e1:decide (0 < ((List.length o:Nat):Int)) = true:=decide_eq_true (by omega)
          have e2:decide (o.length ≤ Int.toNat 0) = false:=decide_eq_false (by show ¬ o.length ≤ 0; omega)
          rw [e1,e2,decide_eq_true h0,zGj]
          simp only [cond_true,cond_false,Bool.true_and]
          by_cases h1:0 < (o.getD 0 za).1.length
          · have e3:decide (0 < ((List.length (o.getD 0 za).1:Nat):Int)) = true:=decide_eq_true (by omega)
            rw [e3,decide_eq_true h1]
            simp only [cond_true]
            have:=zH2 (r:=r) ok (o.set 0 (zxG (o.getD 0 za))) (r.2.2.2.1.map (zmR r)) (List.replicate r.2.2.2.2.2.1.toNat qr)
            rw [List.length_set] at this
            exact this
          · have e3:decide (0 < ((List.length (o.getD 0 za).1:Nat):Int)) = false:=decide_eq_false (by omega)
            rw [e3,decide_eq_false h1]; rfl
        · have e1:decide (0 < ((List.length o:Nat):Int)) = false:=decide_eq_false (by omega)
          rw [e1,decide_eq_false h0]; rfl) [] rfl
    refine Eq.trans hloop ?_
    have hrm:=zH1 hb
    have hpos:0 < r.2.2.2.2.1.length:=by omega
    have hget:(r.2.2.2.2.1.map (zan r)).getD 0 za = zan r (r.2.2.2.2.1.getD 0 qC):=by
      cases hl:r.2.2.2.2.1 with
      | nil=>rw [hl] at hpos; simp at hpos
      | cons q l=>rfl
    rw [List.nil_append,decide_eq_true (by rw [List.length_map]; exact hpos),decide_eq_true (p:=0 < ((r.2.2.2.2.1.map (zan r)).getD 0 za).1.length) (by rw [hget]; show 0 < (List.replicate _ zsb).length; rw [List.length_replicate]; omega)]
    rfl
end Go.Proofs.YtokcjmkikhgkeaaGreatDoor
end
section
namespace Go.Proofs.YtokcjmkikhgkeaaGreatDoor
open Go.Ev
theorem zCR {a b:zg} (h:zwH a):vY (a,b,()) = some (qK a b,()):=by
  rw [zN]
  simp only [vY]
  rw [zAW h.rooms,zAX h.exits,zAY h.items,zAZ h.mails,zy5 h.trades,zD5 h.purses,zCA h.places]
  simp only [Option.bind_some,qK]
  grind
theorem zsU {a b:List zg} (hl:a.length ≤ Go.maxLen) (h:∀ x ∈ a,zwH x):zdu (a,b,some vY,()) = some (eqW qK a b,()):=zyc (p:=qK) fun hab=>by
  have:=zBy (B:=j6) za qK (fun i=>(b,some vY,a,(a.length:Int),i)) hl hab (fun k i hi=>by
    simp only [j6]
    rw [ltT hi,zE hi,zE (by omega),qw,qw]
    simp only [cond_true,Option.bind_some]
    rw [zCR (h _ (z8 hi))]; rfl) (fin:=true) (fun k=>by simp only [j6]; rw [ltF]; rfl)
  rw [Bool.and_true] at this; exact this
theorem zuQ {a b:List (List Int)} (hl:a.length ≤ Go.maxLen) (h:∀ x ∈ a,x.length ≤ Go.maxLen):zd8 (a,b,some zaJ,()) = some (eqW (eqL tI) a b,()):=zyc (p:=eqL tI) fun hab=>by
  have:=zBy (B:=vt) ([]:List Int) (eqL tI) (fun i=>(b,some zaJ,a,(a.length:Int),i)) hl hab (fun k i hi=>by
    simp only [vt]
    rw [ltT hi,zE hi,zE (by omega),Int.toNat_natCast]
    simp only [cond_true,Option.bind_some]
    rw [ztp (h _ (z8 hi))]; rfl) (fin:=true) (fun k=>by simp only [vt]; rw [ltF]; rfl)
  rw [Bool.and_true] at this; exact this
theorem zBH {a b:zb} (h:zHH a):zhF (a,b,()) = some (zh2 a b,()):=by
  rw [zN]
  simp only [zhF]
  rw [zsU h.shelves h.shelf,zuQ h.ranks h.rank,zy3 h.orders,zy4 h.entries,ztp h.seats]
  simp only [Option.bind_some,zh2]
  generalize eqW qK a.2.1 b.2.1 = c1
  generalize eqW (eqL tI) a.2.2.1 b.2.2.1 = c2
  generalize eqL zm a.2.2.2.1 b.2.2.2.1 = c3
  generalize eqL zt a.2.2.2.2.1 b.2.2.2.2.1 = c4
  generalize eqL tI a.2.2.2.2.2.1 b.2.2.2.2.2.1 = c5
  generalize (a.1 == b.1) = c6
  grind
def zgd {α:Type} (d:α) (p:Nat→Bool) (now fresh:List α) (i:Nat):α:=bif p i then now.getD i d else fresh.getD i d
def qp {α:Type} (d:α) (p:Nat→Bool) (now fresh:List α):List α:=(List.range now.length).map (zgd d p now fresh)
theorem zpk {α:Type} {f:Nat→α} {i:Nat} {o:List α} (h:o = (List.range i).map f):o ++ [f i] = (List.range (i + 1)).map f:=by
  rw [List.range_succ,List.map_append,h]; rfl
theorem zxH {now fresh:List zg} {g:Int × Unit→Option (Bool × Unit)} {p:Nat→Bool} (hl:now.length ≤ 1000) (hf:now.length ≤ fresh.length) (hg:∀ i:Nat,i < now.length→g ((i:Int),()) = some (p i,())):zd6 (now,fresh,some g,()) = some (qp za p now fresh,()) :=
  yV (α:=List zg) (B:=vp) (len:=now.length) (by unfold Go.maxLen; omega) (fun i o=>(now,fresh,some g,(now.length:Int),i,o,0)) (fun _ _=>some (qp za p now fresh,())) (fun i o=>o = (List.range i).map (zgd za p now fresh)) (fun k i o hi hI hk=>by
    have hx:=zpk hI
    have hlen:o.length = i:=by rw [hI]; simp
    have hk':=hk _ hx
    simp only [vp]
    rw [ltT hi]
    simp only [cond_true,Option.bind_some]
    rw [hg i hi]
    simp only [Option.bind_some]
    unfold zgd at hk'
    cases hp:p i with
    | true =>
      rw [hp] at hk'
      simp only [cond_true] at hk' ⊢
      rw [zE hi,zgy,zfR (by simp; omega),qw]
      exact hk'
    | false =>
      rw [hp] at hk'
      simp only [cond_false] at hk' ⊢
      rw [zE (by omega),zgy,zfR (by simp; omega),qw]
      exact hk') (fun k o hI=>by
    simp only [vp]
    rw [ltF]
    simp only [cond_false]
    rw [hI]; rfl) [] rfl
theorem zzm {now fresh:List (List Int)} {g:Int × Unit→Option (Bool × Unit)} {p:Nat→Bool} (hl:now.length ≤ 1000) (hf:now.length ≤ fresh.length) (hg:∀ i:Nat,i < now.length→g ((i:Int),()) = some (p i,())):zex (now,fresh,some g,()) = some (qp [] p now fresh,()) :=
  yV (α:=List (List Int)) (B:=vN) (len:=now.length) (by unfold Go.maxLen; omega) (fun i o=>(now,fresh,some g,(now.length:Int),i,o,0)) (fun _ _=>some (qp [] p now fresh,())) (fun i o=>o = (List.range i).map (zgd [] p now fresh)) (fun k i o hi hI hk=>by
    have hx:=zpk hI
    have hlen:o.length = i:=by rw [hI]; simp
    have hk':=hk _ hx
    simp only [vN]
    rw [ltT hi]
    simp only [cond_true,Option.bind_some]
    rw [hg i hi]
    simp only [Option.bind_some]
    unfold zgd at hk'
    cases hp:p i with
    | true =>
      rw [hp] at hk'
      simp only [cond_true] at hk' ⊢
      rw [zE hi,zgy,zfR (by simp; omega),Int.toNat_natCast]
      exact hk'
    | false =>
      rw [hp] at hk'
      simp only [cond_false] at hk' ⊢
      rw [zE (by omega),zgy,zfR (by simp; omega),Int.toNat_natCast]
      exact hk') (fun k o hI=>by
    simp only [vN]
    rw [ltF]
    simp only [cond_false]
    rw [hI]; rfl) [] rfl
theorem zBI {now fresh:List Int} {g:Int × Unit→Option (Bool × Unit)} {p:Nat→Bool} (hl:now.length ≤ 1000) (hf:now.length ≤ fresh.length) (hg:∀ i:Nat,i < now.length→g ((i:Int),()) = some (p i,())):zfm (now,fresh,some g,()) = some (qp 0 p now fresh,()) :=
  yV (α:=List Int) (B:=ym) (len:=now.length) (by unfold Go.maxLen; omega) (fun i o=>(now,fresh,some g,(now.length:Int),i,o)) (fun _ _=>some (qp 0 p now fresh,())) (fun i o=>o = (List.range i).map (zgd 0 p now fresh)) (fun k i o hi hI hk=>by
    have hx:=zpk hI
    have hlen:o.length = i:=by rw [hI]; simp
    have hk':=hk _ hx
    simp only [ym]
    rw [ltT hi]
    simp only [cond_true,Option.bind_some]
    rw [hg i hi]
    simp only [Option.bind_some]
    unfold zgd at hk'
    cases hp:p i with
    | true =>
      rw [hp] at hk'
      simp only [cond_true] at hk' ⊢
      rw [zE hi,zgy,zfR (by simp; omega),qw]
      exact hk'
    | false =>
      rw [hp] at hk'
      simp only [cond_false] at hk' ⊢
      rw [zE (by omega),zgy,zfR (by simp; omega),qw]
      exact hk') (fun k o hI=>by
    simp only [ym]
    rw [ltF]
    simp only [cond_false]
    rw [hI]; rfl) [] rfl
theorem zEy {α:Type} {d:α} {p:Nat→Bool} {now fresh:List α} {i:Nat} {x:α} (h:p i = false):qp d p (List.set now i x) fresh = qp d p now fresh:=by
  unfold qp
  rw [List.length_set]
  refine List.map_congr_left fun j hj=>?_
  unfold zgd
  by_cases e:i = j
  · subst e; rw [h]; rfl
  · rw [getD_set_ne e]
theorem zca {α:Type} {d:α} {p:Nat→Bool} {now fresh:List α}:(qp d p now fresh).length = now.length:=by
  unfold qp; simp
end Go.Proofs.YtokcjmkikhgkeaaGreatDoor
end
section
namespace Go.Proofs.YtokcjmkikhgkeaaGreatDoor
open Go.Ev
theorem zGD {b:Int} (h:vU b = true):zdR (zo9 b):=by
  simp only [vU,Bool.and_eq_true,decide_eq_true_eq] at h
  have h1:b.toNat < 64:=by omega
  have h2:2 ^ b.toNat < 2 ^ 64:=Nat.pow_lt_pow_right (by omega) h1
  have h3:(2:Nat) ^ 64 = 18446744073709551616:=by decide
  show 0 ≤ ((2 ^ b.toNat:Nat):Int) ∧ ((2 ^ b.toNat:Nat):Int) < ((18446744073709551616:Nat):Int)
  rw [h3] at h2
  exact ⟨Int.natCast_nonneg _,Int.ofNat_lt.2 h2⟩
def zpl (b:Int):zr:=bif vU b then zo9 b else (0,0,())
theorem zEz (b:Int):zdR (zpl b):=by
  unfold zpl
  cases h:vU b with
  | true=>exact zGD h
  | false=>exact ⟨Int.le_refl 0,show (0:Int) < U64 by unfold U64; decide⟩
theorem zBJ {r:ze} {a:zr} (hr:z3 r) (ha:zdR a) {i:Nat} (hi:i < r.1.length):zbp ((i:Int),some r,some a,()) = some (yR (r.1.getD i qz) a,()):=by
  rw [zN]
  simp only [zbp,Option.bind_some]
  rw [zE hi,qw,zfS (hr.labels _ (z8 hi)) ha]
  rfl
theorem zGE {r:ze} {a:zr} (ha:zdR a) {i:Nat} (hi:i < r.2.2.2.1.length):zf4 ((i:Int),some r,some a,()) = some (yR (zpl (r.2.2.2.1.getD i qU).1) a,()):=by
  rw [zN]
  simp only [zf4,Option.bind_some]
  rw [zE hi,qw,zrH]
  simp only [Option.bind_some]
  have e:(bif vU (r.2.2.2.1.getD i qU).1 then (zo9 (r.2.2.2.1.getD i qU).1,(0:Int),()) else ((0,0,()),1,())).1 = zpl (r.2.2.2.1.getD i qU).1:=by
    unfold zpl
    cases vU (r.2.2.2.1.getD i qU).1 <;> rfl
  rw [e,zfS (zEz _) ha]
  rfl
def zlO (r:ze) (i:Nat):Int:=r.2.1.getD i 0
theorem zHe {r:ze} (hb:qg r = true) {i:Nat} (hi:i < r.2.1.length):0 ≤ zlO r i ∧ zlO r i < (r.1.length:Int):=by
  simp only [qg,zlC,Bool.and_eq_true,decide_eq_true_eq,List.all_eq_true] at hb
  exact hb.2.1.2 _ (z8 (d:=(0:Int)) hi)
theorem zGF {r:ze} {a:zr} (hr:z3 r) (hb:qg r = true) (ha:zdR a) {i:Nat} (hi:i < r.2.1.length):zf3 ((i:Int),some (some fun z=>zbp (z.1,some r,some a,())),some r,()) = some (yR (r.1.getD (zlO r i).toNat qz) a,()):=by
  have hl:=zHe hb hi
  rw [zN]
  simp only [zf3,Option.bind_some]
  rw [zE hi,qw]
  have e:r.2.1.getD i 0 = (((zlO r i).toNat:Nat):Int):=by
    show zlO r i = _
    omega
  rw [e,zBJ hr ha (by omega)]
  rfl
def yf (r:ze) (a:zr) (s:zb):zb:=(s.1,qp za (fun i=>yR (r.1.getD i qz) a) s.2.1 (zeO r).2.1,qp [] (fun i=>yR (zpl (r.2.2.2.1.getD i qU).1) a) s.2.2.1 (zeO r).2.2.1,s.2.2.2.1,s.2.2.2.2.1,qp 0 (fun i=>yR (r.1.getD (zlO r i).toNat qz) a) s.2.2.2.2.2.1 (zeO r).2.2.2.2.2.1,())
theorem zkB {α:Type} {d:α} {p:Nat→Bool} {now fresh:List α} (hf:now.length ≤ fresh.length) {x:α} (h:x ∈ qp d p now fresh):x ∈ now ∨ x ∈ fresh:=by
  unfold qp at h
  obtain ⟨i,hi,rfl⟩:=List.mem_map.1 h
  have hi':=List.mem_range.1 hi
  unfold zgd
  cases p i with
  | true=>exact .inl (z8 hi')
  | false=>exact .inr (z8 (by omega))
theorem zBK {r:ze} (hb:qg r = true):zjU (zeO r):=by
  have ok:=jG hb
  have ha:=ok.accounts
  have hg:=ok.guilds
  have hl:=ok.lines
  have ho:=ok.labels
  have hq:=ok.quotas
  have h24:0 ≤ r.2.2.2.2.2.1 ∧ r.2.2.2.2.2.1 ≤ 24:=by
    simp only [qg,zsf,qf,Bool.and_eq_true,decide_eq_true_eq] at hb
    omega
  have hsh:∀ q ∈ r.2.2.2.2.1,zwI (zan r q):=fun q hq=>by
    have h:=zBG (zwK hb q hq)
    refine ⟨?_,?_,?_,?_,?_,?_,?_⟩ <;> (show (List.replicate _ _).length ≤ _; rw [List.length_replicate]; omega)
  refine ⟨by show (List.set _ _ _).length ≤ _; rw [List.length_set,List.length_map]; omega,by show (List.map _ _).length ≤ _; rw [List.length_map]; omega,by show (List.replicate _ _).length ≤ _; rw [List.length_replicate]; omega,Nat.zero_le _,by show (List.replicate _ _).length ≤ _; rw [List.length_replicate]; omega,fun x hx=>?_,fun l hl=>?_⟩
  · rcases List.mem_or_eq_of_mem_set hx with hx | rfl
    · obtain ⟨q,hq,rfl⟩:=List.mem_map.1 hx
      exact hsh q hq
    · have h0:zwI ((r.2.2.2.2.1.map (zan r)).getD 0 za):=by
        have hm:(r.2.2.2.2.1.map (zan r)).getD 0 za ∈ r.2.2.2.2.1.map (zan r):=z8 (by rw [List.length_map]; omega)
        obtain ⟨q,hq,e⟩:=List.mem_map.1 hm
        rw [← e]; exact hsh q hq
      exact ⟨by show (List.set _ _ _).length ≤ _; rw [List.length_set]; exact h0.rooms,h0.exits,h0.items,h0.mails,h0.trades,h0.purses,h0.places⟩
  · obtain ⟨g,hg,rfl⟩:=List.mem_map.1 hl
    show (List.set _ _ _).length ≤ _
    rw [List.length_set,List.length_replicate]; omega
theorem ztx {r:ze} {s:zb} {a:zr} (hr:z3 r) (h:z6 r s = true) (ha:zdR a) (la:zc3 a = true):zcr (r,s,a,()) = some (yf r a s,0,()):=by
  obtain ⟨hb,hz,hp⟩:=jm h
  have ok:=jG hb
  have sz:=zc7 hb hz
  have hf:=zkL h
  have hn:=zBK hb
  have h1:=sz.shelves
  have h2:s.2.2.1.length = r.2.2.2.1.length:=by
    have hh:zhV r s.2.2.1 = true:=by simp only [zc4,Bool.and_eq_true] at hp; exact hp.1
    exact (zuK hh).1
  have h3:=sz.people
  have hlab:=ok.labels
  have hgui:=ok.guilds
  have hlin:=ok.lines
  have hq:=ok.quotas
  have f1:(zeO r).2.1.length = r.1.length:=by show (List.set _ _ _).length = _; rw [List.length_set,List.length_map]; exact hq
  have f2:(zeO r).2.2.1.length = r.2.2.2.1.length:=List.length_map ..
  have f3:(zeO r).2.2.2.2.2.1.length = r.2.1.length:=List.length_replicate ..
  have hfit:ziW (r,s,()) = some (true,()):=by
    simp only [ziW]
    rw [h1,h2,h3]
    simp
  have hv:zjU (yf r a s):=by
    refine ⟨?_,?_,hf.orders,hf.entries,?_,fun x hx=>?_,fun l hl=>?_⟩
    · show (qp _ _ _ _).length ≤ _; rw [zca]; exact hf.shelves
    · show (qp _ _ _ _).length ≤ _; rw [zca]; exact hf.ranks
    · show (qp _ _ _ _).length ≤ _; rw [zca]; exact hf.seats
    · rcases zkB (by omega) hx with hx | hx
      · exact hf.shelf x hx
      · exact hn.shelf x hx
    · rcases zkB (by omega) hl with hl | hl
      · exact hf.rank l hl
      · exact hn.rank l hl
  simp only [zcr]
  refine (bnd (ztw hr)).trans ?_
  rw [hb]
  refine (cF rfl).trans ?_
  refine (bnd (zjQ a)).trans ?_
  refine (cT la).trans ?_
  refine (bnd hfit).trans ?_
  refine (cT rfl).trans ?_
  refine (bnd (zxH (by omega) (by show s.2.1.length ≤ (zeO r).2.1.length; omega) fun i hi=>zBJ hr ha (by omega))).trans ?_
  refine (bnd (zzm (by omega) (by show s.2.2.1.length ≤ (zeO r).2.2.1.length; omega) fun i hi=>zGE ha (by omega))).trans ?_
  refine (bnd (zBI (by omega) (by show s.2.2.2.2.2.1.length ≤ (zeO r).2.2.2.2.2.1.length; omega) fun i hi=>zGF hr hb ha (by omega))).trans ?_
  refine (bnd (jI hv)).trans ?_
  rfl
theorem zty {r:ze} {s t:zb} {a:zr} (hr:z3 r) (h:z6 r s = true) (h':z6 r t = true) (ha:zdR a) (la:zc3 a = true) (hf:zjU (yf r a s)):zcs (r,s,t,a,()) = some (zh2 (yf r a s) (yf r a t),()):=by
  rw [zN]
  simp only [zcs]
  refine (bnd (ztx hr h ha la)).trans ?_
  refine (bnd (ztx hr h' ha la)).trans ?_
  refine (cT rfl).trans ?_
  refine (cT rfl).trans ?_
  refine (bnd (zBH (zFJ hf))).trans ?_
  rfl
end Go.Proofs.YtokcjmkikhgkeaaGreatDoor
end
section
namespace Go.Proofs.YtokcjmkikhgkeaaGreatDoor
open Go.Ev
theorem zHO {r:ze} {s:zb} (hr:z3 r) (hs:zP s) (hq:zfV r) {me:pMe} {c n:Int} (hn:qa n):j9 (r,s,me,c,n,()) = some (bif vB r s me c n then zi6 r s me c n else zaz 1):=by
  cases h:vB r s me c n with
  | true =>
    have:=zHM hr hs (zkL (zfb h).rs) hq (me:=me) (c:=c) hn
    rw [h] at this; exact this
  | false =>
    simp only [j9]
    refine (bnd (zaG hr hs me c n)).trans ?_
    rw [h]; rfl
theorem zHP {r:ze} {s:zb} (hr:z3 r) (hs:zP s) {me:pMe} {c n:Int} (hn:qa n):vS (r,s,me,c,n,()) = some (bif vB r s me c n then zi7 s me c n else zaz 1):=by
  cases h:vB r s me c n with
  | true =>
    have:=zHK hr hs (zkL (zfb h).rs) (me:=me) (c:=c) hn
    rw [h] at this; exact this
  | false =>
    simp only [vS]
    refine (bnd (zaG hr hs me c n)).trans ?_
    rw [h]; rfl
theorem zH3 {r:ze} {s:zb} (hr:z3 r) (hs:zP s) {me:pMe} {w c n:Int} (hn:qa n):yH (r,s,me,w,c,n,()) = some (bif vB r s me c n then (bif jy r w && w != me.2.2.1 then ziM s me me.2.1 w c n else zaz 1) else zaz 1):=by
  cases h:vB r s me c n with
  | true =>
    have:=zHZ hr hs (zkL (zfb h).rs) (me:=me) (w:=w) (c:=c) hn
    rw [h] at this; exact this
  | false =>
    simp only [yH]
    refine (bnd (zaG hr hs me c n)).trans ?_
    rw [h]; rfl
theorem zHQ {r:ze} {s:zb} (hr:z3 r) (hs:zP s) (hq:zfV r) {me:pMe} {x:zag} (hn:qa x.2.2.2.2.1):zhS (r,s,me,x,()) = some (znn r s me (zlN x.1) x.2.1 x.2.2.1 x.2.2.2.1 x.2.2.2.2.1):=by
  simp only [zhS]
  rw [zHO hr hs hq hn,zHP hr hs hn,zH3 hr hs hn,zHN hr hs hn]
  simp only [Option.bind_some]
  unfold znn zlN
  by_cases h1:x.1 = 1
  · rw [h1]; rfl
  · by_cases h2:x.1 = 2
    · rw [h2]; rfl
    · by_cases h3:x.1 = 3
      · rw [h3]; rfl
      · rw [beq_eq_false_iff_ne.2 h1,beq_eq_false_iff_ne.2 h2,beq_eq_false_iff_ne.2 h3]
        by_cases h4:x.1 < 1
        · rw [decide_eq_true h4]; rfl
        · rw [decide_eq_false h4,decide_eq_true (p:=x.1 > 3) (by omega)]; rfl
theorem zEA {a b c:zr} (h1:yR a b = true) (h2:yR b c = true):yR a c = true:=by
  simp only [yR,Bool.and_eq_true,decide_eq_true_eq,List.all_eq_true,Bool.or_eq_true,Bool.not_eq_true'] at h1 h2 ⊢
  refine ⟨by omega,fun i hi=>?_⟩
  rcases h1.2 i hi with h | h
  · exact .inl h
  · rcases h2.2 i hi with h' | h'
    · rw [h] at h'; cases h'
    · exact .inr h'
theorem ziO {r:ze} {s:zb} {a:zr} {i:Int} {h:zg} (hi:yR (r.1.getD i.toNat qz) a = false):yf r a (upd s i h) = yf r a s:=by
  have e:qp za (fun i=>yR (r.1.getD i qz) a) (List.set s.2.1 i.toNat h) (zeO r).2.1 = qp za (fun i=>yR (r.1.getD i qz) a) s.2.1 (zeO r).2.1:=zEy hi
  exact congrArg (fun l=>(s.1,l,qp [] (fun i=>yR (zpl (r.2.2.2.1.getD i qU).1) a) s.2.2.1 (zeO r).2.2.1,s.2.2.2.1,s.2.2.2.2.1,qp 0 (fun i=>yR (r.1.getD (zlO r i).toNat qz) a) s.2.2.2.2.2.1 (zeO r).2.2.2.2.2.1,())) e
end Go.Proofs.YtokcjmkikhgkeaaGreatDoor
end
section
namespace Go.Proofs.YtokcjmkikhgkeaaGreatDoor
open Go.Ev
structure zIc (r:ze) (s:zb) (me:pMe) (d:Int→Int) (t:zb):Prop where
  right:z6 r t = true
  inn:zP t
  held:∀ k,zJ k = true→qo t k = qo s k + d k
  view:∀ a,yR (r.1.getD me.2.1.toNat qz) a = false→yf r a t = yf r a s
def zBL (r:ze) (s:zb) (me:pMe) (d:Int→Int) (v:zb × Int × Unit):Prop:=(∃ e,(e != 0) = true ∧ v = zaz e) ∨ (v.2.1 = 0 ∧ zIc r s me d v.1)
theorem zBM {r:ze} {s:zb} (hs:zP s) (h4:y6 s) {me:pMe} {i w c n:Int} (x:Ctx r s me c n) (hn:qa n) (hi:vg r i = true) (hw:jy r w = true) (hne:¬ (me.2.1 = i ∧ me.2.2.1 = w)) (hv:∀ a,yR (r.1.getD me.2.1.toNat qz) a = false→yR (r.1.getD i.toNat qz) a = false):zBL r s me (fun _=>0) (ziM s me i w c n):=by
  have a:=zej x.rs x.im
  have b0:At s i w:=zmQ x.rs hi hw
  unfold ziM
  cases hlt:decide (zz s me.2.1 me.2.2.1 c < n) with
  | true=>exact .inl ⟨6,rfl,rfl⟩
  | false =>
    have hge:=of_decide_eq_false hlt
    obtain ⟨e0,h0,hle⟩:=zGw hs x hn b0 hne hge
    have hco:=zkK x.rs hs x.hc a
    have pos:=x.pos
    have b:At (qt s me c n) i w:=zdY a.hi b0
    refine .inr ⟨rfl,zFL x.rs h4 a b0 hne x.hc,zsp (zsp hs a (zok (by omega) (by omega))) b (by rw [e0]; exact zok (by omega) hle),fun k hk=>?_,fun l hl=>?_⟩
    · have e0':zz (va s me.2.1 me.2.2.1 c (zz s me.2.1 me.2.2.1 c - n)) i w c = zz s i w c:=e0
      refine (zh4 (zkz h4 a) b x.hc hk).trans ?_
      rw [zh4 h4 a x.hc hk]
      by_cases e:k = c
      · simp only [if_pos e]; rw [e]; omega
      · simp only [if_neg e]; omega
    · exact (ziO (hv l hl)).trans (ziO hl)
theorem zFP {r:ze} {s:zb} (hs:zP s) (h4:y6 s) (hq:zfV r) {me:pMe} {c n:Int} (x:Ctx r s me c n) (hn:qa n):zBL r s me (fun k=>if k = c then n else 0) (zi6 r s me c n):=by
  have a:=zej x.rs x.im
  unfold zi6
  cases (ix zcf r.2.2.1 me.2.2.1).2.2.2.1 with
  | false=>exact .inl ⟨5,rfl,rfl⟩
  | true =>
    cases hlt:decide (qH s me.2.1 c + n ≤ y5 r me.2.1) with
    | false=>exact .inl ⟨8,rfl,rfl⟩
    | true =>
      have hle:=of_decide_eq_true hlt
      obtain ⟨h1,h2⟩:=zEv x.rs hs h4 hq x.im x.hc x.pos hle
      have hgo:=zrM x.rs hs hq x.hc a hle
      have hco:=zkK x.rs hs x.hc a
      have pos:=x.pos
      have hm:=zDa hs a.hi c
      have hsh:=hs.shelves _ (qA a.hi)
      have b:At (vz s me c n) me.2.1 me.2.2.1:=zoj a.hi rfl a
      have e:zz (vz s me c n) me.2.1 me.2.2.1 c = zz s me.2.1 me.2.2.1 c:=by
        show List.getD (List.getD (ix za (upd s me.2.1 _).2.1 me.2.1).2.2.2.2.2.1 _ _) _ _ = _
        rw [zoi a.hi]
      have hin:zP (vz s me c n):=zFM hs ⟨hsh.trades,hsh.purses,zyg hsh.made (zok (by have:=hm.1; omega) (by omega)),hsh.spent⟩
      exact .inr ⟨rfl,h1,zsp hin b (by rw [e]; exact zok (by omega) hgo.1),h2,fun l hl=>(ziO hl).trans (ziO hl)⟩
theorem zFQ {r:ze} {s:zb} (hs:zP s) (h4:y6 s) {me:pMe} {c n:Int} (x:Ctx r s me c n) (hn:qa n):zBL r s me (fun k=>- if k = c then n else 0) (zi7 s me c n):=by
  have a:=zej x.rs x.im
  unfold zi7
  cases hlt:decide (zz s me.2.1 me.2.2.1 c < n) with
  | true=>exact .inl ⟨6,rfl,rfl⟩
  | false =>
    have hge:=of_decide_eq_false hlt
    have hco:=zkK x.rs hs x.hc a
    have pos:=x.pos
    obtain ⟨h1,h2⟩:=zEw x.rs hs h4 x.im x.hc x.pos hge
    have b:At (qt s me c n) me.2.1 me.2.2.1:=zdY a.hi a
    have hin:zP (qt s me c n):=zsp hs a (zok (by omega) (by omega))
    have hsh:=hin.shelves _ (qA b.hi)
    have hw:∀ z:Int,qa (wU z):=fun z=>⟨Int.emod_nonneg _ (by decide),Int.emod_lt_of_pos _ (by decide)⟩
    exact .inr ⟨rfl,h1,zFM hin ⟨hsh.trades,hsh.purses,hsh.made,zyg hsh.spent (hw _)⟩,fun k hk=>(h2 k hk).trans (Int.sub_eq_add_neg ..),fun l hl=>(ziO hl).trans (ziO hl)⟩
end Go.Proofs.YtokcjmkikhgkeaaGreatDoor
end
section
namespace Go.Proofs.YtokcjmkikhgkeaaGreatDoor
open Go.Ev
def zGK (kd c n k:Int):Int:=bif kd == 1 then (if k = c then n else 0) else bif kd == 2 then (- if k = c then n else 0) else 0
theorem zBN {r:ze} {s:zb} (hs:zP s) (h4:y6 s) (hq:zfV r) {me:pMe} {k i w c n:Int} (hm:vB r s me c n = true) (hn:qa n):zBL r s me (zGK k c n) (znn r s me k i w c n):=by
  have x:=zfb hm
  have ml:=zrN (jm x.rs).1 x.im
  unfold znn
  rw [hm]
  unfold zGK
  cases k == 1 with
  | true=>exact zFP hs h4 hq x hn
  | false =>
    cases k == 2 with
    | true=>exact zFQ hs h4 x hn
    | false =>
      cases k == 3 with
      | true =>
        cases hb:jy r w && w != me.2.2.1 with
        | false=>exact .inl ⟨1,rfl,rfl⟩
        | true =>
          simp only [Bool.and_eq_true] at hb
          exact zBM hs h4 x hn ml hb.1 (fun e=>(bne_iff_ne.1 hb.2) e.2.symm) (fun _ h=>h)
      | false =>
        cases hb:jy r w && vg r i with
        | false=>exact .inl ⟨1,rfl,rfl⟩
        | true =>
          simp only [Bool.and_eq_true] at hb
          show zBL r s me _ (zi8 r s me i w c n)
          unfold zi8
          cases hl:(i != me.2.1) && zlG r me.2.1 i with
          | false=>exact .inl ⟨5,rfl,rfl⟩
          | true =>
            simp only [Bool.and_eq_true] at hl
            have hle:yR (r.1.getD me.2.1.toNat qz) (r.1.getD i.toNat qz) = true:=by
              have:=hl.2
              simp only [zlG,Bool.and_eq_true] at this
              exact this.2.2
            refine zBM hs h4 x hn hb.2 hb.1 (fun e=>(bne_iff_ne.1 hl.1) e.1.symm) (fun a h=>?_)
            cases h':yR (r.1.getD i.toNat qz) a with
            | false=>rfl
            | true=>rw [zEA hle h'] at h; cases h
theorem zyh {r:ze} {s:zb} {a:zr} (h:z6 r s = true):zjU (yf r a s):=by
  obtain ⟨hb,hz,hp⟩:=jm h
  have ok:=jG hb
  have sz:=zc7 hb hz
  have hf:=zkL h
  have hn:=zBK hb
  have h1:=sz.shelves
  have h2:s.2.2.1.length = r.2.2.2.1.length:=by
    have hh:zhV r s.2.2.1 = true:=by simp only [zc4,Bool.and_eq_true] at hp; exact hp.1
    exact (zuK hh).1
  have hq:=ok.quotas
  have f1:(zeO r).2.1.length = r.1.length:=by show (List.set _ _ _).length = _; rw [List.length_set,List.length_map]; exact hq
  have f2:(zeO r).2.2.1.length = r.2.2.2.1.length:=List.length_map ..
  refine ⟨?_,?_,hf.orders,hf.entries,?_,fun x hx=>?_,fun l hl=>?_⟩
  · show (qp _ _ _ _).length ≤ _; rw [zca]; exact hf.shelves
  · show (qp _ _ _ _).length ≤ _; rw [zca]; exact hf.ranks
  · show (qp _ _ _ _).length ≤ _; rw [zca]; exact hf.seats
  · rcases zkB (by omega) hx with hx | hx
    · exact hf.shelf x hx
    · exact hn.shelf x hx
  · rcases zkB (by omega) hl with hl | hl
    · exact hf.rank l hl
    · exact hn.rank l hl
end Go.Proofs.YtokcjmkikhgkeaaGreatDoor
end
section
namespace Go.Proofs.YtokcjmkikhgkeaaGreatDoor
open Go.Ev
theorem zDf {α:Type} {p:α→α→Bool} {a b:List α} (d:α):eqW p a b = true ↔ a.length = b.length ∧ ∀ i,i < a.length→p (a.getD i d) (b.getD i d) = true:=by
  unfold eqW
  simp only [Bool.and_eq_true,decide_eq_true_eq,List.all_eq_true]
  constructor
  · rintro ⟨h1,h2⟩
    refine ⟨h1,fun i hi=>?_⟩
    have hz:(List.zip a b).getD i (d,d) = (a.getD i d,b.getD i d):=zoM a b i hi (by omega)
    have:=h2 ((List.zip a b).getD i (d,d)) (z8 (by rw [List.length_zip]; omega))
    rw [hz] at this; exact this
  · rintro ⟨h1,h2⟩
    refine ⟨h1,fun q hq=>?_⟩
    obtain ⟨i,hi,rfl⟩:=List.mem_iff_getElem.1 hq
    rw [List.length_zip] at hi
    have:=h2 i (by omega)
    rw [List.getElem_zip]
    rw [List.getD_eq_getElem?_getD,List.getElem?_eq_getElem (by omega),List.getD_eq_getElem?_getD,List.getElem?_eq_getElem (by omega)] at this
    exact this
theorem zBO {a b:List Int} (h:eqI (.arr 4 tU) a b = true) (ha:a.length = 4) (hb:b.length = 4):a = b:=by
  have h':∀ q ∈ List.zip a b,eqI tU q.1 q.2 = true:=by
    have:(List.zip a b).all (fun q=>eqI tU q.1 q.2) = true:=h
    exact List.all_eq_true.1 this
  refine List.ext_getElem (by omega) fun i h1 h2=>?_
  have:=h' (a[i],b[i]) (by
    rw [List.mem_iff_getElem]
    exact ⟨i,by rw [List.length_zip]; omega,List.getElem_zip ..⟩)
  exact beq_iff_eq.1 (show ((a[i]:Int) == b[i]) = true from this)
theorem zHf {a b:List (List Int)} (h:eqL (.arr 4 tU) a b = true) (ha:∀ x ∈ a,x.length = 4) (hb:∀ x ∈ b,x.length = 4):a = b:=by
  obtain ⟨h1,h2⟩:=(zDf ([]:List Int)).1 h
  refine List.ext_getElem h1 fun i hi hi'=>?_
  have:=h2 i hi
  rw [List.getD_eq_getElem?_getD,List.getElem?_eq_getElem hi,List.getD_eq_getElem?_getD,List.getElem?_eq_getElem hi'] at this
  exact zBO this (ha _ (List.getElem_mem hi)) (hb _ (List.getElem_mem hi'))
structure Sim (x y:zg):Prop where
  same:qK x y = true
  fx:zEt x
  fy:zEt y
theorem Sim.parts {x y:zg} (h:Sim x y):x.2.2.2.2.2.1 = y.2.2.2.2.2.1 ∧ vy x = vy y ∧ qh x = qh y:=by
  have h1:=h.same
  simp only [qK,Bool.and_eq_true] at h1
  obtain ⟨-,-,-,-,-,h6,-,h8,h9⟩:=h1
  exact ⟨zHf h6 h.fx.purses h.fy.purses,zBO h8 h.fx.made h.fy.made,zBO h9 h.fx.spent h.fy.spent⟩
theorem zHR {x y:zg} (h:qK x y = true) (l:List (List Int)):qK (u5 x l) (u5 y l) = true:=by
  simp only [qK,Bool.and_eq_true] at h ⊢
  obtain ⟨h1,h2,h3,h4,h5,h6,h7,h8,h9⟩:=h
  exact ⟨h1,h2,h3,h4,h5,zeN (τ:=.arr 4 tU) rfl _,h7,h8,h9⟩
theorem zHS {x y:zg} (h:qK x y = true) (l:List Int):qK (u7 x l) (u7 y l) = true:=by
  simp only [qK,Bool.and_eq_true] at h ⊢
  obtain ⟨h1,h2,h3,h4,h5,h6,h7,h8,h9⟩:=h
  exact ⟨h1,h2,h3,h4,h5,h6,h7,zgg (τ:=.arr 4 tU) rfl _,h9⟩
theorem zHT {x y:zg} (h:qK x y = true) (l:List Int):qK (u8 x l) (u8 y l) = true:=by
  simp only [qK,Bool.and_eq_true] at h ⊢
  obtain ⟨h1,h2,h3,h4,h5,h6,h7,h8,h9⟩:=h
  exact ⟨h1,h2,h3,h4,h5,h6,h7,h8,zgg (τ:=.arr 4 tU) rfl _⟩
theorem zrS {α:Type} {p:α→α→Bool} {d:α} (q:Nat→Bool) (hp:∀ x,p x x = true) {l1 l2 f:List α}:eqW p (qp d q l1 f) (qp d q l2 f) = true ↔ l1.length = l2.length ∧ ∀ i,i < l1.length→q i = true→p (l1.getD i d) (l2.getD i d) = true:=by
  have e:∀ (l:List α) (i:Nat),i < l.length→(qp d q l f).getD i d = zgd d q l f i:=fun l i hi=>by
    unfold qp
    rw [List.getD_eq_getElem?_getD,List.getElem?_map,List.getElem?_range hi]; rfl
  rw [zDf d,zca,zca]
  constructor
  · rintro ⟨hl,h⟩
    refine ⟨hl,fun i hi hq=>?_⟩
    have:=h i hi
    rw [e l1 i hi,e l2 i (by omega)] at this
    unfold zgd at this
    rw [hq] at this; exact this
  · rintro ⟨hl,h⟩
    refine ⟨hl,fun i hi=>?_⟩
    rw [e l1 i hi,e l2 i (by omega)]
    unfold zgd
    cases hq:q i with
    | true=>exact h i hi hq
    | false=>exact hp _
abbrev zfc (r:ze) (a:zr) (i:Nat):Bool:=yR (r.1.getD i qz) a
theorem zBP {r:ze} {a:zr} {s t:zb} (h:zh2 (yf r a s) (yf r a t) = true):s.2.1.length = t.2.1.length ∧ ∀ i,i < s.2.1.length→zfc r a i = true→qK (s.2.1.getD i za) (t.2.1.getD i za) = true:=by
  simp only [zh2,Bool.and_eq_true] at h
  exact (zrS (zfc r a) zrK).1 h.2.1
theorem zrT {r:ze} {a:zr} {s t:zb} {i:Int} {x y:zg} (h:zh2 (yf r a s) (yf r a t) = true) (hxy:zfc r a i.toNat = true→qK x y = true):zh2 (yf r a (upd s i x)) (yf r a (upd t i y)) = true:=by
  have h':=h
  simp only [zh2,Bool.and_eq_true] at h' ⊢
  obtain ⟨h1,h2,h3⟩:=h'
  obtain ⟨hl,hs⟩:=zBP h
  refine ⟨h1,(zrS (l1:=List.set s.2.1 i.toNat x) (l2:=List.set t.2.1 i.toNat y) (zfc r a) zrK).2 ⟨by rw [List.length_set,List.length_set]; exact hl,fun j hj hq=>?_⟩,h3⟩
  rw [List.length_set] at hj
  by_cases e:i.toNat = j
  · subst e
    rw [zdX hj,zdX (by omega)]
    exact hxy hq
  · rw [getD_set_ne e,getD_set_ne e]
    exact hs j hj hq
structure Al (r:ze) (a:zr) (s t:zb):Prop where
  view:zh2 (yf r a s) (yf r a t) = true
  fs:y6 s
  ft:y6 t
theorem Al.sim {r:ze} {a:zr} {s t:zb} (h:Al r a s t) {i:Int} (hi:0 ≤ i ∧ i < (s.2.1.length:Int)) (hv:zfc r a i.toNat = true):Sim (ix za s.2.1 i) (ix za t.2.1 i):=by
  obtain ⟨hl,hs⟩:=zBP h.view
  exact ⟨hs _ (by omega) hv,h.fs _ (qA hi),h.ft _ (qA (by omega))⟩
theorem Al.row {r:ze} {a:zr} {s t:zb} (h:Al r a s t) {i:Int} (hi:0 ≤ i ∧ i < (s.2.1.length:Int)) (hv:zfc r a i.toNat = true) (w:Int):jh s i w = jh t i w:=congrArg (fun l=>List.getD l w.toNat (zf (.arr 4 tU))) (h.sim hi hv).parts.1
theorem Al.coin {r:ze} {a:zr} {s t:zb} (h:Al r a s t) {i:Int} (hi:0 ≤ i ∧ i < (s.2.1.length:Int)) (hv:zfc r a i.toNat = true) (w c:Int):zz s i w c = zz t i w c:=congrArg (fun l=>List.getD l c.toNat (0:Int)) (h.row hi hv w)
theorem zyi {s:zb} (h4:y6 s) {i:Int} {x:zg} (hx:zEt x):y6 (upd s i x):=by
  intro y hy
  rcases List.mem_or_eq_of_mem_set hy with hy | rfl
  · exact h4 y hy
  · exact hx
theorem zsq {r:ze} {a:zr} {s t:zb} (h:Al r a s t) {i w c v v':Int} (b1:At s i w) (b2:At t i w) (hv:zfc r a i.toNat = true→v = v'):Al r a (va s i w c v) (va t i w c v'):=by
  refine ⟨zrT h.view fun sv=>?_,zkz h.fs b1,zkz h.ft b2⟩
  have e1:=(h.sim b1.hi sv).parts.1
  have e:List.set (ix za t.2.1 i).2.2.2.2.2.1 w.toNat (List.set (jh t i w) c.toNat v') = List.set (ix za s.2.1 i).2.2.2.2.2.1 w.toNat (List.set (jh s i w) c.toNat v):=by
    simp only [jh,e1,hv sv]
  exact (congrArg (fun l=>qK (u5 (ix za s.2.1 i) (List.set (ix za s.2.1 i).2.2.2.2.2.1 w.toNat (List.set (jh s i w) c.toNat v))) (u5 (ix za t.2.1 i) l)) e).trans (zHR (h.sim b1.hi sv).same _)
theorem zHg {r:ze} {a:zr} {s t:zb} (h:Al r a s t) {me:pMe} {c n:Int} (hi:0 ≤ me.2.1 ∧ me.2.1 < (s.2.1.length:Int)) (hj:0 ≤ me.2.1 ∧ me.2.1 < (t.2.1.length:Int)) (sv:zfc r a me.2.1.toNat = true):Al r a (vz s me c n) (vz t me c n):=by
  have h1:=h.fs _ (qA hi)
  have h2:=h.ft _ (qA hj)
  refine ⟨zrT h.view fun _=>?_,zyi h.fs ⟨h1.purses,by show (List.set _ _ _).length = _; rw [List.length_set]; exact h1.made,h1.spent⟩,zyi h.ft ⟨h2.purses,by show (List.set _ _ _).length = _; rw [List.length_set]; exact h2.made,h2.spent⟩⟩
  have e1:=(h.sim hi sv).parts.2.1
  have e:List.set (ix za t.2.1 me.2.1).2.2.2.2.2.2.2.1 (Int.toNat c) (qH t me.2.1 c + n) = List.set (ix za s.2.1 me.2.1).2.2.2.2.2.2.2.1 (Int.toNat c) (qH s me.2.1 c + n):=by
    simp only [vy] at e1
    simp only [qH,e1]
  exact (congrArg (fun l=>qK (u7 (ix za s.2.1 me.2.1) (List.set (ix za s.2.1 me.2.1).2.2.2.2.2.2.2.1 (Int.toNat c) (qH s me.2.1 c + n))) (u7 (ix za t.2.1 me.2.1) l)) e).trans (zHS (h.sim hi sv).same _)
def zBQ (r:ze) (a:zr) (v w:zb × Int × Unit):Prop:=(∃ e,(e != 0) = true ∧ v = zaz e ∧ w = zaz e) ∨ (v.2.1 = 0 ∧ w.2.1 = 0 ∧ zh2 (yf r a v.1) (yf r a w.1) = true)
theorem zBR {r:ze} {a:zr} {s t:zb} (h:Al r a s t) {me:pMe} {i w c n:Int} (a1:At s me.2.1 me.2.2.1) (a2:At t me.2.1 me.2.2.1) (b1:At s i w) (b2:At t i w) (sv:zfc r a me.2.1.toNat = true):zBQ r a (ziM s me i w c n) (ziM t me i w c n):=by
  have e:=h.coin a1.hi sv me.2.2.1 c
  unfold ziM
  rw [← e]
  cases decide (zz s me.2.1 me.2.2.1 c < n) with
  | true=>exact .inl ⟨6,rfl,rfl,rfl⟩
  | false =>
    have h1:Al r a (qt s me c n) (qt t me c n):=zsq h a1 a2 fun _=>by rw [e]
    have c1:At (qt s me c n) i w:=zdY a1.hi b1
    have c2:At (qt t me c n) i w:=zdY a2.hi b2
    exact .inr ⟨rfl,rfl,(zsq h1 c1 c2 fun si=>by rw [h1.coin c1.hi si w c]).view⟩
theorem zFR {r:ze} {a:zr} {s t:zb} (h:Al r a s t) {me:pMe} {c n:Int} (a1:At s me.2.1 me.2.2.1) (a2:At t me.2.1 me.2.2.1) (sv:zfc r a me.2.1.toNat = true):zBQ r a (zi6 r s me c n) (zi6 r t me c n):=by
  have e:qH s me.2.1 c = qH t me.2.1 c:=congrArg (fun l=>List.getD l c.toNat (0:Int)) (h.sim a1.hi sv).parts.2.1
  unfold zi6
  rw [← e]
  cases (ix zcf r.2.2.1 me.2.2.1).2.2.2.1 with
  | false=>exact .inl ⟨5,rfl,rfl,rfl⟩
  | true =>
    cases decide (qH s me.2.1 c + n ≤ y5 r me.2.1) with
    | false=>exact .inl ⟨8,rfl,rfl,rfl⟩
    | true =>
      have h1:=zHg (c:=c) (n:=n) h a1.hi a2.hi sv
      have c1:At (vz s me c n) me.2.1 me.2.2.1:=zoj a1.hi rfl a1
      have c2:At (vz t me c n) me.2.1 me.2.2.1:=zoj a2.hi rfl a2
      exact .inr ⟨rfl,rfl,(zsq h1 c1 c2 fun si=>by rw [h1.coin c1.hi si me.2.2.1 c]).view⟩
theorem zFS {r:ze} {a:zr} {s t:zb} (h:Al r a s t) {me:pMe} {c n:Int} (a1:At s me.2.1 me.2.2.1) (a2:At t me.2.1 me.2.2.1) (sv:zfc r a me.2.1.toNat = true):zBQ r a (zi7 s me c n) (zi7 t me c n):=by
  have e:=h.coin a1.hi sv me.2.2.1 c
  unfold zi7
  rw [← e]
  cases decide (zz s me.2.1 me.2.2.1 c < n) with
  | true=>exact .inl ⟨6,rfl,rfl,rfl⟩
  | false =>
    have h1:Al r a (qt s me c n) (qt t me c n):=zsq h a1 a2 fun _=>by rw [e]
    have c1:At (qt s me c n) me.2.1 me.2.2.1:=zdY a1.hi a1
    generalize qt s me c n = s' at *
    generalize qt t me c n = t' at *
    refine .inr ⟨rfl,rfl,zrT h1.view fun si=>?_⟩
    have e3:=(h1.sim c1.hi si).parts.2.2
    have e':List.set (ix za t'.2.1 me.2.1).2.2.2.2.2.2.2.2.1 (Int.toNat c) (wU (List.getD (ix za t'.2.1 me.2.1).2.2.2.2.2.2.2.2.1 (Int.toNat c) (0:Int) + n)) = List.set (ix za s'.2.1 me.2.1).2.2.2.2.2.2.2.2.1 (Int.toNat c) (wU (List.getD (ix za s'.2.1 me.2.1).2.2.2.2.2.2.2.2.1 (Int.toNat c) (0:Int) + n)):=by
      simp only [qh] at e3
      simp only [e3]
    exact (congrArg (fun l=>qK (u8 (ix za s'.2.1 me.2.1) (List.set (ix za s'.2.1 me.2.1).2.2.2.2.2.2.2.2.1 (Int.toNat c) (wU (List.getD (ix za s'.2.1 me.2.1).2.2.2.2.2.2.2.2.1 (Int.toNat c) (0:Int) + n)))) (u8 (ix za t'.2.1 me.2.1) l)) e').trans (zHT (h1.sim c1.hi si).same _)
theorem zGG {r:ze} {a:zr} {s t:zb} (h:Al r a s t) (rs:z6 r s = true) (rt:z6 r t = true) {me:pMe} {k i w c n:Int} (im:zbi r me = true) (sv:zfc r a me.2.1.toNat = true):zBQ r a (znn r s me k i w c n) (znn r t me k i w c n):=by
  have em:vB r t me c n = vB r s me c n:=by unfold vB; rw [rs,rt]
  have a1:=zej rs im
  have a2:=zej rt im
  unfold znn
  rw [em]
  cases vB r s me c n with
  | false=>exact .inl ⟨1,rfl,rfl,rfl⟩
  | true =>
    cases k == 1 with
    | true=>exact zFR h a1 a2 sv
    | false =>
      cases k == 2 with
      | true=>exact zFS h a1 a2 sv
      | false =>
        cases k == 3 with
        | true =>
          cases hb:jy r w && w != me.2.2.1 with
          | false=>exact .inl ⟨1,rfl,rfl,rfl⟩
          | true =>
            simp only [Bool.and_eq_true] at hb
            have ml:=zrN (jm rs).1 im
            exact zBR h a1 a2 (zmQ rs ml hb.1) (zmQ rt ml hb.1) sv
        | false =>
          cases hb:jy r w && vg r i with
          | false=>exact .inl ⟨1,rfl,rfl,rfl⟩
          | true =>
            simp only [Bool.and_eq_true] at hb
            show zBQ r a (zi8 r s me i w c n) (zi8 r t me i w c n)
            unfold zi8
            cases (i != me.2.1) && zlG r me.2.1 i with
            | false=>exact .inl ⟨5,rfl,rfl,rfl⟩
            | true=>exact zBR h a1 a2 (zmQ rs hb.2 hb.1) (zmQ rt hb.2 hb.1) sv
end Go.Proofs.YtokcjmkikhgkeaaGreatDoor
end
section
namespace Go.Proofs.YtokcjmkikhgkeaaGreatDoor
open Go.Ev
theorem zrU {r:ze} {s:zb} {a:zr} (hr:z3 r) (rb:qg r = true) (la:zc3 a = false):zcr (r,s,a,()) = some ((0,[],[],[],[],[],()),1,()):=by
  simp only [zcr]
  refine (bnd (ztw hr)).trans ?_
  rw [rb]
  refine (cF rfl).trans ?_
  refine (bnd (zjQ a)).trans ?_
  exact cF la
theorem zBS {r:ze} {s t:zb} {a:zr} (hr:z3 r) (rb:qg r = true) (la:zc3 a = false):zcs (r,s,t,a,()) = some (false,()):=by
  simp only [zcs]
  refine (bnd (zrU hr rb la)).trans ?_
  refine (bnd (zrU hr rb la)).trans ?_
  exact cF rfl
theorem x_MoneyAlike {r:ze} {s t:zb} {a:zr} (hr:z3 r) (hs:zP s) (ht:zP t) (fs:y6 s) (ft:y6 t) (hq:zfV r) (ha:zdR a) {me:pMe} {x:zag} (hn:qa x.2.2.2.2.1):P_law30_MoneyAlike (r,s,t,me,x,a,()) = some (true,()):=by
  simp only [P_law30_MoneyAlike]
  refine (bnd (zh1 hr hs _)).trans ?_
  cases hme:z6 r s && zbi r me with
  | false =>
    refine (cF rfl).trans ?_
    rw [zgU]; rfl
  | true =>
    simp only [Bool.and_eq_true] at hme
    obtain ⟨rs,im⟩:=hme
    refine (cT rfl).trans ?_
    refine (bnd (zp4 hr ht)).trans ?_
    cases rt:z6 r t with
    | false =>
      refine (cF rfl).trans ?_
      rw [zgU]; rfl
    | true =>
      refine (cT rfl).trans ?_
      have rb:=(jm rs).1
      have ml:=zrN rb im
      have ml':=ml
      simp only [vg,decide_eq_true_eq] at ml'
      refine (ixR ml').trans ?_
      refine (bnd (zfS (zrJ hr _ ml) ha)).trans ?_
      cases sv:yR (r.1.getD me.2.1.toNat qz) a with
      | false =>
        refine (cF rfl).trans ?_
        rw [zgU]; rfl
      | true =>
        refine (cT rfl).trans ?_
        cases la:zc3 a with
        | false =>
          refine (bnd (zBS hr rb la)).trans ?_
          refine (cF rfl).trans ?_
          rw [zgU]; rfl
        | true =>
          refine (bnd (zty hr rs rt ha la (zyh rs))).trans ?_
          cases hv:zh2 (yf r a s) (yf r a t) with
          | false =>
            refine (cF rfl).trans ?_
            rw [zgU]; rfl
          | true =>
            have al:Al r a s t:=⟨hv,fs,ft⟩
            have a1:=zej rs im
            have he:eqI (.arr 4 tU) (jh s me.2.1 me.2.2.1) (jh t me.2.1 me.2.2.1) = true:=by
              rw [al.row a1.hi sv]; exact zgg (τ:=.arr 4 tU) rfl _
            have e1:yb (r,s,me,()) = some (jh s me.2.1 me.2.2.1,0,()):=by rw [zDb hr hs,rs,im]; rfl
            have e2:yb (r,t,me,()) = some (jh t me.2.1 me.2.2.1,0,()):=by rw [zDb hr ht,rt,im]; rfl
            refine (cT rfl).trans ?_
            refine (bnd (zHQ hr hs hq hn)).trans ?_
            refine (bnd (zHQ hr ht hq hn)).trans ?_
            refine (bnd e1).trans ?_
            refine (bnd e2).trans ?_
            refine (bnd zgU).trans ?_
            refine (cT rfl).trans ?_
            rcases zGG al rs rt im sv (k:=zlN x.1) (i:=x.2.1) (w:=x.2.2.1) (c:=x.2.2.2.1) (n:=x.2.2.2.2.1) with ⟨e,hne,v1,v2⟩ | ⟨v1,v2,hsim⟩
            · rw [v1,v2]
              refine (cT (beq_self_eq_true (α:=Int) e)).trans ?_
              refine (cT hne).trans ?_
              exact (cT he).trans (cT rfl)
            · have hm:vB r s me x.2.2.2.1 x.2.2.2.2.1 = true:=by
                cases hm:vB r s me x.2.2.2.1 x.2.2.2.2.1 with
                | true=>rfl
                | false=>unfold znn at v1; rw [hm] at v1; cases v1
              have hm':vB r t me x.2.2.2.1 x.2.2.2.2.1 = true:=by
                unfold vB at hm ⊢; rw [rs] at hm; rw [rt]; exact hm
              have w1:=zBN hs fs hq (k:=zlN x.1) (i:=x.2.1) (w:=x.2.2.1) hm hn
              have w2:=zBN ht ft hq (k:=zlN x.1) (i:=x.2.1) (w:=x.2.2.1) hm' hn
              generalize znn r s me (zlN x.1) x.2.1 x.2.2.1 x.2.2.2.1 x.2.2.2.2.1 = v at *
              generalize znn r t me (zlN x.1) x.2.1 x.2.2.1 x.2.2.2.1 x.2.2.2.2.1 = w at *
              have r1:z6 r v.1 = true:=by
                rcases w1 with ⟨e,hne,h⟩ | h
                · rw [h] at v1
                  have v0:e = 0:=v1
                  rw [v0] at hne; cases hne
                · exact h.2.right
              have r2:z6 r w.1 = true:=by
                rcases w2 with ⟨e,hne,h⟩ | h
                · rw [h] at v2
                  have v0:e = 0:=v2
                  rw [v0] at hne; cases hne
                · exact h.2.right
              refine (cT (beq_iff_eq.2 (v1.trans v2.symm))).trans ?_
              refine (cF (by rw [v1]; rfl)).trans ?_
              refine (bnd (zty hr r1 r2 ha la (zyh r1))).trans ?_
              refine (cT hsim).trans ?_
              exact (cT he).trans (cT rfl)
end Go.Proofs.YtokcjmkikhgkeaaGreatDoor
end
section
namespace Go.Proofs.YtokcjmkikhgkeaaGreatDoor.fnMoneyAlike
open Go.ChangeShapes Go.WideShapes Go.ChangeAt Go.RowKit Go.Ev
theorem own:ownKnob Tryz.prog.godebug = none:=by kernel_rfl
def zFT:List Int→List Value:=List.map (Value.int .u8)
end Go.Proofs.YtokcjmkikhgkeaaGreatDoor.fnMoneyAlike
end
