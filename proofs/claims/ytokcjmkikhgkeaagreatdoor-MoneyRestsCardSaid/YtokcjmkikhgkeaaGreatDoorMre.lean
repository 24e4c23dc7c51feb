import Derived.Test.YtokcjmkikhgkeaaGreatDoorMrd
import Derived.Shelf.Spec.BitsCarry
import Derived.Test.YtokcjmkikhgkeaaGreatDoorCards
import Derived.Test.YtokcjmkikhgkeaaGreatDoorTie
import Derived.ProofKit
import Derived.OpenShut
import Derived.Deep.DeepHandedRow
set_option linter.unusedVariables false
set_option linter.unusedSimpArgs false
section
namespace Go.Proofs.YtokcjmkikhgkeaaGreatDoor
open Go.Ev
noncomputable section
abbrev zdJ:Type:=Int × Int × Int × Int × List zg × Nat × List (List Int) × Nat × List zn × List zF × List Int × List zg × Nat × List (List Int) × Nat × List zn × List zF × List Int
abbrev zpS:zdJ→St:=fun (v42,v43,o0_0,o1_0,o2,c2,o3,c3,o4,o5,o6,o7,c7,o8,c8,o9,o10,o11)=>St.mk [(2,.bp 0 []),(4,.bp 1 []),(42,.dat tI v42),(43,.dat tI v43)] [.bx (.fld (.pair tU (.pair (.sl zj) (.pair (.sl (.sl tI)) (.pair (.sl zm) (.pair (.sl zr) (.pair (.sl tI) .unit)))))) [.dat tU o0_0,.ow 2,.ow 3,.ow 4,.ow 5,.ow 6]) false,.bx (.fld (.pair tU (.pair (.sl zj) (.pair (.sl (.sl tI)) (.pair (.sl zm) (.pair (.sl zr) (.pair (.sl tI) .unit)))))) [.dat tU o1_0,.ow 7,.ow 8,.ow 9,.ow 10,.ow 11]) false,.drow zj o2 c2,.drow (.sl tI) o3 c3,.row zm o4 false,.row zr o5 false,.row tI o6 false,.drow zj o7 c7,.drow (.sl tI) o8 c8,.row zm o9 false,.row zr o10 false,.row tI o11 false]
abbrev zdK:Type:=(List zad) × Int × Int × zf × Int × Int × List zg × Nat × List (List Int) × Nat × List zn × List zF × List Int × List zg × Nat × List (List Int) × Nat × List zn × List zF × List Int
abbrev zyW:zdK→St:=fun (v18,v19,v20,o0,o1_0,o2_0,o3,c3,o4,c4,o5,o6,o7,o8,c8,o9,c9,o10,o11,o12)=>St.mk [(1,.bp 0 []),(2,.bp 1 []),(4,.bp 2 []),(18,.dat (.sl zcH) v18),(19,.dat tI v19),(20,.dat tI v20)] [.bx (.dat zw o0) false,.bx (.fld (.pair tU (.pair (.sl zj) (.pair (.sl (.sl tI)) (.pair (.sl zm) (.pair (.sl zr) (.pair (.sl tI) .unit)))))) [.dat tU o1_0,.ow 3,.ow 4,.ow 5,.ow 6,.ow 7]) false,.bx (.fld (.pair tU (.pair (.sl zj) (.pair (.sl (.sl tI)) (.pair (.sl zm) (.pair (.sl zr) (.pair (.sl tI) .unit)))))) [.dat tU o2_0,.ow 8,.ow 9,.ow 10,.ow 11,.ow 12]) false,.drow zj o3 c3,.drow (.sl tI) o4 c4,.row zm o5 false,.row zr o6 false,.row tI o7 false,.drow zj o8 c8,.drow (.sl tI) o9 c9,.row zm o10 false,.row zr o11 false,.row tI o12 false]
def zdL (k1:zdJ→Option (zd × (Int × Unit))):zdJ→Option (zd × (Int × Unit)):=fun (v42,v43,o0_0,o1_0,o2,c2,o3,c3,o4,o5,o6,o7,c7,o8,c8,o9,o10,o11) =>
  bif decide (v43 < v42) then bif decide (List.length o11 + List.length (zi (List.replicate 1 (0:Int)) 0 (-1)) ≤ lim) then k1 (v42,wI (v43 + 1),o0_0,o1_0,o2,c2,o3,c3,o4,o5,o6,o7,c7,o8,c8,o9,o10,o11 ++ zi (List.replicate 1 (0:Int)) 0 (-1)) else none else bif decide (c7 = List.length o7) then bif decide (c8 = List.length o8) then some ((o1_0,o7,o8,o9,o10,o11,()),0,()) else none else none
abbrev zdM (K:Nat):zdJ→Option (zd × (Int × Unit)):=zl zdL K
theorem zyX (K:Nat):∀ n,evV Ed8 K Tryz.f24 3 (ch [zu,tI]) [1,1,1,1,1,0,1,0] [] zpS n = zl zdL n:=zt fun n1 (v42,v43,o0_0,o1_0,o2,c2,o3,c3,o4,o5,o6,o7,c7,o8,c8,o9,o10,o11)=>by kernel_rfl
def zbr (L1:zdJ→Option (zd × (Int × Unit))) (k0:zdK→Option (zd × (Int × Unit))):zdK→Option (zd × (Int × Unit)):=fun (v18,v19,v20,o0,o1_0,o2_0,o3,c3,o4,c4,o5,o6,o7,o8,c8,o9,c9,o10,o11,o12) =>
  bif decide (v20 < v19) then inR v20 ((List.length v18):Int) (Option.bind (zf2 (o0,ix qz v18 v20,())) fun q2=>bif decide (List.length o8 + List.length [(q2.1.1,q2.1.2.1,q2.1.2.2.1,q2.1.2.2.2.1,q2.1.2.2.2.2.1,q2.1.2.2.2.2.2.1,q2.1.2.2.2.2.2.2.1,q2.1.2.2.2.2.2.2.2.1,q2.1.2.2.2.2.2.2.2.2.1,())] ≤ lim) then bif decide (c8 = List.length o8) then k0 (v18,v19,wI (v20 + 1),o0,o1_0,o2_0,o3,c3,o4,c4,o5,o6,o7,o8 ++ [(q2.1.1,q2.1.2.1,q2.1.2.2.1,q2.1.2.2.2.1,q2.1.2.2.2.2.1,q2.1.2.2.2.2.2.1,q2.1.2.2.2.2.2.2.1,q2.1.2.2.2.2.2.2.2.1,q2.1.2.2.2.2.2.2.2.2.1,())],c8 + (0 + 1),o9,c9,o10,o11,o12) else none else none) else bif decide (0 < ((List.length o8):Int)) then bif decide (c8 ≤ Int.toNat 0) then bif decide (0 < ((List.length (ix za o8 0).1):Int)) then none else none else bif decide (0 < ((List.length (ix za o8 0).1):Int)) then L1 (((List.length o0.2.1):Int),0,o1_0,o2_0,o3,c3,o4,c4,o5,o6,o7,List.set o8 (Int.toNat 0) (List.set (ix za o8 0).1 (Int.toNat 0) (true,ByteArray.mk #[112,108,97,122,97],(ze qi).2.2),(ix za o8 0).2),c8,o9,c9,o10,o11,o12) else none else none
abbrev zpT (K:Nat):zdK→Option (zd × (Int × Unit)):=zl (fun k0=>zbr (zdM K) k0) K
theorem zyY (K:Nat):∀ n,evV Ed8 K Tryz.f24 3 (ch [zu,tI]) [1,1,1,0,1,0] [] zyW n = zl (fun k0=>zbr (zdM K) k0) n:=zgC (B:=fun L1 k0=>zbr L1 k0) (V1:=fun n0=>evV Ed8 K Tryz.f24 3 (ch [zu,tI]) [1,1,1,1,1,0,1,0] [] zpS K) (W1:=fun k0=>(zdM K)) (fun n0=>zyX K K) fun n0 (v18,v19,v20,o0,o1_0,o2_0,o3,c3,o4,c4,o5,o6,o7,o8,c8,o9,c9,o10,o11,o12)=>by kernel_rfl
def ziY (L0:zdK→Option (zd × (Int × Unit))):(zf × Unit)→Option (zd × (Int × Unit)):=fun (x0,()) =>
  Option.bind (y7 (x0,())) fun q0=>bif q0.1 then Option.bind (zkk (x0,())) fun q1=>bif decide (0 ≤ x0.2.2.2.2.2.1) then bif decide (x0.2.2.2.2.2.1 ≤ x0.2.2.2.2.2.1) then bif decide (x0.2.2.2.2.2.1 ≤ (↑lim:Int)) then L0 (x0.2.2.2.2.1,((List.length x0.2.2.2.2.1):Int),0,x0,0,0,[],0,[],0,[],[],[],[],0,q1.1,List.length q1.1,List.replicate (Int.toNat x0.2.2.2.2.2.1) (ze zm),[],[]) else none else none else none else some ((0,[],[],[],[],[],()),1,())
def zfP:(zf × Unit)→Option (zd × Int × Unit):=ziY (zpT K0)
abbrev zte:Fun:=⟨24,(ch [zw]),(ch [zu,tI]),3,zfP⟩
theorem zCl:Sq zte:=ml8 (d:=true) (S:=fun K=>ziY (zpT K)) Tryz.func24 (by kernel_rfl) (fun K=>tr1 (T:=ziY) (zyY K K) fun (x0,())=>by kernel_rfl) rfl
abbrev L9:List Fun:=zn9 :: ztd :: zte :: L8
theorem h9:Sds Tryz.prog E0 L9:=⟨zxz,zCk,zCl,h8⟩
theorem ms9 {d:Bool} {F:Fun} {f:Go.Func} {K:Nat} (hf:Tryz.prog.funcs[F.id]? = some f) (ho:jI f = true) (h:evF (En E0 d L9) K f F.md F.a F.r = F.spec):Sd Tryz.prog E0 F:=mkS h9 hf ho h
theorem ml9 {d:Bool} {F:Fun} {f:Go.Func} {S:Nat→F.a.I→Option F.r.I} (hf:Tryz.prog.funcs[F.id]? = some f) (ho:jI f = true) (h:∀ K,evF (En E0 d L9) K f F.md F.a F.r = S K) (e:S K0 = F.spec):Sd Tryz.prog E0 F:=mkS h9 hf ho ((h K0).trans e)
abbrev Es9:Env:=En E0 false L9
abbrev zb6:Type:=Bool × Int × Int × List (Option (Unit→Option (Bool × Unit)))
abbrev zwj:zb6→St:=fun (v6,v27,v28,o0)=>St.mk [(6,.dat .bool v6),(26,.ow 0),(27,.dat tI v27),(28,.dat tI v28)] [.row (.fn .unit (.pair .bool .unit)) o0 false]
def zeh (k0:zb6→Option (Bool × Unit)):zb6→Option (Bool × Unit):=fun (v6,v27,v28,o0) =>
  bif decide (v28 < v27) then inR v28 ((List.length o0):Int) (Option.bind (List.getD o0 (Int.toNat v28) (ze (.fn .unit (.pair .bool .unit)))) fun q0=>Option.bind (q0 ()) fun q1=>bif q1.1 then k0 (true,v27,wI (v28 + 1),o0) else some (false,())) else some (v6,())
abbrev zmJ (K:Nat):zb6→Option (Bool × Unit):=zl zeh K
theorem zwk (K:Nat):∀ n,evV Es9 K Tryz.f12 0 (ch [.bool]) [1,0,1,1,1,0,1,0] [] zwj n = zl zeh n:=zt fun n0 (v6,v27,v28,o0)=>by kernel_rfl
def zjJ (L0:zb6→Option (Bool × Unit)):(zf × (zd × Unit))→Option (Bool × Unit):=fun (x0,x1,()) =>
  L0 (true,((List.length (zi (zi (zi (zi (zi (zi (zi (List.replicate 7 (ze (.fn .unit (.pair .bool .unit)))) 0 (some fun z=>zbp ((x0,x1,(ze qe).2.2),()))) 1 (some fun z=>zbq ((x0,x1,(ze qe).2.2),()))) 2 (some fun z=>zaJ ((x0,x1,(ze qe).2.2),()))) 3 (some fun z=>zdF ((x0,x1,(ze qe).2.2),()))) 4 (some fun z=>zaH ((x0,x1,(ze qe).2.2),()))) 5 (some fun z=>zdE ((x0,x1,(ze qe).2.2),()))) 6 (some fun z=>zdI ((x0,x1,(ze qe).2.2),())))):Int),0,[some fun z=>zbp ((x0,x1,(ze qe).2.2),()),some fun z=>zbq ((x0,x1,(ze qe).2.2),()),some fun z=>zaJ ((x0,x1,(ze qe).2.2),()),some fun z=>zdF ((x0,x1,(ze qe).2.2),()),some fun z=>zaH ((x0,x1,(ze qe).2.2),()),some fun z=>zdE ((x0,x1,(ze qe).2.2),()),some fun z=>zdI ((x0,x1,(ze qe).2.2),())])
def zdN:(zf × zd × Unit)→Option (Bool × Unit):=zjJ (zmJ K0)
abbrev zpU:Fun:=⟨12,(ch [zw,zu]),(ch [.bool]),0,zdN⟩
theorem zyZ:Sq zpU:=ml9 (d:=false) (S:=fun K=>zjJ (zmJ K)) Tryz.func12 (by kernel_rfl) (fun K=>tr1 (T:=zjJ) (zwk K K) fun (x0,x1,())=>by kernel_rfl) rfl
def zfQ:(zf × (zd × (zz × Unit)))→Option (zd × (Int × Unit)):=fun (x0,x1,x2,()) =>
  Option.bind (zfP (x0,())) fun q0=>bif q0.2.1 != 0 then some ((0,[],[],[],[],[],()),1,()) else Option.bind (zbm (x2,())) fun q1=>bif q1.1 then Option.bind (ziP (x0,x1,())) fun q2=>bif q2.1 then Option.bind (zd5 (x1.2.1,q0.1.2.1,some fun z=>zbo (z.1,some x0,some x2,()),())) fun q3=>Option.bind (zev (x1.2.2.1,q0.1.2.2.1,some fun z=>zf5 (z.1,some x0,some x2,()),())) fun q4=>Option.bind (zfl (x1.2.2.2.2.2.1,q0.1.2.2.2.2.2.1,some fun z=>zf3 (z.1,some (some fun z_1=>zbo (z_1.1,some x0,some x2,())),some x0,()),())) fun q5=>Option.bind (qt ((x1.1,q3.1,q4.1,x1.2.2.2.1,x1.2.2.2.2.1,q5.1,x1.2.2.2.2.2.2),())) fun q6=>some (q6.1,0,()) else some ((0,[],[],[],[],[],()),1,()) else some ((0,[],[],[],[],[],()),1,())
abbrev ztf:Fun:=⟨45,(ch [zw,zu,zy]),(ch [zu,tI]),0,zfQ⟩
theorem zCm:Sq ztf:=ms9 (d:=false) (K:=0) Tryz.func45 (by kernel_rfl) (funext fun (x0,x1,x2,())=>by kernel_rfl)
abbrev L10:List Fun:=zpU :: ztf :: L9
theorem h10:Sds Tryz.prog E0 L10:=⟨zyZ,zCm,h9⟩
theorem zHn {d:Bool} {F:Fun} {f:Go.Func} {K:Nat} (hf:Tryz.prog.funcs[F.id]? = some f) (ho:jI f = true) (h:evF (En E0 d L10) K f F.md F.a F.r = F.spec):Sd Tryz.prog E0 F:=mkS h10 hf ho h
def za3:(zf × (zd × (pMe × Unit)))→Option (Bool × Unit):=fun (x0,x1,x2,()) =>
  Option.bind (zdN (x0,x1,())) fun q0=>bif q0.1 then bif decide (x2.1 ≥ 0) then bif decide (x2.1 < ((List.length x0.2.1):Int)) then inR x2.1 ((List.length x0.2.1):Int) (bif x2.2.1 == ix (0:Int) x0.2.1 x2.1 then bif decide (x2.2.2.1 ≥ 0) then bif decide (x2.2.2.1 < ((List.length x0.2.2.1):Int)) then some (true,()) else some (false,()) else some (false,()) else some (false,())) else some (false,()) else some (false,()) else some (false,())
abbrev zrB:Fun:=⟨11,(ch [zw,zu,tMe]),(ch [.bool]),0,za3⟩
theorem zAS:Sq zrB:=zHn (d:=false) (K:=0) Tryz.func11 (by kernel_rfl) (funext fun (x0,x1,x2,())=>by kernel_rfl)
def ziZ:(zf × (zd × (zd × (zz × Unit))))→Option (Bool × Unit):=fun (x0,x1,x2,x3,()) =>
  Option.bind (zfQ (x0,x1,x3,())) fun q0=>Option.bind (zfQ (x0,x2,x3,())) fun q1=>bif q0.2.1 == 0 then bif q1.2.1 == 0 then Option.bind (zhA (q0.1,q1.1,())) fun q2=>bif q2.1 then some (true,()) else some (false,()) else some (false,()) else some (false,())
abbrev ztg:Fun:=⟨15,(ch [zw,zu,zu,zy]),(ch [.bool]),0,ziZ⟩
theorem zCn:Sq ztg:=zHn (d:=false) (K:=0) Tryz.func15 (by kernel_rfl) (funext fun (x0,x1,x2,x3,())=>by kernel_rfl)
abbrev L11:List Fun:=zrB :: ztg :: L10
theorem h11:Sds Tryz.prog E0 L11:=⟨zAS,zCn,h10⟩
theorem zHW {d:Bool} {F:Fun} {f:Go.Func} {K:Nat} (hf:Tryz.prog.funcs[F.id]? = some f) (ho:jI f = true) (h:evF (En E0 d L11) K f F.md F.a F.r = F.spec):Sd Tryz.prog E0 F:=mkS h11 hf ho h
theorem zHX {d:Bool} {js:List Nat} {fs:List (Nat × Go.Func)} {n:Nat} {F:Fun} {f:Go.Func} {K:Nat} (hfs:FOk Tryz.prog fs) (hf:Tryz.prog.funcs[F.id]? = some f) (ho:jI f = true) (h:evF ((Ej E0 d js L11).inl fs n) K f F.md F.a F.r = F.spec):Sd Tryz.prog E0 F:=Sd.mkI zDM h11 hfs hf ho h
def zcr:(zf × (zd × (pMe × (Int × (Int × Unit)))))→Option (Bool × Unit):=fun (x0,x1,x2,x3,x4,()) =>
  Option.bind (za3 (x0,x1,x2,())) fun q0=>bif q0.1 then Option.bind (qL (x3,())) fun q1=>bif q1.1 then bif decide (x4 > 0) then some (true,()) else some (false,()) else some (false,()) else some (false,())
abbrev zth:Fun:=⟨17,(ch [zw,zu,tMe,tI,tU]),(ch [.bool]),0,zcr⟩
theorem zCo:Sq zth:=zHW (d:=false) (K:=0) Tryz.func17 (by kernel_rfl) (funext fun (x0,x1,x2,x3,x4,())=>by kernel_rfl)
def zpV:(zf × (zd × (pMe × Unit)))→Option ((List Int) × (Int × Unit)):=fun (x0,x1,x2,()) =>
  Option.bind (za3 (x0,x1,x2,())) fun q0=>bif q0.1 then inR x2.2.1 ((List.length x1.2.1):Int) (inR x2.2.2.1 ((List.length (ix za x1.2.1 x2.2.1).2.2.2.2.2.1):Int) (some (List.getD (ix za x1.2.1 x2.2.1).2.2.2.2.2.1 (Int.toNat x2.2.2.1) (ze (.arr 4 tU)),0,()))) else some ([0,0,0,0],1,())
abbrev zpW:Fun:=⟨16,(ch [zw,zu,tMe]),(ch [(.arr 4 tU),tI]),0,zpV⟩
theorem zy0:Sq zpW:=zHX (d:=false) (js:=[]) (fs:=[(47,Tryz.f47)]) (n:=1) ⟨⟨Tryz.func47,by kernel_rfl⟩,trivial⟩ (K:=0) Tryz.func16 (by kernel_rfl) (funext fun (x0,x1,x2,())=>by kernel_rfl)
abbrev L12:List Fun:=zth :: zpW :: L11
theorem h12:Sds Tryz.prog E0 L12:=⟨zCo,zy0,h11⟩
theorem zDW {d:Bool} {js:List Nat} {fs:List (Nat × Go.Func)} {n:Nat} {F:Fun} {f:Go.Func} {K:Nat} (hfs:FOk Tryz.prog fs) (hf:Tryz.prog.funcs[F.id]? = some f) (ho:jI f = true) (h:evF ((Ej E0 d js L12).inl fs n) K f F.md F.a F.r = F.spec):Sd Tryz.prog E0 F:=Sd.mkI zDM h12 hfs hf ho h
def j9:(zf × (zd × (pMe × (Int × (Int × Unit)))))→Option (zd × (Int × Unit)):=fun (x0,x1,x2,x3,x4,()) =>
  Option.bind (zcr (x0,x1,x2,x3,x4,())) fun q0=>bif q0.1 then inR x2.2.1 ((List.length x0.2.2.2.2.1):Int) (inR x2.2.1 ((List.length x1.2.1):Int) (inR x3 (↑4:Int) (inR x2.2.2.1 ((List.length x0.2.2.1):Int) (bif (ix zda x0.2.2.1 x2.2.2.1).2.2.2.1 then bif decide (x4 ≤ wU ((ix qz x0.2.2.2.2.1 x2.2.1).2.2.2.2.2.1 - List.getD (ix za x1.2.1 x2.2.1).2.2.2.2.2.2.2.1 (Int.toNat x3) (0:Int))) then Option.bind (qt (x1,())) fun q1=>inR x2.2.1 ((List.length q1.1.2.1):Int) (inR x3 (↑4:Int) (inR x2.2.1 ((List.length q1.1.2.1):Int) (inR x3 (↑4:Int) (inR x2.2.1 ((List.length (List.set q1.1.2.1 (Int.toNat x2.2.1) (u7 (ix za q1.1.2.1 x2.2.1) (List.set (ix za q1.1.2.1 x2.2.1).2.2.2.2.2.2.2.1 (Int.toNat x3) (wU (List.getD (ix za q1.1.2.1 x2.2.1).2.2.2.2.2.2.2.1 (Int.toNat x3) (0:Int) + x4)))))):Int) (bif decide (List.length q1.1.2.1 ≤ Int.toNat x2.2.1) then none else inR x2.2.2.1 ((List.length (List.getD (List.set q1.1.2.1 (Int.toNat x2.2.1) (u7 (ix za q1.1.2.1 x2.2.1) (List.set (ix za q1.1.2.1 x2.2.1).2.2.2.2.2.2.2.1 (Int.toNat x3) (wU (List.getD (ix za q1.1.2.1 x2.2.1).2.2.2.2.2.2.2.1 (Int.toNat x3) (0:Int) + x4))))) (Int.toNat x2.2.1) (ze zj)).2.2.2.2.2.1):Int) (Option.bind (zcp (List.getD (List.getD (List.set q1.1.2.1 (Int.toNat x2.2.1) (u7 (ix za q1.1.2.1 x2.2.1) (List.set (ix za q1.1.2.1 x2.2.1).2.2.2.2.2.2.2.1 (Int.toNat x3) (wU (List.getD (ix za q1.1.2.1 x2.2.1).2.2.2.2.2.2.2.1 (Int.toNat x3) (0:Int) + x4))))) (Int.toNat x2.2.1) (ze zj)).2.2.2.2.2.1 (Int.toNat x2.2.2.1) (ze (.arr 4 tU)),x3,x4,())) fun q2=>inR x2.2.1 ((List.length (List.set q1.1.2.1 (Int.toNat x2.2.1) (u7 (ix za q1.1.2.1 x2.2.1) (List.set (ix za q1.1.2.1 x2.2.1).2.2.2.2.2.2.2.1 (Int.toNat x3) (wU (List.getD (ix za q1.1.2.1 x2.2.1).2.2.2.2.2.2.2.1 (Int.toNat x3) (0:Int) + x4)))))):Int) (bif decide (List.length q1.1.2.1 ≤ Int.toNat x2.2.1) then none else inR x2.2.2.1 ((List.length (List.getD (List.set q1.1.2.1 (Int.toNat x2.2.1) (u7 (ix za q1.1.2.1 x2.2.1) (List.set (ix za q1.1.2.1 x2.2.1).2.2.2.2.2.2.2.1 (Int.toNat x3) (wU (List.getD (ix za q1.1.2.1 x2.2.1).2.2.2.2.2.2.2.1 (Int.toNat x3) (0:Int) + x4))))) (Int.toNat x2.2.1) (ze zj)).2.2.2.2.2.1):Int) (bif q2.2.1 != 0 then some ((0,[],[],[],[],[],()),q2.2.1,()) else bif decide (List.length q1.1.2.1 = List.length (List.set (List.set q1.1.2.1 (Int.toNat x2.2.1) (u7 (ix za q1.1.2.1 x2.2.1) (List.set (ix za q1.1.2.1 x2.2.1).2.2.2.2.2.2.2.1 (Int.toNat x3) (wU (List.getD (ix za q1.1.2.1 x2.2.1).2.2.2.2.2.2.2.1 (Int.toNat x3) (0:Int) + x4))))) (Int.toNat x2.2.1) (u5 (List.getD (List.set q1.1.2.1 (Int.toNat x2.2.1) (u7 (ix za q1.1.2.1 x2.2.1) (List.set (ix za q1.1.2.1 x2.2.1).2.2.2.2.2.2.2.1 (Int.toNat x3) (wU (List.getD (ix za q1.1.2.1 x2.2.1).2.2.2.2.2.2.2.1 (Int.toNat x3) (0:Int) + x4))))) (Int.toNat x2.2.1) (ze zj)) (List.set (List.getD (List.set q1.1.2.1 (Int.toNat x2.2.1) (u7 (ix za q1.1.2.1 x2.2.1) (List.set (ix za q1.1.2.1 x2.2.1).2.2.2.2.2.2.2.1 (Int.toNat x3) (wU (List.getD (ix za q1.1.2.1 x2.2.1).2.2.2.2.2.2.2.1 (Int.toNat x3) (0:Int) + x4))))) (Int.toNat x2.2.1) (ze zj)).2.2.2.2.2.1 (Int.toNat x2.2.2.1) q2.1)))) then bif decide (List.length q1.1.2.2.1 = List.length q1.1.2.2.1) then some ((u1 q1.1 (List.set (List.set q1.1.2.1 (Int.toNat x2.2.1) (u7 (ix za q1.1.2.1 x2.2.1) (List.set (ix za q1.1.2.1 x2.2.1).2.2.2.2.2.2.2.1 (Int.toNat x3) (wU (List.getD (ix za q1.1.2.1 x2.2.1).2.2.2.2.2.2.2.1 (Int.toNat x3) (0:Int) + x4))))) (Int.toNat x2.2.1) (u5 (List.getD (List.set q1.1.2.1 (Int.toNat x2.2.1) (u7 (ix za q1.1.2.1 x2.2.1) (List.set (ix za q1.1.2.1 x2.2.1).2.2.2.2.2.2.2.1 (Int.toNat x3) (wU (List.getD (ix za q1.1.2.1 x2.2.1).2.2.2.2.2.2.2.1 (Int.toNat x3) (0:Int) + x4))))) (Int.toNat x2.2.1) (ze zj)) (List.set (List.getD (List.set q1.1.2.1 (Int.toNat x2.2.1) (u7 (ix za q1.1.2.1 x2.2.1) (List.set (ix za q1.1.2.1 x2.2.1).2.2.2.2.2.2.2.1 (Int.toNat x3) (wU (List.getD (ix za q1.1.2.1 x2.2.1).2.2.2.2.2.2.2.1 (Int.toNat x3) (0:Int) + x4))))) (Int.toNat x2.2.1) (ze zj)).2.2.2.2.2.1 (Int.toNat x2.2.2.1) q2.1)))),0,()) else none else none)))))))) else Option.bind (qt (x1,())) fun q3=>some ((0,[],[],[],[],[],()),8,()) else bif decide (x4 ≤ wU ((ix qz x0.2.2.2.2.1 x2.2.1).2.2.2.2.2.1 - List.getD (ix za x1.2.1 x2.2.1).2.2.2.2.2.2.2.1 (Int.toNat x3) (0:Int))) then Option.bind (qt (x1,())) fun q4=>some ((0,[],[],[],[],[],()),5,()) else Option.bind (qt (x1,())) fun q5=>some ((0,[],[],[],[],[],()),5,()))))) else some ((0,[],[],[],[],[],()),1,())
abbrev zrC:Fun:=⟨25,(ch [zw,zu,tMe,tI,tU]),(ch [zu,tI]),3,j9⟩
theorem zAT:Sq zrC:=zDW (d:=true) (js:=[999999]) (fs:=[(19,Tryz.f19),(20,Tryz.f20),(22,Tryz.f22),(58,Tryz.f58),(50,Tryz.f50),(53,Tryz.f53),(47,Tryz.f47)]) (n:=3) ⟨⟨Tryz.func19,by kernel_rfl⟩,⟨Tryz.func20,by kernel_rfl⟩,⟨Tryz.func22,by kernel_rfl⟩,⟨Tryz.func58,by kernel_rfl⟩,⟨Tryz.func50,by kernel_rfl⟩,⟨Tryz.func53,by kernel_rfl⟩,⟨Tryz.func47,by kernel_rfl⟩,trivial⟩ (K:=0) Tryz.func25 (by kernel_rfl) (funext fun (x0,x1,x2,x3,x4,())=>by kernel_rfl)
def vP:(zf × (zd × (pMe × (Int × (Int × Unit)))))→Option (zd × (Int × Unit)):=fun (x0,x1,x2,x3,x4,()) =>
  Option.bind (zcr (x0,x1,x2,x3,x4,())) fun q0=>bif q0.1 then Option.bind (qt (x1,())) fun q1=>inR x2.2.1 ((List.length q1.1.2.1):Int) (bif decide (List.length q1.1.2.1 ≤ Int.toNat x2.2.1) then none else inR x2.2.2.1 ((List.length (ix za q1.1.2.1 x2.2.1).2.2.2.2.2.1):Int) (Option.bind (zcq (List.getD (ix za q1.1.2.1 x2.2.1).2.2.2.2.2.1 (Int.toNat x2.2.2.1) (ze (.arr 4 tU)),x3,x4,())) fun q2=>inR x2.2.1 ((List.length q1.1.2.1):Int) (bif decide (List.length q1.1.2.1 ≤ Int.toNat x2.2.1) then none else inR x2.2.2.1 ((List.length (ix za q1.1.2.1 x2.2.1).2.2.2.2.2.1):Int) (bif q2.2.1 != 0 then some ((0,[],[],[],[],[],()),q2.2.1,()) else inR x2.2.1 ((List.length (List.set q1.1.2.1 (Int.toNat x2.2.1) (u5 (ix za q1.1.2.1 x2.2.1) (List.set (ix za q1.1.2.1 x2.2.1).2.2.2.2.2.1 (Int.toNat x2.2.2.1) q2.1)))):Int) (inR x3 (↑4:Int) (inR x2.2.1 ((List.length (List.set q1.1.2.1 (Int.toNat x2.2.1) (u5 (ix za q1.1.2.1 x2.2.1) (List.set (ix za q1.1.2.1 x2.2.1).2.2.2.2.2.1 (Int.toNat x2.2.2.1) q2.1)))):Int) (inR x3 (↑4:Int) (bif decide (List.length q1.1.2.1 = List.length (List.set (List.set q1.1.2.1 (Int.toNat x2.2.1) (u5 (ix za q1.1.2.1 x2.2.1) (List.set (ix za q1.1.2.1 x2.2.1).2.2.2.2.2.1 (Int.toNat x2.2.2.1) q2.1))) (Int.toNat x2.2.1) (u8 (List.getD (List.set q1.1.2.1 (Int.toNat x2.2.1) (u5 (ix za q1.1.2.1 x2.2.1) (List.set (ix za q1.1.2.1 x2.2.1).2.2.2.2.2.1 (Int.toNat x2.2.2.1) q2.1))) (Int.toNat x2.2.1) (ze zj)) (List.set (List.getD (List.set q1.1.2.1 (Int.toNat x2.2.1) (u5 (ix za q1.1.2.1 x2.2.1) (List.set (ix za q1.1.2.1 x2.2.1).2.2.2.2.2.1 (Int.toNat x2.2.2.1) q2.1))) (Int.toNat x2.2.1) (ze zj)).2.2.2.2.2.2.2.2.1 (Int.toNat x3) (wU (List.getD (List.getD (List.set q1.1.2.1 (Int.toNat x2.2.1) (u5 (ix za q1.1.2.1 x2.2.1) (List.set (ix za q1.1.2.1 x2.2.1).2.2.2.2.2.1 (Int.toNat x2.2.2.1) q2.1))) (Int.toNat x2.2.1) (ze zj)).2.2.2.2.2.2.2.2.1 (Int.toNat x3) (0:Int) + x4)))))) then bif decide (List.length q1.1.2.2.1 = List.length q1.1.2.2.1) then some ((u1 q1.1 (List.set (List.set q1.1.2.1 (Int.toNat x2.2.1) (u5 (ix za q1.1.2.1 x2.2.1) (List.set (ix za q1.1.2.1 x2.2.1).2.2.2.2.2.1 (Int.toNat x2.2.2.1) q2.1))) (Int.toNat x2.2.1) (u8 (List.getD (List.set q1.1.2.1 (Int.toNat x2.2.1) (u5 (ix za q1.1.2.1 x2.2.1) (List.set (ix za q1.1.2.1 x2.2.1).2.2.2.2.2.1 (Int.toNat x2.2.2.1) q2.1))) (Int.toNat x2.2.1) (ze zj)) (List.set (List.getD (List.set q1.1.2.1 (Int.toNat x2.2.1) (u5 (ix za q1.1.2.1 x2.2.1) (List.set (ix za q1.1.2.1 x2.2.1).2.2.2.2.2.1 (Int.toNat x2.2.2.1) q2.1))) (Int.toNat x2.2.1) (ze zj)).2.2.2.2.2.2.2.2.1 (Int.toNat x3) (wU (List.getD (List.getD (List.set q1.1.2.1 (Int.toNat x2.2.1) (u5 (ix za q1.1.2.1 x2.2.1) (List.set (ix za q1.1.2.1 x2.2.1).2.2.2.2.2.1 (Int.toNat x2.2.2.1) q2.1))) (Int.toNat x2.2.1) (ze zj)).2.2.2.2.2.2.2.2.1 (Int.toNat x3) (0:Int) + x4)))))),0,()) else none else none)))))))) else some ((0,[],[],[],[],[],()),1,())
abbrev zrD:Fun:=⟨26,(ch [zw,zu,tMe,tI,tU]),(ch [zu,tI]),3,vP⟩
theorem zAU:Sq zrD:=zDW (d:=true) (js:=[999999]) (fs:=[(19,Tryz.f19),(21,Tryz.f21),(59,Tryz.f59),(51,Tryz.f51),(47,Tryz.f47)]) (n:=3) ⟨⟨Tryz.func19,by kernel_rfl⟩,⟨Tryz.func21,by kernel_rfl⟩,⟨Tryz.func59,by kernel_rfl⟩,⟨Tryz.func51,by kernel_rfl⟩,⟨Tryz.func47,by kernel_rfl⟩,trivial⟩ (K:=0) Tryz.func26 (by kernel_rfl) (funext fun (x0,x1,x2,x3,x4,())=>by kernel_rfl)
def yC:(zf × (zd × (pMe × (Int × (Int × (Int × Unit))))))→Option (zd × (Int × Unit)):=fun (x0,x1,x2,x3,x4,x5,()) =>
  Option.bind (zcr (x0,x1,x2,x4,x5,())) fun q0=>bif q0.1 then bif x3 == x2.2.2.1 then some ((0,[],[],[],[],[],()),1,()) else Option.bind (za3 (x0,x1,(x2.1,x2.2.1,x3,(ze tMe).2.2.2),())) fun q1=>bif q1.1 then Option.bind (qt (x1,())) fun q2=>inR x2.2.1 ((List.length q2.1.2.1):Int) (bif decide (List.length q2.1.2.1 ≤ Int.toNat x2.2.1) then none else inR x2.2.2.1 ((List.length (ix za q2.1.2.1 x2.2.1).2.2.2.2.2.1):Int) (Option.bind (zcq (List.getD (ix za q2.1.2.1 x2.2.1).2.2.2.2.2.1 (Int.toNat x2.2.2.1) (ze (.arr 4 tU)),x4,x5,())) fun q3=>inR x2.2.1 ((List.length q2.1.2.1):Int) (bif decide (List.length q2.1.2.1 ≤ Int.toNat x2.2.1) then none else inR x2.2.2.1 ((List.length (ix za q2.1.2.1 x2.2.1).2.2.2.2.2.1):Int) (bif q3.2.1 != 0 then some ((0,[],[],[],[],[],()),q3.2.1,()) else inR x2.2.1 ((List.length (List.set q2.1.2.1 (Int.toNat x2.2.1) (u5 (ix za q2.1.2.1 x2.2.1) (List.set (ix za q2.1.2.1 x2.2.1).2.2.2.2.2.1 (Int.toNat x2.2.2.1) q3.1)))):Int) (bif decide (List.length q2.1.2.1 ≤ Int.toNat x2.2.1) then none else inR x3 ((List.length (List.getD (List.set q2.1.2.1 (Int.toNat x2.2.1) (u5 (ix za q2.1.2.1 x2.2.1) (List.set (ix za q2.1.2.1 x2.2.1).2.2.2.2.2.1 (Int.toNat x2.2.2.1) q3.1))) (Int.toNat x2.2.1) (ze zj)).2.2.2.2.2.1):Int) (Option.bind (zcp (List.getD (List.getD (List.set q2.1.2.1 (Int.toNat x2.2.1) (u5 (ix za q2.1.2.1 x2.2.1) (List.set (ix za q2.1.2.1 x2.2.1).2.2.2.2.2.1 (Int.toNat x2.2.2.1) q3.1))) (Int.toNat x2.2.1) (ze zj)).2.2.2.2.2.1 (Int.toNat x3) (ze (.arr 4 tU)),x4,x5,())) fun q4=>inR x2.2.1 ((List.length (List.set q2.1.2.1 (Int.toNat x2.2.1) (u5 (ix za q2.1.2.1 x2.2.1) (List.set (ix za q2.1.2.1 x2.2.1).2.2.2.2.2.1 (Int.toNat x2.2.2.1) q3.1)))):Int) (bif decide (List.length q2.1.2.1 ≤ Int.toNat x2.2.1) then none else inR x3 ((List.length (List.getD (List.set q2.1.2.1 (Int.toNat x2.2.1) (u5 (ix za q2.1.2.1 x2.2.1) (List.set (ix za q2.1.2.1 x2.2.1).2.2.2.2.2.1 (Int.toNat x2.2.2.1) q3.1))) (Int.toNat x2.2.1) (ze zj)).2.2.2.2.2.1):Int) (bif q4.2.1 != 0 then some ((0,[],[],[],[],[],()),q4.2.1,()) else bif decide (List.length q2.1.2.1 = List.length (List.set (List.set q2.1.2.1 (Int.toNat x2.2.1) (u5 (ix za q2.1.2.1 x2.2.1) (List.set (ix za q2.1.2.1 x2.2.1).2.2.2.2.2.1 (Int.toNat x2.2.2.1) q3.1))) (Int.toNat x2.2.1) (u5 (List.getD (List.set q2.1.2.1 (Int.toNat x2.2.1) (u5 (ix za q2.1.2.1 x2.2.1) (List.set (ix za q2.1.2.1 x2.2.1).2.2.2.2.2.1 (Int.toNat x2.2.2.1) q3.1))) (Int.toNat x2.2.1) (ze zj)) (List.set (List.getD (List.set q2.1.2.1 (Int.toNat x2.2.1) (u5 (ix za q2.1.2.1 x2.2.1) (List.set (ix za q2.1.2.1 x2.2.1).2.2.2.2.2.1 (Int.toNat x2.2.2.1) q3.1))) (Int.toNat x2.2.1) (ze zj)).2.2.2.2.2.1 (Int.toNat x3) q4.1)))) then bif decide (List.length q2.1.2.2.1 = List.length q2.1.2.2.1) then some ((u1 q2.1 (List.set (List.set q2.1.2.1 (Int.toNat x2.2.1) (u5 (ix za q2.1.2.1 x2.2.1) (List.set (ix za q2.1.2.1 x2.2.1).2.2.2.2.2.1 (Int.toNat x2.2.2.1) q3.1))) (Int.toNat x2.2.1) (u5 (List.getD (List.set q2.1.2.1 (Int.toNat x2.2.1) (u5 (ix za q2.1.2.1 x2.2.1) (List.set (ix za q2.1.2.1 x2.2.1).2.2.2.2.2.1 (Int.toNat x2.2.2.1) q3.1))) (Int.toNat x2.2.1) (ze zj)) (List.set (List.getD (List.set q2.1.2.1 (Int.toNat x2.2.1) (u5 (ix za q2.1.2.1 x2.2.1) (List.set (ix za q2.1.2.1 x2.2.1).2.2.2.2.2.1 (Int.toNat x2.2.2.1) q3.1))) (Int.toNat x2.2.1) (ze zj)).2.2.2.2.2.1 (Int.toNat x3) q4.1)))),0,()) else none else none)))))))) else some ((0,[],[],[],[],[],()),1,()) else some ((0,[],[],[],[],[],()),1,())
abbrev zti:Fun:=⟨27,(ch [zw,zu,tMe,tI,tI,tU]),(ch [zu,tI]),3,yC⟩
theorem zCp:Sq zti:=zDW (d:=true) (js:=[999999]) (fs:=[(19,Tryz.f19),(21,Tryz.f21),(22,Tryz.f22),(51,Tryz.f51),(53,Tryz.f53),(47,Tryz.f47)]) (n:=3) ⟨⟨Tryz.func19,by kernel_rfl⟩,⟨Tryz.func21,by kernel_rfl⟩,⟨Tryz.func22,by kernel_rfl⟩,⟨Tryz.func51,by kernel_rfl⟩,⟨Tryz.func53,by kernel_rfl⟩,⟨Tryz.func47,by kernel_rfl⟩,trivial⟩ (K:=0) Tryz.func27 (by kernel_rfl) (funext fun (x0,x1,x2,x3,x4,x5,())=>by kernel_rfl)
def vQ:(zf × (zd × (pMe × (Int × (Int × (Int × (Int × Unit)))))))→Option (zd × (Int × Unit)):=fun (x0,x1,x2,x3,x4,x5,x6,()) =>
  Option.bind (zcr (x0,x1,x2,x5,x6,())) fun q0=>bif q0.1 then bif decide (x3 < 0) then some ((0,[],[],[],[],[],()),1,()) else bif decide (x3 ≥ ((List.length x0.1):Int)) then some ((0,[],[],[],[],[],()),1,()) else bif decide (x4 < 0) then some ((0,[],[],[],[],[],()),1,()) else bif decide (x4 ≥ ((List.length x0.2.2.1):Int)) then some ((0,[],[],[],[],[],()),1,()) else bif x3 != x2.2.1 then Option.bind (ziX (x0,x2.2.1,x3,())) fun q1=>bif q1.1 then Option.bind (qt (x1,())) fun q2=>inR x2.2.1 ((List.length q2.1.2.1):Int) (bif decide (List.length q2.1.2.1 ≤ Int.toNat x2.2.1) then none else inR x2.2.2.1 ((List.length (ix za q2.1.2.1 x2.2.1).2.2.2.2.2.1):Int) (Option.bind (zcq (List.getD (ix za q2.1.2.1 x2.2.1).2.2.2.2.2.1 (Int.toNat x2.2.2.1) (ze (.arr 4 tU)),x5,x6,())) fun q3=>inR x2.2.1 ((List.length q2.1.2.1):Int) (bif decide (List.length q2.1.2.1 ≤ Int.toNat x2.2.1) then none else inR x2.2.2.1 ((List.length (ix za q2.1.2.1 x2.2.1).2.2.2.2.2.1):Int) (bif q3.2.1 != 0 then some ((0,[],[],[],[],[],()),q3.2.1,()) else inR x3 ((List.length (List.set q2.1.2.1 (Int.toNat x2.2.1) (u5 (ix za q2.1.2.1 x2.2.1) (List.set (ix za q2.1.2.1 x2.2.1).2.2.2.2.2.1 (Int.toNat x2.2.2.1) q3.1)))):Int) (bif decide (List.length q2.1.2.1 ≤ Int.toNat x3) then none else inR x4 ((List.length (List.getD (List.set q2.1.2.1 (Int.toNat x2.2.1) (u5 (ix za q2.1.2.1 x2.2.1) (List.set (ix za q2.1.2.1 x2.2.1).2.2.2.2.2.1 (Int.toNat x2.2.2.1) q3.1))) (Int.toNat x3) (ze zj)).2.2.2.2.2.1):Int) (Option.bind (zcp (List.getD (List.getD (List.set q2.1.2.1 (Int.toNat x2.2.1) (u5 (ix za q2.1.2.1 x2.2.1) (List.set (ix za q2.1.2.1 x2.2.1).2.2.2.2.2.1 (Int.toNat x2.2.2.1) q3.1))) (Int.toNat x3) (ze zj)).2.2.2.2.2.1 (Int.toNat x4) (ze (.arr 4 tU)),x5,x6,())) fun q4=>inR x3 ((List.length (List.set q2.1.2.1 (Int.toNat x2.2.1) (u5 (ix za q2.1.2.1 x2.2.1) (List.set (ix za q2.1.2.1 x2.2.1).2.2.2.2.2.1 (Int.toNat x2.2.2.1) q3.1)))):Int) (bif decide (List.length q2.1.2.1 ≤ Int.toNat x3) then none else inR x4 ((List.length (List.getD (List.set q2.1.2.1 (Int.toNat x2.2.1) (u5 (ix za q2.1.2.1 x2.2.1) (List.set (ix za q2.1.2.1 x2.2.1).2.2.2.2.2.1 (Int.toNat x2.2.2.1) q3.1))) (Int.toNat x3) (ze zj)).2.2.2.2.2.1):Int) (bif q4.2.1 != 0 then some ((0,[],[],[],[],[],()),q4.2.1,()) else bif decide (List.length q2.1.2.1 = List.length (List.set (List.set q2.1.2.1 (Int.toNat x2.2.1) (u5 (ix za q2.1.2.1 x2.2.1) (List.set (ix za q2.1.2.1 x2.2.1).2.2.2.2.2.1 (Int.toNat x2.2.2.1) q3.1))) (Int.toNat x3) (u5 (List.getD (List.set q2.1.2.1 (Int.toNat x2.2.1) (u5 (ix za q2.1.2.1 x2.2.1) (List.set (ix za q2.1.2.1 x2.2.1).2.2.2.2.2.1 (Int.toNat x2.2.2.1) q3.1))) (Int.toNat x3) (ze zj)) (List.set (List.getD (List.set q2.1.2.1 (Int.toNat x2.2.1) (u5 (ix za q2.1.2.1 x2.2.1) (List.set (ix za q2.1.2.1 x2.2.1).2.2.2.2.2.1 (Int.toNat x2.2.2.1) q3.1))) (Int.toNat x3) (ze zj)).2.2.2.2.2.1 (Int.toNat x4) q4.1)))) then bif decide (List.length q2.1.2.2.1 = List.length q2.1.2.2.1) then some ((u1 q2.1 (List.set (List.set q2.1.2.1 (Int.toNat x2.2.1) (u5 (ix za q2.1.2.1 x2.2.1) (List.set (ix za q2.1.2.1 x2.2.1).2.2.2.2.2.1 (Int.toNat x2.2.2.1) q3.1))) (Int.toNat x3) (u5 (List.getD (List.set q2.1.2.1 (Int.toNat x2.2.1) (u5 (ix za q2.1.2.1 x2.2.1) (List.set (ix za q2.1.2.1 x2.2.1).2.2.2.2.2.1 (Int.toNat x2.2.2.1) q3.1))) (Int.toNat x3) (ze zj)) (List.set (List.getD (List.set q2.1.2.1 (Int.toNat x2.2.1) (u5 (ix za q2.1.2.1 x2.2.1) (List.set (ix za q2.1.2.1 x2.2.1).2.2.2.2.2.1 (Int.toNat x2.2.2.1) q3.1))) (Int.toNat x3) (ze zj)).2.2.2.2.2.1 (Int.toNat x4) q4.1)))),0,()) else none else none)))))))) else Option.bind (qt (x1,())) fun q5=>some ((0,[],[],[],[],[],()),5,()) else Option.bind (qt (x1,())) fun q6=>some ((0,[],[],[],[],[],()),5,()) else some ((0,[],[],[],[],[],()),1,())
abbrev zrE:Fun:=⟨6,(ch [zw,zu,tMe,tI,tI,tI,tU]),(ch [zu,tI]),3,vQ⟩
theorem zAV:Sq zrE:=zDW (d:=true) (js:=[999999]) (fs:=[(19,Tryz.f19),(20,Tryz.f20),(21,Tryz.f21),(22,Tryz.f22),(50,Tryz.f50),(51,Tryz.f51),(53,Tryz.f53),(47,Tryz.f47)]) (n:=3) ⟨⟨Tryz.func19,by kernel_rfl⟩,⟨Tryz.func20,by kernel_rfl⟩,⟨Tryz.func21,by kernel_rfl⟩,⟨Tryz.func22,by kernel_rfl⟩,⟨Tryz.func50,by kernel_rfl⟩,⟨Tryz.func51,by kernel_rfl⟩,⟨Tryz.func53,by kernel_rfl⟩,⟨Tryz.func47,by kernel_rfl⟩,trivial⟩ (K:=0) Tryz.func6 (by kernel_rfl) (funext fun (x0,x1,x2,x3,x4,x5,x6,())=>by kernel_rfl)
abbrev L13:List Fun:=zrC :: zrD :: zti :: zrE :: L12
theorem h13:Sds Tryz.prog E0 L13:=⟨zAT,zAU,zCp,zAV,h12⟩
theorem zHo {d:Bool} {F:Fun} {f:Go.Func} {K:Nat} (hf:Tryz.prog.funcs[F.id]? = some f) (ho:jI f = true) (h:evF (En E0 d L13) K f F.md F.a F.r = F.spec):Sd Tryz.prog E0 F:=mkS h13 hf ho h
def zkl:(zf × (zd × (pMe × (jR × Unit))))→Option (zd × (Int × Unit)):=fun (x0,x1,x2,x3,()) =>
  bif x3.1 == 1 then Option.bind (j9 (x0,x1,x2,x3.2.2.2.1,x3.2.2.2.2.1,())) fun q0=>some q0 else bif x3.1 == 2 then Option.bind (vP (x0,x1,x2,x3.2.2.2.1,x3.2.2.2.2.1,())) fun q1=>some q1 else bif x3.1 == 3 then Option.bind (yC (x0,x1,x2,x3.2.2.1,x3.2.2.2.1,x3.2.2.2.2.1,())) fun q2=>some q2 else Option.bind (vQ (x0,x1,x2,x3.2.1,x3.2.2.1,x3.2.2.2.1,x3.2.2.2.2.1,())) fun q3=>some q3
abbrev zwl:Fun:=⟨10,(ch [zw,zu,tMe,qD]),(ch [zu,tI]),0,zkl⟩
theorem zDX:Sq zwl:=zHo (d:=false) (K:=0) Tryz.func10 (by kernel_rfl) (funext fun (x0,x1,x2,x3,())=>by kernel_rfl)
def y8:Unit→Option (Bool × Unit):=fun () =>
  Option.bind (zpv ()) fun q0=>Option.bind (zfP (q0.1,())) fun q1=>Option.bind (j9 (q0.1,q1.1,(1,1,(ze tMe).2.2),2,5,())) fun q2=>Option.bind (vP (q0.1,q2.1,(1,1,(ze tMe).2.2),2,2,())) fun q3=>Option.bind (zpV (q0.1,q3.1,(1,1,(ze tMe).2.2),())) fun q4=>Option.bind (yC (q0.1,q3.1,(1,1,(ze tMe).2.2),1,2,1,())) fun q5=>Option.bind (vQ (q0.1,q5.1,(1,1,(ze tMe).2.2),2,1,2,2,())) fun q6=>Option.bind (vQ (q0.1,q5.1,(1,1,(ze tMe).2.2),0,1,2,2,())) fun q7=>Option.bind (vP (q0.1,q6.1,(1,1,(ze tMe).2.2),2,1,())) fun q8=>Option.bind (j9 (q0.1,q1.1,(u2 (u0 (ze tMe) 0) 1),2,5,())) fun q9=>Option.bind (j9 (q0.1,q2.1,(1,1,(ze tMe).2.2),2,996,())) fun q10=>Option.bind (yC (q0.1,q3.1,(1,1,(ze tMe).2.2),0,2,1,())) fun q11=>bif q1.2.1 != 0 then some (false,()) else bif q2.2.1 != 0 then some (false,()) else bif q3.2.1 != 0 then some (false,()) else bif q4.2.1 != 0 then some (false,()) else bif q5.2.1 != 0 then some (false,()) else bif q6.2.1 != 0 then some (false,()) else bif ((List.length q6.1.2.1):Int) != 3 then some (false,()) else bif eqI (.arr 4 tU) q4.1 (zi (zi (zi (ze (.arr 4 tU)) 0 0) 1 0) 2 3) then bif decide (2 < ((List.length q6.1.2.1):Int)) then bif decide (1 < ((List.length (ix za q6.1.2.1 2).2.2.2.2.2.1):Int)) then bif List.getD (List.getD (ix za q6.1.2.1 2).2.2.2.2.2.1 (Int.toNat 1) (ze (.arr 4 tU))) (Int.toNat 2) (0:Int) == 2 then bif decide (1 < ((List.length q6.1.2.1):Int)) then bif decide (1 < ((List.length (ix za q6.1.2.1 1).2.2.2.2.2.1):Int)) then bif List.getD (List.getD (ix za q6.1.2.1 1).2.2.2.2.2.1 (Int.toNat 1) (ze (.arr 4 tU))) (Int.toNat 2) (0:Int) == 1 then bif q7.2.1 == 5 then bif q8.2.1 == 6 then bif q9.2.1 == 5 then bif q10.2.1 == 8 then bif q11.2.1 == 1 then bif decide (1 < ((List.length q1.1.2.1):Int)) then bif List.getD (ix za q1.1.2.1 1).2.2.2.2.2.2.2.1 (Int.toNat 2) (0:Int) == 0 then bif decide (1 < ((List.length q6.1.2.1):Int)) then bif List.getD (ix za q6.1.2.1 1).2.2.2.2.2.2.2.2.1 (Int.toNat 2) (0:Int) == 2 then some (true,()) else some (false,()) else none else some (false,()) else none else some (false,()) else some (false,()) else some (false,()) else some (false,()) else some (false,()) else some (false,()) else none else none else some (false,()) else none else none else some (false,())
abbrev zpX:Fun:=⟨7,.unit,(ch [.bool]),0,y8⟩
theorem zy1:Sq zpX:=zHo (d:=false) (K:=0) Tryz.func7 (by kernel_rfl) (funext fun ()=>by kernel_rfl)
abbrev L14:List Fun:=zwl :: zpX :: L13
theorem h14:Sds Tryz.prog E0 L14:=⟨zDX,zy1,h13⟩
theorem zHY {d:Bool} {F:Fun} {f:Go.Func} {S:Nat→F.a.I→Option F.r.I} (hf:Tryz.prog.funcs[F.id]? = some f) (ho:jI f = true) (h:∀ K,evF (En E0 d L14) K f F.md F.a F.r = S K) (e:S K0 = F.spec):Sd Tryz.prog E0 F:=mkS h14 hf ho ((h K0).trans e)
abbrev zHZ:Env:=En E0 false L14
abbrev vR:Type:=Int × zf × zd × pMe × jR × zz × zd
abbrev zoX:vR→St:=fun (v13,o0,o1,o2,o3,o4,o5)=>St.mk [(5,.bp 0 []),(6,.bp 1 []),(7,.bp 2 []),(8,.bp 3 []),(9,.bp 4 []),(11,.bp 5 []),(13,.dat tI v13)] [.bx (.dat zw o0) false,.bx (.dat zu o1) false,.bx (.dat tMe o2) false,.bx (.dat qD o3) false,.bx (.dat zy o4) false,.bx (.dat zu o5) false]
def vS (k0:vR→Option (Bool × Unit)):vR→Option (Bool × Unit):=fun (v13,o0,o1,o2,o3,o4,o5) =>
  bif decide (v13 < 4) then Option.bind (zc0 (o1,v13,())) fun q4=>Option.bind (zc0 (o5,v13,())) fun q5=>bif q4.2.1 != 0 then some (false,()) else bif q5.2.1 != 0 then some (false,()) else bif v13 == o3.2.2.2.1 then bif o3.1 == 1 then bif v13 == o3.2.2.2.1 then bif o3.1 == 2 then bif wU (q4.1 + o3.2.2.2.2.1) != wU (q5.1 + o3.2.2.2.2.1) then some (false,()) else k0 (wI (v13 + 1),o0,o1,o2,o3,o4,o5) else bif wU (q4.1 + o3.2.2.2.2.1) != q5.1 then some (false,()) else k0 (wI (v13 + 1),o0,o1,o2,o3,o4,o5) else bif wU (q4.1 + o3.2.2.2.2.1) != q5.1 then some (false,()) else k0 (wI (v13 + 1),o0,o1,o2,o3,o4,o5) else bif v13 == o3.2.2.2.1 then bif o3.1 == 2 then bif q4.1 != wU (q5.1 + o3.2.2.2.2.1) then some (false,()) else k0 (wI (v13 + 1),o0,o1,o2,o3,o4,o5) else bif q4.1 != q5.1 then some (false,()) else k0 (wI (v13 + 1),o0,o1,o2,o3,o4,o5) else bif q4.1 != q5.1 then some (false,()) else k0 (wI (v13 + 1),o0,o1,o2,o3,o4,o5) else bif v13 == o3.2.2.2.1 then bif o3.1 == 2 then bif q4.1 != wU (q5.1 + o3.2.2.2.2.1) then some (false,()) else k0 (wI (v13 + 1),o0,o1,o2,o3,o4,o5) else bif q4.1 != q5.1 then some (false,()) else k0 (wI (v13 + 1),o0,o1,o2,o3,o4,o5) else bif q4.1 != q5.1 then some (false,()) else k0 (wI (v13 + 1),o0,o1,o2,o3,o4,o5) else inR o2.2.1 ((List.length o0.1):Int) (Option.bind (zaC (ix qy o0.1 o2.2.1,o4,())) fun q6=>bif q6.1 then Option.bind (y8 ()) fun q7=>bif q7.1 then some (true,()) else some (false,()) else Option.bind (zbm (o4,())) fun q8=>bif q8.1 then Option.bind (y8 ()) fun q9=>bif q9.1 then Option.bind (ziZ (o0,o1,o5,o4,())) fun q10=>bif q10.1 then some (true,()) else some (false,()) else some (false,()) else Option.bind (y8 ()) fun q11=>bif q11.1 then some (true,()) else some (false,()))
abbrev zhM (K:Nat):vR→Option (Bool × Unit):=zl vS K
theorem zoY (K:Nat):∀ n,evV zHZ K Tryz.f4 0 (ch [.bool]) [1,1,1,1,0,1,0] [] zoX n = zl vS n:=zt fun n0 (v13,o0,o1,o2,o3,o4,o5)=>by kernel_rfl
def zb7 (L0:vR→Option (Bool × Unit)):(zf × (zd × (pMe × (jR × (zz × Unit)))))→Option (Bool × Unit):=fun (x0,x1,x2,x3,x4,()) =>
  Option.bind (zkl (x0,x1,x2,x3,())) fun q0=>bif q0.2.1 != 0 then Option.bind (y8 ()) fun q1=>bif q1.1 then Option.bind (za3 (x0,x1,x2,())) fun q2=>bif q2.1 then bif ((List.length q0.1.2.1):Int) == 0 then some (true,()) else some (false,()) else bif q0.2.1 == 1 then bif ((List.length q0.1.2.1):Int) == 0 then some (true,()) else some (false,()) else some (false,()) else some (false,()) else Option.bind (zdN (x0,q0.1,())) fun q3=>bif q3.1 then L0 (0,x0,x1,x2,x3,x4,q0.1) else some (false,())
def P_law30_MoneyRests:(zf × zd × pMe × jR × zz × Unit)→Option (Bool × Unit):=zb7 (zhM K0)
abbrev zrF:Fun:=⟨4,(ch [zw,zu,tMe,qD,zy]),(ch [.bool]),0,P_law30_MoneyRests⟩
theorem s_law30_MoneyRests:Sq zrF:=zHY (d:=false) (S:=fun K=>zb7 (zhM K)) Tryz.func4 (by kernel_rfl) (fun K=>tr1 (T:=zb7) (zoY K K) fun (x0,x1,x2,x3,x4,())=>by kernel_rfl) rfl
end
end Go.Proofs.YtokcjmkikhgkeaaGreatDoor
end
section
namespace Go.Proofs.YtokcjmkikhgkeaaGreatDoor
open Go.Ev
theorem zwm {l:List Int} {g:Int × Unit→Option (Bool × Unit)} {p:Int→Bool} (hl:l.length ≤ Go.maxLen) (hp:∀ x ∈ l,g (x,()) = some (p x,())):zbC (l,some g,()) = some (vC p l 0,()):=qH (τ:=tI) (B:=zdf) (fun _ _ _ _ _=>rfl) hl hp
theorem zb8 {l:List Int} {g:Int × Unit→Option (Bool × Unit)} {p:Int→Bool} (hl:l.length ≤ Go.maxLen) (hp:∀ x ∈ l,g (x,()) = some (p x,())):qB (l,some g,()) = some (l.any p,()):=qk (τ:=tI) (f:=zbC) (zwm hl hp)
theorem zsJ {l:List zz} {g:zz × Unit→Option (Bool × Unit)} {p:zz→Bool} (hl:l.length ≤ Go.maxLen) (hp:∀ x ∈ l,g (x,()) = some (p x,())):zao (l,some g,()) = some (vC p l 0,()):=qH (τ:=zy) (B:=zcg) (fun _ _ _ _ _=>rfl) hl hp
theorem zhN {l:List zz} {g:zz × Unit→Option (Bool × Unit)} {p:zz→Bool} (hl:l.length ≤ Go.maxLen) (hp:∀ x ∈ l,g (x,()) = some (p x,())):yb (l,some g,()) = some (l.any p,()):=qk (τ:=zy) (f:=zao) (zsJ hl hp)
theorem zqp {l:List qO} {g:qO × Unit→Option (Bool × Unit)} {p:qO→Bool} (hl:l.length ≤ Go.maxLen) (hp:∀ x ∈ l,g (x,()) = some (p x,())):yB (l,some g,()) = some (vC p l 0,()):=qH (τ:=qN) (B:=zaQ) (fun _ _ _ _ _=>rfl) hl hp
theorem znf {l:List qO} {g:qO × Unit→Option (Bool × Unit)} {p:qO→Bool} (hl:l.length ≤ Go.maxLen) (hp:∀ x ∈ l,g (x,()) = some (p x,())):zat (l,some g,()) = some (l.any p,()):=qk (τ:=qN) (f:=yB) (zqp hl hp)
theorem zsK {l:List zg} {g:zg × Unit→Option (Bool × Unit)} {p:zg→Bool} (hl:l.length ≤ Go.maxLen) (hp:∀ x ∈ l,g (x,()) = some (p x,())):zap (l,some g,()) = some (vC p l 0,()):=qH (τ:=zj) (B:=zci) (fun _ _ _ _ _=>rfl) hl hp
theorem zoZ {l:List zg} {g:zg × Unit→Option (Bool × Unit)} {p:zg→Bool} (hl:l.length ≤ Go.maxLen) (hp:∀ x ∈ l,g (x,()) = some (p x,())):jL (l,some g,()) = some (l.any p,()):=qk (τ:=zj) (f:=zap) (zsK hl hp)
theorem zuq {l:List ja} {g:ja × Unit→Option (Bool × Unit)} {p:ja→Bool} (hl:l.length ≤ Go.maxLen) (hp:∀ x ∈ l,g (x,()) = some (p x,())):zba (l,some g,()) = some (vC p l 0,()):=qH (τ:=qi) (B:=zcN) (fun _ _ _ _ _=>rfl) hl hp
theorem zqq {l:List ja} {g:ja × Unit→Option (Bool × Unit)} {p:ja→Bool} (hl:l.length ≤ Go.maxLen) (hp:∀ x ∈ l,g (x,()) = some (p x,())):zco (l,some g,()) = some (l.any p,()):=qk (τ:=qi) (f:=zba) (zuq hl hp)
theorem zur {l:List qc} {g:qc × Unit→Option (Bool × Unit)} {p:qc→Bool} (hl:l.length ≤ Go.maxLen) (hp:∀ x ∈ l,g (x,()) = some (p x,())):zbb (l,some g,()) = some (vC p l 0,()):=qH (τ:=zV) (B:=zcP) (fun _ _ _ _ _=>rfl) hl hp
theorem zie {l:List qc} {g:qc × Unit→Option (Bool × Unit)} {p:qc→Bool} (hl:l.length ≤ Go.maxLen) (hp:∀ x ∈ l,g (x,()) = some (p x,())):jg (l,some g,()) = some (l.any p,()):=qk (τ:=zV) (f:=zbb) (zur hl hp)
theorem zus {l:List qr} {g:qr × Unit→Option (Bool × Unit)} {p:qr→Bool} (hl:l.length ≤ Go.maxLen) (hp:∀ x ∈ l,g (x,()) = some (p x,())):zbc (l,some g,()) = some (vC p l 0,()):=qH (τ:=z4) (B:=zcQ) (fun _ _ _ _ _=>rfl) hl hp
theorem zif {l:List qr} {g:qr × Unit→Option (Bool × Unit)} {p:qr→Bool} (hl:l.length ≤ Go.maxLen) (hp:∀ x ∈ l,g (x,()) = some (p x,())):jh (l,some g,()) = some (l.any p,()):=qk (τ:=z4) (f:=zbc) (zus hl hp)
theorem zsL {l:List zp} {g:zp × Unit→Option (Bool × Unit)} {p:zp→Bool} (hl:l.length ≤ Go.maxLen) (hp:∀ x ∈ l,g (x,()) = some (p x,())):zaq (l,some g,()) = some (vC p l 0,()):=qH (τ:=zv) (B:=zcl) (fun _ _ _ _ _=>rfl) hl hp
theorem zhO {l:List zp} {g:zp × Unit→Option (Bool × Unit)} {p:zp→Bool} (hl:l.length ≤ Go.maxLen) (hp:∀ x ∈ l,g (x,()) = some (p x,())):qY (l,some g,()) = some (l.any p,()):=qk (τ:=zv) (f:=zaq) (zsL hl hp)
theorem zsM {l:List zn} {g:zn × Unit→Option (Bool × Unit)} {p:zn→Bool} (hl:l.length ≤ Go.maxLen) (hp:∀ x ∈ l,g (x,()) = some (p x,())):zar (l,some g,()) = some (vC p l 0,()):=qH (τ:=zm) (B:=zcm) (fun _ _ _ _ _=>rfl) hl hp
theorem zo0 {l:List zn} {g:zn × Unit→Option (Bool × Unit)} {p:zn→Bool} (hl:l.length ≤ Go.maxLen) (hp:∀ x ∈ l,g (x,()) = some (p x,())):jM (l,some g,()) = some (l.any p,()):=qk (τ:=zm) (f:=zar) (zsM hl hp)
theorem zsN {l:List zF} {g:zF × Unit→Option (Bool × Unit)} {p:zF→Bool} (hl:l.length ≤ Go.maxLen) (hp:∀ x ∈ l,g (x,()) = some (p x,())):zas (l,some g,()) = some (vC p l 0,()):=qH (τ:=zr) (B:=zcn) (fun _ _ _ _ _=>rfl) hl hp
theorem zo1 {l:List zF} {g:zF × Unit→Option (Bool × Unit)} {p:zF→Bool} (hl:l.length ≤ Go.maxLen) (hp:∀ x ∈ l,g (x,()) = some (p x,())):jN (l,some g,()) = some (l.any p,()):=qk (τ:=zr) (f:=zas) (zsN hl hp)
theorem zlu {l:List z8} {g:z8 × Unit→Option (Bool × Unit)} {p:z8→Bool} (hl:l.length ≤ Go.maxLen) (hp:∀ x ∈ l,g (x,()) = some (p x,())):yg (l,some g,()) = some (vC p l 0,()):=qH (τ:=zW) (B:=zcO) (fun _ _ _ _ _=>rfl) hl hp
theorem zqr {l:List z8} {g:z8 × Unit→Option (Bool × Unit)} {p:z8→Bool} (hl:l.length ≤ Go.maxLen) (hp:∀ x ∈ l,g (x,()) = some (p x,())):j8 (l,some g,()) = some (l.any p,()):=qk (τ:=zW) (f:=yg) (zlu hl hp)
theorem zwn {l:List vv} {g:vv × Unit→Option (Bool × Unit)} {p:vv→Bool} (hl:l.length ≤ Go.maxLen) (hp:∀ x ∈ l,g (x,()) = some (p x,())):zbG (l,some g,()) = some (vC p l 0,()):=qH (τ:=zX) (B:=zdm) (fun _ _ _ _ _=>rfl) hl hp
theorem zrG {l:List vv} {g:vv × Unit→Option (Bool × Unit)} {p:vv→Bool} (hl:l.length ≤ Go.maxLen) (hp:∀ x ∈ l,g (x,()) = some (p x,())):vp (l,some g,()) = some (l.any p,()):=qk (τ:=zX) (f:=zbG) (zwn hl hp)
theorem zut {l:List Int} {g:Int × Unit→Option (Bool × Unit)} {p:Int→Bool} (hl:l.length ≤ Go.maxLen) (hp:∀ x ∈ l,g (x,()) = some (p x,())):za8 (l,some g,()) = some (vC p l 0,()):=qH (τ:=(Ty.int .u8)) (B:=zcK) (fun _ _ _ _ _=>rfl) hl hp
theorem zqs {l:List Int} {g:Int × Unit→Option (Bool × Unit)} {p:Int→Bool} (hl:l.length ≤ Go.maxLen) (hp:∀ x ∈ l,g (x,()) = some (p x,())):j7 (l,some g,()) = some (l.any p,()):=qk (τ:=(Ty.int .u8)) (f:=za8) (zut hl hp)
theorem zCq {l:List zg} {g:zg × Unit→Option (Bool × Unit)} {p:zg→Bool} (hl:l.length ≤ Go.maxLen) (hp:∀ x ∈ l,g (x,()) = some (p x,())):zfq (l,some g,()) = some (l.all p,()):=by
  have h:jL (l,some fun z=>za9 (z.1,some (some g),()),()) = some (l.any fun x=>!p x,()):=zoZ hl fun x hx=>by
    show Option.bind (g (x,())) (fun q=>bif q.1 then some (false,()) else some (true,())) = _
    rw [hp x hx]; cases p x <;> rfl
  show Option.bind (jL (l,some fun z=>za9 (z.1,some (some g),()),())) (fun q=>bif q.1 then some (false,()) else some (true,())) = _
  rw [h,← jU]; cases l.any fun x=>!p x <;> rfl
theorem zCr {l:List zn} {g:zn × Unit→Option (Bool × Unit)} {p:zn→Bool} (hl:l.length ≤ Go.maxLen) (hp:∀ x ∈ l,g (x,()) = some (p x,())):zfr (l,some g,()) = some (l.all p,()):=by
  have h:jM (l,some fun z=>zbd (z.1,some (some g),()),()) = some (l.any fun x=>!p x,()):=zo0 hl fun x hx=>by
    show Option.bind (g (x,())) (fun q=>bif q.1 then some (false,()) else some (true,())) = _
    rw [hp x hx]; cases p x <;> rfl
  show Option.bind (jM (l,some fun z=>zbd (z.1,some (some g),()),())) (fun q=>bif q.1 then some (false,()) else some (true,())) = _
  rw [h,← jU]; cases l.any fun x=>!p x <;> rfl
theorem zCs {l:List zF} {g:zF × Unit→Option (Bool × Unit)} {p:zF→Bool} (hl:l.length ≤ Go.maxLen) (hp:∀ x ∈ l,g (x,()) = some (p x,())):zcz (l,some g,()) = some (l.all p,()):=by
  have h:jN (l,some fun z=>zbe (z.1,some (some g),()),()) = some (l.any fun x=>!p x,()):=zo1 hl fun x hx=>by
    show Option.bind (g (x,())) (fun q=>bif q.1 then some (false,()) else some (true,())) = _
    rw [hp x hx]; cases p x <;> rfl
  show Option.bind (jN (l,some fun z=>zbe (z.1,some (some g),()),())) (fun q=>bif q.1 then some (false,()) else some (true,())) = _
  rw [h,← jU]; cases l.any fun x=>!p x <;> rfl
theorem zFo {l:List Int} {g:Int × Unit→Option (Bool × Unit)} {p:Int→Bool} (hl:l.length ≤ Go.maxLen) (hp:∀ x ∈ l,g (x,()) = some (p x,())):yU (l,some g,()) = some (l.all p,()):=by
  have h:qB (l,some fun z=>zcx (z.1,some (some g),()),()) = some (l.any fun x=>!p x,()):=zb8 hl fun x hx=>by
    show Option.bind (g (x,())) (fun q=>bif q.1 then some (false,()) else some (true,())) = _
    rw [hp x hx]; cases p x <;> rfl
  show Option.bind (qB (l,some fun z=>zcx (z.1,some (some g),()),())) (fun q=>bif q.1 then some (false,()) else some (true,())) = _
  rw [h,← jU]; cases l.any fun x=>!p x <;> rfl
theorem zDY {l:List z8} {g:z8 × Unit→Option (Bool × Unit)} {p:z8→Bool} (hl:l.length ≤ Go.maxLen) (hp:∀ x ∈ l,g (x,()) = some (p x,())):zgt (l,some g,()) = some (l.all p,()):=by
  have h:j8 (l,some fun z=>zbD (z.1,some (some g),()),()) = some (l.any fun x=>!p x,()):=zqr hl fun x hx=>by
    show Option.bind (g (x,())) (fun q=>bif q.1 then some (false,()) else some (true,())) = _
    rw [hp x hx]; cases p x <;> rfl
  show Option.bind (j8 (l,some fun z=>zbD (z.1,some (some g),()),())) (fun q=>bif q.1 then some (false,()) else some (true,())) = _
  rw [h,← jU]; cases l.any fun x=>!p x <;> rfl
theorem zwo {l:List qc} {g:qc × Unit→Option (Bool × Unit)} {p:qc→Bool} (hl:l.length ≤ Go.maxLen) (hp:∀ x ∈ l,g (x,()) = some (p x,())):yr (l,some g,()) = some (l.all p,()):=by
  have h:jg (l,some fun z=>zbF (z.1,some (some g),()),()) = some (l.any fun x=>!p x,()):=zie hl fun x hx=>by
    show Option.bind (g (x,())) (fun q=>bif q.1 then some (false,()) else some (true,())) = _
    rw [hp x hx]; cases p x <;> rfl
  show Option.bind (jg (l,some fun z=>zbF (z.1,some (some g),()),())) (fun q=>bif q.1 then some (false,()) else some (true,())) = _
  rw [h,← jU]; cases l.any fun x=>!p x <;> rfl
theorem zFp {l:List vv} {g:vv × Unit→Option (Bool × Unit)} {p:vv→Bool} (hl:l.length ≤ Go.maxLen) (hp:∀ x ∈ l,g (x,()) = some (p x,())):zhz (l,some g,()) = some (l.all p,()):=by
  have h:vp (l,some fun z=>zcy (z.1,some (some g),()),()) = some (l.any fun x=>!p x,()):=zrG hl fun x hx=>by
    show Option.bind (g (x,())) (fun q=>bif q.1 then some (false,()) else some (true,())) = _
    rw [hp x hx]; cases p x <;> rfl
  show Option.bind (vp (l,some fun z=>zcy (z.1,some (some g),()),())) (fun q=>bif q.1 then some (false,()) else some (true,())) = _
  rw [h,← jU]; cases l.any fun x=>!p x <;> rfl
theorem zDZ {l:List qr} {g:qr × Unit→Option (Bool × Unit)} {p:qr→Bool} (hl:l.length ≤ Go.maxLen) (hp:∀ x ∈ l,g (x,()) = some (p x,())):yt (l,some g,()) = some (l.all p,()):=by
  have h:jh (l,some fun z=>zbH (z.1,some (some g),()),()) = some (l.any fun x=>!p x,()):=zif hl fun x hx=>by
    show Option.bind (g (x,())) (fun q=>bif q.1 then some (false,()) else some (true,())) = _
    rw [hp x hx]; cases p x <;> rfl
  show Option.bind (jh (l,some fun z=>zbH (z.1,some (some g),()),())) (fun q=>bif q.1 then some (false,()) else some (true,())) = _
  rw [h,← jU]; cases l.any fun x=>!p x <;> rfl
theorem zCt {l:List zp} {g:zp × Unit→Option (Bool × Unit)} {p:zp→Bool} (hl:l.length ≤ Go.maxLen) (hp:∀ x ∈ l,g (x,()) = some (p x,())):qE (l,some g,()) = some (l.all p,()):=by
  have h:qY (l,some fun z=>zbf (z.1,some (some g),()),()) = some (l.any fun x=>!p x,()):=zhO hl fun x hx=>by
    show Option.bind (g (x,())) (fun q=>bif q.1 then some (false,()) else some (true,())) = _
    rw [hp x hx]; cases p x <;> rfl
  show Option.bind (qY (l,some fun z=>zbf (z.1,some (some g),()),())) (fun q=>bif q.1 then some (false,()) else some (true,())) = _
  rw [h,← jU]; cases l.any fun x=>!p x <;> rfl
theorem ztj {a b:List Int} (hl:a.length ≤ Go.maxLen):zaG (a,b,()) = some (eqL tI a b,()):=zaB (τ:=tI) (B:=zgm) (fun _ _ _ _ _=>rfl) hl
theorem zy2 {a b:List zn} (hl:a.length ≤ Go.maxLen):zgo (a,b,()) = some (eqL zm a b,()):=zaB (τ:=zm) (B:=zex) (fun _ _ _ _ _=>rfl) hl
theorem zy3 {a b:List zF} (hl:a.length ≤ Go.maxLen):zgq (a,b,()) = some (eqL zr a b,()):=zaB (τ:=zr) (B:=zey) (fun _ _ _ _ _=>rfl) hl
theorem zAW {a b:List ja} (hl:a.length ≤ Go.maxLen):zhn (a,b,()) = some (eqL qi a b,()):=zaB (τ:=qi) (B:=zfm) (fun _ _ _ _ _=>rfl) hl
theorem zAX {a b:List z8} (hl:a.length ≤ Go.maxLen):zhp (a,b,()) = some (eqL zW a b,()):=zaB (τ:=zW) (B:=zfn) (fun _ _ _ _ _=>rfl) hl
theorem zAY {a b:List qc} (hl:a.length ≤ Go.maxLen):zhr (a,b,()) = some (eqL zV a b,()):=zaB (τ:=zV) (B:=zfo) (fun _ _ _ _ _=>rfl) hl
theorem zAZ {a b:List qr} (hl:a.length ≤ Go.maxLen):zht (a,b,()) = some (eqL z4 a b,()):=zaB (τ:=z4) (B:=zfp) (fun _ _ _ _ _=>rfl) hl
theorem zy4 {a b:List zp} (hl:a.length ≤ Go.maxLen):zgk (a,b,()) = some (eqL zv a b,()):=zaB (τ:=zv) (B:=zew) (fun _ _ _ _ _=>rfl) hl
theorem zD0 {a b:List (List Int)} (hl:a.length ≤ Go.maxLen):zjB (a,b,()) = some (eqL (Ty.arr 4 tU) a b,()):=zaB (τ:=(Ty.arr 4 tU)) (B:=zhu) (fun _ _ _ _ _=>rfl) hl
theorem zCu {a b:List vv} (hl:a.length ≤ Go.maxLen):zis (a,b,()) = some (eqL zX a b,()):=zaB (τ:=zX) (B:=zgl) (fun _ _ _ _ _=>rfl) hl
theorem zpY {l:List zn} (hl:l.length ≤ lim):zdp (l,()) = some (l,()):=vY (τ:=zm) hl rfl
theorem zy5 {l:List zF} (hl:l.length ≤ lim):zgh (l,()) = some (l,()):=vY (τ:=zr) hl rfl
theorem ztk {l:List Int} (hl:l.length ≤ lim):zeX (l,()) = some (l,()):=vY (τ:=tI) hl rfl
theorem zA0 {l:List (List Int)} (hl:l.length ≤ lim):zhf (l,()) = some (l,()):=vY (τ:=(Ty.sl tI)) hl rfl
theorem zy6 {l:List zg} (hl:l.length ≤ lim):zgi (l,()) = some (l,()):=vY (τ:=zj) hl rfl
theorem zA1 {l:List ja} (hl:l.length ≤ lim):zhg (l,()) = some (l,()):=vY (τ:=qi) hl rfl
theorem zA2 {l:List z8} (hl:l.length ≤ lim):zhh (l,()) = some (l,()):=vY (τ:=zW) hl rfl
theorem zA3 {l:List qc} (hl:l.length ≤ lim):zhi (l,()) = some (l,()):=vY (τ:=zV) hl rfl
theorem zA4 {l:List qr} (hl:l.length ≤ lim):zhj (l,()) = some (l,()):=vY (τ:=z4) hl rfl
theorem zjK {l:List zp} (hl:l.length ≤ lim):zdn (l,()) = some (l,()):=vY (τ:=zv) hl rfl
theorem zD1 {l:List (List Int)} (hl:l.length ≤ lim):zjz (l,()) = some (l,()):=vY (τ:=(Ty.arr 4 tU)) hl rfl
theorem zCv {l:List vv} (hl:l.length ≤ lim):ziq (l,()) = some (l,()):=vY (τ:=zX) hl rfl
end Go.Proofs.YtokcjmkikhgkeaaGreatDoor
end
section
namespace Go.Proofs.YtokcjmkikhgkeaaGreatDoor
open Go.Ev
theorem zr8:∃ m,K0 = m + 8:=⟨Go.maxLen - 6,by unfold K0 Go.maxLen; omega⟩
def qf (x a b:Int):Bool:=decide (a ≤ x ∧ x ≤ b)
theorem zdz (x a b:Int):ql (x,a,b,()) = some (qf x a b,()):=by
  simp only [ql,qf]; grind
def ze6 (a:zz):Bool:=qf a.1 0 3
theorem zjL (a:zz):zbm (a,()) = some (ze6 a,()):=by
  simp only [zbm,ze6,qf]; grind
theorem zD2 (a:zz):zdt (a,()) = some (!ze6 a,()):=by
  simp only [zdt,zjL,Option.bind_some]; grind
def zjM (x y:Int):Int:=bif decide (x < y) then -1 else bif decide (y < x) then 1 else 0
theorem zCw (x:Int):yS (x,()) = some (false,()):=by
  simp only [yS]; grind
theorem zxA (x:Int):vf (x,()) = some (false,()):=by
  simp only [vf]; grind
theorem zpZ (x y:Int):zai (x,y,()) = some (zjM x y,()):=by
  simp only [zai,zCw,Option.bind_some,zjM]; grind
theorem zlv (x y:Int):vL (x,y,()) = some (zjM x y,()):=by
  simp only [vL,zxA,Option.bind_some,zjM]; grind
def orV (a b:Int):Int:=bif a != 0 then a else b
theorem zHp (a b:Int):zcJ ([a,b],()) = some (orV a b,()):=by
  show zl qW K0 (0,[a,b],2,0) = _
  obtain ⟨m,hm⟩:=zr8
  rw [hm]
  show qW (qW (qW (zl qW (m + 5)))) (0,[a,b],2,0) = _
  have h:qW (qW (qW (zl qW (m + 5)))) (0,[a,b],2,0) = bif a != 0 then some (a,()) else bif b != 0 then some (b,()) else some (0,()):=by kernel_rfl
  rw [h]; unfold orV; grind
def zuu (a b:zz):Int:=orV (zjM a.1 b.1) (zjM a.2.1 b.2.1)
theorem zCx (a b:zz):ziQ (a,b,()) = some (zuu a b,()):=by
  simp only [ziQ,zpZ,zlv,Option.bind_some]
  show Option.bind (zcJ ([zjM a.1 b.1,zjM a.2.1 b.2.1],())) _ = _
  rw [zHp]; rfl
def ziz (l:List zz):Bool:=qf (l.length:Int) 1 8 && (eqI zy (l.getD 0 (ze zy)) (ze zy) && (l.all ze6 && qj (fun i=>decide (zuu (l.getD (i - 1) (ze zy)) (l.getD i (ze zy)) < 0)) 1 (l.length - 1)))
theorem zGe {α:Type} {d:α} {l:List α}:ix d l 0 = l.getD 0 d:=rfl
theorem zGf (r:zf):vu (r,()) = some (ziz r.1,()):=by
  simp only [vu,ze3,zdz,Option.bind_some]
  by_cases hw:qf (List.length r.1:Int) 1 8 = true
  · have hb:1 ≤ List.length r.1 ∧ List.length r.1 ≤ 8:=by unfold qf at hw; grind
    have hl:List.length r.1 ≤ Go.maxLen:=by unfold Go.maxLen; omega
    have hloop:zgu K0 (1,r) = bif qj (fun i=>decide (zuu (List.getD r.1 (i - 1) (ze zy)) (List.getD r.1 i (ze zy)) < 0)) 1 (List.length r.1 - 1) then some (true,()) else some (false,()) :=
      vD (i0:=1) hl hb.1 (fun i=>(i,r)) (fun k i h1 h2=>by
        simp only [zdx]
        rw [ltT h2,zr5 h1 (by omega),zE (by omega),zE h2,qu,Int.toNat_natCast,zCx]
        simp only [cond_true,Option.bind_some]; grind) (fun k=>by simp only [zdx]; rw [ltF]; rfl)
    rw [zhN (p:=fun a=>!ze6 a) hl fun x _=>zD2 x,hloop,zGe]
    have:=jU (l:=r.1) (p:=ze6)
    unfold ziz
    simp only [Option.bind_some]
    grind
  · unfold ziz; grind
end Go.Proofs.YtokcjmkikhgkeaaGreatDoor
end
section
namespace Go.Proofs.YtokcjmkikhgkeaaGreatDoor
open Go.Ev
def small (c:Int):Bool:=decide (97 ≤ c ∧ c ≤ 122)
def zzu (c:Int):Bool:=decide (48 ≤ c ∧ c ≤ 57)
theorem zC3 (c:Int):zen (c,()) = some (small c,()):=by
  simp only [zen,small]; grind
theorem zGU (c:Int):zg5 (c,()) = some (zzu c,()):=by
  simp only [zg5,zzu]; grind
def zzv (c:Int):Bool:=small c || zzu c
theorem zHq (c:Int):zeY (c,()) = some (zzv c,()):=by
  simp only [zeY,zC3,zGU,Option.bind_some,zzv]; grind
def zeE (s:ByteArray):List Int:=List.map (fun b:UInt8=>(b.toNat:Int)) s.data.toList
def chr (s:ByteArray) (i:Nat):Int:=(((s.data.toList).getD i 0).toNat:Int)
theorem zjN (s:ByteArray):(zeE s).length = s.size:=by unfold zeE; rw [List.length_map]; rfl
theorem zoa (s:ByteArray):s.data.toList.length = s.size:=rfl
theorem zwp (s:ByteArray) (p:Int→Bool):(zeE s).all p = qj (fun i=>p (chr s i)) 0 s.size:=by
  rw [Bool.eq_iff_iff,jQ,List.all_eq_true]
  have key:∀ i,i < s.size→(zeE s)[i]? = some (chr s i):=fun i hi=>by
    unfold zeE chr
    rw [List.getElem?_map,List.getElem?_eq_getElem (by rw [zoa]; exact hi)]
    simp [List.getD,zoa,hi]
  constructor
  · intro h j _ hj
    exact h _ (List.mem_of_getElem? (key j (by omega)))
  · intro h x hx
    obtain ⟨i,hi,rfl⟩:=List.mem_iff_getElem.1 hx
    rw [zjN] at hi
    have:=key i hi
    rw [List.getElem?_eq_getElem (by rw [zjN]; exact hi)] at this
    rw [Option.some.inj this]
    exact h i (by omega) (by omega)
theorem zwq {s:ByteArray} {g:Int × Unit→Option (Bool × Unit)} {p:Int→Bool} (hl:s.size ≤ Go.maxLen) (hp:∀ c,g (c,()) = some (p c,())):zkg (s,some g,()) = some ((zeE s).all p,()):=by
  have h:j7 (zeE s,some fun z=>zg4 (z.1,some (some g),()),()) = some ((zeE s).any fun x=>!p x,()):=zqs (by rw [zjN]; exact hl) fun x hx=>by
    show Option.bind (g (x,())) (fun q=>bif q.1 then some (false,()) else some (true,())) = _
    rw [hp x]; cases p x <;> rfl
  show Option.bind (j7 (zeE s,some fun z=>zg4 (z.1,some (some g),()),())) (fun q=>bif q.1 then some (false,()) else some (true,())) = _
  rw [h,← jU]; cases (zeE s).any fun x=>!p x <;> rfl
def zo2 (s:ByteArray):Bool:=decide (1 ≤ s.size) && (decide (s.size ≤ 12) && qj (fun i=>small (chr s i) || (decide (i ≠ 0) && zzu (chr s i))) 0 s.size)
theorem zGg (s:ByteArray):zo2 s = (decide (1 ≤ s.size) && (decide (s.size ≤ 12) && (small (chr s 0) && (zeE s).all zzv))):=by
  rw [zwp,zo2,Bool.eq_iff_iff]
  simp only [Bool.and_eq_true,decide_eq_true_eq,jQ,zzv]
  constructor
  · rintro ⟨h1,h2,h3⟩
    have:=h3 0 (by omega) (by omega)
    refine ⟨h1,h2,by grind,fun j h4 h5=>?_⟩
    have:=h3 j h4 h5
    grind
  · rintro ⟨h1,h2,h3,h4⟩
    refine ⟨h1,h2,fun j h5 h6=>?_⟩
    have:=h4 j h5 h6
    by_cases e:j = 0
    · subst e; grind
    · grind
theorem zlw (s:ByteArray):za2 (s,()) = some (zo2 s,()):=by
  rw [zO]
  simp only [za2]
  rw [zGg]
  by_cases h1:s.size < 1
  · grind
  by_cases h2:s.size > 12
  · grind
  rw [zwq (by unfold Go.maxLen; omega) zHq]
  have hc:((UInt8.toNat (List.getD s.data.toList (Int.toNat 0) 0):Nat):Int) = chr s 0:=rfl
  rw [hc,zC3]
  simp only [Option.bind_some]
  grind
def zjp (a:qO):Bool:=zo2 a.1 && (zo2 a.2.1 && qf a.2.2.1 0 3)
theorem zA5 (a:qO):zbU (a,()) = some (!zjp a,()):=by
  simp only [zbU,zlw,zdz,Option.bind_some,zjp]; grind
theorem zgv {α:Type} (d x:α):zi (List.replicate 1 d) 0 x = [x]:=rfl
theorem zfR {n:Nat} (h:n ≤ 1000000):decide (n ≤ lim) = true:=decide_eq_true (by unfold lim; omega)
theorem zCy (r:zf) (h:r.2.2.1.length ≤ 1000):zfj (r,()) = some (r.2.2.1.map (·.1),()):=by
  have hl:r.2.2.1.length ≤ Go.maxLen:=by unfold Go.maxLen; omega
  have:=yR (B:=yf) (α:=List ByteArray) (len:=r.2.2.1.length) hl (fun i o=>(r.2.2.1,(r.2.2.1.length:Int),i,o)) (fun i o=>some (o ++ (r.2.2.1.drop i).map (·.1),())) (fun i o=>o.length ≤ i) (fun k i s hi hI hk=>by
    simp only [yf]
    rw [ltT hi,zE hi,qu,zgv,zfR (by simp; omega)]
    simp only [cond_true]
    rw [hk _ (by simp; omega),zbA zda hi]
    simp) (fun k s _=>by
    simp only [yf]
    rw [ltF,List.drop_of_length_le (Nat.le_refl _)]
    simp) [] (Nat.le_refl _)
  exact this
def zlx:List ByteArray→Bool
  | []=>true
  | x :: l=>!(l.any fun y=>eqI .str x y) && zlx l
theorem zr9 (x y:ByteArray):eqI .str x y = (x.toList == y.toList):=rfl
theorem zFq (o:List (ByteArray × Int)) (x z:ByteArray) (v:Int):zam .str (yn .str o x v) z = (zam .str o z || eqI .str z x):=by
  induction o with
  | nil=>simp only [yn,zam]; cases eqI .str z x <;> rfl
  | cons e o ih =>
    simp only [yn,zam]
    cases h:eqI .str x e.1 with
    | true =>
      simp only [cond_true,zam]
      have:eqI .str z e.1 = eqI .str z x:=by rw [zr9] at *; rw [zr9]; have:=eq_of_beq h; rw [this]
      cases h2:eqI .str z e.1 with
      | true=>rfl
      | false=>rw [← this,h2]; simp
    | false =>
      simp only [cond_false,zam,ih]
      cases eqI .str z e.1 <;> rfl
theorem zA6 (o:List (ByteArray × Int)) (x:ByteArray) (v:Int):(yn .str o x v).length = o.length + (bif zam .str o x then 0 else 1):=by
  induction o with
  | nil=>rfl
  | cons e o ih =>
    simp only [yn,zam]
    cases h:eqI .str x e.1 with
    | true=>simp only [cond_true,List.length_cons,Nat.add_zero]
    | false =>
      simp only [cond_false,List.length_cons,ih]
      generalize (bif zam .str o x then 0 else 1) = n
      omega
def zo3:List ByteArray→List (ByteArray × Int)→Nat
  | [],o=>o.length
  | x :: l,o=>zo3 l (yn .str o x (wI (zcd .str (0:Int) o x + 1)))
theorem zC4:∀ (l:List ByteArray) (o:List (ByteArray × Int)),zo3 l o ≤ o.length + l.length
  | [],o=>Nat.le_refl _
  | x :: l,o=>by
    have h:=zC4 l (yn .str o x (wI (zcd .str (0:Int) o x + 1)))
    rw [zA6] at h
    simp only [zo3,List.length_cons]
    cases hm:zam .str o x <;> (rw [hm] at h; simp only [cond_true,cond_false] at h; omega)
theorem zC5:∀ (l:List ByteArray) (o:List (ByteArray × Int)),(zo3 l o == o.length + l.length) = (zlx l && l.all fun x=>!zam .str o x)
  | [],o=>by simp [zo3,zlx]
  | x :: l,o=>by
    have h:=zC4 l (yn .str o x (wI (zcd .str (0:Int) o x + 1)))
    have ih:=zC5 l (yn .str o x (wI (zcd .str (0:Int) o x + 1)))
    rw [zA6] at h ih
    simp only [zo3,List.length_cons,zlx,List.all_cons]
    cases hm:zam .str o x with
    | true =>
      rw [hm] at h
      simp only [cond_true] at h
      have:(zo3 l (yn .str o x (wI (zcd .str (0:Int) o x + 1))) == o.length + (l.length + 1)) = false:=by
        simp only [beq_eq_false_iff_ne]; omega
      rw [this]
      simp
    | false =>
      rw [hm] at ih
      simp only [cond_false] at ih
      rw [show o.length + (l.length + 1) = o.length + 1 + l.length by omega,ih]
      simp only [zFq,Bool.not_or,Bool.not_false,Bool.true_and]
      have:(l.all fun z=>!zam .str o z && !eqI .str z x) = ((l.all fun z=>!zam .str o z) && !(l.any fun y=>eqI .str x y)):=by
        rw [Bool.eq_iff_iff]
        simp only [List.all_eq_true,Bool.and_eq_true,Bool.not_eq_true',List.any_eq_false,Bool.not_eq_true]
        have hs:∀ z,eqI .str z x = eqI .str x z:=fun z=>by rw [zr9,zr9]; exact Bool.beq_comm
        grind
      rw [this]
      cases zlx l <;> cases (l.all fun z=>!zam .str o z) <;> cases (l.any fun y=>eqI .str x y) <;> rfl
theorem zFr (m n:Nat):(((m:Nat):Int) == ((n:Nat):Int)) = (m == n):=by
  rw [Bool.eq_iff_iff]; simp only [beq_iff_eq]; omega
theorem zGV (l:List ByteArray) (h:l.length ≤ 1000):zkS (l,()) = some (zlx l,()):=by
  have:=zqO (B:=zcM) (l:=l) (α:=List (ByteArray × Int)) (ze .str) (fun i o=>(l,l,(l.length:Int),i,o)) (fun rest o=>some (zo3 rest o == l.length,())) (by unfold Go.maxLen; omega) (fun k i x rest s hi hx _ hr hk=>by
    simp only [zcM]
    rw [ltT hi,zE hi,Int.toNat_natCast,hx]
    simp only [cond_true]
    exact hk _) (fun k s=>by
    simp only [zcM]
    rw [ltF]
    simp only [cond_false,zo3]
    rw [zFr]
    cases s.length == l.length <;> rfl) []
  refine this.trans ?_
  have h2:=zC5 l []
  simp only [List.length_nil,Nat.zero_add] at h2
  rw [h2]
  simp [zam]
def zgN (l:List qO):Bool:=qf (l.length:Int) 1 8 && (l.all zjp && zlx (l.map (·.1)))
theorem zD3 (r:zf):jC (r,()) = some (zgN r.2.2.1,()):=by
  rw [zO]
  simp only [jC,zdz,Option.bind_some]
  unfold zgN
  by_cases hw:qf (List.length r.2.2.1:Int) 1 8 = true
  · have hb:1 ≤ List.length r.2.2.1 ∧ List.length r.2.2.1 ≤ 8:=by unfold qf at hw; grind
    rw [znf (p:=fun a=>!zjp a) (by unfold Go.maxLen; omega) fun x _=>zA5 x,zCy r (by omega)]
    simp only [Option.bind_some]
    rw [zGV _ (by simp; omega)]
    simp only [Option.bind_some]
    have:=jU (l:=r.2.2.1) (p:=zjp)
    grind
  · grind
def zly (r:zf):Bool:=qf (r.2.1.length:Int) 1 8 && r.2.1.all fun i=>decide (0 ≤ i) && decide (i < (r.1.length:Int))
theorem zGW (r:zf) (h:r.1.length ≤ 1000):vZ (r,()) = some (zly r,()):=by
  rw [zO]
  simp only [vZ,zdz,Option.bind_some]
  unfold zly
  by_cases hw:qf (List.length r.2.1:Int) 1 8 = true
  · have hb:1 ≤ List.length r.2.1 ∧ List.length r.2.1 ≤ 8:=by unfold qf at hw; grind
    have hq:∀ x:Int,(fun z:Int × Unit=>zbJ (z.1,some r,())) (x,()) = some (!(decide (0 ≤ x) && decide (x < (r.1.length:Int))),()):=fun x=>by
      show zbJ _ = _
      simp only [zbJ,zdz,Option.bind_some]
      have:wI (((List.length r.1:Nat):Int) - 1) = (r.1.length:Int) - 1:=by
        unfold wI
        exact IntWalk.i64_in _ (by omega)
      rw [this]
      unfold qf
      grind
    rw [zb8 (by unfold Go.maxLen; omega) fun x _=>hq x]
    simp only [Option.bind_some]
    have:=jU (l:=r.2.1) (p:=fun i=>decide (0 ≤ i) && decide (i < (r.1.length:Int)))
    grind
  · grind
def zsa (r:zf):Bool:=qf r.2.2.2.2.2.1 0 24 && (qf r.2.2.2.2.2.2.1 0 48 && (qf r.2.2.2.2.2.2.2.1 1 4 && qf r.2.2.2.2.2.2.2.2.1 1 16))
theorem zHr (r:zf):yL (r,()) = some (zsa r,()):=by
  simp only [yL,zdz,Option.bind_some,zsa]; grind
def zgO (q:zad):Bool:=qf q.1 0 12 && (qf q.2.1 0 12 && (qf q.2.2.1 0 12 && (qf q.2.2.2.1 0 12 && qf q.2.2.2.2.1 0 12)))
def zkm:Int→List zad→Bool
  | _,[]=>true
  | left,q :: l=>zgO q && (decide (q.2.2.2.2.2.1 ≤ left) && zkm (wU (left - q.2.2.2.2.2.1)) l)
theorem zD4 (x:Int):zdu (x,()) = some (!qf x 0 12,()):=by
  simp only [zdu,zdz,Option.bind_some]; grind
def ze7 (n:Nat) (l:List zad):Bool:=decide (l.length = n) && (decide (0 < l.length) && (decide (1 ≤ (l.getD 0 qz).1) && zkm 4611686018427387904 l))
theorem zGh (r:zf) (h:1 ≤ r.1.length ∧ r.1.length ≤ 1000):vt (r,()) = some (ze7 r.1.length r.2.2.2.2.1,()):=by
  rw [zO]
  simp only [vt,ze1]
  unfold ze7
  by_cases hn:r.2.2.2.2.1.length = r.1.length
  · have hl:r.2.2.2.2.1.length ≤ Go.maxLen:=by unfold Go.maxLen; omega
    have hloop:zgs K0 (4611686018427387904,r.2.2.2.2.1,(r.2.2.2.2.1.length:Int),0) = some (zkm 4611686018427387904 r.2.2.2.2.1,()) :=
      zqO (l:=r.2.2.2.2.1) (α:=Int) qz (fun i s=>(s,r.2.2.2.2.1,(r.2.2.2.2.1.length:Int),i)) (fun rest s=>some (zkm s rest,())) hl (fun k i x rest s hi hx _ hr hk=>by
        simp only [zdw]
        rw [ltT hi,zE hi]
        simp only [qu,hx,cond_true]
        have hnum:zg6 (x,()) = some ([x.1,x.2.1,x.2.2.1,x.2.2.2.1,x.2.2.2.2.1],()):=rfl
        rw [hnum]
        simp only [Option.bind_some]
        rw [zb8 (p:=fun n=>!qf n 0 12) (l:=[x.1,x.2.1,x.2.2.1,x.2.2.2.1,x.2.2.2.2.1]) (by unfold Go.maxLen; simp) fun n _=>zD4 n]
        simp only [Option.bind_some,hk,zkm,zgO,List.any_cons,List.any_nil]
        grind) (fun k s=>by simp only [zdw]; rw [ltF]; rfl) _
    rw [hloop,zGe]
    have h1:(((List.length r.2.2.2.2.1:Nat):Int) != ((List.length r.1:Nat):Int)) = false:=by rw [zl9]; simp [hn]
    rw [h1]
    grind
  · have h1:(((List.length r.2.2.2.2.1:Nat):Int) != ((List.length r.1:Nat):Int)) = true:=by rw [zl9]; simp [hn]
    rw [h1]
    grind
end Go.Proofs.YtokcjmkikhgkeaaGreatDoor
end
section
namespace Go.Proofs.YtokcjmkikhgkeaaGreatDoor
open Go.Ev
def zuv (b:Int):Int:=((2 ^ b.toNat:Nat):Int)
def vT (b:Int):Bool:=decide (0 ≤ b) && decide (b < 64)
theorem zHs {b:Int} (h:vT b = true):Go.IntKind.wrap .u64 (1 * 2 ^ (min (Int.toNat b) (Go.IntKind.bits .u64))) = zuv b:=by
  unfold vT at h
  simp only [Bool.and_eq_true,decide_eq_true_eq] at h
  obtain ⟨n,rfl⟩:=Int.eq_ofNat_of_zero_le h.1
  have hn:n < 64:=by omega
  unfold zuv
  rw [Int.toNat_natCast]
  have hm:min n (Go.IntKind.bits .u64) = n:=Nat.min_eq_left (by show n ≤ 64; omega)
  rw [hm]
  have:∀ n:Fin 64,Go.IntKind.wrap .u64 (1 * 2 ^ n.val) = ((2 ^ n.val:Nat):Int):=by decide +kernel
  exact this ⟨n,hn⟩
theorem zkn {n:Int} (h:0 ≤ n ∧ n < 18446744073709551616):Go.IntKind.wrap .u64 n = n:=by
  show n % ((2 ^ 64:Nat):Int) = n
  exact Int.emod_eq_of_lt h.1 (by have:((2 ^ 64:Nat):Int) = 18446744073709551616:=by decide
                                  omega)
def zxB (c:Int) (b:Nat):Bool:=c.toNat.testBit b
def ze8 (a b:Int):Int:=Go.IntKind.wrap .u64 (BitVec.toNat (BitVec.ofInt (Go.IntKind.bits .u64) a &&& ~~~BitVec.ofInt (Go.IntKind.bits .u64) b):Int)
def orI (a b:Int):Int:=Go.IntKind.wrap .u64 (BitVec.toNat (BitVec.ofInt (Go.IntKind.bits .u64) a ||| BitVec.ofInt (Go.IntKind.bits .u64) b):Int)
def zko:Int→List qb→Int
  | a,[]=>a
  | a,g :: gs=>zko (orI a (zuv g.1)) gs
theorem zjq (n:Nat):BitVec.ofInt (Go.IntKind.bits .u64) (n:Int) = BitVec.ofNat 64 n:=by
  show BitVec.ofInt 64 (n:Int) = BitVec.ofNat 64 n
  apply BitVec.eq_of_toNat_eq
  rw [BitVec.toNat_ofInt,BitVec.toNat_ofNat]
  omega
theorem zGD (x:BitVec 64):Go.IntKind.wrap .u64 (x.toNat:Int) = (x.toNat:Int):=by
  have:=x.isLt
  exact zkn (by omega)
theorem zGX (a b:Nat) (ha:a < 2 ^ 64) (hb:b < 2 ^ 64):orI (a:Int) (b:Int) = ((a ||| b:Nat):Int):=by
  unfold orI
  rw [zjq,zjq]
  show Go.IntKind.wrap .u64 ((BitVec.ofNat 64 a ||| BitVec.ofNat 64 b).toNat:Int) = _
  rw [zGD,BitVec.toNat_or,BitVec.toNat_ofNat,BitVec.toNat_ofNat,Nat.mod_eq_of_lt ha,Nat.mod_eq_of_lt hb]
theorem ztl (c m:Nat) (hc:c < 2 ^ 64) (hm:m < 2 ^ 64):(ze8 (c:Int) (m:Int) != 0) = !((List.range' 0 64).all fun i=>!c.testBit i || m.testBit i):=by
  unfold ze8
  rw [zjq,zjq]
  show (Go.IntKind.wrap .u64 ((BitVec.ofNat 64 c &&& ~~~BitVec.ofNat 64 m).toNat:Int) != 0) = _
  rw [zGD]
  have hbit:∀ i,i < 64→(BitVec.ofNat 64 c &&& ~~~BitVec.ofNat 64 m).getLsbD i = (c.testBit i && !m.testBit i):=by
    intro i hi
    rw [BitVec.getLsbD_and,BitVec.getLsbD_not,BitVec.getLsbD_ofNat,BitVec.getLsbD_ofNat]
    simp [hi]
  by_cases h:((List.range' 0 64).all fun i=>!c.testBit i || m.testBit i) = true
  · rw [h]
    have h0:(BitVec.ofNat 64 c &&& ~~~BitVec.ofNat 64 m) = 0#64:=by
      apply BitVec.eq_of_getLsbD_eq
      intro i hi
      rw [hbit i hi]
      have:=List.all_eq_true.1 h i (by simp [List.mem_range'_1]; omega)
      revert this
      cases c.testBit i <;> cases m.testBit i <;> simp
    rw [h0]
    rfl
  · have h':=h
    simp only [Bool.not_eq_true] at h'
    rw [h']
    have:(BitVec.ofNat 64 c &&& ~~~BitVec.ofNat 64 m).toNat ≠ 0:=by
      intro h0
      apply h
      rw [List.all_eq_true]
      intro i hi
      simp only [List.mem_range'_1] at hi
      have hb:=hbit i (by omega)
      have e0:(BitVec.ofNat 64 c &&& ~~~BitVec.ofNat 64 m) = 0#64:=BitVec.eq_of_toNat_eq (by rw [h0]; rfl)
      rw [e0] at hb
      revert hb
      cases c.testBit i <;> cases m.testBit i <;> simp
    rw [Bool.not_false,bne_iff_ne]
    omega
theorem zGi {b:Int} (h:vT b = true):∃ n:Nat,b = n ∧ n < 64 ∧ zuv b = ((2 ^ n:Nat):Int):=by
  unfold vT at h
  simp only [Bool.and_eq_true,decide_eq_true_eq] at h
  obtain ⟨n,rfl⟩:=Int.eq_ofNat_of_zero_le h.1
  exact ⟨n,rfl,by omega,rfl⟩
theorem zwr:∀ (l:List qb) (m:Nat),m < 2 ^ 64→(∀ g ∈ l,vT g.1 = true)→∃ k:Nat,zko (m:Int) l = (k:Int) ∧ k < 2 ^ 64 ∧ ∀ i:Nat,k.testBit i = (m.testBit i || l.any fun g=>g.1 == (i:Int))
  | [],m,hm,_=>⟨m,rfl,hm,fun i=>by simp⟩
  | g :: l,m,hm,h=>by
    obtain ⟨n,hn,hn64,hv⟩:=zGi (h g (by simp))
    have hp:2 ^ n < 2 ^ 64:=Nat.pow_lt_pow_right (by omega) hn64
    obtain ⟨k,hk,hk64,hb⟩:=zwr l (m ||| 2 ^ n) (Nat.or_lt_two_pow hm hp) fun g hg=>h g (by simp [hg])
    refine ⟨k,?_,hk64,fun i=>?_⟩
    · simp only [zko]
      rw [hv,zGX m (2 ^ n) hm hp]
      exact hk
    · rw [hb i,Nat.testBit_or,Nat.testBit_two_pow,List.any_cons,hn,Bool.or_assoc]
      congr 2
      by_cases e:n = i
      · subst e; simp
      · rw [decide_eq_false e]
        symm
        simp only [beq_eq_false_iff_ne,ne_eq]
        omega
def zD5 (l:List qb) (c:Int) (i k:Nat):Bool:=(List.range' i k).all fun b=>!zxB c b || l.any fun g=>g.1 == (b:Int)
def zA7 (labels:List zz) (l:List qb):Bool:=labels.all fun a=>zD5 l a.2.1 0 64
def zo4 (l:List zz):Prop:=∀ a ∈ l,0 ≤ a.2.1 ∧ a.2.1 < 18446744073709551616
theorem zHt (labels:List zz) (l:List qb) (hl:zo4 labels) (h:∀ g ∈ l,vT g.1 = true):(labels.any fun a=>ze8 a.2.1 (zko 0 l) != 0) = !zA7 labels l:=by
  obtain ⟨k,hk,hk64,hb⟩:=zwr l 0 (by decide) h
  have hk':zko 0 l = (k:Int):=hk
  rw [hk']
  unfold zA7
  have key:∀ ls:List zz,zo4 ls→(ls.any fun a=>ze8 a.2.1 (k:Int) != 0) = !(ls.all fun a=>zD5 l a.2.1 0 64):=by
    intro ls
    induction ls with
    | nil=>intro _; rfl
    | cons a ls ih =>
      intro ha
      have h1:=ha a (by simp)
      rw [List.any_cons,List.all_cons,ih fun b hb=>ha b (by simp [hb]),Bool.not_and]
      congr 1
      obtain ⟨c,hc⟩:=Int.eq_ofNat_of_zero_le h1.1
      rw [hc,ztl c k (by omega) hk64]
      congr 1
      unfold zD5
      congr 1
      funext i
      rw [hb i]
      unfold zxB
      simp
  exact key labels hl
def zo5 (b:Int):zz:=(0,zuv b,())
theorem zrH (b:Int):zep (b,()) = some (bif vT b then (zo5 b,0,()) else ((0,0,()),1,())):=by
  simp only [zep]
  cases h:vT b with
  | true =>
    have hs:wU (1 * 2 ^ min (Int.toNat b) (Go.IntKind.bits .u64)) = zuv b:=zHs h
    rw [hs]
    simp only [vT,Bool.and_eq_true,decide_eq_true_eq] at h
    simp only [zo5]
    grind
  | false =>
    simp only [vT,Bool.and_eq_false_iff,decide_eq_false_iff_not] at h
    grind
theorem zD6 (a:zz) (c:Int):zgg (a,some c,()) = some (ze8 a.2.1 c != 0,()):=by
  rw [zO]; rfl
theorem zGj {σ α:Type} {B:(σ→Option (Int × Unit))→σ→Option (Int × Unit)} {l:List α} (d:α) {p:α→Bool} (st:Int→σ) (hl:l.length ≤ Go.maxLen)
    (hin:∀ k (i:Nat) x,i < l.length→l.getD i d = x→x ∈ l→B k (st i) = bif p x then some ((i:Int),()) else k (st (wI (i + 1)))) (hout:∀ k,B k (st l.length) = some (-1,())):zl B K0 (st 0) = some (vC p l 0,()):=by
  have:=yR (α:=Unit) (B:=B) hl (fun i _=>st i) (fun i _=>some (vC p (l.drop i) i,())) (fun _ _=>True) (fun k i s hi _ h=>?_) (fun k s _=>?_) () trivial
  · simpa using this
  · rw [hin k i _ hi rfl (z9 hi),h () trivial,zbA d hi]
    simp only [vC]
    cases p (l.getD i d) <;> rfl
  · rw [hout,List.drop_of_length_le (Nat.le_refl _)]; rfl
theorem zuw {l:List zz} {a:zz} (hl:l.length ≤ Go.maxLen):zbg (l,a,()) = some (l.any fun y=>eqI zy a y,()):=by
  have h:zgf (l,a,()) = some (vC (fun y=>eqI zy a y) l 0,()) :=
    zGj (B:=yH) (l:=l) qy (fun i=>(l,(l.length:Int),i,a)) hl (fun k i x hi hx _=>by
      simp only [yH]
      rw [ltT hi,zE hi,qu,hx]; rfl) (fun k=>by simp only [yH]; rw [ltF]; rfl)
  rw [zO]
  simp only [zbg,h,Option.bind_some]
  rw [ztI (p:=fun y=>eqI zy a y) l 0 (Int.le_refl 0)]
def zA8 (labels:List zz) (n:Nat) (last:Int) (g:qb):Bool:=vT g.1 && (decide (last < g.1) && (qf g.2.1 0 ((n:Int) - 1) && labels.any fun y=>eqI zy (zo5 g.1) y))
def zeF (labels:List zz) (n:Nat):Int→List qb→Bool
  | _,[]=>true
  | last,g :: gs=>zA8 labels n last g && zeF labels n g.1 gs
def zsb (labels:List zz) (n:Nat) (l:List qb):Bool:=decide (l.length ≤ 8) && (zeF labels n (-1) l && zA7 labels l)
theorem zyc {labels:List zz} {m:Nat}:∀ (l:List qb) (last:Int),zeF labels m last l = true→∀ g ∈ l,vT g.1 = true
  | [],_,_,g,hg=>by cases hg
  | a :: l,last,h,g,hg=>by
    simp only [zeF,zA8,Bool.and_eq_true] at h
    rcases List.mem_cons.1 hg with rfl | hg
    · exact h.1.1
    · exact zyc l a.1 h.2 g hg
theorem zGk (r:zf) (h1:r.1.length ≤ Go.maxLen) (h2:r.2.2.1.length ≤ 1000000) (h3:r.2.2.2.1.length ≤ Go.maxLen) (hL:zo4 r.1):vq (r,()) = some (zsb r.1 r.2.2.1.length r.2.2.2.1,()):=by
  have hloop:vq (r,()) = some (zeF r.1 r.2.2.1.length (-1) r.2.2.2.1 && (decide (r.2.2.2.1.length ≤ 8) && !(r.1.any fun a=>ze8 a.2.1 (zko 0 r.2.2.2.1) != 0)),()) :=
    zqO (B := zaX) (l:=r.2.2.2.1) (α:=Int × Int) qR (fun i s=>(s.1,r.2.2.2.1,(r.2.2.2.1.length:Int),i,r,s.2))
      (fun rest s=>some (zeF r.1 r.2.2.1.length s.1 rest && (decide (r.2.2.2.1.length ≤ 8) && !(r.1.any fun a=>ze8 a.2.1 (zko s.2 rest) != 0)),())) h3 (fun k i x rest s hi hx _ hr hk=>by
        simp only [zaX]
        have hw:wI (((List.length r.2.2.1:Nat):Int) - 1) = (r.2.2.1.length:Int) - 1:=by
          unfold wI
          exact IntWalk.i64_in _ (by omega)
        rw [ltT hi,zE hi,hw]
        simp only [qu,hx,cond_true,zrH,Option.bind_some,zeF,zA8,zko]
        cases hb:vT x.1 with
        | false=>rfl
        | true =>
          simp only [cond_true,zdz,Option.bind_some,Bool.true_and,zuw h1]
          have hk':=hk (x.1,orI s.2 (zuv x.1))
          have e:decide (s.1 < x.1) = !decide ((x.1:Int) ≤ s.1):=by grind
          rw [e]
          cases decide ((x.1:Int) ≤ s.1) with
          | true=>rfl
          | false =>
            cases qf x.2.1 0 ((r.2.2.1.length:Int) - 1) with
            | false=>rfl
            | true =>
              cases (r.1.any fun y=>eqI zy (zo5 x.1) y) with
              | false=>rfl
              | true=>exact hk') (fun k s=>by
        simp only [zaX]
        rw [ltF]
        simp only [cond_false,zeF,zko,Bool.true_and]
        rw [zhN (p:=fun a=>ze8 a.2.1 s.2 != 0) h1 fun x _=>zD6 x s.2,Option.bind_some]
        grind) (-1,0)
  rw [hloop]
  unfold zsb
  cases hr:zeF r.1 r.2.2.1.length (-1) r.2.2.2.1 with
  | false=>simp
  | true =>
    rw [zHt r.1 r.2.2.2.1 hL (zyc _ _ hr)]
    simp
theorem zD7 {labels:List zz} {n:Nat}:∀ {l:List qb} {last:Int},zeF labels n last l = qj (fun i=>zA8 labels n (if i = 0 then last else (l.getD (i - 1) qR).1) (l.getD i qR)) 0 l.length:=by
  intro l
  induction l with
  | nil=>intro last; rfl
  | cons a l ih =>
    intro last
    simp only [zeF,List.length_cons,qj,ih]
    rw [Bool.eq_iff_iff]
    simp only [Bool.and_eq_true,jQ]
    constructor
    · rintro ⟨h1,h2⟩
      refine ⟨h1,fun j h3 h4=>?_⟩
      obtain ⟨i,rfl⟩:∃ i,j = i + 1:=⟨j - 1,by omega⟩
      have:=h2 i (by omega) (by omega)
      rw [if_neg (by omega)]
      by_cases e:i = 0
      · subst e; simpa using this
      · rw [if_neg e] at this
        obtain ⟨m,rfl⟩:∃ m,i = m + 1:=⟨i - 1,by omega⟩
        exact this
    · rintro ⟨h1,h2⟩
      refine ⟨h1,fun j h3 h4=>?_⟩
      have:=h2 (j + 1) (by omega) (by omega)
      rw [if_neg (by omega)] at this
      by_cases e:j = 0
      · subst e; simpa using this
      · rw [if_neg e]
        obtain ⟨m,rfl⟩:∃ m,j = m + 1:=⟨j - 1,by omega⟩
        exact this
def qm (r:zf):Bool:=ziz r.1 && (zly r && (zgN r.2.2.1 && (zsb r.1 r.2.2.1.length r.2.2.2.1 && (ze7 r.1.length r.2.2.2.2.1 && zsa r))))
structure qa (r:zf):Prop where
  labels:zo4 r.1
  guilds:r.2.2.2.1.length ≤ Go.maxLen
  quotas:r.2.2.2.2.1.length ≤ Go.maxLen
theorem zdO (r:zf) (h:qa r):y7 (r,()) = some (qm r,()):=by
  rw [zO]
  show zl zee K0 (6,0,r,[some vu,some vZ,some jC,some vq,some vt,some yL]) = _
  obtain ⟨m,hm⟩:=zr8
  have hu:zl zee (m + 8) (6,0,r,[some vu,some vZ,some jC,some vq,some vt,some yL]) =
    Option.bind (vu (r,())) fun q=>bif q.1 then Option.bind (vZ (r,())) fun q=>bif q.1 then Option.bind (jC (r,())) fun q=>bif q.1 then Option.bind (vq (r,())) fun q=>bif q.1 then Option.bind (vt (r,())) fun q=>bif q.1 then Option.bind (yL (r,())) fun q=>bif q.1 then some (true,()) else some (false,()) else some (false,()) else some (false,()) else some (false,()) else some (false,()) else some (false,()):=by kernel_rfl
  rw [hm,hu,zGf]
  unfold qm
  simp only [Option.bind_some]
  cases h1:ziz r.1 with
  | false=>rfl
  | true =>
    have hb:1 ≤ r.1.length ∧ r.1.length ≤ 8:=by unfold ziz qf at h1; grind
    rw [zGW r (by omega),zD3]
    simp only [Option.bind_some,cond_true]
    cases zly r with
    | false=>rfl
    | true =>
      cases h2:zgN r.2.2.1 with
      | false=>rfl
      | true =>
        have hc:r.2.2.1.length ≤ 8:=by unfold zgN qf at h2; grind
        rw [zGk r (by unfold Go.maxLen; omega) (by omega) h.guilds h.labels,zGh r (by omega),zHr]
        simp only [Option.bind_some]
        grind
end Go.Proofs.YtokcjmkikhgkeaaGreatDoor
end
section
namespace Go.Proofs.YtokcjmkikhgkeaaGreatDoor
open Go.Ev
def yw (x:Int):Bool:=decide (0 ≤ x ∧ x ≤ 127)
theorem zD8 (x:Int):zdh (x,()) = some (yw x,()):=by simp only [zdh,yw]; grind
theorem zFs (x:Int):zgI (x,()) = some (yw x,()):=by simp only [zgI,yw]; grind
def zsc (x:vv):Bool:=yw x.1 && yw x.2.1
theorem zGY (x:vv):zeq (x,()) = some (zsc x,()):=by simp only [zeq,zsc,yw]; grind
def zD9 (x:Int):Bool:=decide (0 ≤ x ∧ x ≤ 5)
theorem zGZ (x:Int):zg8 (x,()) = some (zD9 x,()):=by simp only [zg8,zD9]; grind
def zws (s:ByteArray):Bool:=ByteArray.toList s == ByteArray.toList (ByteArray.mk #[])
def zob (x:ja):Bool:=bif x.1 then zo2 x.2.1 else zws x.2.1
theorem zFt (x:ja):ze4 (x,()) = some (!zob x,()):=by
  rw [zO]
  simp only [ze4,zlw,Option.bind_some,zob,zws]
  grind
theorem zA9 {l:List ja} (hl:l.length ≤ Go.maxLen):zhG (l,()) = some (l.all zob,()):=by
  rw [zO]
  simp only [zhG]
  rw [zqq (p:=fun x=>!zob x) hl fun x _=>zFt x,Option.bind_some,← jU]
  cases l.any fun x=>!zob x <;> rfl
theorem zG0 (a b:vv):eqI zX a b = ((a.1:Int) == b.1 && (a.2.1:Int) == b.2.1):=by
  show cond ((a.1:Int) == b.1) (cond ((a.2.1:Int) == b.2.1) true false) false = _
  cases ((a.1:Int) == b.1) <;> cases ((a.2.1:Int) == b.2.1) <;> rfl
def zwt (x:z8):Bool:=bif x.1 then zsc x.2.1 && (zsc x.2.2.1 && zD9 x.2.2.2.1) else eqI zW x (ze zW)
theorem zBa (x:z8):zhw (x,()) = some (!zwt x,()):=by
  rw [zO]
  simp only [zhw,zGY,zGZ,Option.bind_some,zwt]
  grind
def ziA (a b:z8):Bool:=a.1 && (eqI zX a.2.1 b.2.1 && (a.2.2.2.1:Int) == b.2.2.2.1)
theorem zxC (x:z8) (r:vv) (d:Int):zeV (x,some r,some d,()) = some (x.1 && (eqI zX x.2.1 r && (x.2.2.2.1:Int) == d),()):=by
  rw [zO]
  simp only [zeV,Option.bind_some]
  grind
theorem zG1 {α:Type} {d:α} {p:α→Bool}:∀ (l:List α) (i:Nat) (a:Int),i < l.length→p (l.getD i d) = true→((vC p l a) == a + (i:Int)) = qj (fun j=>!p (l.getD j d)) 0 i:=by
  intro l
  induction l with
  | nil=>intro i a h; simp at h
  | cons x l ih =>
    intro i a h hp
    cases i with
    | zero =>
      have hx:p x = true:=hp
      simp only [vC,hx,cond_true,qj]
      simp
    | succ i =>
      have h':i < l.length:=by simpa using h
      have hp':p (l.getD i d) = true:=hp
      have:=ih i (a + 1) h' hp'
      have e:a + 1 + (i:Int) = a + ((i + 1:Nat):Int):=by omega
      rw [e] at this
      simp only [vC]
      rw [Bool.eq_iff_iff,jQ]
      rw [Bool.eq_iff_iff,jQ] at this
      cases hx:p x with
      | true =>
        simp only [cond_true]
        constructor
        · intro h1
          have:=eq_of_beq h1
          omega
        · intro h1
          have h2:(!p x) = true:=h1 0 (by omega) (by omega)
          rw [hx] at h2; cases h2
      | false =>
        simp only [cond_false]
        rw [this]
        constructor
        · intro h1 j _ h2
          cases j with
          | zero=>show (!p x) = true; rw [hx]; rfl
          | succ j=>exact h1 j (by omega) (by omega)
        · intro h1 j _ h2
          exact h1 (j + 1) (by omega) (by omega)
def zFu (l:List z8):Bool:=qj (fun i=>zwt (l.getD i vE) && bif (l.getD i vE).1 then qj (fun j=>!ziA (l.getD j vE) (l.getD i vE)) 0 i else true) 0 (l.length - 0)
theorem zBb {l:List z8} (hl:l.length ≤ Go.maxLen):zlj (l,()) = some (zFu l,()):=by
  rw [zO]
  exact vD (B:=zcS) (i0:=0) hl (Nat.zero_le _) (fun i=>(l,l,(l.length:Int),i)) (fun k i h1 h2=>by
    simp only [zcS]
    rw [ltT h2,zE h2]
    simp only [qu,zBa,Option.bind_some,cond_true]
    cases he:zwt (l.getD i vE) with
    | false=>rfl
    | true =>
      cases hs:(l.getD i vE).1 with
      | false=>rfl
      | true =>
        have hi:zhx (l,(l.getD i vE).2.1,(l.getD i vE).2.2.2.1,()) = some (vC (fun x=>ziA x (l.getD i vE)) l 0,()):=by
          simp only [zhx]
          rw [zlu (p:=fun x=>ziA x (l.getD i vE)) hl fun x _=>zxC x _ _]
          rfl
        have hp:ziA (l.getD i vE) (l.getD i vE) = true:=by
          unfold ziA; rw [zG0,hs]; simp
        have:=zG1 (d:=vE) (p:=fun x=>ziA x (l.getD i vE)) l i 0 h2 hp
        rw [Int.zero_add] at this
        rw [hi,← this]
        simp only [Option.bind_some,Bool.not_true,cond_false,cond_true,Bool.true_and,bne]
        cases (vC (fun x=>ziA x (l.getD i vE)) l 0 == (i:Int)) <;> rfl) (fun k=>by simp only [zcS]; rw [ltF]; rfl)
def zux (k n:Int) (r:vv):Bool:=((k == 1 || k == 3) && (yw n && eqI zX r (ze zX))) || (k == 2 && (n == 0 && zsc r))
def zoc (x:qc):Bool:=bif x.1 then zo2 x.2.1 && zux x.2.2.1 x.2.2.2.1 x.2.2.2.2.1 else eqI zV x (ze zV)
theorem zBc (x:zw2):zbK (x,()) = some (zux x.1 x.2.1 x.2.2.1,()):=by
  rw [zO]
  simp only [zbK,zD8,Option.bind_some,zux,zsc]
  grind
theorem zy7 (x:qc):zf7 (x,()) = some (!zoc x,()):=by
  rw [zO]
  have h:zoM (x,()) = some ((x.2.2.1,x.2.2.2.1,x.2.2.2.2.1,()),()):=rfl
  simp only [zf7,zlw,Option.bind_some,zoc,h,zBc]
  grind
theorem zy8 {l:List qc} (hl:l.length ≤ Go.maxLen):zf9 (l,()) = some (l.all zoc,()):=by
  rw [zO]
  simp only [zf9]
  rw [zie (p:=fun x=>!zoc x) hl fun x _=>zy7 x,Option.bind_some,← jU]
  cases l.any fun x=>!zoc x <;> rfl
def zBd (c:Int):Bool:=decide (32 ≤ c ∧ c ≤ 126)
theorem zG2 (c:Int):zg9 (c,()) = some (zBd c,()):=by simp only [zg9,zBd]; grind
def zEa (s:ByteArray):Bool:=decide (1 ≤ s.size ∧ s.size ≤ 40) && ((chr s 0 != 32 && chr s (s.size - 1) != 32) && qj (fun i=>zBd (chr s i)) 0 s.size)
theorem zwu (a b:ByteArray) (h:a.size < b.size):(ByteArray.toList a == ByteArray.toList b) = false:=by
  rw [beq_eq_false_iff_ne]
  intro e
  rw [Go.ByteArray.toList_eq,Go.ByteArray.toList_eq] at e
  have:=congrArg List.length e
  rw [zoa,zoa] at this
  omega
theorem zHJ (s:ByteArray):∀ (n:Nat) (t:ByteArray),t.size ≤ n→∀ fuel,n < fuel→∃ r,zl zN fuel (t,32) = some (r,()) ∧ r.size ≤ t.size ∧ (chr t 0 ≠ 32→r = t) ∧ (1 ≤ t.size→chr t 0 = 32→r.size < t.size):=by
  intro n
  induction n with
  | zero =>
    intro t ht fuel hf
    obtain ⟨f,rfl⟩:∃ f,fuel = f + 1:=⟨fuel - 1,by omega⟩
    refine ⟨t,?_,Nat.le_refl _,fun _=>rfl,fun h=>by omega⟩
    show zN _ (t,32) = _
    simp only [zN]
    rw [decide_eq_false (by omega)]; rfl
  | succ n ih =>
    intro t ht fuel hf
    obtain ⟨f,rfl⟩:∃ f,fuel = f + 1:=⟨fuel - 1,by omega⟩
    by_cases h0:t.size = 0
    · refine ⟨t,?_,Nat.le_refl _,fun _=>rfl,fun h=>by omega⟩
      show zN _ (t,32) = _
      simp only [zN]
      rw [decide_eq_false (by omega)]; rfl
    have hc:((UInt8.toNat (List.getD t.data.toList (Int.toNat 0) 0):Nat):Int) = chr t 0:=rfl
    by_cases h32:chr t 0 = 32
    · have hsz:(ByteArray.extract t (Int.toNat 1) t.size).size = t.size - 1:=by
        rw [ByteArray.size_extract]
        show min t.size t.size - 1 = _
        omega
      obtain ⟨r,h1,h2,-⟩:=ih (ByteArray.extract t (Int.toNat 1) t.size) (by rw [hsz]; omega) f (by omega)
      refine ⟨r,?_,by omega,fun h=>absurd h32 h,fun _ _=>by omega⟩
      show zN (zl zN f) (t,32) = _
      simp only [zN]
      rw [hc,h32,h1]
      grind
    · refine ⟨t,?_,Nat.le_refl _,fun _=>rfl,fun _ h=>absurd h h32⟩
      show zN (zl zN f) (t,32) = _
      simp only [zN]
      rw [hc,decide_eq_true (by omega),decide_eq_true (by omega)]
      grind
theorem zHK:∀ (n:Nat) (t:ByteArray),t.size ≤ n→n ≤ 100→∀ fuel,n < fuel→∃ r,zl zJ fuel (t,32) = some (r,()) ∧ r.size ≤ t.size ∧ (chr t (t.size - 1) ≠ 32→r = t) ∧ (1 ≤ t.size→chr t (t.size - 1) = 32→r.size < t.size):=by
  intro n
  induction n with
  | zero =>
    intro t ht _ fuel hf
    obtain ⟨f,rfl⟩:∃ f,fuel = f + 1:=⟨fuel - 1,by omega⟩
    refine ⟨t,?_,Nat.le_refl _,fun _=>rfl,fun h=>by omega⟩
    show zJ _ (t,32) = _
    simp only [zJ]
    rw [decide_eq_false (by omega)]; rfl
  | succ n ih =>
    intro t ht hn fuel hf
    obtain ⟨f,rfl⟩:∃ f,fuel = f + 1:=⟨fuel - 1,by omega⟩
    by_cases h0:t.size = 0
    · refine ⟨t,?_,Nat.le_refl _,fun _=>rfl,fun h=>by omega⟩
      show zJ _ (t,32) = _
      simp only [zJ]
      rw [decide_eq_false (by omega)]; rfl
    have hw:wI ((t.size:Int) - 1) = ((t.size - 1:Nat):Int):=zr5 (by omega) (by unfold Go.maxLen; omega)
    have hc:((UInt8.toNat (List.getD t.data.toList (Int.toNat ((t.size - 1:Nat):Int)) 0):Nat):Int) = chr t (t.size - 1):=by rw [Int.toNat_natCast]; rfl
    by_cases h32:chr t (t.size - 1) = 32
    · have hsz:(ByteArray.extract t 0 (Int.toNat ((t.size - 1:Nat):Int))).size = t.size - 1:=by
        rw [ByteArray.size_extract,Int.toNat_natCast]
        omega
      obtain ⟨r,h1,h2,-⟩:=ih (ByteArray.extract t 0 (Int.toNat ((t.size - 1:Nat):Int))) (by rw [hsz]; omega) (by omega) f (by omega)
      refine ⟨r,?_,by omega,fun h=>absurd h32 h,fun _ _=>by omega⟩
      show zJ (zl zJ f) (t,32) = _
      simp only [zJ]
      rw [hw,hc,h32,h1,zE (by omega)]
      grind
    · refine ⟨t,?_,Nat.le_refl _,fun _=>rfl,fun _ h=>absurd h h32⟩
      show zJ (zl zJ f) (t,32) = _
      simp only [zJ]
      rw [hw,hc,zE (by omega),decide_eq_true (by omega)]
      grind
theorem zHu (s:ByteArray) (h:1 ≤ s.size ∧ s.size ≤ 40):∃ r,zeZ (s,ByteArray.mk #[32],()) = some (r,()) ∧ (ByteArray.toList r == ByteArray.toList s) = (chr s 0 != 32 && chr s (s.size - 1) != 32):=by
  obtain ⟨r,h1,h2,h3,h4⟩:=zHK s.size s (Nat.le_refl _) (by omega) K0 (zzs (by unfold Go.maxLen; omega))
  obtain ⟨r',h5,h6,h7,h8⟩:=zHJ s r.size r (Nat.le_refl _) K0 (zzs (by unfold Go.maxLen; omega))
  refine ⟨r',?_,?_⟩
  · simp only [zeZ]
    have e0:(ByteArray.toList s == ByteArray.toList (ByteArray.mk #[])) = false:=by
      cases he:zws s with
      | false=>exact he
      | true =>
        unfold zws at he
        have:=eq_of_beq he
        rw [Go.ByteArray.toList_eq,Go.ByteArray.toList_eq] at this
        have h2:s.size = 0:=by
          rw [← zoa,this]; rfl
        omega
    have e1:(ByteArray.toList (ByteArray.mk #[32]) == ByteArray.toList (ByteArray.mk #[])) = false:=by
      rw [Go.ByteArray.toList_eq,Go.ByteArray.toList_eq]; rfl
    have p1:zbj (s,32,()) = some (r,()):=h1
    have p2:zck (r,32,()) = some (r',()):=h5
    have z1:((ByteArray.size (ByteArray.mk #[32]):Nat):Int) = 1:=rfl
    have z2:((UInt8.toNat (List.getD (Array.toList (ByteArray.data (ByteArray.mk #[32]))) (Int.toNat 0) 0):Nat):Int) = 32:=rfl
    rw [e0,e1,z1,z2,p1,Option.bind_some,p2]
    rfl
  · by_cases hl:chr s (s.size - 1) = 32
    · have:=h4 h.1 hl
      rw [zwu r' s (by omega),hl]; simp
    · obtain rfl:=h3 hl
      by_cases hf:chr r 0 = 32
      · have:=h8 h.1 hf
        rw [zwu r' r (by omega),hf]; simp
      · rw [h7 hf]
        simp [hf,hl]
theorem zCz (s:ByteArray):ziT (s,()) = some (zEa s,()):=by
  rw [zO]
  simp only [ziT]
  unfold zEa
  by_cases hb:1 ≤ s.size ∧ s.size ≤ 40
  · obtain ⟨r,h1,h2⟩:=zHu s hb
    rw [zwq (by unfold Go.maxLen; omega) zG2,h1,zwp,← h2]
    simp only [Option.bind_some]
    grind
  · grind
def zod (x:qr):Bool:=bif x.1 then (yw x.2.1 && (yw x.2.2.1 && yw x.2.2.2.1)) && zEa x.2.2.2.2.1 else eqI z4 x (ze z4)
theorem zBe (x:qr):zhF (x,()) = some (!zod x,()):=by
  rw [zO]
  simp only [zhF,ziu,zFs,zCz,Option.bind_some,zod]
  grind
theorem zBf {l:List qr} (hl:l.length ≤ Go.maxLen):zhH (l,()) = some (l.all zod,()):=by
  rw [zO]
  simp only [zhH]
  rw [zif (p:=fun x=>!zod x) hl fun x _=>zBe x,Option.bind_some,← jU]
  cases l.any fun x=>!zod x <;> rfl
end Go.Proofs.YtokcjmkikhgkeaaGreatDoor
end
section
namespace Go.Proofs.YtokcjmkikhgkeaaGreatDoor
open Go.Ev
abbrev M62:Int:=4611686018427387904
abbrev U64:Int:=18446744073709551616
def zH (x:Int):Bool:=decide (0 ≤ x ∧ x ≤ 3)
theorem vU (x:Int):qL (x,()) = some (zH x,()):=by simp only [qL,zH]; grind
def zzw (a b:Int):Int × Int × Unit:=bif decide (a + b > M62) then (0,7,()) else (a + b,0,())
theorem ztm {a b:Int} (ha:0 ≤ a) (hb:0 ≤ b ∧ b < U64):zdT (a,b,()) = some (zzw a b):=by
  simp only [zdT,extA,extB,zzw,cond_true]
  have h0:0 ≤ (a + b) / 18446744073709551616:=by omega
  have h1:((a + b) / 18446744073709551616 != 0) = decide (18446744073709551616 ≤ a + b):=by
    rw [Bool.eq_iff_iff]; simp only [bne_iff_ne,ne_eq,decide_eq_true_eq]; omega
  have h2:a + b < 18446744073709551616→(a + b) % 18446744073709551616 = a + b:=fun h=>by omega
  unfold M62 at *
  unfold U64 at *
  grind
def zBg (a b:Int):Int × Int × Unit:=bif decide (a * b > M62) then (0,7,()) else (a * b,0,())
theorem zHL (a b:Nat) (ha:a < 18446744073709551616) (hb:b < 18446744073709551616):zcw ((a:Int),(b:Int),()) = some ((((a * b) / 18446744073709551616:Nat):Int),(((a * b) % 18446744073709551616:Nat):Int),()):=by
  have e32:((2:Int) ^ min (Int.toNat 32) (Go.IntKind.bits .u64)) = 4294967296:=rfl
  have hand:∀ x:Nat,x < 18446744073709551616→wU (BitVec.toNat (BitVec.ofInt (Go.IntKind.bits .u64) (x:Int) &&& BitVec.ofInt (Go.IntKind.bits .u64) 4294967295):Int) = ((x % 4294967296:Nat):Int):=fun x hx=>by
    have h1:BitVec.ofInt (Go.IntKind.bits .u64) 4294967295 = BitVec.ofNat 64 4294967295:=rfl
    rw [zjq,h1]
    have h2:(BitVec.ofNat 64 x &&& BitVec.ofNat 64 4294967295).toNat = x % 4294967296:=by
      rw [BitVec.toNat_and,BitVec.toNat_ofNat,BitVec.toNat_ofNat,Nat.mod_eq_of_lt (show x < 2 ^ 64 by omega)]
      exact Nat.and_two_pow_sub_one_eq_mod x 32
    have h3:((BitVec.ofNat 64 x &&& BitVec.ofNat 64 4294967295:BitVec (Go.IntKind.bits .u64)).toNat:Int) = ((x % 4294967296:Nat):Int):=congrArg _ h2
    exact (congrArg wU h3).trans (zkn (by omega))
  have hdiv:∀ x:Nat,Int.fdiv (x:Int) 4294967296 = ((x / 4294967296:Nat):Int):=fun x=>by
    rw [Int.fdiv_eq_ediv_of_nonneg _ (by omega)]; rfl
  have hw:∀ x:Nat,x < 18446744073709551616→wU (x:Int) = (x:Int):=fun x hx=>zkn (by omega)
  have hmod:wU ((a:Int) * (b:Int)) = (((a * b) % 18446744073709551616:Nat):Int):=by
    rw [show ((a:Int) * (b:Int)) = ((a * b:Nat):Int) by simp]
    show ((a * b:Nat):Int) % ((2 ^ 64:Nat):Int) = _
    rfl
  simp only [zcw,e32]
  have ha1:a / 4294967296 ≤ 4294967295:=by omega
  have ha0:a % 4294967296 ≤ 4294967295:=by omega
  have hb1:b / 4294967296 ≤ 4294967295:=by omega
  have hb0:b % 4294967296 ≤ 4294967295:=by omega
  have hp:=Nat.mul_le_mul ha1 hb1
  have hq:=Nat.mul_le_mul ha1 hb0
  have hr:=Nat.mul_le_mul ha0 hb1
  have hs:=Nat.mul_le_mul ha0 hb0
  have hab:a * b = (a / 4294967296 * (b / 4294967296)) * 18446744073709551616 + (a / 4294967296 * (b % 4294967296) + a % 4294967296 * (b / 4294967296)) * 4294967296 + a % 4294967296 * (b % 4294967296):=by
    conv=>lhs; rw [← Nat.div_add_mod a 4294967296,← Nat.div_add_mod b 4294967296]
    grind
  rw [hmod,hab,hand a ha,hand b hb,hdiv a,hdiv b]
  generalize a / 4294967296 = a1 at *
  generalize a % 4294967296 = a0 at *
  generalize b / 4294967296 = b1 at *
  generalize b % 4294967296 = b0 at *
  simp only [← Int.natCast_mul]
  generalize a1 * b1 = p at *
  generalize a1 * b0 = q at *
  generalize a0 * b1 = r at *
  generalize a0 * b0 = s at *
  rw [hw p (by omega),hw q (by omega),hw r (by omega),hw s (by omega),hdiv s]
  simp only [← Int.natCast_add]
  rw [hw (q + s / 4294967296) (by omega),hdiv (q + s / 4294967296),hand _ (by omega)]
  simp only [← Int.natCast_add]
  rw [hw (p + (q + s / 4294967296) / 4294967296) (by omega),hw ((q + s / 4294967296) % 4294967296 + r) (by omega),hdiv]
  simp only [← Int.natCast_add]
  rw [hw _ (by omega)]
  have:p + (q + s / 4294967296) / 4294967296 + ((q + s / 4294967296) % 4294967296 + r) / 4294967296 = (p * 18446744073709551616 + (q + r) * 4294967296 + s) / 18446744073709551616:=by omega
  rw [this]
theorem zBh {a b:Int} (ha:0 ≤ a ∧ a < U64) (hb:0 ≤ b ∧ b < U64):zez (a,b,()) = some (zBg a b):=by
  obtain ⟨m,rfl⟩:=Int.eq_ofNat_of_zero_le ha.1
  obtain ⟨n,rfl⟩:=Int.eq_ofNat_of_zero_le hb.1
  unfold U64 at *
  simp only [zez]
  rw [zHL m n (by omega) (by omega),Option.bind_some]
  unfold zBg M62
  have e:((m:Int) * (n:Int)) = ((m * n:Nat):Int):=by simp
  rw [e]
  generalize m * n = p
  by_cases h:p < 18446744073709551616
  · have h1:p / 18446744073709551616 = 0:=by omega
    have h2:p % 18446744073709551616 = p:=by omega
    simp only [h1,h2]
    grind
  · have h1:(((p / 18446744073709551616:Nat):Int) != 0) = true:=by simp only [bne_iff_ne,ne_eq]; omega
    simp only [h1]
    grind
def zlz:Int→List Int→Int × Int × Unit
  | a,[]=>(a,0,())
  | a,x :: l=>bif decide (a + x > M62) then (0,7,()) else zlz (a + x) l
theorem zau {σ α β ρ:Type} {B:(σ→Option ρ)→σ→Option ρ} {l:List β} (d:β) (I:Nat→α→Prop) (st:Int→α→σ) (G:List β→α→Option ρ) (hl:l.length ≤ Go.maxLen)
    (hin:∀ k (i:Nat) x rest s,i < l.length→I i s→l.getD i d = x→x ∈ l→l.drop (i + 1) = rest→(∀ s',I (i + 1) s'→k (st (wI (i + 1)) s') = G rest s')→B k (st i s) = G (x :: rest) s) (hout:∀ k s,I l.length s→B k (st l.length s) = G [] s) (s:α) (h0:I 0 s):zl B K0 (st 0 s) = G l s:=by
  have:=yR (B:=B) hl st (fun i s=>G (l.drop i) s) I (fun k i s hi hI h=>?_) (fun k s hI=>?_) s h0
  · simpa using this
  · rw [zbA d hi]
    exact hin k i _ _ s hi hI rfl (z9 hi) rfl fun s' hI'=>h s' hI'
  · rw [hout _ _ hI,List.drop_of_length_le (Nat.le_refl _)]
theorem zkp {l:List Int} (hl:l.length ≤ Go.maxLen) (h:∀ x ∈ l,0 ≤ x ∧ x < U64):ze0 (l,()) = some (zlz 0 l) :=
  zau (B:=zeB) (l:=l) (α:=Int) (0:Int) (fun _ s=>0 ≤ s) (fun i s=>(s,l,(l.length:Int),i)) (fun rest s=>some (zlz s rest)) hl (fun k i x rest s hi hI hx hm hr hk=>by
    simp only [zeB]
    have hxx:=h x hm
    rw [ltT hi,zE hi,qu,hx,ztm hI hxx]
    simp only [cond_true,Option.bind_some,zzw,zlz]
    by_cases hb:s + x > M62
    · rw [decide_eq_true hb]; rfl
    · rw [decide_eq_false hb]
      exact hk (s + x) (by omega)) (fun k s _=>by simp only [zeB]; rw [ltF]; rfl) 0 (Int.le_refl 0)
def y9 (a b:zz):Bool:=decide (a.1 ≤ b.1) && (List.range' 0 64).all fun i=>!zxB a.2.1 i || zxB b.2.1 i
def zdP (a:zz):Prop:=0 ≤ a.2.1 ∧ a.2.1 < U64
theorem zfS {a b:zz} (ha:zdP a) (hb:zdP b):zaC (a,b,()) = some (y9 a b,()):=by
  rw [zO]
  simp only [zaC]
  unfold y9
  unfold zdP U64 at *
  obtain ⟨m,hm⟩:=Int.eq_ofNat_of_zero_le ha.1
  obtain ⟨n,hn⟩:=Int.eq_ofNat_of_zero_le hb.1
  have h1:=ztl m n (by omega) (by omega)
  unfold ze8 at h1
  have h2:(wU (BitVec.toNat (BitVec.ofInt (Go.IntKind.bits .u64) (a.2.1:Int) &&& ~~~BitVec.ofInt (Go.IntKind.bits .u64) (b.2.1:Int)):Int) == 0) = (List.range' 0 64).all fun i=>!zxB a.2.1 i || zxB b.2.1 i:=by
    rw [hm,hn]
    have h3:∀ z:Int,(z != 0) = !(z == 0):=fun z=>rfl
    rw [h3] at h1
    have h4:=congrArg (!·) h1
    simp only [Bool.not_not] at h4
    exact h4
  rw [h2]
  grind
theorem zwv (x:Int):zeW (x,()) = some (yw x,()):=by simp only [zeW,yw]; grind
def zww (x:zkc):Bool:=zH x.1 && (decide (x.2.1 ≤ M62) && decide (-1 ≤ x.2.2.1 ∧ x.2.2.1 ≤ 127))
theorem zCA (x:zkc):zfL (x,()) = some (zww x,()):=by
  rw [zO]
  simp only [zfL,vU,zwv,Option.bind_some,zww,yw]
  unfold M62
  grind
def zzx (x:zkc):Bool:=(x.2.1:Int) == 0 && (x.2.2.1:Int) == -1
theorem zBi (x:zkc):zes (x,()) = some (zzx x,()):=by
  rw [zO]
  simp only [zes,zzx]
  have h:eqI zdc x (x.1,(ze zdc).2.1,-1,(ze zdc).2.2.2) = ((x.2.1:Int) == 0 && (x.2.2.1:Int) == -1):=by
    show cond ((x.1:Int) == x.1) (cond ((x.2.1:Int) == 0) (cond ((x.2.2.1:Int) == -1) true false) false) false = _
    rw [beq_self_eq_true]
    cases ((x.2.1:Int) == 0) <;> cases ((x.2.2.1:Int) == -1) <;> rfl
  rw [h]
def zuy (x:zp):Bool:=(yw x.2.1 && (yw x.2.2.1 && (x.2.1:Int) != x.2.2.1)) && ((zww x.2.2.2.1 && zww x.2.2.2.2.1) && !(zzx x.2.2.2.1 && zzx x.2.2.2.2.1))
def zsd (x:zp):Prop:=(0 ≤ x.2.2.2.1.2.1 ∧ x.2.2.2.1.2.1 < U64) ∧ (0 ≤ x.2.2.2.2.1.2.1 ∧ x.2.2.2.2.1.2.1 < U64)
theorem zCB (x:zp):ziR (x,()) = some (zuy x,()):=by
  rw [zO]
  simp only [ziR,zwv,zCA,zBi,Option.bind_some,zuy]
  grind
def zkC (x:zp):Bool:=bif x.1 then zuy x else eqI zv x (ze zv)
theorem zwx (x:zp):zed (x,()) = some (!zkC x,()):=by
  rw [zO]
  simp only [zed,zCB,Option.bind_some,zkC]
  grind
theorem zy9 {l:List zp} (hl:l.length ≤ Go.maxLen):zf8 (l,()) = some (l.all zkC,()):=by
  rw [zO]
  simp only [zf8]
  rw [zhO (p:=fun x=>!zkC x) hl fun x _=>zwx x,Option.bind_some,← jU]
  cases l.any fun x=>!zkC x <;> rfl
end Go.Proofs.YtokcjmkikhgkeaaGreatDoor
end
section
namespace Go.Proofs.YtokcjmkikhgkeaaGreatDoor
open Go.Ev
theorem zkD {α:Type} {p:α→Bool} {x:α} {l:List α}:(x :: l).filter p = bif p x then x :: l.filter p else l.filter p:=by
  rw [List.filter_cons]; cases p x <;> rfl
def qF {α:Type} (p:α→Bool):Nat→List α→List Int
  | _,[]=>[]
  | i,x :: l=>bif p x then (i:Int) :: qF p (i + 1) l else qF p (i + 1) l
theorem zkq {α:Type} {p:α→Bool}:∀ (l:List α) (i:Nat),(qF p i l).length ≤ l.length
  | [],_=>Nat.le_refl _
  | x :: l,i=>by
    have:=zkq (p:=p) l (i + 1)
    simp only [qF,List.length_cons]
    cases p x <;> simp <;> omega
theorem zkr {α:Type} {p:α→Bool}:∀ (l:List α) (i:Nat),∀ z ∈ qF p i l,∃ j:Nat,z = (j:Int) ∧ i ≤ j ∧ j < i + l.length
  | [],i,z,h=>by cases h
  | x :: l,i,z,h=>by
    simp only [qF] at h
    have ih:=zkr (p:=p) l (i + 1)
    cases hp:p x with
    | true =>
      rw [hp,cond_true] at h
      rcases List.mem_cons.1 h with rfl | h
      · exact ⟨i,rfl,Nat.le_refl _,by simp⟩
      · obtain ⟨j,h1,h2,h3⟩:=ih z h
        exact ⟨j,h1,by omega,by simp; omega⟩
    | false =>
      rw [hp,cond_false] at h
      obtain ⟨j,h1,h2,h3⟩:=ih z h
      exact ⟨j,h1,by omega,by simp; omega⟩
theorem zjO {α β:Type} {p q:α→Bool} {g:α→β} (d:α) (L:List α):∀ (l:List α) (i:Nat),(∀ j,j < l.length→L.getD (i + j) d = l.getD j d)→((qF p i l).filter fun z=>q (L.getD z.toNat d)).map (fun z=>g (L.getD z.toNat d)) = (l.filter fun x=>p x && q x).map g
  | [],_,_=>rfl
  | x :: l,i,h=>by
    have ih:=zjO (p:=p) (q:=q) (g:=g) d L l (i + 1) fun j hj=>by
      have:=h (j + 1) (by simp; omega)
      rw [show i + 1 + j = i + (j + 1) by omega,this]; rfl
    have h0:L.getD i d = x:=h 0 (by simp)
    simp only [qF,zkD]
    cases hp:p x with
    | false=>simp only [cond_false,Bool.false_and]; exact ih
    | true =>
      simp only [cond_true,Bool.true_and,zkD,Int.toNat_natCast,h0]
      cases hq:q x with
      | false=>exact ih
      | true=>simp only [cond_true,List.map_cons,Int.toNat_natCast,h0,ih]
theorem zrI {l:List zp} {g:zp × Unit→Option (Bool × Unit)}:zdo (some (l,some g,()),()) = some (true,()):=rfl
theorem ztn {l:List zp} {g:zp × Unit→Option (Bool × Unit)} {p:zp→Bool} (hg:∀ x,g (x,()) = some (p x,())) {i:Nat} (hi:i < l.length):vM (some (l,some g,()),(i:Int),()) = some (p (l.getD i qV),()):=by
  rw [zO]
  simp only [vM,zrI,Option.bind_some,cond_true]
  rw [decide_eq_true (by omega),ltT hi,zE hi,qu,hg]
  simp only [cond_true,Option.bind_some]
theorem zp0 {l:List zp} {g:zp × Unit→Option (Bool × Unit)} {p:zp→Bool} (hl:l.length ≤ lim) (hg:∀ x,g (x,()) = some (p x,())):zcA (some (l,some g,()),()) = some (qF p 0 l,()):=by
  have hl':l.length ≤ Go.maxLen:=by unfold lim at hl; unfold Go.maxLen; omega
  have:=yR (B:=yk) (α:=List Int) hl' (fun i o=>(some (l,some g,()),(l.length:Int),i,o)) (fun i o=>some (o ++ qF p i (l.drop i),())) (fun i o=>o.length ≤ i) (fun k i o hi hI hk=>by
    simp only [yk]
    rw [ltT hi,ztn hg hi,zgv,zbA qV hi]
    simp only [cond_true,Option.bind_some,qF]
    rw [decide_eq_true (by simp; omega)]
    cases hp:p (l.getD i qV) with
    | false =>
      simp only [cond_false]
      exact hk o (by omega)
    | true =>
      simp only [cond_true]
      rw [hk _ (by simp; omega)]
      simp) (fun k o _=>by
    simp only [yk]
    rw [ltF,List.drop_of_length_le (Nat.le_refl _)]
    simp [qF]) [] (Nat.le_refl _)
  refine Eq.trans ?_ (this.trans ?_)
  · rfl
  · simp
theorem zBj {l:List zn} {g:zn × Unit→Option (Bool × Unit)}:zdq (some (l,some g,()),()) = some (true,()):=rfl
theorem zCC {l:List zn} {g:zn × Unit→Option (Bool × Unit)} {p:zn→Bool} (hg:∀ x,g (x,()) = some (p x,())) {i:Nat} (hi:i < l.length):zec (some (l,some g,()),(i:Int),()) = some (p (l.getD i qp),()):=by
  rw [zO]
  simp only [zec,zBj,Option.bind_some,cond_true]
  rw [decide_eq_true (by omega),ltT hi,zE hi,qu,hg]
  simp only [cond_true,Option.bind_some]
theorem zza {l:List zn} {g:zn × Unit→Option (Bool × Unit)} {p:zn→Bool} (hl:l.length ≤ lim) (hg:∀ x,g (x,()) = some (p x,())):zfu (some (l,some g,()),()) = some (qF p 0 l,()):=by
  have hl':l.length ≤ Go.maxLen:=by unfold lim at hl; unfold Go.maxLen; omega
  have:=yR (B:=ym) (α:=List Int) hl' (fun i o=>(some (l,some g,()),(l.length:Int),i,o)) (fun i o=>some (o ++ qF p i (l.drop i),())) (fun i o=>o.length ≤ i) (fun k i o hi hI hk=>by
    simp only [ym]
    rw [ltT hi,zCC hg hi,zgv,zbA qp hi]
    simp only [cond_true,Option.bind_some,qF]
    rw [decide_eq_true (by simp; omega)]
    cases hp:p (l.getD i qp) with
    | false =>
      simp only [cond_false]
      exact hk o (by omega)
    | true =>
      simp only [cond_true]
      rw [hk _ (by simp; omega)]
      simp) (fun k o _=>by
    simp only [ym]
    rw [ltF,List.drop_of_length_le (Nat.le_refl _)]
    simp [qF]) [] (Nat.le_refl _)
  refine Eq.trans ?_ (this.trans ?_)
  · rfl
  · simp
def zmK (l:List zp) (c:Int):Int × Int × Unit:=bif zH c then zlz 0 ((l.filter fun x=>x.1 && (x.2.2.2.1.1:Int) == c).map fun x=>x.2.2.2.1.2.1) else (0,1,())
theorem zCD (l:List zp) (hl:l.length ≤ lim):ziS (l,()) = some (some (l,some zf1,()),()):=by
  simp only [ziS,yq,zjK hl,Option.bind_some]
  rfl
theorem zzb (x:zp):zf1 (x,()) = some (x.1,()):=by
  rw [zO]; rfl
theorem zBk {l:List zp} (hl:l.length ≤ lim) (h:∀ x ∈ l,zsd x) (c:Int):zhD (l,c,()) = some (zmK l c):=by
  have hl':l.length ≤ Go.maxLen:=by unfold lim at hl; unfold Go.maxLen; omega
  simp only [zhD,zhC,vU,Option.bind_some]
  unfold zmK
  cases hc:zH c with
  | false=>rfl
  | true =>
    simp only [cond_true]
    rw [zCD l hl,Option.bind_some,zp0 hl zzb,Option.bind_some]
    have hsl:=zkq (p:=fun x:zp=>x.1) l 0
    have hsm:=zkr (p:=fun x:zp=>x.1) l 0
    have hloop:=zau (B:=zcU) (l:=qF (fun x:zp=>x.1) 0 l) (α:=List Int) (0:Int) (fun i o=>o.length ≤ i ∧ ∀ x ∈ o,0 ≤ x ∧ x < U64) (fun i o=>(l,c,qF (fun x:zp=>x.1) 0 l,((qF (fun x:zp=>x.1) 0 l).length:Int),i,o))
      (fun rest o=>some (zlz 0 (o ++ (rest.filter fun z=>((l.getD z.toNat qV).2.2.2.1.1:Int) == c).map fun z=>(l.getD z.toNat qV).2.2.2.1.2.1))) (by omega) (fun k i x rest o hi hI hx hm hr hk=>by
        simp only [zcU]
        obtain ⟨j,rfl,-,hj⟩:=hsm x hm
        rw [ltT hi,zE hi,qu,hx,zE (by omega),zE (by omega),Int.toNat_natCast,zgv]
        have hxx:=(h (l.getD j qV) (z9 (by omega))).1
        simp only [cond_true,zkD,Int.toNat_natCast]
        rw [decide_eq_true (by simp; omega)]
        simp only [cond_true]
        cases hq:((l.getD j qV).2.2.2.1.1:Int) == c with
        | false =>
          exact hk o ⟨by omega,hI.2⟩
        | true =>
          simp only [cond_true,List.map_cons,Int.toNat_natCast]
          refine (hk _ ⟨by simp; omega,fun x hx=>?_⟩).trans ?_
          · rcases List.mem_append.1 hx with hx | hx
            · exact hI.2 x hx
            · rcases List.mem_singleton.1 hx with rfl
              exact hxx
          · rw [List.append_assoc]; rfl) (fun k o hI=>by
        simp only [zcU]
        rw [ltF]
        simp only [cond_false]
        rw [zkp (by omega) hI.2,List.filter_nil,List.map_nil,List.append_nil]
        rfl) [] ⟨Nat.le_refl _,fun x hx=>by cases hx⟩
    refine hloop.trans ?_
    rw [List.nil_append,zjO (q:=fun x:zp=>(x.2.2.2.1.1:Int) == c) (g:=fun x:zp=>x.2.2.2.1.2.1) qV l l 0 fun j _=>by rw [Nat.zero_add]]
end Go.Proofs.YtokcjmkikhgkeaaGreatDoor
end
section
namespace Go.Proofs.YtokcjmkikhgkeaaGreatDoor
open Go.Ev
def zBl (x:Int):Bool:=decide (0 ≤ x ∧ x ≤ 2)
theorem zxD (x:Int):zaF (x,()) = some (!zBl x,()):=by simp only [zaF,zBl]; grind
def zwy (r:zf) (i:Nat) (row:List Int):Bool:=decide (row.length = r.2.2.1.length) && (row.all zBl && row.getD (Int.toNat (r.2.2.2.1.getD i qR).2.1) (0:Int) == 2)
def zhP (r:zf) (l:List (List Int)):Bool:=decide (l.length = r.2.2.2.1.length) && qj (fun i=>zwy r i (l.getD i [])) 0 (l.length - 0)
structure zgP (r:zf):Prop where
  labels:1 ≤ r.1.length ∧ r.1.length ≤ 8
  lines:1 ≤ r.2.1.length ∧ r.2.1.length ≤ 8
  accounts:1 ≤ r.2.2.1.length ∧ r.2.2.1.length ≤ 8
  guilds:r.2.2.2.1.length ≤ 8
  quotas:r.2.2.2.2.1.length = r.1.length
  heads:∀ i,i < r.2.2.2.1.length→0 ≤ (r.2.2.2.1.getD i qR).2.1 ∧ (r.2.2.2.1.getD i qR).2.1 < (r.2.2.1.length:Int)
theorem jl {r:zf} (h:qm r = true):zgP r:=by
  simp only [qm,Bool.and_eq_true] at h
  obtain ⟨h1,h2,h3,h4,h5,-⟩:=h
  simp only [ziz,zly,zgN,zsb,ze7,qf,Bool.and_eq_true,decide_eq_true_eq,zD7,jQ] at h1 h2 h3 h4 h5
  refine ⟨by omega,by omega,by omega,h4.1,by omega,fun i hi=>?_⟩
  have:=h4.2.1 i (by omega) (by omega)
  simp only [zA8,qf,Bool.and_eq_true,decide_eq_true_eq] at this
  omega
theorem ixR {n:Nat} {x:Int} {ρ:Type} {y:Option ρ} (h:0 ≤ x ∧ x < (n:Int)):inR x (n:Int) y = y:=zFl h.1 h.2
theorem zBm {r:zf} (hr:qa r) (l:List (List Int)):zhL (r,l,()) = some (qm r && zhP r l,()):=by
  rw [zO]
  simp only [zhL,zhK,zdO r hr,Option.bind_some]
  cases hb:qm r with
  | false=>rfl
  | true =>
    have ok:=jl hb
    rw [zl9]
    unfold zhP
    by_cases hn:l.length = r.2.2.2.1.length
    · have hg:=ok.guilds
      have hloop:ziy K0 (some zaF,l,(l.length:Int),0,r) = bif qj (fun i=>zwy r i (l.getD i [])) 0 (l.length - 0) then some (true,()) else some (false,()) :=
        vD (i0:=0) (n:=l.length) (by unfold Go.maxLen; omega) (Nat.zero_le _) (fun i=>(some zaF,l,(l.length:Int),i,r)) (fun k i h1 h2=>by
          simp only [ze5]
          rw [ltT h2,zE h2,Int.toNat_natCast,zl9]
          unfold zwy
          by_cases hm:(l.getD i []).length = r.2.2.1.length
          · have ha:=ok.accounts
            have hh:=ok.heads i (by omega)
            rw [zb8 (p:=fun x=>!zBl x) (l:=l.getD i []) (by unfold Go.maxLen; omega) fun x _=>zxD x,zE (by omega),qu,ixR (by rw [hm]; exact hh)]
            have:=jU (l:=l.getD i []) (p:=zBl)
            simp only [Option.bind_some,cond_true]
            grind
          · grind) (fun k=>by simp only [ze5]; rw [ltF]; rfl)
      rw [hloop]
      grind
    · grind
theorem zFv (x:Int):zje (x,()) = some (yw x,()):=by simp only [zje,yw]; grind
theorem zEb (x:Int):zdj (x,()) = some (yw x,()):=by simp only [zdj,yw]; grind
def zo6 (k a b:Int):Int × Int × Unit:=bif (k != 1 && k != 2) || (a == 0 || b == 0) then (0,1,()) else bif decide (a * b > M62) then (0,7,()) else bif k == 2 then (a,0,()) else (a * b,0,())
theorem zto {k a b:Int} (ha:0 ≤ a ∧ a < U64) (hb:0 ≤ b ∧ b < U64):zfO (k,a,b,()) = some (zo6 k a b):=by
  simp only [zfO,zBh ha hb,Option.bind_some,zBg,zo6]
  generalize a * b = p
  cases h:decide (p > M62) <;> simp only [cond_true,cond_false] <;> grind
def z7 (x:Int):Prop:=0 ≤ x ∧ x < U64
structure zkE (x:zn):Prop where
  amount:z7 x.2.2.2.2.2.2.1
  price:z7 x.2.2.2.2.2.2.2.1
  held:z7 x.2.2.2.2.2.2.2.2.1
def zo7 (x:zn):Bool:=((zo6 x.2.2.2.1 x.2.2.2.2.2.2.2.1 x.2.2.2.2.2.2.1).2.1 == 0 && (zo6 x.2.2.2.1 x.2.2.2.2.2.2.2.1 x.2.2.2.2.2.2.1).1 == x.2.2.2.2.2.2.2.2.1) && ((yw x.2.1 && yw x.2.2.1) && ((zH x.2.2.2.2.1 && zH x.2.2.2.2.2.1) && ((x.2.2.2.2.1:Int) != x.2.2.2.2.2.1 && decide (0 ≤ x.2.2.2.2.2.2.2.2.2.1))))
theorem zEc {x:zn} (h:zkE x):zki (x,()) = some (zo7 x,()):=by
  rw [zO]
  simp only [zki,zto h.price h.amount,zFv,vU,Option.bind_some,zo7]
  generalize zo6 x.2.2.2.1 x.2.2.2.2.2.2.2.1 x.2.2.2.2.2.2.1 = n
  grind
def zxE (x:zn):Bool:=bif x.1 then zo7 x else eqI zm x (ze zm)
def zuz (l:List zn):List Int:=(l.filter fun x=>x.1).map fun x=>x.2.2.2.2.2.2.2.2.2.1
def zBn:List Int→List (Int × Int)→Nat
  | [],o=>o.length
  | x :: l,o=>zBn l (yn tI o x (wI (zcd tI (0:Int) o x + 1)))
def zse (l:List zn):Bool:=l.all zxE && zBn (zuz l) [] == (zuz l).length
theorem zBo {l:List zn} (hl:l.length ≤ 1000000) (h:∀ x ∈ l,zkE x):zls (l,()) = some (zse l,()):=by
  have hloop:=zau (B:=zcW) (l:=l) (α:=Nat × List (Int × Int)) qp (fun i s=>s.1 ≤ i) (fun i s=>((s.1:Int),l,(l.length:Int),i,s.2))
    (fun rest s=>some (rest.all zxE && zBn (zuz rest) s.2 == s.1 + (zuz rest).length,())) (by unfold Go.maxLen; omega) (fun k i x rest s hi hI hx hm hr hk=>by
      obtain ⟨n,o⟩:=s
      simp only [zcW]
      have hn:n ≤ i:=hI
      have hw:wI ((n:Int) + 1) = ((n + 1:Nat):Int):=by
        unfold wI
        rw [IntWalk.i64_in _ (by omega)]; rfl
      rw [ltT hi,zE hi]
      simp only [qu,hx,cond_true,zEc (h x hm),Option.bind_some,hw,zuz,zkD,List.all_cons,zxE]
      cases hlive:x.1 with
      | false =>
        simp only [cond_false]
        have:=hk (n,o) (by show n ≤ i + 1; omega)
        cases eqI zm x (ze zm) with
        | false=>rfl
        | true=>exact this
      | true =>
        simp only [cond_true,List.map_cons,zBn,List.length_cons]
        have:=hk (n + 1,yn tI o x.2.2.2.2.2.2.2.2.2.1 (wI (zcd tI (0:Int) o x.2.2.2.2.2.2.2.2.2.1 + 1))) (by show n + 1 ≤ i + 1; omega)
        cases zo7 x with
        | false=>rfl
        | true =>
          refine this.trans ?_
          simp only [zuz,Bool.true_and]
          rw [show n + 1 + (List.map (fun x:zn=>x.2.2.2.2.2.2.2.2.2.1) (List.filter (fun x=>x.1) rest)).length = n + ((List.map (fun x:zn=>x.2.2.2.2.2.2.2.2.2.1) (List.filter (fun x=>x.1) rest)).length + 1) by omega]) (fun k s _=>by
      obtain ⟨n,o⟩:=s
      simp only [zcW]
      rw [ltF]
      simp only [cond_false,zuz,List.filter_nil,List.map_nil,zBn,List.length_nil,List.all_nil,Bool.true_and,Nat.add_zero]
      rw [zFr]
      cases o.length == n <;> rfl) (0,[]) (Nat.le_refl _)
  refine hloop.trans ?_
  unfold zse
  rw [Nat.zero_add]
structure zsf (x:zF):Prop where
  amount:z7 x.2.2.2.2.2.2.2.1
  price:z7 x.2.2.2.2.2.2.2.2.1
def zkF (x:zF):Bool:=(decide (x.1 ≤ M62) && (yw x.2.1 && (yw x.2.2.1 && (yw x.2.2.2.1 && yw x.2.2.2.2.2.2.2.2.2.1)))) && bif (x.2.2.2.2.1:Int) == 3 then ((x.2.2.2.2.2.1:Int) == 0 && (x.2.2.2.2.2.2.1:Int) == 0) && ((x.2.2.2.2.2.2.2.1:Int) == 0 && (x.2.2.2.2.2.2.2.2.1:Int) == 0)
  else ((zo6 x.2.2.2.2.1 x.2.2.2.2.2.2.2.1 x.2.2.2.2.2.2.2.2.1).2.1 == 0 && (x.2.2.2.2.2.2.2.2.2.1:Int) == 0) && ((x.2.2.2.2.2.1:Int) != x.2.2.2.2.2.2.1 && (zH x.2.2.2.2.2.1 && zH x.2.2.2.2.2.2.1))
theorem zFw (x:zF):eqI zr x (x.1,x.2.1,x.2.2.1,x.2.2.2.1,x.2.2.2.2.1,(ze zr).2.2.2.2.2.1,(ze zr).2.2.2.2.2.2.1,(ze zr).2.2.2.2.2.2.2.1,(ze zr).2.2.2.2.2.2.2.2.1,x.2.2.2.2.2.2.2.2.2.1,(ze zr).2.2.2.2.2.2.2.2.2.2) = (((x.2.2.2.2.2.1:Int) == 0 && (x.2.2.2.2.2.2.1:Int) == 0) && ((x.2.2.2.2.2.2.2.1:Int) == 0 && (x.2.2.2.2.2.2.2.2.1:Int) == 0)):=by
  show cond ((x.1:Int) == x.1) (cond ((x.2.1:Int) == x.2.1) (cond ((x.2.2.1:Int) == x.2.2.1) (cond ((x.2.2.2.1:Int) == x.2.2.2.1) (cond ((x.2.2.2.2.1:Int) == x.2.2.2.2.1) (cond ((x.2.2.2.2.2.1:Int) == 0) (cond ((x.2.2.2.2.2.2.1:Int) == 0) (cond ((x.2.2.2.2.2.2.2.1:Int) == 0) (cond ((x.2.2.2.2.2.2.2.2.1:Int) == 0) (cond ((x.2.2.2.2.2.2.2.2.2.1:Int) == x.2.2.2.2.2.2.2.2.2.1) true false) false) false) false) false) false) false) false) false) false = _
  simp only [beq_self_eq_true,cond_true]
  cases ((x.2.2.2.2.2.1:Int) == 0) <;> cases ((x.2.2.2.2.2.2.1:Int) == 0) <;> cases ((x.2.2.2.2.2.2.2.1:Int) == 0) <;> cases ((x.2.2.2.2.2.2.2.2.1:Int) == 0) <;> rfl
theorem zCE {x:zF} (h:zsf x):ziU (x,()) = some (zkF x,()):=by
  rw [zO]
  simp only [ziU,zto h.amount h.price,zEb,vU,Option.bind_some,zkF]
  rw [zFw x]
  generalize zo6 x.2.2.2.2.1 x.2.2.2.2.2.2.2.1 x.2.2.2.2.2.2.2.2.1 = n
  unfold M62
  grind
def zFx (a b:zF):Int:=orV (zjM a.1 b.1) (zjM a.2.1 b.2.1)
theorem zzc (a b:zF):zf6 (a,b,()) = some (zFx a b,()):=by
  simp only [zf6,zpZ,zlv,Option.bind_some]
  show Option.bind (zcJ ([zjM a.1 b.1,zjM a.2.1 b.2.1],())) _ = _
  rw [zHp]; rfl
def zlA (l:List zF):Bool:=qj (fun i=>zkF (l.getD i zg1) && (decide (i = 0) || !decide (zFx (l.getD (i - 1) zg1) (l.getD i zg1) ≥ 0))) 0 (l.length - 0)
theorem zzd {l:List zF} (hl:l.length ≤ Go.maxLen) (h:∀ x ∈ l,zsf x):zjF (l,()) = some (zlA l,()):=by
  rw [zO]
  exact vD (B:=zbW) (i0:=0) hl (Nat.zero_le _) (fun i=>(l,l,(l.length:Int),i)) (fun k i h1 h2=>by
    simp only [zbW]
    rw [ltT h2,zE h2,qu,zCE (h _ (z9 h2))]
    by_cases h0:i = 0
    · subst h0
      simp only [cond_true,Option.bind_some]
      grind
    · rw [zr5 (by omega) (by omega),zE (by omega),Int.toNat_natCast,zzc]
      simp only [cond_true,Option.bind_some]
      grind) (fun k=>by simp only [zbW]; rw [ltF]; rfl)
end Go.Proofs.YtokcjmkikhgkeaaGreatDoor
end
section
namespace Go.Proofs.YtokcjmkikhgkeaaGreatDoor
open Go.Ev
def zks (a:List Int):Prop:=∀ x ∈ a,z7 x
theorem za4 {a:List Int} (h:zks a) (i:Nat):z7 (a.getD i 0):=by
  by_cases hi:i < a.length
  · exact h _ (z9 hi)
  · rw [List.getD_eq_getElem?_getD,List.getElem?_eq_none (by omega)]
    unfold z7 U64; decide
structure ziB (x:zg):Prop where
  trades:∀ t ∈ x.2.2.2.2.1,zsd t
  purses:∀ a ∈ x.2.2.2.2.2.1,zks a
  made:zks x.2.2.2.2.2.2.2.1
  spent:zks x.2.2.2.2.2.2.2.2.1
structure zR (s:zd):Prop where
  shelves:∀ x ∈ s.2.1,ziB x
  orders:∀ x ∈ s.2.2.2.1,zkE x
  entries:∀ x ∈ s.2.2.2.2.1,zsf x
def zeG (r:zf) (x:zg) (q:zad):Bool:=((decide ((x.1.length:Int) = q.1) && decide ((x.2.1.length:Int) = q.2.1)) && (decide ((x.2.2.1.length:Int) = q.2.2.1) && decide ((x.2.2.2.1.length:Int) = q.2.2.2.1))) && (decide ((x.2.2.2.2.1.length:Int) = q.2.2.2.2.1) && (decide (x.2.2.2.2.2.1.length = r.2.2.1.length) && decide (x.2.2.2.2.2.2.1.length = r.2.2.1.length)))
def zfT (r:zf) (s:zd):Bool:=(decide (s.2.1.length = r.1.length) && (decide ((s.2.2.2.1.length:Int) = r.2.2.2.2.2.1) && decide ((s.2.2.2.2.1.length:Int) ≤ r.2.2.2.2.2.2.1))) && ((decide (s.2.2.2.2.2.1.length = r.2.1.length) && decide (s.1 ≤ M62)) && qj (fun i=>zeG r (s.2.1.getD i za) (r.2.2.2.2.1.getD i qz)) 0 (s.2.1.length - 0))
theorem neI (a b:Int):(a != b) = !decide (a = b):=by
  rw [Bool.eq_iff_iff]; simp
theorem zze {r:zf} (hr:qa r) (s:zd):zbp ((r,s,()),()) = some (qm r && zfT r s,()):=by
  rw [zO]
  simp only [zbp,zga,zdO r hr,Option.bind_some]
  cases hb:qm r with
  | false=>rfl
  | true =>
    have ok:=jl hb
    have ok1:=ok.labels
    have ok2:=ok.quotas
    rw [zl9,zl9]
    unfold zfT M62
    by_cases hn:s.2.1.length = r.1.length
    · have hloop:zhJ K0 ((r.2.2.1.length:Int),s.2.1,(s.2.1.length:Int),0,(r,s,())) = bif qj (fun i=>zeG r (s.2.1.getD i za) (r.2.2.2.2.1.getD i qz)) 0 (s.2.1.length - 0) then some (true,()) else some (false,()) :=
        vD (i0:=0) (n:=s.2.1.length) (by unfold Go.maxLen; omega) (Nat.zero_le _) (fun i=>((r.2.2.1.length:Int),s.2.1,(s.2.1.length:Int),i,(r,s,()))) (fun k i h1 h2=>by
          simp only [zeg]
          rw [ltT h2,zE h2,zE (by omega)]
          simp only [qu,neI,cond_true,zeG]
          generalize s.2.1.getD i za = x
          generalize r.2.2.2.2.1.getD i qz = q
          generalize k _ = kk
          grind (splits:=30)) (fun k=>by simp only [zeg]; rw [ltF]; rfl)
      rw [hloop]
      grind
    · grind
structure zgQ (r:zf) (s:zd):Prop where
  shelves:s.2.1.length = r.1.length
  orders:s.2.2.2.1.length ≤ 24
  entries:s.2.2.2.2.1.length ≤ 48
  people:s.2.2.2.2.2.1.length = r.2.1.length
  shelf:∀ x ∈ s.2.1,x.1.length ≤ 12 ∧ x.2.1.length ≤ 12 ∧ x.2.2.1.length ≤ 12 ∧ x.2.2.2.1.length ≤ 12 ∧ x.2.2.2.2.1.length ≤ 12 ∧ x.2.2.2.2.2.1.length = r.2.2.1.length ∧ x.2.2.2.2.2.2.1.length = r.2.2.1.length
theorem zuA:∀ (l:List zad) (n:Int),zkm n l = true→∀ q ∈ l,zgO q = true
  | [],_,_,q,h=>by cases h
  | a :: l,n,h,q,hq=>by
    simp only [zkm,Bool.and_eq_true] at h
    rcases List.mem_cons.1 hq with rfl | hq
    · exact h.1
    · exact zuA l _ h.2.2 q hq
theorem zb9 {r:zf} {s:zd} (hb:qm r = true) (h:zfT r s = true):zgQ r s:=by
  have ok:=jl hb
  simp only [qm,Bool.and_eq_true] at hb
  obtain ⟨-,-,-,-,h5,h6⟩:=hb
  simp only [ze7,zsa,qf,Bool.and_eq_true,decide_eq_true_eq] at h5 h6
  simp only [zfT,Bool.and_eq_true,decide_eq_true_eq,jQ] at h
  obtain ⟨⟨h7,h8,h9⟩,⟨h10,-⟩,h11⟩:=h
  refine ⟨h7,by omega,by omega,h10,fun x hx=>?_⟩
  obtain ⟨i,hi,rfl⟩:=List.mem_iff_getElem.1 hx
  have h12:=h11 i (by omega) (by omega)
  have e:s.2.1.getD i za = s.2.1[i]:=by simp [List.getD,hi]
  rw [e] at h12
  have hq:=zuA _ _ h5.2.2.2 (r.2.2.2.2.1.getD i qz) (z9 (by have:=ok.quotas; omega))
  simp only [zgO,qf,Bool.and_eq_true,decide_eq_true_eq] at hq
  simp only [zeG,Bool.and_eq_true,decide_eq_true_eq] at h12
  omega
def vV (x:zg):Bool:=(x.1.all zob) && (zFu x.2.1 && (x.2.2.1.all zoc && (x.2.2.2.1.all zod && x.2.2.2.2.1.all zkC)))
theorem zwz {x:zg} (h:x.1.length ≤ 12 ∧ x.2.1.length ≤ 12 ∧ x.2.2.1.length ≤ 12 ∧ x.2.2.2.1.length ≤ 12 ∧ x.2.2.2.2.1.length ≤ 12):zef (x,()) = some (vV x,()):=by
  rw [zO]
  have hm:12 ≤ Go.maxLen:=by unfold Go.maxLen; omega
  simp only [zef]
  rw [zA9 (by omega),zBb (by omega),zy8 (by omega),zBf (by omega),zy9 (by omega)]
  simp only [Option.bind_some,vV]
  grind
theorem zzf {r:zf} {s:zd} (ok:zgP r) (sz:zgQ r s):zbq ((r,s,()),()) = some (s.2.1.all vV,()):=by
  rw [zO]
  simp only [zbq]
  have h1:=ok.labels
  have h2:=sz.shelves
  rw [zCq (p:=vV) (by unfold Go.maxLen; omega) fun x hx=>zwz (by have:=sz.shelf x hx; omega)]
  simp only [Option.bind_some]
def jJ (r:zf) (x:Int):Bool:=decide (0 ≤ x ∧ x < (r.2.2.1.length:Int))
def vw (r:zf) (x:Int):Bool:=decide (0 ≤ x ∧ x < (r.1.length:Int))
theorem yY (r:zf) (s:zd) (x:Int):qM ((r,s,()),x,()) = some (jJ r x,()):=by simp only [qM,jJ]; grind
theorem zp1 (r:zf) (s:zd) (x:Int):zbn ((r,s,()),x,()) = some (vw r x,()):=by simp only [zbn,vw]; grind
def zlB (s:zd) (x:vv):Bool:=decide (0 ≤ x.1 ∧ x.1 < (s.2.1.length:Int)) && (decide (0 ≤ x.2.1 ∧ x.2.1 < ((s.2.1.getD x.1.toNat za).1.length:Int)) && ((s.2.1.getD x.1.toNat za).1.getD x.2.1.toNat zr6).1)
theorem zp2 (s:zd) (x:vv):zdC (s,x,()) = some (zlB s x,()):=by
  rw [zO]
  simp only [zdC,zlB,ix]
  by_cases h1:0 ≤ x.1 ∧ x.1 < (s.2.1.length:Int)
  · rw [ixR h1,ixR h1]
    by_cases h2:0 ≤ x.2.1 ∧ x.2.1 < ((s.2.1.getD x.1.toNat za).1.length:Int)
    · rw [ixR h2]
      grind
    · grind
  · grind
def ziC (r:zf) (s:zd) (x:zn):Bool:=!x.1 || (vw r x.2.1 && (jJ r x.2.2.1 && decide (x.2.2.2.2.2.2.2.2.2.1 < (s.2.2.2.2.1.length:Int))))
def ziD (r:zf) (s:zd) (x:zF):Bool:=decide (x.2.1 < (r.2.1.length:Int)) && ((x.2.2.1:Int) == r.2.1.getD x.2.1.toNat 0 && (jJ r x.2.2.2.1 && decide (x.1 ≤ s.1)))
def zsg (r:zf) (x:Int):Bool:=x == -1 || jJ r x
theorem zEd (r:zf) (s:zd) (x:zn):zdv (x,some (r,s,()),()) = some (ziC r s x,()):=by
  rw [zO]
  simp only [zdv,yY,zp1,Option.bind_some,ziC]
  grind
theorem zEe (r:zf) (s:zd) {x:zF} (h:zkF x = true):zaU (x,some (r,s,()),()) = some (ziD r s x,()):=by
  rw [zO]
  simp only [zaU,yY,Option.bind_some,ziD,ix]
  have:0 ≤ x.2.1:=by unfold zkF yw at h; grind
  by_cases h1:x.2.1 < (r.2.1.length:Int)
  · rw [ixR ⟨this,h1⟩]
    grind
  · grind
theorem zEf (r:zf) (s:zd) (x:Int):vb (x,some (r,s,()),()) = some (zsg r x,()):=by
  rw [zO]
  simp only [vb,yY,Option.bind_some,zsg]
  grind
def zc2 (r:zf) (s:zd):Bool:=zhP r s.2.2.1 && (zse s.2.2.2.1 && (zlA s.2.2.2.2.1 && (zlB s (ze zX) && (s.2.2.2.1.all (ziC r s) && (s.2.2.2.2.1.all (ziD r s) && s.2.2.2.2.2.1.all (zsg r))))))
theorem zBp {l:List zF} (h:zlA l = true):∀ x ∈ l,zkF x = true:=by
  intro x hx
  simp only [zlA,jQ,Bool.and_eq_true] at h
  obtain ⟨i,hi,rfl⟩:=List.mem_iff_getElem.1 hx
  have e:l.getD i zg1 = l[i]:=by simp [List.getD,hi]
  rw [← e]
  exact (h i (by omega) (by omega)).1
theorem zxF {r:zf} {s:zd} (hr:qa r) (hb:qm r = true) (hs:zR s) (sz:zgQ r s):zaJ ((r,s,()),()) = some (zc2 r s,()):=by
  rw [zO]
  have ok:=jl hb
  have h1:=ok.lines
  have h2:=sz.orders
  have h3:=sz.entries
  have h4:=sz.people
  have hm:48 ≤ Go.maxLen:=by unfold Go.maxLen; omega
  simp only [zaJ,zBm hr,hb,Bool.true_and,Option.bind_some]
  unfold zc2
  cases zhP r s.2.2.1 with
  | false=>rfl
  | true =>
    rw [zBo (by omega) hs.orders,zzd (by omega) hs.entries,zp2]
    simp only [Option.bind_some,cond_true]
    cases zse s.2.2.2.1 with
    | false=>rfl
    | true =>
      cases he:zlA s.2.2.2.2.1 with
      | false=>rfl
      | true =>
        rw [zCr (p:=ziC r s) (by omega) fun x _=>zEd r s x,zCs (p:=ziD r s) (by omega) fun x hx=>zEe r s (zBp he x hx),zFo (p:=zsg r) (by omega) fun x _=>zEf r s x]
        simp only [Option.bind_some,cond_true]
        grind
end Go.Proofs.YtokcjmkikhgkeaaGreatDoor
end
section
namespace Go.Proofs.YtokcjmkikhgkeaaGreatDoor
open Go.Ev
def zng (r:zf) (a b:Int):Bool:=vw r a && (vw r b && y9 (r.1.getD a.toNat qy) (r.1.getD b.toNat qy))
theorem zrJ {r:zf} (hr:qa r) (a:Int) (h:vw r a = true):zdP (r.1.getD a.toNat qy):=by
  simp only [vw,decide_eq_true_eq] at h
  exact hr.labels _ (z9 (by omega))
theorem ztp {r:zf} (hr:qa r) (s:zd) (a b:Int):zfM ((r,s,()),a,b,()) = some (zng r a b,()):=by
  rw [zO]
  simp only [zfM,zp1,Option.bind_some,zng,ix]
  cases ha:vw r a with
  | false=>rfl
  | true =>
    cases hb:vw r b with
    | false=>rfl
    | true =>
      rw [zfS (zrJ hr a ha) (zrJ hr b hb)]
      simp only [vw,decide_eq_true_eq] at ha hb
      rw [ixR ha,ixR hb]
      simp only [Option.bind_some]
      grind
def zfU (r:zf) (s:zd) (i:Int) (x:vv):Bool:=zlB s x && zng r x.1 i
theorem zhQ {r:zf} (hr:qa r) (s:zd) (i:Int) (x:vv):vN (x,some (r,s,()),some i,()) = some (zfU r s i x,()):=by
  rw [zO]
  simp only [vN,zp2,ztp hr,Option.bind_some,zfU]
  grind
def zeH (r:zf) (s:zd) (i:Int) (x:z8):Bool:=!x.1 || (zfU r s i x.2.1 && zfU r s i x.2.2.1)
def zeI (r:zf) (s:zd) (i:Int) (x:qc):Bool:=(x.2.2.1:Int) != 2 || zfU r s i x.2.2.2.2.1
def zhR (r:zf) (s:zd) (i:Int) (x:zg):Bool:=x.2.1.all (zeH r s i) && (x.2.2.1.all (zeI r s i) && x.2.2.2.2.2.2.1.all (zfU r s i))
theorem zFy {r:zf} (hr:qa r) (s:zd) (i:Int) (x:z8):zea (x,some (some fun z=>vN (z.1,some (r,s,()),some i,())),()) = some (zeH r s i x,()):=by
  rw [zO]
  simp only [zea,zhQ hr,Option.bind_some,zeH]
  grind
theorem zFz {r:zf} (hr:qa r) (s:zd) (i:Int) (x:qc):zbE (x,some (some fun z=>vN (z.1,some (r,s,()),some i,())),()) = some (zeI r s i x,()):=by
  rw [zO]
  simp only [zbE,zhQ hr,Option.bind_some,zeI]
  grind
theorem zzg {r:zf} {s:zd} (hr:qa r) (ok:zgP r) (sz:zgQ r s):zdF ((r,s,()),()) = some (qj (fun i=>zhR r s (i:Int) (s.2.1.getD i za)) 0 (s.2.1.length - 0),()):=by
  rw [zO]
  have h1:=ok.labels
  have h2:=sz.shelves
  have h3:=ok.accounts
  exact vD (B:=zbY) (i0:=0) (n:=s.2.1.length) (by unfold Go.maxLen; omega) (Nat.zero_le _) (fun i=>(s.2.1,(s.2.1.length:Int),i,(r,s,()))) (fun k i _ h=>by
    have hm:12 ≤ Go.maxLen:=by unfold Go.maxLen; omega
    have hz:=sz.shelf _ (z9 (d:=za) h)
    simp only [zbY]
    have hbelow:zjC ((r,s,()),(i:Int),()) = some (some fun z=>vN (z.1,some (r,s,()),some (i:Int),()),()):=rfl
    rw [ltT h,zE h,qu,hbelow,Option.bind_some,zDY (p:=zeH r s i) (by omega) fun x _=>zFy hr s i x,zwo (p:=zeI r s i) (by omega) fun x _=>zFz hr s i x,zFp (p:=zfU r s i) (by omega) fun x _=>zhQ hr s i x]
    simp only [Option.bind_some,cond_true]
    unfold zhR
    grind) (fun k=>by simp only [zbY]; rw [ltF]; rfl)
theorem zCF {σ ρ:Type} {B:(σ→Option ρ)→σ→Option ρ} {i0 n:Nat} (hn:n ≤ Go.maxLen) (h0:i0 ≤ n) {p:Nat→Bool} {fin bad:Option ρ} (st:Int→σ)
    (hin:∀ k (i:Nat),i0 ≤ i→i < n→B k (st i) = bif p i then k (st (wI (i + 1))) else bad) (hout:∀ k,B k (st n) = fin) (K:Nat) (hK:n - i0 < K):zl B K (st i0) = bif qj p i0 (n - i0) then fin else bad:=by
  have key:∀ (m i fuel:Nat),i0 ≤ i→i + m = n→m < fuel→zl B fuel (st i) = bif qj p i m then fin else bad:=by
    intro m
    induction m with
    | zero =>
      intro i fuel _ h1 h2
      obtain ⟨f,rfl⟩:∃ f,fuel = f + 1:=⟨fuel - 1,by omega⟩
      obtain rfl:i = n:=by omega
      exact hout _
    | succ m ih =>
      intro i fuel h1 h2 h3
      obtain ⟨f,rfl⟩:∃ f,fuel = f + 1:=⟨fuel - 1,by omega⟩
      show B (zl B f) (st i) = _
      rw [hin _ i h1 (by omega),wI,zvs (len:=n) (by omega) hn,show ((i:Int) + 1) = ((i + 1:Nat):Int) by omega,ih (i + 1) f (by omega) (by omega) (by omega)]
      simp only [qj]
      cases p i <;> rfl
  exact key (n - i0) i0 K (Nat.le_refl _) (by omega) hK
def zsh (r:zf) (x:qc):Bool:=(x.2.2.1:Int) != 1 || jJ r x.2.2.2.1
def zsi (r:zf) (i:Int) (x:qr):Bool:=!x.1 || (zng r x.2.1 i && (jJ r x.2.2.1 && jJ r x.2.2.2.1))
def zo8 (r:zf) (x:zp):Bool:=!x.1 || (jJ r x.2.1 && jJ r x.2.2.1)
def zdU (r:zf) (i:Int) (x:zg):Bool:=x.2.2.1.all (zsh r) && (x.2.2.2.1.all (zsi r i) && x.2.2.2.2.1.all (zo8 r))
theorem zEg (r:zf) (s:zd) (x:qc):zaV (x,some (r,s,()),()) = some (zsh r x,()):=by
  rw [zO]
  simp only [zaV,yY,Option.bind_some,zsh]
  grind
theorem zEh {r:zf} (hr:qa r) (s:zd) (i:Int) (x:qr):vc (x,some (r,s,()),some i,()) = some (zsi r i x,()):=by
  rw [zO]
  simp only [vc,yY,ztp hr,Option.bind_some,zsi]
  grind
theorem zEi (r:zf) (s:zd) (x:zp):qA (x,some (r,s,()),()) = some (zo8 r x,()):=by
  rw [zO]
  simp only [qA,yY,Option.bind_some,zo8]
  grind
theorem zxG {r:zf} {s:zd} (hr:qa r) (ok:zgP r) (sz:zgQ r s):zaH ((r,s,()),()) = some (qj (fun i=>zdU r (i:Int) (s.2.1.getD i za)) 0 s.2.1.length,()):=by
  rw [zO]
  have h1:=ok.labels
  have h2:=sz.shelves
  have hm:12 ≤ Go.maxLen:=by unfold Go.maxLen; omega
  have step:∀ k (i:Nat),i < s.2.1.length→qP k (s.2.1,(s.2.1.length:Int),(i:Int),(r,s,())) = bif zdU r (i:Int) (s.2.1.getD i za) then k (s.2.1,(s.2.1.length:Int),wI ((i:Int) + 1),(r,s,())) else some (false,()):=fun k i h=>by
    have hz:=sz.shelf _ (z9 (d:=za) h)
    simp only [qP]
    rw [ltT h,zE h,qu,zwo (p:=zsh r) (by omega) fun x _=>zEg r s x,zDZ (p:=zsi r i) (by omega) fun x _=>zEh hr s i x,zCt (p:=zo8 r) (by omega) fun x _=>zEi r s x]
    simp only [Option.bind_some,cond_true]
    unfold zdU
    grind
  have hend:∀ k,qP k (s.2.1,(s.2.1.length:Int),(s.2.1.length:Int),(r,s,())) = some (true,()):=fun k=>by simp only [qP]; rw [ltF]; rfl
  have first:zaH ((r,s,()),()) = zvt (qP) (qP) K0 (s.2.1,(s.2.1.length:Int),((0:Nat):Int),(r,s,())):=rfl
  have hw:wI (((0:Nat):Int) + 1) = ((1:Nat):Int):=rfl
  obtain ⟨m,hK⟩:=zr8
  have hf:∀ (B0 B1:(vd→Option (Bool × Unit))→vd→Option (Bool × Unit)) (x:vd),zvt B0 B1 K0 x = B0 (zl B1 (m + 7)) x:=fun B0 B1 x=>by rw [hK]; rfl
  have rest:=zCF (B:=qP) (i0:=1) (n:=s.2.1.length) (by unfold Go.maxLen; omega) (by omega) (p:=fun i=>zdU r (i:Int) (s.2.1.getD i za)) (fun i=>(s.2.1,(s.2.1.length:Int),i,(r,s,()))) (fun k i _ h=>step k i h) hend (m + 7) (by unfold K0 Go.maxLen at hK; omega)
  rw [hf] at first
  rw [first,step _ 0 (by omega),hw]
  refine (congrArg (fun z=>bif zdU r ((0:Nat):Int) (s.2.1.getD 0 za) then z else some (false,())) rest).trans ?_
  obtain ⟨n,hn⟩:∃ n,s.2.1.length = n + 1:=⟨s.2.1.length - 1,by omega⟩
  rw [hn]
  simp only [qj,Nat.add_sub_cancel]
  cases zdU r ((0:Nat):Int) (s.2.1.getD 0 za) <;> rfl
theorem zBq {l:List zp} {g:zp × Unit→Option (Bool × Unit)} {p:zp→Bool} (hg:∀ x,g (x,()) = some (p x,())) (z:Int):vM (some (l,some g,()),z,()) = some (decide (0 ≤ z ∧ z < (l.length:Int)) && p (l.getD z.toNat qV),()):=by
  by_cases h:0 ≤ z ∧ z < (l.length:Int)
  · obtain ⟨n,rfl⟩:=Int.eq_ofNat_of_zero_le h.1
    rw [ztn hg (by omega),decide_eq_true h,Bool.true_and,Int.toNat_natCast]
  · rw [decide_eq_false h,Bool.false_and]
    simp only [vM,zrI,Option.bind_some,cond_true]
    grind
theorem zwA {α:Type} {p:α→Bool} (d:α) (L:List α) (q:Int→Bool):∀ (l:List α) (i:Nat),(∀ j,j < l.length→L.getD (i + j) d = l.getD j d)→(qF p i l).all q = qj (fun j=>!p (L.getD j d) || q (j:Int)) i l.length
  | [],_,_=>rfl
  | x :: l,i,h=>by
    have ih:=zwA (p:=p) d L q l (i + 1) fun j hj=>by
      have:=h (j + 1) (by simp; omega)
      rw [show i + 1 + j = i + (j + 1) by omega,this]; rfl
    have h0:L.getD i d = x:=h 0 (by simp)
    simp only [qF,List.length_cons,qj,h0]
    rw [← ih]
    cases p x <;> simp
def zlC (x:zg) (j:Nat) (t:qc):Bool:=(t.2.2.1:Int) != 3 || (decide (0 ≤ t.2.2.2.1 ∧ t.2.2.2.1 < (x.2.2.2.2.1.length:Int)) && ((x.2.2.2.2.1.getD (Int.toNat t.2.2.2.1) qV).1 && ((x.2.2.2.2.1.getD (Int.toNat t.2.2.2.1) qV).2.2.2.1.2.2.1:Int) == (j:Int)))
def zeJ (x:zg) (j:Int) (t:zp):Bool:=(decide (t.2.2.2.1.2.2.1 < (x.2.2.1.length:Int)) && decide (t.2.2.2.2.1.2.2.1 < (x.2.2.1.length:Int))) && (decide (t.2.2.2.1.2.2.1 < 0) || (((x.2.2.1.getD (Int.toNat t.2.2.2.1.2.2.1) zdb).2.2.1:Int) == 3 && ((x.2.2.1.getD (Int.toNat t.2.2.2.1.2.2.1) zdb).2.2.2.1:Int) == j))
def zlD (x:zg):Bool:=qj (fun j=>zlC x j (x.2.2.1.getD j zdb)) 0 (x.2.2.1.length - 0) && qj (fun j=>!(x.2.2.2.2.1.getD j qV).1 || zeJ x (j:Int) (x.2.2.2.2.1.getD j qV)) 0 x.2.2.2.2.1.length
theorem zmL (x:zp):vI (x,()) = some (x.1,()):=by
  rw [zO]; rfl
theorem zzh {r:zf} {s:zd} (ok:zgP r) (sz:zgQ r s):zdE ((r,s,()),()) = some (qj (fun i=>zlD (s.2.1.getD i za)) 0 (s.2.1.length - 0),()):=by
  rw [zO]
  have h1:=ok.labels
  have h2:=sz.shelves
  have hm:12 ≤ Go.maxLen:=by unfold Go.maxLen; omega
  have hlm:12 ≤ lim:=by unfold lim; omega
  have l2:∀ k0 (i:Nat) (x:zg),x.2.2.2.2.1.length ≤ 12→zbS K0 k0 (s.2.1,(s.2.1.length:Int),(i:Int),qF (fun t:zp=>t.1) 0 x.2.2.2.2.1,((qF (fun t:zp=>t.1) 0 x.2.2.2.2.1).length:Int),0,x) = bif qj (fun j=>!(x.2.2.2.2.1.getD j qV).1 || zeJ x (j:Int) (x.2.2.2.2.1.getD j qV)) 0 x.2.2.2.2.1.length then k0 (s.2.1,(s.2.1.length:Int),wI ((i:Int) + 1)) else some (false,()):=fun k0 i x hx=>by
    have hsl:=zkq (p:=fun t:zp=>t.1) x.2.2.2.2.1 0
    have hsm:=zkr (p:=fun t:zp=>t.1) x.2.2.2.2.1 0
    have:=ztJ (B:=fun k2=>zbR k0 k2) (l:=qF (fun t:zp=>t.1) 0 x.2.2.2.2.1) (0:Int) (p:=fun z=>zeJ x z (x.2.2.2.2.1.getD z.toNat qV)) (fin:=k0 (s.2.1,(s.2.1.length:Int),wI ((i:Int) + 1))) (bad:=some (false,())) (fun j=>(s.2.1,(s.2.1.length:Int),(i:Int),qF (fun t:zp=>t.1) 0 x.2.2.2.2.1,((qF (fun t:zp=>t.1) 0 x.2.2.2.2.1).length:Int),j,x)) (by omega) (fun k j z hj hz hmem=>by
      obtain ⟨n,rfl,-,hn⟩:=hsm z hmem
      simp only [zbR]
      rw [ltT hj,zE hj,qu,hz,zE (by omega),zE (by omega),Int.toNat_natCast]
      simp only [cond_true,zeJ,neI]
      by_cases ha:(x.2.2.2.2.1.getD n qV).2.2.2.1.2.2.1 < (x.2.2.1.length:Int)
      · by_cases hb:0 ≤ (x.2.2.2.2.1.getD n qV).2.2.2.1.2.2.1
        · rw [ixR ⟨hb,ha⟩,ixR ⟨hb,ha⟩]
          grind
        · grind
      · grind) (fun k=>by simp only [zbR]; rw [ltF]; rfl)
    refine this.trans ?_
    rw [zwA (p:=fun t:zp=>t.1) qV x.2.2.2.2.1 (fun z=>zeJ x z (x.2.2.2.2.1.getD z.toNat qV)) x.2.2.2.2.1 0 fun j _=>by rw [Nat.zero_add]]
    simp only [Int.toNat_natCast]
  have l1:∀ k0 (i:Nat) (x:zg),x.2.2.1.length ≤ 12→x.2.2.2.2.1.length ≤ 12→zbT K0 k0 (some (x.2.2.2.2.1,some vI,()),s.2.1,(s.2.1.length:Int),(i:Int),x.2.2.1,(x.2.2.1.length:Int),0,x) = bif zlD x then k0 (s.2.1,(s.2.1.length:Int),wI ((i:Int) + 1)) else some (false,()):=fun k0 i x hx hx2=>by
    have:=vD (B:=fun k1=>yW (zbS K0 k0) k0 k1) (i0:=0) (n:=x.2.2.1.length) (p:=fun j=>zlC x j (x.2.2.1.getD j zdb)) (fin:=bif qj (fun j=>!(x.2.2.2.2.1.getD j qV).1 || zeJ x (j:Int) (x.2.2.2.2.1.getD j qV)) 0 x.2.2.2.2.1.length then k0 (s.2.1,(s.2.1.length:Int),wI ((i:Int) + 1)) else some (false,())) (bad:=some (false,())) (by omega) (Nat.zero_le _) (fun j=>(some (x.2.2.2.2.1,some vI,()),s.2.1,(s.2.1.length:Int),(i:Int),x.2.2.1,(x.2.2.1.length:Int),j,x)) (fun k j _ hj=>by
      simp only [yW]
      rw [ltT hj,zE hj,qu,zBq zmL]
      simp only [cond_true,Option.bind_some,zlC,neI]
      by_cases ha:0 ≤ (x.2.2.1.getD j zdb).2.2.2.1 ∧ (x.2.2.1.getD j zdb).2.2.2.1 < (x.2.2.2.2.1.length:Int)
      · rw [ixR ha]
        grind
      · grind) (fun k=>by
      simp only [yW]
      rw [ltF,zp0 (by omega) zmL,Option.bind_some]
      exact l2 k0 i x hx2)
    refine this.trans ?_
    unfold zlD
    cases qj (fun j=>zlC x j (x.2.2.1.getD j zdb)) 0 (x.2.2.1.length - 0) <;> rfl
  exact vD (B:=fun k0=>yX (zbT K0 k0) k0) (i0:=0) (n:=s.2.1.length) (by omega) (Nat.zero_le _) (fun i=>(s.2.1,(s.2.1.length:Int),i)) (fun k i _ h=>by
    have hz:=sz.shelf _ (z9 (d:=za) h)
    simp only [yX]
    have hq:yq ((s.2.1.getD i za).2.2.2.2.1,some vI,()) = some (some ((s.2.1.getD i za).2.2.2.2.1,some vI,()),()):=by
      simp only [yq,zjK (show (s.2.1.getD i za).2.2.2.2.1.length ≤ lim by omega),Option.bind_some]
      rfl
    rw [ltT h,zE h,qu,hq,Option.bind_some]
    exact l1 k i _ (by omega) (by omega)) (fun k=>by simp only [yX]; rw [ltF]; rfl)
end Go.Proofs.YtokcjmkikhgkeaaGreatDoor
end
section
namespace Go.Proofs.YtokcjmkikhgkeaaGreatDoor
open Go.Ev
def zhS (r:zf) (s:zd) (i:Int) (x:zg):Bool:=zhR r s i x && (zdU r i x && zlD x)
theorem zGl {α:Type} {d:α} {l:List α} {p:α→Bool}:l.all p = true ↔ ∀ j,j < l.length→p (l.getD j d) = true:=by
  rw [List.all_eq_true]
  constructor
  · exact fun h j hj=>h _ (z9 hj)
  · intro h x hx
    obtain ⟨i,hi,rfl⟩:=List.mem_iff_getElem.1 hx
    have:=h i hi
    simpa [List.getD,hi] using this
end Go.Proofs.YtokcjmkikhgkeaaGreatDoor
end
section
namespace Go.Proofs.YtokcjmkikhgkeaaGreatDoor
open Go.Ev
def zD:List Int→Int
  | []=>0
  | x :: l=>x + zD l
theorem zuB:∀ (l m:List Int),zD (l ++ m) = zD l + zD m
  | [],m=>by simp [zD]
  | x :: l,m=>by simp only [List.cons_append,zD,zuB l m]; omega
theorem zlE:∀ {l:List Int},(∀ x ∈ l,0 ≤ x)→0 ≤ zD l
  | [],_=>Int.le_refl 0
  | x :: l,h=>by
    have h1:=h x (by simp)
    have h2:=zlE (l:=l) fun y hy=>h y (by simp [hy])
    simp only [zD]; omega
theorem yM {α:Type} {g:α→Int} {l:List α} (h:∀ x ∈ l,0 ≤ g x):0 ≤ zD (l.map g):=zlE fun x hx=>by
  obtain ⟨y,hy,rfl⟩:=List.mem_map.1 hx
  exact h y hy
def zhT (n:Int):Int × Int × Unit:=bif decide (n > M62) then (0,7,()) else (n,0,())
theorem zdV {n:Int} (h:n > M62):zhT n = (0,7,()):=by unfold zhT; rw [decide_eq_true h]; rfl
theorem zdW {n:Int} (h:n ≤ M62):zhT n = (n,0,()):=by unfold zhT; rw [decide_eq_false (by omega)]; rfl
theorem zlF:∀ (l:List Int) (a:Int),a ≤ M62→(∀ x ∈ l,0 ≤ x)→zlz a l = zhT (a + zD l)
  | [],a,h,_=>by simp only [zlz,zD,Int.add_zero]; exact (zdW h).symm
  | x :: l,a,h,hp=>by
    have h2:=zlE (l:=l) fun y hy=>hp y (by simp [hy])
    simp only [zlz,zD]
    by_cases hb:a + x > M62
    · rw [decide_eq_true hb,zdV (by omega)]; rfl
    · rw [decide_eq_false hb,cond_false,zlF l (a + x) (by omega) fun y hy=>hp y (by simp [hy])]
      congr 1; omega
theorem znh {α:Type} (p:α→Bool) (g:α→Int):∀ l:List α,zD ((l.filter p).map g) = zD (l.map fun x=>bif p x then g x else 0)
  | []=>rfl
  | x :: l=>by
    have ih:=znh p g l
    rw [zkD]
    simp only [List.map_cons,zD]
    cases hp:p x with
    | true=>simp only [cond_true,List.map_cons,zD,ih]
    | false=>simp only [cond_false,ih]; omega
def zlG (x:zn):Int:=bif (x.2.2.2.1:Int) == 2 then x.2.2.2.2.1 else x.2.2.2.2.2.1
theorem zGm (x:zn):zf0 (x,()) = some (zlG x,()):=by
  simp only [zf0,zlG]; grind
def qT (c:Int) (x:zn):Int:=bif x.1 && zlG x == c then x.2.2.2.2.2.2.2.2.1 else 0
def zuC (l:List zn) (c:Int):Int × Int × Unit:=bif zH c then zhT (zD (l.map (qT c))) else (0,1,())
theorem zEj (l:List zn) (hl:l.length ≤ lim):zkh (l,()) = some (some (l,some zhe,()),()):=by
  simp only [zkh,zgr,zpY hl,Option.bind_some]
  rfl
theorem zBr (x:zn):zhe (x,()) = some (x.1,()):=by
  rw [zO]; rfl
theorem zCG {l:List zn} (hl:l.length ≤ lim) (h:∀ x ∈ l,zkE x) (c:Int):ziW (l,c,()) = some (zuC l c):=by
  have hl':l.length ≤ Go.maxLen:=by unfold lim at hl; unfold Go.maxLen; omega
  simp only [ziW,ziV,vU,Option.bind_some]
  unfold zuC
  cases hc:zH c with
  | false=>rfl
  | true =>
    have hslots:zhB (l,()) = some (qF (fun x:zn=>x.1) 0 l,()):=by
      simp only [zhB]
      rw [zEj l hl,Option.bind_some,zza hl zBr,Option.bind_some]
    simp only [cond_true]
    rw [hslots,Option.bind_some]
    have hsl:=zkq (p:=fun x:zn=>x.1) l 0
    have hsm:=zkr (p:=fun x:zn=>x.1) l 0
    have hloop:=zau (B:=zdH) (l:=qF (fun x:zn=>x.1) 0 l) (α:=List Int) (0:Int) (fun i o=>o.length ≤ i ∧ ∀ x ∈ o,0 ≤ x ∧ x < U64) (fun i o=>(l,c,qF (fun x:zn=>x.1) 0 l,((qF (fun x:zn=>x.1) 0 l).length:Int),i,o))
      (fun rest o=>some (zlz 0 (o ++ (rest.filter fun z=>zlG (l.getD z.toNat qp) == c).map fun z=>(l.getD z.toNat qp).2.2.2.2.2.2.2.2.1))) (by omega) (fun k i x rest o hi hI hx hm hr hk=>by
        simp only [zdH]
        obtain ⟨j,rfl,-,hj⟩:=hsm x hm
        rw [ltT hi,zE hi,qu,hx,zE (by omega),zE (by omega),Int.toNat_natCast,zgv,zGm]
        have hxx:=(h (l.getD j qp) (z9 (by omega))).held
        simp only [cond_true,zkD,Int.toNat_natCast,Option.bind_some]
        rw [decide_eq_true (by simp; omega)]
        simp only [cond_true]
        cases hq:zlG (l.getD j qp) == c with
        | false =>
          exact hk o ⟨by omega,hI.2⟩
        | true =>
          simp only [cond_true,List.map_cons,Int.toNat_natCast]
          refine (hk _ ⟨by simp; omega,fun x hx=>?_⟩).trans ?_
          · rcases List.mem_append.1 hx with hx | hx
            · exact hI.2 x hx
            · rcases List.mem_singleton.1 hx with rfl
              exact hxx
          · rw [List.append_assoc]; rfl) (fun k o hI=>by
        simp only [zdH]
        rw [ltF]
        simp only [cond_false]
        rw [zkp (by omega) hI.2,List.filter_nil,List.map_nil,List.append_nil]
        rfl) [] ⟨Nat.le_refl _,fun x hx=>by cases hx⟩
    refine hloop.trans ?_
    rw [List.nil_append,zjO (q:=fun x:zn=>zlG x == c) (g:=fun x:zn=>x.2.2.2.2.2.2.2.2.1) qp l l 0 fun j _=>by rw [Nat.zero_add]]
    rw [zlF _ 0 (by unfold M62; omega) fun x hx=>?_,znh,Int.zero_add]
    · rfl
    · obtain ⟨y,hy,rfl⟩:=List.mem_map.1 hx
      exact (h y (List.mem_filter.1 hy).1).held.1
theorem zp3 {x:zn} (h:zkE x) (c:Int):z7 (qT c x):=by
  unfold qT
  cases x.1 && zlG x == c with
  | true=>exact h.held
  | false=>exact (⟨Int.le_refl 0,by unfold U64; decide⟩:z7 0)
def zca (c:Int) (x:zp):Int:=bif x.1 && (x.2.2.2.1.1:Int) == c then x.2.2.2.1.2.1 else 0
theorem zBs {l:List zp} (h:∀ x ∈ l,zsd x) {c:Int} (hc:zH c = true):zmK l c = zhT (zD (l.map (zca c))):=by
  unfold zmK
  rw [hc,cond_true,zlF _ 0 (by unfold M62; omega) fun x hx=>?_,znh,Int.zero_add]
  · rfl
  · obtain ⟨y,hy,rfl⟩:=List.mem_map.1 hx
    exact (h y (List.mem_filter.1 hy).1).1.1
theorem zzi {x:zp} (h:zsd x) (c:Int):z7 (zca c x):=by
  unfold zca
  cases x.1 && (x.2.2.2.1.1:Int) == c with
  | true=>exact h.1
  | false=>exact (⟨Int.le_refl 0,by unfold U64; decide⟩:z7 0)
def jb (c:Int) (a:List Int):Int:=a.getD c.toNat 0
def zL (c:Int) (x:zg):Int:=zD (x.2.2.2.2.1.map (zca c)) + zD (x.2.2.2.2.2.1.map (jb c))
theorem zkt {x:zg} (h:ziB x) (c:Int):0 ≤ zD (x.2.2.2.2.1.map (zca c)):=yM fun y hy=>(zzi (h.trades y hy) c).1
theorem zwB {x:zg} (h:ziB x) (c:Int):0 ≤ zD (x.2.2.2.2.2.1.map (jb c)):=yM fun y hy=>(za4 (h.purses y hy) _).1
theorem zdQ {x:zg} (h:ziB x) (c:Int):0 ≤ zL c x:=by
  have:=zkt h c
  have:=zwB h c
  unfold zL; omega
def zcb (s:zd) (c:Int):Int × Int × Unit:=bif zH c then zhT (zD (s.2.2.2.1.map (qT c)) + zD (s.2.1.map (zL c))) else (0,1,())
def wts:List zg→Nat
  | []=>0
  | x :: l=>1 + x.2.2.2.2.2.1.length + wts l
structure zwC (s:zd):Prop where
  shelves:s.2.1.length ≤ 2000000
  orders:s.2.2.2.1.length ≤ 2000000
  shelf:∀ x ∈ s.2.1,x.2.2.2.2.1.length ≤ 2000000 ∧ x.2.2.2.2.2.1.length ≤ 2000000
  all:wts s.2.1 ≤ 2000000
theorem zGn {l:List zg} {i:Nat} {x:zg} {rest:List zg} (hi:i < l.length) (hx:l.getD i za = x) (hr:l.drop (i + 1) = rest):wts (l.drop i) = 1 + x.2.2.2.2.2.1.length + wts rest:=by
  rw [zbA za hi,hx,hr]; rfl
theorem zFA {n:Nat}:∀ {l:List zg},(∀ x ∈ l,x.2.2.2.2.2.1.length ≤ n)→wts l ≤ l.length * (n + 1)
  | [],_=>Nat.zero_le _
  | x :: l,h=>by
    have h1:=h x (by simp)
    have h2:=zFA (l:=l) fun y hy=>h y (by simp [hy])
    simp only [wts,List.length_cons,Nat.add_mul]
    omega
theorem yN {c:Int} (hc:zH c = true):0 ≤ c ∧ c < ((4:Nat):Int):=by
  simp only [zH,decide_eq_true_eq] at hc; omega
theorem zlH {s:zd} (hs:zR s) (sh:zwC s) (c:Int):zc0 (s,c,()) = some (zcb s c):=by
  have hlm:10000000 ≤ lim:=by unfold lim; omega
  have hmm:10000000 ≤ Go.maxLen:=by unfold Go.maxLen; omega
  have hsh:=sh.shelves
  have hso:=sh.orders
  simp only [zc0,zhI,vU,Option.bind_some]
  rw [zCG (by omega) hs.orders]
  unfold zcb zuC
  cases hc:zH c with
  | false=>rfl
  | true =>
    have hcin:=yN hc
    simp only [cond_true,Option.bind_some]
    have hbook:0 ≤ zD (s.2.2.2.1.map (qT c)):=yM fun y hy=>(zp3 (hs.orders y hy) c).1
    have hall:0 ≤ zD (s.2.1.map (zL c)):=yM fun y hy=>zdQ (hs.shelves y hy) c
    have inner:∀ k0 (i:Nat) (x:zg) (o:List Int),x.2.2.2.2.2.1.length ≤ 2000000→o.length ≤ 2000001→zcZ K0 k0 (c,s.2.1,(s.2.1.length:Int),(i:Int),x.2.2.2.2.2.1,(x.2.2.2.2.2.1.length:Int),0,o) = k0 (c,s.2.1,(s.2.1.length:Int),wI ((i:Int) + 1),o ++ x.2.2.2.2.2.1.map (jb c)):=fun k0 i x o hx ho =>
      zau (B:=fun k1=>zcY k0 k1) (l:=x.2.2.2.2.2.1) (α:=List Int) (ze (Ty.arr 4 tU)) (fun j o'=>o'.length ≤ 2000001 + j) (fun j o'=>(c,s.2.1,(s.2.1.length:Int),(i:Int),x.2.2.2.2.2.1,(x.2.2.2.2.2.1.length:Int),j,o')) (fun rest o'=>k0 (c,s.2.1,(s.2.1.length:Int),wI ((i:Int) + 1),o' ++ rest.map (jb c))) (by omega) (fun k j a rest o' hj hI ha hm hr hk=>by
        simp only [zcY]
        have h4:((4:Int)) = ((4:Nat):Int):=rfl
        rw [ltT hj,zE hj,Int.toNat_natCast,ha,zgv,decide_eq_true (by simp; omega)]
        simp only [cond_true]
        refine Eq.trans (ixR hcin) ?_
        refine (hk _ (by simp; omega)).trans ?_
        rw [List.append_assoc]; rfl) (fun k o' _=>by
        simp only [zcY]; rw [ltF]
        simp only [cond_false,List.map_nil,List.append_nil]) o ho
    by_cases hb:zD (s.2.2.2.1.map (qT c)) > M62
    · rw [zdV hb,zdV (by omega)]; rfl
    · rw [zdW (by omega)]
      have hloop:=zau (B:=fun k0=>zaI (zcZ K0 k0) k0) (l:=s.2.1) (α:=List Int) za (fun i o=>o.length + wts (s.2.1.drop i) ≤ 2000001 ∧ ∀ x ∈ o,0 ≤ x ∧ x < U64) (fun i o=>(c,s.2.1,(s.2.1.length:Int),i,o)) (fun rest o=>some (zhT (zD o + zD (rest.map (zL c))))) (by omega) (fun k i x rest o hi hI hx hm hr hk=>by
        simp only [zaI]
        have hin:=hs.shelves x hm
        have hlen:=sh.shelf x hm
        have hw:=zGn hi hx hr
        have hw2:=hI.1
        rw [hw] at hw2
        have h1:=zkt hin c
        have h2:=zwB hin c
        have ho:0 ≤ zD o:=zlE fun y hy=>(hI.2 y hy).1
        have hrest:0 ≤ zD (rest.map (zL c)):=yM fun y hy=>zdQ (hs.shelves y (by rw [← hr] at hy; exact List.mem_of_mem_drop hy)) c
        rw [ltT hi,zE hi,qu,hx,zBk (by omega) hin.trades,zBs hin.trades hc]
        simp only [cond_true,Option.bind_some,List.map_cons,zD,zL]
        by_cases hb:zD (x.2.2.2.2.1.map (zca c)) > M62
        · rw [zdV hb,zdV (by omega)]; rfl
        · rw [zdW (by omega),zgv,inner k i x _ (by omega) (by simp; omega)]
          rw [decide_eq_true (by simp; omega)]
          simp only [bne_self_eq_false,cond_true,cond_false]
          refine (hk _ ⟨by rw [hr]; simp; omega,fun y hy=>?_⟩).trans ?_
          · rcases List.mem_append.1 hy with hy | hy
            · rcases List.mem_append.1 hy with hy | hy
              · exact hI.2 y hy
              · rcases List.mem_singleton.1 hy with rfl
                unfold M62 at hb; unfold U64; omega
            · obtain ⟨a,ha,rfl⟩:=List.mem_map.1 hy
              exact za4 (hin.purses a ha) _
          · rw [zuB,zuB]
            simp only [zD]
            congr 2; omega) (fun k o hI=>by
        simp only [zaI]
        rw [ltF]
        simp only [cond_false]
        rw [zkp (by omega) hI.2,zlF o 0 (by unfold M62; omega) fun y hy=>(hI.2 y hy).1]
        simp only [List.map_nil,zD,Int.add_zero,Int.zero_add]
        rfl) [zD (s.2.2.2.1.map (qT c))] ⟨by have:=sh.all; simp; omega,fun y hy=>by
          rcases List.mem_singleton.1 hy with rfl
          unfold M62 at hb; unfold U64; omega⟩
      refine hloop.trans ?_
      simp only [zD,Int.add_zero]
end Go.Proofs.YtokcjmkikhgkeaaGreatDoor
end
section
namespace Go.Proofs.YtokcjmkikhgkeaaGreatDoor
open Go.Ev
def zjr (a b:Int):Int × Int × Unit:=bif decide (a < b) then (0,6,()) else (a - b,0,())
theorem zBt {a b:Int} (ha:0 ≤ a ∧ a ≤ M62) (hb:0 ≤ b ∧ b ≤ M62):zaR (a,b,()) = some (zjr a b):=by
  simp only [zaR,extA,extB,zjr,cond_false]
  unfold M62 at *
  have h2:b ≤ a→(a - b) % 18446744073709551616 = a - b:=fun h=>by omega
  grind
def qQ (f:zg→List Int) (s:zd) (c:Int):Int:=zD (s.2.1.map fun x=>jb c (f x))
theorem zo9 {f:zg→List Int} {s:zd} (h:∀ x ∈ s.2.1,zks (f x)) (c:Int):0 ≤ qQ f s c:=yM fun y hy=>(za4 (h y hy) _).1
theorem zBu {s:zd} (sh:zwC s) {f:zg→List Int} {g:zg × Unit→Option (List Int × Unit)} (hg:∀ x,g (x,()) = some (f x,())) (h:∀ x ∈ s.2.1,zks (f x)) {c:Int} (hc:zH c = true):ze2 (s,c,some g,()) = some (zhT (qQ f s c)):=by
  have hlm:10000000 ≤ lim:=by unfold lim; omega
  have hmm:10000000 ≤ Go.maxLen:=by unfold Go.maxLen; omega
  have hsh:=sh.shelves
  have hcin:=yN hc
  have hloop:=zau (B:=za0) (l:=s.2.1) (α:=List Int) za (fun i o=>o.length ≤ i ∧ ∀ x ∈ o,0 ≤ x ∧ x < U64) (fun i o=>(c,some g,s.2.1,(s.2.1.length:Int),i,o)) (fun rest o=>some (zlz 0 (o ++ rest.map fun x=>jb c (f x)))) (by omega) (fun k i x rest o hi hI hx hm hr hk=>by
    simp only [za0]
    rw [ltT hi,zE hi,qu,hx]
    simp only [cond_true,Option.bind_some]
    rw [hg]
    simp only [Option.bind_some]
    refine Eq.trans (ixR hcin) ?_
    rw [zgv,decide_eq_true (by simp; omega)]
    simp only [cond_true]
    refine (hk _ ⟨by simp; omega,fun y hy=>?_⟩).trans ?_
    · rcases List.mem_append.1 hy with hy | hy
      · exact hI.2 y hy
      · rcases List.mem_singleton.1 hy with rfl
        exact za4 (h x hm) _
    · rw [List.append_assoc]; rfl) (fun k o hI=>by
    simp only [za0]
    rw [ltF]
    simp only [cond_false]
    rw [zkp (by omega) hI.2,List.map_nil,List.append_nil]
    rfl) [] ⟨Nat.le_refl _,fun x hx=>by cases hx⟩
  refine Eq.trans ?_ (hloop.trans ?_)
  · rfl
  · rw [List.nil_append,zlF _ 0 (by unfold M62; omega) fun y hy=>?_,Int.zero_add]
    · rfl
    · obtain ⟨z,hz,rfl⟩:=List.mem_map.1 hy
      exact (za4 (h z hz) _).1
def zgb (s:zd) (c:Int):Int × Int × Unit:=bif zH c then bif decide (qQ (fun x=>x.2.2.2.2.2.2.2.1) s c > M62) then (0,7,()) else bif decide (qQ (fun x=>x.2.2.2.2.2.2.2.2.1) s c > M62) then (0,7,()) else zjr (qQ (fun x=>x.2.2.2.2.2.2.2.1) s c) (qQ (fun x=>x.2.2.2.2.2.2.2.2.1) s c) else (0,1,())
theorem zBv {s:zd} (hs:zR s) (sh:zwC s) (c:Int):zhE (s,c,()) = some (zgb s c):=by
  simp only [zhE,vU,Option.bind_some]
  unfold zgb
  cases hc:zH c with
  | false=>rfl
  | true =>
    have p1:=zo9 (f:=fun x=>x.2.2.2.2.2.2.2.1) (fun x hx=>(hs.shelves x hx).made) c
    have p2:=zo9 (f:=fun x=>x.2.2.2.2.2.2.2.2.1) (fun x hx=>(hs.shelves x hx).spent) c
    rw [zBu sh (f:=fun x=>x.2.2.2.2.2.2.2.1) (g:=zin) (fun x=>rfl) (fun x hx=>(hs.shelves x hx).made) hc,zBu sh (f:=fun x=>x.2.2.2.2.2.2.2.2.1) (g:=zio) (fun x=>rfl) (fun x hx=>(hs.shelves x hx).spent) hc]
    simp only [cond_true,Option.bind_some]
    generalize qQ (fun x=>x.2.2.2.2.2.2.2.1) s c = a at *
    generalize qQ (fun x=>x.2.2.2.2.2.2.2.2.1) s c = b at *
    by_cases h1:a > M62
    · rw [zdV h1,decide_eq_true h1]; rfl
    · rw [zdW (by omega),decide_eq_false h1]
      by_cases h2:b > M62
      · rw [zdV h2,decide_eq_true h2]; rfl
      · rw [zdW (by omega),decide_eq_false h2]
        simp only [bne_self_eq_false,cond_false]
        rw [zBt (by omega) (by omega)]; rfl
end Go.Proofs.YtokcjmkikhgkeaaGreatDoor
end
section
namespace Go.Proofs.YtokcjmkikhgkeaaGreatDoor
open Go.Ev
def zhU (r:zf) (s:zd) (c i:Nat):Bool:=!decide (((s.2.1.getD i za).2.2.2.2.2.2.2.1.getD c 0:Int) > (r.2.2.2.2.1.getD i qz).2.2.2.2.2.1)
def zeK (s:zd) (c:Int):Bool:=(zcb s c).2.1 == 0 && ((zgb s c).2.1 == 0 && (zcb s c).1 == (zgb s c).1)
def qg (r:zf) (s:zd):Bool:=qm r && (zfT r s && (zc2 r s && (qj (fun i=>(vV (s.2.1.getD i za) && zhS r s i (s.2.1.getD i za)) && qj (fun c=>zhU r s c i) 0 (4 - 0)) 0 (s.2.1.length - 0) && qj (fun c=>zeK s (c:Int)) 0 (4 - 0))))
theorem zFB {r:zf} {s:zd} (ok:zgP r) (sz:zgQ r s):zwC s:=by
  have h1:=sz.shelves
  have h2:=ok.labels
  have h3:=ok.accounts
  have h4:=sz.orders
  have h5:=zFA (n:=8) (l:=s.2.1) fun x hx=>by
    have:=sz.shelf x hx
    omega
  refine ⟨by omega,by omega,fun x hx=>?_,by omega⟩
  have:=sz.shelf x hx
  omega
theorem zzj {r:zf} {s:zd} (ok:zgP r) (hs:zR s) (sz:zgQ r s):zdI ((r,s,()),()) = some (qj (fun c=>qj (fun i=>zhU r s c i) 0 (s.2.1.length - 0) && zeK s (c:Int)) 0 (4 - 0),()):=by
  rw [zO]
  have hmm:1000000 ≤ Go.maxLen:=by unfold Go.maxLen; omega
  have sh:=zFB ok sz
  have hsh:s.2.1.length ≤ 8:=by rw [sz.shelves]; exact ok.labels.2
  have h2:=sz.shelves
  have h3:=ok.quotas
  have inner:∀ k0 (c:Nat),c < 4→zb2 K0 k0 ((c:Int),(c:Int),s.2.1,(s.2.1.length:Int),0,(r,s,())) = bif qj (fun i=>zhU r s c i) 0 (s.2.1.length - 0) then bif zeK s (c:Int) then k0 (wI ((c:Int) + 1),(r,s,())) else some (false,()) else some (false,()):=fun k0 c hc =>
    vD (B:=fun k1=>zb1 k0 k1) (i0:=0) (n:=s.2.1.length) (by omega) (Nat.zero_le _) (fun i=>((c:Int),(c:Int),s.2.1,(s.2.1.length:Int),i,(r,s,()))) (fun k i _ hi=>by
      simp only [zb1]
      rw [ltT hi,zE hi,qu,Int.toNat_natCast]
      simp only [cond_true]
      refine Eq.trans (zE (n:=4) hc) ?_
      rw [zE (by omega),qu]
      unfold zhU
      grind) (fun k=>by
      simp only [zb1]
      rw [ltF,zlH hs sh,zBv hs sh]
      simp only [Option.bind_some,cond_false,zeK]
      generalize zcb s (c:Int) = h
      generalize zgb s (c:Int) = m
      grind)
  exact vD (B:=fun k0=>zb3 (zb2 K0 k0) k0) (i0:=0) (n:=4) (by omega) (Nat.zero_le _) (fun c=>(c,(r,s,()))) (fun k c _ hc=>by
    simp only [zb3]
    rw [decide_eq_true (by omega),cond_true]
    refine (inner k c hc).trans ?_
    cases qj (fun i=>zhU r s c i) 0 (s.2.1.length - 0) <;> rfl) (fun k=>rfl)
def zBw (r:zf) (s:zd):Bool:=qm r && (zfT r s && (s.2.1.all vV && (zc2 r s && (qj (fun i=>zhR r s (i:Int) (s.2.1.getD i za)) 0 (s.2.1.length - 0) && (qj (fun i=>zdU r (i:Int) (s.2.1.getD i za)) 0 s.2.1.length && (qj (fun i=>zlD (s.2.1.getD i za)) 0 (s.2.1.length - 0) && qj (fun c=>qj (fun i=>zhU r s c i) 0 (s.2.1.length - 0) && zeK s (c:Int)) 0 (4 - 0)))))))
theorem zFC (r:zf) (s:zd):zBw r s = qg r s:=by
  rw [Bool.eq_iff_iff]
  unfold zBw qg zhS
  simp only [Bool.and_eq_true,jQ,@zGl zg za]
  constructor
  · rintro ⟨h1,h2,h3,h4,h5,h6,h7,h8⟩
    exact ⟨h1,h2,h4,fun i hi1 hi=>⟨⟨h3 i (by omega),h5 i hi1 hi,h6 i hi1 (by omega),h7 i hi1 hi⟩,fun c hc1 hc=>(h8 c hc1 hc).1 i hi1 hi⟩,fun c hc1 hc=>(h8 c hc1 hc).2⟩
  · rintro ⟨h1,h2,h4,h5,h6⟩
    exact ⟨h1,h2,fun i hi=>(h5 i (by omega) (by omega)).1.1,h4,fun i h7 h8=>(h5 i h7 h8).1.2.1,fun i h7 h8=>(h5 i h7 (by omega)).1.2.2.1,fun i h7 h8=>(h5 i h7 h8).1.2.2.2,fun c h7 h8=>⟨fun i h9 h10=>(h5 i h9 h10).2 c h7 h8,h6 c h7 h8⟩⟩
theorem zp4 {r:zf} {s:zd} (hr:qa r) (hs:zR s):zdN (r,s,()) = some (qg r s,()):=by
  rw [← zFC,zO]
  obtain ⟨m,hm⟩:=zr8
  have first:zdN (r,s,()) = zl zeh K0 (true,7,0,[some fun z=>zbp ((r,s,()),()),some fun z=>zbq ((r,s,()),()),some fun z=>zaJ ((r,s,()),()),some fun z=>zdF ((r,s,()),()),some fun z=>zaH ((r,s,()),()),some fun z=>zdE ((r,s,()),()),some fun z=>zdI ((r,s,()),())]):=rfl
  have hu:∀ (f1 f2 f3 f4 f5 f6 f7:Option (Bool × Unit)),zl zeh (m + 8) (true,7,0,[some fun z=>f1,some fun z=>f2,some fun z=>f3,some fun z=>f4,some fun z=>f5,some fun z=>f6,some fun z=>f7]) =
    Option.bind f1 fun q=>bif q.1 then Option.bind f2 fun q=>bif q.1 then Option.bind f3 fun q=>bif q.1 then Option.bind f4 fun q=>bif q.1 then Option.bind f5 fun q=>bif q.1 then Option.bind f6 fun q=>bif q.1 then Option.bind f7 fun q=>bif q.1 then some (true,()) else some (false,()) else some (false,()) else some (false,()) else some (false,()) else some (false,()) else some (false,()) else some (false,()):=fun f1 f2 f3 f4 f5 f6 f7=>by kernel_rfl
  rw [first,hm,hu,zze hr s,Option.bind_some]
  unfold zBw
  cases hb:qm r with
  | false=>rfl
  | true =>
    cases hz:zfT r s with
    | false=>rfl
    | true =>
      have ok:=jl hb
      have sz:=zb9 hb hz
      rw [zzf ok sz,zxF hr hb hs sz,zzg hr ok sz,zxG hr ok sz,zzh ok sz,zzj ok hs sz]
      simp only [Option.bind_some,Bool.true_and,cond_true]
      generalize s.2.1.all vV = c1
      generalize zc2 r s = c2
      generalize qj (fun i=>zhR r s (i:Int) (s.2.1.getD i za)) 0 (s.2.1.length - 0) = c3
      generalize qj (fun i=>zdU r (i:Int) (s.2.1.getD i za)) 0 s.2.1.length = c4
      generalize qj (fun i=>zlD (s.2.1.getD i za)) 0 (s.2.1.length - 0) = c5
      generalize qj (fun c=>qj (fun i=>zhU r s c i) 0 (s.2.1.length - 0) && zeK s (c:Int)) 0 (4 - 0) = c6
      cases c1 <;> cases c2 <;> cases c3 <;> cases c4 <;> cases c5 <;> cases c6 <;> rfl
def zdA (r:zf) (x:pMe):Bool:=decide (0 ≤ x.1 ∧ x.1 < (r.2.1.length:Int)) && ((x.2.1:Int) == r.2.1.getD x.1.toNat 0 && jJ r x.2.2.1)
theorem zhV {r:zf} {s:zd} (hr:qa r) (hs:zR s) (x:pMe):za3 (r,s,x,()) = some (qg r s && zdA r x,()):=by
  rw [zO]
  simp only [za3,zp4 hr hs,Option.bind_some,zdA,ix,jJ]
  cases qg r s with
  | false=>rfl
  | true =>
    by_cases h:0 ≤ x.1 ∧ x.1 < (r.2.1.length:Int)
    · rw [ixR h]; grind
    · grind
end Go.Proofs.YtokcjmkikhgkeaaGreatDoor
end
section
namespace Go.Proofs.YtokcjmkikhgkeaaGreatDoor
open Go.Ev
theorem zwD {r:zf} (hr:qa r) (i:Int):zb5 (r,i,()) = some (qm r && vw r i,()):=by
  rw [zO]
  simp only [zb5,zdO r hr,Option.bind_some]
  cases hb:qm r with
  | false=>rfl
  | true =>
    have hl:=(jl hb).labels
    have hw:wI ((r.1.length:Int) - 1) = (r.1.length:Int) - 1:=by
      have:=zr5 (i:=r.1.length) (by omega) (by unfold Go.maxLen; omega)
      rw [this]; omega
    rw [hw,zdz]
    simp only [Option.bind_some,cond_true,Bool.true_and,qf,vw]
    grind
theorem zCH {r:zf} (hr:qa r) (hb:qm r = true) (a b:Int):ziX (r,a,b,()) = some (zng r a b,()):=by
  rw [zO]
  simp only [ziX,zwD hr,hb,Bool.true_and,Option.bind_some,zng,ix]
  cases ha:vw r a with
  | false=>rfl
  | true =>
    cases hbb:vw r b with
    | false=>rfl
    | true =>
      have h1:=zrJ hr a ha
      have h2:=zrJ hr b hbb
      simp only [vw,decide_eq_true_eq] at ha hbb
      rw [ixR ha,ixR hbb,zfS h1 h2]
      simp only [Option.bind_some]
      generalize y9 (r.1.getD a.toNat qy) (r.1.getD b.toNat qy) = u
      cases u <;> rfl
def eqW {α:Type} (p:α→α→Bool) (a b:List α):Bool:=decide (a.length = b.length) && (List.zip a b).all fun q=>p q.1 q.2
theorem zBx {α σ:Type} {B:(σ→Option (Bool × Unit))→σ→Option (Bool × Unit)} {a b:List α} (d:α) (p:α→α→Bool) (st:Int→σ) (hl:a.length ≤ Go.maxLen) (hab:a.length = b.length)
    (hin:∀ k (i:Nat),i < a.length→B k (st i) = bif p (a.getD i d) (b.getD i d) then k (st (wI (i + 1))) else some (false,())) {fin:Bool} (hout:∀ k,B k (st a.length) = some (fin,())) :
    zl B K0 (st 0) = some (eqW p a b && fin,()):=by
  have hz:(List.zip a b).length = a.length:=by rw [List.length_zip]; omega
  have hx:∀ i,i < a.length→(List.zip a b).getD i (d,d) = (a.getD i d,b.getD i d):=fun i hi=>ztK a b i hi (by omega)
  have:=ztJ (B:=B) (l:=List.zip a b) (d,d) (p:=fun q=>p q.1 q.2) (fin:=some (fin,())) (bad:=some (false,())) st (by rw [hz]; exact hl) (fun k i x hi hx' _=>?_) (fun k=>?_)
  · rw [this]
    unfold eqW
    rw [decide_eq_true hab]
    cases (List.zip a b).all fun q=>p q.1 q.2 <;> rfl
  · rw [hz] at hi
    rw [hx i hi] at hx'
    subst hx'
    exact hin k i hi
  · rw [hz]; exact hout k
theorem zHv {α ρ:Type} (a b:List α) (p:α→α→Bool) (x:Option ρ) (y:Option ρ):(bif ((List.length a:Int) != (List.length b:Int)) then y else x) = bif decide (a.length = b.length) then x else y:=by
  rw [zl9]; cases decide (a.length = b.length) <;> rfl
theorem zHw {α:Type} {p:α→α→Bool} {a b:List α} (h:¬ a.length = b.length):eqW p a b = false:=by unfold eqW; rw [decide_eq_false h]; rfl
theorem zyd {α:Type} {p:α→α→Bool} {a b:List α} {x:Option (Bool × Unit)} (h:a.length = b.length→x = some (eqW p a b,())):(bif ((List.length a:Int) != (List.length b:Int)) then some (false,()) else x) = some (eqW p a b,()):=by
  rw [zHv a b p]
  by_cases hl:a.length = b.length
  · rw [decide_eq_true hl,h hl]; rfl
  · rw [decide_eq_false hl,zHw hl]; rfl
structure zwE (x:zg):Prop where
  rooms:x.1.length ≤ Go.maxLen
  exits:x.2.1.length ≤ Go.maxLen
  items:x.2.2.1.length ≤ Go.maxLen
  mails:x.2.2.2.1.length ≤ Go.maxLen
  trades:x.2.2.2.2.1.length ≤ Go.maxLen
  purses:x.2.2.2.2.2.1.length ≤ Go.maxLen
  places:x.2.2.2.2.2.2.1.length ≤ Go.maxLen
structure zHx (s:zd):Prop where
  shelves:s.2.1.length ≤ Go.maxLen
  ranks:s.2.2.1.length ≤ Go.maxLen
  orders:s.2.2.2.1.length ≤ Go.maxLen
  entries:s.2.2.2.2.1.length ≤ Go.maxLen
  seats:s.2.2.2.2.2.1.length ≤ Go.maxLen
  shelf:∀ x ∈ s.2.1,zwE x
  rank:∀ l ∈ s.2.2.1,l.length ≤ Go.maxLen
def ze9 (a b:zg):Bool:=eqL qi a.1 b.1 && (eqL zW a.2.1 b.2.1 && (eqL zV a.2.2.1 b.2.2.1 && (eqL z4 a.2.2.2.1 b.2.2.2.1 && (eqL zv a.2.2.2.2.1 b.2.2.2.2.1 && (eqL (.arr 4 tU) a.2.2.2.2.2.1 b.2.2.2.2.2.1 && (eqL zX a.2.2.2.2.2.2.1 b.2.2.2.2.2.2.1 && (eqI (.arr 4 tU) a.2.2.2.2.2.2.2.1 b.2.2.2.2.2.2.2.1 && eqI (.arr 4 tU) a.2.2.2.2.2.2.2.2.1 b.2.2.2.2.2.2.2.2.1)))))))
def zwF (a b:zd):Bool:=(a.1:Int) == b.1 && (eqW ze9 a.2.1 b.2.1 && (eqW (eqL tI) a.2.2.1 b.2.2.1 && (eqL zm a.2.2.2.1 b.2.2.2.1 && (eqL zr a.2.2.2.2.1 b.2.2.2.2.1 && eqL tI a.2.2.2.2.2.1 b.2.2.2.2.2.1))))
theorem zuD {r:zf} {l:List (List Int)} (h:zhP r l = true):l.length = r.2.2.2.1.length ∧ ∀ g,g < r.2.2.2.1.length→(l.getD g []).length = r.2.2.1.length:=by
  simp only [zhP,Bool.and_eq_true,decide_eq_true_eq,jQ] at h
  refine ⟨h.1,fun g hg=>?_⟩
  have:=h.2 g (by omega) (by omega)
  simp only [zwy,Bool.and_eq_true,decide_eq_true_eq] at this
  exact this.1
theorem ji {r:zf} {s:zd} (h:qg r s = true):qm r = true ∧ zfT r s = true ∧ zc2 r s = true:=by
  simp only [qg,Bool.and_eq_true] at h
  exact ⟨h.1,h.2.1,h.2.2.1⟩
theorem zoC:∀ {τ:Ty},τ.eqIn = true→∀ x:τ.I,eqI τ x x = true:=by
  intro τ
  induction τ with
  | unit=>intro _ _; rfl
  | bool=>intro _ x; exact beq_self_eq_true x
  | int k=>intro _ x; exact beq_self_eq_true (α:=Int) x
  | str=>intro _ x; exact beq_self_eq_true _
  | pair a b iha ihb =>
    intro h x
    simp only [Ty.eqIn,Bool.and_eq_true] at h
    simp only [eqI,iha h.1,ihb h.2,cond_true]
  | st a ih=>intro h x; exact ih h x
  | arr n a ih =>
    intro h x
    simp only [eqI,List.all_eq_true]
    intro p hp
    have:p.1 = p.2:=by
      obtain ⟨i,hi,rfl⟩:=List.mem_iff_getElem.1 hp
      rw [List.getElem_zip]
    rw [this]
    exact ih h _
  | _=>intro h; cases h
theorem zuE {α:Type} {p:α→α→Bool} (h:∀ x,p x x = true) (l:List α):eqW p l l = true:=by
  simp only [eqW,decide_true,Bool.true_and,List.all_eq_true]
  intro q hq
  have:q.1 = q.2:=by
    obtain ⟨i,hi,rfl⟩:=List.mem_iff_getElem.1 hq
    rw [List.getElem_zip]
  rw [this]; exact h _
theorem za5 {τ:Ty} (h:τ.eqIn = true) (l:List τ.I):eqL τ l l = true:=zuE (zoC h) l
theorem zBy (x:zg):ze9 x x = true:=by
  simp only [ze9,Bool.and_eq_true]
  exact ⟨za5 (τ:=qi) rfl _,za5 (τ:=zW) rfl _,za5 (τ:=zV) rfl _,za5 (τ:=z4) rfl _,za5 (τ:=zv) rfl _,za5 (τ:=.arr 4 tU) rfl _,za5 (τ:=zX) rfl _,zoC (τ:=.arr 4 tU) rfl _,zoC (τ:=.arr 4 tU) rfl _⟩
theorem zEk (s:zd):zwF s s = true:=by
  simp only [zwF,Bool.and_eq_true]
  exact ⟨beq_self_eq_true (α:=Int) _,zuE zBy _,zuE (za5 (τ:=tI) rfl) _,za5 (τ:=zm) rfl _,za5 (τ:=zr) rfl _,za5 (τ:=tI) rfl _⟩
theorem zCI {r:zf} {s:zd} (h:qg r s = true) {c:Nat} (hc:c < 4):∃ n,zcb s c = (n,0,()) ∧ zgb s c = (n,0,()) ∧ n ≤ M62:=by
  simp only [qg,Bool.and_eq_true,jQ] at h
  have h1:=h.2.2.2.2 c (Nat.zero_le _) (by omega)
  simp only [zeK,Bool.and_eq_true,beq_iff_eq] at h1
  obtain ⟨h2,h3,h4⟩:=h1
  have hck:zH (c:Int) = true:=by simp only [zH,decide_eq_true_eq]; omega
  have hle:(zcb s c).2.1 = 0→(zcb s c).1 ≤ M62:=by
    unfold zcb
    rw [hck,cond_true]
    intro h
    by_cases hb:zD (s.2.2.2.1.map (qT c)) + zD (s.2.1.map (zL c)) > M62
    · rw [zdV hb] at h; cases h
    · rw [zdW (by omega)]; show _ ≤ M62; omega
  have h5:=hle h2
  rcases e1:zcb s c with ⟨a,b,⟨⟩⟩
  rcases e2:zgb s c with ⟨a',b',⟨⟩⟩
  rw [e1] at h2 h4 h5
  rw [e2] at h3 h4
  simp only at h2 h3 h4 h5
  subst h2; subst h3; subst h4
  exact ⟨a,rfl,rfl,h5⟩
end Go.Proofs.YtokcjmkikhgkeaaGreatDoor
end
section
namespace Go.Proofs.YtokcjmkikhgkeaaGreatDoor
open Go.Ev
structure zwG (x:zg):Prop where
  rooms:x.1.length ≤ 2000000
  exits:x.2.1.length ≤ 2000000
  items:x.2.2.1.length ≤ 2000000
  mails:x.2.2.2.1.length ≤ 2000000
  trades:x.2.2.2.2.1.length ≤ 2000000
  purses:x.2.2.2.2.2.1.length ≤ 2000000
  places:x.2.2.2.2.2.2.1.length ≤ 2000000
structure zjP (s:zd):Prop where
  shelves:s.2.1.length ≤ 2000000
  ranks:s.2.2.1.length ≤ 2000000
  orders:s.2.2.2.1.length ≤ 2000000
  entries:s.2.2.2.2.1.length ≤ 2000000
  seats:s.2.2.2.2.2.1.length ≤ 2000000
  shelf:∀ x ∈ s.2.1,zwG x
  rank:∀ l ∈ s.2.2.1,l.length ≤ 2000000
theorem zBz {α:Type} {l:List α} {i:Nat} {d:α} (h:i < l.length):List.set l i (l.getD i d) = l:=by
  rw [List.getD_eq_getElem?_getD,List.getElem?_eq_getElem h]
  exact List.set_getElem_self h
theorem jF {s:zd} (h:zjP s):qt (s,()) = some (s,()):=by
  have hlm:2000000 ≤ lim:=by unfold lim; omega
  have hmm:2000000 ≤ Go.maxLen:=by unfold Go.maxLen; omega
  have h1:=h.shelves
  have h2:=h.ranks
  have h3:=h.orders
  have h4:=h.entries
  have h5:=h.seats
  have l1:zbO K0 ((s.2.1.length:Int),0,s.1,0,s.2.1,0,s.2.2.1,s.2.2.1.length,s.2.2.2.1,s.2.2.2.2.1,s.2.2.2.2.2.1,[],0,[],0,[],[],[]) = some (s,()) :=
    yR (α:=Unit) (B:=zbN) (len:=s.2.1.length) (by omega) (fun i _=>((s.2.1.length:Int),i,s.1,0,s.2.1,i.toNat,s.2.2.1,s.2.2.1.length,s.2.2.2.1,s.2.2.2.2.1,s.2.2.2.2.2.1,[],0,[],0,[],[],[])) (fun _ _=>some (s,())) (fun _ _=>True) (fun k i _ hi _ hk=>by
      have hx:=h.shelf _ (z9 (d:=za) hi)
      have e1:=hx.rooms
      have e2:=hx.exits
      have e3:=hx.items
      have e4:=hx.mails
      have e5:=hx.trades
      have e6:=hx.purses
      have e7:=hx.places
      have hk':=hk () trivial
      have hw:wI ((i:Int) + 1) = (i:Int) + 1:=zvs hi (by omega)
      simp only [zbN]
      rw [ltT hi,zE hi,qu]
      simp only [Int.toNat_natCast,Nat.le_refl,decide_true,cond_true]
      rw [zA1 (by omega),zA2 (by omega),zA3 (by omega),zA4 (by omega),zjK (by omega),zD1 (by omega),zCv (by omega)]
      simp only [Option.bind_some]
      rw [zE hi]
      refine Eq.trans ?_ hk'
      have hs:List.set s.2.1 i (s.2.1.getD i za) = s.2.1:=zBz hi
      have ht:(wI ((i:Int) + 1)).toNat = i + 1:=by rw [hw]; omega
      rw [ht]
      exact congrArg (fun l=>k ((s.2.1.length:Int),wI ((i:Int) + 1),s.1,0,l,i + 1,s.2.2.1,s.2.2.1.length,s.2.2.2.1,s.2.2.2.2.1,s.2.2.2.2.2.1,[],0,[],0,[],[],[])) hs) (fun k _ _=>by
      simp only [zbN]
      rw [ltF]
      simp only [Int.toNat_natCast,decide_true,cond_true,cond_false]) () trivial
  have l0:zhy K0 ((s.2.2.1.length:Int),0,s.1,s.2.1,0,s.2.2.1,0,s.2.2.2.1,s.2.2.2.2.1,s.2.2.2.2.2.1,[],0,[],0,[],[],[]) = some (s,()) :=
    yR (α:=Unit) (B:=fun k0=>yT (zbO K0) k0) (len:=s.2.2.1.length) (by omega) (fun i _=>((s.2.2.1.length:Int),i,s.1,s.2.1,0,s.2.2.1,i.toNat,s.2.2.2.1,s.2.2.2.2.1,s.2.2.2.2.2.1,[],0,[],0,[],[],[])) (fun _ _=>some (s,())) (fun _ _=>True) (fun k i _ hi _ hk=>by
      have hx:=h.rank _ (z9 (d:=([]:List Int)) hi)
      have hk':=hk () trivial
      have hw:wI ((i:Int) + 1) = (i:Int) + 1:=zvs hi (by omega)
      simp only [yT]
      rw [ltT hi,zE hi]
      simp only [Int.toNat_natCast,Nat.le_refl,decide_true,cond_true]
      rw [ztk (by omega)]
      simp only [Option.bind_some]
      rw [zE hi]
      refine Eq.trans ?_ hk'
      have hs:List.set s.2.2.1 i (s.2.2.1.getD i []) = s.2.2.1:=zBz hi
      have ht:(wI ((i:Int) + 1)).toNat = i + 1:=by rw [hw]; omega
      rw [ht,hs]) (fun k _ _=>by
      simp only [yT]
      rw [ltF,zy6 (by omega)]
      simp only [Int.toNat_natCast,Option.bind_some,cond_false]
      exact l1) () trivial
  simp only [qt,zf4]
  rw [zpY (by omega),zy5 (by omega),ztk (by omega),zA0 (by omega)]
  simp only [Option.bind_some]
  exact l0
theorem ziE:∀ {l:List Int} {i:Nat},(∀ x ∈ l,0 ≤ x)→i < l.length→l.getD i 0 ≤ zD l
  | [],i,_,hi=>by cases hi
  | x :: l,0,h,_=>by
    have:=zlE (l:=l) fun y hy=>h y (by simp [hy])
    show x ≤ x + zD l; omega
  | x :: l,i + 1,h,hi=>by
    have h1:=h x (by simp)
    have h2:=ziE (l:=l) (i:=i) (fun y hy=>h y (by simp [hy])) (by simpa using hi)
    show l.getD i 0 ≤ x + zD l; omega
theorem zuF:∀ {l:List Int} {i j:Nat},(∀ x ∈ l,0 ≤ x)→i < l.length→j < l.length→i ≠ j→l.getD i 0 + l.getD j 0 ≤ zD l
  | [],i,_,_,hi,_,_=>by cases hi
  | x :: l,0,0,_,_,_,hij=>absurd rfl hij
  | x :: l,0,j + 1,h,_,hj,_=>by
    have:=ziE (l:=l) (i:=j) (fun y hy=>h y (by simp [hy])) (by simpa using hj)
    show x + l.getD j 0 ≤ x + zD l; omega
  | x :: l,i + 1,0,h,hi,_,_=>by
    have:=ziE (l:=l) (i:=i) (fun y hy=>h y (by simp [hy])) (by simpa using hi)
    show l.getD i 0 + x ≤ x + zD l; omega
  | x :: l,i + 1,j + 1,h,hi,hj,hij=>by
    have h1:=h x (by simp)
    have:=zuF (l:=l) (i:=i) (j:=j) (fun y hy=>h y (by simp [hy])) (by simpa using hi) (by simpa using hj) (by omega)
    show l.getD i 0 + l.getD j 0 ≤ x + zD l; omega
theorem jS {α:Type} {f:α→Int} {l:List α} {i:Nat} (d:α) (h:i < l.length):(l.map f).getD i 0 = f (l.getD i d):=by
  rw [List.getD_eq_getElem?_getD,List.getD_eq_getElem?_getD,List.getElem?_map,List.getElem?_eq_getElem h]; rfl
theorem zni:∀ {a b:List Int} {i:Nat} {n:Int},a.length = b.length→i < a.length→(∀ j,j < a.length→a.getD j 0 ≤ b.getD j 0)→a.getD i 0 + n ≤ b.getD i 0→zD a + n ≤ zD b
  | [],_,i,_,_,hi,_,_=>by cases hi
  | x :: a,[],_,_,hl,_,_,_=>by cases hl
  | x :: a,y :: b,i,n,hl,hi,h,hn=>by
    have hl':a.length = b.length:=by simpa using hl
    have hall:∀ j,j < a.length→a.getD j 0 ≤ b.getD j 0:=fun j hj=>h (j + 1) (by simpa using hj)
    have key:zD a ≤ zD b:=isum_le hl' hall
    cases i with
    | zero =>
      have hn':x + n ≤ y:=hn
      show x + zD a + n ≤ y + zD b; omega
    | succ i =>
      have h0:x ≤ y:=h 0 (by simp)
      have:=zni (a:=a) (b:=b) (i:=i) (n:=n) hl' (by simpa using hi) hall hn
      show x + zD a + n ≤ y + zD b; omega
where isum_le:∀ {a b:List Int},a.length = b.length→(∀ j,j < a.length→a.getD j 0 ≤ b.getD j 0)→zD a ≤ zD b
  | [],[],_,_=>Int.le_refl _
  | x :: a,y :: b,hl,h=>by
    have:=isum_le (a:=a) (b:=b) (by simpa using hl) fun j hj=>h (j + 1) (by simpa using hj)
    have h0:x ≤ y:=h 0 (by simp)
    show x + zD a ≤ y + zD b; omega
  | [],_ :: _,hl,_=>by cases hl
  | _ :: _,[],hl,_=>by cases hl
def zfV (r:zf):Prop:=∀ q ∈ r.2.2.2.2.1,z7 q.2.2.2.2.2.1
theorem zrK:∀ {l:List zad} {n:Int},n < U64→(∀ q ∈ l,z7 q.2.2.2.2.2.1)→zkm n l = true→zD (l.map fun q=>q.2.2.2.2.2.1) ≤ n ∨ l = []
  | [],_,_,_,_=>.inr rfl
  | q :: l,n,hn,hp,h=>by
    left
    simp only [zkm,Bool.and_eq_true,decide_eq_true_eq] at h
    obtain ⟨-,h1,h2⟩:=h
    have hq:=hp q (by simp)
    unfold z7 U64 at hq
    unfold U64 at hn
    have hw:wU (n - q.2.2.2.2.2.1) = n - q.2.2.2.2.2.1:=zkn (by omega)
    rw [hw] at h2
    show q.2.2.2.2.2.1 + zD _ ≤ n
    rcases zrK (l:=l) (n:=n - q.2.2.2.2.2.1) (by unfold U64; omega) (fun y hy=>hp y (by simp [hy])) h2 with h3 | h3
    · omega
    · subst h3; simp only [List.map_nil,zD]; omega
end Go.Proofs.YtokcjmkikhgkeaaGreatDoor
end
section
namespace Go.Proofs.YtokcjmkikhgkeaaGreatDoor
open Go.Ev
abbrev zav (s:zd) (i w:Int):List Int:=List.getD (ix za s.2.1 i).2.2.2.2.2.1 (Int.toNat w) (ze (.arr 4 tU))
abbrev zA (s:zd) (i w c:Int):Int:=List.getD (zav s i w) (Int.toNat c) (0:Int)
abbrev jD (s:zd) (i c:Int):Int:=List.getD (ix za s.2.1 i).2.2.2.2.2.2.2.1 (Int.toNat c) (0:Int)
abbrev zaw (r:zf) (i:Int):Int:=(ix qz r.2.2.2.2.1 i).2.2.2.2.2.1
structure At (s:zd) (i w:Int):Prop where
  hi:0 ≤ i ∧ i < (s.2.1.length:Int)
  hw:0 ≤ w ∧ w < (((ix za s.2.1 i).2.2.2.2.2.1.length:Nat):Int)
theorem zG3 {n a:Int} (h:zhT n = (a,0,())):n = a ∧ n ≤ M62:=by
  by_cases hb:n > M62
  · rw [zdV hb] at h; cases h
  · rw [zdW (by omega)] at h
    injection h with h1 h2
    exact ⟨h1,by omega⟩
theorem zuG {c:Int} (hc:zH c = true):∃ k:Nat,c = (k:Int) ∧ k < 4:=by
  have:=yN hc
  exact ⟨c.toNat,by omega,by omega⟩
theorem zuH {r:zf} {s:zd} (h:qg r s = true) (hs:zR s) {c:Int} (hc:zH c = true):zD (s.2.2.2.1.map (qT c)) + zD (s.2.1.map (zL c)) ≤ M62 ∧ zD (s.2.2.2.1.map (qT c)) + zD (s.2.1.map (zL c)) ≤ qQ (fun x=>x.2.2.2.2.2.2.2.1) s c:=by
  obtain ⟨k,rfl,hk⟩:=zuG hc
  obtain ⟨n,h1,h2,h3⟩:=zCI h hk
  unfold zcb at h1
  rw [hc,cond_true] at h1
  obtain ⟨h4,h5⟩:=zG3 h1
  refine ⟨h5,?_⟩
  unfold zgb at h2
  rw [hc,cond_true] at h2
  have p2:=zo9 (f:=fun x=>x.2.2.2.2.2.2.2.2.1) (fun x hx=>(hs.shelves x hx).spent) (k:Int)
  generalize qQ (fun x=>x.2.2.2.2.2.2.2.1) s (k:Int) = a at *
  generalize qQ (fun x=>x.2.2.2.2.2.2.2.2.1) s (k:Int) = b at *
  by_cases c1:a > M62
  · rw [decide_eq_true c1] at h2; cases h2
  · rw [decide_eq_false c1] at h2
    by_cases c2:b > M62
    · rw [decide_eq_true c2] at h2; cases h2
    · rw [decide_eq_false c2] at h2
      simp only [cond_false] at h2
      unfold zjr at h2
      by_cases c3:a < b
      · rw [decide_eq_true c3] at h2; cases h2
      · rw [decide_eq_false c3] at h2
        injection h2 with h6 h7
        omega
theorem zhW {s:zd} (hs:zR s) (c:Int):0 ≤ zD (s.2.2.2.1.map (qT c)):=yM fun y hy=>(zp3 (hs.orders y hy) c).1
theorem qX {s:zd} {i:Int} (hi:0 ≤ i ∧ i < (s.2.1.length:Int)):ix za s.2.1 i ∈ s.2.1:=z9 (by omega)
theorem zpa {s:zd} (hs:zR s) {i c:Int} (hi:0 ≤ i ∧ i < (s.2.1.length:Int)):zL c (ix za s.2.1 i) ≤ zD (s.2.1.map (zL c)):=by
  have h1:=ziE (l:=s.2.1.map (zL c)) (i:=i.toNat) (fun x hx=>by
    obtain ⟨y,hy,rfl⟩:=List.mem_map.1 hx
    exact zdQ (hs.shelves y hy) c) (by rw [List.length_map]; omega)
  rw [jS za (by omega)] at h1
  exact h1
theorem zlI {x:zg} (hx:ziB x) {w c:Int} (hw:0 ≤ w ∧ w < ((x.2.2.2.2.2.1.length:Nat):Int)):(x.2.2.2.2.2.1.getD w.toNat (ze (.arr 4 tU))).getD c.toNat 0 ≤ zL c x:=by
  have h1:=ziE (l:=x.2.2.2.2.2.1.map (jb c)) (i:=w.toNat) (fun y hy=>by
    obtain ⟨a,ha,rfl⟩:=List.mem_map.1 hy
    exact (za4 (hx.purses a ha) _).1) (by rw [List.length_map]; omega)
  rw [jS (ze (.arr 4 tU)) (by omega)] at h1
  have:=zkt hx c
  unfold zL
  unfold jb at h1 ⊢
  omega
theorem zwH {s:zd} (hs:zR s) {i w:Int} (a:At s i w) (c:Int):z7 (zA s i w c):=za4 ((hs.shelves _ (qX a.hi)).purses _ (z9 (by have:=a.hw; omega))) _
theorem zkG {r:zf} {s:zd} (h:qg r s = true) (hs:zR s) {i w c:Int} (hc:zH c = true) (a:At s i w):0 ≤ zA s i w c ∧ zA s i w c ≤ M62:=by
  have h0:=(zwH hs a c).1
  have h1:=(zuH h hs hc).1
  have h2:=zhW hs c
  have h3:=zpa hs (c:=c) a.hi
  have h4:=zlI (hs.shelves _ (qX a.hi)) (c:=c) a.hw
  refine ⟨h0,?_⟩
  show _ ≤ M62
  have h5:zA s i w c ≤ zL c (ix za s.2.1 i):=h4
  omega
theorem zGo {r:zf} {s:zd} (h:qg r s = true) (hs:zR s) {i w j v c:Int} (hc:zH c = true) (a:At s i w) (b:At s j v) (hne:¬ (i = j ∧ w = v)):zA s i w c + zA s j v c ≤ M62:=by
  have h1:=(zuH h hs hc).1
  have h2:=zhW hs c
  have h4:zA s i w c ≤ zL c (ix za s.2.1 i):=zlI (hs.shelves _ (qX a.hi)) (c:=c) a.hw
  have h5:zA s j v c ≤ zL c (ix za s.2.1 j):=zlI (hs.shelves _ (qX b.hi)) (c:=c) b.hw
  have ahi:=a.hi
  have bhi:=b.hi
  by_cases hij:i = j
  · subst hij
    have hwv:w ≠ v:=fun e=>hne ⟨rfl,e⟩
    have h3:=zpa hs (c:=c) a.hi
    have hx:=hs.shelves _ (qX a.hi)
    have ahw:=a.hw
    have bhw:=b.hw
    have h6:=zuF (l:=(ix za s.2.1 i).2.2.2.2.2.1.map (jb c)) (i:=w.toNat) (j:=v.toNat) (fun y hy=>by
      obtain ⟨q,hq,rfl⟩:=List.mem_map.1 hy
      exact (za4 (hx.purses q hq) _).1) (by rw [List.length_map]; omega) (by rw [List.length_map]; omega) (by omega)
    rw [jS (ze (.arr 4 tU)) (by omega),jS (ze (.arr 4 tU)) (by omega)] at h6
    have h7:=zkt hx c
    have h8:zA s i w c + zA s i v c ≤ zL c (ix za s.2.1 i):=by
      unfold zL
      have h9:zA s i w c + zA s i v c ≤ zD ((ix za s.2.1 i).2.2.2.2.2.1.map (jb c)):=h6
      omega
    omega
  · have h6:=zuF (l:=s.2.1.map (zL c)) (i:=i.toNat) (j:=j.toNat) (fun x hx=>by
      obtain ⟨y,hy,rfl⟩:=List.mem_map.1 hx
      exact zdQ (hs.shelves y hy) c) (by rw [List.length_map]; omega) (by rw [List.length_map]; omega) (by omega)
    rw [jS za (by omega),jS za (by omega)] at h6
    have h7:zL c (ix za s.2.1 i) + zL c (ix za s.2.1 j) ≤ zD (s.2.1.map (zL c)):=h6
    omega
theorem zC6 {s:zd} (hs:zR s) {i:Int} (hi:0 ≤ i ∧ i < (s.2.1.length:Int)) (c:Int):z7 (jD s i c):=za4 (hs.shelves _ (qX hi)).made _
theorem zBA {r:zf} {s:zd} (h:qg r s = true) {i c:Int} (hc:zH c = true) (hi:0 ≤ i ∧ i < (s.2.1.length:Int)):jD s i c ≤ zaw r i:=by
  simp only [qg,Bool.and_eq_true,jQ] at h
  have:=(h.2.2.2.1 i.toNat (Nat.zero_le _) (by omega)).2 c.toNat (Nat.zero_le _) (by have:=yN hc; omega)
  simp only [zhU,Bool.not_eq_true',decide_eq_false_iff_not] at this
  exact Int.not_lt.1 this
theorem zrL {r:zf} {s:zd} (h:qg r s = true) (hs:zR s) (hq:zfV r) {i w c n:Int} (hc:zH c = true) (a:At s i w) (hn:jD s i c + n ≤ zaw r i):zA s i w c + n ≤ M62 ∧ 0 ≤ zaw r i ∧ zaw r i ≤ M62:=by
  obtain ⟨hb,hz,-⟩:=ji h
  have ok:=jl hb
  have sz:=zb9 hb hz
  have hl:=ok.quotas
  have hsl:=sz.shelves
  have h1:=(zuH h hs hc).2
  have h2:=zhW hs c
  have h3:=zpa hs (c:=c) a.hi
  have h4:zA s i w c ≤ zL c (ix za s.2.1 i):=zlI (hs.shelves _ (qX a.hi)) (c:=c) a.hw
  have ahi:=a.hi
  have hcaps:zD (r.2.2.2.2.1.map fun q=>q.2.2.2.2.2.1) ≤ M62:=by
    have hb':=hb
    simp only [qm,ze7,Bool.and_eq_true,decide_eq_true_eq] at hb'
    obtain ⟨-,-,-,-,⟨-,h6,-,h7⟩,-⟩:=hb'
    rcases zrK (by unfold U64; omega) hq h7 with h8 | h8
    · exact h8
    · rw [h8] at h6; cases h6
  have hcap:0 ≤ zaw r i ∧ zaw r i ≤ M62:=by
    have h6:=ziE (l:=r.2.2.2.2.1.map fun q=>q.2.2.2.2.2.1) (i:=i.toNat) (fun x hx=>by
      obtain ⟨y,hy,rfl⟩:=List.mem_map.1 hx
      exact (hq y hy).1) (by rw [List.length_map]; omega)
    rw [jS qz (by omega)] at h6
    have h7:zaw r i ≤ zD (r.2.2.2.2.1.map fun q=>q.2.2.2.2.2.1):=h6
    exact ⟨(hq _ (z9 (by omega))).1,by omega⟩
  refine ⟨?_,hcap⟩
  have h6:=zni (a:=s.2.1.map fun x=>jb c x.2.2.2.2.2.2.2.1) (b:=r.2.2.2.2.1.map fun q=>q.2.2.2.2.2.1) (i:=i.toNat) (n:=n) (by rw [List.length_map,List.length_map]; omega) (by rw [List.length_map]; omega) (fun j hj=>by
    rw [List.length_map] at hj
    rw [jS za hj,jS qz (by omega)]
    have:=zBA h hc (i:=(j:Int)) (by omega)
    exact this) (by
    rw [jS za (by omega),jS qz (by omega)]
    exact hn)
  have h7:qQ (fun x=>x.2.2.2.2.2.2.2.1) s c + n ≤ zD (r.2.2.2.2.1.map fun q=>q.2.2.2.2.2.1):=h6
  omega
theorem zzy {r:zf} {s:zd} (h:qg r s = true) {i w:Int} (hi:vw r i = true) (hw:jJ r w = true):At s i w:=by
  obtain ⟨hb,hz,-⟩:=ji h
  have sz:=zb9 hb hz
  have hsl:=sz.shelves
  simp only [vw,jJ,decide_eq_true_eq] at hi hw
  have h1:0 ≤ i ∧ i < (s.2.1.length:Int):=by omega
  have h2:=(sz.shelf _ (qX h1)).2.2.2.2.2.1
  exact ⟨h1,by omega⟩
theorem zwI {r:zf} (hb:qm r = true) {x:pMe} (hm:zdA r x = true):vw r x.2.1 = true:=by
  simp only [qm,zly,Bool.and_eq_true,decide_eq_true_eq,List.all_eq_true] at hb
  simp only [zdA,Bool.and_eq_true,decide_eq_true_eq,beq_iff_eq] at hm
  have:=hb.2.1.2 _ (z9 (d:=(0:Int)) (i:=x.1.toNat) (by omega))
  rw [← hm.2.1] at this
  simp only [vw,decide_eq_true_eq]
  exact this
theorem zi0 {r:zf} {s:zd} (h:qg r s = true) {x:pMe} (hm:zdA r x = true):At s x.2.1 x.2.2.1:=by
  have hw:jJ r x.2.2.1 = true:=by
    simp only [zdA,Bool.and_eq_true] at hm; exact hm.2.2
  exact zzy h (zwI (ji h).1 hm) hw
end Go.Proofs.YtokcjmkikhgkeaaGreatDoor
end
section
namespace Go.Proofs.YtokcjmkikhgkeaaGreatDoor
open Go.Ev
theorem bnd {α β:Type} {x:Option α} {a:α} {f:α→Option β} (h:x = some a):Option.bind x f = f a:=by rw [h]; rfl
theorem cT {α:Type} {b:Bool} {x y:α} (h:b = true):cond b x y = x:=by rw [h]; rfl
theorem cF {α:Type} {b:Bool} {x y:α} (h:b = false):cond b x y = y:=by rw [h]; rfl
theorem geF {n:Nat} {i:Int} {ρ:Type} {x y:ρ} (h:0 ≤ i ∧ i < (n:Int)):cond (decide (n ≤ Int.toNat i)) x y = y:=cF (decide_eq_false (by omega))
abbrev upd (s:zd) (i:Int) (h:zg):zd:=u1 s (List.set s.2.1 (Int.toNat i) h)
abbrev vx (s:zd) (i w c v:Int):zd:=upd s i (u5 (ix za s.2.1 i) (List.set (ix za s.2.1 i).2.2.2.2.2.1 (Int.toNat w) (List.set (zav s i w) (Int.toNat c) v)))
theorem zi1 {α:Type} {l:List α} {i:Nat} {x d:α} (h:i < l.length):(List.set l i x).getD i d = x:=by
  rw [List.getD_eq_getElem?_getD,List.getElem?_set_self h]; rfl
theorem getD_set_ne {α:Type} {l:List α} {i j:Nat} {x d:α} (h:i ≠ j):(List.set l i x).getD j d = l.getD j d:=by
  rw [List.getD_eq_getElem?_getD,List.getElem?_set_ne h,List.getD_eq_getElem?_getD]
theorem zoe {s:zd} {i:Int} {h:zg} (hi:0 ≤ i ∧ i < (s.2.1.length:Int)):ix za (upd s i h).2.1 i = h:=zi1 (by omega)
theorem zye {s:zd} {i j:Int} {h:zg} (hi:0 ≤ i) (hj:0 ≤ j) (hne:i ≠ j):ix za (upd s i h).2.1 j = ix za s.2.1 j:=getD_set_ne (by omega)
theorem zwJ {s:zd} {i j v:Int} {h:zg} (hi:0 ≤ i ∧ i < (s.2.1.length:Int)) (hp:h.2.2.2.2.2.1.length = (ix za s.2.1 i).2.2.2.2.2.1.length) (a:At s j v):At (upd s i h) j v:=by
  refine ⟨by have:=a.hi; show 0 ≤ j ∧ j < (((List.set s.2.1 i.toNat h).length:Nat):Int); rw [List.length_set]; exact this,?_⟩
  by_cases hij:i = j
  · subst hij
    rw [zoe hi,hp]; exact a.hw
  · rw [zye hi.1 a.hi.1 hij]; exact a.hw
theorem ziF {s:zd} {i w c v j u:Int} (hi:0 ≤ i ∧ i < (s.2.1.length:Int)) (a:At s j u):At (vx s i w c v) j u:=zwJ hi (by show (List.set _ _ _).length = _; rw [List.length_set]) a
theorem zFD {s:zd} {i w c v j u c':Int} (a:At s i w) (b:At s j u) (hne:¬ (i = j ∧ w = u)):zA (vx s i w c v) j u c' = zA s j u c':=by
  by_cases hij:i = j
  · subst hij
    have hwu:w ≠ u:=fun e=>hne ⟨rfl,e⟩
    have e:zav (vx s i w c v) i u = zav s i u:=by
      show List.getD (ix za (upd s i _).2.1 i).2.2.2.2.2.1 _ _ = _
      rw [zoe a.hi]
      exact getD_set_ne (by have:=a.hw; have:=b.hw; omega)
    show List.getD (zav (vx s i w c v) i u) _ _ = _
    rw [e]
  · have e:zav (vx s i w c v) j u = zav s j u:=by
      show List.getD (ix za (upd s i _).2.1 j).2.2.2.2.2.1 _ _ = _
      rw [zye a.hi.1 b.hi.1 hij]
    show List.getD (zav (vx s i w c v) j u) _ _ = _
    rw [e]
theorem zGp {a b:Int} (ha:z7 a) (hb:z7 b):zaR (a,b,()) = some (zjr a b):=by
  simp only [zaR,extA,extB,zjr,cond_false]
  unfold z7 U64 at *
  have h2:b ≤ a→(a - b) % 18446744073709551616 = a - b:=fun h=>by omega
  grind
theorem zBB {row:List Int} {c n:Int} {by':Int × Int × Unit→Option (Int × Int × Unit)} {v:Int × Int × Unit} (hc:zH c = true) (h:by' (List.getD row c.toNat 0,n,()) = some v):zdD (row,c,n,some by',()) = bif v.2.1 != 0 then some ([0,0,0,0],v.2.1,()) else some (List.set row c.toNat v.1,0,()):=by
  have hc4:=yN hc
  simp only [zdD]
  refine (bnd (vU c)).trans ?_
  refine (cT hc).trans ?_
  refine (ixR hc4).trans ?_
  refine (bnd (a:=by') rfl).trans ?_
  refine (bnd h).trans ?_
  cases v.2.1 != 0 with
  | true=>rfl
  | false=>exact ixR hc4
theorem zHy {row:List Int} {c n:Int} (hc:zH c = true) (ha:0 ≤ List.getD row c.toNat 0) (hn:z7 n) (h:List.getD row c.toNat 0 + n ≤ M62):zcp (row,c,n,()) = some (List.set row c.toNat (List.getD row c.toNat 0 + n),0,()):=by
  have e:zdT (List.getD row c.toNat 0,n,()) = some (List.getD row c.toNat 0 + n,0,()):=by
    rw [ztm ha hn]; unfold zzw; rw [decide_eq_false (by omega)]; rfl
  simp only [zcp]
  rw [zBB hc e]; rfl
theorem zHz {row:List Int} {c n:Int} (hc:zH c = true) (ha:z7 (List.getD row c.toNat 0)) (hn:z7 n):zcq (row,c,n,()) = bif decide (List.getD row c.toNat 0 < n) then some ([0,0,0,0],6,()) else some (List.set row c.toNat (List.getD row c.toNat 0 - n),0,()):=by
  simp only [zcq]
  rw [zBB hc (zGp ha hn)]
  unfold zjr
  cases decide (List.getD row c.toNat 0 < n) <;> rfl
def za6 (e:Int):zd × Int × Unit:=((0,[],[],[],[],[],()),e,())
def za7 (r:zf) (s:zd) (me:pMe) (c n:Int):Bool:=(qg r s && zdA r me) && (zH c && decide (n > 0))
abbrev qU (s:zd) (me:pMe) (c n:Int):zd:=vx s me.2.1 me.2.2.1 c (zA s me.2.1 me.2.2.1 c - n)
abbrev yZ (s:zd) (me:pMe) (c n:Int):zd:=upd s me.2.1 (u7 (ix za s.2.1 me.2.1) (List.set (ix za s.2.1 me.2.1).2.2.2.2.2.2.2.1 (Int.toNat c) (jD s me.2.1 c + n)))
def zpb (t:zd) (i w c n:Int):zd × Int × Unit:=(vx t i w c (zA t i w c + n),0,())
def zpc (r:zf) (s:zd) (me:pMe) (c n:Int):zd × Int × Unit:=bif (ix zda r.2.2.1 me.2.2.1).2.2.2.1 then bif decide (jD s me.2.1 c + n ≤ zaw r me.2.1) then zpb (yZ s me c n) me.2.1 me.2.2.1 c n else za6 8 else za6 5
def zpd (s:zd) (me:pMe) (c n:Int):zd × Int × Unit:=bif decide (zA s me.2.1 me.2.2.1 c < n) then za6 6 else (upd (qU s me c n) me.2.1 (u8 (ix za (qU s me c n).2.1 me.2.1) (List.set (ix za (qU s me c n).2.1 me.2.1).2.2.2.2.2.2.2.2.1 (Int.toNat c) (wU (List.getD (ix za (qU s me c n).2.1 me.2.1).2.2.2.2.2.2.2.2.1 (Int.toNat c) (0:Int) + n)))),0,())
def znj (s:zd) (me:pMe) (i w c n:Int):zd × Int × Unit:=bif decide (zA s me.2.1 me.2.2.1 c < n) then za6 6 else zpb (qU s me c n) i w c n
def zpe (r:zf) (s:zd) (me:pMe) (i w c n:Int):zd × Int × Unit:=bif (i != me.2.1) && zng r me.2.1 i then znj s me i w c n else za6 5
def zuI (r:zf) (s:zd) (me:pMe) (k i w c n:Int):zd × Int × Unit :=
  bif za7 r s me c n then bif k == 1 then zpc r s me c n else bif k == 2 then zpd s me c n else bif k == 3 then (bif jJ r w && w != me.2.2.1 then znj s me me.2.1 w c n else za6 1) else (bif jJ r w && vw r i then zpe r s me i w c n else za6 1) else za6 1
structure Ctx (r:zf) (s:zd) (me:pMe) (c n:Int):Prop where
  rs:qg r s = true
  im:zdA r me = true
  hc:zH c = true
  pos:0 < n
theorem zdX {r:zf} {s:zd} {me:pMe} {c n:Int} (h:za7 r s me c n = true):Ctx r s me c n:=by
  simp only [za7,Bool.and_eq_true,decide_eq_true_eq] at h
  exact ⟨h.1.1,h.1.2,h.2.1,h.2.2⟩
end Go.Proofs.YtokcjmkikhgkeaaGreatDoor
end
section
namespace Go.Proofs.YtokcjmkikhgkeaaGreatDoor
open Go.Ev
theorem zaD {r:zf} {s:zd} (hr:qa r) (hs:zR s) (me:pMe) (c n:Int):zcr (r,s,me,c,n,()) = some (za7 r s me c n,()):=by
  rw [zO]
  simp only [zcr,zhV hr hs,vU,Option.bind_some,za7]
  cases qg r s <;> cases zdA r me <;> cases zH c <;> rfl
theorem zEl {t:zd} {i w c n:Int} {k:List Int × Int × Unit→Option (zd × Int × Unit)} (a:At t i w) (hc:zH c = true) (h0:z7 (zA t i w c)) (hn:z7 n) :
    inR i ((List.length t.2.1):Int) (bif decide (List.length t.2.1 ≤ Int.toNat i) then none else inR w ((List.length (ix za t.2.1 i).2.2.2.2.2.1):Int) (Option.bind (zcq (zav t i w,c,n,())) fun q=>inR i ((List.length t.2.1):Int) (bif decide (List.length t.2.1 ≤ Int.toNat i) then none else inR w ((List.length (ix za t.2.1 i).2.2.2.2.2.1):Int) (bif q.2.1 != 0 then some ((0,[],[],[],[],[],()),q.2.1,()) else k q)))) = bif decide (zA t i w c < n) then some (za6 6) else k (List.set (zav t i w) c.toNat (zA t i w c - n),0,()):=by
  refine (ixR a.hi).trans ?_
  refine (geF a.hi).trans ?_
  refine (ixR a.hw).trans ?_
  rw [zHz hc h0 hn]
  cases h:decide (zA t i w c < n) with
  | true =>
    refine (ixR a.hi).trans ?_
    refine (geF a.hi).trans ?_
    exact ixR a.hw
  | false =>
    refine (ixR a.hi).trans ?_
    refine (geF a.hi).trans ?_
    exact ixR a.hw
theorem zEm {t:zd} {i w c n:Int} {m:Nat} {k:List Int × Int × Unit→Option (zd × Int × Unit)} (a:At t i w) (hm:i < (m:Int)) (hc:zH c = true) (h0:0 ≤ zA t i w c) (hn:z7 n) (hle:zA t i w c + n ≤ M62) :
    inR i ((List.length t.2.1):Int) (bif decide (m ≤ Int.toNat i) then none else inR w ((List.length (ix za t.2.1 i).2.2.2.2.2.1):Int) (Option.bind (zcp (zav t i w,c,n,())) fun q=>inR i ((List.length t.2.1):Int) (bif decide (m ≤ Int.toNat i) then none else inR w ((List.length (ix za t.2.1 i).2.2.2.2.2.1):Int) (bif q.2.1 != 0 then some ((0,[],[],[],[],[],()),q.2.1,()) else k q)))) = k (List.set (zav t i w) c.toNat (zA t i w c + n),0,()):=by
  have hi:0 ≤ i ∧ i < (m:Int):=⟨a.hi.1,hm⟩
  refine (ixR a.hi).trans ?_
  refine (geF hi).trans ?_
  refine (ixR a.hw).trans ?_
  rw [zHy hc h0 hn hle]
  refine (ixR a.hi).trans ?_
  refine (geF hi).trans ?_
  exact ixR a.hw
theorem zHA {r:zf} {s:zd} (hr:qa r) (hs:zR s) (hf:zjP s) {me:pMe} {c n:Int} (hn:z7 n):vP (r,s,me,c,n,()) = some (bif za7 r s me c n then zpd s me c n else za6 1):=by
  simp only [vP]
  refine (bnd (zaD hr hs me c n)).trans ?_
  cases h:za7 r s me c n with
  | false=>rfl
  | true =>
    obtain ⟨rs,im,hc,pos⟩:=zdX h
    have a:=zi0 rs im
    have hc4:=yN hc
    refine (bnd (jF hf)).trans ?_
    refine (zEl (t:=s) (k:=fun q=>_) a hc (zwH hs a c) hn).trans ?_
    show _ = some (zpd s me c n)
    unfold zpd
    cases decide (zA s me.2.1 me.2.2.1 c < n) with
    | true=>rfl
    | false =>
      have b:At (qU s me c n) me.2.1 me.2.2.1:=ziF a.hi a
      refine (ixR b.hi).trans ?_
      refine (ixR hc4).trans ?_
      refine (ixR b.hi).trans ?_
      refine (ixR hc4).trans ?_
      refine (cT (decide_eq_true (by rw [List.length_set,List.length_set]))).trans ?_
      exact cT (decide_eq_true trivial)
theorem zGq {r:zf} {s:zd} (hs:zR s) {me:pMe} {i w c n:Int} (x:Ctx r s me c n) (hn:z7 n) (b:At s i w) (hne:¬ (me.2.1 = i ∧ me.2.2.1 = w)) (h:¬ zA s me.2.1 me.2.2.1 c < n):zA (qU s me c n) i w c = zA s i w c ∧ 0 ≤ zA s i w c ∧ zA s i w c + n ≤ M62:=by
  have a:=zi0 x.rs x.im
  have h1:=zGo x.rs hs x.hc a b hne
  have h2:=zkG x.rs hs x.hc b
  exact ⟨zFD a b hne,h2.1,by omega⟩
theorem zHM {r:zf} {s:zd} (hr:qa r) (hs:zR s) (hf:zjP s) {me:pMe} {w c n:Int} (hn:z7 n):yC (r,s,me,w,c,n,()) = some (bif za7 r s me c n then (bif jJ r w && w != me.2.2.1 then znj s me me.2.1 w c n else za6 1) else za6 1):=by
  simp only [yC]
  refine (bnd (zaD hr hs me c n)).trans ?_
  cases h:za7 r s me c n with
  | false=>rfl
  | true =>
    have x:=zdX h
    obtain ⟨rs,im,hc,pos⟩:=x
    have a:=zi0 rs im
    by_cases hw:w = me.2.2.1
    · subst hw
      refine (cT (beq_self_eq_true (α:=Int) me.2.2.1)).trans ?_
      have:(me.2.2.1 != me.2.2.1) = false:=by simp
      show _ = some (bif jJ r me.2.2.1 && (me.2.2.1 != me.2.2.1) then _ else _)
      rw [this,Bool.and_false]; rfl
    · have hne:(w != me.2.2.1) = true:=bne_iff_ne.2 hw
      refine (cF (beq_eq_false_iff_ne.2 hw)).trans ?_
      refine (bnd (zhV hr hs _)).trans ?_
      rw [rs,hne,Bool.and_true,Bool.true_and]
      have him:zdA r (me.1,me.2.1,w,(ze tMe).2.2.2) = jJ r w:=by
        have:=im
        simp only [zdA,Bool.and_eq_true] at this ⊢
        rw [this.1,this.2.1,Bool.true_and,Bool.true_and]
      rw [him]
      cases hww:jJ r w with
      | false=>rfl
      | true =>
        have b0:At s me.2.1 w:=zzy rs (zwI (ji rs).1 im) hww
        refine (bnd (jF hf)).trans ?_
        refine (zEl (t:=s) (k:=fun q=>_) a hc (zwH hs a c) hn).trans ?_
        show _ = some (znj s me me.2.1 w c n)
        unfold znj
        cases hlt:decide (zA s me.2.1 me.2.2.1 c < n) with
        | true=>rfl
        | false =>
          have hge:=of_decide_eq_false hlt
          obtain ⟨e,h0,hle⟩:=zGq hs ⟨rs,im,hc,pos⟩ hn b0 (fun e=>hw e.2.symm) hge
          have b:At (qU s me c n) me.2.1 w:=ziF a.hi b0
          refine (zEm (t:=qU s me c n) (m:=List.length s.2.1) (k:=fun q=>_) b a.hi.2 hc (by rw [e]; exact h0) hn (by rw [e]; exact hle)).trans ?_
          refine (cT (decide_eq_true (by rw [List.length_set,List.length_set]))).trans ?_
          exact cT (decide_eq_true trivial)
theorem zHB {r:zf} {s:zd} (hr:qa r) (hs:zR s) (hf:zjP s) {me:pMe} {i w c n:Int} (hn:z7 n):vQ (r,s,me,i,w,c,n,()) = some (bif za7 r s me c n then (bif jJ r w && vw r i then zpe r s me i w c n else za6 1) else za6 1):=by
  simp only [vQ]
  refine (bnd (zaD hr hs me c n)).trans ?_
  cases h:za7 r s me c n with
  | false=>rfl
  | true =>
    obtain ⟨rs,im,hc,pos⟩:=zdX h
    have a:=zi0 rs im
    simp only [cond_true]
    by_cases hb:jJ r w = true ∧ vw r i = true
    · obtain ⟨hww,hii⟩:=hb
      have b0:At s i w:=zzy rs hii hww
      rw [hww,hii]
      simp only [jJ,vw,decide_eq_true_eq] at hww hii
      refine (cF (decide_eq_false (by omega))).trans ?_
      refine (cF (decide_eq_false (by omega))).trans ?_
      refine (cF (decide_eq_false (by omega))).trans ?_
      refine (cF (decide_eq_false (by omega))).trans ?_
      show _ = some (zpe r s me i w c n)
      unfold zpe
      cases hne:i != me.2.1 with
      | false =>
        simp only [cond_false,Bool.false_and]
        rw [jF hf]; rfl
      | true =>
        simp only [cond_true,Bool.true_and]
        refine (bnd (zCH hr (ji rs).1 _ _)).trans ?_
        cases zng r me.2.1 i with
        | false=>rw [jF hf]; rfl
        | true =>
          refine (bnd (jF hf)).trans ?_
          refine (zEl (t:=s) (k:=fun q=>_) a hc (zwH hs a c) hn).trans ?_
          show _ = some (znj s me i w c n)
          unfold znj
          cases hlt:decide (zA s me.2.1 me.2.2.1 c < n) with
          | true=>rfl
          | false =>
            have hge:=of_decide_eq_false hlt
            have hni:¬ i = me.2.1:=bne_iff_ne.1 hne
            obtain ⟨e,h0,hle⟩:=zGq hs ⟨rs,im,hc,pos⟩ hn b0 (fun e=>hni e.1.symm) hge
            have b:At (qU s me c n) i w:=ziF a.hi b0
            refine (zEm (t:=qU s me c n) (m:=List.length s.2.1) (k:=fun q=>_) b b0.hi.2 hc (by rw [e]; exact h0) hn (by rw [e]; exact hle)).trans ?_
            refine (cT (decide_eq_true (by rw [List.length_set,List.length_set]))).trans ?_
            exact cT (decide_eq_true trivial)
    · have hbf:(jJ r w && vw r i) = false:=by
        cases h1:jJ r w <;> cases h2:vw r i <;> first | rfl | exact absurd ⟨h1,h2⟩ hb
      rw [hbf]
      simp only [jJ,vw,decide_eq_true_eq] at hb
      simp only [cond_false]
      by_cases c1:i < 0
      · exact cT (decide_eq_true c1)
      · refine (cF (decide_eq_false c1)).trans ?_
        by_cases c2:i ≥ (r.1.length:Int)
        · exact cT (decide_eq_true c2)
        · refine (cF (decide_eq_false c2)).trans ?_
          by_cases c3:w < 0
          · exact cT (decide_eq_true c3)
          · refine (cF (decide_eq_false c3)).trans ?_
            by_cases c4:w ≥ (r.2.2.1.length:Int)
            · exact cT (decide_eq_true c4)
            · omega
theorem zHC {r:zf} {s:zd} (hr:qa r) (hs:zR s) (hf:zjP s) (hq:zfV r) {me:pMe} {c n:Int} (hn:z7 n):j9 (r,s,me,c,n,()) = some (bif za7 r s me c n then zpc r s me c n else za6 1):=by
  simp only [j9]
  refine (bnd (zaD hr hs me c n)).trans ?_
  cases h:za7 r s me c n with
  | false=>rfl
  | true =>
    obtain ⟨rs,im,hc,pos⟩:=zdX h
    have a:=zi0 rs im
    have hc4:=yN hc
    obtain ⟨hb,hz,-⟩:=ji rs
    have ok:=jl hb
    have sz:=zb9 hb hz
    have hl:=ok.quotas
    have hsl:=sz.shelves
    have ahi:=a.hi
    have hww:jJ r me.2.2.1 = true:=by
      have:=im; simp only [zdA,Bool.and_eq_true] at this; exact this.2.2
    simp only [jJ,decide_eq_true_eq] at hww
    have hqi:0 ≤ me.2.1 ∧ me.2.1 < (r.2.2.2.2.1.length:Int):=by omega
    simp only [cond_true]
    refine (ixR hqi).trans ?_
    refine (ixR a.hi).trans ?_
    refine (ixR hc4).trans ?_
    refine (ixR hww).trans ?_
    have hm0:=zC6 hs a.hi c
    have hcap:=zBA rs hc a.hi
    have hcm:=zrL (n:=0) rs hs hq hc a (by omega)
    have hw1:wU (zaw r me.2.1 - jD s me.2.1 c) = zaw r me.2.1 - jD s me.2.1 c:=zkn (by have:=hm0.1; have:=hcm.2.2; unfold M62 at this; omega)
    have hiff:decide (n ≤ wU (zaw r me.2.1 - jD s me.2.1 c)) = decide (jD s me.2.1 c + n ≤ zaw r me.2.1):=by
      rw [hw1]; exact decide_eq_decide.2 (by omega)
    show (bif (ix zda r.2.2.1 me.2.2.1).2.2.2.1 then (bif decide (n ≤ wU (zaw r me.2.1 - jD s me.2.1 c)) then _ else _) else (bif decide (n ≤ wU (zaw r me.2.1 - jD s me.2.1 c)) then _ else _)) = some (zpc r s me c n)
    rw [hiff]
    unfold zpc
    cases (ix zda r.2.2.1 me.2.2.1).2.2.2.1 with
    | false =>
      rw [jF hf]
      cases decide (jD s me.2.1 c + n ≤ zaw r me.2.1) <;> rfl
    | true =>
      cases hle:decide (jD s me.2.1 c + n ≤ zaw r me.2.1) with
      | false=>rw [jF hf]; rfl
      | true =>
        have hle:=of_decide_eq_true hle
        have hgo:=zrL rs hs hq hc a hle
        have hw2:wU (jD s me.2.1 c + n) = jD s me.2.1 c + n:=zkn (by have:=hm0.1; have:=hgo.2.2; have:=hn.1; unfold M62 at *; omega)
        refine (bnd (jF hf)).trans ?_
        refine (ixR a.hi).trans ?_
        refine (ixR hc4).trans ?_
        refine (ixR a.hi).trans ?_
        refine (ixR hc4).trans ?_
        have b:At (yZ s me c n) me.2.1 me.2.2.1:=zwJ a.hi rfl a
        have e:zA (yZ s me c n) me.2.1 me.2.2.1 c = zA s me.2.1 me.2.2.1 c:=by
          show List.getD (List.getD (ix za (upd s me.2.1 _).2.1 me.2.1).2.2.2.2.2.1 _ _) _ _ = _
          rw [zoe a.hi]
        have hco:=zkG rs hs hc a
        have key:=zEm (t:=upd s me.2.1 (u7 (ix za s.2.1 me.2.1) (List.set (ix za s.2.1 me.2.1).2.2.2.2.2.2.2.1 (Int.toNat c) (wU (jD s me.2.1 c + n))))) (i:=me.2.1) (w:=me.2.2.1) (c:=c) (n:=n) (m:=List.length s.2.1) (k:=fun q=>some (u1 s (List.set (yZ s me c n).2.1 me.2.1.toNat (u5 (ix za (yZ s me c n).2.1 me.2.1) (List.set (ix za (yZ s me c n).2.1 me.2.1).2.2.2.2.2.1 me.2.2.1.toNat q.1))),0,())) (by rw [hw2]; exact b) a.hi.2 hc (by rw [hw2]; show 0 ≤ zA (yZ s me c n) me.2.1 me.2.2.1 c; rw [e]; exact hco.1) hn (by rw [hw2]; show zA (yZ s me c n) me.2.1 me.2.2.1 c + n ≤ M62; rw [e]; exact hgo.1)
        rw [hw2] at key
        show inR me.2.1 _ _ = _
        simp only [hw2]
        refine Eq.trans ?_ key
        have el:∀ (X:zg),List.length s.2.1 = List.length (List.set (List.set s.2.1 (Int.toNat me.2.1) (u7 (ix za s.2.1 me.2.1) (List.set (ix za s.2.1 me.2.1).2.2.2.2.2.2.2.1 (Int.toNat c) (jD s me.2.1 c + n)))) (Int.toNat me.2.1) X):=fun X=>by rw [List.length_set,List.length_set]
        simp only [decide_eq_true (el _),decide_true,cond_true]
end Go.Proofs.YtokcjmkikhgkeaaGreatDoor
end
section
namespace Go.Proofs.YtokcjmkikhgkeaaGreatDoor
open Go.Ev
theorem zof {x:Int} (h0:0 ≤ x) (h1:x ≤ M62):z7 x:=⟨h0,by unfold M62 at h1; unfold U64; omega⟩
end Go.Proofs.YtokcjmkikhgkeaaGreatDoor
end
section
namespace Go.Proofs.YtokcjmkikhgkeaaGreatDoor
open Go.Ev
def zC7 (x:zg):Bool:=decide (x.1.length ≤ 2000000) && (decide (x.2.1.length ≤ 2000000) && (decide (x.2.2.1.length ≤ 2000000) && (decide (x.2.2.2.1.length ≤ 2000000) && (decide (x.2.2.2.2.1.length ≤ 2000000) && (decide (x.2.2.2.2.2.1.length ≤ 2000000) && decide (x.2.2.2.2.2.2.1.length ≤ 2000000))))))
def zzz (s:zd):Bool:=decide (s.2.1.length ≤ 2000000) && (decide (s.2.2.1.length ≤ 2000000) && (decide (s.2.2.2.1.length ≤ 2000000) && (decide (s.2.2.2.2.1.length ≤ 2000000) && (decide (s.2.2.2.2.2.1.length ≤ 2000000) && (s.2.1.all zC7 && s.2.2.1.all fun l=>decide (l.length ≤ 2000000))))))
theorem zGr {s:zd} (h:zzz s = true):zjP s:=by
  simp only [zzz,Bool.and_eq_true,decide_eq_true_eq,List.all_eq_true] at h
  obtain ⟨h1,h2,h3,h4,h5,h6,h7⟩:=h
  refine ⟨h1,h2,h3,h4,h5,fun x hx=>?_,h7⟩
  have:=h6 x hx
  simp only [zC7,Bool.and_eq_true,decide_eq_true_eq] at this
  obtain ⟨a,b,c,d,e,f,g⟩:=this
  exact ⟨a,b,c,d,e,f,g⟩
noncomputable def zFE (x:zd × Unit):Option (zd × Unit):=bif zzz x.1 then some x else qt x
theorem zGs:qt = zFE:=by
  funext ⟨s,u⟩
  cases u
  unfold zFE
  cases h:zzz s with
  | true=>exact jF (zGr h)
  | false=>rfl
theorem zjs:y8 () = some (true,()):=by
  simp only [y8,j9,vP,yC,vQ,zGs]
  kernel_rfl
theorem zCJ {x:zg} (h:zwG x):zwE x:=by
  have hm:2000000 ≤ Go.maxLen:=by unfold Go.maxLen; omega
  exact ⟨Nat.le_trans h.rooms hm,Nat.le_trans h.exits hm,Nat.le_trans h.items hm,Nat.le_trans h.mails hm,Nat.le_trans h.trades hm,Nat.le_trans h.purses hm,Nat.le_trans h.places hm⟩
theorem zFF {s:zd} (h:zjP s):zHx s:=by
  have hm:2000000 ≤ Go.maxLen:=by unfold Go.maxLen; omega
  exact ⟨Nat.le_trans h.shelves hm,Nat.le_trans h.ranks hm,Nat.le_trans h.orders hm,Nat.le_trans h.entries hm,Nat.le_trans h.seats hm,fun x hx=>zCJ (h.shelf x hx),fun l hl=>Nat.le_trans (h.rank l hl) hm⟩
def zlJ (a:Int):Int:=bif decide (a < 1) then 4 else bif decide (a > 3) then 4 else a
end Go.Proofs.YtokcjmkikhgkeaaGreatDoor
end
section
namespace Go.Proofs.YtokcjmkikhgkeaaGreatDoor
open Go.Ev
theorem wf_u64 {x:Int} (h:(Lit.int .u64 x).wf = true):z7 x:=by
  unfold Lit.wf at h
  simp only [Bool.and_eq_true,decide_eq_true_eq] at h
  have e1:IntKind.min .u64 = 0:=by decide
  have e2:IntKind.max .u64 = 18446744073709551615:=by decide
  rw [e1,e2] at h
  exact ⟨h.1,Int.lt_of_le_of_lt h.2 (by decide)⟩
theorem realmIn {r:zf} (h:InR zw r):qa r:=by
  obtain ⟨hl,h2⟩:=h
  refine ⟨fun a ha=>?_,h2.2.2.1.1,h2.2.2.2.1.1⟩
  have h3:(Lit.int .u64 a.2.1).wf = true:=(hl.2 a ha).2.1
  exact wf_u64 h3
theorem zBC {a:List Int} (h:InR (.arr 4 tU) a):zks a:=fun x hx=>wf_u64 (h.2 x hx)
theorem zC8 {x:zkc} (h:InR zdc x):z7 x.2.1:=wf_u64 (show (Lit.int .u64 x.2.1).wf = true from h.2.1)
theorem zG4 {x:zg} (h:InR zj x):ziB x:=by
  obtain ⟨-,-,-,-,h5,h6,-,h8,h9,-⟩:=h
  refine ⟨fun t ht=>?_,fun a ha=>zBC (h6.2 a ha),zBC h8,zBC h9⟩
  obtain ⟨-,-,-,g1,g2,-⟩:=h5.2 t ht
  exact ⟨zC8 g1,zC8 g2⟩
theorem zG5 {x:zn} (h:InR zm x):zkE x:=by
  obtain ⟨-,-,-,-,-,-,h7,h8,h9,-⟩:=h
  exact ⟨wf_u64 h7,wf_u64 h8,wf_u64 h9⟩
theorem zG6 {x:zF} (h:InR zr x):zsf x:=by
  obtain ⟨-,-,-,-,-,-,-,h8,h9,-⟩:=h
  exact ⟨wf_u64 h8,wf_u64 h9⟩
theorem stateIn {s:zd} (h:InR zu s):zR s:=by
  obtain ⟨-,h2,-,h4,h5,-⟩:=h
  exact ⟨fun x hx=>zG4 (h2.2 x hx),fun x hx=>zG5 (h4.2 x hx),fun x hx=>zG6 (h5.2 x hx)⟩
theorem capsIn {r:zf} (h:InR zw r):zfV r:=by
  obtain ⟨-,-,-,-,h5,-⟩:=h
  intro q hq
  have h3:(Lit.int .u64 q.2.2.2.2.2.1).wf = true:=(h5.2 q hq).2.2.2.2.2.1
  exact wf_u64 h3
theorem deedIn {x:jR} (h:InR qD x):z7 x.2.2.2.2.1:=by
  obtain ⟨-,-,-,-,h5,-⟩:=h
  exact wf_u64 h5
end Go.Proofs.YtokcjmkikhgkeaaGreatDoor
end
section
namespace Go.Proofs.YtokcjmkikhgkeaaGreatDoor
open Go.Ev
structure zku (x y:zg):Prop where
  rooms:y.1 = x.1
  exits:y.2.1 = x.2.1
  items:y.2.2.1 = x.2.2.1
  mails:y.2.2.2.1 = x.2.2.2.1
  trades:y.2.2.2.2.1 = x.2.2.2.2.1
  purses:y.2.2.2.2.2.1.length = x.2.2.2.2.2.1.length
  places:y.2.2.2.2.2.2.1 = x.2.2.2.2.2.2.1
theorem zpf {s:zd} {i:Int} {h:zg} (hi:0 ≤ i ∧ i < (s.2.1.length:Int)) (k:Nat):(upd s i h).2.1.getD k za = if i.toNat = k then h else s.2.1.getD k za:=by
  by_cases hk:i.toNat = k
  · rw [if_pos hk,← hk]; exact zi1 (by omega)
  · rw [if_neg hk]; exact getD_set_ne hk
theorem zsj (s:zd) (i:Int) (h:zg):(upd s i h).2.1.length = s.2.1.length:=List.length_set ..
theorem zFG {s:zd} {i:Int} {h:zg} (hi:0 ≤ i ∧ i < (s.2.1.length:Int)) (al:zku (ix za s.2.1 i) h) (k:Nat):((upd s i h).2.1.getD k za).1 = (s.2.1.getD k za).1:=by
  rw [zpf hi]
  split
  · rename_i e; subst e; exact al.rooms
  · rfl
theorem zyf {s:zd} {i:Int} {h:zg} (hi:0 ≤ i ∧ i < (s.2.1.length:Int)) (al:zku (ix za s.2.1 i) h):zlB (upd s i h) = zlB s:=by
  funext x
  unfold zlB
  rw [zFG hi al,zsj]
theorem zrM {r:zf} {s:zd} {i:Int} {h:zg} (hi:0 ≤ i ∧ i < (s.2.1.length:Int)) (al:zku (ix za s.2.1 i) h):zfU r (upd s i h) = zfU r s:=by
  funext j x
  unfold zfU
  rw [zyf hi al]
theorem zEn {r:zf} {s:zd} {i:Int} {h:zg} (hi:0 ≤ i ∧ i < (s.2.1.length:Int)) (al:zku (ix za s.2.1 i) h):zhR r (upd s i h) = zhR r s:=by
  funext j x
  have e1:zeH r (upd s i h) = zeH r s:=by funext a b; unfold zeH; rw [zrM hi al]
  have e2:zeI r (upd s i h) = zeI r s:=by funext a b; unfold zeI; rw [zrM hi al]
  unfold zhR
  rw [e1,e2,zrM hi al]
theorem zBD {r:zf} {s:zd} {i:Int} {x y:zg} (al:zku x y):zhS r s i y = zhS r s i x:=by
  unfold zhS zhR zdU zlD zlC zeJ
  rw [al.exits,al.items,al.places,al.mails,al.trades]
theorem zCK {x y:zg} (al:zku x y):vV y = vV x:=by
  unfold vV
  rw [al.rooms,al.exits,al.items,al.mails,al.trades]
theorem zEo {r:zf} {x y:zg} {q:zad} (al:zku x y):zeG r y q = zeG r x q:=by
  unfold zeG
  rw [al.rooms,al.exits,al.items,al.mails,al.trades,al.places,al.purses]
structure zog (r:zf) (s:zd):Prop where
  realm:qm r = true
  sizes:zfT r s = true
  pub:zc2 r s = true
  shelf:∀ i,i < s.2.1.length→(vV (s.2.1.getD i za) && zhS r s i (s.2.1.getD i za)) = true
def zpg (r:zf) (s:zd):Prop:=∀ i,i < s.2.1.length→∀ c,c < 4→zhU r s c i = true
def zC9 (s:zd):Prop:=∀ c:Nat,c < 4→zeK s c = true
theorem zeL {r:zf} {s:zd}:qg r s = true ↔ zog r s ∧ zpg r s ∧ zC9 s:=by
  unfold qg zpg zC9
  simp only [Bool.and_eq_true,jQ]
  constructor
  · rintro ⟨h1,h2,h3,h4,h5⟩
    exact ⟨⟨h1,h2,h3,fun i hi=>by have:=(h4 i (Nat.zero_le _) (by omega)).1; simp only [Bool.and_eq_true]; exact this⟩,fun i hi c hc=>(h4 i (Nat.zero_le _) (by omega)).2 c (Nat.zero_le _) (by omega),fun c hc=>h5 c (Nat.zero_le _) (by omega)⟩
  · rintro ⟨h1,h2,h3⟩
    exact ⟨h1.realm,h1.sizes,h1.pub,fun i _ hi=>⟨by have:=h1.shelf i (by omega); simp only [Bool.and_eq_true] at this; exact this,fun c _ hc=>h2 i (by omega) c (by omega)⟩,fun c _ hc=>h3 c (by omega)⟩
theorem zrN {r:zf} {s:zd} {i:Int} {h:zg} (hi:0 ≤ i ∧ i < (s.2.1.length:Int)) (al:zku (ix za s.2.1 i) h) (p:zog r s):zog r (upd s i h):=by
  have hs:=p.sizes
  have hp:=p.pub
  refine ⟨p.realm,?_,?_,fun k hk=>?_⟩
  · unfold zfT at hs ⊢
    simp only [Bool.and_eq_true,decide_eq_true_eq,jQ] at hs ⊢
    rw [zsj]
    refine ⟨hs.1,hs.2.1,fun k hk1 hk2=>?_⟩
    rw [zpf hi]
    split
    · rename_i e; subst e
      rw [zEo al]
      exact hs.2.2 _ hk1 hk2
    · exact hs.2.2 _ hk1 hk2
  · unfold zc2 at hp ⊢
    have e1:ziC r (upd s i h) = ziC r s:=rfl
    have e2:ziD r (upd s i h) = ziD r s:=rfl
    rw [zyf hi al,e1,e2]
    exact hp
  · rw [zsj] at hk
    have:=p.shelf k hk
    have e:zhS r (upd s i h) = zhS r s:=by funext a b; unfold zhS; rw [zEn hi al]
    rw [e,zpf hi]
    split
    · rename_i e'; subst e'
      rw [zCK al,zBD al]
      exact this
    · exact this
theorem zuJ {r:zf} {s:zd} {i:Int} {h:zg} (hi:0 ≤ i ∧ i < (s.2.1.length:Int)) (hm:∀ c,c < 4→h.2.2.2.2.2.2.2.1.getD c 0 ≤ (r.2.2.2.2.1.getD i.toNat qz).2.2.2.2.2.1) (p:zpg r s):zpg r (upd s i h):=by
  intro k hk c hc
  rw [zsj] at hk
  have:=p k hk c hc
  unfold zhU at this ⊢
  rw [zpf hi]
  split
  · rename_i e; subst e
    simp only [Bool.not_eq_true',decide_eq_false_iff_not]
    exact Int.not_lt.2 (hm c hc)
  · exact this
theorem zuK {r:zf} {s:zd} {i:Int} (hi:0 ≤ i ∧ i < (s.2.1.length:Int)) (p:zpg r s):∀ c,c < 4→(ix za s.2.1 i).2.2.2.2.2.2.2.1.getD c 0 ≤ (r.2.2.2.2.1.getD i.toNat qz).2.2.2.2.2.1:=by
  intro c hc
  have:=p i.toNat (by omega) c hc
  simp only [zhU,Bool.not_eq_true',decide_eq_false_iff_not] at this
  exact Int.not_lt.1 this
theorem zph {α:Type} (f:α→Int) (d:α):∀ (l:List α) (i:Nat) (x:α),i < l.length→zD ((List.set l i x).map f) = zD (l.map f) - f (l.getD i d) + f x
  | [],_,_,h=>by cases h
  | y :: l,0,x,_=>by
    show f x + zD (l.map f) = f y + zD (l.map f) - f y + f x
    omega
  | y :: l,i + 1,x,h=>by
    have:=zph f d l i x (by simpa using h)
    show f y + zD ((List.set l i x).map f) = f y + zD (l.map f) - f (l.getD i d) + f x
    omega
structure zH0 (x:zg):Prop where
  purses:∀ a ∈ x.2.2.2.2.2.1,a.length = 4
  made:x.2.2.2.2.2.2.2.1.length = 4
  spent:x.2.2.2.2.2.2.2.2.1.length = 4
def zdB (s:zd):Prop:=∀ x ∈ s.2.1,zH0 x
theorem zuL {s:zd} {i:Int} {h:zg} (hi:0 ≤ i ∧ i < (s.2.1.length:Int)) (k:Int):zD ((upd s i h).2.1.map (zL k)) = zD (s.2.1.map (zL k)) - zL k (ix za s.2.1 i) + zL k h:=zph _ za _ _ _ (by omega)
theorem ziG {f:zg→List Int} {s:zd} {i:Int} {h:zg} (hi:0 ≤ i ∧ i < (s.2.1.length:Int)) (k:Int):qQ f (upd s i h) k = qQ f s k - jb k (f (ix za s.2.1 i)) + jb k (f h):=zph (fun x=>jb k (f x)) za _ _ _ (by omega)
theorem zrO {row:List Int} {c k v:Int} (hc:zH c = true) (hk:zH k = true) (h4:row.length = 4):jb k (List.set row c.toNat v) = if k = c then v else jb k row:=by
  have hc4:=yN hc
  have hk4:=yN hk
  unfold jb
  by_cases e:k = c
  · subst e; rw [if_pos rfl]; exact zi1 (by omega)
  · rw [if_neg e]; exact getD_set_ne (by omega)
theorem zBE {s:zd} (h4:zdB s) {i w:Int} (a:At s i w):(zav s i w).length = 4:=(h4 _ (qX a.hi)).purses _ (z9 (by have:=a.hw; omega))
theorem zrP {s:zd} (h4:zdB s) {i w c v k:Int} (a:At s i w) (hc:zH c = true) (hk:zH k = true):zD ((vx s i w c v).2.1.map (zL k)) = zD (s.2.1.map (zL k)) - zA s i w k + (if k = c then v else zA s i w k):=by
  rw [zuL a.hi]
  have h1:=zph (jb k) (ze (.arr 4 tU)) (ix za s.2.1 i).2.2.2.2.2.1 w.toNat (List.set (zav s i w) c.toNat v) (by have:=a.hw; omega)
  rw [zrO hc hk (zBE h4 a)] at h1
  have e1:zL k (u5 (ix za s.2.1 i) (List.set (ix za s.2.1 i).2.2.2.2.2.1 w.toNat (List.set (zav s i w) c.toNat v))) = zD ((ix za s.2.1 i).2.2.2.2.1.map (zca k)) + zD ((List.set (ix za s.2.1 i).2.2.2.2.2.1 w.toNat (List.set (zav s i w) c.toNat v)).map (jb k)):=rfl
  have e2:zL k (ix za s.2.1 i) = zD ((ix za s.2.1 i).2.2.2.2.1.map (zca k)) + zD ((ix za s.2.1 i).2.2.2.2.2.1.map (jb k)):=rfl
  rw [e1,e2,h1]
  have e3:jb k (zav s i w) = zA s i w k:=rfl
  rw [e3]
  omega
theorem zwK {s:zd} (h4:zdB s) {i w c v:Int} (a:At s i w):zdB (vx s i w c v):=by
  intro x hx
  rcases List.mem_or_eq_of_mem_set hx with hx | rfl
  · exact h4 x hx
  · have h:=h4 _ (qX a.hi)
    refine ⟨fun y hy=>?_,h.made,h.spent⟩
    rcases List.mem_or_eq_of_mem_set hy with hy | rfl
    · exact h.purses y hy
    · rw [List.length_set]; exact zBE h4 a
theorem zEp (x:zg) (l:List (List Int)) (h:l.length = x.2.2.2.2.2.1.length):zku x (u5 x l):=⟨rfl,rfl,rfl,rfl,rfl,h,rfl⟩
theorem zkv {r:zf} {s:zd} {i w c v:Int} (a:At s i w) (p:zog r s):zog r (vx s i w c v):=zrN a.hi (zEp _ _ (List.length_set ..)) p
theorem zjt {r:zf} {s:zd} {i w c v:Int} (a:At s i w) (p:zpg r s):zpg r (vx s i w c v):=zuJ a.hi (zuK a.hi p) p
theorem zyg {s:zd} {i w c v k:Int} (a:At s i w):zgb (vx s i w c v) k = zgb s k:=by
  have e1:qQ (fun x=>x.2.2.2.2.2.2.2.1) (vx s i w c v) k = qQ (fun x=>x.2.2.2.2.2.2.2.1) s k:=by
    rw [ziG a.hi]; exact Int.sub_add_cancel _ _
  have e2:qQ (fun x=>x.2.2.2.2.2.2.2.2.1) (vx s i w c v) k = qQ (fun x=>x.2.2.2.2.2.2.2.2.1) s k:=by
    rw [ziG a.hi]; exact Int.sub_add_cancel _ _
  unfold zgb
  rw [e1,e2]
theorem zFH {r:zf} {s:zd} (h:qg r s = true) (h4:zdB s) {i w j v c n:Int} (a:At s i w) (b:At s j v) (hne:¬ (i = j ∧ w = v)) (hc:zH c = true):qg r (vx (vx s i w c (zA s i w c - n)) j v c (zA (vx s i w c (zA s i w c - n)) j v c + n)) = true:=by
  obtain ⟨p1,p2,p3⟩:=zeL.1 h
  have b':At (vx s i w c (zA s i w c - n)) j v:=ziF a.hi b
  refine zeL.2 ⟨zkv b' (zkv a p1),zjt b' (zjt a p2),fun k hk=>?_⟩
  have hkk:zH (k:Int) = true:=by simp only [zH,decide_eq_true_eq]; omega
  have h5:=p3 k hk
  have e1:=zrP (zwK (c:=c) (v:=zA s i w c - n) h4 a) (v:=zA (vx s i w c (zA s i w c - n)) j v c + n) b' hc hkk
  rw [zrP h4 a hc hkk] at e1
  have e2:zcb (vx (vx s i w c (zA s i w c - n)) j v c (zA (vx s i w c (zA s i w c - n)) j v c + n)) (k:Int) = zcb s (k:Int):=by
    unfold zcb
    rw [e1]
    have e3:(vx (vx s i w c (zA s i w c - n)) j v c (zA (vx s i w c (zA s i w c - n)) j v c + n)).2.2.2.1 = s.2.2.2.1:=rfl
    rw [e3]
    congr 2
    by_cases ek:(k:Int) = c
    · rw [if_pos ek,if_pos ek,ek]; omega
    · rw [if_neg ek,if_neg ek]; omega
  unfold zeK at h5 ⊢
  rw [e2,zyg b',zyg a]
  exact h5
end Go.Proofs.YtokcjmkikhgkeaaGreatDoor
end
section
namespace Go.Proofs.YtokcjmkikhgkeaaGreatDoor
open Go.Ev
theorem zkH {r:zf} {s:zd} (h:qg r s = true):zjP s:=by
  obtain ⟨hb,hz,hp⟩:=ji h
  have ok:=jl hb
  have sz:=zb9 hb hz
  have h1:=ok.labels
  have h2:=ok.lines
  have h3:=ok.accounts
  have h4:=sz.shelves
  have h5:=sz.orders
  have h6:=sz.entries
  have h7:=sz.people
  have h8:=ok.guilds
  have hh:zhP r s.2.2.1 = true:=by simp only [zc2,Bool.and_eq_true] at hp; exact hp.1
  have hr:=zuD hh
  refine ⟨by omega,by omega,by omega,by omega,by omega,fun x hx=>?_,fun l hl=>?_⟩
  · have:=sz.shelf x hx
    exact ⟨by omega,by omega,by omega,by omega,by omega,by omega,by omega⟩
  · obtain ⟨i,hi,rfl⟩:=List.mem_iff_getElem.1 hl
    have:=hr.2 i (by omega)
    rw [List.getD_eq_getElem?_getD,List.getElem?_eq_getElem hi] at this
    have this:(s.2.2.1[i]).length = _:=this
    omega
theorem zHD {r:zf} {s:zd} (hr:qa r) (hs:zR s) {me:pMe} {i w c n:Int} (hn:z7 n):vQ (r,s,me,i,w,c,n,()) = some (bif za7 r s me c n then (bif jJ r w && vw r i then zpe r s me i w c n else za6 1) else za6 1):=by
  cases h:za7 r s me c n with
  | true =>
    have:=zHB hr hs (zkH (zdX h).rs) (me:=me) (i:=i) (w:=w) (c:=c) hn
    rw [h] at this; exact this
  | false =>
    simp only [vQ]
    refine (bnd (zaD hr hs me c n)).trans ?_
    rw [h]; rfl
theorem zsk {s:zd} (hs:zR s) {i w c v:Int} (a:At s i w) (hv:z7 v):zR (vx s i w c v):=by
  refine ⟨fun x hx=>?_,hs.orders,hs.entries⟩
  rcases List.mem_or_eq_of_mem_set hx with hx | rfl
  · exact hs.shelves x hx
  · have h:=hs.shelves _ (qX a.hi)
    refine ⟨h.trades,fun y hy=>?_,h.made,h.spent⟩
    rcases List.mem_or_eq_of_mem_set hy with hy | rfl
    · exact h.purses y hy
    · intro z hz
      rcases List.mem_or_eq_of_mem_set hz with hz | rfl
      · exact h.purses _ (z9 (by have:=a.hw; omega)) z hz
      · exact hv
theorem foursIn {s:zd} (h:InR zu s):zdB s:=by
  obtain ⟨-,h2,-⟩:=h
  intro x hx
  obtain ⟨-,-,-,-,-,h6,-,h8,h9,-⟩:=h2.2 x hx
  exact ⟨fun a ha=>(h6.2 a ha).1,h8.1,h9.1⟩
end Go.Proofs.YtokcjmkikhgkeaaGreatDoor
end
section
namespace Go.Proofs.YtokcjmkikhgkeaaGreatDoor
open Go.Ev
abbrev yO (x:zg):List Int:=x.2.2.2.2.2.2.2.1
abbrev qq (x:zg):List Int:=x.2.2.2.2.2.2.2.2.1
def zK (s:zd) (c:Int):Int:=zD (s.2.2.2.1.map (qT c)) + zD (s.2.1.map (zL c))
theorem zfa {s:zd} {k:Int} (hk:zH k = true):zeK s k = true ↔ zK s k ≤ M62 ∧ qQ yO s k ≤ M62 ∧ qQ qq s k ≤ M62 ∧ ¬ qQ yO s k < qQ qq s k ∧ zK s k = qQ yO s k - qQ qq s k:=by
  unfold zeK zcb zgb zjr
  rw [hk]
  simp only [cond_true]
  show ((zhT (zK s k)).2.1 == 0 && _) = true ↔ _
  by_cases h1:zK s k > M62
  · show ((zhT (zK s k)).2.1 == 0 && _) = true ↔ _
    rw [zdV h1]
    constructor
    · intro h; cases h
    · intro h; omega
  · have e1:zhT (zD (s.2.2.2.1.map (qT k)) + zD (s.2.1.map (zL k))) = (zK s k,0,()):=zdW (n:=zK s k) (by omega)
    rw [e1,zdW (n:=zK s k) (by omega)]
    generalize zK s k = H at *
    generalize qQ yO s k = A at *
    generalize qQ qq s k = B at *
    by_cases h2:A > M62
    · rw [decide_eq_true h2]
      constructor
      · intro h; cases h
      · intro h; omega
    · rw [decide_eq_false h2]
      by_cases h3:B > M62
      · rw [decide_eq_true h3]
        constructor
        · intro h; cases h
        · intro h; omega
      · rw [decide_eq_false h3]
        by_cases h4:A < B
        · rw [decide_eq_true h4]
          constructor
          · intro h; cases h
          · intro h; omega
        · rw [decide_eq_false h4]
          simp only [cond_false,beq_self_eq_true,Bool.true_and,beq_iff_eq]
          constructor
          · intro h; exact ⟨by omega,by omega,by omega,by omega,h⟩
          · intro h; exact h.2.2.2.2
theorem zFI {s:zd} (hs:zR s) {i:Int} {h:zg} (hh:ziB h):zR (upd s i h):=by
  refine ⟨fun x hx=>?_,hs.orders,hs.entries⟩
  rcases List.mem_or_eq_of_mem_set hx with hx | rfl
  · exact hs.shelves x hx
  · exact hh
theorem zyh {a:List Int} (h:zks a) {k:Nat} {v:Int} (hv:z7 v):zks (List.set a k v):=by
  intro z hz
  rcases List.mem_or_eq_of_mem_set hz with hz | rfl
  · exact h z hz
  · exact hv
theorem zhX {s:zd} (h4:zdB s) {i w c v k:Int} (a:At s i w) (hc:zH c = true) (hk:zH k = true):zK (vx s i w c v) k = zK s k - zA s i w k + (if k = c then v else zA s i w k):=by
  have:=zrP h4 (v:=v) a hc hk
  unfold zK
  show zD (s.2.2.2.1.map (qT k)) + _ = _
  rw [this]; omega
theorem zpi {f:zg→List Int} {s:zd} {i w c v k:Int} (a:At s i w) (hf:∀ (x:zg) (l:List (List Int)),f (u5 x l) = f x):qQ f (vx s i w c v) k = qQ f s k:=by
  rw [ziG a.hi]
  show qQ f s k - jb k (f (ix za s.2.1 i)) + jb k (f (u5 (ix za s.2.1 i) (List.set (ix za s.2.1 i).2.2.2.2.2.1 (Int.toNat w) (List.set (zav s i w) (Int.toNat c) v)))) = _
  have e:=hf (ix za s.2.1 i) (List.set (ix za s.2.1 i).2.2.2.2.2.1 (Int.toNat w) (List.set (zav s i w) (Int.toNat c) v))
  exact (congrArg (fun z=>qQ f s k - jb k (f (ix za s.2.1 i)) + jb k z) e).trans (Int.sub_add_cancel _ _)
theorem zFJ {s:zd} (hs:zR s) {i w c:Int} (a:At s i w):zA s i w c ≤ zK s c:=by
  have h2:=zhW hs c
  have h3:=zpa hs (c:=c) a.hi
  have h4:zA s i w c ≤ zL c (ix za s.2.1 i):=zlI (hs.shelves _ (qX a.hi)) (c:=c) a.hw
  unfold zK; omega
theorem zGt {r:zf} {s:zd} (h:qg r s = true) (hq:zfV r) {i c n:Int} (hc:zH c = true) (hi:0 ≤ i ∧ i < (s.2.1.length:Int)) (hn:jD s i c + n ≤ zaw r i):qQ yO s c + n ≤ M62:=by
  obtain ⟨hb,hz,-⟩:=ji h
  have ok:=jl hb
  have sz:=zb9 hb hz
  have hl:=ok.quotas
  have hsl:=sz.shelves
  have hcaps:zD (r.2.2.2.2.1.map fun q=>q.2.2.2.2.2.1) ≤ M62:=by
    have hb':=hb
    simp only [qm,ze7,Bool.and_eq_true,decide_eq_true_eq] at hb'
    obtain ⟨-,-,-,-,⟨-,h6,-,h7⟩,-⟩:=hb'
    rcases zrK (by unfold U64; omega) hq h7 with h8 | h8
    · exact h8
    · rw [h8] at h6; cases h6
  have h6:=zni (a:=s.2.1.map fun x=>jb c (yO x)) (b:=r.2.2.2.2.1.map fun q=>q.2.2.2.2.2.1) (i:=i.toNat) (n:=n) (by rw [List.length_map,List.length_map]; omega) (by rw [List.length_map]; omega) (fun j hj=>by
    rw [List.length_map] at hj
    rw [jS za hj,jS qz (by omega)]
    have:=zBA h hc (i:=(j:Int)) (by omega)
    exact this) (by
    rw [jS za (by omega),jS qz (by omega)]
    exact hn)
  have h7:qQ yO s c + n ≤ zD (r.2.2.2.2.1.map fun q=>q.2.2.2.2.2.1):=h6
  omega
theorem zEq {r:zf} {s:zd} {me:pMe} {c n:Int} (h:qg r s = true) (hs:zR s) (h4:zdB s) (hq:zfV r) (im:zdA r me = true) (hc:zH c = true) (hn:0 < n) (hle:jD s me.2.1 c + n ≤ zaw r me.2.1) :
    qg r (zpb (yZ s me c n) me.2.1 me.2.2.1 c n).1 = true ∧ ∀ k,zH k = true→zK (zpb (yZ s me c n) me.2.1 me.2.2.1 c n).1 k = zK s k + if k = c then n else 0:=by
  obtain ⟨p1,p2,p3⟩:=zeL.1 h
  have a:=zi0 h im
  have hc4:=yN hc
  have f4:=h4 _ (qX a.hi)
  have b:At (yZ s me c n) me.2.1 me.2.2.1:=zwJ a.hi rfl a
  have m4:zdB (yZ s me c n):=by
    intro x hx
    rcases List.mem_or_eq_of_mem_set hx with hx | rfl
    · exact h4 x hx
    · exact ⟨f4.purses,by show (List.set _ _ _).length = 4; rw [List.length_set]; exact f4.made,f4.spent⟩
  have ec:∀ k,zA (yZ s me c n) me.2.1 me.2.2.1 k = zA s me.2.1 me.2.2.1 k:=fun k=>by
    show List.getD (List.getD (ix za (upd s me.2.1 _).2.1 me.2.1).2.2.2.2.2.1 _ _) _ _ = _
    rw [zoe a.hi]
  have eH:∀ k,zK (yZ s me c n) k = zK s k:=fun k=>by
    unfold zK
    rw [zuL a.hi]
    exact congrArg (fun z=>zD (s.2.2.2.1.map (qT k)) + z) (Int.sub_add_cancel _ _)
  have hH:∀ k,zH k = true→zK (zpb (yZ s me c n) me.2.1 me.2.2.1 c n).1 k = zK s k + if k = c then n else 0:=fun k hk=>by
    refine (zhX m4 b hc hk).trans ?_
    rw [eH,ec,ec]
    by_cases e:k = c
    · simp only [if_pos e]; rw [e]; omega
    · simp only [if_neg e]; omega
  refine ⟨zeL.2 ⟨zkv b (zrN a.hi ⟨rfl,rfl,rfl,rfl,rfl,rfl,rfl⟩ p1),zjt b (zuJ a.hi (fun c' hc'=>?_) p2),fun k hk=>?_⟩,hH⟩
  · show (List.set (yO (ix za s.2.1 me.2.1)) c.toNat (jD s me.2.1 c + n)).getD c' 0 ≤ _
    by_cases e:c.toNat = c'
    · rw [← e,zi1 (by have:(yO (ix za s.2.1 me.2.1)).length = 4:=f4.made; omega)]; exact hle
    · rw [getD_set_ne e]; exact zuK a.hi p2 c' hc'
  · have hkk:zH (k:Int) = true:=by simp only [zH,decide_eq_true_eq]; omega
    have h5:=(zfa hkk).1 (p3 k hk)
    have eA:qQ yO (zpb (yZ s me c n) me.2.1 me.2.2.1 c n).1 (k:Int) = qQ yO s (k:Int) + if (k:Int) = c then n else 0:=by
      refine (zpi b (fun _ _=>rfl)).trans ?_
      rw [ziG a.hi]
      show qQ yO s k - jb k (yO (ix za s.2.1 me.2.1)) + jb k (List.set (yO (ix za s.2.1 me.2.1)) c.toNat (jD s me.2.1 c + n)) = _
      rw [zrO (row:=yO (ix za s.2.1 me.2.1)) hc hkk f4.made]
      by_cases e:(k:Int) = c
      · simp only [if_pos e]; rw [e]
        show _ - jD s me.2.1 c + _ = _
        omega
      · simp only [if_neg e]; omega
    have eB:qQ qq (zpb (yZ s me c n) me.2.1 me.2.2.1 c n).1 (k:Int) = qQ qq s (k:Int):=by
      refine (zpi b (fun _ _=>rfl)).trans ?_
      rw [ziG a.hi]; exact Int.sub_add_cancel _ _
    refine (zfa hkk).2 ?_
    rw [hH _ hkk,eA,eB]
    by_cases e:(k:Int) = c
    · have:=zGt h hq hc a.hi hle
      have hB:=zo9 (f:=qq) (fun x hx=>(hs.shelves x hx).spent) c
      simp only [if_pos e]
      rw [e] at h5 ⊢
      omega
    · simp only [if_neg e]; omega
theorem zEr {r:zf} {s:zd} {me:pMe} {c n:Int} (h:qg r s = true) (hs:zR s) (h4:zdB s) (im:zdA r me = true) (hc:zH c = true) (hn:0 < n) (hge:¬ zA s me.2.1 me.2.2.1 c < n) :
    qg r (upd (qU s me c n) me.2.1 (u8 (ix za (qU s me c n).2.1 me.2.1) (List.set (qq (ix za (qU s me c n).2.1 me.2.1)) c.toNat (wU (List.getD (qq (ix za (qU s me c n).2.1 me.2.1)) c.toNat (0:Int) + n))))) = true ∧ ∀ k,zH k = true→zK (upd (qU s me c n) me.2.1 (u8 (ix za (qU s me c n).2.1 me.2.1) (List.set (qq (ix za (qU s me c n).2.1 me.2.1)) c.toNat (wU (List.getD (qq (ix za (qU s me c n).2.1 me.2.1)) c.toNat (0:Int) + n))))) k = zK s k - if k = c then n else 0:=by
  obtain ⟨p1,p2,p3⟩:=zeL.1 h
  have a:=zi0 h im
  have hc4:=yN hc
  have f4:=h4 _ (qX a.hi)
  have b:At (qU s me c n) me.2.1 me.2.2.1:=ziF a.hi a
  have ei:qq (ix za (qU s me c n).2.1 me.2.1) = qq (ix za s.2.1 me.2.1):=by rw [zoe a.hi]
  have hco:=zkG h hs hc a
  have hch:=zFJ hs (c:=c) a
  have hbu:z7 (List.getD (qq (ix za s.2.1 me.2.1)) c.toNat (0:Int)):=za4 (hs.shelves _ (qX a.hi)).spent _
  have h5c:=(zfa (k:=c) hc).1 (by
    obtain ⟨k,e,hk⟩:=zuG hc
    rw [e]; exact p3 k hk)
  have hbl:List.getD (qq (ix za s.2.1 me.2.1)) c.toNat (0:Int) ≤ qQ qq s c:=by
    have h1:=ziE (l:=s.2.1.map fun x=>jb c (qq x)) (i:=me.2.1.toNat) (fun y hy=>by
      obtain ⟨q,hq,rfl⟩:=List.mem_map.1 hy
      exact (za4 (hs.shelves q hq).spent _).1) (by rw [List.length_map]; have:=a.hi; omega)
    rw [jS za (by have:=a.hi; omega)] at h1
    exact h1
  have hw:wU (List.getD (qq (ix za s.2.1 me.2.1)) c.toNat (0:Int) + n) = List.getD (qq (ix za s.2.1 me.2.1)) c.toNat (0:Int) + n:=zkn (by have:=hbu.1; unfold M62 at *; omega)
  rw [ei,hw]
  have hH:∀ k,zH k = true→zK (upd (qU s me c n) me.2.1 (u8 (ix za (qU s me c n).2.1 me.2.1) (List.set (qq (ix za s.2.1 me.2.1)) c.toNat (List.getD (qq (ix za s.2.1 me.2.1)) c.toNat (0:Int) + n)))) k = zK s k - if k = c then n else 0:=fun k hk=>by
    have e1:=zhX (v:=zA s me.2.1 me.2.2.1 c - n) h4 a hc hk
    have e2:zK (upd (qU s me c n) me.2.1 (u8 (ix za (qU s me c n).2.1 me.2.1) (List.set (qq (ix za s.2.1 me.2.1)) c.toNat (List.getD (qq (ix za s.2.1 me.2.1)) c.toNat (0:Int) + n)))) k = zK (qU s me c n) k:=by
      unfold zK
      rw [zuL b.hi]
      exact congrArg (fun z=>zD (s.2.2.2.1.map (qT k)) + z) (Int.sub_add_cancel _ _)
    rw [e2,e1]
    by_cases e:k = c
    · simp only [if_pos e]; rw [e]; omega
    · simp only [if_neg e]; omega
  refine ⟨zeL.2 ⟨zrN b.hi ⟨rfl,rfl,rfl,rfl,rfl,rfl,rfl⟩ (zkv a p1),zuJ b.hi (zuK b.hi (zjt a p2)) (zjt a p2),fun k hk=>?_⟩,hH⟩
  have hkk:zH (k:Int) = true:=by simp only [zH,decide_eq_true_eq]; omega
  have h5:=(zfa hkk).1 (p3 k hk)
  refine (zfa hkk).2 ?_
  have eA:qQ yO (upd (qU s me c n) me.2.1 (u8 (ix za (qU s me c n).2.1 me.2.1) (List.set (qq (ix za s.2.1 me.2.1)) c.toNat (List.getD (qq (ix za s.2.1 me.2.1)) c.toNat (0:Int) + n)))) (k:Int) = qQ yO s (k:Int):=by
    rw [ziG b.hi]
    refine Eq.trans (Int.sub_add_cancel _ _) ?_
    exact zpi a (fun _ _=>rfl)
  have eB:qQ qq (upd (qU s me c n) me.2.1 (u8 (ix za (qU s me c n).2.1 me.2.1) (List.set (qq (ix za s.2.1 me.2.1)) c.toNat (List.getD (qq (ix za s.2.1 me.2.1)) c.toNat (0:Int) + n)))) (k:Int) = qQ qq s (k:Int) + if (k:Int) = c then n else 0:=by
    rw [ziG b.hi,zpi a (fun _ _=>rfl),ei]
    show qQ qq s k - jb k (qq (ix za s.2.1 me.2.1)) + jb k (List.set (qq (ix za s.2.1 me.2.1)) c.toNat (List.getD (qq (ix za s.2.1 me.2.1)) c.toNat (0:Int) + n)) = _
    rw [zrO (row:=qq (ix za s.2.1 me.2.1)) hc hkk f4.spent]
    by_cases e:(k:Int) = c
    · simp only [if_pos e]; rw [e]
      show _ - List.getD (qq (ix za s.2.1 me.2.1)) c.toNat (0:Int) + _ = _
      omega
    · simp only [if_neg e]; omega
  rw [hH _ hkk,eA,eB]
  by_cases e:(k:Int) = c
  · simp only [if_pos e]
    rw [e] at h5 ⊢
    omega
  · simp only [if_neg e]; omega
end Go.Proofs.YtokcjmkikhgkeaaGreatDoor
end
section
namespace Go.Proofs.YtokcjmkikhgkeaaGreatDoor
open Go.Ev
theorem zGu {β:Type} {d:β} {n i:Nat} (h:i < n) (o:List β):(o ++ [d]) ++ List.replicate (n - (i + 1)) d = o ++ List.replicate (n - i) d:=by
  rw [List.append_assoc,show n - i = (n - (i + 1)) + 1 by omega,List.replicate_succ]; rfl
theorem zGv {σ β ρ:Type} {B:(σ→Option ρ)→σ→Option ρ} {n:Nat} (hn:n ≤ Go.maxLen) (d:β) (st:Int→List β→σ) (fin:List β→Option ρ) (o0:List β)
    (hin:∀ k (i:Nat) o,i < n→o.length = o0.length + i→B k (st i o) = k (st (wI (i + 1)) (o ++ [d]))) (hout:∀ k o,B k (st n o) = fin o):zl B K0 (st 0 o0) = fin (o0 ++ List.replicate n d):=by
  have:=yR (B:=B) hn st (fun i o=>fin (o ++ List.replicate (n - i) d)) (fun i o=>o.length = o0.length + i) (fun k i o hi hI h=>?_) (fun k o hI=>?_) o0 rfl
  · simpa using this
  · rw [hin k i o hi hI,h _ (by rw [List.length_append,hI]; simp; omega),zGu hi]
  · rw [hout]; simp
abbrev zHN:ByteArray:=ByteArray.mk #[112,108,97,122,97]
def zaj (r:zf) (q:zad):zg:=(List.replicate q.1.toNat zr6,List.replicate q.2.1.toNat vE,List.replicate q.2.2.1.toNat zdb,List.replicate q.2.2.2.1.toNat zzt,List.replicate q.2.2.2.2.1.toNat qV,List.replicate r.2.2.1.length [0,0,0,0],List.replicate r.2.2.1.length zHV,[0,0,0,0],[0,0,0,0],())
def zxH (x:zg):zg:=(x.1.set 0 (true,zHN,()),x.2)
def zmM (r:zf) (g:qb):List Int:=(List.replicate r.2.2.1.length 0).set g.2.1.toNat 2
def zGw (r:zf):List zg:=(r.2.2.2.2.1.map (zaj r)).set 0 (zxH ((r.2.2.2.2.1.map (zaj r)).getD 0 za))
def zeM (r:zf):zd:=(0,zGw r,r.2.2.2.1.map (zmM r),List.replicate r.2.2.2.2.2.1.toNat qp,[],List.replicate r.2.1.length (-1),())
theorem zBF {q:zad} (h:zgO q = true):(0 ≤ q.1 ∧ q.1 ≤ 12) ∧ (0 ≤ q.2.1 ∧ q.2.1 ≤ 12) ∧ (0 ≤ q.2.2.1 ∧ q.2.2.1 ≤ 12) ∧ (0 ≤ q.2.2.2.1 ∧ q.2.2.2.1 ≤ 12) ∧ (0 ≤ q.2.2.2.2.1 ∧ q.2.2.2.2.1 ≤ 12):=by
  simp only [zgO,qf,Bool.and_eq_true,decide_eq_true_eq] at h
  omega
theorem zzk {r:zf} {q:zad} (hq:zgO q = true) (ha:r.2.2.1.length ≤ 8):zf2 (r,q,()) = some (zaj r q,()):=by
  simp only [zf2]
  have h:=zBF hq
  have hl:((lim:Nat):Int) = 4294967296:=rfl
  rw [hl]
  have t:∀ {p:Prop} [Decidable p],p→decide p = true:=fun h=>decide_eq_true h
  rw [t (p:=0 ≤ q.1) (by omega),t (p:=q.1 ≤ q.1) (by omega),t (p:=q.1 ≤ 4294967296) (by omega),
    t (p:=0 ≤ q.2.1) (by omega),t (p:=q.2.1 ≤ q.2.1) (by omega),t (p:=q.2.1 ≤ 4294967296) (by omega),
    t (p:=0 ≤ q.2.2.1) (by omega),t (p:=q.2.2.1 ≤ q.2.2.1) (by omega),t (p:=q.2.2.1 ≤ 4294967296) (by omega),
    t (p:=0 ≤ q.2.2.2.1) (by omega),t (p:=q.2.2.2.1 ≤ q.2.2.2.1) (by omega),t (p:=q.2.2.2.1 ≤ 4294967296) (by omega),
    t (p:=0 ≤ q.2.2.2.2.1) (by omega),t (p:=q.2.2.2.2.1 ≤ q.2.2.2.2.1) (by omega),t (p:=q.2.2.2.2.1 ≤ 4294967296) (by omega),
    t (p:=(r.2.2.1.length:Int) ≤ (r.2.2.1.length:Int)) (by omega),t (p:=(r.2.2.1.length:Int) ≤ 4294967296) (by omega),Int.toNat_natCast]
  rfl
theorem zwL {r:zf} (hb:qm r = true):∀ q ∈ r.2.2.2.2.1,zgO q = true:=by
  simp only [qm,ze7,Bool.and_eq_true] at hb
  exact zuA _ _ hb.2.2.2.2.1.2.2.2
theorem zHO {r:zf} (hb:qm r = true):1 ≤ (r.2.2.2.2.1.getD 0 qz).1:=by
  simp only [qm,ze7,Bool.and_eq_true,decide_eq_true_eq] at hb
  exact hb.2.2.2.2.1.2.2.1
theorem zEs {r:zf} (hr:qa r) (hb:qm r = true):zkk (r,()) = some (r.2.2.2.1.map (zmM r),()):=by
  have ok:=jl hb
  have ha:=ok.accounts
  have hg:=ok.guilds
  have hl:((lim:Nat):Int) = 4294967296:=rfl
  simp only [zkk,zkj,zdO r hr,Option.bind_some,hb,cond_true]
  exact zau (B:=zeD) (l:=r.2.2.2.1) (α:=List (List Int)) qR (fun i o=>o.length = i) (fun i o=>(r.2.2.2.1,(r.2.2.2.1.length:Int),i,r,o,o.length)) (fun rest o=>some (o ++ rest.map (zmM r),())) (by unfold Go.maxLen; omega) (fun k i x rest o hi hI hx hm hr' hk=>by
    have hh:=ok.heads i hi
    rw [show r.2.2.2.1.getD i qR = x from hx] at hh
    have hx':List.getD r.2.2.2.1 i (ze zaP) = x:=hx
    simp only [zeD]
    rw [ltT hi,zE hi,qu,hx,hl,decide_eq_true (Int.le_refl _),decide_eq_true (p:=(r.2.2.1.length:Int) ≤ 4294967296) (by omega),Int.toNat_natCast]
    simp only [cond_true]
    rw [ixR (by rw [List.length_replicate]; exact hh),zfR (by simp; omega)]
    simp only [cond_true,decide_true]
    have:=hk (o ++ [zmM r x]) (by rw [List.length_append,hI]; rfl)
    rw [List.length_append] at this
    refine Eq.trans this ?_
    simp) (fun k o hI=>by
    simp only [zeD]
    rw [ltF]
    simp) [] rfl
theorem zHP {r:zf} (ok:zgP r) (o:List zg) (l:List (List Int)) (w:List zn):zdM K0 ((r.2.1.length:Int),0,0,0,[],0,[],0,[],[],[],o,o.length,l,l.length,w,[],[]) = some ((0,o,l,w,[],List.replicate r.2.1.length (-1),()),0,()):=by
  have hl:=ok.lines
  have:=zGv (B:=zdL) (n:=r.2.1.length) (by unfold Go.maxLen; omega) (-1:Int) (fun i (e:List Int)=>((r.2.1.length:Int),i,0,0,[],0,[],0,[],[],[],o,o.length,l,l.length,w,[],e)) (fun e=>some ((0,o,l,w,[],e,()),0,())) [] (fun k i e hi hI=>by
    simp only [zdL]
    rw [ltT hi,zgv,zfR (by simp at hI ⊢; omega)]
    rfl) (fun k e=>by
    simp only [zdL]
    rw [ltF]
    simp only [decide_true]
    rfl)
  exact this
theorem zFK (q:zg):(q.1,q.2.1,q.2.2.1,q.2.2.2.1,q.2.2.2.2.1,q.2.2.2.2.2.1,q.2.2.2.2.2.2.1,q.2.2.2.2.2.2.2.1,q.2.2.2.2.2.2.2.2.1,()) = q:=rfl
theorem zCL {r:zf} (hr:qa r):zfP (r,()) = some (bif qm r then (zeM r,0,()) else ((0,[],[],[],[],[],()),1,())):=by
  simp only [zfP,ziY,zdO r hr,Option.bind_some]
  cases hb:qm r with
  | false=>rfl
  | true =>
    have ok:=jl hb
    have ha:=ok.accounts
    have hl:=ok.labels
    have hq:=ok.quotas
    have h24:0 ≤ r.2.2.2.2.2.1 ∧ r.2.2.2.2.2.1 ≤ 24:=by
      simp only [qm,zsa,qf,Bool.and_eq_true,decide_eq_true_eq] at hb
      omega
    have hlim:((lim:Nat):Int) = 4294967296:=rfl
    rw [zEs hr hb]
    simp only [Option.bind_some,cond_true]
    rw [hlim,decide_eq_true h24.1,decide_eq_true (Int.le_refl _),decide_eq_true (p:=r.2.2.2.2.2.1 ≤ 4294967296) (by omega)]
    simp only [cond_true]
    have hall:=zwL hb
    have hloop:=zau (B:=fun k0=>zbr (zdM K0) k0) (l:=r.2.2.2.2.1) (α:=List zg) qz (fun i o=>o.length = i)
      (fun i o=>(r.2.2.2.2.1,(r.2.2.2.2.1.length:Int),i,r,0,0,[],0,[],0,[],[],[],o,o.length,r.2.2.2.1.map (zmM r),(r.2.2.2.1.map (zmM r)).length,List.replicate r.2.2.2.2.2.1.toNat qp,[],[]))
      (fun rest o=>bif decide (0 < (o ++ rest.map (zaj r)).length) && decide (0 < ((o ++ rest.map (zaj r)).getD 0 za).1.length) then some ((0,(o ++ rest.map (zaj r)).set 0 (zxH ((o ++ rest.map (zaj r)).getD 0 za)),r.2.2.2.1.map (zmM r),List.replicate r.2.2.2.2.2.1.toNat qp,[],List.replicate r.2.1.length (-1),()),0,()) else none)
      (by unfold Go.maxLen; omega) (fun k i x rest o hi hI hx hm hr' hk=>by
        have hx':List.getD r.2.2.2.2.1 i (ze zcH) = x:=hx
        simp only [zbr]
        rw [ltT hi,zE hi,qu,hx,zzk (hall x hm) ha.2]
        simp only [Option.bind_some,cond_true]
        rw [zFK,zfR (by simp; omega)]
        simp only [cond_true,decide_true]
        have:=hk (o ++ [zaj r x]) (by rw [List.length_append,hI]; rfl)
        rw [List.length_append] at this
        refine Eq.trans this ?_
        rw [List.append_assoc]; rfl) (fun k o hI=>by
        have e0:o ++ List.map (zaj r) [] = o:=by simp
        rw [e0]
        simp only [zbr]
        rw [ltF,cond_false]
        by_cases h0:0 < o.length
        · have e1:decide (0 < ((List.length o:Nat):Int)) = true:=decide_eq_true (by omega)
          have e2:decide (o.length ≤ Int.toNat 0) = false:=decide_eq_false (by show ¬ o.length ≤ 0; omega)
          rw [e1,e2,decide_eq_true h0,zGe]
          simp only [cond_true,cond_false,Bool.true_and]
          by_cases h1:0 < (o.getD 0 za).1.length
          · have e3:decide (0 < ((List.length (o.getD 0 za).1:Nat):Int)) = true:=decide_eq_true (by omega)
            rw [e3,decide_eq_true h1]
            simp only [cond_true]
            have:=zHP (r:=r) ok (o.set 0 (zxH (o.getD 0 za))) (r.2.2.2.1.map (zmM r)) (List.replicate r.2.2.2.2.2.1.toNat qp)
            rw [List.length_set] at this
            exact this
          · have e3:decide (0 < ((List.length (o.getD 0 za).1:Nat):Int)) = false:=decide_eq_false (by omega)
            rw [e3,decide_eq_false h1]; rfl
        · have e1:decide (0 < ((List.length o:Nat):Int)) = false:=decide_eq_false (by omega)
          rw [e1,decide_eq_false h0]; rfl) [] rfl
    refine Eq.trans hloop ?_
    have hrm:=zHO hb
    have hpos:0 < r.2.2.2.2.1.length:=by omega
    have hget:(r.2.2.2.2.1.map (zaj r)).getD 0 za = zaj r (r.2.2.2.2.1.getD 0 qz):=by
      cases hl:r.2.2.2.2.1 with
      | nil=>rw [hl] at hpos; simp at hpos
      | cons q l=>rfl
    rw [List.nil_append,decide_eq_true (by rw [List.length_map]; exact hpos),decide_eq_true (p:=0 < ((r.2.2.2.2.1.map (zaj r)).getD 0 za).1.length) (by rw [hget]; show 0 < (List.replicate _ zr6).length; rw [List.length_replicate]; omega)]
    rfl
end Go.Proofs.YtokcjmkikhgkeaaGreatDoor
end
section
namespace Go.Proofs.YtokcjmkikhgkeaaGreatDoor
open Go.Ev
theorem zCM {a b:zg} (h:zwE a):vX (a,b,()) = some (ze9 a b,()):=by
  rw [zO]
  simp only [vX]
  rw [zAW h.rooms,zAX h.exits,zAY h.items,zAZ h.mails,zy4 h.trades,zD0 h.purses,zCu h.places]
  simp only [Option.bind_some,ze9]
  grind
theorem zsO {a b:List zg} (hl:a.length ≤ Go.maxLen) (h:∀ x ∈ a,zwE x):zds (a,b,some vX,()) = some (eqW ze9 a b,()):=zyd (p:=ze9) fun hab=>by
  have:=zBx (B:=j6) za ze9 (fun i=>(b,some vX,a,(a.length:Int),i)) hl hab (fun k i hi=>by
    simp only [j6]
    rw [ltT hi,zE hi,zE (by omega),qu,qu]
    simp only [cond_true,Option.bind_some]
    rw [zCM (h _ (z9 hi))]; rfl) (fin:=true) (fun k=>by simp only [j6]; rw [ltF]; rfl)
  rw [Bool.and_true] at this; exact this
theorem zuM {a b:List (List Int)} (hl:a.length ≤ Go.maxLen) (h:∀ x ∈ a,x.length ≤ Go.maxLen):zd7 (a,b,some zaG,()) = some (eqW (eqL tI) a b,()):=zyd (p:=eqL tI) fun hab=>by
  have:=zBx (B:=vo) ([]:List Int) (eqL tI) (fun i=>(b,some zaG,a,(a.length:Int),i)) hl hab (fun k i hi=>by
    simp only [vo]
    rw [ltT hi,zE hi,zE (by omega),Int.toNat_natCast]
    simp only [cond_true,Option.bind_some]
    rw [ztj (h _ (z9 hi))]; rfl) (fin:=true) (fun k=>by simp only [vo]; rw [ltF]; rfl)
  rw [Bool.and_true] at this; exact this
theorem zBG {a b:zd} (h:zHx a):zhA (a,b,()) = some (zwF a b,()):=by
  rw [zO]
  simp only [zhA]
  rw [zsO h.shelves h.shelf,zuM h.ranks h.rank,zy2 h.orders,zy3 h.entries,ztj h.seats]
  simp only [Option.bind_some,zwF]
  generalize eqW ze9 a.2.1 b.2.1 = c1
  generalize eqW (eqL tI) a.2.2.1 b.2.2.1 = c2
  generalize eqL zm a.2.2.2.1 b.2.2.2.1 = c3
  generalize eqL zr a.2.2.2.2.1 b.2.2.2.2.1 = c4
  generalize eqL tI a.2.2.2.2.2.1 b.2.2.2.2.2.1 = c5
  generalize (a.1 == b.1) = c6
  grind
def zkw {α:Type} (d:α) (p:Nat→Bool) (now fresh:List α) (i:Nat):α:=bif p i then now.getD i d else fresh.getD i d
def qC {α:Type} (d:α) (p:Nat→Bool) (now fresh:List α):List α:=(List.range now.length).map (zkw d p now fresh)
theorem zpj {α:Type} {f:Nat→α} {i:Nat} {o:List α} (h:o = (List.range i).map f):o ++ [f i] = (List.range (i + 1)).map f:=by
  rw [List.range_succ,List.map_append,h]; rfl
theorem zxI {now fresh:List zg} {g:Int × Unit→Option (Bool × Unit)} {p:Nat→Bool} (hl:now.length ≤ 1000) (hf:now.length ≤ fresh.length) (hg:∀ i:Nat,i < now.length→g ((i:Int),()) = some (p i,())):zd5 (now,fresh,some g,()) = some (qC za p now fresh,()) :=
  yR (α:=List zg) (B:=vm) (len:=now.length) (by unfold Go.maxLen; omega) (fun i o=>(now,fresh,some g,(now.length:Int),i,o,0)) (fun _ _=>some (qC za p now fresh,())) (fun i o=>o = (List.range i).map (zkw za p now fresh)) (fun k i o hi hI hk=>by
    have hx:=zpj hI
    have hlen:o.length = i:=by rw [hI]; simp
    have hk':=hk _ hx
    simp only [vm]
    rw [ltT hi]
    simp only [cond_true,Option.bind_some]
    rw [hg i hi]
    simp only [Option.bind_some]
    unfold zkw at hk'
    cases hp:p i with
    | true =>
      rw [hp] at hk'
      simp only [cond_true] at hk' ⊢
      rw [zE hi,zgv,zfR (by simp; omega),qu]
      exact hk'
    | false =>
      rw [hp] at hk'
      simp only [cond_false] at hk' ⊢
      rw [zE (by omega),zgv,zfR (by simp; omega),qu]
      exact hk') (fun k o hI=>by
    simp only [vm]
    rw [ltF]
    simp only [cond_false]
    rw [hI]; rfl) [] rfl
theorem zzl {now fresh:List (List Int)} {g:Int × Unit→Option (Bool × Unit)} {p:Nat→Bool} (hl:now.length ≤ 1000) (hf:now.length ≤ fresh.length) (hg:∀ i:Nat,i < now.length→g ((i:Int),()) = some (p i,())):zev (now,fresh,some g,()) = some (qC [] p now fresh,()) :=
  yR (α:=List (List Int)) (B:=vK) (len:=now.length) (by unfold Go.maxLen; omega) (fun i o=>(now,fresh,some g,(now.length:Int),i,o,0)) (fun _ _=>some (qC [] p now fresh,())) (fun i o=>o = (List.range i).map (zkw [] p now fresh)) (fun k i o hi hI hk=>by
    have hx:=zpj hI
    have hlen:o.length = i:=by rw [hI]; simp
    have hk':=hk _ hx
    simp only [vK]
    rw [ltT hi]
    simp only [cond_true,Option.bind_some]
    rw [hg i hi]
    simp only [Option.bind_some]
    unfold zkw at hk'
    cases hp:p i with
    | true =>
      rw [hp] at hk'
      simp only [cond_true] at hk' ⊢
      rw [zE hi,zgv,zfR (by simp; omega),Int.toNat_natCast]
      exact hk'
    | false =>
      rw [hp] at hk'
      simp only [cond_false] at hk' ⊢
      rw [zE (by omega),zgv,zfR (by simp; omega),Int.toNat_natCast]
      exact hk') (fun k o hI=>by
    simp only [vK]
    rw [ltF]
    simp only [cond_false]
    rw [hI]; rfl) [] rfl
theorem zBH {now fresh:List Int} {g:Int × Unit→Option (Bool × Unit)} {p:Nat→Bool} (hl:now.length ≤ 1000) (hf:now.length ≤ fresh.length) (hg:∀ i:Nat,i < now.length→g ((i:Int),()) = some (p i,())):zfl (now,fresh,some g,()) = some (qC 0 p now fresh,()) :=
  yR (α:=List Int) (B:=yi) (len:=now.length) (by unfold Go.maxLen; omega) (fun i o=>(now,fresh,some g,(now.length:Int),i,o)) (fun _ _=>some (qC 0 p now fresh,())) (fun i o=>o = (List.range i).map (zkw 0 p now fresh)) (fun k i o hi hI hk=>by
    have hx:=zpj hI
    have hlen:o.length = i:=by rw [hI]; simp
    have hk':=hk _ hx
    simp only [yi]
    rw [ltT hi]
    simp only [cond_true,Option.bind_some]
    rw [hg i hi]
    simp only [Option.bind_some]
    unfold zkw at hk'
    cases hp:p i with
    | true =>
      rw [hp] at hk'
      simp only [cond_true] at hk' ⊢
      rw [zE hi,zgv,zfR (by simp; omega),qu]
      exact hk'
    | false =>
      rw [hp] at hk'
      simp only [cond_false] at hk' ⊢
      rw [zE (by omega),zgv,zfR (by simp; omega),qu]
      exact hk') (fun k o hI=>by
    simp only [yi]
    rw [ltF]
    simp only [cond_false]
    rw [hI]; rfl) [] rfl
theorem zEt {α:Type} {d:α} {p:Nat→Bool} {now fresh:List α} {i:Nat} {x:α} (h:p i = false):qC d p (List.set now i x) fresh = qC d p now fresh:=by
  unfold qC
  rw [List.length_set]
  refine List.map_congr_left fun j hj=>?_
  unfold zkw
  by_cases e:i = j
  · subst e; rw [h]; rfl
  · rw [getD_set_ne e]
theorem zfb {α:Type} {d:α} {p:Nat→Bool} {now fresh:List α}:(qC d p now fresh).length = now.length:=by
  unfold qC; simp
end Go.Proofs.YtokcjmkikhgkeaaGreatDoor
end
section
namespace Go.Proofs.YtokcjmkikhgkeaaGreatDoor
open Go.Ev
theorem zGx {b:Int} (h:vT b = true):zdP (zo5 b):=by
  simp only [vT,Bool.and_eq_true,decide_eq_true_eq] at h
  have h1:b.toNat < 64:=by omega
  have h2:2 ^ b.toNat < 2 ^ 64:=Nat.pow_lt_pow_right (by omega) h1
  have h3:(2:Nat) ^ 64 = 18446744073709551616:=by decide
  show 0 ≤ ((2 ^ b.toNat:Nat):Int) ∧ ((2 ^ b.toNat:Nat):Int) < ((18446744073709551616:Nat):Int)
  rw [h3] at h2
  exact ⟨Int.natCast_nonneg _,Int.ofNat_lt.2 h2⟩
def zpk (b:Int):zz:=bif vT b then zo5 b else (0,0,())
theorem zEu (b:Int):zdP (zpk b):=by
  unfold zpk
  cases h:vT b with
  | true=>exact zGx h
  | false=>exact ⟨Int.le_refl 0,show (0:Int) < U64 by unfold U64; decide⟩
theorem zBI {r:zf} {a:zz} (hr:qa r) (ha:zdP a) {i:Nat} (hi:i < r.1.length):zbo ((i:Int),some r,some a,()) = some (y9 (r.1.getD i qy) a,()):=by
  rw [zO]
  simp only [zbo,Option.bind_some]
  rw [zE hi,qu,zfS (hr.labels _ (z9 hi)) ha]
  rfl
theorem zGy {r:zf} {a:zz} (ha:zdP a) {i:Nat} (hi:i < r.2.2.2.1.length):zf5 ((i:Int),some r,some a,()) = some (y9 (zpk (r.2.2.2.1.getD i qR).1) a,()):=by
  rw [zO]
  simp only [zf5,Option.bind_some]
  rw [zE hi,qu,zrH]
  simp only [Option.bind_some]
  have e:(bif vT (r.2.2.2.1.getD i qR).1 then (zo5 (r.2.2.2.1.getD i qR).1,(0:Int),()) else ((0,0,()),1,())).1 = zpk (r.2.2.2.1.getD i qR).1:=by
    unfold zpk
    cases vT (r.2.2.2.1.getD i qR).1 <;> rfl
  rw [e,zfS (zEu _) ha]
  rfl
def zlK (r:zf) (i:Nat):Int:=r.2.1.getD i 0
theorem zG7 {r:zf} (hb:qm r = true) {i:Nat} (hi:i < r.2.1.length):0 ≤ zlK r i ∧ zlK r i < (r.1.length:Int):=by
  simp only [qm,zly,Bool.and_eq_true,decide_eq_true_eq,List.all_eq_true] at hb
  exact hb.2.1.2 _ (z9 (d:=(0:Int)) hi)
theorem zGz {r:zf} {a:zz} (hr:qa r) (hb:qm r = true) (ha:zdP a) {i:Nat} (hi:i < r.2.1.length):zf3 ((i:Int),some (some fun z=>zbo (z.1,some r,some a,())),some r,()) = some (y9 (r.1.getD (zlK r i).toNat qy) a,()):=by
  have hl:=zG7 hb hi
  rw [zO]
  simp only [zf3,Option.bind_some]
  rw [zE hi,qu]
  have e:r.2.1.getD i 0 = (((zlK r i).toNat:Nat):Int):=by
    show zlK r i = _
    omega
  rw [e,zBI hr ha (by omega)]
  rfl
def zi2 (r:zf) (a:zz) (s:zd):zd:=(s.1,qC za (fun i=>y9 (r.1.getD i qy) a) s.2.1 (zeM r).2.1,qC [] (fun i=>y9 (zpk (r.2.2.2.1.getD i qR).1) a) s.2.2.1 (zeM r).2.2.1,s.2.2.2.1,s.2.2.2.2.1,qC 0 (fun i=>y9 (r.1.getD (zlK r i).toNat qy) a) s.2.2.2.2.2.1 (zeM r).2.2.2.2.2.1,())
theorem zkx {α:Type} {d:α} {p:Nat→Bool} {now fresh:List α} (hf:now.length ≤ fresh.length) {x:α} (h:x ∈ qC d p now fresh):x ∈ now ∨ x ∈ fresh:=by
  unfold qC at h
  obtain ⟨i,hi,rfl⟩:=List.mem_map.1 h
  have hi':=List.mem_range.1 hi
  unfold zkw
  cases p i with
  | true=>exact .inl (z9 hi')
  | false=>exact .inr (z9 (by omega))
theorem zBJ {r:zf} (hb:qm r = true):zjP (zeM r):=by
  have ok:=jl hb
  have ha:=ok.accounts
  have hg:=ok.guilds
  have hl:=ok.lines
  have ho:=ok.labels
  have hq:=ok.quotas
  have h24:0 ≤ r.2.2.2.2.2.1 ∧ r.2.2.2.2.2.1 ≤ 24:=by
    simp only [qm,zsa,qf,Bool.and_eq_true,decide_eq_true_eq] at hb
    omega
  have hsh:∀ q ∈ r.2.2.2.2.1,zwG (zaj r q):=fun q hq=>by
    have h:=zBF (zwL hb q hq)
    refine ⟨?_,?_,?_,?_,?_,?_,?_⟩ <;> (show (List.replicate _ _).length ≤ _; rw [List.length_replicate]; omega)
  refine ⟨by show (List.set _ _ _).length ≤ _; rw [List.length_set,List.length_map]; omega,by show (List.map _ _).length ≤ _; rw [List.length_map]; omega,by show (List.replicate _ _).length ≤ _; rw [List.length_replicate]; omega,Nat.zero_le _,by show (List.replicate _ _).length ≤ _; rw [List.length_replicate]; omega,fun x hx=>?_,fun l hl=>?_⟩
  · rcases List.mem_or_eq_of_mem_set hx with hx | rfl
    · obtain ⟨q,hq,rfl⟩:=List.mem_map.1 hx
      exact hsh q hq
    · have h0:zwG ((r.2.2.2.2.1.map (zaj r)).getD 0 za):=by
        have hm:(r.2.2.2.2.1.map (zaj r)).getD 0 za ∈ r.2.2.2.2.1.map (zaj r):=z9 (by rw [List.length_map]; omega)
        obtain ⟨q,hq,e⟩:=List.mem_map.1 hm
        rw [← e]; exact hsh q hq
      exact ⟨by show (List.set _ _ _).length ≤ _; rw [List.length_set]; exact h0.rooms,h0.exits,h0.items,h0.mails,h0.trades,h0.purses,h0.places⟩
  · obtain ⟨g,hg,rfl⟩:=List.mem_map.1 hl
    show (List.set _ _ _).length ≤ _
    rw [List.length_set,List.length_replicate]; omega
theorem ztq {r:zf} {s:zd} {a:zz} (hr:qa r) (h:qg r s = true) (ha:zdP a) (la:ze6 a = true):zfQ (r,s,a,()) = some (zi2 r a s,0,()):=by
  obtain ⟨hb,hz,hp⟩:=ji h
  have ok:=jl hb
  have sz:=zb9 hb hz
  have hf:=zkH h
  have hn:=zBJ hb
  have h1:=sz.shelves
  have h2:s.2.2.1.length = r.2.2.2.1.length:=by
    have hh:zhP r s.2.2.1 = true:=by simp only [zc2,Bool.and_eq_true] at hp; exact hp.1
    exact (zuD hh).1
  have h3:=sz.people
  have hlab:=ok.labels
  have hgui:=ok.guilds
  have hlin:=ok.lines
  have hq:=ok.quotas
  have f1:(zeM r).2.1.length = r.1.length:=by show (List.set _ _ _).length = _; rw [List.length_set,List.length_map]; exact hq
  have f2:(zeM r).2.2.1.length = r.2.2.2.1.length:=List.length_map ..
  have f3:(zeM r).2.2.2.2.2.1.length = r.2.1.length:=List.length_replicate ..
  have hfit:ziP (r,s,()) = some (true,()):=by
    simp only [ziP]
    rw [h1,h2,h3]
    simp
  have hv:zjP (zi2 r a s):=by
    refine ⟨?_,?_,hf.orders,hf.entries,?_,fun x hx=>?_,fun l hl=>?_⟩
    · show (qC _ _ _ _).length ≤ _; rw [zfb]; exact hf.shelves
    · show (qC _ _ _ _).length ≤ _; rw [zfb]; exact hf.ranks
    · show (qC _ _ _ _).length ≤ _; rw [zfb]; exact hf.seats
    · rcases zkx (by omega) hx with hx | hx
      · exact hf.shelf x hx
      · exact hn.shelf x hx
    · rcases zkx (by omega) hl with hl | hl
      · exact hf.rank l hl
      · exact hn.rank l hl
  simp only [zfQ]
  refine (bnd (zCL hr)).trans ?_
  rw [hb]
  refine (cF rfl).trans ?_
  refine (bnd (zjL a)).trans ?_
  refine (cT la).trans ?_
  refine (bnd hfit).trans ?_
  refine (cT rfl).trans ?_
  refine (bnd (zxI (by omega) (by show s.2.1.length ≤ (zeM r).2.1.length; omega) fun i hi=>zBI hr ha (by omega))).trans ?_
  refine (bnd (zzl (by omega) (by show s.2.2.1.length ≤ (zeM r).2.2.1.length; omega) fun i hi=>zGy ha (by omega))).trans ?_
  refine (bnd (zBH (by omega) (by show s.2.2.2.2.2.1.length ≤ (zeM r).2.2.2.2.2.1.length; omega) fun i hi=>zGz hr hb ha (by omega))).trans ?_
  refine (bnd (jF hv)).trans ?_
  rfl
theorem zCN {r:zf} {s t:zd} {a:zz} (hr:qa r) (h:qg r s = true) (h':qg r t = true) (ha:zdP a) (la:ze6 a = true) (hf:zjP (zi2 r a s)):ziZ (r,s,t,a,()) = some (zwF (zi2 r a s) (zi2 r a t),()):=by
  rw [zO]
  simp only [ziZ]
  refine (bnd (ztq hr h ha la)).trans ?_
  refine (bnd (ztq hr h' ha la)).trans ?_
  refine (cT rfl).trans ?_
  refine (cT rfl).trans ?_
  refine (bnd (zBG (zFF hf))).trans ?_
  rfl
end Go.Proofs.YtokcjmkikhgkeaaGreatDoor
end
section
namespace Go.Proofs.YtokcjmkikhgkeaaGreatDoor
open Go.Ev
theorem zHE {r:zf} {s:zd} (hr:qa r) (hs:zR s) (hq:zfV r) {me:pMe} {c n:Int} (hn:z7 n):j9 (r,s,me,c,n,()) = some (bif za7 r s me c n then zpc r s me c n else za6 1):=by
  cases h:za7 r s me c n with
  | true =>
    have:=zHC hr hs (zkH (zdX h).rs) hq (me:=me) (c:=c) hn
    rw [h] at this; exact this
  | false =>
    simp only [j9]
    refine (bnd (zaD hr hs me c n)).trans ?_
    rw [h]; rfl
theorem zHF {r:zf} {s:zd} (hr:qa r) (hs:zR s) {me:pMe} {c n:Int} (hn:z7 n):vP (r,s,me,c,n,()) = some (bif za7 r s me c n then zpd s me c n else za6 1):=by
  cases h:za7 r s me c n with
  | true =>
    have:=zHA hr hs (zkH (zdX h).rs) (me:=me) (c:=c) hn
    rw [h] at this; exact this
  | false =>
    simp only [vP]
    refine (bnd (zaD hr hs me c n)).trans ?_
    rw [h]; rfl
theorem zHQ {r:zf} {s:zd} (hr:qa r) (hs:zR s) {me:pMe} {w c n:Int} (hn:z7 n):yC (r,s,me,w,c,n,()) = some (bif za7 r s me c n then (bif jJ r w && w != me.2.2.1 then znj s me me.2.1 w c n else za6 1) else za6 1):=by
  cases h:za7 r s me c n with
  | true =>
    have:=zHM hr hs (zkH (zdX h).rs) (me:=me) (w:=w) (c:=c) hn
    rw [h] at this; exact this
  | false =>
    simp only [yC]
    refine (bnd (zaD hr hs me c n)).trans ?_
    rw [h]; rfl
theorem zH1 {r:zf} {s:zd} (hr:qa r) (hs:zR s) (hq:zfV r) {me:pMe} {x:jR} (hn:z7 x.2.2.2.2.1):zkl (r,s,me,x,()) = some (zuI r s me (zlJ x.1) x.2.1 x.2.2.1 x.2.2.2.1 x.2.2.2.2.1):=by
  simp only [zkl]
  rw [zHE hr hs hq hn,zHF hr hs hn,zHQ hr hs hn,zHD hr hs hn]
  simp only [Option.bind_some]
  unfold zuI zlJ
  by_cases h1:x.1 = 1
  · rw [h1]; rfl
  · by_cases h2:x.1 = 2
    · rw [h2]; rfl
    · by_cases h3:x.1 = 3
      · rw [h3]; rfl
      · rw [beq_eq_false_iff_ne.2 h1,beq_eq_false_iff_ne.2 h2,beq_eq_false_iff_ne.2 h3]
        by_cases h4:x.1 < 1
        · rw [decide_eq_true h4]; rfl
        · rw [decide_eq_false h4,decide_eq_true (p:=x.1 > 3) (by omega)]; rfl
theorem zEv {a b c:zz} (h1:y9 a b = true) (h2:y9 b c = true):y9 a c = true:=by
  simp only [y9,Bool.and_eq_true,decide_eq_true_eq,List.all_eq_true,Bool.or_eq_true,Bool.not_eq_true'] at h1 h2 ⊢
  refine ⟨by omega,fun i hi=>?_⟩
  rcases h1.2 i hi with h | h
  · exact .inl h
  · rcases h2.2 i hi with h' | h'
    · rw [h] at h'; cases h'
    · exact .inr h'
theorem ziH {r:zf} {s:zd} {a:zz} {i:Int} {h:zg} (hi:y9 (r.1.getD i.toNat qy) a = false):zi2 r a (upd s i h) = zi2 r a s:=by
  have e:qC za (fun i=>y9 (r.1.getD i qy) a) (List.set s.2.1 i.toNat h) (zeM r).2.1 = qC za (fun i=>y9 (r.1.getD i qy) a) s.2.1 (zeM r).2.1:=zEt hi
  exact congrArg (fun l=>(s.1,l,qC [] (fun i=>y9 (zpk (r.2.2.2.1.getD i qR).1) a) s.2.2.1 (zeM r).2.2.1,s.2.2.2.1,s.2.2.2.2.1,qC 0 (fun i=>y9 (r.1.getD (zlK r i).toNat qy) a) s.2.2.2.2.2.1 (zeM r).2.2.2.2.2.1,())) e
end Go.Proofs.YtokcjmkikhgkeaaGreatDoor
end
section
namespace Go.Proofs.YtokcjmkikhgkeaaGreatDoor
open Go.Ev
structure zHG (r:zf) (s:zd) (me:pMe) (d:Int→Int) (t:zd):Prop where
  right:qg r t = true
  inn:zR t
  held:∀ k,zH k = true→zK t k = zK s k + d k
  view:∀ a,y9 (r.1.getD me.2.1.toNat qy) a = false→zi2 r a t = zi2 r a s
def zBK (r:zf) (s:zd) (me:pMe) (d:Int→Int) (v:zd × Int × Unit):Prop:=(∃ e,(e != 0) = true ∧ v = za6 e) ∨ (v.2.1 = 0 ∧ zHG r s me d v.1)
theorem zBL {r:zf} {s:zd} (hs:zR s) (h4:zdB s) {me:pMe} {i w c n:Int} (x:Ctx r s me c n) (hn:z7 n) (hi:vw r i = true) (hw:jJ r w = true) (hne:¬ (me.2.1 = i ∧ me.2.2.1 = w)) (hv:∀ a,y9 (r.1.getD me.2.1.toNat qy) a = false→y9 (r.1.getD i.toNat qy) a = false):zBK r s me (fun _=>0) (znj s me i w c n):=by
  have a:=zi0 x.rs x.im
  have b0:At s i w:=zzy x.rs hi hw
  unfold znj
  cases hlt:decide (zA s me.2.1 me.2.2.1 c < n) with
  | true=>exact .inl ⟨6,rfl,rfl⟩
  | false =>
    have hge:=of_decide_eq_false hlt
    obtain ⟨e0,h0,hle⟩:=zGq hs x hn b0 hne hge
    have hco:=zkG x.rs hs x.hc a
    have pos:=x.pos
    have b:At (qU s me c n) i w:=ziF a.hi b0
    refine .inr ⟨rfl,zFH x.rs h4 a b0 hne x.hc,zsk (zsk hs a (zof (by omega) (by omega))) b (by rw [e0]; exact zof (by omega) hle),fun k hk=>?_,fun l hl=>?_⟩
    · have e0':zA (vx s me.2.1 me.2.2.1 c (zA s me.2.1 me.2.2.1 c - n)) i w c = zA s i w c:=e0
      refine (zhX (zwK h4 a) b x.hc hk).trans ?_
      rw [zhX h4 a x.hc hk]
      by_cases e:k = c
      · simp only [if_pos e]; rw [e]; omega
      · simp only [if_neg e]; omega
    · exact (ziH (hv l hl)).trans (ziH hl)
theorem zFL {r:zf} {s:zd} (hs:zR s) (h4:zdB s) (hq:zfV r) {me:pMe} {c n:Int} (x:Ctx r s me c n) (hn:z7 n):zBK r s me (fun k=>if k = c then n else 0) (zpc r s me c n):=by
  have a:=zi0 x.rs x.im
  unfold zpc
  cases (ix zda r.2.2.1 me.2.2.1).2.2.2.1 with
  | false=>exact .inl ⟨5,rfl,rfl⟩
  | true =>
    cases hlt:decide (jD s me.2.1 c + n ≤ zaw r me.2.1) with
    | false=>exact .inl ⟨8,rfl,rfl⟩
    | true =>
      have hle:=of_decide_eq_true hlt
      obtain ⟨h1,h2⟩:=zEq x.rs hs h4 hq x.im x.hc x.pos hle
      have hgo:=zrL x.rs hs hq x.hc a hle
      have hco:=zkG x.rs hs x.hc a
      have pos:=x.pos
      have hm:=zC6 hs a.hi c
      have hsh:=hs.shelves _ (qX a.hi)
      have b:At (yZ s me c n) me.2.1 me.2.2.1:=zwJ a.hi rfl a
      have e:zA (yZ s me c n) me.2.1 me.2.2.1 c = zA s me.2.1 me.2.2.1 c:=by
        show List.getD (List.getD (ix za (upd s me.2.1 _).2.1 me.2.1).2.2.2.2.2.1 _ _) _ _ = _
        rw [zoe a.hi]
      have hin:zR (yZ s me c n):=zFI hs ⟨hsh.trades,hsh.purses,zyh hsh.made (zof (by have:=hm.1; omega) (by omega)),hsh.spent⟩
      exact .inr ⟨rfl,h1,zsk hin b (by rw [e]; exact zof (by omega) hgo.1),h2,fun l hl=>(ziH hl).trans (ziH hl)⟩
theorem zFM {r:zf} {s:zd} (hs:zR s) (h4:zdB s) {me:pMe} {c n:Int} (x:Ctx r s me c n) (hn:z7 n):zBK r s me (fun k=>- if k = c then n else 0) (zpd s me c n):=by
  have a:=zi0 x.rs x.im
  unfold zpd
  cases hlt:decide (zA s me.2.1 me.2.2.1 c < n) with
  | true=>exact .inl ⟨6,rfl,rfl⟩
  | false =>
    have hge:=of_decide_eq_false hlt
    have hco:=zkG x.rs hs x.hc a
    have pos:=x.pos
    obtain ⟨h1,h2⟩:=zEr x.rs hs h4 x.im x.hc x.pos hge
    have b:At (qU s me c n) me.2.1 me.2.2.1:=ziF a.hi a
    have hin:zR (qU s me c n):=zsk hs a (zof (by omega) (by omega))
    have hsh:=hin.shelves _ (qX b.hi)
    have hw:∀ z:Int,z7 (wU z):=fun z=>⟨Int.emod_nonneg _ (by decide),Int.emod_lt_of_pos _ (by decide)⟩
    exact .inr ⟨rfl,h1,zFI hin ⟨hsh.trades,hsh.purses,hsh.made,zyh hsh.spent (hw _)⟩,fun k hk=>(h2 k hk).trans (Int.sub_eq_add_neg ..),fun l hl=>(ziH hl).trans (ziH hl)⟩
end Go.Proofs.YtokcjmkikhgkeaaGreatDoor
end
section
namespace Go.Proofs.YtokcjmkikhgkeaaGreatDoor
open Go.Ev
def zzA (kd c n k:Int):Int:=bif kd == 1 then (if k = c then n else 0) else bif kd == 2 then (- if k = c then n else 0) else 0
theorem zGA {r:zf} {s:zd} (hs:zR s) (h4:zdB s) (hq:zfV r) {me:pMe} {k i w c n:Int} (hm:za7 r s me c n = true) (hn:z7 n):zBK r s me (zzA k c n) (zuI r s me k i w c n):=by
  have x:=zdX hm
  have ml:=zwI (ji x.rs).1 x.im
  unfold zuI
  rw [hm]
  unfold zzA
  cases k == 1 with
  | true=>exact zFL hs h4 hq x hn
  | false =>
    cases k == 2 with
    | true=>exact zFM hs h4 x hn
    | false =>
      cases k == 3 with
      | true =>
        cases hb:jJ r w && w != me.2.2.1 with
        | false=>exact .inl ⟨1,rfl,rfl⟩
        | true =>
          simp only [Bool.and_eq_true] at hb
          exact zBL hs h4 x hn ml hb.1 (fun e=>(bne_iff_ne.1 hb.2) e.2.symm) (fun _ h=>h)
      | false =>
        cases hb:jJ r w && vw r i with
        | false=>exact .inl ⟨1,rfl,rfl⟩
        | true =>
          simp only [Bool.and_eq_true] at hb
          show zBK r s me _ (zpe r s me i w c n)
          unfold zpe
          cases hl:(i != me.2.1) && zng r me.2.1 i with
          | false=>exact .inl ⟨5,rfl,rfl⟩
          | true =>
            simp only [Bool.and_eq_true] at hl
            have hle:y9 (r.1.getD me.2.1.toNat qy) (r.1.getD i.toNat qy) = true:=by
              have:=hl.2
              simp only [zng,Bool.and_eq_true] at this
              exact this.2.2
            refine zBL hs h4 x hn hb.2 hb.1 (fun e=>(bne_iff_ne.1 hl.1) e.1.symm) (fun a h=>?_)
            cases h':y9 (r.1.getD i.toNat qy) a with
            | false=>rfl
            | true=>rw [zEv hle h'] at h; cases h
theorem zDa {r:zf} {s:zd} (h:qg r s = true) (hs:zR s) {c:Int} (hc:zH c = true):zcb s c = (zK s c,0,()) ∧ 0 ≤ zK s c ∧ zK s c ≤ M62:=by
  obtain ⟨k,rfl,hk⟩:=zuG hc
  have h1:=(zfa hc).1 ((zeL.1 h).2.2 k hk)
  have h2:=zhW hs (k:Int)
  have h3:0 ≤ zD (s.2.1.map (zL (k:Int))):=yM fun y hy=>zdQ (hs.shelves y hy) _
  refine ⟨?_,by unfold zK; omega,h1.1⟩
  unfold zcb
  rw [hc]
  exact zdW (n:=zK s (k:Int)) h1.1
theorem zBM {r:zf} {s:zd} (h:qg r s = true):zwC s:=by
  obtain ⟨hb,hz,-⟩:=ji h
  exact zFB (jl hb) (zb9 hb hz)
theorem zFN {r:zf} {s:zd} {a:zz} (h:qg r s = true):zjP (zi2 r a s):=by
  obtain ⟨hb,hz,hp⟩:=ji h
  have ok:=jl hb
  have sz:=zb9 hb hz
  have hf:=zkH h
  have hn:=zBJ hb
  have h1:=sz.shelves
  have h2:s.2.2.1.length = r.2.2.2.1.length:=by
    have hh:zhP r s.2.2.1 = true:=by simp only [zc2,Bool.and_eq_true] at hp; exact hp.1
    exact (zuD hh).1
  have hq:=ok.quotas
  have f1:(zeM r).2.1.length = r.1.length:=by show (List.set _ _ _).length = _; rw [List.length_set,List.length_map]; exact hq
  have f2:(zeM r).2.2.1.length = r.2.2.2.1.length:=List.length_map ..
  refine ⟨?_,?_,hf.orders,hf.entries,?_,fun x hx=>?_,fun l hl=>?_⟩
  · show (qC _ _ _ _).length ≤ _; rw [zfb]; exact hf.shelves
  · show (qC _ _ _ _).length ≤ _; rw [zfb]; exact hf.ranks
  · show (qC _ _ _ _).length ≤ _; rw [zfb]; exact hf.seats
  · rcases zkx (by omega) hx with hx | hx
    · exact hf.shelf x hx
    · exact hn.shelf x hx
  · rcases zkx (by omega) hl with hl | hl
    · exact hf.rank l hl
    · exact hn.rank l hl
end Go.Proofs.YtokcjmkikhgkeaaGreatDoor
end
section
namespace Go.Proofs.YtokcjmkikhgkeaaGreatDoor
open Go.Ev
theorem zEw {a b:Int} (h:a = b):(a != b) = false:=by rw [h]; simp
theorem x_MoneyRests {r:zf} {s:zd} {a:zz} (hr:qa r) (hs:zR s) (h4:zdB s) (hq:zfV r) (ha:zdP a) {me:pMe} {x:jR} (hn:z7 x.2.2.2.2.1):P_law30_MoneyRests (r,s,me,x,a,()) = some (true,()):=by
  simp only [P_law30_MoneyRests,zb7]
  refine (bnd (zH1 hr hs hq hn)).trans ?_
  cases hm:za7 r s me x.2.2.2.1 x.2.2.2.2.1 with
  | false =>
    have e:zuI r s me (zlJ x.1) x.2.1 x.2.2.1 x.2.2.2.1 x.2.2.2.2.1 = za6 1:=by unfold zuI; rw [hm]; rfl
    rw [e]
    refine (cT rfl).trans ?_
    rw [zjs,zhV hr hs]
    cases qg r s && zdA r me <;> rfl
  | true =>
    have ctx:=zdX hm
    obtain ⟨rs,im,hc,pos⟩:=ctx
    rcases zGA hs h4 hq (k:=zlJ x.1) (i:=x.2.1) (w:=x.2.2.1) hm hn with ⟨e,he,hv⟩ | ⟨h0,hrest⟩
    · rw [hv]
      refine (cT he).trans ?_
      rw [zjs,zhV hr hs,rs,im]; rfl
    · generalize zuI r s me (zlJ x.1) x.2.1 x.2.2.1 x.2.2.2.1 x.2.2.2.2.1 = v at *
      obtain ⟨t,e,⟨⟩⟩:=v
      simp only at h0
      subst h0
      obtain ⟨rt,it,hd,hvw⟩:=(show zHG r s me (zzA (zlJ x.1) x.2.2.2.1 x.2.2.2.2.1) t from hrest)
      refine (cF rfl).trans ?_
      refine (bnd (zp4 hr it)).trans ?_
      refine (cT rt).trans ?_
      have := vD (B:=fun k0=>vS k0) (i0:=0) (n:=4) (by unfold Go.maxLen; omega) (Nat.zero_le _) (p:=fun _=>true) (fin:=some (true,())) (bad:=none) (fun i=>(i,r,s,me,x,a,t)) (fun k i _ hi=>by
        have hk:zH (i:Int) = true:=by simp only [zH,decide_eq_true_eq]; omega
        obtain ⟨e1,e2,e3⟩:=zDa rs hs hk
        obtain ⟨f1,f2,f3⟩:=zDa rt it hk
        have hdi:=hd _ hk
        simp only [vS]
        rw [decide_eq_true (p:=(i:Int) < 4) (by omega),zlH hs (zBM rs),zlH it (zBM rt),e1,f1]
        simp only [Option.bind_some,cond_true,bne_self_eq_false,cond_false]
        unfold M62 at e3 f3
        unfold z7 U64 at hn
        unfold zzA zlJ at hdi
        by_cases c1:(i:Int) = x.2.2.2.1
        · rw [beq_iff_eq.2 c1]
          by_cases k1:x.1 = 1
          · have hw:wU (zK s (i:Int) + x.2.2.2.2.1) = zK t (i:Int):=by
              rw [k1] at hdi
              have:zK t (i:Int) = zK s (i:Int) + x.2.2.2.2.1:=by
                have h9:zK t (i:Int) = zK s (i:Int) + if (i:Int) = x.2.2.2.1 then x.2.2.2.2.1 else 0:=hdi
                simp only [if_pos c1] at h9; exact h9
              rw [← this]; exact zkn (by omega)
            rw [k1]
            exact cF (zEw hw)
          · rw [beq_eq_false_iff_ne.2 k1]
            by_cases k2:x.1 = 2
            · have hw:wU (zK t (i:Int) + x.2.2.2.2.1) = zK s (i:Int):=by
                rw [k2] at hdi
                have:zK t (i:Int) + x.2.2.2.2.1 = zK s (i:Int):=by
                  have h9:zK t (i:Int) = zK s (i:Int) + - if (i:Int) = x.2.2.2.1 then x.2.2.2.2.1 else 0:=hdi
                  simp only [if_pos c1] at h9; omega
                rw [this]; exact zkn (by omega)
              rw [k2]
              exact cF (zEw hw.symm)
            · rw [beq_eq_false_iff_ne.2 k2]
              refine cF (zEw ?_)
              have:zK t (i:Int) = zK s (i:Int) + 0:=by
                rw [hdi]
                by_cases k0:x.1 < 1
                · rw [decide_eq_true k0]; rfl
                · rw [decide_eq_false k0]
                  by_cases k3:x.1 > 3
                  · rw [decide_eq_true k3]; rfl
                  · have:x.1 = 3:=by omega
                    rw [this]; rfl
              omega
        · rw [beq_eq_false_iff_ne.2 c1]
          refine cF (zEw ?_)
          simp only [if_neg c1] at hdi
          rw [hdi]
          cases (bif decide (x.1 < 1) then (4:Int) else bif decide (x.1 > 3) then 4 else x.1) == 1 <;> cases (bif decide (x.1 < 1) then (4:Int) else bif decide (x.1 > 3) then 4 else x.1) == 2 <;> simp) (fun k=>by
        have ml:=zwI (ji rs).1 im
        have ml':=ml
        simp only [vw,decide_eq_true_eq] at ml'
        simp only [vS]
        refine (cF rfl).trans ?_
        refine (ixR ml').trans ?_
        refine (bnd (zfS (zrJ hr _ ml) ha)).trans ?_
        cases hl:y9 (r.1.getD me.2.1.toNat qy) a with
        | true=>rw [zjs]; rfl
        | false =>
          refine (cF rfl).trans ?_
          refine (bnd (zjL a)).trans ?_
          cases la:ze6 a with
          | false=>rw [zjs]; rfl
          | true =>
            refine (cT rfl).trans ?_
            rw [zjs,zCN hr rs rt ha la (zFN rs),hvw a hl,zEk]; rfl)
      refine Eq.trans this ?_
      have ht:qj (fun _=>true) 0 (4 - 0) = true:=jQ.2 fun _ _ _=>rfl
      rw [ht]; rfl
end Go.Proofs.YtokcjmkikhgkeaaGreatDoor
end
section
namespace Go.Proofs.YtokcjmkikhgkeaaGreatDoor.fnMoneyRests
open Go.ChangeShapes Go.WideShapes Go.ChangeAt Go.RowKit Go.Ev
theorem own:ownKnob Tryz.prog.godebug = none:=by kernel_rfl
def zFO:List Int→List Value:=List.map (Value.int .u8)
theorem zHR:∀ f add,Ev.look ext f = some add→ExtOk Tryz.prog f add:=by
  intro f add h
  have h':(Nat.beq 223 f = true ∧ add = false) ∨ (Nat.beq 215 f = true ∧ add = true):=by
    simp only [ext,Ev.look] at h
    cases h1:Nat.beq 215 f with
    | true=>rw [h1] at h; exact .inr ⟨rfl,(Option.some.inj h).symm⟩
    | false =>
      rw [h1] at h
      cases h2:Nat.beq 223 f with
      | true=>rw [h2] at h; exact .inl ⟨rfl,(Option.some.inj h).symm⟩
      | false=>rw [h2] at h; cases h
  rcases h' with ⟨h1,rfl⟩ | ⟨h1,rfl⟩
  · obtain rfl:=Nat.eq_of_beq_eq_true h1
    intro x y w hx hy hy2
    obtain ⟨m,rfl⟩:=Int.eq_ofNat_of_zero_le hx
    obtain ⟨n,rfl⟩:=Int.eq_ofNat_of_zero_le hy
    rw [run_callFunc_extern (P:=Tryz.prog) (f:=223) Tryz.func223 (by kernel_rfl) (by kernel_rfl) (by kernel_rfl) (e:=sub64Entry) (by kernel_rfl)]
    have h0:(sub64Entry #[.int .u64 (m:Int),.int .u64 (n:Int),.int .u64 0]).run Tryz.prog w = .ok (.tuple #[.int .u64 (((m + 18446744073709551616 - n - 0) % 18446744073709551616:Nat):Int),.int .u64 ((if m < n + 0 then 1 else 0:Nat):Int)]) w:=run_sub64 m n 0 (by omega) w
    have e1:extA false (m:Int) (n:Int) = (((m + 18446744073709551616 - n - 0) % 18446744073709551616:Nat):Int):=by
      show ((m:Int) - (n:Int)) % 18446744073709551616 = _
      omega
    have e2:extB false (m:Int) (n:Int) = ((if m < n + 0 then 1 else 0:Nat):Int):=by
      show cond (decide ((m:Int) < (n:Int))) 1 0 = _
      by_cases h:m < n
      · rw [decide_eq_true (by omega),if_pos (by omega)]; rfl
      · rw [decide_eq_false (by omega),if_neg (by omega)]; rfl
    rw [h0,e1,e2]
    rfl
  · obtain rfl:=Nat.eq_of_beq_eq_true h1
    intro x y w hx hy hy2
    rw [run_callFunc_extern (P:=Tryz.prog) (f:=215) Tryz.func215 (by kernel_rfl) (by kernel_rfl) (by kernel_rfl) (e:=add64Entry) (by kernel_rfl),run_add64 x y 0 hx hy (by omega) (by omega),Int.add_zero]
    rfl
theorem env {W:World} (hL:laidMetH Tryz.prog Rows.moneyRestsRow.laid W):EnvOk Tryz.prog (FH.of W) E0:=by
  exact EnvOk.nil (by kernel_rfl) (fun g v hv=>by cases hv) zHR
set_option maxRecDepth 100000 in
theorem zGB (H:Type) (enc:TypeId × Value→H) (W:World) (base:Nat) (args:Array Value) (ds gs:List (DataW H)) (before:List MemPlace)
    (hval:∀ (j:Nat) t v,Tryz.f4.params[j]? = some t→args[j]? = some v→Value.okWide Tryz.prog W .any base t v)
    (hW:DataW.Whole enc Tryz.prog Tryz.f4.params.toList Rows.moneyRestsSpec.vars false W args.toList ds gs before) (hL:laidMetH Tryz.prog Rows.moneyRestsRow.laid W) :
    Calls Tryz.prog 4 args W fun e W'=>∃ v,e = .returned v ∧ Rows.moneyRestsSpec.post enc Tryz.prog Tryz.f4 false true false false W args v W':=by
  refine law_contract (a:=A_law30_MoneyRests) (tb:=4) (by kernel_rfl) (by decide +kernel) (by kernel_rfl) (by kernel_rfl) (by kernel_rfl) rfl (fun ds hd=>?_) hval hW fun x hx hbk hr=>?_
  · have:Tryz.f4.params.size = 5:=by kernel_rfl
    rw [this] at hd
    match ds,hd with
    | [d1,d2,d3,d4,d5],_=>rfl
  · have hs:=s_law30_MoneyRests (FH.of W) (env hL)
    have he:P_law30_MoneyRests x = some (true,()):=by
      obtain ⟨r,s,m,d,a,⟨⟩⟩:=x
      exact x_MoneyRests (realmIn hx.1) (stateIn hx.2.1) (foursIn hx.2.1) (capsIn hx.1) (wf_u64 hx.2.2.2.2.1.2.1) (deedIn hx.2.2.2.1)
    have hc:=hs.2 x (true,()) he (FH.of W) W args.toList (FH.le.refl _) (FH.of_ok W) hr
    refine hc.mono fun e W' he=>?_
    obtain ⟨us,F',h1,h2,_,_,h3⟩:=he
    refine ⟨?_,h2⟩
    obtain ⟨v,r,hus,hv,hva,hnil⟩:=(show RepA Tryz.prog F' (.pair .bool .unit) (true,()) us from h3)
    have hr0:r = []:=hnil
    subst hr0
    have hv':v.cells.toList = [.bool true]:=hv
    rw [h1,hus]
    have hva':isAggV v = false:=hva
    have:v = .bool true:=by
      cases v <;> first | (simp [isAggV] at hva'; done) | (simp [Value.cells] at hv'; exact congrArg _ hv') | (simp [Value.cells] at hv')
    rw [this]
    rfl
def zHH (l:List Value):Obj→Obj
  | .cells _ t frozen=>.cells l.toArray t frozen
  | o=>o
noncomputable def laidWorld (os:Os):World :=
  { World.holding Tryz.prog os ⟨#[],#[],[]⟩ with heap:=((World.holding Tryz.prog os ⟨#[],#[],[]⟩).heap.modify 0 (zHH (zFO (Pinned.utf8FirstZ.map fun n:Nat=>(n:Int))))).modify 1 (zHH (zFO [128,191,160,191,128,159,144,191,128,143,0,0,0,0,0,0,0,0,0,0,0,0,0,0,0,0,0,0,0,0,0,0])) }
def arg0:Value:=.agg #[.slice none 0 0,.slice none 0 0,.slice none 0 0,.slice none 0 0,.slice none 0 0,.int .i64 0,.int .i64 0,.int .i64 0,.int .i64 0]
def zEx:Value:=.agg #[.int .u64 0,.slice none 0 0,.slice none 0 0,.slice none 0 0,.slice none 0 0,.slice none 0 0]
def zEy:Value:=.agg #[.int .i64 0,.int .i64 0,.int .i64 0]
def zEz:Value:=.agg #[.int .i64 0,.int .i64 0,.int .i64 0,.int .i64 0,.int .u64 0]
def zEA:Value:=.agg #[.int .i64 0,.int .u64 0]
theorem laid_met (os:Os):laidMet Tryz.prog Rows.moneyRestsRow.laid ((laidWorld os).forCall (fun _ _=>0) ⟨#[],#[arg0,zEx,zEy,zEz,zEA],[]⟩).memory :=
  laidMet_of_run' 8 (by kernel_rfl) (by kernel_rfl)
theorem reads (os:Os) {H:Type} (enc:TypeId × Value→H):∃ places,DataW.whole enc Tryz.prog ((laidWorld os).forCall (fun _ _=>0) ⟨#[],#[arg0,zEx,zEy,zEz,zEA],[]⟩).memory Tryz.f4.params.toList Rows.moneyRestsSpec.vars false #[arg0,zEx,zEy,zEz,zEA].toList 8 = some ([.agg [.nil,.nil,.nil,.nil,.nil,.lit (.int .i64 0),.lit (.int .i64 0),.lit (.int .i64 0),.lit (.int .i64 0)],.agg [.lit (.int .u64 0),.nil,.nil,.nil,.nil,.nil],.agg [.lit (.int .i64 0),.lit (.int .i64 0),.lit (.int .i64 0)],.agg [.lit (.int .i64 0),.lit (.int .i64 0),.lit (.int .i64 0),.lit (.int .i64 0),.lit (.int .u64 0)],.agg [.lit (.int .i64 0),.lit (.int .u64 0)]],[],places) :=
  ⟨[],by kernel_rfl⟩
set_option maxRecDepth 100000 in
theorem lifted (os:Os) (started:os.Started) (H:Type) (enc:TypeId × Value→H) (F:Stop.Interp) :
    ReturnsInHanded {} Tryz.checked os 4 .any ((OpenSpec.ofChange Rows.moneyRestsSpec).preRow enc Tryz.prog Tryz.f4 Rows.moneyRestsRow.domain false Rows.moneyRestsRow.laid) (((OpenSpec.ofChange Rows.moneyRestsSpec).at F).post enc Tryz.prog Tryz.f4 false true false false):=by
  obtain ⟨places,hx⟩:=reads os enc
  refine returnsInHanded_of_row (C:=Tryz.checked) (s:=OpenSpec.ofChange Rows.moneyRestsSpec) own started (by kernel_rfl) Tryz.func4
    (witness_row_at (enc:=enc) (C:=Tryz.checked) false (laidWorld os) #[arg0,zEx,zEy,zEz,zEA] rfl (by kernel_rfl) (by kernel_rfl) (by kernel_rfl)
      (OpenSpec.preRow_of_cond 8 hx (by kernel_rfl) (fun k hk=>by cases hk) (by kernel_rfl) (laid_met os))) ?_
  intro W base args ds gs before hval hW _ _ _ hL _ _
  exact zGB H enc W base args ds gs before hval hW hL
end Go.Proofs.YtokcjmkikhgkeaaGreatDoor.fnMoneyRests
end
section
namespace Go.Proofs.YtokcjmkikhgkeaaGreatDoor.fnMoneyRests
open Go.ChangeShapes Go.WideShapes Go.ChangeAt Go.RowKit Go.Ev
theorem k2:laidOutB Tryz.prog = true:=by kernel_rfl
theorem k3:mapsRowed Tryz.prog = true:=by kernel_rfl
theorem k10:(Rows.moneyRestsRow.inPlace == Tryz.prog.inPlace 4) = true:=by kernel_rfl
theorem k11:(Rows.moneyRestsRow.unfollowed == Tryz.prog.unfollowed 4) = true:=by kernel_rfl
theorem k12:(Rows.moneyRestsRow.recurses == Tryz.prog.recurses 4) = true:=by kernel_rfl
theorem k13:(Rows.moneyRestsRow.named == Tryz.prog.varsNamed 4) = true:=by kernel_rfl
theorem k23:(Rows.moneyRestsRow.plainKeys == Tryz.prog.plainKeys) = true:=by kernel_rfl
theorem k24:Tryz.prog.stopsHeard = true:=by kernel_rfl
theorem k25:Tryz.prog.mayEnter = true:=by kernel_rfl
theorem k26:(Rows.moneyRestsRow.lifted == Tryz.prog.liftsFinal) = true:=by kernel_rfl
theorem k27:(Tryz.prog.make == some Rows.moneyRestsRow.make) = true:=by kernel_rfl
theorem zG8:joinedFacts Tryz.prog 4 Tryz.f4 (OpenSpec.ofChange Rows.moneyRestsSpec).bare Rows.moneyRestsRow = true:=by
  unfold joinedFacts
  rw [k2,k3,k10,k11,k12,k13,k23,k24,k25,k26,k27]
  kernel_rfl
theorem peq:Tryz.pinned.checked.prog = Tryz.prog:=by kernel_rfl
theorem closed:joinedFacts Tryz.pinned.checked.prog 4 Tryz.f4 (OpenSpec.ofChange Rows.moneyRestsSpec).bare Rows.moneyRestsRow = true:=by
  rw [peq]; exact zG8
end Go.Proofs.YtokcjmkikhgkeaaGreatDoor.fnMoneyRests
end
