import Derived.Test.YtkcakhbkoeimdaaGreatDoorMad
set_option linter.unusedVariables false
set_option linter.unusedSimpArgs false
section
namespace Go.Proofs.YtkcakhbkoeimdaaGreatDoor
open Go.Ev
noncomputable section
abbrev L1:List Fun:=zn0 :: zn1 :: zrD :: zpM :: zn2 :: zpN :: zpO :: zpP :: zpQ :: zn3 :: zt9 :: zrE :: zua :: zrF :: zjJ :: zpR :: zmb :: zwb :: zmc :: zwc :: zwd :: zkR :: zwe :: zhZ :: znb :: zwf :: zwg :: zn9 :: zoa :: zpS :: zkT :: zjO :: zkU :: zwj :: zwk :: zrM :: zkV :: zkW :: zBB :: zBC :: zkX :: zFx :: zwl :: zhB :: zh1 :: zjR :: zBD :: zwm :: zwn :: zrT :: znc :: zFy :: zBE :: zub :: zuc :: zpT :: zkY :: zjS :: zkZ :: zjT :: znd :: zyF :: zpU :: zmg :: zpV :: zmh :: zne :: zmi :: zmj :: zk0 :: zpW :: zod :: zws :: zoe :: zud :: zyG :: zue :: zrU :: zrV :: zwt :: zwu :: zpX :: zml :: zuf :: zyH :: zug :: zww :: zuh :: zyI :: zyJ :: zuj :: zuk :: zul :: zyK :: zyL :: zyM :: zrW :: zun :: zyN :: zuo :: zyO :: zyP :: zyQ :: zyR :: zyS :: zup :: zwx :: zuq :: zwy :: zwz :: zBQ :: zyT :: zwA :: zus :: zuu :: zwC :: zwE :: zrY :: zIW :: zr0 :: zr2 :: zFz :: zj0 :: zoj :: zp0 :: zr4 :: zr6 :: zwF :: zwG :: zwH :: znf :: zng :: zwI :: zwJ :: zwK :: L0
theorem h1:Sds Tryz.prog E0 L1:=⟨zzH,zzI,zDz,zBu,zzJ,zBv,zBw,zBx,zBy,zzK,zFV,zDA,zFW,zDB,ztw,zBz,zwa,zIB,zmd,zIC,zID,zvj,zIE,zqX,zx9,zIF,zIG,zzL,zzM,zBA,zvm,ztz,zvn,zIH,zII,zDG,zvo,zvp,zNj,zNk,zvq,zOR,zIJ,zpl,zq0,ztB,zNl,zIK,zIL,zDH,zya,zOS,zNm,zFX,zFY,zBF,zvr,ztC,zvs,ztD,zyb,zKX,zBG,zwo,zBH,zwp,zyc,zwq,zwr,zvt,zBI,zzN,zIM,zzO,zFZ,zKY,zF0,zDI,zDJ,zIN,zIO,zBJ,zwv,zF1,zKZ,zF2,zIP,zF3,zK0,zK1,zF6,zF7,zF8,zK2,zK3,zK4,zDK,zGb,zK5,zGc,zK6,zK7,zK8,zK9,zLa,zGd,zIQ,zGe,zIR,zIS,zNn,zLb,zIT,zGf,zGg,zIU,zIV,zDN,zIA,zDO,zDP,zOT,ztG,zzR,zBR,zDQ,zDR,zIX,zIY,zIZ,zyd,zye,zI0,zI1,zI2,h0⟩
theorem ms1 {d:Bool} {F:Fun} {f:Go.Func} {K:Nat} (hf:Tryz.prog.funcs[F.id]? = some f) (ho:jF f = true) (h:evF (En E0 d L1) K f F.md F.a F.r = F.spec):Sd Tryz.prog E0 F:=mkS h1 hf ho h
theorem ml1 {d:Bool} {F:Fun} {f:Go.Func} {S:Nat→F.a.I→Option F.r.I} (hf:Tryz.prog.funcs[F.id]? = some f) (ho:jF f = true) (h:∀ K,evF (En E0 d L1) K f F.md F.a F.r = S K) (e:S K0 = F.spec):Sd Tryz.prog E0 F:=mkS h1 hf ho ((h K0).trans e)
abbrev Es1:Env:=En E0 false L1
abbrev Ed1:Env:=En E0 true L1
abbrev zcf:Type:=Int × Int × Int × Int × List zp × Nat × List (List Int) × Nat × List zt × List zG × List Int × List zp × Nat × List (List Int) × Nat × List zt × List zG × List Int
abbrev zp1:zcf→St:=fun (v44,v45,o0_0,o1_0,o2,c2,o3,c3,o4,o5,o6,o7,c7,o8,c8,o9,o10,o11)=>St.mk [(1,.bp 0 []),(2,.bp 1 []),(43,.ow 2),(44,.dat tI v44),(45,.dat tI v45)] [.bx (.fld (.pair tU (.pair (.sl zx) (.pair (.sl (.sl tI)) (.pair (.sl zr) (.pair (.sl zy) (.pair (.sl tI) .unit)))))) [.dat tU o0_0,.ow 2,.ow 3,.ow 4,.ow 5,.ow 6]) false,.bx (.fld (.pair tU (.pair (.sl zx) (.pair (.sl (.sl tI)) (.pair (.sl zr) (.pair (.sl zy) (.pair (.sl tI) .unit)))))) [.dat tU o1_0,.ow 7,.ow 8,.ow 9,.ow 10,.ow 11]) false,.drow zx o2 c2,.drow (.sl tI) o3 c3,.row zr o4 false,.row zy o5 false,.row tI o6 false,.drow zx o7 c7,.drow (.sl tI) o8 c8,.row zr o9 false,.row zy o10 false,.row tI o11 false]
abbrev zcg:Type:=Int × Int × Int × (List zp) × Int × List (List Int) × Nat × List zt × List zG × List Int × List zp × Nat × List (List Int) × Nat × List zt × List zG × List Int
abbrev zBS:zcg→St:=fun (v25,v26,o0_0,o0_1,o1_0,o2,c2,o3,o4,o5,o6,c6,o7,c7,o8,o9,o10)=>St.mk [(1,.bp 0 []),(2,.bp 1 []),(24,.ow 2),(25,.dat tI v25),(26,.dat tI v26)] [.bx (.fld (.pair tU (.pair (.sl zx) (.pair (.sl (.sl tI)) (.pair (.sl zr) (.pair (.sl zy) (.pair (.sl tI) .unit)))))) [.dat tU o0_0,.dat (.sl zx) o0_1,.ow 2,.ow 3,.ow 4,.ow 5]) false,.bx (.fld (.pair tU (.pair (.sl zx) (.pair (.sl (.sl tI)) (.pair (.sl zr) (.pair (.sl zy) (.pair (.sl tI) .unit)))))) [.dat tU o1_0,.ow 6,.ow 7,.ow 8,.ow 9,.ow 10]) false,.drow (.sl tI) o2 c2,.row zr o3 false,.row zy o4 false,.row tI o5 false,.drow zx o6 c6,.drow (.sl tI) o7 c7,.row zr o8 false,.row zy o9 false,.row tI o10 false]
def zch (k1:zcf→Option (zb × Unit)):zcf→Option (zb × Unit):=fun (v44,v45,o0_0,o1_0,o2,c2,o3,c3,o4,o5,o6,o7,c7,o8,c8,o9,o10,o11) =>
 bif decide (v45 < v44) then inR v45 ((List.length o2):Int) (bif decide (c2 ≤ Int.toNat v45) then Option.bind (zjG ((ix zf o2 v45).1,())) fun q6=>Option.bind (zjH ((ix zf o2 v45).2.1,())) fun q7=>Option.bind (zjI ((ix zf o2 v45).2.2.1,())) fun q8=>Option.bind (zah ((ix zf o2 v45).2.2.2.1,())) fun q9=>Option.bind (zbc ((ix zf o2 v45).2.2.2.2.1,())) fun q10=>Option.bind (zmD ((ix zf o2 v45).2.2.2.2.2.1,())) fun q11=>Option.bind (zlh ((ix zf o2 v45).2.2.2.2.2.2.1,())) fun q12=>inR v45 ((List.length o2):Int) (bif decide (Int.toNat v45 = c2) then k1 (v44,wI (v45 + 1),o0_0,o1_0,List.set o2 (Int.toNat v45) (q6.1,q7.1,q8.1,q9.1,q10.1,q11.1,q12.1,(ix zf o2 v45).2.2.2.2.2.2.2.1,(ix zf o2 v45).2.2.2.2.2.2.2.2.1,()),c2 + 1,o3,c3,o4,o5,o6,o7,c7,o8,c8,o9,o10,o11) else none) else none) else bif decide (c2 = List.length o2) then bif decide (c3 = List.length o3) then some ((o0_0,o2,o3,o4,o5,o6,()),()) else none else none
abbrev zci (K:Nat):zcf→Option (zb × Unit):=zg zch K
theorem zBT (K:Nat):∀ n,evV Ed1 K Tryz.f7 3 (ch [zq]) [1,1,1,1,1,0,1,0] [] zp1 n = zg zch n:=zn fun n1 (v44,v45,o0_0,o1_0,o2,c2,o3,c3,o4,o5,o6,o7,c7,o8,c8,o9,o10,o11)=>by kernel_rfl
def zaj (L1:zcf→Option (zb × Unit)) (k0:zcg→Option (zb × Unit)):zcg→Option (zb × Unit):=fun (v25,v26,o0_0,o0_1,o1_0,o2,c2,o3,o4,o5,o6,c6,o7,c7,o8,o9,o10) =>
 bif decide (v26 < v25) then inR v26 ((List.length o2):Int) (bif decide (c2 ≤ Int.toNat v26) then Option.bind (zaU (List.getD o2 (Int.toNat v26) ([]:List Int),())) fun q4=>inR v26 ((List.length o2):Int) (bif decide (Int.toNat v26 = c2) then k0 (v25,wI (v26 + 1),o0_0,o0_1,o1_0,List.set o2 (Int.toNat v26) q4.1,c2 + 1,o3,o4,o5,o6,c6,o7,c7,o8,o9,o10) else none) else none) else Option.bind (ziU (o0_1,())) fun q5=>L1 (((List.length q5.1):Int),0,o0_0,o1_0,q5.1,0,o2,c2,o3,o4,o5,o6,c6,o7,c7,o8,o9,o10)
abbrev zj1 (K:Nat):zcg→Option (zb × Unit):=zg (fun k0=>zaj (zci K) k0) K
theorem zBU (K:Nat):∀ n,evV Ed1 K Tryz.f7 3 (ch [zq]) [1,1,1,0,1,0] [] zBS n = zg (fun k0=>zaj (zci K) k0) n:=qx (B:=fun L1 k0=>zaj L1 k0) (V1:=fun n0=>evV Ed1 K Tryz.f7 3 (ch [zq]) [1,1,1,1,1,0,1,0] [] zp1 K) (W1:=fun k0=>(zci K)) (fun n0=>zBT K K) fun n0 (v25,v26,o0_0,o0_1,o1_0,o2,c2,o3,o4,o5,o6,c6,o7,c7,o8,o9,o10)=>by kernel_rfl
def ziB (L0:zcg→Option (zb × Unit)):(zb × Unit)→Option (zb × Unit):=fun (x0,()) =>
 Option.bind (zbb (x0.2.2.2.1,())) fun q0=>Option.bind (ziT (x0.2.2.2.2.1,())) fun q1=>Option.bind (zaU (x0.2.2.2.2.2.1,())) fun q2=>Option.bind (zjF (x0.2.2.1,())) fun q3=>L0 (((List.length q3.1):Int),0,x0.1,x0.2.1,0,q3.1,0,q0.1,q1.1,q2.1,[],0,[],0,[],[],[])
def jl:(zb × Unit)→Option (zb × Unit):=ziB (zj1 K0)
abbrev zuv:Fun:=⟨7,(ch [zq]),(ch [zq]),3,jl⟩
theorem zGh:Sq zuv:=ml1 (d:=true) (S:=fun K=>ziB (zj1 K)) Tryz.func7 (by kernel_rfl) (fun K=>tr1 (T:=ziB) (zBU K K) fun (x0,())=>by kernel_rfl) rfl
def ze8:(zz × Unit)→Option (Bool × Unit):=fun (x0,()) =>
 Option.bind (zir (x0,())) fun q0=>bif q0.1 then some (false,()) else some (true,())
abbrev zow:Fun:=⟨299,(ch [zo]),(ch [.bool]),0,ze8⟩
theorem zzS:Sq zow:=ms1 (d:=false) (K:=0) Tryz.func299 (by kernel_rfl) (funext fun (x0,())=>by kernel_rfl)
def yo:((List zz) × ((Option ((zz × Unit)→Option (Bool × Unit))) × Unit))→Option (Bool × Unit):=fun (x0,x1,()) =>
 Option.bind (zaF (x0,x1,())) fun q0=>bif decide (q0.1 ≥ 0) then some (true,()) else some (false,())
abbrev zhC:Fun:=⟨300,(ch [(.sl zo),(.fn (ch [zo]) (ch [.bool]))]),(ch [.bool]),0,yo⟩
theorem zpm:Sq zhC:=ms1 (d:=false) (K:=0) Tryz.func300 (by kernel_rfl) (funext fun (x0,x1,())=>by kernel_rfl)
def zaA:(Int × (Int × Unit))→Option (Int × Unit):=fun (x0,x1,()) =>
 Option.bind (zai (x0,())) fun q0=>bif q0.1 then Option.bind (zai (x1,())) fun q1=>bif q1.1 then some (0,()) else some ((-1),()) else Option.bind (zai (x1,())) fun q2=>bif q2.1 then some (1,()) else bif decide (x0 < x1) then some ((-1),()) else bif decide (x0 > x1) then some (1,()) else some (0,())
abbrev znh:Fun:=⟨342,(ch [tI,tI]),(ch [tI]),0,zaA⟩
theorem zyf:Sq znh:=ms1 (d:=false) (K:=0) Tryz.func342 (by kernel_rfl) (funext fun (x0,x1,())=>by kernel_rfl)
def vZ:(Int × (Int × Unit))→Option (Int × Unit):=fun (x0,x1,()) =>
 Option.bind (vA (x0,())) fun q0=>bif q0.1 then Option.bind (vA (x1,())) fun q1=>bif q1.1 then some (0,()) else some ((-1),()) else Option.bind (vA (x1,())) fun q2=>bif q2.1 then some (1,()) else bif decide (x0 < x1) then some ((-1),()) else bif decide (x0 > x1) then some (1,()) else some (0,())
abbrev zj2:Fun:=⟨341,(ch [tU,tU]),(ch [tI]),0,vZ⟩
theorem ztH:Sq zj2:=ms1 (d:=false) (K:=0) Tryz.func341 (by kernel_rfl) (funext fun (x0,x1,())=>by kernel_rfl)
def zcj:(Int × ((Option zd) × Unit))→Option (Bool × Unit):=fun (x0,x1,()) =>
 Option.bind x1 fun q0=>Option.bind (ql (x0,0,wI (((List.length q0.1):Int) - 1),())) fun q1=>bif q1.1 then some (false,()) else some (true,())
abbrev zp2:Fun:=⟨302,(ch [tI,(.ptr zl)]),(ch [.bool]),0,zcj⟩
theorem zBV:Sq zp2:=ms1 (d:=false) (K:=0) Tryz.func302 (by kernel_rfl) (funext fun (x0,x1,())=>by kernel_rfl)
def qv:((List Int) × ((Option ((Int × Unit)→Option (Bool × Unit))) × Unit))→Option (Bool × Unit):=fun (x0,x1,()) =>
 Option.bind (vB (x0,x1,())) fun q0=>bif decide (q0.1 ≥ 0) then some (true,()) else some (false,())
abbrev zjq:Fun:=⟨249,(ch [(.sl tI),(.fn (ch [tI]) (ch [.bool]))]),(ch [.bool]),0,qv⟩
theorem zsf:Sq zjq:=ms1 (d:=false) (K:=0) Tryz.func249 (by kernel_rfl) (funext fun (x0,x1,())=>by kernel_rfl)
def vl:((List Int) × ((Option ((Int × Unit)→Option (Bool × Unit))) × Unit))→Option (Bool × Unit):=fun (x0,x1,()) =>
 Option.bind (zbF (x0,x1,())) fun q0=>bif decide (q0.1 ≥ 0) then some (true,()) else some (false,())
abbrev zia:Fun:=⟨221,(ch [(.sl (.int .u8)),(.fn (ch [(.int .u8)]) (ch [.bool]))]),(ch [.bool]),0,vl⟩
theorem zrc:Sq zia:=ms1 (d:=false) (K:=0) Tryz.func221 (by kernel_rfl) (funext fun (x0,x1,())=>by kernel_rfl)
def zha:(Int × Unit)→Option (Bool × Unit):=fun (x0,()) =>
 Option.bind (zgx (x0,())) fun q0=>bif q0.1 then some (true,()) else Option.bind (zjM (x0,())) fun q1=>bif q1.1 then some (true,()) else some (false,())
abbrev zsg:Fun:=⟨324,(ch [(.int .u8)]),(ch [.bool]),0,zha⟩
theorem zD4:Sq zsg:=ms1 (d:=false) (K:=0) Tryz.func324 (by kernel_rfl) (funext fun (x0,())=>by kernel_rfl)
def zaL:((List qu) × ((Option ((qu × Unit)→Option (Bool × Unit))) × Unit))→Option (Bool × Unit):=fun (x0,x1,()) =>
 Option.bind (yY (x0,x1,())) fun q0=>bif decide (q0.1 ≥ 0) then some (true,()) else some (false,())
abbrev zgb:Fun:=⟨304,(ch [(.sl qz),(.fn (ch [qz]) (ch [.bool]))]),(ch [.bool]),0,zaL⟩
theorem zny:Sq zgb:=ms1 (d:=false) (K:=0) Tryz.func304 (by kernel_rfl) (funext fun (x0,x1,())=>by kernel_rfl)
def zbM:((List zz) × (zz × Unit))→Option (Bool × Unit):=fun (x0,x1,()) =>
 Option.bind (zeX (x0,x1,())) fun q0=>bif decide (q0.1 ≥ 0) then some (true,()) else some (false,())
abbrev zk3:Fun:=⟨307,(ch [(.sl zo),zo]),(ch [.bool]),0,zbM⟩
theorem zvy:Sq zk3:=ms1 (d:=false) (K:=0) Tryz.func307 (by kernel_rfl) (funext fun (x0,x1,())=>by kernel_rfl)
def ze9:(Int × Unit)→Option (Bool × Unit):=fun (x0,()) =>
 Option.bind (ql (x0,0,12,())) fun q0=>bif q0.1 then some (false,()) else some (true,())
abbrev zox:Fun:=⟨309,(ch [tI]),(ch [.bool]),0,ze9⟩
theorem zzT:Sq zox:=ms1 (d:=false) (K:=0) Tryz.func309 (by kernel_rfl) (funext fun (x0,())=>by kernel_rfl)
def y8:(zd × Unit)→Option (Bool × Unit):=fun (x0,()) =>
 Option.bind (ql (x0.2.2.2.2.2.1,0,24,())) fun q0=>bif q0.1 then Option.bind (ql (x0.2.2.2.2.2.2.1,0,48,())) fun q1=>bif q1.1 then Option.bind (ql (x0.2.2.2.2.2.2.2.1,1,4,())) fun q2=>bif q2.1 then Option.bind (ql (x0.2.2.2.2.2.2.2.2.1,1,16,())) fun q3=>bif q3.1 then some (true,()) else some (false,()) else some (false,()) else some (false,()) else some (false,())
abbrev zwL:Fun:=⟨219,(ch [zl]),(ch [.bool]),0,y8⟩
theorem zI3:Sq zwL:=ms1 (d:=false) (K:=0) Tryz.func219 (by kernel_rfl) (funext fun (x0,())=>by kernel_rfl)
def jZ:((List zp) × ((Option ((zp × Unit)→Option (Bool × Unit))) × Unit))→Option (Bool × Unit):=fun (x0,x1,()) =>
 Option.bind (zaH (x0,x1,())) fun q0=>bif decide (q0.1 ≥ 0) then some (true,()) else some (false,())
abbrev zhD:Fun:=⟨236,(ch [(.sl zx),(.fn (ch [zx]) (ch [.bool]))]),(ch [.bool]),0,jZ⟩
theorem zpn:Sq zhD:=ms1 (d:=false) (K:=0) Tryz.func236 (by kernel_rfl) (funext fun (x0,x1,())=>by kernel_rfl)
def zdu:((List qP) × ((Option ((qP × Unit)→Option (Bool × Unit))) × Unit))→Option (Bool × Unit):=fun (x0,x1,()) =>
 Option.bind (zbH (x0,x1,())) fun q0=>bif decide (q0.1 ≥ 0) then some (true,()) else some (false,())
abbrev zib:Fun:=⟨238,(ch [(.sl qh),(.fn (ch [qh]) (ch [.bool]))]),(ch [.bool]),0,zdu⟩
theorem zrd:Sq zib:=ms1 (d:=false) (K:=0) Tryz.func238 (by kernel_rfl) (funext fun (x0,x1,())=>by kernel_rfl)
def zj3:(qb × Unit)→Option (Bool × Unit):=fun (x0,()) =>
 bif x0.1 then Option.bind (zgz (x0.2.1,())) fun q0=>bif q0.1 then Option.bind (zgz (x0.2.2.1,())) fun q1=>bif q1.1 then Option.bind (zjP (x0.2.2.2.1,())) fun q2=>bif q2.1 then some (false,()) else some (true,()) else some (true,()) else some (true,()) else bif !eqI zU x0 (ze zU) then some (true,()) else some (false,())
abbrev zwM:Fun:=⟨241,(ch [zU]),(ch [.bool]),0,zj3⟩
theorem zI4:Sq zwM:=ms1 (d:=false) (K:=0) Tryz.func241 (by kernel_rfl) (funext fun (x0,())=>by kernel_rfl)
def zj4:((List qb) × (zP × (Int × Unit)))→Option (Int × Unit):=fun (x0,x1,x2,()) =>
 Option.bind (yu (x0,some fun z=>zg5 (z.1,some x1,some x2,()),())) fun q0=>some (q0.1,())
abbrev zwN:Fun:=⟨242,(ch [(.sl zU),zL,tI]),(ch [tI]),0,zj4⟩
theorem zI5:Sq zwN:=ms1 (d:=false) (K:=0) Tryz.func242 (by kernel_rfl) (funext fun (x0,x1,x2,())=>by kernel_rfl)
def jq:((List z5) × ((Option ((z5 × Unit)→Option (Bool × Unit))) × Unit))→Option (Bool × Unit):=fun (x0,x1,()) =>
 Option.bind (zbI (x0,x1,())) fun q0=>bif decide (q0.1 ≥ 0) then some (true,()) else some (false,())
abbrev zic:Fun:=⟨243,(ch [(.sl zH),(.fn (ch [zH]) (ch [.bool]))]),(ch [.bool]),0,jq⟩
theorem zre:Sq zic:=ms1 (d:=false) (K:=0) Tryz.func243 (by kernel_rfl) (funext fun (x0,x1,())=>by kernel_rfl)
def zck:(zxZ × Unit)→Option (Bool × Unit):=fun (x0,()) =>
 bif x0.1 == 1 then Option.bind (zeZ (x0.2.1,())) fun q0=>bif q0.1 then bif eqI zL x0.2.2.1 (ze zL) then some (true,()) else some (false,()) else some (false,()) else bif x0.1 == 3 then Option.bind (zeZ (x0.2.1,())) fun q1=>bif q1.1 then bif eqI zL x0.2.2.1 (ze zL) then some (true,()) else some (false,()) else some (false,()) else bif x0.1 == 2 then bif x0.2.1 == 0 then Option.bind (zeZ (x0.2.2.1.1,())) fun q2=>bif q2.1 then Option.bind (zeZ (x0.2.2.1.2.1,())) fun q3=>bif q3.1 then some (true,()) else some (false,()) else some (false,()) else some (false,()) else some (false,())
abbrev zmm:Fun:=⟨332,(ch [zxY]),(ch [.bool]),0,zck⟩
theorem zwO:Sq zmm:=ms1 (d:=false) (K:=0) Tryz.func332 (by kernel_rfl) (funext fun (x0,())=>by kernel_rfl)
def jt:((List zk) × ((Option ((zk × Unit)→Option (Bool × Unit))) × Unit))→Option (Bool × Unit):=fun (x0,x1,()) =>
 Option.bind (yw (x0,x1,())) fun q0=>bif decide (q0.1 ≥ 0) then some (true,()) else some (false,())
abbrev zid:Fun:=⟨188,(ch [(.sl zu),(.fn (ch [zu]) (ch [.bool]))]),(ch [.bool]),0,jt⟩
theorem zrf:Sq zid:=ms1 (d:=false) (K:=0) Tryz.func188 (by kernel_rfl) (funext fun (x0,x1,())=>by kernel_rfl)
def zaX:(zk × Unit)→Option (Bool × Unit):=fun (x0,()) =>
 Option.bind (zjo (x0.2.1,())) fun q0=>bif q0.1 then Option.bind (zjo (x0.2.2.1,())) fun q1=>bif q1.1 then Option.bind (zjo (x0.2.2.2.1,())) fun q2=>bif q2.1 then some (true,()) else some (false,()) else some (false,()) else some (false,())
abbrev zsh:Fun:=⟨94,(ch [zu]),(ch [.bool]),0,zaX⟩
theorem zD5:Sq zsh:=ms1 (d:=false) (K:=0) Tryz.func94 (by kernel_rfl) (funext fun (x0,())=>by kernel_rfl)
def zhb:(ByteArray × (ByteArray × Unit))→Option (ByteArray × Unit):=fun (x0,x1,()) =>
 bif ByteArray.toList x0 == ByteArray.toList (ByteArray.mk #[]) then some (x0,()) else bif ByteArray.toList x1 == ByteArray.toList (ByteArray.mk #[]) then some (x0,()) else bif (↑(ByteArray.size x1):Int) == 1 then bif decide (0 < (↑(ByteArray.size x1):Int)) then bif decide ((↑(UInt8.toNat (List.getD (Array.toList (ByteArray.data x1)) (Int.toNat 0) 0)):Int) < 128) then bif decide (0 < (↑(ByteArray.size x1):Int)) then Option.bind (zbQ (x0,(↑(UInt8.toNat (List.getD (Array.toList (ByteArray.data x1)) (Int.toNat 0) 0)):Int),())) fun q0=>bif decide (0 < (↑(ByteArray.size x1):Int)) then Option.bind (zdp (q0.1,(↑(UInt8.toNat (List.getD (Array.toList (ByteArray.data x1)) (Int.toNat 0) 0)):Int),())) fun q1=>some (q1.1,()) else none else none else none else none else none
abbrev zsi:Fun:=⟨123,(ch [.str,.str]),(ch [.str]),0,zhb⟩
theorem zD6:Sq zsi:=ms1 (d:=false) (K:=0) Tryz.func123 (by kernel_rfl) (funext fun (x0,x1,())=>by kernel_rfl)
def jf:((List zv) × ((Option ((zv × Unit)→Option (Bool × Unit))) × Unit))→Option (Bool × Unit):=fun (x0,x1,()) =>
 Option.bind (zaI (x0,x1,())) fun q0=>bif decide (q0.1 ≥ 0) then some (true,()) else some (false,())
abbrev zhE:Fun:=⟨245,(ch [(.sl zw),(.fn (ch [zw]) (ch [.bool]))]),(ch [.bool]),0,jf⟩
theorem zpo:Sq zhE:=ms1 (d:=false) (K:=0) Tryz.func245 (by kernel_rfl) (funext fun (x0,x1,())=>by kernel_rfl)
def zie:(zjE × Unit)→Option (Bool × Unit):=fun (x0,()) =>
 Option.bind (jk (x0.1,())) fun q0=>bif q0.1 then bif decide (x0.2.1 ≤ 4611686018427387904) then bif x0.2.2.1 == -1 then some (true,()) else Option.bind (zg6 (x0.2.2.1,())) fun q1=>bif q1.1 then some (true,()) else some (false,()) else some (false,()) else some (false,())
abbrev zyU:Fun:=⟨335,(ch [zdD]),(ch [.bool]),0,zie⟩
theorem zLc:Sq zyU:=ms1 (d:=false) (K:=0) Tryz.func335 (by kernel_rfl) (funext fun (x0,())=>by kernel_rfl)
def zgF:(Int × (Int × Unit))→Option (Int × (Int × Unit)):=fun (x0,x1,()) =>
 Option.bind (zdE (x0,x1,())) fun q0=>bif q0.1 != 0 then some (0,7,()) else bif decide (q0.2.1 > 4611686018427387904) then some (0,7,()) else some (q0.2.1,0,())
abbrev zwP:Fun:=⟨362,(ch [tU,tU]),(ch [tU,tI]),0,zgF⟩
theorem zI6:Sq zwP:=ms1 (d:=false) (K:=0) Tryz.func362 (by kernel_rfl) (funext fun (x0,x1,())=>by kernel_rfl)
def zfa:(zt × ((Option qQ) × Unit))→Option (Bool × Unit):=fun (x0,x1,()) =>
 bif x0.1 then Option.bind x1 fun q0=>Option.bind (zbS (q0,x0.2.1,())) fun q1=>bif q1.1 then Option.bind x1 fun q2=>Option.bind (qR (q2,x0.2.2.1,())) fun q3=>bif q3.1 then Option.bind x1 fun q4=>bif decide (x0.2.2.2.2.2.2.2.2.2.1 < ((List.length q4.2.1.2.2.2.2.1):Int)) then some (true,()) else some (false,()) else some (false,()) else some (false,()) else some (true,())
abbrev zoy:Fun:=⟨149,(ch [zr,(.ptr qk)]),(ch [.bool]),0,zfa⟩
theorem zzU:Sq zoy:=ms1 (d:=false) (K:=0) Tryz.func149 (by kernel_rfl) (funext fun (x0,x1,())=>by kernel_rfl)
def j3:((List zt) × ((Option ((zt × Unit)→Option (Bool × Unit))) × Unit))→Option (Bool × Unit):=fun (x0,x1,()) =>
 Option.bind (zaJ (x0,x1,())) fun q0=>bif decide (q0.1 ≥ 0) then some (true,()) else some (false,())
abbrev zhF:Fun:=⟨253,(ch [(.sl zr),(.fn (ch [zr]) (ch [.bool]))]),(ch [.bool]),0,j3⟩
theorem zpp:Sq zhF:=ms1 (d:=false) (K:=0) Tryz.func253 (by kernel_rfl) (funext fun (x0,x1,())=>by kernel_rfl)
def zbf:(zG × ((Option qQ) × Unit))→Option (Bool × Unit):=fun (x0,x1,()) =>
 Option.bind x1 fun q0=>bif decide (x0.2.1 < ((List.length q0.1.2.1):Int)) then Option.bind x1 fun q1=>inR x0.2.1 ((List.length q1.1.2.1):Int) (bif x0.2.2.1 == ix (0:Int) q1.1.2.1 x0.2.1 then Option.bind x1 fun q2=>Option.bind (qR (q2,x0.2.2.2.1,())) fun q3=>bif q3.1 then Option.bind x1 fun q4=>bif decide (x0.1 ≤ q4.2.1.1) then some (true,()) else some (false,()) else some (false,()) else some (false,())) else some (false,())
abbrev zoz:Fun:=⟨153,(ch [zy,(.ptr qk)]),(ch [.bool]),0,zbf⟩
theorem zzV:Sq zoz:=ms1 (d:=false) (K:=0) Tryz.func153 (by kernel_rfl) (funext fun (x0,x1,())=>by kernel_rfl)
def j4:((List zG) × ((Option ((zG × Unit)→Option (Bool × Unit))) × Unit))→Option (Bool × Unit):=fun (x0,x1,()) =>
 Option.bind (zaK (x0,x1,())) fun q0=>bif decide (q0.1 ≥ 0) then some (true,()) else some (false,())
abbrev zhG:Fun:=⟨255,(ch [(.sl zy),(.fn (ch [zy]) (ch [.bool]))]),(ch [.bool]),0,j4⟩
theorem zpq:Sq zhG:=ms1 (d:=false) (K:=0) Tryz.func255 (by kernel_rfl) (funext fun (x0,x1,())=>by kernel_rfl)
def vu:(Int × ((Option qQ) × Unit))→Option (Bool × Unit):=fun (x0,x1,()) =>
 bif x0 == -1 then some (true,()) else Option.bind x1 fun q0=>Option.bind (qR (q0,x0,())) fun q1=>bif q1.1 then some (true,()) else some (false,())
abbrev zoA:Fun:=⟨155,(ch [tI,(.ptr qk)]),(ch [.bool]),0,vu⟩
theorem zzW:Sq zoA:=ms1 (d:=false) (K:=0) Tryz.func155 (by kernel_rfl) (funext fun (x0,x1,())=>by kernel_rfl)
def zif:(qQ × (Int × (Int × Unit)))→Option (Bool × Unit):=fun (x0,x1,x2,()) =>
 Option.bind (zbS (x0,x1,())) fun q0=>bif q0.1 then Option.bind (zbS (x0,x2,())) fun q1=>bif q1.1 then inR x1 ((List.length x0.1.1):Int) (inR x2 ((List.length x0.1.1):Int) (Option.bind (zh5 (ix qO x0.1.1 x1,ix qO x0.1.1 x2,())) fun q2=>bif q2.1 then some (true,()) else some (false,()))) else some (false,()) else some (false,())
abbrev zyV:Fun:=⟨165,(ch [qk,tI,tI]),(ch [.bool]),0,zif⟩
theorem zLd:Sq zyV:=ms1 (d:=false) (K:=0) Tryz.func165 (by kernel_rfl) (funext fun (x0,x1,x2,())=>by kernel_rfl)
def vm:((List qb) × ((Option ((qb × Unit)→Option (Bool × Unit))) × Unit))→Option (Bool × Unit):=fun (x0,x1,()) =>
 Option.bind (yu (x0,x1,())) fun q0=>bif decide (q0.1 ≥ 0) then some (true,()) else some (false,())
abbrev zig:Fun:=⟨259,(ch [(.sl zU),(.fn (ch [zU]) (ch [.bool]))]),(ch [.bool]),0,vm⟩
theorem zrg:Sq zig:=ms1 (d:=false) (K:=0) Tryz.func259 (by kernel_rfl) (funext fun (x0,x1,())=>by kernel_rfl)
def vH:((List zP) × ((Option ((zP × Unit)→Option (Bool × Unit))) × Unit))→Option (Bool × Unit):=fun (x0,x1,()) =>
 Option.bind (zb9 (x0,x1,())) fun q0=>bif decide (q0.1 ≥ 0) then some (true,()) else some (false,())
abbrev zjr:Fun:=⟨262,(ch [(.sl zL),(.fn (ch [zL]) (ch [.bool]))]),(ch [.bool]),0,vH⟩
theorem zsj:Sq zjr:=ms1 (d:=false) (K:=0) Tryz.func262 (by kernel_rfl) (funext fun (x0,x1,())=>by kernel_rfl)
def zbg:(z5 × ((Option qQ) × Unit))→Option (Bool × Unit):=fun (x0,x1,()) =>
 bif x0.2.2.1 != 1 then some (true,()) else Option.bind x1 fun q0=>Option.bind (qR (q0,x0.2.2.2.1,())) fun q1=>bif q1.1 then some (true,()) else some (false,())
abbrev zoB:Fun:=⟨162,(ch [zH,(.ptr qk)]),(ch [.bool]),0,zbg⟩
theorem zzX:Sq zoB:=ms1 (d:=false) (K:=0) Tryz.func162 (by kernel_rfl) (funext fun (x0,x1,())=>by kernel_rfl)
def qI:(zv × ((Option qQ) × Unit))→Option (Bool × Unit):=fun (x0,x1,()) =>
 bif x0.1 then Option.bind x1 fun q0=>Option.bind (qR (q0,x0.2.1,())) fun q1=>bif q1.1 then Option.bind x1 fun q2=>Option.bind (qR (q2,x0.2.2.1,())) fun q3=>bif q3.1 then some (true,()) else some (false,()) else some (false,()) else some (true,())
abbrev zoC:Fun:=⟨167,(ch [zw,(.ptr qk)]),(ch [.bool]),0,qI⟩
theorem zzY:Sq zoC:=ms1 (d:=false) (K:=0) Tryz.func167 (by kernel_rfl) (funext fun (x0,x1,())=>by kernel_rfl)
def yM:((List zv) × ((Option ((zv × Unit)→Option (Bool × Unit))) × Unit))→Option ((Option zb5) × Unit):=fun (x0,x1,()) =>
 bif Option.isNone x1 then some (none,()) else Option.bind (zbc (x0,())) fun q0=>some (some (q0.1,x1,()),())
abbrev zoD:Fun:=⟨168,(ch [(.sl zw),(.fn (ch [zw]) (ch [.bool]))]),(ch [(.ptr vT)]),0,yM⟩
theorem zzZ:Sq zoD:=ms1 (d:=false) (K:=0) Tryz.func168 (by kernel_rfl) (funext fun (x0,x1,())=>by kernel_rfl)
def ya:((Option zb5) × (Int × Unit))→Option (Bool × Unit):=fun (x0,x1,()) =>
 Option.bind (ze5 (x0,())) fun q0=>bif q0.1 then bif decide (x1 ≥ 0) then Option.bind x0 fun q1=>bif decide (x1 < ((List.length q1.1):Int)) then Option.bind x0 fun q2=>Option.bind x0 fun q3=>inR x1 ((List.length q3.1):Int) (Option.bind q2.2.1 fun q4=>Option.bind (q4 (ix zR q3.1 x1,())) fun q5=>bif q5.1 then some (true,()) else some (false,())) else some (false,()) else some (false,()) else some (false,())
abbrev zp3:Fun:=⟨170,(ch [(.ptr vT),tI]),(ch [.bool]),0,ya⟩
theorem zBW:Sq zp3:=ms1 (d:=false) (K:=0) Tryz.func170 (by kernel_rfl) (funext fun (x0,x1,())=>by kernel_rfl)
def ziX:((List zt) × ((Option ((zt × Unit)→Option (Bool × Unit))) × Unit))→Option ((Option zeV) × Unit):=fun (x0,x1,()) =>
 bif Option.isNone x1 then some (none,()) else Option.bind (zbb (x0,())) fun q0=>some (some (q0.1,x1,()),())
abbrev zoE:Fun:=⟨375,(ch [(.sl zr),(.fn (ch [zr]) (ch [.bool]))]),(ch [(.ptr yX)]),0,ziX⟩
theorem zz0:Sq zoE:=ms1 (d:=false) (K:=0) Tryz.func375 (by kernel_rfl) (funext fun (x0,x1,())=>by kernel_rfl)
def zgc:((Option zeV) × (Int × Unit))→Option (Bool × Unit):=fun (x0,x1,()) =>
 Option.bind (ze6 (x0,())) fun q0=>bif q0.1 then bif decide (x1 ≥ 0) then Option.bind x0 fun q1=>bif decide (x1 < ((List.length q1.1):Int)) then Option.bind x0 fun q2=>Option.bind x0 fun q3=>inR x1 ((List.length q3.1):Int) (Option.bind q2.2.1 fun q4=>Option.bind (q4 (ix zI q3.1 x1,())) fun q5=>bif q5.1 then some (true,()) else some (false,())) else some (false,()) else some (false,()) else some (false,())
abbrev zp4:Fun:=⟨378,(ch [(.ptr yX),tI]),(ch [.bool]),0,zgc⟩
theorem zBX:Sq zp4:=ms1 (d:=false) (K:=0) Tryz.func378 (by kernel_rfl) (funext fun (x0,x1,())=>by kernel_rfl)
abbrev zgG:Type:=Int × (List Int) × Int × Int
abbrev zI7:zgG→St:=fun (v4,v9,v10,v11)=>St.mk [(4,.dat tU v4),(9,.dat (.sl tU) v9),(10,.dat tI v10),(11,.dat tI v11)] []
def zgH (k0:zgG→Option (Int × (Int × Unit))):zgG→Option (Int × (Int × Unit)):=fun (v4,v9,v10,v11) =>
 bif decide (v11 < v10) then inR v11 ((List.length v9):Int) (Option.bind (zlL (v4,ix (0:Int) v9 v11,())) fun q0=>bif q0.2.1 != 0 then some (0,q0.2.1,()) else k0 (q0.1,v9,v10,wI (v11 + 1))) else some (v4,0,())
abbrev zwQ (K:Nat):zgG→Option (Int × (Int × Unit)):=zg zgH K
theorem zI8 (K:Nat):∀ n,evV Es1 K Tryz.f270 0 (ch [tU,tI]) [1,1,0,1,0] [] zI7 n = zg zgH n:=zn fun n0 (v4,v9,v10,v11)=>by kernel_rfl
def ztI (L0:zgG→Option (Int × (Int × Unit))):((List Int) × Unit)→Option (Int × (Int × Unit)):=fun (x0,()) =>
 L0 (0,x0,((List.length x0):Int),0)
def zhc:((List Int) × Unit)→Option (Int × Int × Unit):=ztI (zwQ K0)
abbrev zBY:Fun:=⟨270,(ch [(.sl tU)]),(ch [tU,tI]),0,zhc⟩
theorem zNo:Sq zBY:=ml1 (d:=false) (S:=fun K=>ztI (zwQ K)) Tryz.func270 (by kernel_rfl) (fun K=>tr1 (T:=ztI) (zI8 K K) fun (x0,())=>by kernel_rfl) rfl
def zj5:((List zk) × ((Option ((zk × Unit)→Option (Bool × Unit))) × Unit))→Option ((Option yk) × Unit):=fun (x0,x1,()) =>
 bif Option.isNone x1 then some (none,()) else Option.bind (zah (x0,())) fun q0=>some (some (q0.1,x1,()),())
abbrev zp5:Fun:=⟨191,(ch [(.sl zu),(.fn (ch [zu]) (ch [.bool]))]),(ch [(.ptr j8)]),0,zj5⟩
theorem zBZ:Sq zp5:=ms1 (d:=false) (K:=0) Tryz.func191 (by kernel_rfl) (funext fun (x0,x1,())=>by kernel_rfl)
def zfb:((Option yk) × Unit)→Option (Int × (Int × Unit)):=fun (x0,()) =>
 Option.bind (vX (x0,())) fun q0=>bif q0.1 then Option.bind x0 fun q1=>Option.bind (yw (q1.1,some fun z=>zmk (z.1,some x0,()),())) fun q2=>bif decide (q2.1 < 0) then some (0,8,()) else some (q2.1,0,()) else some (0,11,())
abbrev zoF:Fun:=⟨193,(ch [(.ptr j8)]),(ch [tI,tI]),0,zfb⟩
theorem zz1:Sq zoF:=ms1 (d:=false) (K:=0) Tryz.func193 (by kernel_rfl) (funext fun (x0,())=>by kernel_rfl)
def zeh:((Option yk) × (Int × (zk × Unit)))→Option ((List zk) × (Int × Unit)):=fun (x0,x1,x2,()) =>
 Option.bind (vX (x0,())) fun q0=>bif q0.1 then bif decide (x1 < 0) then some ([],1,()) else Option.bind x0 fun q1=>bif decide (x1 ≥ ((List.length q1.1):Int)) then some ([],1,()) else Option.bind x0 fun q2=>Option.bind (zah (q2.1,())) fun q3=>inR x1 ((List.length q3.1):Int) (some (List.set q3.1 (Int.toNat x1) x2,0,())) else some ([],11,())
abbrev zsk:Fun:=⟨101,(ch [(.ptr j8),tI,zu]),(ch [(.sl zu),tI]),0,zeh⟩
theorem zD7:Sq zsk:=ms1 (d:=false) (K:=0) Tryz.func101 (by kernel_rfl) (funext fun (x0,x1,x2,())=>by kernel_rfl)
abbrev zbh:Type:=(List zz) × Int
abbrev zz2:zbh→St:=fun (v0,v3)=>St.mk [(0,.dat (.sl zo) v0),(3,.dat tI v3)] []
def zfc (k0:zbh→Option (Bool × Unit)):zbh→Option (Bool × Unit):=fun (v0,v3) =>
 bif decide (v3 < ((List.length v0):Int)) then inR v3 ((List.length v0):Int) (Option.bind (ziu (ix qO v0 v3,())) fun q0=>bif q0.1 then inR (wI (v3 - 1)) ((List.length v0):Int) (inR v3 ((List.length v0):Int) (Option.bind (zlM (List.getD v0 (Int.toNat (wI (v3 - 1))) (ze zo),ix qO v0 v3,())) fun q1=>bif decide (q1.1 ≥ 0) then some (false,()) else k0 (v0,wI (v3 + 1)))) else some (false,())) else some (true,())
abbrev ziY (K:Nat):zbh→Option (Bool × Unit):=zg zfc K
theorem zz3 (K:Nat):∀ n,evV Es1 K Tryz.f196 0 (ch [.bool]) [1,1,0,1,0] [] zz2 n = zg zfc n:=zn fun n0 (v0,v3)=>by kernel_rfl
def zhd (L0:zbh→Option (Bool × Unit)):((List zz) × Unit)→Option (Bool × Unit):=fun (x0,()) =>
 bif decide (((List.length x0):Int) < 1) then some (false,()) else bif decide (((List.length x0):Int) > 8) then some (false,()) else bif decide (0 < ((List.length x0):Int)) then bif !eqI zo (ix qO x0 0) (ze zo) then some (false,()) else L0 (x0,1) else none
def zhe:((List zz) × Unit)→Option (Bool × Unit):=zhd (ziY K0)
abbrev zsl:Fun:=⟨196,(ch [(.sl zo)]),(ch [.bool]),0,zhe⟩
theorem zD8:Sq zsl:=ml1 (d:=false) (S:=fun K=>zhd (ziY K)) Tryz.func196 (by kernel_rfl) (fun K=>tr1 (T:=zhd) (zz3 K K) fun (x0,())=>by kernel_rfl) rfl
abbrev y9:Type:=(List qu) × Int × Int
abbrev zmn:y9→St:=fun (v0,v3,v4)=>St.mk [(0,.dat (.sl qz) v0),(3,.dat tI v3),(4,.dat tI v4)] []
abbrev jN:Type:=(List qu) × Int
abbrev zmo:jN→St:=fun (v0,v3)=>St.mk [(0,.dat (.sl qz) v0),(3,.dat tI v3)] []
def zcl (k0:jN→Option (Bool × Unit)) (k1:y9→Option (Bool × Unit)):y9→Option (Bool × Unit):=fun (v0,v3,v4) =>
 bif decide (v4 < v3) then inR v4 ((List.length v0):Int) (inR v3 ((List.length v0):Int) (bif ByteArray.toList (ix qH v0 v4).1 == ByteArray.toList (ix qH v0 v3).1 then some (false,()) else k1 (v0,v3,wI (v4 + 1)))) else k0 (v0,wI (v3 + 1))
abbrev zcm (K:Nat) (k0:jN→Option (Bool × Unit)):y9→Option (Bool × Unit):=zg (fun k1=>zcl k0 k1) K
theorem zwR (K:Nat) (n0:Nat):∀ n,evV Es1 K Tryz.f197 0 (ch [.bool]) [1,1,0,1,0,0,1,0,0,1,1,0] [n0] zmn n = zg (fun k1=>zcl (evV Es1 K Tryz.f197 0 (ch [.bool]) [1,1,0,1,0] [] zmo n0) k1) n:=zn fun n1 (v0,v3,v4)=>by kernel_rfl
def zaa (L1:y9→Option (Bool × Unit)) (k0:jN→Option (Bool × Unit)):jN→Option (Bool × Unit):=fun (v0,v3) =>
 bif decide (v3 < ((List.length v0):Int)) then inR v3 ((List.length v0):Int) (Option.bind (zD ((ix qH v0 v3).1,())) fun q0=>bif q0.1 then inR v3 ((List.length v0):Int) (Option.bind (zD ((ix qH v0 v3).2.1,())) fun q1=>bif q1.1 then inR v3 ((List.length v0):Int) (bif decide ((ix qH v0 v3).2.2.1 < 0) then some (false,()) else inR v3 ((List.length v0):Int) (bif decide ((ix qH v0 v3).2.2.1 > 3) then some (false,()) else L1 (v0,v3,0))) else some (false,())) else some (false,())) else some (true,())
abbrev zgI (K:Nat):jN→Option (Bool × Unit):=zg (fun k0=>zaa (zcm K k0) k0) K
theorem zwS (K:Nat):∀ n,evV Es1 K Tryz.f197 0 (ch [.bool]) [1,1,0,1,0] [] zmo n = zg (fun k0=>zaa (zcm K k0) k0) n:=qx (B:=fun L1 k0=>zaa L1 k0) (V1:=fun n0=>evV Es1 K Tryz.f197 0 (ch [.bool]) [1,1,0,1,0,0,1,0,0,1,1,0] [n0] zmn K) (W1:=fun k0=>(zcm K k0)) (fun n0=>zwR K n0 K) fun n0 (v0,v3)=>by kernel_rfl
def zfd (L0:jN→Option (Bool × Unit)):((List qu) × Unit)→Option (Bool × Unit):=fun (x0,()) =>
 bif decide (((List.length x0):Int) < 1) then some (false,()) else bif decide (((List.length x0):Int) > 8) then some (false,()) else L0 (x0,0)
def zfe:((List qu) × Unit)→Option (Bool × Unit):=zfd (zgI K0)
abbrev zoG:Fun:=⟨197,(ch [(.sl qz)]),(ch [.bool]),0,zfe⟩
theorem zz4:Sq zoG:=ml1 (d:=false) (S:=fun K=>zfd (zgI K)) Tryz.func197 (by kernel_rfl) (fun K=>tr1 (T:=zfd) (zwS K K) fun (x0,())=>by kernel_rfl) rfl
abbrev zbi:Type:=(List zP) × (List zz) × Int × Int
abbrev zoH:zbi→St:=fun (v0,v1,v8,v9)=>St.mk [(0,.dat (.sl qY) v0),(1,.dat (.sl zo) v1),(8,.dat tI v8),(9,.dat tI v9)] []
abbrev vv:Type:=(List zP) × (List zz) × Int
abbrev ziZ:vv→St:=fun (v0,v1,v8)=>St.mk [(0,.dat (.sl qY) v0),(1,.dat (.sl zo) v1),(8,.dat tI v8)] []
abbrev zbj:Type:=(List zP) × (List zz) × Int × Int
abbrev zz5:zbj→St:=fun (v0,v1,v2,v7)=>St.mk [(0,.dat (.sl qY) v0),(1,.dat (.sl zo) v1),(2,.dat tI v2),(7,.dat tI v7)] []
def yN (k1:vv→Option (Bool × Unit)) (k2:zbi→Option (Bool × Unit)):zbi→Option (Bool × Unit):=fun (v0,v1,v8,v9) =>
 bif decide (v9 < 64) then inR v8 ((List.length v1):Int) (Option.bind (zfP (ix qO v1 v8,v9,())) fun q4=>bif q4.1 then Option.bind (zq8 (v0,v9,())) fun q5=>bif q5.1 then k2 (v0,v1,v8,wI (v9 + 1)) else some (false,()) else k2 (v0,v1,v8,wI (v9 + 1))) else k1 (v0,v1,wI (v8 + 1))
abbrev zi0 (K:Nat) (k1:vv→Option (Bool × Unit)):zbi→Option (Bool × Unit):=zg (fun k2=>yN k1 k2) K
theorem zz6 (K:Nat) (n1:Nat):∀ n,evV Es1 K Tryz.f198 0 (ch [.bool]) [1,1,1,0,1,0,0,1,0,0,1,0] [n1] zoH n = zg (fun k2=>yN (evV Es1 K Tryz.f198 0 (ch [.bool]) [1,1,1,0,1,0] [] ziZ n1) k2) n:=zn fun n2 (v0,v1,v8,v9)=>by kernel_rfl
def zbk (L2:zbi→Option (Bool × Unit)) (k1:vv→Option (Bool × Unit)):vv→Option (Bool × Unit):=fun (v0,v1,v8) =>
 bif decide (v8 < ((List.length v1):Int)) then L2 (v0,v1,v8,0) else some (true,())
abbrev zff (K:Nat):vv→Option (Bool × Unit):=zg (fun k1=>zbk (zi0 K k1) k1) K
theorem zz7 (K:Nat):∀ n,evV Es1 K Tryz.f198 0 (ch [.bool]) [1,1,1,0,1,0] [] ziZ n = zg (fun k1=>zbk (zi0 K k1) k1) n:=qx (B:=fun L2 k1=>zbk L2 k1) (V1:=fun n1=>evV Es1 K Tryz.f198 0 (ch [.bool]) [1,1,1,0,1,0,0,1,0,0,1,0] [n1] zoH K) (W1:=fun k1=>(zi0 K k1)) (fun n1=>zz6 K n1 K) fun n1 (v0,v1,v8)=>by kernel_rfl
def zbl (L1:vv→Option (Bool × Unit)) (k0:zbj→Option (Bool × Unit)):zbj→Option (Bool × Unit):=fun (v0,v1,v2,v7) =>
 bif decide (v7 < ((List.length v0):Int)) then inR v7 ((List.length v0):Int) (bif decide ((ix qr v0 v7).1 < 0) then some (false,()) else inR v7 ((List.length v0):Int) (bif decide ((ix qr v0 v7).1 > 63) then some (false,()) else inR v7 ((List.length v0):Int) (bif decide ((ix qr v0 v7).2.1 < 0) then some (false,()) else inR v7 ((List.length v0):Int) (bif decide ((ix qr v0 v7).2.1 ≥ v2) then some (false,()) else bif decide (v7 > 0) then inR (wI (v7 - 1)) ((List.length v0):Int) (inR v7 ((List.length v0):Int) (bif decide ((List.getD v0 (Int.toNat (wI (v7 - 1))) (ze qY)).1 ≥ (ix qr v0 v7).1) then some (false,()) else inR v7 ((List.length v0):Int) (Option.bind (zgD ((ix qr v0 v7).1,())) fun q0=>Option.bind (ziw (v1,q0.1,())) fun q1=>bif decide (q1.1 < 0) then some (false,()) else k0 (v0,v1,v2,wI (v7 + 1))))) else inR v7 ((List.length v0):Int) (Option.bind (zgD ((ix qr v0 v7).1,())) fun q2=>Option.bind (ziw (v1,q2.1,())) fun q3=>bif decide (q3.1 < 0) then some (false,()) else k0 (v0,v1,v2,wI (v7 + 1))))))) else L1 (v0,v1,0)
abbrev zi1 (K:Nat):zbj→Option (Bool × Unit):=zg (fun k0=>zbl (zff K) k0) K
theorem zz8 (K:Nat):∀ n,evV Es1 K Tryz.f198 0 (ch [.bool]) [1,1,0,1,0] [] zz5 n = zg (fun k0=>zbl (zff K) k0) n:=qx (B:=fun L1 k0=>zbl L1 k0) (V1:=fun n0=>evV Es1 K Tryz.f198 0 (ch [.bool]) [1,1,1,0,1,0] [] ziZ K) (W1:=fun k0=>(zff K)) (fun n0=>zz7 K K) fun n0 (v0,v1,v2,v7)=>by kernel_rfl
def zhf (L0:zbj→Option (Bool × Unit)):((List zP) × ((List zz) × (Int × Unit)))→Option (Bool × Unit):=fun (x0,x1,x2,()) =>
 bif decide (((List.length x0):Int) > 8) then some (false,()) else L0 (x0,x1,x2,0)
def zhg:((List zP) × (List zz) × Int × Unit)→Option (Bool × Unit):=zhf (zi1 K0)
abbrev zsm:Fun:=⟨198,(ch [(.sl qY),(.sl zo),tI]),(ch [.bool]),0,zhg⟩
theorem zD9:Sq zsm:=ml1 (d:=false) (S:=fun K=>zhf (zi1 K)) Tryz.func198 (by kernel_rfl) (fun K=>tr1 (T:=zhf) (zz8 K K) fun (x0,x1,x2,())=>by kernel_rfl) rfl
abbrev zbm:Type:=(List zba) × Int × Int
abbrev zz9:zbm→St:=fun (v0,v3,v4)=>St.mk [(0,.dat (.sl zb4) v0),(3,.dat tU v3),(4,.dat tI v4)] []
def yO (k0:zbm→Option (Bool × Unit)):zbm→Option (Bool × Unit):=fun (v0,v3,v4) =>
 bif decide (v4 < ((List.length v0):Int)) then inR v4 ((List.length v0):Int) (Option.bind (yl ((ix qp v0 v4).1,())) fun q0=>bif q0.1 then Option.bind (yl ((ix qp v0 v4).2.1,())) fun q1=>bif q1.1 then Option.bind (yl ((ix qp v0 v4).2.2.1,())) fun q2=>bif q2.1 then Option.bind (yl ((ix qp v0 v4).2.2.2.1,())) fun q3=>bif q3.1 then Option.bind (yl ((ix qp v0 v4).2.2.2.2.1,())) fun q4=>bif q4.1 then bif decide ((ix qp v0 v4).2.2.2.2.2.1 > v3) then some (false,()) else k0 (v0,wU (v3 - (ix qp v0 v4).2.2.2.2.2.1),wI (v4 + 1)) else some (false,()) else some (false,()) else some (false,()) else some (false,()) else some (false,())) else bif decide (((List.length v0):Int) > 0) then bif decide (0 < ((List.length v0):Int)) then bif decide ((ix qp v0 0).1 > 0) then some (true,()) else some (false,()) else none else some (false,())
abbrev zoI (K:Nat):zbm→Option (Bool × Unit):=zg yO K
theorem zAa (K:Nat):∀ n,evV Es1 K Tryz.f199 0 (ch [.bool]) [1,1,0,1,0] [] zz9 n = zg yO n:=zn fun n0 (v0,v3,v4)=>by kernel_rfl
def zlm (L0:zbm→Option (Bool × Unit)):((List zba) × Unit)→Option (Bool × Unit):=fun (x0,()) =>
 L0 (x0,4611686018427387904,0)
def zln:((List zba) × Unit)→Option (Bool × Unit):=zlm (zoI K0)
abbrev zsn:Fun:=⟨199,(ch [(.sl zb4)]),(ch [.bool]),0,zln⟩
theorem zEa:Sq zsn:=ml1 (d:=false) (S:=fun K=>zlm (zoI K)) Tryz.func199 (by kernel_rfl) (fun K=>tr1 (T:=zlm) (zAa K K) fun (x0,())=>by kernel_rfl) rfl
def zgJ:(Int × (Int × (Int × Unit)))→Option (Int × (Int × Unit)):=fun (x0,x1,x2,()) =>
 bif decide (x0 < 1) then some (0,1,()) else bif decide (x0 > 2) then some (0,1,()) else bif x1 == 0 then some (0,1,()) else bif x2 == 0 then some (0,1,()) else Option.bind (ziz (x1,x2,())) fun q0=>bif q0.2.1 == 0 then bif x0 == 2 then some (x1,q0.2.1,()) else some (q0.1,q0.2.1,()) else some (q0.1,q0.2.1,())
abbrev zwT:Fun:=⟨351,(ch [tI,tU,tU]),(ch [tU,tI]),0,zgJ⟩
theorem zI9:Sq zwT:=ms1 (d:=false) (K:=0) Tryz.func351 (by kernel_rfl) (funext fun (x0,x1,x2,())=>by kernel_rfl)
abbrev zcn:Type:=(List qP) × Int
abbrev zB0:zcn→St:=fun (v0,v3)=>St.mk [(0,.dat (.sl qh) v0),(3,.dat tI v3)] []
def zco (k0:zcn→Option (Bool × Unit)):zcn→Option (Bool × Unit):=fun (v0,v3) =>
 bif decide (v3 < ((List.length v0):Int)) then inR v3 ((List.length v0):Int) (bif (ix zg4 v0 v3).1 then inR v3 ((List.length v0):Int) (Option.bind (zD ((ix zg4 v0 v3).2.1,())) fun q0=>bif q0.1 then inR v3 ((List.length v0):Int) (bif (ix zg4 v0 v3).1 then k0 (v0,wI (v3 + 1)) else inR v3 ((List.length v0):Int) (bif !ByteArray.toList (ix zg4 v0 v3).2.1 == ByteArray.toList (ByteArray.mk #[]) then some (false,()) else k0 (v0,wI (v3 + 1)))) else some (false,())) else inR v3 ((List.length v0):Int) (Option.bind (zD ((ix zg4 v0 v3).2.1,())) fun q1=>bif q1.1 then some (false,()) else inR v3 ((List.length v0):Int) (bif (ix zg4 v0 v3).1 then k0 (v0,wI (v3 + 1)) else inR v3 ((List.length v0):Int) (bif !ByteArray.toList (ix zg4 v0 v3).2.1 == ByteArray.toList (ByteArray.mk #[]) then some (false,()) else k0 (v0,wI (v3 + 1)))))) else some (true,())
abbrev zp6 (K:Nat):zcn→Option (Bool × Unit):=zg zco K
theorem zB1 (K:Nat):∀ n,evV Es1 K Tryz.f203 0 (ch [.bool]) [1,0,1,0] [] zB0 n = zg zco n:=zn fun n0 (v0,v3)=>by kernel_rfl
def zmF (L0:zcn→Option (Bool × Unit)):((List qP) × Unit)→Option (Bool × Unit):=fun (x0,()) =>
 L0 (x0,0)
def zmG:((List qP) × Unit)→Option (Bool × Unit):=zmF (zp6 K0)
abbrev zuw:Fun:=⟨203,(ch [(.sl qh)]),(ch [.bool]),0,zmG⟩
theorem zGi:Sq zuw:=ml1 (d:=false) (S:=fun K=>zmF (zp6 K)) Tryz.func203 (by kernel_rfl) (fun K=>tr1 (T:=zmF) (zB1 K K) fun (x0,())=>by kernel_rfl) rfl
abbrev zcp:Type:=(List qb) × Int × Int × qb
abbrev zp7:zcp→St:=fun (v0,v3,v5,o0)=>St.mk [(0,.dat (.sl zU) v0),(3,.dat tI v3),(4,.bp 0 []),(5,.dat tI v5)] [.bx (.dat zU o0) false]
abbrev yb:Type:=(List qb) × Int
abbrev zp8:yb→St:=fun (v0,v3)=>St.mk [(0,.dat (.sl zU) v0),(3,.dat tI v3)] []
def zcq (k0:yb→Option (Bool × Unit)) (k1:zcp→Option (Bool × Unit)):zcp→Option (Bool × Unit):=fun (v0,v3,v5,o0) =>
 bif decide (v5 < v3) then bif o0.1 then inR v5 ((List.length v0):Int) (bif (ix qf v0 v5).1 then inR v5 ((List.length v0):Int) (bif eqI zL (ix qf v0 v5).2.1 o0.2.1 then inR v5 ((List.length v0):Int) (bif (ix qf v0 v5).2.2.2.1 == o0.2.2.2.1 then some (false,()) else k1 (v0,v3,wI (v5 + 1),o0)) else k1 (v0,v3,wI (v5 + 1),o0)) else k1 (v0,v3,wI (v5 + 1),o0)) else k1 (v0,v3,wI (v5 + 1),o0) else k0 (v0,wI (v3 + 1))
abbrev zcr (K:Nat) (k0:yb→Option (Bool × Unit)):zcp→Option (Bool × Unit):=zg (fun k1=>zcq k0 k1) K
theorem zB2 (K:Nat) (n0:Nat):∀ n,evV Es1 K Tryz.f204 0 (ch [.bool]) [1,0,1,0,0,1,0,0,1,1,1,0] [n0] zp7 n = zg (fun k1=>zcq (evV Es1 K Tryz.f204 0 (ch [.bool]) [1,0,1,0] [] zp8 n0) k1) n:=zn fun n1 (v0,v3,v5,o0)=>by kernel_rfl
def zak (L1:zcp→Option (Bool × Unit)) (k0:yb→Option (Bool × Unit)):yb→Option (Bool × Unit):=fun (v0,v3) =>
 bif decide (v3 < ((List.length v0):Int)) then inR v3 ((List.length v0):Int) (bif (ix qf v0 v3).1 then bif (ix qf v0 v3).1 then Option.bind (qF ((ix qf v0 v3).2.1,())) fun q0=>bif q0.1 then Option.bind (qF ((ix qf v0 v3).2.2.1,())) fun q1=>bif q1.1 then bif decide ((ix qf v0 v3).2.2.2.1 < 0) then some (false,()) else bif decide ((ix qf v0 v3).2.2.2.1 > 5) then some (false,()) else L1 (v0,v3,0,ix qf v0 v3) else some (false,()) else some (false,()) else L1 (v0,v3,0,ix qf v0 v3) else bif !eqI zU (ix qf v0 v3) (ze zU) then some (false,()) else bif (ix qf v0 v3).1 then Option.bind (qF ((ix qf v0 v3).2.1,())) fun q2=>bif q2.1 then Option.bind (qF ((ix qf v0 v3).2.2.1,())) fun q3=>bif q3.1 then bif decide ((ix qf v0 v3).2.2.2.1 < 0) then some (false,()) else bif decide ((ix qf v0 v3).2.2.2.1 > 5) then some (false,()) else L1 (v0,v3,0,ix qf v0 v3) else some (false,()) else some (false,()) else L1 (v0,v3,0,ix qf v0 v3)) else some (true,())
abbrev zp9 (K:Nat):yb→Option (Bool × Unit):=zg (fun k0=>zak (zcr K k0) k0) K
theorem zB3 (K:Nat):∀ n,evV Es1 K Tryz.f204 0 (ch [.bool]) [1,0,1,0] [] zp8 n = zg (fun k0=>zak (zcr K k0) k0) n:=qx (B:=fun L1 k0=>zak L1 k0) (V1:=fun n0=>evV Es1 K Tryz.f204 0 (ch [.bool]) [1,0,1,0,0,1,0,0,1,1,1,0] [n0] zp7 K) (W1:=fun k0=>(zcr K k0)) (fun n0=>zB2 K n0 K) fun n0 (v0,v3)=>by kernel_rfl
def zmH (L0:yb→Option (Bool × Unit)):((List qb) × Unit)→Option (Bool × Unit):=fun (x0,()) =>
 L0 (x0,0)
def zmI:((List qb) × Unit)→Option (Bool × Unit):=zmH (zp9 K0)
abbrev zux:Fun:=⟨204,(ch [(.sl zU)]),(ch [.bool]),0,zmI⟩
theorem zGj:Sq zux:=ml1 (d:=false) (S:=fun K=>zmH (zp9 K)) Tryz.func204 (by kernel_rfl) (fun K=>tr1 (T:=zmH) (zB3 K K) fun (x0,())=>by kernel_rfl) rfl
end
end Go.Proofs.YtkcakhbkoeimdaaGreatDoor
end
section
namespace Go.Proofs.YtkcakhbkoeimdaaGreatDoor
open Go.Ev
noncomputable section
abbrev zcs:Type:=(List z5) × Int
abbrev zB4:zcs→St:=fun (v0,v3)=>St.mk [(0,.dat (.sl zH) v0),(3,.dat tI v3)] []
def zct (k0:zcs→Option (Bool × Unit)):zcs→Option (Bool × Unit):=fun (v0,v3) =>
 bif decide (v3 < ((List.length v0):Int)) then inR v3 ((List.length v0):Int) (bif (ix zC v0 v3).1 then bif (ix zC v0 v3).2.2.1 == 1 then Option.bind (zh7 ((ix zC v0 v3).2.2.2.1,())) fun q0=>bif q0.1 then bif eqI zL (ix zC v0 v3).2.2.2.2.1 (ze zL) then bif (ix zC v0 v3).2.2.1 == 2 then bif (ix zC v0 v3).2.2.2.1 == 0 then Option.bind (qF ((ix zC v0 v3).2.2.2.2.1,())) fun q1=>bif q1.1 then Option.bind (zD ((ix zC v0 v3).2.1,())) fun q2=>bif q2.1 then k0 (v0,wI (v3 + 1)) else some (false,()) else Option.bind (zD ((ix zC v0 v3).2.1,())) fun q3=>bif q3.1 then k0 (v0,wI (v3 + 1)) else some (false,()) else Option.bind (zD ((ix zC v0 v3).2.1,())) fun q4=>bif q4.1 then k0 (v0,wI (v3 + 1)) else some (false,()) else Option.bind (zD ((ix zC v0 v3).2.1,())) fun q5=>bif q5.1 then k0 (v0,wI (v3 + 1)) else some (false,()) else bif (ix zC v0 v3).2.2.1 == 2 then bif (ix zC v0 v3).2.2.2.1 == 0 then Option.bind (qF ((ix zC v0 v3).2.2.2.2.1,())) fun q6=>bif q6.1 then Option.bind (zD ((ix zC v0 v3).2.1,())) fun q7=>bif q7.1 then k0 (v0,wI (v3 + 1)) else some (false,()) else Option.bind (zD ((ix zC v0 v3).2.1,())) fun q8=>bif q8.1 then some (false,()) else some (false,()) else Option.bind (zD ((ix zC v0 v3).2.1,())) fun q9=>bif q9.1 then some (false,()) else some (false,()) else Option.bind (zD ((ix zC v0 v3).2.1,())) fun q10=>bif q10.1 then some (false,()) else some (false,()) else bif (ix zC v0 v3).2.2.1 == 2 then bif (ix zC v0 v3).2.2.2.1 == 0 then Option.bind (qF ((ix zC v0 v3).2.2.2.2.1,())) fun q11=>bif q11.1 then Option.bind (zD ((ix zC v0 v3).2.1,())) fun q12=>bif q12.1 then k0 (v0,wI (v3 + 1)) else some (false,()) else Option.bind (zD ((ix zC v0 v3).2.1,())) fun q13=>bif q13.1 then some (false,()) else some (false,()) else Option.bind (zD ((ix zC v0 v3).2.1,())) fun q14=>bif q14.1 then some (false,()) else some (false,()) else Option.bind (zD ((ix zC v0 v3).2.1,())) fun q15=>bif q15.1 then some (false,()) else some (false,()) else bif (ix zC v0 v3).2.2.1 == 3 then Option.bind (zh7 ((ix zC v0 v3).2.2.2.1,())) fun q16=>bif q16.1 then bif eqI zL (ix zC v0 v3).2.2.2.2.1 (ze zL) then bif (ix zC v0 v3).2.2.1 == 2 then bif (ix zC v0 v3).2.2.2.1 == 0 then Option.bind (qF ((ix zC v0 v3).2.2.2.2.1,())) fun q17=>bif q17.1 then Option.bind (zD ((ix zC v0 v3).2.1,())) fun q18=>bif q18.1 then k0 (v0,wI (v3 + 1)) else some (false,()) else Option.bind (zD ((ix zC v0 v3).2.1,())) fun q19=>bif q19.1 then k0 (v0,wI (v3 + 1)) else some (false,()) else Option.bind (zD ((ix zC v0 v3).2.1,())) fun q20=>bif q20.1 then k0 (v0,wI (v3 + 1)) else some (false,()) else Option.bind (zD ((ix zC v0 v3).2.1,())) fun q21=>bif q21.1 then k0 (v0,wI (v3 + 1)) else some (false,()) else bif (ix zC v0 v3).2.2.1 == 2 then bif (ix zC v0 v3).2.2.2.1 == 0 then Option.bind (qF ((ix zC v0 v3).2.2.2.2.1,())) fun q22=>bif q22.1 then Option.bind (zD ((ix zC v0 v3).2.1,())) fun q23=>bif q23.1 then k0 (v0,wI (v3 + 1)) else some (false,()) else Option.bind (zD ((ix zC v0 v3).2.1,())) fun q24=>bif q24.1 then some (false,()) else some (false,()) else Option.bind (zD ((ix zC v0 v3).2.1,())) fun q25=>bif q25.1 then some (false,()) else some (false,()) else Option.bind (zD ((ix zC v0 v3).2.1,())) fun q26=>bif q26.1 then some (false,()) else some (false,()) else bif (ix zC v0 v3).2.2.1 == 2 then bif (ix zC v0 v3).2.2.2.1 == 0 then Option.bind (qF ((ix zC v0 v3).2.2.2.2.1,())) fun q27=>bif q27.1 then Option.bind (zD ((ix zC v0 v3).2.1,())) fun q28=>bif q28.1 then k0 (v0,wI (v3 + 1)) else some (false,()) else Option.bind (zD ((ix zC v0 v3).2.1,())) fun q29=>bif q29.1 then some (false,()) else some (false,()) else Option.bind (zD ((ix zC v0 v3).2.1,())) fun q30=>bif q30.1 then some (false,()) else some (false,()) else Option.bind (zD ((ix zC v0 v3).2.1,())) fun q31=>bif q31.1 then some (false,()) else some (false,()) else bif (ix zC v0 v3).2.2.1 == 2 then bif (ix zC v0 v3).2.2.2.1 == 0 then Option.bind (qF ((ix zC v0 v3).2.2.2.2.1,())) fun q32=>bif q32.1 then Option.bind (zD ((ix zC v0 v3).2.1,())) fun q33=>bif q33.1 then k0 (v0,wI (v3 + 1)) else some (false,()) else Option.bind (zD ((ix zC v0 v3).2.1,())) fun q34=>bif q34.1 then some (false,()) else some (false,()) else Option.bind (zD ((ix zC v0 v3).2.1,())) fun q35=>bif q35.1 then some (false,()) else some (false,()) else Option.bind (zD ((ix zC v0 v3).2.1,())) fun q36=>bif q36.1 then some (false,()) else some (false,()) else bif !eqI zH (ix zC v0 v3) (ze zH) then some (false,()) else k0 (v0,wI (v3 + 1))) else some (true,())
abbrev zqa (K:Nat):zcs→Option (Bool × Unit):=zg zct K
theorem zB5 (K:Nat):∀ n,evV Es1 K Tryz.f205 0 (ch [.bool]) [1,0,1,0] [] zB4 n = zg zct n:=zn fun n0 (v0,v3)=>by kernel_rfl
def zmJ (L0:zcs→Option (Bool × Unit)):((List z5) × Unit)→Option (Bool × Unit):=fun (x0,()) =>
 L0 (x0,0)
def zmK:((List z5) × Unit)→Option (Bool × Unit):=zmJ (zqa K0)
abbrev zuy:Fun:=⟨205,(ch [(.sl zH)]),(ch [.bool]),0,zmK⟩
theorem zGk:Sq zuy:=ml1 (d:=false) (S:=fun K=>zmJ (zqa K)) Tryz.func205 (by kernel_rfl) (fun K=>tr1 (T:=zmJ) (zB5 K K) fun (x0,())=>by kernel_rfl) rfl
abbrev zei:Type:=ByteArray × Int
abbrev zEb:zei→St:=fun (v0,v3)=>St.mk [(0,.dat .str v0),(3,.dat tI v3)] []
def zhh (k0:zei→Option (Bool × Unit)):zei→Option (Bool × Unit):=fun (v0,v3) =>
 bif decide (v3 < (↑(ByteArray.size v0):Int)) then inR v3 (↑(ByteArray.size v0):Int) (Option.bind (zlO ((↑(UInt8.toNat (List.getD (Array.toList (ByteArray.data v0)) (Int.toNat v3) 0)):Int),())) fun q0=>bif q0.1 then k0 (v0,wI (v3 + 1)) else some (false,())) else some (true,())
abbrev zlo (K:Nat):zei→Option (Bool × Unit):=zg zhh K
theorem zEc (K:Nat):∀ n,evV Es1 K Tryz.f50 0 (ch [.bool]) [1,1,0,1,0] [] zEb n = zg zhh n:=zn fun n0 (v0,v3)=>by kernel_rfl
def zj6 (L0:zei→Option (Bool × Unit)):(ByteArray × Unit)→Option (Bool × Unit):=fun (x0,()) =>
 bif (↑(ByteArray.size x0):Int) == 0 then some (false,()) else bif decide ((↑(ByteArray.size x0):Int) > 40) then some (false,()) else bif decide (0 < (↑(ByteArray.size x0):Int)) then bif (↑(UInt8.toNat (List.getD (Array.toList (ByteArray.data x0)) (Int.toNat 0) 0)):Int) == 32 then some (false,()) else inR (wI ((↑(ByteArray.size x0):Int) - 1)) (↑(ByteArray.size x0):Int) (bif (↑(UInt8.toNat (List.getD (Array.toList (ByteArray.data x0)) (Int.toNat (wI ((↑(ByteArray.size x0):Int) - 1))) 0)):Int) == 32 then some (false,()) else L0 (x0,0)) else none
def zej:(ByteArray × Unit)→Option (Bool × Unit):=zj6 (zlo K0)
abbrev zwU:Fun:=⟨50,(ch [.str]),(ch [.bool]),0,zej⟩
theorem zJa:Sq zwU:=ml1 (d:=false) (S:=fun K=>zj6 (zlo K)) Tryz.func50 (by kernel_rfl) (fun K=>tr1 (T:=zj6) (zEc K K) fun (x0,())=>by kernel_rfl) rfl
def zj7:(zv × Unit)→Option (Bool × Unit):=fun (x0,()) =>
 bif decide (x0.2.2.2.1.2.1 > 0) then Option.bind (jo (x0.2.1,())) fun q0=>bif q0.1 then Option.bind (jo (x0.2.2.1,())) fun q1=>bif q1.1 then bif x0.2.1 != x0.2.2.1 then Option.bind (jp (x0.2.2.2.1,())) fun q2=>bif q2.1 then Option.bind (jp (x0.2.2.2.2.1,())) fun q3=>bif q3.1 then some (true,()) else some (false,()) else some (false,()) else some (false,()) else some (false,()) else some (false,()) else bif decide (x0.2.2.2.1.2.2.1 ≥ 0) then Option.bind (jo (x0.2.1,())) fun q4=>bif q4.1 then Option.bind (jo (x0.2.2.1,())) fun q5=>bif q5.1 then bif x0.2.1 != x0.2.2.1 then Option.bind (jp (x0.2.2.2.1,())) fun q6=>bif q6.1 then Option.bind (jp (x0.2.2.2.2.1,())) fun q7=>bif q7.1 then some (true,()) else some (false,()) else some (false,()) else some (false,()) else some (false,()) else some (false,()) else bif decide (x0.2.2.2.2.1.2.1 > 0) then Option.bind (jo (x0.2.1,())) fun q8=>bif q8.1 then Option.bind (jo (x0.2.2.1,())) fun q9=>bif q9.1 then bif x0.2.1 != x0.2.2.1 then Option.bind (jp (x0.2.2.2.1,())) fun q10=>bif q10.1 then Option.bind (jp (x0.2.2.2.2.1,())) fun q11=>bif q11.1 then some (true,()) else some (false,()) else some (false,()) else some (false,()) else some (false,()) else some (false,()) else bif decide (x0.2.2.2.2.1.2.2.1 ≥ 0) then Option.bind (jo (x0.2.1,())) fun q12=>bif q12.1 then Option.bind (jo (x0.2.2.1,())) fun q13=>bif q13.1 then bif x0.2.1 != x0.2.2.1 then Option.bind (jp (x0.2.2.2.1,())) fun q14=>bif q14.1 then Option.bind (jp (x0.2.2.2.2.1,())) fun q15=>bif q15.1 then some (true,()) else some (false,()) else some (false,()) else some (false,()) else some (false,()) else some (false,()) else Option.bind (jo (x0.2.1,())) fun q16=>bif q16.1 then Option.bind (jo (x0.2.2.1,())) fun q17=>bif q17.1 then bif x0.2.1 != x0.2.2.1 then Option.bind (jp (x0.2.2.2.1,())) fun q18=>bif q18.1 then Option.bind (jp (x0.2.2.2.2.1,())) fun q19=>bif q19.1 then some (false,()) else some (false,()) else some (false,()) else some (false,()) else some (false,()) else some (false,())
abbrev zwV:Fun:=⟨297,(ch [zw]),(ch [.bool]),0,zj7⟩
theorem zJb:Sq zwV:=ms1 (d:=false) (K:=0) Tryz.func297 (by kernel_rfl) (funext fun (x0,())=>by kernel_rfl)
abbrev zfv:Type:=Int × zz × zz
abbrev zGl:zfv→St:=fun (v5,o0,o1)=>St.mk [(2,.bp 0 []),(3,.bp 1 []),(5,.dat tI v5)] [.bx (.dat zo o0) false,.bx (.dat zo o1) false]
def zfw (k0:zfv→Option (Bool × Unit)):zfv→Option (Bool × Unit):=fun (v5,o0,o1) =>
 bif decide (v5 < 64) then Option.bind (zfP (o0,v5,())) fun q0=>bif q0.1 then Option.bind (zfP (o1,v5,())) fun q1=>bif q1.1 then k0 (wI (v5 + 1),o0,o1) else some (false,()) else k0 (wI (v5 + 1),o0,o1) else bif decide (o0.1 ≤ o1.1) then some (true,()) else some (false,())
abbrev zuz (K:Nat):zfv→Option (Bool × Unit):=zg zfw K
theorem zGm (K:Nat):∀ n,evV Es1 K Tryz.f97 0 (ch [.bool]) [1,0,1,0] [] zGl n = zg zfw n:=zn fun n0 (v5,o0,o1)=>by kernel_rfl
def zrh (L0:zfv→Option (Bool × Unit)):(zz × (zz × Unit))→Option (Bool × Unit):=fun (x0,x1,()) =>
 L0 (0,x0,x1)
def zri:(zz × zz × Unit)→Option (Bool × Unit):=zrh (zuz K0)
abbrev zyW:Fun:=⟨97,(ch [zo,zo]),(ch [.bool]),0,zri⟩
theorem zLe:Sq zyW:=ml1 (d:=false) (S:=fun K=>zrh (zuz K)) Tryz.func97 (by kernel_rfl) (fun K=>tr1 (T:=zrh) (zGm K K) fun (x0,x1,())=>by kernel_rfl) rfl
def zj8:(zd × (zp × (Int × Unit)))→Option (Bool × Unit):=fun (x0,x1,x2,()) =>
 inR x2 ((List.length x1.2.2.2.2.1):Int) (bif (ix zR x1.2.2.2.2.1 x2).1 then Option.bind (jR (x0,(ix zR x1.2.2.2.2.1 x2).2.1,())) fun q0=>bif q0.1 then Option.bind (jR (x0,(ix zR x1.2.2.2.2.1 x2).2.2.1,())) fun q1=>bif q1.1 then bif decide ((ix zR x1.2.2.2.2.1 x2).2.2.2.1.2.2.1 ≥ ((List.length x1.2.2.1):Int)) then some (false,()) else bif decide ((ix zR x1.2.2.2.2.1 x2).2.2.2.2.1.2.2.1 ≥ ((List.length x1.2.2.1):Int)) then some (false,()) else bif decide ((ix zR x1.2.2.2.2.1 x2).2.2.2.1.2.2.1 < 0) then some (true,()) else inR (ix zR x1.2.2.2.2.1 x2).2.2.2.1.2.2.1 ((List.length x1.2.2.1):Int) (bif (List.getD x1.2.2.1 (Int.toNat (ix zR x1.2.2.2.2.1 x2).2.2.2.1.2.2.1) (ze zH)).1 then bif (List.getD x1.2.2.1 (Int.toNat (ix zR x1.2.2.2.2.1 x2).2.2.2.1.2.2.1) (ze zH)).2.2.1 == 3 then bif (List.getD x1.2.2.1 (Int.toNat (ix zR x1.2.2.2.2.1 x2).2.2.2.1.2.2.1) (ze zH)).2.2.2.1 == x2 then some (true,()) else some (false,()) else some (false,()) else some (false,())) else some (false,()) else some (false,()) else some (true,()))
abbrev zwW:Fun:=⟨209,(ch [zl,zx,tI]),(ch [.bool]),0,zj8⟩
theorem zJc:Sq zwW:=ms1 (d:=false) (K:=0) Tryz.func209 (by kernel_rfl) (funext fun (x0,x1,x2,())=>by kernel_rfl)
abbrev zek:Type:=(List zt) × Int × Int × Int
abbrev zEd:zek→St:=fun (v0,v1,v6,v7)=>St.mk [(0,.dat (.sl zr) v0),(1,.dat tI v1),(6,.dat tU v6),(7,.dat tI v7)] []
def zel (k0:zek→Option (Int × (Int × Unit))):zek→Option (Int × (Int × Unit)):=fun (v0,v1,v6,v7) =>
 bif decide (v7 < ((List.length v0):Int)) then inR v7 ((List.length v0):Int) (Option.bind (ziA (ix zI v0 v7,v1,())) fun q0=>Option.bind (vY (v6,q0.1,())) fun q1=>bif q1.2.1 != 0 then some (0,q1.2.1,()) else k0 (v0,v1,q1.1,wI (v7 + 1))) else some (v6,0,())
abbrev zso (K:Nat):zek→Option (Int × (Int × Unit)):=zg zel K
theorem zEe (K:Nat):∀ n,evV Es1 K Tryz.f210 0 (ch [tU,tI]) [1,1,1,0,1,0] [] zEd n = zg zel n:=zn fun n0 (v0,v1,v6,v7)=>by kernel_rfl
def zj9 (L0:zek→Option (Int × (Int × Unit))):((List zt) × (Int × Unit))→Option (Int × (Int × Unit)):=fun (x0,x1,()) =>
 bif decide (x1 < 0) then some (0,1,()) else bif decide (x1 > 3) then some (0,1,()) else L0 (x0,x1,0,0)
def zka:((List zt) × Int × Unit)→Option (Int × Int × Unit):=zj9 (zso K0)
abbrev zwX:Fun:=⟨210,(ch [(.sl zr),tI]),(ch [tU,tI]),0,zka⟩
theorem zJd:Sq zwX:=ml1 (d:=false) (S:=fun K=>zj9 (zso K)) Tryz.func210 (by kernel_rfl) (fun K=>tr1 (T:=zj9) (zEe K K) fun (x0,x1,())=>by kernel_rfl) rfl
abbrev zem:Type:=(List zv) × Int × Int × Int
abbrev zEf:zem→St:=fun (v0,v1,v6,v7)=>St.mk [(0,.dat (.sl zw) v0),(1,.dat tI v1),(6,.dat tU v6),(7,.dat tI v7)] []
def zen (k0:zem→Option (Int × (Int × Unit))):zem→Option (Int × (Int × Unit)):=fun (v0,v1,v6,v7) =>
 bif decide (v7 < ((List.length v0):Int)) then inR v7 ((List.length v0):Int) (bif (ix zR v0 v7).1 then inR v7 ((List.length v0):Int) (bif (ix zR v0 v7).2.2.2.1.1 == v1 then inR v7 ((List.length v0):Int) (Option.bind (vY (v6,(ix zR v0 v7).2.2.2.1.2.1,())) fun q0=>bif q0.2.1 != 0 then some (0,q0.2.1,()) else k0 (v0,v1,q0.1,wI (v7 + 1))) else k0 (v0,v1,v6,wI (v7 + 1))) else k0 (v0,v1,v6,wI (v7 + 1))) else some (v6,0,())
abbrev zsp (K:Nat):zem→Option (Int × (Int × Unit)):=zg zen K
theorem zEg (K:Nat):∀ n,evV Es1 K Tryz.f211 0 (ch [tU,tI]) [1,1,1,0,1,0] [] zEf n = zg zen n:=zn fun n0 (v0,v1,v6,v7)=>by kernel_rfl
def zkb (L0:zem→Option (Int × (Int × Unit))):((List zv) × (Int × Unit))→Option (Int × (Int × Unit)):=fun (x0,x1,()) =>
 bif decide (x1 < 0) then some (0,1,()) else bif decide (x1 > 3) then some (0,1,()) else L0 (x0,x1,0,0)
def zkc:((List zv) × Int × Unit)→Option (Int × Int × Unit):=zkb (zsp K0)
abbrev zwY:Fun:=⟨211,(ch [(.sl zw),tI]),(ch [tU,tI]),0,zkc⟩
theorem zJe:Sq zwY:=ml1 (d:=false) (S:=fun K=>zkb (zsp K)) Tryz.func211 (by kernel_rfl) (fun K=>tr1 (T:=zkb) (zEg K K) fun (x0,x1,())=>by kernel_rfl) rfl
abbrev zeo:Type:=Int × Int × Int × Int × Int × zb
abbrev zsq:zeo→St:=fun (v1,v6,v7,v8,v10,o0)=>St.mk [(1,.dat tI v1),(2,.bp 0 []),(6,.dat tU v6),(7,.dat tU v7),(8,.dat tI v8),(10,.dat tI v10)] [.bx (.dat zq o0) false]
abbrev zep:Type:=Int × Int × Int × Int × Int × zb
abbrev zEh:zep→St:=fun (v1,v6,v7,v8,v9,o0)=>St.mk [(1,.dat tI v1),(2,.bp 0 []),(6,.dat tU v6),(7,.dat tU v7),(8,.dat tI v8),(9,.dat tI v9)] [.bx (.dat zq o0) false]
def zeq (k1:zeo→Option (Int × (Int × Unit))):zeo→Option (Int × (Int × Unit)):=fun (v1,v6,v7,v8,v10,o0) =>
 bif decide (v10 < ((List.length o0.2.1):Int)) then bif v8 == 0 then inR v10 ((List.length o0.2.1):Int) (inR v1 (↑4:Int) (Option.bind (vY (v7,List.getD (ix zf o0.2.1 v10).2.2.2.2.2.2.2.2.1 (Int.toNat v1) (0:Int),())) fun q1=>k1 (v1,v6,q1.1,q1.2.1,wI (v10 + 1),o0))) else bif v8 != 0 then some (0,v8,()) else Option.bind (zfu (v6,v7,())) fun q2=>some (q2.1,q2.2.1,()) else bif v8 != 0 then some (0,v8,()) else Option.bind (zfu (v6,v7,())) fun q3=>some (q3.1,q3.2.1,())
abbrev zaY (K:Nat):zeo→Option (Int × (Int × Unit)):=zg zeq K
theorem zEi (K:Nat):∀ n,evV Es1 K Tryz.f111 0 (ch [tU,tI]) [1,1,1,1,1,1,0,1,0] [] zsq n = zg zeq n:=zn fun n1 (v1,v6,v7,v8,v10,o0)=>by kernel_rfl
def zaZ (L1:zeo→Option (Int × (Int × Unit))) (k0:zep→Option (Int × (Int × Unit))):zep→Option (Int × (Int × Unit)):=fun (v1,v6,v7,v8,v9,o0) =>
 bif decide (v9 < ((List.length o0.2.1):Int)) then bif v8 == 0 then inR v9 ((List.length o0.2.1):Int) (inR v1 (↑4:Int) (Option.bind (vY (v6,List.getD (ix zf o0.2.1 v9).2.2.2.2.2.2.2.1 (Int.toNat v1) (0:Int),())) fun q0=>k0 (v1,q0.1,v7,q0.2.1,wI (v9 + 1),o0))) else L1 (v1,v6,v7,v8,0,o0) else L1 (v1,v6,v7,v8,0,o0)
abbrev zsr (K:Nat):zep→Option (Int × (Int × Unit)):=zg (fun k0=>zaZ (zaY K) k0) K
theorem zEj (K:Nat):∀ n,evV Es1 K Tryz.f111 0 (ch [tU,tI]) [1,1,1,1,1,0,1,0] [] zEh n = zg (fun k0=>zaZ (zaY K) k0) n:=qx (B:=fun L1 k0=>zaZ L1 k0) (V1:=fun n0=>evV Es1 K Tryz.f111 0 (ch [tU,tI]) [1,1,1,1,1,1,0,1,0] [] zsq K) (W1:=fun k0=>(zaY K)) (fun n0=>zEi K K) fun n0 (v1,v6,v7,v8,v9,o0)=>by kernel_rfl
def zkd (L0:zep→Option (Int × (Int × Unit))):(zb × (Int × Unit))→Option (Int × (Int × Unit)):=fun (x0,x1,()) =>
 bif decide (x1 < 0) then some (0,1,()) else bif decide (x1 > 3) then some (0,1,()) else L0 (x1,0,0,0,0,x0)
def zke:(zb × Int × Unit)→Option (Int × Int × Unit):=zkd (zsr K0)
abbrev zwZ:Fun:=⟨111,(ch [zq,tI]),(ch [tU,tI]),0,zke⟩
theorem zJf:Sq zwZ:=ml1 (d:=false) (S:=fun K=>zkd (zsr K)) Tryz.func111 (by kernel_rfl) (fun K=>tr1 (T:=zkd) (zEj K K) fun (x0,x1,())=>by kernel_rfl) rfl
def zkf:(zd × (pMe × Unit))→Option (Bool × Unit):=fun (x0,x1,()) =>
 bif decide (x1.1 ≥ 0) then bif decide (x1.1 < ((List.length x0.2.1):Int)) then inR x1.1 ((List.length x0.2.1):Int) (bif x1.2.1 == ix (0:Int) x0.2.1 x1.1 then Option.bind (jR (x0,x1.2.2.1,())) fun q0=>bif q0.1 then some (true,()) else some (false,()) else some (false,())) else some (false,()) else some (false,())
abbrev zw0:Fun:=⟨60,(ch [zl,tMe]),(ch [.bool]),0,zkf⟩
theorem zJg:Sq zw0:=ms1 (d:=false) (K:=0) Tryz.func60 (by kernel_rfl) (funext fun (x0,x1,())=>by kernel_rfl)
def yP:((Option yk) × (Int × Unit))→Option (Bool × Unit):=fun (x0,x1,()) =>
 Option.bind (vX (x0,())) fun q0=>bif q0.1 then bif decide (x1 ≥ 0) then Option.bind x0 fun q1=>bif decide (x1 < ((List.length q1.1):Int)) then Option.bind x0 fun q2=>Option.bind x0 fun q3=>inR x1 ((List.length q3.1):Int) (Option.bind q2.2.1 fun q4=>Option.bind (q4 (ix qj q3.1 x1,())) fun q5=>bif q5.1 then some (true,()) else some (false,())) else some (false,()) else some (false,()) else some (false,())
abbrev zss:Fun:=⟨102,(ch [(.ptr j8),tI]),(ch [.bool]),0,yP⟩
theorem zEk:Sq zss:=ms1 (d:=false) (K:=0) Tryz.func102 (by kernel_rfl) (funext fun (x0,x1,())=>by kernel_rfl)
abbrev zgK:Type:=(List zk) × Int × Int × List Int
abbrev zJh:zgK→St:=fun (v0,v1,v6,o0)=>St.mk [(0,.dat (.sl zu) v0),(1,.dat tI v1),(5,.ow 0),(6,.dat tI v6)] [.row tI o0 false]
def zgL (k0:zgK→Option ((List Int) × Unit)):zgK→Option ((List Int) × Unit):=fun (v0,v1,v6,o0) =>
 bif decide (v6 < ((List.length v0):Int)) then Option.bind (zg8 (v0,v6,v1,())) fun q0=>bif q0.1 then bif decide (List.length o0 + List.length (zh (List.replicate 1 (0:Int)) 0 v6) ≤ lim) then k0 (v0,v1,wI (v6 + 1),o0 ++ zh (List.replicate 1 (0:Int)) 0 v6) else none else k0 (v0,v1,wI (v6 + 1),o0) else some (o0,())
abbrev zw1 (K:Nat):zgK→Option ((List Int) × Unit):=zg zgL K
theorem zJi (K:Nat):∀ n,evV Es1 K Tryz.f17 0 (ch [(.sl tI)]) [1,1,0,1,0] [] zJh n = zg zgL n:=zn fun n0 (v0,v1,v6,o0)=>by kernel_rfl
def ztJ (L0:zgK→Option ((List Int) × Unit)):((List zk) × (Int × Unit))→Option ((List Int) × Unit):=fun (x0,x1,()) =>
 L0 (x0,x1,0,[])
def ztK:((List zk) × Int × Unit)→Option ((List Int) × Unit):=ztJ (zw1 K0)
abbrev zB6:Fun:=⟨17,(ch [(.sl zu),tI]),(ch [(.sl tI)]),0,ztK⟩
theorem zNp:Sq zB6:=ml1 (d:=false) (S:=fun K=>ztJ (zw1 K)) Tryz.func17 (by kernel_rfl) (fun K=>tr1 (T:=ztJ) (zJi K K) fun (x0,x1,())=>by kernel_rfl) rfl
def zhO:((List Int) × (Int × Unit))→Option (Bool × Unit):=fun (x0,x1,()) =>
 Option.bind (zrZ (x0,x1,())) fun q0=>bif decide (q0.1 ≥ 0) then some (true,()) else some (false,())
abbrev zni:Fun:=⟨73,(ch [(.sl tI),tI]),(ch [.bool]),0,zhO⟩
theorem zyg:Sq zni:=ms1 (d:=false) (K:=0) Tryz.func73 (by kernel_rfl) (funext fun (x0,x1,())=>by kernel_rfl)
def znj:(zP × ((Option zd) × ((Option Int) × Unit)))→Option (Bool × Unit):=fun (x0,x1,x2,()) =>
 Option.bind (zdW (x0.1,())) fun q0=>Option.bind x1 fun q1=>Option.bind x2 fun q2=>inR q2 ((List.length q1.1):Int) (bif eqI zo q0.1 (ix qO q1.1 q2) then some (true,()) else some (false,()))
abbrev znk:Fun:=⟨319,(ch [qY,(.ptr zl),(.ptr tI)]),(ch [.bool]),0,znj⟩
theorem zyh:Sq znk:=ms1 (d:=false) (K:=0) Tryz.func319 (by kernel_rfl) (funext fun (x0,x1,x2,())=>by kernel_rfl)
abbrev yC:Type:=Int × zp × zp
abbrev zk4:yC→St:=fun (v6,o0,o1)=>St.mk [(2,.bp 0 []),(3,.bp 1 []),(6,.dat tI v6)] [.bx (.dat zx o0) false,.bx (.dat zx o1) false]
abbrev yD:Type:=Int × zp × zp
abbrev zvz:yD→St:=fun (v5,o0,o1)=>St.mk [(2,.bp 0 []),(3,.bp 1 []),(5,.dat tI v5)] [.bx (.dat zx o0) false,.bx (.dat zx o1) false]
def yE (k1:yC→Option (Bool × Unit)):yC→Option (Bool × Unit):=fun (v6,o0,o1) =>
 bif decide (v6 < ((List.length o0.2.2.2.2.2.2.1):Int)) then inR v6 ((List.length o0.2.2.2.2.2.2.1):Int) (inR v6 ((List.length o1.2.2.2.2.2.2.1):Int) (bif !eqI zL (ix zIx o0.2.2.2.2.2.2.1 v6) (ix zIx o1.2.2.2.2.2.2.1 v6) then some (false,()) else k1 (wI (v6 + 1),o0,o1))) else some (true,())
abbrev zbN (K:Nat):yC→Option (Bool × Unit):=zg yE K
theorem zvA (K:Nat):∀ n,evV Es1 K Tryz.f66 0 (ch [.bool]) [1,1,1,1,0,1,0] [] zk4 n = zg yE n:=zn fun n1 (v6,o0,o1)=>by kernel_rfl
def vb (L1:yC→Option (Bool × Unit)) (k0:yD→Option (Bool × Unit)):yD→Option (Bool × Unit):=fun (v5,o0,o1) =>
 bif decide (v5 < ((List.length o0.2.2.2.2.2.1):Int)) then inR v5 ((List.length o0.2.2.2.2.2.1):Int) (inR v5 ((List.length o1.2.2.2.2.2.1):Int) (bif !eqI (.arr 4 tU) (List.getD o0.2.2.2.2.2.1 (Int.toNat v5) (ze (.arr 4 tU))) (List.getD o1.2.2.2.2.2.1 (Int.toNat v5) (ze (.arr 4 tU))) then some (false,()) else k0 (wI (v5 + 1),o0,o1))) else L1 (0,o0,o1)
abbrev zf3 (K:Nat):yD→Option (Bool × Unit):=zg (fun k0=>vb (zbN K) k0) K
theorem zvB (K:Nat):∀ n,evV Es1 K Tryz.f66 0 (ch [.bool]) [1,1,1,0,1,0] [] zvz n = zg (fun k0=>vb (zbN K) k0) n:=qx (B:=fun L1 k0=>vb L1 k0) (V1:=fun n0=>evV Es1 K Tryz.f66 0 (ch [.bool]) [1,1,1,1,0,1,0] [] zk4 K) (W1:=fun k0=>(zbN K)) (fun n0=>zvA K K) fun n0 (v5,o0,o1)=>by kernel_rfl
def zdH (L0:yD→Option (Bool × Unit)):(zp × (zp × Unit))→Option (Bool × Unit):=fun (x0,x1,()) =>
 Option.bind (zhL (x0.1,x1.1,())) fun q0=>bif q0.1 then Option.bind (zhN (x0.2.1,x1.2.1,())) fun q1=>bif q1.1 then Option.bind (zor (x0.2.2.1,x1.2.2.1,())) fun q2=>bif q2.1 then Option.bind (zot (x0.2.2.2.1,x1.2.2.2.1,())) fun q3=>bif q3.1 then Option.bind (zov (x0.2.2.2.2.1,x1.2.2.2.2.1,())) fun q4=>bif q4.1 then bif ((List.length x0.2.2.2.2.2.1):Int) != ((List.length x1.2.2.2.2.2.1):Int) then some (false,()) else bif ((List.length x0.2.2.2.2.2.2.1):Int) != ((List.length x1.2.2.2.2.2.2.1):Int) then some (false,()) else bif !eqI (.arr 4 tU) x0.2.2.2.2.2.2.2.1 x1.2.2.2.2.2.2.2.1 then some (false,()) else bif !eqI (.arr 4 tU) x0.2.2.2.2.2.2.2.2.1 x1.2.2.2.2.2.2.2.2.1 then some (false,()) else L0 (0,x0,x1) else some (false,()) else some (false,()) else some (false,()) else some (false,()) else some (false,())
def zdI:(zp × zp × Unit)→Option (Bool × Unit):=zdH (zf3 K0)
abbrev znl:Fun:=⟨66,(ch [zx,zx]),(ch [.bool]),0,zdI⟩
theorem zyi:Sq znl:=ml1 (d:=false) (S:=fun K=>zdH (zf3 K)) Tryz.func66 (by kernel_rfl) (fun K=>tr1 (T:=zdH) (zvB K K) fun (x0,x1,())=>by kernel_rfl) rfl
abbrev L2:List Fun:=zuv :: zow :: zhC :: znh :: zj2 :: zp2 :: zjq :: zia :: zsg :: zgb :: zk3 :: zox :: zwL :: zhD :: zib :: zwM :: zwN :: zic :: zmm :: zid :: zsh :: zsi :: zhE :: zyU :: zwP :: zoy :: zhF :: zoz :: zhG :: zoA :: zyV :: zig :: zjr :: zoB :: zoC :: zoD :: zp3 :: zoE :: zp4 :: zBY :: zp5 :: zoF :: zsk :: zsl :: zoG :: zsm :: zsn :: zwT :: zuw :: zux :: zuy :: zwU :: zwV :: zyW :: zwW :: zwX :: zwY :: zwZ :: zw0 :: zss :: zB6 :: zni :: znk :: znl :: L1
theorem h2:Sds Tryz.prog E0 L2:=⟨zGh,zzS,zpm,zyf,ztH,zBV,zsf,zrc,zD4,zny,zvy,zzT,zI3,zpn,zrd,zI4,zI5,zre,zwO,zrf,zD5,zD6,zpo,zLc,zI6,zzU,zpp,zzV,zpq,zzW,zLd,zrg,zsj,zzX,zzY,zzZ,zBW,zz0,zBX,zNo,zBZ,zz1,zD7,zD8,zz4,zD9,zEa,zI9,zGi,zGj,zGk,zJa,zJb,zLe,zJc,zJd,zJe,zJf,zJg,zEk,zNp,zyg,zyh,zyi,h1⟩
theorem ms2 {d:Bool} {F:Fun} {f:Go.Func} {K:Nat} (hf:Tryz.prog.funcs[F.id]? = some f) (ho:jF f = true) (h:evF (En E0 d L2) K f F.md F.a F.r = F.spec):Sd Tryz.prog E0 F:=mkS h2 hf ho h
theorem ml2 {d:Bool} {F:Fun} {f:Go.Func} {S:Nat→F.a.I→Option F.r.I} (hf:Tryz.prog.funcs[F.id]? = some f) (ho:jF f = true) (h:∀ K,evF (En E0 d L2) K f F.md F.a F.r = S K) (e:S K0 = F.spec):Sd Tryz.prog E0 F:=mkS h2 hf ho ((h K0).trans e)
abbrev Es2:Env:=En E0 false L2
def zlP:(zz × (zz × Unit))→Option (Int × Unit):=fun (x0,x1,()) =>
 Option.bind (zaA (x0.1,x1.1,())) fun q0=>Option.bind (vZ (x0.2.1,x1.2.1,())) fun q1=>Option.bind (zdS (zh (zh (List.replicate 2 (0:Int)) 0 q0.1) 1 q1.1,())) fun q2=>some (q2.1,())
abbrev zyX:Fun:=⟨301,(ch [zo,zo]),(ch [tI]),0,zlP⟩
theorem zLf:Sq zyX:=ms2 (d:=false) (K:=0) Tryz.func301 (by kernel_rfl) (funext fun (x0,x1,())=>by kernel_rfl)
def ym:(zd × Unit)→Option (Bool × Unit):=fun (x0,()) =>
 Option.bind (ql (((List.length x0.2.1):Int),1,8,())) fun q0=>bif q0.1 then Option.bind (qv (x0.2.1,some fun z=>zcj (z.1,some x0,()),())) fun q1=>bif q1.1 then some (false,()) else some (true,()) else some (false,())
abbrev zuA:Fun:=⟨215,(ch [zl]),(ch [.bool]),0,ym⟩
theorem zGn:Sq zuA:=ms2 (d:=false) (K:=0) Tryz.func215 (by kernel_rfl) (funext fun (x0,())=>by kernel_rfl)
def znz:(ByteArray × ((Option ((Int × Unit)→Option (Bool × Unit))) × Unit))→Option (Bool × Unit):=fun (x0,x1,()) =>
 Option.bind (vl (List.map (fun b=>(↑(UInt8.toNat b):Int)) (Array.toList (ByteArray.data x0)),some fun z=>zjL (z.1,some x1,()),())) fun q0=>bif q0.1 then some (false,()) else some (true,())
abbrev zB7:Fun:=⟨121,(ch [.str,(.fn (ch [(.int .u8)]) (ch [.bool]))]),(ch [.bool]),0,znz⟩
theorem zNq:Sq zB7:=ms2 (d:=false) (K:=0) Tryz.func121 (by kernel_rfl) (funext fun (x0,x1,())=>by kernel_rfl)
abbrev zbn:Type:=Int × (List zP) × Int × Int × zd × Int
abbrev zAb:zbn→St:=fun (v4,v11,v12,v13,o0,o1)=>St.mk [(1,.bp 0 []),(3,.bp 1 []),(4,.dat tI v4),(11,.dat (.sl qY) v11),(12,.dat tI v12),(13,.dat tI v13)] [.bx (.dat zl o0) false,.bx (.dat tU o1) false]
def zbo (k0:zbn→Option (Bool × Unit)):zbn→Option (Bool × Unit):=fun (v4,v11,v12,v13,o0,o1) =>
 bif decide (v13 < v12) then inR v13 ((List.length v11):Int) (Option.bind (zdW ((ix qr v11 v13).1,())) fun q0=>bif q0.2.1 != 0 then some (false,()) else bif decide ((ix qr v11 v13).1 ≤ v4) then some (false,()) else Option.bind (ql ((ix qr v11 v13).2.1,0,wI (((List.length o0.2.2.1):Int) - 1),())) fun q1=>bif q1.1 then Option.bind (zbM (o0.1,q0.1,())) fun q2=>bif q2.1 then k0 ((ix qr v11 v13).1,v11,v12,wI (v13 + 1),o0,wU (↑(BitVec.toNat (BitVec.ofInt (IntKind.bits IntKind.u64) o1 ||| BitVec.ofInt (IntKind.bits IntKind.u64) q0.1.2.1)):Int)) else some (false,()) else some (false,())) else bif decide (((List.length o0.2.2.2.1):Int) ≤ 8) then Option.bind (yo (o0.1,some fun z=>ziW (z.1,some o1,()),())) fun q3=>bif q3.1 then some (false,()) else some (true,()) else some (false,())
abbrev zoJ (K:Nat):zbn→Option (Bool × Unit):=zg zbo K
theorem zAc (K:Nat):∀ n,evV Es2 K Tryz.f217 0 (ch [.bool]) [1,1,1,0,1,0] [] zAb n = zg zbo n:=zn fun n0 (v4,v11,v12,v13,o0,o1)=>by kernel_rfl
def zlp (L0:zbn→Option (Bool × Unit)):(zd × Unit)→Option (Bool × Unit):=fun (x0,()) =>
 L0 ((-1),x0.2.2.2.1,((List.length x0.2.2.2.1):Int),0,x0,0)
def vI:(zd × Unit)→Option (Bool × Unit):=zlp (zoJ K0)
abbrev zst:Fun:=⟨217,(ch [zl]),(ch [.bool]),0,vI⟩
theorem zEl:Sq zst:=ml2 (d:=false) (S:=fun K=>zlp (zoJ K)) Tryz.func217 (by kernel_rfl) (fun K=>tr1 (T:=zlp) (zAc K K) fun (x0,())=>by kernel_rfl) rfl
abbrev zbp:Type:=Int × (List zba) × Int × Int
abbrev zAd:zbp→St:=fun (v3,v23,v24,v25)=>St.mk [(3,.dat tU v3),(23,.dat (.sl zb4) v23),(24,.dat tI v24),(25,.dat tI v25)] []
def zfg (k0:zbp→Option (Bool × Unit)):zbp→Option (Bool × Unit):=fun (v3,v23,v24,v25) =>
 bif decide (v25 < v24) then inR v25 ((List.length v23):Int) (bif decide ((ix qp v23 v25).2.2.2.2.2.1 > v3) then some (false,()) else Option.bind (zjN (ix qp v23 v25,())) fun q0=>Option.bind (qv (q0.1,some ze9,())) fun q1=>bif q1.1 then some (false,()) else k0 (wU (v3 - (ix qp v23 v25).2.2.2.2.2.1),v23,v24,wI (v25 + 1))) else some (true,())
abbrev zi2 (K:Nat):zbp→Option (Bool × Unit):=zg zfg K
theorem zAe (K:Nat):∀ n,evV Es2 K Tryz.f218 0 (ch [.bool]) [1,1,1,0,1,0] [] zAd n = zg zfg n:=zn fun n0 (v3,v23,v24,v25)=>by kernel_rfl
def zhi (L0:zbp→Option (Bool × Unit)):(zd × Unit)→Option (Bool × Unit):=fun (x0,()) =>
 bif ((List.length x0.2.2.2.2.1):Int) != ((List.length x0.1):Int) then some (false,()) else bif decide (0 < ((List.length x0.2.2.2.2.1):Int)) then bif decide ((ix qp x0.2.2.2.2.1 0).1 < 1) then some (false,()) else L0 (4611686018427387904,x0.2.2.2.2.1,((List.length x0.2.2.2.2.1):Int),0) else none
def vJ:(zd × Unit)→Option (Bool × Unit):=zhi (zi2 K0)
abbrev zsu:Fun:=⟨218,(ch [zl]),(ch [.bool]),0,vJ⟩
theorem zEm:Sq zsu:=ml2 (d:=false) (S:=fun K=>zhi (zi2 K)) Tryz.func218 (by kernel_rfl) (fun K=>tr1 (T:=zhi) (zAe K K) fun (x0,())=>by kernel_rfl) rfl
def zhP:((List zp) × ((Option ((zp × Unit)→Option (Bool × Unit))) × Unit))→Option (Bool × Unit):=fun (x0,x1,()) =>
 Option.bind (jZ (x0,some fun z=>zbG (z.1,some x1,()),())) fun q0=>bif q0.1 then some (false,()) else some (true,())
abbrev znm:Fun:=⟨138,(ch [(.sl zx),(.fn (ch [zx]) (ch [.bool]))]),(ch [.bool]),0,zhP⟩
theorem zyj:Sq znm:=ms2 (d:=false) (K:=0) Tryz.func138 (by kernel_rfl) (funext fun (x0,x1,())=>by kernel_rfl)
abbrev zer:Type:=(List qb) × (List qb) × Int × Int
abbrev zEn:zer→St:=fun (v0,v5,v6,v7)=>St.mk [(0,.dat (.sl zU) v0),(5,.dat (.sl zU) v5),(6,.dat tI v6),(7,.dat tI v7)] []
def zes (k0:zer→Option (Bool × Unit)):zer→Option (Bool × Unit):=fun (v0,v5,v6,v7) =>
 bif decide (v7 < v6) then inR v7 ((List.length v5):Int) (Option.bind (zj3 (ix qf v5 v7,())) fun q0=>bif q0.1 then some (false,()) else bif (ix qf v5 v7).1 then Option.bind (zj4 (v0,(ix qf v5 v7).2.1,(ix qf v5 v7).2.2.2.1,())) fun q1=>bif q1.1 != v7 then some (false,()) else k0 (v0,v5,v6,wI (v7 + 1)) else k0 (v0,v5,v6,wI (v7 + 1))) else some (true,())
abbrev zsv (K:Nat):zer→Option (Bool × Unit):=zg zes K
theorem zEo (K:Nat):∀ n,evV Es2 K Tryz.f141 0 (ch [.bool]) [1,0,1,0] [] zEn n = zg zes n:=zn fun n0 (v0,v5,v6,v7)=>by kernel_rfl
def zoK (L0:zer→Option (Bool × Unit)):((List qb) × Unit)→Option (Bool × Unit):=fun (x0,()) =>
 L0 (x0,x0,((List.length x0):Int),0)
def zoL:((List qb) × Unit)→Option (Bool × Unit):=zoK (zsv K0)
abbrev zw2:Fun:=⟨141,(ch [(.sl zU)]),(ch [.bool]),0,zoL⟩
theorem zJj:Sq zw2:=ml2 (d:=false) (S:=fun K=>zoK (zsv K)) Tryz.func141 (by kernel_rfl) (fun K=>tr1 (T:=zoK) (zEo K K) fun (x0,())=>by kernel_rfl) rfl
def zlQ:(zv × Unit)→Option (Bool × Unit):=fun (x0,()) =>
 Option.bind (zg6 (x0.2.1,())) fun q0=>bif q0.1 then Option.bind (zg6 (x0.2.2.1,())) fun q1=>bif q1.1 then bif x0.2.1 != x0.2.2.1 then Option.bind (zie (x0.2.2.2.1,())) fun q2=>bif q2.1 then Option.bind (zie (x0.2.2.2.2.1,())) fun q3=>bif q3.1 then Option.bind (zgB (x0.2.2.2.1,())) fun q4=>bif q4.1 then Option.bind (zgB (x0.2.2.2.2.1,())) fun q5=>bif q5.1 then some (false,()) else some (true,()) else some (true,()) else some (false,()) else some (false,()) else some (false,()) else some (false,()) else some (false,())
abbrev zyY:Fun:=⟨247,(ch [zw]),(ch [.bool]),0,zlQ⟩
theorem zLg:Sq zyY:=ms2 (d:=false) (K:=0) Tryz.func247 (by kernel_rfl) (funext fun (x0,())=>by kernel_rfl)
def zih:(Int × (Int × (Int × Unit)))→Option (Int × (Int × Unit)):=fun (x0,x1,x2,()) =>
 bif x0 != 1 then bif x0 != 2 then some (0,1,()) else bif x1 == 0 then some (0,1,()) else bif x2 == 0 then some (0,1,()) else Option.bind (zgF (x1,x2,())) fun q0=>bif q0.2.1 != 0 then some (0,q0.2.1,()) else bif x0 == 2 then some (x1,0,()) else some (q0.1,0,()) else bif x1 == 0 then some (0,1,()) else bif x2 == 0 then some (0,1,()) else Option.bind (zgF (x1,x2,())) fun q1=>bif q1.2.1 != 0 then some (0,q1.2.1,()) else bif x0 == 2 then some (x1,0,()) else some (q1.1,0,())
abbrev zyZ:Fun:=⟨337,(ch [tI,tU,tU]),(ch [tU,tI]),0,zih⟩
theorem zLh:Sq zyZ:=ms2 (d:=false) (K:=0) Tryz.func337 (by kernel_rfl) (funext fun (x0,x1,x2,())=>by kernel_rfl)
def ziC:(zG × (zG × Unit))→Option (Int × Unit):=fun (x0,x1,()) =>
 Option.bind (vZ (x0.1,x1.1,())) fun q0=>Option.bind (zaA (x0.2.1,x1.2.1,())) fun q1=>Option.bind (zdS (zh (zh (List.replicate 2 (0:Int)) 0 q0.1) 1 q1.1,())) fun q2=>some (q2.1,())
abbrev zuB:Fun:=⟨252,(ch [zy,zy]),(ch [tI]),0,ziC⟩
theorem zGo:Sq zuB:=ms2 (d:=false) (K:=0) Tryz.func252 (by kernel_rfl) (funext fun (x0,x1,())=>by kernel_rfl)
def zhQ:((List zt) × ((Option ((zt × Unit)→Option (Bool × Unit))) × Unit))→Option (Bool × Unit):=fun (x0,x1,()) =>
 Option.bind (j3 (x0,some fun z=>zbJ (z.1,some x1,()),())) fun q0=>bif q0.1 then some (false,()) else some (true,())
abbrev znn:Fun:=⟨148,(ch [(.sl zr),(.fn (ch [zr]) (ch [.bool]))]),(ch [.bool]),0,zhQ⟩
theorem zyk:Sq znn:=ms2 (d:=false) (K:=0) Tryz.func148 (by kernel_rfl) (funext fun (x0,x1,())=>by kernel_rfl)
def zdJ:((List zG) × ((Option ((zG × Unit)→Option (Bool × Unit))) × Unit))→Option (Bool × Unit):=fun (x0,x1,()) =>
 Option.bind (j4 (x0,some fun z=>zbK (z.1,some x1,()),())) fun q0=>bif q0.1 then some (false,()) else some (true,())
abbrev zno:Fun:=⟨152,(ch [(.sl zy),(.fn (ch [zy]) (ch [.bool]))]),(ch [.bool]),0,zdJ⟩
theorem zyl:Sq zno:=ms2 (d:=false) (K:=0) Tryz.func152 (by kernel_rfl) (funext fun (x0,x1,())=>by kernel_rfl)
def zal:((List Int) × ((Option ((Int × Unit)→Option (Bool × Unit))) × Unit))→Option (Bool × Unit):=fun (x0,x1,()) =>
 Option.bind (qv (x0,some fun z=>zdF (z.1,some x1,()),())) fun q0=>bif q0.1 then some (false,()) else some (true,())
abbrev zqb:Fun:=⟨154,(ch [(.sl tI),(.fn (ch [tI]) (ch [.bool]))]),(ch [.bool]),0,zal⟩
theorem zB8:Sq zqb:=ms2 (d:=false) (K:=0) Tryz.func154 (by kernel_rfl) (funext fun (x0,x1,())=>by kernel_rfl)
def yc:(zP × ((Option qQ) × ((Option Int) × Unit)))→Option (Bool × Unit):=fun (x0,x1,x2,()) =>
 Option.bind x1 fun q0=>Option.bind (zfo (q0.2.1,x0,())) fun q1=>bif q1.1 then Option.bind x1 fun q2=>Option.bind x2 fun q3=>Option.bind (zif (q2,x0.1,q3,())) fun q4=>bif q4.1 then some (true,()) else some (false,()) else some (false,())
abbrev zqc:Fun:=⟨258,(ch [zL,(.ptr qk),(.ptr tI)]),(ch [.bool]),0,yc⟩
theorem zB9:Sq zqc:=ms2 (d:=false) (K:=0) Tryz.func258 (by kernel_rfl) (funext fun (x0,x1,x2,())=>by kernel_rfl)
def zi3:((List qb) × ((Option ((qb × Unit)→Option (Bool × Unit))) × Unit))→Option (Bool × Unit):=fun (x0,x1,()) =>
 Option.bind (vm (x0,some fun z=>zb6 (z.1,some x1,()),())) fun q0=>bif q0.1 then some (false,()) else some (true,())
abbrev zoM:Fun:=⟨157,(ch [(.sl zU),(.fn (ch [zU]) (ch [.bool]))]),(ch [.bool]),0,zi3⟩
theorem zAf:Sq zoM:=ms2 (d:=false) (K:=0) Tryz.func157 (by kernel_rfl) (funext fun (x0,x1,())=>by kernel_rfl)
def yQ:((List z5) × ((Option ((z5 × Unit)→Option (Bool × Unit))) × Unit))→Option (Bool × Unit):=fun (x0,x1,()) =>
 Option.bind (jq (x0,some fun z=>zb8 (z.1,some x1,()),())) fun q0=>bif q0.1 then some (false,()) else some (true,())
abbrev zoN:Fun:=⟨159,(ch [(.sl zH),(.fn (ch [zH]) (ch [.bool]))]),(ch [.bool]),0,yQ⟩
theorem zAg:Sq zoN:=ms2 (d:=false) (K:=0) Tryz.func159 (by kernel_rfl) (funext fun (x0,x1,())=>by kernel_rfl)
def zkg:((List zP) × ((Option ((zP × Unit)→Option (Bool × Unit))) × Unit))→Option (Bool × Unit):=fun (x0,x1,()) =>
 Option.bind (vH (x0,some fun z=>zdG (z.1,some x1,()),())) fun q0=>bif q0.1 then some (false,()) else some (true,())
abbrev zqd:Fun:=⟨161,(ch [(.sl zL),(.fn (ch [zL]) (ch [.bool]))]),(ch [.bool]),0,zkg⟩
theorem zCa:Sq zqd:=ms2 (d:=false) (K:=0) Tryz.func161 (by kernel_rfl) (funext fun (x0,x1,())=>by kernel_rfl)
def vw:(zk × ((Option qQ) × ((Option Int) × Unit)))→Option (Bool × Unit):=fun (x0,x1,x2,()) =>
 bif x0.1 then Option.bind x1 fun q0=>Option.bind x2 fun q1=>Option.bind (zif (q0,x0.2.1,q1,())) fun q2=>bif q2.1 then Option.bind x1 fun q3=>Option.bind (qR (q3,x0.2.2.1,())) fun q4=>bif q4.1 then Option.bind x1 fun q5=>Option.bind (qR (q5,x0.2.2.2.1,())) fun q6=>bif q6.1 then some (true,()) else some (false,()) else some (false,()) else some (false,()) else some (true,())
abbrev zoO:Fun:=⟨164,(ch [zu,(.ptr qk),(.ptr tI)]),(ch [.bool]),0,vw⟩
theorem zAh:Sq zoO:=ms2 (d:=false) (K:=0) Tryz.func164 (by kernel_rfl) (funext fun (x0,x1,x2,())=>by kernel_rfl)
def yR:((List zk) × ((Option ((zk × Unit)→Option (Bool × Unit))) × Unit))→Option (Bool × Unit):=fun (x0,x1,()) =>
 Option.bind (jt (x0,some fun z=>zca (z.1,some x1,()),())) fun q0=>bif q0.1 then some (false,()) else some (true,())
abbrev zoP:Fun:=⟨163,(ch [(.sl zu),(.fn (ch [zu]) (ch [.bool]))]),(ch [.bool]),0,yR⟩
theorem zAi:Sq zoP:=ms2 (d:=false) (K:=0) Tryz.func163 (by kernel_rfl) (funext fun (x0,x1,())=>by kernel_rfl)
def qL:((List zv) × ((Option ((zv × Unit)→Option (Bool × Unit))) × Unit))→Option (Bool × Unit):=fun (x0,x1,()) =>
 Option.bind (jf (x0,some fun z=>zbL (z.1,some x1,()),())) fun q0=>bif q0.1 then some (false,()) else some (true,())
abbrev znp:Fun:=⟨166,(ch [(.sl zw),(.fn (ch [zw]) (ch [.bool]))]),(ch [.bool]),0,qL⟩
theorem zym:Sq znp:=ms2 (d:=false) (K:=0) Tryz.func166 (by kernel_rfl) (funext fun (x0,x1,())=>by kernel_rfl)
abbrev yF:Type:=(Option zb5) × Int × Int × List Int
abbrev zvC:yF→St:=fun (v0,v12,v13,o0)=>St.mk [(0,.dat (.ptr vT) v0),(3,.ow 0),(12,.dat tI v12),(13,.dat tI v13)] [.row tI o0 false]
def yG (k0:yF→Option ((List Int) × Unit)):yF→Option ((List Int) × Unit):=fun (v0,v12,v13,o0) =>
 bif decide (v13 < v12) then Option.bind (ya (v0,v13,())) fun q2=>bif q2.1 then bif decide (List.length o0 + List.length (zh (List.replicate 1 (0:Int)) 0 v13) ≤ lim) then k0 (v0,v12,wI (v13 + 1),o0 ++ zh (List.replicate 1 (0:Int)) 0 v13) else none else k0 (v0,v12,wI (v13 + 1),o0) else some (o0,())
abbrev zk5 (K:Nat):yF→Option ((List Int) × Unit):=zg yG K
theorem zvD (K:Nat):∀ n,evV Es2 K Tryz.f171 0 (ch [(.sl tI)]) [1,1,1,0,1,0] [] zvC n = zg yG n:=zn fun n0 (v0,v12,v13,o0)=>by kernel_rfl
def zhR (L0:yF→Option ((List Int) × Unit)):((Option zb5) × Unit)→Option ((List Int) × Unit):=fun (x0,()) =>
 Option.bind (ze5 (x0,())) fun q0=>bif q0.1 then Option.bind x0 fun q1=>L0 (x0,((List.length q1.1):Int),0,[]) else some ([],())
def zdK:((Option zb5) × Unit)→Option ((List Int) × Unit):=zhR (zk5 K0)
abbrev znq:Fun:=⟨171,(ch [(.ptr vT)]),(ch [(.sl tI)]),0,zdK⟩
theorem zyn:Sq znq:=ml2 (d:=false) (S:=fun K=>zhR (zk5 K)) Tryz.func171 (by kernel_rfl) (fun K=>tr1 (T:=zhR) (zvD K K) fun (x0,())=>by kernel_rfl) rfl
def znA:((List zt) × Unit)→Option ((Option zeV) × Unit):=fun (x0,()) =>
 Option.bind (ziX (x0,some zjV,())) fun q0=>some (q0.1,())
abbrev zCb:Fun:=⟨365,(ch [(.sl zr)]),(ch [(.ptr yX)]),0,znA⟩
theorem zNr:Sq zCb:=ms2 (d:=false) (K:=0) Tryz.func365 (by kernel_rfl) (funext fun (x0,())=>by kernel_rfl)
abbrev yH:Type:=(Option zeV) × Int × Int × List Int
abbrev zvE:yH→St:=fun (v0,v12,v13,o0)=>St.mk [(0,.dat (.ptr yX) v0),(3,.ow 0),(12,.dat tI v12),(13,.dat tI v13)] [.row tI o0 false]
def yI (k0:yH→Option ((List Int) × Unit)):yH→Option ((List Int) × Unit):=fun (v0,v12,v13,o0) =>
 bif decide (v13 < v12) then Option.bind (zgc (v0,v13,())) fun q2=>bif q2.1 then bif decide (List.length o0 + List.length (zh (List.replicate 1 (0:Int)) 0 v13) ≤ lim) then k0 (v0,v12,wI (v13 + 1),o0 ++ zh (List.replicate 1 (0:Int)) 0 v13) else none else k0 (v0,v12,wI (v13 + 1),o0) else some (o0,())
abbrev zk6 (K:Nat):yH→Option ((List Int) × Unit):=zg yI K
theorem zvF (K:Nat):∀ n,evV Es2 K Tryz.f366 0 (ch [(.sl tI)]) [1,1,1,0,1,0] [] zvE n = zg yI n:=zn fun n0 (v0,v12,v13,o0)=>by kernel_rfl
def zhS (L0:yH→Option ((List Int) × Unit)):((Option zeV) × Unit)→Option ((List Int) × Unit):=fun (x0,()) =>
 Option.bind (ze6 (x0,())) fun q0=>bif q0.1 then Option.bind x0 fun q1=>L0 (x0,((List.length q1.1):Int),0,[]) else some ([],())
def zhT:((Option zeV) × Unit)→Option ((List Int) × Unit):=zhS (zk6 K0)
abbrev znr:Fun:=⟨366,(ch [(.ptr yX)]),(ch [(.sl tI)]),0,zhT⟩
theorem zyo:Sq znr:=ml2 (d:=false) (S:=fun K=>zhS (zk6 K)) Tryz.func366 (by kernel_rfl) (fun K=>tr1 (T:=zhS) (zvF K K) fun (x0,())=>by kernel_rfl) rfl
def zlR:((List zv) × Unit)→Option ((Option zb5) × Unit):=fun (x0,()) =>
 Option.bind (yM (x0,some zit,())) fun q0=>some (q0.1,())
abbrev zy0:Fun:=⟨348,(ch [(.sl zw)]),(ch [(.ptr vT)]),0,zlR⟩
theorem zLi:Sq zy0:=ms2 (d:=false) (K:=0) Tryz.func348 (by kernel_rfl) (funext fun (x0,())=>by kernel_rfl)
abbrev zbq:Type:=Int × (Option ((zp × Unit)→Option ((List Int) × Unit))) × (List zp) × Int × Int × List Int
abbrev zAj:zbq→St:=fun (v1,v2,v12,v13,v14,o0)=>St.mk [(1,.dat tI v1),(2,.dat (.fn (.pair zx .unit) (.pair (.arr 4 tU) .unit)) v2),(8,.ow 0),(12,.dat (.sl zx) v12),(13,.dat tI v13),(14,.dat tI v14)] [.row tU o0 false]
def zbr (k0:zbq→Option (Int × (Int × Unit))):zbq→Option (Int × (Int × Unit)):=fun (v1,v2,v12,v13,v14,o0) =>
 bif decide (v14 < v13) then inR v14 ((List.length v12):Int) (Option.bind v2 fun q0=>Option.bind (q0 (ix zf v12 v14,())) fun q1=>inR v1 (↑4:Int) (bif decide (List.length o0 + List.length (zh (List.replicate 1 (0:Int)) 0 (ix (0:Int) q1.1 v1)) ≤ lim) then k0 (v1,v2,v12,v13,wI (v14 + 1),o0 ++ zh (List.replicate 1 (0:Int)) 0 (ix (0:Int) q1.1 v1)) else none)) else Option.bind (zhc (o0,())) fun q2=>some (q2.1,q2.2.1,())
abbrev zoQ (K:Nat):zbq→Option (Int × (Int × Unit)):=zg zbr K
theorem zAk (K:Nat):∀ n,evV Es2 K Tryz.f271 0 (ch [tU,tI]) [1,1,0,1,0] [] zAj n = zg zbr n:=zn fun n0 (v1,v2,v12,v13,v14,o0)=>by kernel_rfl
def zlq (L0:zbq→Option (Int × (Int × Unit))):(zb × (Int × ((Option ((zp × Unit)→Option ((List Int) × Unit))) × Unit)))→Option (Int × (Int × Unit)):=fun (x0,x1,x2,()) =>
 L0 (x1,x2,x0.2.1,((List.length x0.2.1):Int),0,[])
def zhj:(zb × (Int × ((Option ((zp × Unit)→Option ((List Int) × Unit))) × Unit)))→Option (Int × Int × Unit):=zlq (zoQ K0)
abbrev zsw:Fun:=⟨271,(ch [zq,tI,(.fn (ch [zx]) (ch [(.arr 4 tU)]))]),(ch [tU,tI]),0,zhj⟩
theorem zEp:Sq zsw:=ml2 (d:=false) (S:=fun K=>zlq (zoQ K)) Tryz.func271 (by kernel_rfl) (fun K=>tr1 (T:=zlq) (zAk K K) fun (x0,x1,x2,())=>by kernel_rfl) rfl
def zfh:((List zk) × Unit)→Option ((Option yk) × Unit):=fun (x0,()) =>
 Option.bind (zj5 (x0,some ja,())) fun q0=>some (q0.1,())
abbrev zCc:Fun:=⟨95,(ch [(.sl zu)]),(ch [(.ptr j8)]),0,zfh⟩
theorem zNs:Sq zCc:=ms2 (d:=false) (K:=0) Tryz.func95 (by kernel_rfl) (funext fun (x0,())=>by kernel_rfl)
def zhk:((Option yk) × (zk × Unit))→Option ((List zk) × (Int × (Int × Unit))):=fun (x0,x1,()) =>
 Option.bind (zfb (x0,())) fun q0=>bif q0.2.1 != 0 then some ([],0,q0.2.1,()) else Option.bind (zeh (x0,q0.1,x1,())) fun q1=>some (q1.1,q0.1,q1.2.1,())
abbrev zsx:Fun:=⟨96,(ch [(.ptr j8),zu]),(ch [(.sl zu),tI,tI]),0,zhk⟩
theorem zEq:Sq zsx:=ms2 (d:=false) (K:=0) Tryz.func96 (by kernel_rfl) (funext fun (x0,x1,())=>by kernel_rfl)
abbrev zcu:Type:=Int × zd
abbrev zCd:zcu→St:=fun (v3,o0)=>St.mk [(1,.bp 0 []),(3,.dat tI v3)] [.bx (.dat zl o0) false]
def zgd (k0:zcu→Option (Bool × Unit)):zcu→Option (Bool × Unit):=fun (v3,o0) =>
 bif decide (v3 < ((List.length o0.2.1):Int)) then inR v3 ((List.length o0.2.1):Int) (bif decide (ix (0:Int) o0.2.1 v3 < 0) then some (false,()) else inR v3 ((List.length o0.2.1):Int) (bif decide (ix (0:Int) o0.2.1 v3 ≥ ((List.length o0.1):Int)) then some (false,()) else k0 (wI (v3 + 1),o0))) else bif ((List.length o0.2.2.2.2.1):Int) != ((List.length o0.1):Int) then some (false,()) else Option.bind (zln (o0.2.2.2.2.1,())) fun q3=>bif q3.1 then bif decide (o0.2.2.2.2.2.1 ≥ 0) then bif decide (o0.2.2.2.2.2.1 ≤ 24) then bif decide (o0.2.2.2.2.2.2.1 ≥ 0) then bif decide (o0.2.2.2.2.2.2.1 ≤ 48) then bif decide (o0.2.2.2.2.2.2.2.1 ≥ 1) then bif decide (o0.2.2.2.2.2.2.2.1 ≤ 4) then bif decide (o0.2.2.2.2.2.2.2.2.1 ≥ 1) then bif decide (o0.2.2.2.2.2.2.2.2.1 ≤ 16) then some (true,()) else some (false,()) else some (false,()) else some (false,()) else some (false,()) else some (false,()) else some (false,()) else some (false,()) else some (false,()) else some (false,())
abbrev zkh (K:Nat):zcu→Option (Bool × Unit):=zg zgd K
theorem zCe (K:Nat):∀ n,evV Es2 K Tryz.f106 0 (ch [.bool]) [1,1,0,1,0] [] zCd n = zg zgd n:=zn fun n0 (v3,o0)=>by kernel_rfl
def ziD (L0:zcu→Option (Bool × Unit)):(zd × Unit)→Option (Bool × Unit):=fun (x0,()) =>
 Option.bind (zhe (x0.1,())) fun q0=>bif q0.1 then bif decide (((List.length x0.2.1):Int) < 1) then some (false,()) else bif decide (((List.length x0.2.1):Int) > 8) then some (false,()) else Option.bind (zfe (x0.2.2.1,())) fun q1=>bif q1.1 then Option.bind (zhg (x0.2.2.2.1,x0.1,((List.length x0.2.2.1):Int),())) fun q2=>bif q2.1 then L0 (0,x0) else some (false,()) else some (false,()) else some (false,())
def zfx:(zd × Unit)→Option (Bool × Unit):=ziD (zkh K0)
abbrev zuC:Fun:=⟨106,(ch [zl]),(ch [.bool]),0,zfx⟩
theorem zGp:Sq zuC:=ml2 (d:=false) (S:=fun K=>ziD (zkh K)) Tryz.func106 (by kernel_rfl) (fun K=>tr1 (T:=ziD) (zCe K K) fun (x0,())=>by kernel_rfl) rfl
end
end Go.Proofs.YtkcakhbkoeimdaaGreatDoor
end
section
namespace Go.Proofs.YtkcakhbkoeimdaaGreatDoor
open Go.Ev
noncomputable section
def zii:(zt × Unit)→Option (Bool × Unit):=fun (x0,()) =>
 Option.bind (zgJ (x0.2.2.2.1,x0.2.2.2.2.2.2.2.1,x0.2.2.2.2.2.2.1,())) fun q0=>bif decide (x0.2.2.2.2.1 ≥ 0) then bif decide (x0.2.2.2.2.1 < 4) then bif decide (x0.2.2.2.2.2.1 ≥ 0) then bif decide (x0.2.2.2.2.2.1 < 4) then bif x0.2.2.2.2.1 != x0.2.2.2.2.2.1 then bif q0.2.1 == 0 then bif x0.2.2.2.2.2.2.2.2.1 == q0.1 then Option.bind (zh6 (x0.2.1,())) fun q1=>bif q1.1 then Option.bind (zh6 (x0.2.2.1,())) fun q2=>bif q2.1 then bif decide (x0.2.2.2.2.2.2.2.2.2.1 ≥ 0) then some (true,()) else some (false,()) else some (false,()) else some (false,()) else some (false,()) else some (false,()) else bif q0.2.1 == 0 then bif x0.2.2.2.2.2.2.2.2.1 == q0.1 then some (false,()) else some (false,()) else some (false,()) else bif q0.2.1 == 0 then bif x0.2.2.2.2.2.2.2.2.1 == q0.1 then some (false,()) else some (false,()) else some (false,()) else bif q0.2.1 == 0 then bif x0.2.2.2.2.2.2.2.2.1 == q0.1 then some (false,()) else some (false,()) else some (false,()) else bif q0.2.1 == 0 then bif x0.2.2.2.2.2.2.2.2.1 == q0.1 then some (false,()) else some (false,()) else some (false,()) else bif q0.2.1 == 0 then bif x0.2.2.2.2.2.2.2.2.1 == q0.1 then some (false,()) else some (false,()) else some (false,())
abbrev zy1:Fun:=⟨291,(ch [zr]),(ch [.bool]),0,zii⟩
theorem zLj:Sq zy1:=ms2 (d:=false) (K:=0) Tryz.func291 (by kernel_rfl) (funext fun (x0,())=>by kernel_rfl)
def zlS:(zG × Unit)→Option (Bool × Unit):=fun (x0,()) =>
 bif decide (x0.1 > 4611686018427387904) then some (false,()) else Option.bind (zdt (x0.2.1,())) fun q0=>bif q0.1 then Option.bind (zdt (x0.2.2.1,())) fun q1=>bif q1.1 then Option.bind (zdt (x0.2.2.2.1,())) fun q2=>bif q2.1 then bif x0.2.2.2.2.1 == 3 then Option.bind (zdt (x0.2.2.2.2.2.2.2.2.2.1,())) fun q3=>bif q3.1 then bif x0.2.2.2.2.2.1 == 0 then bif x0.2.2.2.2.2.2.1 == 0 then bif x0.2.2.2.2.2.2.2.1 == 0 then bif x0.2.2.2.2.2.2.2.2.1 == 0 then some (true,()) else some (false,()) else some (false,()) else some (false,()) else some (false,()) else some (false,()) else Option.bind (zgJ (x0.2.2.2.2.1,x0.2.2.2.2.2.2.2.1,x0.2.2.2.2.2.2.2.2.1,())) fun q4=>bif q4.2.1 == 0 then bif x0.2.2.2.2.2.2.2.2.2.1 == 0 then bif decide (x0.2.2.2.2.2.1 ≥ 0) then bif decide (x0.2.2.2.2.2.1 < 4) then bif decide (x0.2.2.2.2.2.2.1 ≥ 0) then bif decide (x0.2.2.2.2.2.2.1 < 4) then bif x0.2.2.2.2.2.1 != x0.2.2.2.2.2.2.1 then some (true,()) else some (false,()) else some (false,()) else some (false,()) else some (false,()) else some (false,()) else some (false,()) else some (false,()) else some (false,()) else some (false,()) else some (false,())
abbrev zy2:Fun:=⟨293,(ch [zy]),(ch [.bool]),0,zlS⟩
theorem zLk:Sq zy2:=ms2 (d:=false) (K:=0) Tryz.func293 (by kernel_rfl) (funext fun (x0,())=>by kernel_rfl)
abbrev zcv:Type:=(List zk) × Int
abbrev zCf:zcv→St:=fun (v0,v3)=>St.mk [(0,.dat (.sl zu) v0),(3,.dat tI v3)] []
def zcw (k0:zcv→Option (Bool × Unit)):zcv→Option (Bool × Unit):=fun (v0,v3) =>
 bif decide (v3 < ((List.length v0):Int)) then inR v3 ((List.length v0):Int) (bif (ix qj v0 v3).1 then Option.bind (yZ ((ix qj v0 v3).2.1,())) fun q0=>bif q0.1 then Option.bind (yZ ((ix qj v0 v3).2.2.1,())) fun q1=>bif q1.1 then Option.bind (yZ ((ix qj v0 v3).2.2.2.1,())) fun q2=>bif q2.1 then Option.bind (zej ((ix qj v0 v3).2.2.2.2.1,())) fun q3=>bif q3.1 then bif (ix qj v0 v3).1 then k0 (v0,wI (v3 + 1)) else bif !eqI zu (ix qj v0 v3) (ze zu) then some (false,()) else k0 (v0,wI (v3 + 1)) else some (false,()) else some (false,()) else some (false,()) else some (false,()) else bif (ix qj v0 v3).1 then k0 (v0,wI (v3 + 1)) else bif !eqI zu (ix qj v0 v3) (ze zu) then some (false,()) else k0 (v0,wI (v3 + 1))) else some (true,())
abbrev zqe (K:Nat):zcv→Option (Bool × Unit):=zg zcw K
theorem zCg (K:Nat):∀ n,evV Es2 K Tryz.f99 0 (ch [.bool]) [1,0,1,0] [] zCf n = zg zcw n:=zn fun n0 (v0,v3)=>by kernel_rfl
def zmL (L0:zcv→Option (Bool × Unit)):((List zk) × Unit)→Option (Bool × Unit):=fun (x0,()) =>
 L0 (x0,0)
def zfy:((List zk) × Unit)→Option (Bool × Unit):=zmL (zqe K0)
abbrev zuD:Fun:=⟨99,(ch [(.sl zu)]),(ch [.bool]),0,zfy⟩
theorem zGq:Sq zuD:=ml2 (d:=false) (S:=fun K=>zmL (zqe K)) Tryz.func99 (by kernel_rfl) (fun K=>tr1 (T:=zmL) (zCg K K) fun (x0,())=>by kernel_rfl) rfl
abbrev zcx:Type:=(List zv) × Int
abbrev zCh:zcx→St:=fun (v0,v3)=>St.mk [(0,.dat (.sl zw) v0),(3,.dat tI v3)] []
def zcy (k0:zcx→Option (Bool × Unit)):zcx→Option (Bool × Unit):=fun (v0,v3) =>
 bif decide (v3 < ((List.length v0):Int)) then inR v3 ((List.length v0):Int) (bif (ix zR v0 v3).1 then inR v3 ((List.length v0):Int) (Option.bind (zj7 (ix zR v0 v3,())) fun q0=>bif q0.1 then inR v3 ((List.length v0):Int) (bif (ix zR v0 v3).1 then k0 (v0,wI (v3 + 1)) else inR v3 ((List.length v0):Int) (bif !eqI zw (ix zR v0 v3) (ze zw) then some (false,()) else k0 (v0,wI (v3 + 1)))) else some (false,())) else inR v3 ((List.length v0):Int) (bif (ix zR v0 v3).1 then k0 (v0,wI (v3 + 1)) else inR v3 ((List.length v0):Int) (bif !eqI zw (ix zR v0 v3) (ze zw) then some (false,()) else k0 (v0,wI (v3 + 1))))) else some (true,())
abbrev zqf (K:Nat):zcx→Option (Bool × Unit):=zg zcy K
theorem zCi (K:Nat):∀ n,evV Es2 K Tryz.f206 0 (ch [.bool]) [1,0,1,0] [] zCh n = zg zcy n:=zn fun n0 (v0,v3)=>by kernel_rfl
def zmM (L0:zcx→Option (Bool × Unit)):((List zv) × Unit)→Option (Bool × Unit):=fun (x0,()) =>
 L0 (x0,0)
def zmN:((List zv) × Unit)→Option (Bool × Unit):=zmM (zqf K0)
abbrev zuE:Fun:=⟨206,(ch [(.sl zw)]),(ch [.bool]),0,zmN⟩
theorem zGr:Sq zuE:=ml2 (d:=false) (S:=fun K=>zmM (zqf K)) Tryz.func206 (by kernel_rfl) (fun K=>tr1 (T:=zmM) (zCi K K) fun (x0,())=>by kernel_rfl) rfl
def zfQ:(zd × (Int × (Int × Unit)))→Option (Bool × Unit):=fun (x0,x1,x2,()) =>
 bif decide (x1 ≥ 0) then bif decide (x2 ≥ 0) then bif decide (x1 < ((List.length x0.1):Int)) then bif decide (x2 < ((List.length x0.1):Int)) then inR x1 ((List.length x0.1):Int) (inR x2 ((List.length x0.1):Int) (Option.bind (zri (ix qO x0.1 x1,ix qO x0.1 x2,())) fun q0=>bif q0.1 then some (true,()) else some (false,()))) else some (false,()) else some (false,()) else some (false,()) else some (false,())
abbrev zy3:Fun:=⟨49,(ch [zl,tI,tI]),(ch [.bool]),0,zfQ⟩
theorem zLl:Sq zy3:=ms2 (d:=false) (K:=0) Tryz.func49 (by kernel_rfl) (funext fun (x0,x1,x2,())=>by kernel_rfl)
abbrev zet:Type:=Int × Int × Int × Int × zb
abbrev zsy:zet→St:=fun (v1,v6,v8,v11,o0)=>St.mk [(1,.dat tI v1),(2,.bp 0 []),(6,.dat tU v6),(8,.dat tI v8),(11,.dat tI v11)] [.bx (.dat zq o0) false]
abbrev yS:Type:=Int × Int × Int × zb
abbrev zsz:yS→St:=fun (v1,v6,v8,o0)=>St.mk [(1,.dat tI v1),(2,.bp 0 []),(6,.dat tU v6),(8,.dat tI v8)] [.bx (.dat zq o0) false]
def zeu (k0:yS→Option (Int × (Int × Unit))) (k1:zet→Option (Int × (Int × Unit))):zet→Option (Int × (Int × Unit)):=fun (v1,v6,v8,v11,o0) =>
 inR v8 ((List.length o0.2.1):Int) (bif decide (v11 < ((List.length (ix zf o0.2.1 v8).2.2.2.2.2.1):Int)) then inR v8 ((List.length o0.2.1):Int) (inR v11 ((List.length (ix zf o0.2.1 v8).2.2.2.2.2.1):Int) (inR v1 (↑4:Int) (Option.bind (vY (v6,List.getD (List.getD (ix zf o0.2.1 v8).2.2.2.2.2.1 (Int.toNat v11) (ze (.arr 4 tU))) (Int.toNat v1) (0:Int),())) fun q3=>bif q3.2.1 != 0 then some (0,q3.2.1,()) else k1 (v1,q3.1,v8,wI (v11 + 1),o0)))) else k0 (v1,v6,wI (v8 + 1),o0))
abbrev zev (K:Nat) (k0:yS→Option (Int × (Int × Unit))):zet→Option (Int × (Int × Unit)):=zg (fun k1=>zeu k0 k1) K
theorem zEr (K:Nat) (n0:Nat):∀ n,evV Es2 K Tryz.f110 0 (ch [tU,tI]) [1,1,1,0,1,0,0,1,0,0,1,1,1,1,1,0] [n0] zsy n = zg (fun k1=>zeu (evV Es2 K Tryz.f110 0 (ch [tU,tI]) [1,1,1,0,1,0] [] zsz n0) k1) n:=zn fun n1 (v1,v6,v8,v11,o0)=>by kernel_rfl
def za0 (L1:zet→Option (Int × (Int × Unit))) (k0:yS→Option (Int × (Int × Unit))):yS→Option (Int × (Int × Unit)):=fun (v1,v6,v8,o0) =>
 bif decide (v8 < ((List.length o0.2.1):Int)) then inR v8 ((List.length o0.2.1):Int) (Option.bind (zkc ((ix zf o0.2.1 v8).2.2.2.2.1,v1,())) fun q1=>bif q1.2.1 != 0 then some (0,q1.2.1,()) else Option.bind (vY (v6,q1.1,())) fun q2=>bif q2.2.1 != 0 then some (0,q2.2.1,()) else L1 (v1,q2.1,v8,0,o0)) else some (v6,0,())
abbrev zsA (K:Nat):yS→Option (Int × (Int × Unit)):=zg (fun k0=>za0 (zev K k0) k0) K
theorem zEs (K:Nat):∀ n,evV Es2 K Tryz.f110 0 (ch [tU,tI]) [1,1,1,0,1,0] [] zsz n = zg (fun k0=>za0 (zev K k0) k0) n:=qx (B:=fun L1 k0=>za0 L1 k0) (V1:=fun n0=>evV Es2 K Tryz.f110 0 (ch [tU,tI]) [1,1,1,0,1,0,0,1,0,0,1,1,1,1,1,0] [n0] zsy K) (W1:=fun k0=>(zev K k0)) (fun n0=>zEr K n0 K) fun n0 (v1,v6,v8,o0)=>by kernel_rfl
def zki (L0:yS→Option (Int × (Int × Unit))):(zb × (Int × Unit))→Option (Int × (Int × Unit)):=fun (x0,x1,()) =>
 Option.bind (zka (x0.2.2.2.1,x1,())) fun q0=>bif q0.2.1 != 0 then some (0,q0.2.1,()) else L0 (x1,q0.1,0,x0)
def zkj:(zb × Int × Unit)→Option (Int × Int × Unit):=zki (zsA K0)
abbrev zw3:Fun:=⟨110,(ch [zq,tI]),(ch [tU,tI]),0,zkj⟩
theorem zJk:Sq zw3:=ml2 (d:=false) (S:=fun K=>zki (zsA K)) Tryz.func110 (by kernel_rfl) (fun K=>tr1 (T:=zki) (zEs K K) fun (x0,x1,())=>by kernel_rfl) rfl
abbrev zab:Type:=(Option yk) × Int × Int × List Int
abbrev zw4:zab→St:=fun (v0,v12,v13,o0)=>St.mk [(0,.dat (.ptr j8) v0),(3,.ow 0),(12,.dat tI v12),(13,.dat tI v13)] [.row tI o0 false]
def zac (k0:zab→Option ((List Int) × Unit)):zab→Option ((List Int) × Unit):=fun (v0,v12,v13,o0) =>
 bif decide (v13 < v12) then Option.bind (yP (v0,v13,())) fun q2=>bif q2.1 then bif decide (List.length o0 + List.length (zh (List.replicate 1 (0:Int)) 0 v13) ≤ lim) then k0 (v0,v12,wI (v13 + 1),o0 ++ zh (List.replicate 1 (0:Int)) 0 v13) else none else k0 (v0,v12,wI (v13 + 1),o0) else some (o0,())
abbrev zmp (K:Nat):zab→Option ((List Int) × Unit):=zg zac K
theorem zw5 (K:Nat):∀ n,evV Es2 K Tryz.f105 1 (ch [(.sl tI)]) [1,1,1,0,1,0] [] zw4 n = zg zac n:=zn fun n0 (v0,v12,v13,o0)=>by kernel_rfl
def zi4 (L0:zab→Option ((List Int) × Unit)):((Option yk) × Unit)→Option ((List Int) × Unit):=fun (x0,()) =>
 Option.bind (vX (x0,())) fun q0=>bif q0.1 then Option.bind x0 fun q1=>L0 (x0,((List.length q1.1):Int),0,[]) else some ([],())
def zi5:((Option yk) × Unit)→Option ((List Int) × Unit):=zi4 (zmp K0)
abbrev zoR:Fun:=⟨105,(ch [(.ptr j8)]),(ch [(.sl tI)]),1,zi5⟩
theorem zAl:Sq zoR:=ml2 (d:=false) (S:=fun K=>zi4 (zmp K)) Tryz.func105 (by kernel_rfl) (fun K=>tr1 (T:=zi4) (zw5 K K) fun (x0,())=>by kernel_rfl) rfl
abbrev zew:Type:=Int × zb × zb
abbrev zsB:zew→St:=fun (v6,o0,o1)=>St.mk [(2,.bp 0 []),(3,.bp 1 []),(6,.dat tI v6)] [.bx (.dat zq o0) false,.bx (.dat zq o1) false]
abbrev zex:Type:=Int × zb × zb
abbrev zEt:zex→St:=fun (v5,o0,o1)=>St.mk [(2,.bp 0 []),(3,.bp 1 []),(5,.dat tI v5)] [.bx (.dat zq o0) false,.bx (.dat zq o1) false]
def zey (k1:zew→Option (Bool × Unit)):zew→Option (Bool × Unit):=fun (v6,o0,o1) =>
 bif decide (v6 < ((List.length o0.2.2.2.2.2.1):Int)) then inR v6 ((List.length o0.2.2.2.2.2.1):Int) (inR v6 ((List.length o1.2.2.2.2.2.1):Int) (bif ix (0:Int) o0.2.2.2.2.2.1 v6 != ix (0:Int) o1.2.2.2.2.2.1 v6 then some (false,()) else k1 (wI (v6 + 1),o0,o1))) else some (true,())
abbrev zhl (K:Nat):zew→Option (Bool × Unit):=zg zey K
theorem zEu (K:Nat):∀ n,evV Es2 K Tryz.f19 0 (ch [.bool]) [1,1,1,0,1,0] [] zsB n = zg zey n:=zn fun n1 (v6,o0,o1)=>by kernel_rfl
def za1 (L1:zew→Option (Bool × Unit)) (k0:zex→Option (Bool × Unit)):zex→Option (Bool × Unit):=fun (v5,o0,o1) =>
 bif decide (v5 < ((List.length o0.2.1):Int)) then inR v5 ((List.length o0.2.1):Int) (inR v5 ((List.length o1.2.1):Int) (Option.bind (zdI (ix zf o0.2.1 v5,ix zf o1.2.1 v5,())) fun q3=>bif q3.1 then k0 (wI (v5 + 1),o0,o1) else some (false,()))) else L1 (0,o0,o1)
abbrev zlr (K:Nat):zex→Option (Bool × Unit):=zg (fun k0=>za1 (zhl K) k0) K
theorem zEv (K:Nat):∀ n,evV Es2 K Tryz.f19 0 (ch [.bool]) [1,1,0,1,0] [] zEt n = zg (fun k0=>za1 (zhl K) k0) n:=qx (B:=fun L1 k0=>za1 L1 k0) (V1:=fun n0=>evV Es2 K Tryz.f19 0 (ch [.bool]) [1,1,1,0,1,0] [] zsB K) (W1:=fun k0=>(zhl K)) (fun n0=>zEu K K) fun n0 (v5,o0,o1)=>by kernel_rfl
def zkk (L0:zex→Option (Bool × Unit)):(zb × (zb × Unit))→Option (Bool × Unit):=fun (x0,x1,()) =>
 bif x0.1 != x1.1 then some (false,()) else bif ((List.length x0.2.1):Int) != ((List.length x1.2.1):Int) then some (false,()) else bif ((List.length x0.2.2.2.2.2.1):Int) != ((List.length x1.2.2.2.2.2.1):Int) then some (false,()) else Option.bind (zol (x0.2.2.1,x1.2.2.1,())) fun q0=>bif q0.1 then Option.bind (zon (x0.2.2.2.1,x1.2.2.2.1,())) fun q1=>bif q1.1 then Option.bind (zop (x0.2.2.2.2.1,x1.2.2.2.2.1,())) fun q2=>bif q2.1 then L0 (0,x0,x1) else some (false,()) else some (false,()) else some (false,())
def vn:(zb × zb × Unit)→Option (Bool × Unit):=zkk (zlr K0)
abbrev zw6:Fun:=⟨19,(ch [zq,zq]),(ch [.bool]),0,vn⟩
theorem zJl:Sq zw6:=ml2 (d:=false) (S:=fun K=>zkk (zlr K)) Tryz.func19 (by kernel_rfl) (fun K=>tr1 (T:=zkk) (zEv K K) fun (x0,x1,())=>by kernel_rfl) rfl
abbrev L3:List Fun:=zyX :: zuA :: zB7 :: zst :: zsu :: znm :: zw2 :: zyY :: zyZ :: zuB :: znn :: zno :: zqb :: zqc :: zoM :: zoN :: zqd :: zoO :: zoP :: znp :: znq :: zCb :: znr :: zy0 :: zsw :: zCc :: zsx :: zuC :: zy1 :: zy2 :: zuD :: zuE :: zy3 :: zw3 :: zoR :: zw6 :: L2
theorem h3:Sds Tryz.prog E0 L3:=⟨zLf,zGn,zNq,zEl,zEm,zyj,zJj,zLg,zLh,zGo,zyk,zyl,zB8,zB9,zAf,zAg,zCa,zAh,zAi,zym,zyn,zNr,zyo,zLi,zEp,zNs,zEq,zGp,zLj,zLk,zGq,zGr,zLl,zJk,zAl,zJl,h2⟩
theorem ms3 {d:Bool} {F:Fun} {f:Go.Func} {K:Nat} (hf:Tryz.prog.funcs[F.id]? = some f) (ho:jF f = true) (h:evF (En E0 d L3) K f F.md F.a F.r = F.spec):Sd Tryz.prog E0 F:=mkS h3 hf ho h
theorem ml3 {d:Bool} {F:Fun} {f:Go.Func} {S:Nat→F.a.I→Option F.r.I} (hf:Tryz.prog.funcs[F.id]? = some f) (ho:jF f = true) (h:∀ K,evF (En E0 d L3) K f F.md F.a F.r = S K) (e:S K0 = F.spec):Sd Tryz.prog E0 F:=mkS h3 hf ho ((h K0).trans e)
abbrev Es3:Env:=En E0 false L3
abbrev zbs:Type:=Int × zd
abbrev zAm:zbs→St:=fun (v4,o0)=>St.mk [(1,.bp 0 []),(4,.dat tI v4)] [.bx (.dat zl o0) false]
def zfi (k0:zbs→Option (Bool × Unit)):zbs→Option (Bool × Unit):=fun (v4,o0) =>
 bif decide (v4 < ((List.length o0.1):Int)) then inR (wI (v4 - 1)) ((List.length o0.1):Int) (inR v4 ((List.length o0.1):Int) (Option.bind (zlP (List.getD o0.1 (Int.toNat (wI (v4 - 1))) (ze zo),ix qO o0.1 v4,())) fun q2=>bif decide (q2.1 ≥ 0) then some (false,()) else k0 (wI (v4 + 1),o0))) else some (true,())
abbrev zi6 (K:Nat):zbs→Option (Bool × Unit):=zg zfi K
theorem zAn (K:Nat):∀ n,evV Es3 K Tryz.f214 0 (ch [.bool]) [1,1,1,0,1,0] [] zAm n = zg zfi n:=zn fun n0 (v4,o0)=>by kernel_rfl
def zhm (L0:zbs→Option (Bool × Unit)):(zd × Unit)→Option (Bool × Unit):=fun (x0,()) =>
 Option.bind (ql (((List.length x0.1):Int),1,8,())) fun q0=>bif q0.1 then bif decide (0 < ((List.length x0.1):Int)) then bif !eqI zo (ix qO x0.1 0) (ze zo) then some (false,()) else Option.bind (yo (x0.1,some ze8,())) fun q1=>bif q1.1 then some (false,()) else L0 (1,x0) else none else some (false,())
def vK:(zd × Unit)→Option (Bool × Unit):=zhm (zi6 K0)
abbrev zsC:Fun:=⟨214,(ch [zl]),(ch [.bool]),0,vK⟩
theorem zEw:Sq zsC:=ml3 (d:=false) (S:=fun K=>zhm (zi6 K)) Tryz.func214 (by kernel_rfl) (fun K=>tr1 (T:=zhm) (zAn K K) fun (x0,())=>by kernel_rfl) rfl
def zbt:(ByteArray × Unit)→Option (Bool × Unit):=fun (x0,()) =>
 bif decide ((↑(ByteArray.size x0):Int) < 1) then some (false,()) else bif decide ((↑(ByteArray.size x0):Int) > 12) then some (false,()) else bif decide (0 < (↑(ByteArray.size x0):Int)) then Option.bind (zgx ((↑(UInt8.toNat (List.getD (Array.toList (ByteArray.data x0)) (Int.toNat 0) 0)):Int),())) fun q0=>bif q0.1 then Option.bind (znz (x0,some zha,())) fun q1=>bif q1.1 then some (true,()) else some (false,()) else some (false,()) else none
abbrev zw7:Fun:=⟨240,(ch [.str]),(ch [.bool]),0,zbt⟩
theorem zJm:Sq zw7:=ms3 (d:=false) (K:=0) Tryz.func240 (by kernel_rfl) (funext fun (x0,())=>by kernel_rfl)
def zdv:(ByteArray × Unit)→Option (Bool × Unit):=fun (x0,()) =>
 bif decide ((↑(ByteArray.size x0):Int) ≥ 1) then bif decide ((↑(ByteArray.size x0):Int) ≤ 40) then Option.bind (znz (x0,some zjQ,())) fun q0=>bif q0.1 then Option.bind (zhb (x0,ByteArray.mk #[32],())) fun q1=>bif ByteArray.toList q1.1 == ByteArray.toList x0 then some (true,()) else some (false,()) else some (false,()) else some (false,()) else some (false,())
abbrev zy4:Fun:=⟨67,(ch [.str]),(ch [.bool]),0,zdv⟩
theorem zLm:Sq zy4:=ms3 (d:=false) (K:=0) Tryz.func67 (by kernel_rfl) (funext fun (x0,())=>by kernel_rfl)
def zge:(zv × Unit)→Option (Bool × Unit):=fun (x0,()) =>
 bif x0.1 then Option.bind (zlQ (x0,())) fun q0=>bif q0.1 then some (false,()) else some (true,()) else bif !eqI zw x0 (ze zw) then some (true,()) else some (false,())
abbrev zqg:Fun:=⟨246,(ch [zw]),(ch [.bool]),0,zge⟩
theorem zCj:Sq zqg:=ms3 (d:=false) (K:=0) Tryz.func246 (by kernel_rfl) (funext fun (x0,())=>by kernel_rfl)
def znB:(zt × Unit)→Option (Bool × Unit):=fun (x0,()) =>
 Option.bind (zih (x0.2.2.2.1,x0.2.2.2.2.2.2.2.1,x0.2.2.2.2.2.2.1,())) fun q0=>bif q0.2.1 == 0 then bif q0.1 == x0.2.2.2.2.2.2.2.2.1 then Option.bind (zmf (x0.2.1,())) fun q1=>bif q1.1 then Option.bind (zmf (x0.2.2.1,())) fun q2=>bif q2.1 then Option.bind (jk (x0.2.2.2.2.1,())) fun q3=>bif q3.1 then Option.bind (jk (x0.2.2.2.2.2.1,())) fun q4=>bif q4.1 then bif x0.2.2.2.2.1 != x0.2.2.2.2.2.1 then bif decide (x0.2.2.2.2.2.2.2.2.2.1 ≥ 0) then some (true,()) else some (false,()) else some (false,()) else some (false,()) else some (false,()) else some (false,()) else some (false,()) else some (false,()) else some (false,())
abbrev zCk:Fun:=⟨250,(ch [zr]),(ch [.bool]),0,znB⟩
theorem zNt:Sq zCk:=ms3 (d:=false) (K:=0) Tryz.func250 (by kernel_rfl) (funext fun (x0,())=>by kernel_rfl)
def zlT:(zG × Unit)→Option (Bool × Unit):=fun (x0,()) =>
 bif decide (x0.1 > 4611686018427387904) then some (false,()) else Option.bind (ze1 (x0.2.1,())) fun q0=>bif q0.1 then Option.bind (ze1 (x0.2.2.1,())) fun q1=>bif q1.1 then Option.bind (ze1 (x0.2.2.2.1,())) fun q2=>bif q2.1 then Option.bind (ze1 (x0.2.2.2.2.2.2.2.2.2.1,())) fun q3=>bif q3.1 then bif x0.2.2.2.2.1 == 3 then bif eqI zy x0 (x0.1,x0.2.1,x0.2.2.1,x0.2.2.2.1,x0.2.2.2.2.1,(ze zy).2.2.2.2.2.1,(ze zy).2.2.2.2.2.2.1,(ze zy).2.2.2.2.2.2.2.1,(ze zy).2.2.2.2.2.2.2.2.1,x0.2.2.2.2.2.2.2.2.2.1,(ze zy).2.2.2.2.2.2.2.2.2.2) then some (true,()) else some (false,()) else Option.bind (zih (x0.2.2.2.2.1,x0.2.2.2.2.2.2.2.1,x0.2.2.2.2.2.2.2.2.1,())) fun q4=>bif q4.2.1 == 0 then bif x0.2.2.2.2.2.2.2.2.2.1 == 0 then bif x0.2.2.2.2.2.1 != x0.2.2.2.2.2.2.1 then Option.bind (jk (x0.2.2.2.2.2.1,())) fun q5=>bif q5.1 then Option.bind (jk (x0.2.2.2.2.2.2.1,())) fun q6=>bif q6.1 then some (true,()) else some (false,()) else some (false,()) else some (false,()) else some (false,()) else some (false,()) else some (false,()) else some (false,()) else some (false,()) else some (false,())
abbrev zy5:Fun:=⟨251,(ch [zy]),(ch [.bool]),0,zlT⟩
theorem zLn:Sq zy5:=ms3 (d:=false) (K:=0) Tryz.func251 (by kernel_rfl) (funext fun (x0,())=>by kernel_rfl)
def zmO:(qQ × (Int × Unit))→Option ((Option ((zP × Unit)→Option (Bool × Unit))) × Unit):=fun (x0,x1,()) =>
 some (some fun z=>yc (z.1,some x0,some x1,()),())
abbrev zuF:Fun:=⟨156,(ch [qk,tI]),(ch [(.fn (ch [zL]) (ch [.bool]))]),0,zmO⟩
theorem zGs:Sq zuF:=ms3 (d:=false) (K:=0) Tryz.func156 (by kernel_rfl) (funext fun (x0,x1,())=>by kernel_rfl)
abbrev vx:Type:=(List zp) × Int × Int × qQ
abbrev zAo:vx→St:=fun (v10,v11,v12,o0)=>St.mk [(1,.bp 0 []),(10,.dat (.sl zx) v10),(11,.dat tI v11),(12,.dat tI v12)] [.bx (.dat qk o0) true]
abbrev zfj:Type:=(List zp) × Int × Int × qQ
abbrev zAp:zfj→St:=fun (v10,v11,v12,o0)=>St.mk [(1,.bp 0 []),(10,.dat (.sl zx) v10),(11,.dat tI v11),(12,.dat tI v12)] [.bx (.dat qk o0) false]
def qU (k1:vx→Option (Bool × Unit)):vx→Option (Bool × Unit):=fun (v10,v11,v12,o0) =>
 bif decide (v12 < v11) then inR v12 ((List.length v10):Int) (Option.bind (yQ ((ix zf v10 v12).2.2.1,some fun z=>zbg (z.1,some o0,()),())) fun q3=>bif q3.1 then Option.bind (yR ((ix zf v10 v12).2.2.2.1,some fun z=>vw (z.1,some o0,some v12,()),())) fun q4=>bif q4.1 then Option.bind (qL ((ix zf v10 v12).2.2.2.2.1,some fun z=>qI (z.1,some o0,()),())) fun q5=>bif q5.1 then k1 (v10,v11,wI (v12 + 1),o0) else some (false,()) else Option.bind (qL ((ix zf v10 v12).2.2.2.2.1,some fun z=>qI (z.1,some o0,()),())) fun q6=>bif q6.1 then some (false,()) else some (false,()) else Option.bind (yR ((ix zf v10 v12).2.2.2.1,some fun z=>vw (z.1,some o0,some v12,()),())) fun q7=>bif q7.1 then Option.bind (qL ((ix zf v10 v12).2.2.2.2.1,some fun z=>qI (z.1,some o0,()),())) fun q8=>bif q8.1 then some (false,()) else some (false,()) else Option.bind (qL ((ix zf v10 v12).2.2.2.2.1,some fun z=>qI (z.1,some o0,()),())) fun q9=>bif q9.1 then some (false,()) else some (false,())) else some (true,())
theorem zAq (K:Nat):∀ n,evV Es3 K Tryz.f86 0 (ch [.bool]) [1,0,1,0] [] zAo n = zg qU n:=zn fun n1 (v10,v11,v12,o0)=>by kernel_rfl
def zoS (k1:vx→Option (Bool × Unit)):zfj→Option (Bool × Unit):=fun (v10,v11,v12,o0) =>
 bif decide (v12 < v11) then inR v12 ((List.length v10):Int) (Option.bind (yQ ((ix zf v10 v12).2.2.1,some fun z=>zbg (z.1,some o0,()),())) fun q0=>bif q0.1 then Option.bind (yR ((ix zf v10 v12).2.2.2.1,some fun z=>vw (z.1,some o0,some v12,()),())) fun q1=>bif q1.1 then Option.bind (qL ((ix zf v10 v12).2.2.2.2.1,some fun z=>qI (z.1,some o0,()),())) fun q2=>bif q2.1 then k1 (v10,v11,wI (v12 + 1),o0) else some (false,()) else Option.bind (qL ((ix zf v10 v12).2.2.2.2.1,some fun z=>qI (z.1,some o0,()),())) fun q10=>bif q10.1 then some (false,()) else some (false,()) else Option.bind (yR ((ix zf v10 v12).2.2.2.1,some fun z=>vw (z.1,some o0,some v12,()),())) fun q11=>bif q11.1 then Option.bind (qL ((ix zf v10 v12).2.2.2.2.1,some fun z=>qI (z.1,some o0,()),())) fun q12=>bif q12.1 then some (false,()) else some (false,()) else Option.bind (qL ((ix zf v10 v12).2.2.2.2.1,some fun z=>qI (z.1,some o0,()),())) fun q13=>bif q13.1 then some (false,()) else some (false,())) else some (true,())
abbrev zoT (K:Nat):zfj→Option (Bool × Unit):=zBs zoS qU K
theorem zAr (K:Nat):∀ n,evV Es3 K Tryz.f86 0 (ch [.bool]) [1,0,1,0] [] zAp n = zBs zoS qU n:=zON (zAq K) fun n0 (v10,v11,v12,o0)=>by kernel_rfl
def zls (L0:zfj→Option (Bool × Unit)):(qQ × Unit)→Option (Bool × Unit):=fun (x0,()) =>
 L0 (x0.2.1.2.1,((List.length x0.2.1.2.1):Int),0,x0)
def za2:(qQ × Unit)→Option (Bool × Unit):=zls (zoT K0)
abbrev zsD:Fun:=⟨86,(ch [qk]),(ch [.bool]),0,za2⟩
theorem zEx:Sq zsD:=ml3 (d:=false) (S:=fun K=>zls (zoT K)) Tryz.func86 (by kernel_rfl) (fun K=>tr1 (T:=zls) (zAr K K) fun (x0,())=>by kernel_rfl) rfl
abbrev zcz:Type:=(List zp) × Int × Int × (List Int) × Int × Int × zp
abbrev zqh:zcz→St:=fun (v14,v15,v16,v55,v56,v57,o0)=>St.mk [(4,.bp 0 []),(14,.dat (.sl zx) v14),(15,.dat tI v15),(16,.dat tI v16),(55,.dat (.sl tI) v55),(56,.dat tI v56),(57,.dat tI v57)] [.bx (.dat zx o0) false]
abbrev zcA:Type:=(Option zb5) × (List zp) × Int × Int × (List z5) × Int × Int × zp
abbrev zqi:zcA→St:=fun (v5,v14,v15,v16,v24,v25,v26,o0)=>St.mk [(4,.bp 0 []),(5,.dat (.ptr vT) v5),(14,.dat (.sl zx) v14),(15,.dat tI v15),(16,.dat tI v16),(24,.dat (.sl zH) v24),(25,.dat tI v25),(26,.dat tI v26)] [.bx (.dat zx o0) false]
abbrev jD:Type:=(List zp) × Int × Int
abbrev zam:jD→St:=fun (v14,v15,v16)=>St.mk [(14,.dat (.sl zx) v14),(15,.dat tI v15),(16,.dat tI v16)] []
def zcC (k0:jD→Option (Bool × Unit)) (k2:zcz→Option (Bool × Unit)):zcz→Option (Bool × Unit):=fun (v14,v15,v16,v55,v56,v57,o0) =>
 bif decide (v57 < v56) then inR v57 ((List.length v55):Int) (inR (ix (0:Int) v55 v57) ((List.length o0.2.2.2.2.1):Int) (inR (ix (0:Int) v55 v57) ((List.length o0.2.2.2.2.1):Int) (bif decide ((List.getD o0.2.2.2.2.1 (Int.toNat (ix (0:Int) v55 v57)) (ze zw)).2.2.2.1.2.2.1 ≥ ((List.length o0.2.2.1):Int)) then some (false,()) else bif decide ((List.getD o0.2.2.2.2.1 (Int.toNat (ix (0:Int) v55 v57)) (ze zw)).2.2.2.2.1.2.2.1 ≥ ((List.length o0.2.2.1):Int)) then some (false,()) else bif decide ((List.getD o0.2.2.2.2.1 (Int.toNat (ix (0:Int) v55 v57)) (ze zw)).2.2.2.1.2.2.1 ≥ 0) then inR (List.getD o0.2.2.2.2.1 (Int.toNat (ix (0:Int) v55 v57)) (ze zw)).2.2.2.1.2.2.1 ((List.length o0.2.2.1):Int) (bif (List.getD o0.2.2.1 (Int.toNat (List.getD o0.2.2.2.2.1 (Int.toNat (ix (0:Int) v55 v57)) (ze zw)).2.2.2.1.2.2.1) (ze zH)).2.2.1 != 3 then some (false,()) else inR (List.getD o0.2.2.2.2.1 (Int.toNat (ix (0:Int) v55 v57)) (ze zw)).2.2.2.1.2.2.1 ((List.length o0.2.2.1):Int) (bif (List.getD o0.2.2.1 (Int.toNat (List.getD o0.2.2.2.2.1 (Int.toNat (ix (0:Int) v55 v57)) (ze zw)).2.2.2.1.2.2.1) (ze zH)).2.2.2.1 != ix (0:Int) v55 v57 then some (false,()) else k2 (v14,v15,v16,v55,v56,wI (v57 + 1),o0))) else k2 (v14,v15,v16,v55,v56,wI (v57 + 1),o0)))) else k0 (v14,v15,wI (v16 + 1))
abbrev zcD (K:Nat) (k0:jD→Option (Bool × Unit)):zcz→Option (Bool × Unit):=zg (fun k2=>zcC k0 k2) K
theorem zCl (K:Nat) (n0:Nat):∀ n,evV Es3 K Tryz.f87 0 (ch [.bool]) [1,0,1,0,0,1,1,0,0,1,1,1,1,0] [n0] zqh n = zg (fun k2=>zcC (evV Es3 K Tryz.f87 0 (ch [.bool]) [1,0,1,0] [] zam n0) k2) n:=zn fun n2 (v14,v15,v16,v55,v56,v57,o0)=>by kernel_rfl
def zan (L2:zcz→Option (Bool × Unit)) (k0:jD→Option (Bool × Unit)) (k1:zcA→Option (Bool × Unit)):zcA→Option (Bool × Unit):=fun (v5,v14,v15,v16,v24,v25,v26,o0) =>
 bif decide (v26 < v25) then inR v26 ((List.length v24):Int) (bif (ix zC v24 v26).2.2.1 == 3 then Option.bind (ya (v5,(ix zC v24 v26).2.2.2.1,())) fun q1=>bif q1.1 then inR (ix zC v24 v26).2.2.2.1 ((List.length o0.2.2.2.2.1):Int) (bif (List.getD o0.2.2.2.2.1 (Int.toNat (ix zC v24 v26).2.2.2.1) (ze zw)).2.2.2.1.2.2.1 != v26 then some (false,()) else k1 (v5,v14,v15,v16,v24,v25,wI (v26 + 1),o0)) else some (false,()) else k1 (v5,v14,v15,v16,v24,v25,wI (v26 + 1),o0)) else Option.bind (zdK (v5,())) fun q2=>L2 (v14,v15,v16,q2.1,((List.length q2.1):Int),0,o0)
abbrev zcE (K:Nat) (k0:jD→Option (Bool × Unit)):zcA→Option (Bool × Unit):=zg (fun k1=>zan (zcD K k0) k0 k1) K
theorem zCm (K:Nat) (n0:Nat):∀ n,evV Es3 K Tryz.f87 0 (ch [.bool]) [1,0,1,0,0,1,1,0,0,1,1,0,1,0] [n0] zqi n = zg (fun k1=>zan (zcD K (evV Es3 K Tryz.f87 0 (ch [.bool]) [1,0,1,0] [] zam n0)) (evV Es3 K Tryz.f87 0 (ch [.bool]) [1,0,1,0] [] zam n0) k1) n:=qx (B:=fun L2 k1=>zan L2 (evV Es3 K Tryz.f87 0 (ch [.bool]) [1,0,1,0] [] zam n0) k1) (V1:=fun n1=>evV Es3 K Tryz.f87 0 (ch [.bool]) [1,0,1,0,0,1,1,0,0,1,1,1,1,0] [n0] zqh K) (W1:=fun k1=>(zcD K (evV Es3 K Tryz.f87 0 (ch [.bool]) [1,0,1,0] [] zam n0))) (fun n1=>zCl K n0 K) fun n1 (v5,v14,v15,v16,v24,v25,v26,o0)=>by kernel_rfl
def zao (L1:zcA→Option (Bool × Unit)) (k0:jD→Option (Bool × Unit)):jD→Option (Bool × Unit):=fun (v14,v15,v16) =>
 bif decide (v16 < v15) then inR v16 ((List.length v14):Int) (Option.bind (yM ((ix zf v14 v16).2.2.2.2.1,some vW,())) fun q0=>L1 (q0.1,v14,v15,v16,(ix zf v14 v16).2.2.1,((List.length (ix zf v14 v16).2.2.1):Int),0,ix zf v14 v16)) else some (true,())
abbrev zqj (K:Nat):jD→Option (Bool × Unit):=zg (fun k0=>zao (zcE K k0) k0) K
theorem zCn (K:Nat):∀ n,evV Es3 K Tryz.f87 0 (ch [.bool]) [1,0,1,0] [] zam n = zg (fun k0=>zao (zcE K k0) k0) n:=qx (B:=fun L1 k0=>zao L1 k0) (V1:=fun n0=>evV Es3 K Tryz.f87 0 (ch [.bool]) [1,0,1,0,0,1,1,0,0,1,1,0,1,0] [n0] zqi K) (W1:=fun k0=>(zcE K k0)) (fun n0=>zCm K n0 K) fun n0 (v14,v15,v16)=>by kernel_rfl
def zmP (L0:jD→Option (Bool × Unit)):(qQ × Unit)→Option (Bool × Unit):=fun (x0,()) =>
 L0 (x0.2.1.2.1,((List.length x0.2.1.2.1):Int),0)
def zfz:(qQ × Unit)→Option (Bool × Unit):=zmP (zqj K0)
abbrev zuG:Fun:=⟨87,(ch [qk]),(ch [.bool]),0,zfz⟩
theorem zGt:Sq zuG:=ml3 (d:=false) (S:=fun K=>zmP (zqj K)) Tryz.func87 (by kernel_rfl) (fun K=>tr1 (T:=zmP) (zCn K K) fun (x0,())=>by kernel_rfl) rfl
def zkl:((List zt) × Unit)→Option ((List Int) × Unit):=fun (x0,()) =>
 Option.bind (znA (x0,())) fun q0=>Option.bind (zhT (q0.1,())) fun q1=>some (q1.1,())
abbrev zw8:Fun:=⟨346,(ch [(.sl zr)]),(ch [(.sl tI)]),0,zkl⟩
theorem zJn:Sq zw8:=ms3 (d:=false) (K:=0) Tryz.func346 (by kernel_rfl) (funext fun (x0,())=>by kernel_rfl)
abbrev zez:Type:=(List zv) × Int × (List Int) × Int × Int × List Int
abbrev zEy:zez→St:=fun (v0,v1,v14,v15,v16,o0)=>St.mk [(0,.dat (.sl zw) v0),(1,.dat tI v1),(6,.ow 0),(14,.dat (.sl tI) v14),(15,.dat tI v15),(16,.dat tI v16)] [.row tU o0 false]
def zeA (k0:zez→Option (Int × (Int × Unit))):zez→Option (Int × (Int × Unit)):=fun (v0,v1,v14,v15,v16,o0) =>
 bif decide (v16 < v15) then inR v16 ((List.length v14):Int) (inR (ix (0:Int) v14 v16) ((List.length v0):Int) (bif (List.getD v0 (Int.toNat (ix (0:Int) v14 v16)) (ze zw)).2.2.2.1.1 == v1 then inR (ix (0:Int) v14 v16) ((List.length v0):Int) (bif decide (List.length o0 + List.length (zh (List.replicate 1 (0:Int)) 0 (List.getD v0 (Int.toNat (ix (0:Int) v14 v16)) (ze zw)).2.2.2.1.2.1) ≤ lim) then k0 (v0,v1,v14,v15,wI (v16 + 1),o0 ++ zh (List.replicate 1 (0:Int)) 0 (List.getD v0 (Int.toNat (ix (0:Int) v14 v16)) (ze zw)).2.2.2.1.2.1) else none) else k0 (v0,v1,v14,v15,wI (v16 + 1),o0))) else Option.bind (zhc (o0,())) fun q3=>some (q3.1,q3.2.1,())
abbrev zsE (K:Nat):zez→Option (Int × (Int × Unit)):=zg zeA K
theorem zEz (K:Nat):∀ n,evV Es3 K Tryz.f269 0 (ch [tU,tI]) [1,1,1,0,1,0] [] zEy n = zg zeA n:=zn fun n0 (v0,v1,v14,v15,v16,o0)=>by kernel_rfl
def zkm (L0:zez→Option (Int × (Int × Unit))):((List zv) × (Int × Unit))→Option (Int × (Int × Unit)):=fun (x0,x1,()) =>
 Option.bind (jk (x1,())) fun q0=>bif q0.1 then Option.bind (zlR (x0,())) fun q1=>Option.bind (zdK (q1.1,())) fun q2=>L0 (x0,x1,q2.1,((List.length q2.1):Int),0,[]) else some (0,1,())
def zkn:((List zv) × Int × Unit)→Option (Int × Int × Unit):=zkm (zsE K0)
abbrev zw9:Fun:=⟨269,(ch [(.sl zw),tI]),(ch [tU,tI]),0,zkn⟩
theorem zJo:Sq zw9:=ml3 (d:=false) (S:=fun K=>zkm (zsE K)) Tryz.func269 (by kernel_rfl) (fun K=>tr1 (T:=zkm) (zEz K K) fun (x0,x1,())=>by kernel_rfl) rfl
def zko:(zb × (Int × Unit))→Option (Int × (Int × Unit)):=fun (x0,x1,()) =>
 Option.bind (jk (x1,())) fun q0=>bif q0.1 then Option.bind (zhj (x0,x1,some zli,())) fun q1=>bif q1.2.1 != 0 then some (0,q1.2.1,()) else Option.bind (zhj (x0,x1,some zlj,())) fun q2=>bif q2.2.1 != 0 then some (0,q2.2.1,()) else Option.bind (zjW (q1.1,q2.1,())) fun q3=>some (q3.1,q3.2.1,()) else some (0,1,())
abbrev zxa:Fun:=⟨173,(ch [zq,tI]),(ch [tU,tI]),0,zko⟩
theorem zJp:Sq zxa:=ms3 (d:=false) (K:=0) Tryz.func173 (by kernel_rfl) (funext fun (x0,x1,())=>by kernel_rfl)
abbrev zcF:Type:=(List (List Int)) × Int × Int × zd
abbrev zqk:zcF→St:=fun (v1,v5,v6,o0)=>St.mk [(1,.dat (.sl (.sl tI)) v1),(2,.bp 0 []),(5,.dat tI v5),(6,.dat tI v6)] [.bx (.dat zl o0) false]
abbrev yd:Type:=(List (List Int)) × Int × zd
abbrev zql:yd→St:=fun (v1,v5,o0)=>St.mk [(1,.dat (.sl (.sl tI)) v1),(2,.bp 0 []),(5,.dat tI v5)] [.bx (.dat zl o0) false]
def zgf (k0:yd→Option (Bool × Unit)) (k1:zcF→Option (Bool × Unit)):zcF→Option (Bool × Unit):=fun (v1,v5,v6,o0) =>
 inR v5 ((List.length v1):Int) (bif decide (v6 < ((List.length (List.getD v1 (Int.toNat v5) ([]:List Int))):Int)) then inR v5 ((List.length v1):Int) (inR v6 ((List.length (List.getD v1 (Int.toNat v5) ([]:List Int))):Int) (bif decide (List.getD (List.getD v1 (Int.toNat v5) ([]:List Int)) (Int.toNat v6) (0:Int) < 0) then some (false,()) else inR v5 ((List.length v1):Int) (inR v6 ((List.length (List.getD v1 (Int.toNat v5) ([]:List Int))):Int) (bif decide (List.getD (List.getD v1 (Int.toNat v5) ([]:List Int)) (Int.toNat v6) (0:Int) > 2) then some (false,()) else k1 (v1,v5,wI (v6 + 1),o0))))) else k0 (v1,wI (v5 + 1),o0))
abbrev zgg (K:Nat) (k0:yd→Option (Bool × Unit)):zcF→Option (Bool × Unit):=zg (fun k1=>zgf k0 k1) K
theorem zCo (K:Nat) (n0:Nat):∀ n,evV Es3 K Tryz.f131 0 (ch [.bool]) [1,1,0,1,0,0,1,0,0,1,1,0] [n0] zqk n = zg (fun k1=>zgf (evV Es3 K Tryz.f131 0 (ch [.bool]) [1,1,0,1,0] [] zql n0) k1) n:=zn fun n1 (v1,v5,v6,o0)=>by kernel_rfl
def zcG (L1:zcF→Option (Bool × Unit)) (k0:yd→Option (Bool × Unit)):yd→Option (Bool × Unit):=fun (v1,v5,o0) =>
 bif decide (v5 < ((List.length v1):Int)) then inR v5 ((List.length v1):Int) (bif ((List.length (List.getD v1 (Int.toNat v5) ([]:List Int))):Int) != ((List.length o0.2.2.1):Int) then some (false,()) else inR v5 ((List.length v1):Int) (inR v5 ((List.length o0.2.2.2.1):Int) (inR (ix qr o0.2.2.2.1 v5).2.1 ((List.length (List.getD v1 (Int.toNat v5) ([]:List Int))):Int) (bif List.getD (List.getD v1 (Int.toNat v5) ([]:List Int)) (Int.toNat (ix qr o0.2.2.2.1 v5).2.1) (0:Int) != 2 then some (false,()) else L1 (v1,v5,0,o0))))) else some (true,())
abbrev zkp (K:Nat):yd→Option (Bool × Unit):=zg (fun k0=>zcG (zgg K k0) k0) K
theorem zCp (K:Nat):∀ n,evV Es3 K Tryz.f131 0 (ch [.bool]) [1,1,0,1,0] [] zql n = zg (fun k0=>zcG (zgg K k0) k0) n:=qx (B:=fun L1 k0=>zcG L1 k0) (V1:=fun n0=>evV Es3 K Tryz.f131 0 (ch [.bool]) [1,1,0,1,0,0,1,0,0,1,1,0] [n0] zqk K) (W1:=fun k0=>(zgg K k0)) (fun n0=>zCo K n0 K) fun n0 (v1,v5,o0)=>by kernel_rfl
def ziE (L0:yd→Option (Bool × Unit)):(zd × ((List (List Int)) × Unit))→Option (Bool × Unit):=fun (x0,x1,()) =>
 Option.bind (zfx (x0,())) fun q0=>bif q0.1 then bif ((List.length x1):Int) != ((List.length x0.2.2.2.1):Int) then some (false,()) else L0 (x1,0,x0) else some (false,())
def ziF:(zd × (List (List Int)) × Unit)→Option (Bool × Unit):=ziE (zkp K0)
abbrev zuH:Fun:=⟨131,(ch [zl,(.sl (.sl tI))]),(ch [.bool]),0,ziF⟩
theorem zGu:Sq zuH:=ml3 (d:=false) (S:=fun K=>ziE (zkp K)) Tryz.func131 (by kernel_rfl) (fun K=>tr1 (T:=ziE) (zCp K K) fun (x0,x1,())=>by kernel_rfl) rfl
abbrev zcH:Type:=(List zt) × Int
abbrev zCq:zcH→St:=fun (v0,v3)=>St.mk [(0,.dat (.sl zr) v0),(3,.dat tI v3)] []
def zcI (k0:zcH→Option (Bool × Unit)):zcH→Option (Bool × Unit):=fun (v0,v3) =>
 bif decide (v3 < ((List.length v0):Int)) then inR v3 ((List.length v0):Int) (bif (ix zI v0 v3).1 then inR v3 ((List.length v0):Int) (bif (ix zI v0 v3).1 then inR v3 ((List.length v0):Int) (Option.bind (zii (ix zI v0 v3,())) fun q0=>bif q0.1 then inR v3 ((List.length v0):Int) (Option.bind (zlN (v0,v3,(ix zI v0 v3).2.2.2.2.2.2.2.2.2.1,())) fun q1=>bif q1.1 then some (false,()) else k0 (v0,wI (v3 + 1))) else some (false,())) else k0 (v0,wI (v3 + 1))) else inR v3 ((List.length v0):Int) (bif !eqI zr (ix zI v0 v3) (ze zr) then some (false,()) else inR v3 ((List.length v0):Int) (bif (ix zI v0 v3).1 then inR v3 ((List.length v0):Int) (Option.bind (zii (ix zI v0 v3,())) fun q2=>bif q2.1 then inR v3 ((List.length v0):Int) (Option.bind (zlN (v0,v3,(ix zI v0 v3).2.2.2.2.2.2.2.2.2.1,())) fun q3=>bif q3.1 then some (false,()) else k0 (v0,wI (v3 + 1))) else some (false,())) else k0 (v0,wI (v3 + 1))))) else some (true,())
abbrev zqm (K:Nat):zcH→Option (Bool × Unit):=zg zcI K
theorem zCr (K:Nat):∀ n,evV Es3 K Tryz.f200 0 (ch [.bool]) [1,0,1,0] [] zCq n = zg zcI n:=zn fun n0 (v0,v3)=>by kernel_rfl
def zmQ (L0:zcH→Option (Bool × Unit)):((List zt) × Unit)→Option (Bool × Unit):=fun (x0,()) =>
 L0 (x0,0)
def zmR:((List zt) × Unit)→Option (Bool × Unit):=zmQ (zqm K0)
abbrev zuI:Fun:=⟨200,(ch [(.sl zr)]),(ch [.bool]),0,zmR⟩
theorem zGv:Sq zuI:=ml3 (d:=false) (S:=fun K=>zmQ (zqm K)) Tryz.func200 (by kernel_rfl) (fun K=>tr1 (T:=zmQ) (zCr K K) fun (x0,())=>by kernel_rfl) rfl
abbrev zcJ:Type:=(List zG) × Int
abbrev zCs:zcJ→St:=fun (v0,v3)=>St.mk [(0,.dat (.sl zy) v0),(3,.dat tI v3)] []
def zcK (k0:zcJ→Option (Bool × Unit)):zcJ→Option (Bool × Unit):=fun (v0,v3) =>
 bif decide (v3 < ((List.length v0):Int)) then inR v3 ((List.length v0):Int) (Option.bind (zlS (ix vS v0 v3,())) fun q0=>bif q0.1 then bif decide (v3 > 0) then inR v3 ((List.length v0):Int) (inR (wI (v3 - 1)) ((List.length v0):Int) (Option.bind (zg7 (ix vS v0 v3,List.getD v0 (Int.toNat (wI (v3 - 1))) (ze zy),())) fun q1=>bif q1.1 then k0 (v0,wI (v3 + 1)) else some (false,()))) else k0 (v0,wI (v3 + 1)) else some (false,())) else some (true,())
abbrev zqn (K:Nat):zcJ→Option (Bool × Unit):=zg zcK K
theorem zCt (K:Nat):∀ n,evV Es3 K Tryz.f201 0 (ch [.bool]) [1,0,1,0] [] zCs n = zg zcK n:=zn fun n0 (v0,v3)=>by kernel_rfl
def zmS (L0:zcJ→Option (Bool × Unit)):((List zG) × Unit)→Option (Bool × Unit):=fun (x0,()) =>
 L0 (x0,0)
def zmT:((List zG) × Unit)→Option (Bool × Unit):=zmS (zqn K0)
abbrev zuJ:Fun:=⟨201,(ch [(.sl zy)]),(ch [.bool]),0,zmT⟩
theorem zGw:Sq zuJ:=ml3 (d:=false) (S:=fun K=>zmS (zqn K)) Tryz.func201 (by kernel_rfl) (fun K=>tr1 (T:=zmS) (zCt K K) fun (x0,())=>by kernel_rfl) rfl
def zax:(zd × (zb × (zP × (Int × Unit))))→Option (Bool × Unit):=fun (x0,x1,x2,x3,()) =>
 Option.bind (zft (x1,x2,())) fun q0=>bif q0.1 then Option.bind (zfQ (x0,x2.1,x3,())) fun q1=>bif q1.1 then some (true,()) else some (false,()) else some (false,())
abbrev zuK:Fun:=⟨207,(ch [zl,zq,zL,tI]),(ch [.bool]),0,zax⟩
theorem zGx:Sq zuK:=ms3 (d:=false) (K:=0) Tryz.func207 (by kernel_rfl) (funext fun (x0,x1,x2,x3,())=>by kernel_rfl)
abbrev zfA:Type:=Int × zk × List zk
abbrev zGy:zfA→St:=fun (v8,o0,o1)=>St.mk [(3,.bp 0 []),(7,.ow 1),(8,.dat tI v8)] [.bx (.dat zu o0) false,.row zu o1 false]
def zfB (k0:zfA→Option ((List zk) × (Int × (Int × Unit)))):zfA→Option ((List zk) × (Int × (Int × Unit))):=fun (v8,o0,o1) =>
 bif decide (v8 < ((List.length o1):Int)) then inR v8 ((List.length o1):Int) (bif (ix qj o1 v8).1 then k0 (wI (v8 + 1),o0,o1) else inR v8 ((List.length o1):Int) (some (List.set o1 (Int.toNat v8) o0,v8,0,()))) else some ([],0,8,())
abbrev zmU (K:Nat):zfA→Option ((List zk) × (Int × (Int × Unit))):=zg zfB K
theorem zGz (K:Nat):∀ n,evV Es3 K Tryz.f51 0 (ch [(.sl zu),tI,tI]) [1,1,1,1,1,1,0,1,0] [] zGy n = zg zfB n:=zn fun n0 (v8,o0,o1)=>by kernel_rfl
def zlU (L0:zfA→Option ((List zk) × (Int × (Int × Unit)))):((List zk) × (zk × Unit))→Option ((List zk) × (Int × (Int × Unit))):=fun (x0,x1,()) =>
 Option.bind (zfy (x0,())) fun q0=>bif q0.1 then Option.bind (yZ (x1.2.1,())) fun q1=>bif q1.1 then Option.bind (yZ (x1.2.2.1,())) fun q2=>bif q2.1 then Option.bind (yZ (x1.2.2.2.1,())) fun q3=>bif q3.1 then Option.bind (zej (x1.2.2.2.2.1,())) fun q4=>bif q4.1 then bif decide ((0:Nat) + List.length x0 ≤ lim) then L0 (0,(true,x1.2),[] ++ x0) else none else some ([],0,2,()) else some ([],0,1,()) else some ([],0,1,()) else some ([],0,1,()) else some ([],0,1,())
def zlV:((List zk) × zk × Unit)→Option ((List zk) × Int × Int × Unit):=zlU (zmU K0)
abbrev zy6:Fun:=⟨51,(ch [(.sl zu),zu]),(ch [(.sl zu),tI,tI]),0,zlV⟩
theorem zLo:Sq zy6:=ml3 (d:=false) (S:=fun K=>zlU (zmU K)) Tryz.func51 (by kernel_rfl) (fun K=>tr1 (T:=zlU) (zGz K K) fun (x0,x1,())=>by kernel_rfl) rfl
def zkq:((List zk) × (Int × (Int × Unit)))→Option (zk × (Int × Unit)):=fun (x0,x1,x2,()) =>
 Option.bind (zfh (x0,())) fun q0=>Option.bind (yP (q0.1,x1,())) fun q1=>bif q1.1 then inR x1 ((List.length x0):Int) (bif (ix qj x0 x1).2.2.2.1 != x2 then some ((false,0,0,0,ByteArray.mk #[],()),3,()) else inR x1 ((List.length x0):Int) (some (ix qj x0 x1,0,()))) else some ((false,0,0,0,ByteArray.mk #[],()),3,())
abbrev zCu:Fun:=⟨56,(ch [(.sl zu),tI,tI]),(ch [zu,tI]),0,zkq⟩
theorem zNu:Sq zCu:=ms3 (d:=false) (K:=0) Tryz.func56 (by kernel_rfl) (funext fun (x0,x1,x2,())=>by kernel_rfl)
def zkr:((List zk) × (Int × (Int × Unit)))→Option ((List zk) × (Int × Unit)):=fun (x0,x1,x2,()) =>
 Option.bind (zfy (x0,())) fun q0=>bif q0.1 then Option.bind (zg8 (x0,x1,x2,())) fun q1=>bif q1.1 then bif decide ((0:Nat) + List.length x0 ≤ lim) then inR x1 ((List.length ([] ++ x0)):Int) (some (List.set ([] ++ x0) (Int.toNat x1) (ze zu),0,())) else none else some ([],3,()) else some ([],1,())
abbrev zxb:Fun:=⟨55,(ch [(.sl zu),tI,tI]),(ch [(.sl zu),tI]),0,zkr⟩
theorem zJq:Sq zxb:=ms3 (d:=false) (K:=0) Tryz.func55 (by kernel_rfl) (funext fun (x0,x1,x2,())=>by kernel_rfl)
theorem zPR {l:List Int} {g:Int × Unit→Option (Bool × Unit)} {p:Int→Bool} (hl:l.length ≤ Go.maxLen) (hp:∀ x ∈ l,g (x,()) = some (p x,())):vB (l,some g,()) = some (qK p l 0,()):=qE (τ:=tI) (B:=zaG) (fun _ _ _ _ _=>rfl) hl hp
theorem zQ1 {G:FH} (hE:EnvOk Tryz.prog G E0):zHX Tryz.prog G 104 zBt:=zPQ (specI:=vB) (zmd G hE) fun xs p ha hl=>by
 refine ⟨_,zPR (p:=zjD p) (by unfold Go.maxLen; omega) fun x hx=>?_,zIw xs 0 |>.imp id fun ⟨k,h1,h2,h3,h4⟩=>⟨k,h1,(show qK (zjD p) xs 0 = _ from h2.trans (by omega)),h3,h4⟩⟩
 obtain ⟨⟨b,⟨⟩⟩,hy⟩:=Option.isSome_iff_exists.1 (ha x hx)
 unfold zjD
 rw [hy]
def zmq:List zk × Int × Unit→Option (List Int × Unit):=fun (x0,x1,()) =>
 Option.bind (zfh (x0,())) fun q0=>Option.bind (zi5 (q0.1,())) fun q1=>Option.bind (zNg (fun z=>y0 (z.1,some x0,some x1,())) q1.1) fun ys=>some (ys,())
abbrev zFA:Fun:=⟨58,ch [.sl zu,tI],ch [.sl tI],0,zmq⟩
theorem zOU (K:Nat):evF ((En E0 false L3).del 104) K Tryz.f58 0 (ch [.sl zu,tI]) (ch [.sl tI]) = zmq:=funext fun (x0,x1,())=>by kernel_rfl
theorem zOV:Sq zFA:=fun G hE=>zmz.mk zNh ((h3.env hE).del (zQ1 hE)) Tryz.func58 (by kernel_rfl) (by kernel_rfl) fun x y hy=>⟨0,by rw [zOU]; exact hy⟩
abbrev L4:List Fun:=zsC :: zw7 :: zy4 :: zqg :: zCk :: zy5 :: zuF :: zsD :: zuG :: zw8 :: zw9 :: zxa :: zuH :: zuI :: zuJ :: zuK :: zy6 :: zCu :: zxb :: zFA :: L3
theorem h4:Sds Tryz.prog E0 L4:=⟨zEw,zJm,zLm,zCj,zNt,zLn,zGs,zEx,zGt,zJn,zJo,zJp,zGu,zGv,zGw,zGx,zLo,zNu,zJq,zOV,h3⟩
theorem ms4 {d:Bool} {F:Fun} {f:Go.Func} {K:Nat} (hf:Tryz.prog.funcs[F.id]? = some f) (ho:jF f = true) (h:evF (En E0 d L4) K f F.md F.a F.r = F.spec):Sd Tryz.prog E0 F:=mkS h4 hf ho h
theorem ml4 {d:Bool} {F:Fun} {f:Go.Func} {S:Nat→F.a.I→Option F.r.I} (hf:Tryz.prog.funcs[F.id]? = some f) (ho:jF f = true) (h:∀ K,evF (En E0 d L4) K f F.md F.a F.r = S K) (e:S K0 = F.spec):Sd Tryz.prog E0 F:=mkS h4 hf ho ((h K0).trans e)
abbrev Es4:Env:=En E0 false L4
def zcL:(qu × Unit)→Option (Bool × Unit):=fun (x0,()) =>
 Option.bind (zbt (x0.1,())) fun q0=>bif q0.1 then Option.bind (zbt (x0.2.1,())) fun q1=>bif q1.1 then Option.bind (ql (x0.2.2.1,0,3,())) fun q2=>bif q2.1 then some (false,()) else some (true,()) else some (true,()) else some (true,())
abbrev zmr:Fun:=⟨303,(ch [qz]),(ch [.bool]),0,zcL⟩
theorem zxc:Sq zmr:=ms4 (d:=false) (K:=0) Tryz.func303 (by kernel_rfl) (funext fun (x0,())=>by kernel_rfl)
def zhn:(qP × Unit)→Option (Bool × Unit):=fun (x0,()) =>
 bif x0.1 then Option.bind (zbt (x0.2.1,())) fun q0=>bif q0.1 then bif x0.1 then some (false,()) else bif !ByteArray.toList x0.2.1 == ByteArray.toList (ByteArray.mk #[]) then some (true,()) else some (false,()) else some (true,()) else bif x0.1 then some (false,()) else bif !ByteArray.toList x0.2.1 == ByteArray.toList (ByteArray.mk #[]) then some (true,()) else some (false,())
abbrev zsF:Fun:=⟨239,(ch [qh]),(ch [.bool]),0,zhn⟩
theorem zEA:Sq zsF:=ms4 (d:=false) (K:=0) Tryz.func239 (by kernel_rfl) (funext fun (x0,())=>by kernel_rfl)
def ziG:(z5 × Unit)→Option (Bool × Unit):=fun (x0,()) =>
 bif x0.1 then Option.bind (zbt (x0.2.1,())) fun q0=>bif q0.1 then Option.bind (ztA (x0,())) fun q1=>Option.bind (zck (q1.1,())) fun q2=>bif q2.1 then some (false,()) else some (true,()) else some (true,()) else bif !eqI zH x0 (ze zH) then some (true,()) else some (false,())
abbrev zuL:Fun:=⟨244,(ch [zH]),(ch [.bool]),0,ziG⟩
theorem zGA:Sq zuL:=ms4 (d:=false) (K:=0) Tryz.func244 (by kernel_rfl) (funext fun (x0,())=>by kernel_rfl)
def zks:(zk × Unit)→Option (Bool × Unit):=fun (x0,()) =>
 bif x0.1 then Option.bind (zaX (x0,())) fun q0=>bif q0.1 then Option.bind (zdv (x0.2.2.2.2.1,())) fun q1=>bif q1.1 then some (false,()) else some (true,()) else some (true,()) else bif !eqI zu x0 (ze zu) then some (true,()) else some (false,())
abbrev zxd:Fun:=⟨189,(ch [zu]),(ch [.bool]),0,zks⟩
theorem zJr:Sq zxd:=ms4 (d:=false) (K:=0) Tryz.func189 (by kernel_rfl) (funext fun (x0,())=>by kernel_rfl)
def ziH:((List zv) × Unit)→Option (Bool × Unit):=fun (x0,()) =>
 Option.bind (jf (x0,some zge,())) fun q0=>bif q0.1 then some (false,()) else some (true,())
abbrev zuM:Fun:=⟨143,(ch [(.sl zw)]),(ch [.bool]),0,ziH⟩
theorem zGB:Sq zuM:=ms4 (d:=false) (K:=0) Tryz.func143 (by kernel_rfl) (funext fun (x0,())=>by kernel_rfl)
end
end Go.Proofs.YtkcakhbkoeimdaaGreatDoor
end
section
namespace Go.Proofs.YtkcakhbkoeimdaaGreatDoor
open Go.Ev
noncomputable section
abbrev zeB:Type:=Int × (List zt) × Int × Int × List (Int × Int)
abbrev zEB:zeB→St:=fun (v4,v8,v9,v10,o0)=>St.mk [(3,.om 0),(4,.dat tI v4),(8,.dat (.sl zr) v8),(9,.dat tI v9),(10,.dat tI v10)] [.mp tI tI o0]
def zeC (k0:zeB→Option (Bool × Unit)):zeB→Option (Bool × Unit):=fun (v4,v8,v9,v10,o0) =>
 bif decide (v10 < v9) then inR v10 ((List.length v8):Int) (bif (ix zI v8 v10).1 then Option.bind (znB (ix zI v8 v10,())) fun q0=>bif q0.1 then bif (ix zI v8 v10).1 then bif (ix zI v8 v10).1 then k0 (wI (v4 + 1),v8,v9,wI (v10 + 1),jI tI o0 (ix zI v8 v10).2.2.2.2.2.2.2.2.2.1 (wI (zaD tI (0:Int) o0 (ix zI v8 v10).2.2.2.2.2.2.2.2.2.1 + 1))) else k0 (v4,v8,v9,wI (v10 + 1),o0) else bif !eqI zr (ix zI v8 v10) (ze zr) then some (false,()) else bif (ix zI v8 v10).1 then k0 (wI (v4 + 1),v8,v9,wI (v10 + 1),jI tI o0 (ix zI v8 v10).2.2.2.2.2.2.2.2.2.1 (wI (zaD tI (0:Int) o0 (ix zI v8 v10).2.2.2.2.2.2.2.2.2.1 + 1))) else k0 (v4,v8,v9,wI (v10 + 1),o0) else some (false,()) else bif (ix zI v8 v10).1 then bif (ix zI v8 v10).1 then k0 (wI (v4 + 1),v8,v9,wI (v10 + 1),jI tI o0 (ix zI v8 v10).2.2.2.2.2.2.2.2.2.1 (wI (zaD tI (0:Int) o0 (ix zI v8 v10).2.2.2.2.2.2.2.2.2.1 + 1))) else k0 (v4,v8,v9,wI (v10 + 1),o0) else bif !eqI zr (ix zI v8 v10) (ze zr) then some (false,()) else bif (ix zI v8 v10).1 then k0 (wI (v4 + 1),v8,v9,wI (v10 + 1),jI tI o0 (ix zI v8 v10).2.2.2.2.2.2.2.2.2.1 (wI (zaD tI (0:Int) o0 (ix zI v8 v10).2.2.2.2.2.2.2.2.2.1 + 1))) else k0 (v4,v8,v9,wI (v10 + 1),o0)) else bif ((List.length o0):Int) == v4 then some (true,()) else some (false,())
abbrev zsG (K:Nat):zeB→Option (Bool × Unit):=zg zeC K
theorem zEC (K:Nat):∀ n,evV Es4 K Tryz.f145 0 (ch [.bool]) [1,1,1,0,1,0] [] zEB n = zg zeC n:=zn fun n0 (v4,v8,v9,v10,o0)=>by kernel_rfl
def zoU (L0:zeB→Option (Bool × Unit)):((List zt) × Unit)→Option (Bool × Unit):=fun (x0,()) =>
 L0 (0,x0,((List.length x0):Int),0,[])
def zoV:((List zt) × Unit)→Option (Bool × Unit):=zoU (zsG K0)
abbrev zxe:Fun:=⟨145,(ch [(.sl zr)]),(ch [.bool]),0,zoV⟩
theorem zJs:Sq zxe:=ml4 (d:=false) (S:=fun K=>zoU (zsG K)) Tryz.func145 (by kernel_rfl) (fun K=>tr1 (T:=zoU) (zEC K K) fun (x0,())=>by kernel_rfl) rfl
abbrev zcM:Type:=(List zG) × (List zG) × Int × Int
abbrev zCv:zcM→St:=fun (v0,v5,v6,v7)=>St.mk [(0,.dat (.sl zy) v0),(5,.dat (.sl zy) v5),(6,.dat tI v6),(7,.dat tI v7)] []
def zcN (k0:zcM→Option (Bool × Unit)):zcM→Option (Bool × Unit):=fun (v0,v5,v6,v7) =>
 bif decide (v7 < v6) then inR v7 ((List.length v5):Int) (Option.bind (zlT (ix vS v5 v7,())) fun q0=>bif q0.1 then bif decide (v7 > 0) then inR (wI (v7 - 1)) ((List.length v0):Int) (Option.bind (ziC (List.getD v0 (Int.toNat (wI (v7 - 1))) (ze zy),ix vS v5 v7,())) fun q1=>bif decide (q1.1 ≥ 0) then some (false,()) else k0 (v0,v5,v6,wI (v7 + 1))) else k0 (v0,v5,v6,wI (v7 + 1)) else some (false,())) else some (true,())
abbrev zqo (K:Nat):zcM→Option (Bool × Unit):=zg zcN K
theorem zCw (K:Nat):∀ n,evV Es4 K Tryz.f146 0 (ch [.bool]) [1,0,1,0] [] zCv n = zg zcN n:=zn fun n0 (v0,v5,v6,v7)=>by kernel_rfl
def zmV (L0:zcM→Option (Bool × Unit)):((List zG) × Unit)→Option (Bool × Unit):=fun (x0,()) =>
 L0 (x0,x0,((List.length x0):Int),0)
def zmW:((List zG) × Unit)→Option (Bool × Unit):=zmV (zqo K0)
abbrev zuN:Fun:=⟨146,(ch [(.sl zy)]),(ch [.bool]),0,zmW⟩
theorem zGC:Sq zuN:=ml4 (d:=false) (S:=fun K=>zmV (zqo K)) Tryz.func146 (by kernel_rfl) (fun K=>tr1 (T:=zmV) (zCw K K) fun (x0,())=>by kernel_rfl) rfl
abbrev zcO:Type:=(List zp) × Int × Int × qQ
abbrev zCx:zcO→St:=fun (v10,v11,v12,o0)=>St.mk [(1,.bp 0 []),(10,.dat (.sl zx) v10),(11,.dat tI v11),(12,.dat tI v12)] [.bx (.dat qk o0) false]
def zcP (k0:zcO→Option (Bool × Unit)):zcO→Option (Bool × Unit):=fun (v10,v11,v12,o0) =>
 bif decide (v12 < v11) then inR v12 ((List.length v10):Int) (Option.bind (zmO (o0,v12,())) fun q0=>Option.bind (zi3 ((ix zf v10 v12).2.1,some fun z=>zf8 (z.1,some q0.1,()),())) fun q1=>bif q1.1 then Option.bind (yQ ((ix zf v10 v12).2.2.1,some fun z=>zb7 (z.1,some q0.1,()),())) fun q2=>bif q2.1 then Option.bind (zkg ((ix zf v10 v12).2.2.2.2.2.2.1,q0.1,())) fun q3=>bif q3.1 then k0 (v10,v11,wI (v12 + 1),o0) else some (false,()) else some (false,()) else Option.bind (yQ ((ix zf v10 v12).2.2.1,some fun z=>zb7 (z.1,some q0.1,()),())) fun q4=>bif q4.1 then some (false,()) else some (false,())) else some (true,())
abbrev zqp (K:Nat):zcO→Option (Bool × Unit):=zg zcP K
theorem zCy (K:Nat):∀ n,evV Es4 K Tryz.f85 0 (ch [.bool]) [1,0,1,0] [] zCx n = zg zcP n:=zn fun n0 (v10,v11,v12,o0)=>by kernel_rfl
def zmX (L0:zcO→Option (Bool × Unit)):(qQ × Unit)→Option (Bool × Unit):=fun (x0,()) =>
 L0 (x0.2.1.2.1,((List.length x0.2.1.2.1):Int),0,x0)
def zfC:(qQ × Unit)→Option (Bool × Unit):=zmX (zqp K0)
abbrev zuO:Fun:=⟨85,(ch [qk]),(ch [.bool]),0,zfC⟩
theorem zGD:Sq zuO:=ml4 (d:=false) (S:=fun K=>zmX (zqp K)) Tryz.func85 (by kernel_rfl) (fun K=>tr1 (T:=zmX) (zCy K K) fun (x0,())=>by kernel_rfl) rfl
abbrev zfD:Type:=(List zt) × Int × (List Int) × Int × Int × List Int
abbrev zGE:zfD→St:=fun (v0,v1,v13,v14,v15,o0)=>St.mk [(0,.dat (.sl zr) v0),(1,.dat tI v1),(6,.ow 0),(13,.dat (.sl tI) v13),(14,.dat tI v14),(15,.dat tI v15)] [.row tU o0 false]
def zfE (k0:zfD→Option (Int × (Int × Unit))):zfD→Option (Int × (Int × Unit)):=fun (v0,v1,v13,v14,v15,o0) =>
 bif decide (v15 < v14) then inR v15 ((List.length v13):Int) (inR (ix (0:Int) v13 v15) ((List.length v0):Int) (Option.bind (zis (List.getD v0 (Int.toNat (ix (0:Int) v13 v15)) (ze zr),())) fun q2=>bif q2.1 == v1 then inR (ix (0:Int) v13 v15) ((List.length v0):Int) (bif decide (List.length o0 + List.length (zh (List.replicate 1 (0:Int)) 0 (List.getD v0 (Int.toNat (ix (0:Int) v13 v15)) (ze zr)).2.2.2.2.2.2.2.2.1) ≤ lim) then k0 (v0,v1,v13,v14,wI (v15 + 1),o0 ++ zh (List.replicate 1 (0:Int)) 0 (List.getD v0 (Int.toNat (ix (0:Int) v13 v15)) (ze zr)).2.2.2.2.2.2.2.2.1) else none) else k0 (v0,v1,v13,v14,wI (v15 + 1),o0))) else Option.bind (zhc (o0,())) fun q3=>some (q3.1,q3.2.1,())
abbrev zuP (K:Nat):zfD→Option (Int × (Int × Unit)):=zg zfE K
theorem zGF (K:Nat):∀ n,evV Es4 K Tryz.f268 0 (ch [tU,tI]) [1,1,1,0,1,0] [] zGE n = zg zfE n:=zn fun n0 (v0,v1,v13,v14,v15,o0)=>by kernel_rfl
def zlW (L0:zfD→Option (Int × (Int × Unit))):((List zt) × (Int × Unit))→Option (Int × (Int × Unit)):=fun (x0,x1,()) =>
 Option.bind (jk (x1,())) fun q0=>bif q0.1 then Option.bind (zkl (x0,())) fun q1=>L0 (x0,x1,q1.1,((List.length q1.1):Int),0,[]) else some (0,1,())
def zlX:((List zt) × Int × Unit)→Option (Int × Int × Unit):=zlW (zuP K0)
abbrev zy7:Fun:=⟨268,(ch [(.sl zr),tI]),(ch [tU,tI]),0,zlX⟩
theorem zLp:Sq zy7:=ml4 (d:=false) (S:=fun K=>zlW (zuP K)) Tryz.func268 (by kernel_rfl) (fun K=>tr1 (T:=zlW) (zGF K K) fun (x0,x1,())=>by kernel_rfl) rfl
abbrev zbu:Type:=Int × zd × zb
abbrev zoW:zbu→St:=fun (v9,o0,o1)=>St.mk [(2,.bp 0 []),(3,.bp 1 []),(9,.dat tI v9)] [.bx (.dat zl o0) false,.bx (.dat zq o1) false]
abbrev zbv:Type:=Int × zd × zb
abbrev zoX:zbv→St:=fun (v7,o0,o1)=>St.mk [(2,.bp 0 []),(3,.bp 1 []),(7,.dat tI v7)] [.bx (.dat zl o0) false,.bx (.dat zq o1) false]
abbrev zbw:Type:=Int × zd × zb
abbrev zAs:zbw→St:=fun (v5,o0,o1)=>St.mk [(2,.bp 0 []),(3,.bp 1 []),(5,.dat tI v5)] [.bx (.dat zl o0) false,.bx (.dat zq o1) false]
def zfk (k2:zbu→Option (Bool × Unit)):zbu→Option (Bool × Unit):=fun (v9,o0,o1) =>
 bif decide (v9 < ((List.length o1.2.2.2.2.2.1):Int)) then inR v9 ((List.length o1.2.2.2.2.2.1):Int) (bif ix (0:Int) o1.2.2.2.2.2.1 v9 != -1 then inR v9 ((List.length o1.2.2.2.2.2.1):Int) (Option.bind (jR (o0,ix (0:Int) o1.2.2.2.2.2.1 v9,())) fun q6=>bif q6.1 then k2 (wI (v9 + 1),o0,o1) else some (false,())) else k2 (wI (v9 + 1),o0,o1)) else some (true,())
abbrev zbx (K:Nat):zbu→Option (Bool × Unit):=zg zfk K
theorem zAt (K:Nat):∀ n,evV Es4 K Tryz.f108 0 (ch [.bool]) [1,1,1,1,0,1,0] [] zoW n = zg zfk n:=zn fun n2 (v9,o0,o1)=>by kernel_rfl
def zby (L2:zbu→Option (Bool × Unit)) (k1:zbv→Option (Bool × Unit)):zbv→Option (Bool × Unit):=fun (v7,o0,o1) =>
 bif decide (v7 < ((List.length o1.2.2.2.2.1):Int)) then inR v7 ((List.length o1.2.2.2.2.1):Int) (bif decide ((ix vS o1.2.2.2.2.1 v7).2.1 ≥ ((List.length o0.2.1):Int)) then some (false,()) else inR (ix vS o1.2.2.2.2.1 v7).2.1 ((List.length o0.2.1):Int) (bif (ix vS o1.2.2.2.2.1 v7).2.2.1 != List.getD o0.2.1 (Int.toNat (ix vS o1.2.2.2.2.1 v7).2.1) (0:Int) then some (false,()) else Option.bind (jR (o0,(ix vS o1.2.2.2.2.1 v7).2.2.2.1,())) fun q5=>bif q5.1 then bif decide ((ix vS o1.2.2.2.2.1 v7).1 > o1.1) then some (false,()) else k1 (wI (v7 + 1),o0,o1) else some (false,()))) else L2 (0,o0,o1)
abbrev zbz (K:Nat):zbv→Option (Bool × Unit):=zg (fun k1=>zby (zbx K) k1) K
theorem zAu (K:Nat):∀ n,evV Es4 K Tryz.f108 0 (ch [.bool]) [1,1,1,0,1,0] [] zoX n = zg (fun k1=>zby (zbx K) k1) n:=qx (B:=fun L2 k1=>zby L2 k1) (V1:=fun n1=>evV Es4 K Tryz.f108 0 (ch [.bool]) [1,1,1,1,0,1,0] [] zoW K) (W1:=fun k1=>(zbx K)) (fun n1=>zAt K K) fun n1 (v7,o0,o1)=>by kernel_rfl
def zbA (L1:zbv→Option (Bool × Unit)) (k0:zbw→Option (Bool × Unit)):zbw→Option (Bool × Unit):=fun (v5,o0,o1) =>
 bif decide (v5 < ((List.length o1.2.2.2.1):Int)) then inR v5 ((List.length o1.2.2.2.1):Int) (bif (ix zI o1.2.2.2.1 v5).1 then bif decide ((ix zI o1.2.2.2.1 v5).2.1 ≥ ((List.length o0.1):Int)) then some (false,()) else Option.bind (jR (o0,(ix zI o1.2.2.2.1 v5).2.2.1,())) fun q4=>bif q4.1 then bif decide ((ix zI o1.2.2.2.1 v5).2.2.2.2.2.2.2.2.2.1 ≥ ((List.length o1.2.2.2.2.1):Int)) then some (false,()) else k0 (wI (v5 + 1),o0,o1) else some (false,()) else k0 (wI (v5 + 1),o0,o1)) else L1 (0,o0,o1)
abbrev zi7 (K:Nat):zbw→Option (Bool × Unit):=zg (fun k0=>zbA (zbz K) k0) K
theorem zAv (K:Nat):∀ n,evV Es4 K Tryz.f108 0 (ch [.bool]) [1,1,0,1,0] [] zAs n = zg (fun k0=>zbA (zbz K) k0) n:=qx (B:=fun L1 k0=>zbA L1 k0) (V1:=fun n0=>evV Es4 K Tryz.f108 0 (ch [.bool]) [1,1,1,0,1,0] [] zoX K) (W1:=fun k0=>(zbz K)) (fun n0=>zAu K K) fun n0 (v5,o0,o1)=>by kernel_rfl
def zho (L0:zbw→Option (Bool × Unit)):(zd × (zb × Unit))→Option (Bool × Unit):=fun (x0,x1,()) =>
 Option.bind (ziF (x0,x1.2.2.1,())) fun q0=>bif q0.1 then Option.bind (zmR (x1.2.2.2.1,())) fun q1=>bif q1.1 then Option.bind (zmT (x1.2.2.2.2.1,())) fun q2=>bif q2.1 then Option.bind (zft (x1,ze zL,())) fun q3=>bif q3.1 then L0 (0,x0,x1) else some (false,()) else some (false,()) else some (false,()) else some (false,())
def zhp:(zd × zb × Unit)→Option (Bool × Unit):=zho (zi7 K0)
abbrev zsH:Fun:=⟨108,(ch [zl,zq]),(ch [.bool]),0,zhp⟩
theorem zED:Sq zsH:=ml4 (d:=false) (S:=fun K=>zho (zi7 K)) Tryz.func108 (by kernel_rfl) (fun K=>tr1 (T:=zho) (zAv K K) fun (x0,x1,())=>by kernel_rfl) rfl
def zkt:(zd × (zb × (Int × (Int × Unit))))→Option (Bool × Unit):=fun (x0,x1,x2,x3,()) =>
 inR x2 ((List.length x1.2.1):Int) (inR x3 ((List.length (ix zf x1.2.1 x2).2.2.1):Int) (bif (List.getD (ix zf x1.2.1 x2).2.2.1 (Int.toNat x3) (ze zH)).1 then bif (List.getD (ix zf x1.2.1 x2).2.2.1 (Int.toNat x3) (ze zH)).2.2.1 == 1 then Option.bind (jR (x0,(List.getD (ix zf x1.2.1 x2).2.2.1 (Int.toNat x3) (ze zH)).2.2.2.1,())) fun q0=>bif q0.1 then some (true,()) else some (false,()) else bif (List.getD (ix zf x1.2.1 x2).2.2.1 (Int.toNat x3) (ze zH)).2.2.1 == 2 then Option.bind (zax (x0,x1,(List.getD (ix zf x1.2.1 x2).2.2.1 (Int.toNat x3) (ze zH)).2.2.2.2.1,x2,())) fun q1=>bif q1.1 then some (true,()) else some (false,()) else bif decide ((List.getD (ix zf x1.2.1 x2).2.2.1 (Int.toNat x3) (ze zH)).2.2.2.1 < ((List.length (ix zf x1.2.1 x2).2.2.2.2.1):Int)) then inR (List.getD (ix zf x1.2.1 x2).2.2.1 (Int.toNat x3) (ze zH)).2.2.2.1 ((List.length (ix zf x1.2.1 x2).2.2.2.2.1):Int) (bif (List.getD (ix zf x1.2.1 x2).2.2.2.2.1 (Int.toNat (List.getD (ix zf x1.2.1 x2).2.2.1 (Int.toNat x3) (ze zH)).2.2.2.1) (ze zw)).1 then inR (List.getD (ix zf x1.2.1 x2).2.2.1 (Int.toNat x3) (ze zH)).2.2.2.1 ((List.length (ix zf x1.2.1 x2).2.2.2.2.1):Int) (bif (List.getD (ix zf x1.2.1 x2).2.2.2.2.1 (Int.toNat (List.getD (ix zf x1.2.1 x2).2.2.1 (Int.toNat x3) (ze zH)).2.2.2.1) (ze zw)).2.2.2.1.2.2.1 == x3 then some (true,()) else some (false,())) else some (false,())) else some (false,()) else some (true,())))
abbrev zxf:Fun:=⟨208,(ch [zl,zq,tI,tI]),(ch [.bool]),0,zkt⟩
theorem zJt:Sq zxf:=ms4 (d:=false) (K:=0) Tryz.func208 (by kernel_rfl) (funext fun (x0,x1,x2,x3,())=>by kernel_rfl)
abbrev L5:List Fun:=zmr :: zsF :: zuL :: zxd :: zuM :: zxe :: zuN :: zuO :: zy7 :: zsH :: zxf :: L4
theorem h5:Sds Tryz.prog E0 L5:=⟨zxc,zEA,zGA,zJr,zGB,zJs,zGC,zGD,zLp,zED,zJt,h4⟩
theorem ms5 {d:Bool} {F:Fun} {f:Go.Func} {K:Nat} (hf:Tryz.prog.funcs[F.id]? = some f) (ho:jF f = true) (h:evF (En E0 d L5) K f F.md F.a F.r = F.spec):Sd Tryz.prog E0 F:=mkS h5 hf ho h
theorem ml5 {d:Bool} {F:Fun} {f:Go.Func} {S:Nat→F.a.I→Option F.r.I} (hf:Tryz.prog.funcs[F.id]? = some f) (ho:jF f = true) (h:∀ K,evF (En E0 d L5) K f F.md F.a F.r = S K) (e:S K0 = F.spec):Sd Tryz.prog E0 F:=mkS h5 hf ho ((h K0).trans e)
abbrev Es5:Env:=En E0 false L5
def jO:(zd × Unit)→Option (Bool × Unit):=fun (x0,()) =>
 Option.bind (ql (((List.length x0.2.2.1):Int),1,8,())) fun q0=>bif q0.1 then Option.bind (zaL (x0.2.2.1,some zcL,())) fun q1=>bif q1.1 then some (false,()) else Option.bind (zhJ (x0,())) fun q2=>Option.bind (zn8 (q2.1,())) fun q3=>bif q3.1 then some (true,()) else some (false,()) else some (false,())
abbrev zoY:Fun:=⟨216,(ch [zl]),(ch [.bool]),0,jO⟩
theorem zAw:Sq zoY:=ms5 (d:=false) (K:=0) Tryz.func216 (by kernel_rfl) (funext fun (x0,())=>by kernel_rfl)
def zku:((List qP) × Unit)→Option (Bool × Unit):=fun (x0,()) =>
 Option.bind (zdu (x0,some zhn,())) fun q0=>bif q0.1 then some (false,()) else some (true,())
abbrev zxg:Fun:=⟨140,(ch [(.sl qh)]),(ch [.bool]),0,zku⟩
theorem zJu:Sq zxg:=ms5 (d:=false) (K:=0) Tryz.func140 (by kernel_rfl) (funext fun (x0,())=>by kernel_rfl)
def ziI:((List z5) × Unit)→Option (Bool × Unit):=fun (x0,()) =>
 Option.bind (jq (x0,some ziG,())) fun q0=>bif q0.1 then some (false,()) else some (true,())
abbrev zuQ:Fun:=⟨142,(ch [(.sl zH)]),(ch [.bool]),0,ziI⟩
theorem zGG:Sq zuQ:=ms5 (d:=false) (K:=0) Tryz.func142 (by kernel_rfl) (funext fun (x0,())=>by kernel_rfl)
def zeD:((List zk) × Unit)→Option (Bool × Unit):=fun (x0,()) =>
 Option.bind (jt (x0,some zks,())) fun q0=>bif q0.1 then some (false,()) else some (true,())
abbrev zxh:Fun:=⟨93,(ch [(.sl zu)]),(ch [.bool]),0,zeD⟩
theorem zJv:Sq zxh:=ms5 (d:=false) (K:=0) Tryz.func93 (by kernel_rfl) (funext fun (x0,())=>by kernel_rfl)
abbrev zeE:Type:=Int × (List zp) × Int × Int × (List (List Int)) × Int × Int × List Int
abbrev zsI:zeE→St:=fun (v1,v31,v32,v33,v52,v53,v54,o0)=>St.mk [(1,.dat tI v1),(8,.ow 0),(31,.dat (.sl zx) v31),(32,.dat tI v32),(33,.dat tI v33),(52,.dat (.sl (.arr 4 tU)) v52),(53,.dat tI v53),(54,.dat tI v54)] [.row tU o0 false]
abbrev yT:Type:=Int × (List zp) × Int × Int × List Int
abbrev zsJ:yT→St:=fun (v1,v31,v32,v33,o0)=>St.mk [(1,.dat tI v1),(8,.ow 0),(31,.dat (.sl zx) v31),(32,.dat tI v32),(33,.dat tI v33)] [.row tU o0 false]
def zeF (k0:yT→Option (Int × (Int × Unit))) (k1:zeE→Option (Int × (Int × Unit))):zeE→Option (Int × (Int × Unit)):=fun (v1,v31,v32,v33,v52,v53,v54,o0) =>
 bif decide (v54 < v53) then inR v54 ((List.length v52):Int) (inR v1 (↑4:Int) (bif decide (List.length o0 + List.length (zh (List.replicate 1 (0:Int)) 0 (List.getD (List.getD v52 (Int.toNat v54) (ze (.arr 4 tU))) (Int.toNat v1) (0:Int))) ≤ lim) then k1 (v1,v31,v32,v33,v52,v53,wI (v54 + 1),o0 ++ zh (List.replicate 1 (0:Int)) 0 (List.getD (List.getD v52 (Int.toNat v54) (ze (.arr 4 tU))) (Int.toNat v1) (0:Int))) else none)) else k0 (v1,v31,v32,wI (v33 + 1),o0)
abbrev zeG (K:Nat) (k0:yT→Option (Int × (Int × Unit))):zeE→Option (Int × (Int × Unit)):=zg (fun k1=>zeF k0 k1) K
theorem zEE (K:Nat) (n0:Nat):∀ n,evV Es5 K Tryz.f172 0 (ch [tU,tI]) [1,1,1,1,1,0,1,0,0,1,1,0,0,1,1,1,1,1,0] [n0] zsI n = zg (fun k1=>zeF (evV Es5 K Tryz.f172 0 (ch [tU,tI]) [1,1,1,1,1,0,1,0] [] zsJ n0) k1) n:=zn fun n1 (v1,v31,v32,v33,v52,v53,v54,o0)=>by kernel_rfl
def za3 (L1:zeE→Option (Int × (Int × Unit))) (k0:yT→Option (Int × (Int × Unit))):yT→Option (Int × (Int × Unit)):=fun (v1,v31,v32,v33,o0) =>
 bif decide (v33 < v32) then inR v33 ((List.length v31):Int) (Option.bind (zkn ((ix zf v31 v33).2.2.2.2.1,v1,())) fun q2=>bif q2.2.1 != 0 then some (0,q2.2.1,()) else bif decide (List.length o0 + List.length (zh (List.replicate 1 (0:Int)) 0 q2.1) ≤ lim) then L1 (v1,v31,v32,v33,(ix zf v31 v33).2.2.2.2.2.1,((List.length (ix zf v31 v33).2.2.2.2.2.1):Int),0,o0 ++ zh (List.replicate 1 (0:Int)) 0 q2.1) else none) else Option.bind (zhc (o0,())) fun q3=>some (q3.1,q3.2.1,())
abbrev zsK (K:Nat):yT→Option (Int × (Int × Unit)):=zg (fun k0=>za3 (zeG K k0) k0) K
theorem zEF (K:Nat):∀ n,evV Es5 K Tryz.f172 0 (ch [tU,tI]) [1,1,1,1,1,0,1,0] [] zsJ n = zg (fun k0=>za3 (zeG K k0) k0) n:=qx (B:=fun L1 k0=>za3 L1 k0) (V1:=fun n0=>evV Es5 K Tryz.f172 0 (ch [tU,tI]) [1,1,1,1,1,0,1,0,0,1,1,0,0,1,1,1,1,1,0] [n0] zsI K) (W1:=fun k0=>(zeG K k0)) (fun n0=>zEE K n0 K) fun n0 (v1,v31,v32,v33,o0)=>by kernel_rfl
def zkv (L0:yT→Option (Int × (Int × Unit))):(zb × (Int × Unit))→Option (Int × (Int × Unit)):=fun (x0,x1,()) =>
 Option.bind (jk (x1,())) fun q0=>bif q0.1 then Option.bind (zlX (x0.2.2.2.1,x1,())) fun q1=>bif q1.2.1 != 0 then some (0,q1.2.1,()) else L0 (x1,x0.2.1,((List.length x0.2.1):Int),0,[q1.1]) else some (0,1,())
def zkw:(zb × Int × Unit)→Option (Int × Int × Unit):=zkv (zsK K0)
abbrev zxi:Fun:=⟨172,(ch [zq,tI]),(ch [tU,tI]),0,zkw⟩
theorem zJw:Sq zxi:=ml5 (d:=false) (S:=fun K=>zkv (zsK K)) Tryz.func172 (by kernel_rfl) (fun K=>tr1 (T:=zkv) (zEF K K) fun (x0,x1,())=>by kernel_rfl) rfl
abbrev zcQ:Type:=Int × Int × zd × zb × zp
abbrev zqq:zcQ→St:=fun (v2,v14,o0,o1,o2)=>St.mk [(2,.dat tI v2),(3,.bp 0 []),(4,.bp 1 []),(7,.bp 2 []),(14,.dat tI v14)] [.bx (.dat zl o0) false,.bx (.dat zq o1) false,.bx (.dat zx o2) false]
abbrev zcR:Type:=Int × Int × zd × zb × zp
abbrev zqr:zcR→St:=fun (v2,v12,o0,o1,o2)=>St.mk [(2,.dat tI v2),(3,.bp 0 []),(4,.bp 1 []),(7,.bp 2 []),(12,.dat tI v12)] [.bx (.dat zl o0) false,.bx (.dat zq o1) false,.bx (.dat zx o2) false]
abbrev zcS:Type:=Int × Int × zd × zb × zp
abbrev zqs:zcS→St:=fun (v2,v11,o0,o1,o2)=>St.mk [(2,.dat tI v2),(3,.bp 0 []),(4,.bp 1 []),(7,.bp 2 []),(11,.dat tI v11)] [.bx (.dat zl o0) false,.bx (.dat zq o1) false,.bx (.dat zx o2) false]
abbrev zcT:Type:=Int × Int × zd × zb × zp
abbrev zqt:zcT→St:=fun (v2,v10,o0,o1,o2)=>St.mk [(2,.dat tI v2),(3,.bp 0 []),(4,.bp 1 []),(7,.bp 2 []),(10,.dat tI v10)] [.bx (.dat zl o0) false,.bx (.dat zq o1) false,.bx (.dat zx o2) false]
abbrev zcU:Type:=Int × Int × zd × zb × zp
abbrev zCz:zcU→St:=fun (v2,v8,o0,o1,o2)=>St.mk [(2,.dat tI v2),(3,.bp 0 []),(4,.bp 1 []),(7,.bp 2 []),(8,.dat tI v8)] [.bx (.dat zl o0) false,.bx (.dat zq o1) false,.bx (.dat zx o2) false]
def zgh (k4:zcQ→Option (Bool × Unit)):zcQ→Option (Bool × Unit):=fun (v2,v14,o0,o1,o2) =>
 bif decide (v14 < ((List.length o2.2.2.2.2.2.2.1):Int)) then inR v14 ((List.length o2.2.2.2.2.2.2.1):Int) (Option.bind (zax (o0,o1,ix zIx o2.2.2.2.2.2.2.1 v14,v2,())) fun q12=>bif q12.1 then k4 (v2,wI (v14 + 1),o0,o1,o2) else some (false,())) else some (true,())
abbrev zcV (K:Nat):zcQ→Option (Bool × Unit):=zg zgh K
theorem zCA (K:Nat):∀ n,evV Es5 K Tryz.f109 0 (ch [.bool]) [1,1,1,1,1,1,1,0,1,0] [] zqq n = zg zgh n:=zn fun n4 (v2,v14,o0,o1,o2)=>by kernel_rfl
def zcW (L4:zcQ→Option (Bool × Unit)) (k3:zcR→Option (Bool × Unit)):zcR→Option (Bool × Unit):=fun (v2,v12,o0,o1,o2) =>
 bif decide (v12 < ((List.length o2.2.2.2.1):Int)) then inR v12 ((List.length o2.2.2.2.1):Int) (bif (ix qj o2.2.2.2.1 v12).1 then Option.bind (zfQ (o0,(ix qj o2.2.2.2.1 v12).2.1,v2,())) fun q9=>bif q9.1 then Option.bind (jR (o0,(ix qj o2.2.2.2.1 v12).2.2.1,())) fun q10=>bif q10.1 then Option.bind (jR (o0,(ix qj o2.2.2.2.1 v12).2.2.2.1,())) fun q11=>bif q11.1 then k3 (v2,wI (v12 + 1),o0,o1,o2) else some (false,()) else some (false,()) else some (false,()) else k3 (v2,wI (v12 + 1),o0,o1,o2)) else L4 (v2,0,o0,o1,o2)
abbrev zcX (K:Nat):zcR→Option (Bool × Unit):=zg (fun k3=>zcW (zcV K) k3) K
theorem zCB (K:Nat):∀ n,evV Es5 K Tryz.f109 0 (ch [.bool]) [1,1,1,1,1,1,0,1,0] [] zqr n = zg (fun k3=>zcW (zcV K) k3) n:=qx (B:=fun L4 k3=>zcW L4 k3) (V1:=fun n3=>evV Es5 K Tryz.f109 0 (ch [.bool]) [1,1,1,1,1,1,1,0,1,0] [] zqq K) (W1:=fun k3=>(zcV K)) (fun n3=>zCA K K) fun n3 (v2,v12,o0,o1,o2)=>by kernel_rfl
def zcY (L3:zcR→Option (Bool × Unit)) (k2:zcS→Option (Bool × Unit)):zcS→Option (Bool × Unit):=fun (v2,v11,o0,o1,o2) =>
 bif decide (v11 < ((List.length o2.2.2.2.2.1):Int)) then Option.bind (zj8 (o0,o2,v11,())) fun q8=>bif q8.1 then k2 (v2,wI (v11 + 1),o0,o1,o2) else some (false,()) else L3 (v2,0,o0,o1,o2)
abbrev zcZ (K:Nat):zcS→Option (Bool × Unit):=zg (fun k2=>zcY (zcX K) k2) K
theorem zCC (K:Nat):∀ n,evV Es5 K Tryz.f109 0 (ch [.bool]) [1,1,1,1,1,0,1,0] [] zqs n = zg (fun k2=>zcY (zcX K) k2) n:=qx (B:=fun L3 k2=>zcY L3 k2) (V1:=fun n2=>evV Es5 K Tryz.f109 0 (ch [.bool]) [1,1,1,1,1,1,0,1,0] [] zqr K) (W1:=fun k2=>(zcX K)) (fun n2=>zCB K K) fun n2 (v2,v11,o0,o1,o2)=>by kernel_rfl
def zc0 (L2:zcS→Option (Bool × Unit)) (k1:zcT→Option (Bool × Unit)):zcT→Option (Bool × Unit):=fun (v2,v10,o0,o1,o2) =>
 bif decide (v10 < ((List.length o2.2.2.1):Int)) then Option.bind (zkt (o0,o1,v2,v10,())) fun q7=>bif q7.1 then k1 (v2,wI (v10 + 1),o0,o1,o2) else some (false,()) else L2 (v2,0,o0,o1,o2)
abbrev zc1 (K:Nat):zcT→Option (Bool × Unit):=zg (fun k1=>zc0 (zcZ K) k1) K
theorem zCD (K:Nat):∀ n,evV Es5 K Tryz.f109 0 (ch [.bool]) [1,1,1,1,0,1,0] [] zqt n = zg (fun k1=>zc0 (zcZ K) k1) n:=qx (B:=fun L2 k1=>zc0 L2 k1) (V1:=fun n1=>evV Es5 K Tryz.f109 0 (ch [.bool]) [1,1,1,1,1,0,1,0] [] zqs K) (W1:=fun k1=>(zcZ K)) (fun n1=>zCC K K) fun n1 (v2,v10,o0,o1,o2)=>by kernel_rfl
def zc2 (L1:zcT→Option (Bool × Unit)) (k0:zcU→Option (Bool × Unit)):zcU→Option (Bool × Unit):=fun (v2,v8,o0,o1,o2) =>
 bif decide (v8 < ((List.length o2.2.1):Int)) then inR v8 ((List.length o2.2.1):Int) (bif (ix qf o2.2.1 v8).1 then Option.bind (zax (o0,o1,(ix qf o2.2.1 v8).2.1,v2,())) fun q5=>bif q5.1 then Option.bind (zax (o0,o1,(ix qf o2.2.1 v8).2.2.1,v2,())) fun q6=>bif q6.1 then k0 (v2,wI (v8 + 1),o0,o1,o2) else some (false,()) else some (false,()) else k0 (v2,wI (v8 + 1),o0,o1,o2)) else L1 (v2,0,o0,o1,o2)
abbrev zkx (K:Nat):zcU→Option (Bool × Unit):=zg (fun k0=>zc2 (zc1 K) k0) K
theorem zCE (K:Nat):∀ n,evV Es5 K Tryz.f109 0 (ch [.bool]) [1,1,1,0,1,0] [] zCz n = zg (fun k0=>zc2 (zc1 K) k0) n:=qx (B:=fun L1 k0=>zc2 L1 k0) (V1:=fun n0=>evV Es5 K Tryz.f109 0 (ch [.bool]) [1,1,1,1,0,1,0] [] zqt K) (W1:=fun k0=>(zc1 K)) (fun n0=>zCD K K) fun n0 (v2,v8,o0,o1,o2)=>by kernel_rfl
def ziJ (L0:zcU→Option (Bool × Unit)):(zd × (zb × (Int × Unit)))→Option (Bool × Unit):=fun (x0,x1,x2,()) =>
 inR x2 ((List.length x1.2.1):Int) (Option.bind (zmG ((ix zf x1.2.1 x2).1,())) fun q0=>bif q0.1 then Option.bind (zmI ((ix zf x1.2.1 x2).2.1,())) fun q1=>bif q1.1 then Option.bind (zmK ((ix zf x1.2.1 x2).2.2.1,())) fun q2=>bif q2.1 then Option.bind (zfy ((ix zf x1.2.1 x2).2.2.2.1,())) fun q3=>bif q3.1 then Option.bind (zmN ((ix zf x1.2.1 x2).2.2.2.2.1,())) fun q4=>bif q4.1 then L0 (x2,0,x0,x1,ix zf x1.2.1 x2) else some (false,()) else some (false,()) else some (false,()) else some (false,()) else some (false,()))
def zfF:(zd × zb × Int × Unit)→Option (Bool × Unit):=ziJ (zkx K0)
abbrev zuR:Fun:=⟨109,(ch [zl,zq,tI]),(ch [.bool]),0,zfF⟩
theorem zGH:Sq zuR:=ml5 (d:=false) (S:=fun K=>ziJ (zkx K)) Tryz.func109 (by kernel_rfl) (fun K=>tr1 (T:=ziJ) (zCE K K) fun (x0,x1,x2,())=>by kernel_rfl) rfl
abbrev L6:List Fun:=zoY :: zxg :: zuQ :: zxh :: zxi :: zuR :: L5
theorem h6:Sds Tryz.prog E0 L6:=⟨zAw,zJu,zGG,zJv,zJw,zGH,h5⟩
theorem ms6 {d:Bool} {F:Fun} {f:Go.Func} {K:Nat} (hf:Tryz.prog.funcs[F.id]? = some f) (ho:jF f = true) (h:evF (En E0 d L6) K f F.md F.a F.r = F.spec):Sd Tryz.prog E0 F:=mkS h6 hf ho h
theorem ml6 {d:Bool} {F:Fun} {f:Go.Func} {S:Nat→F.a.I→Option F.r.I} (hf:Tryz.prog.funcs[F.id]? = some f) (ho:jF f = true) (h:∀ K,evF (En E0 d L6) K f F.md F.a F.r = S K) (e:S K0 = F.spec):Sd Tryz.prog E0 F:=mkS h6 hf ho ((h K0).trans e)
abbrev Es6:Env:=En E0 false L6
abbrev zc3:Type:=Int × Int × zd × List (Option ((zd × Unit)→Option (Bool × Unit)))
abbrev zCF:zc3→St:=fun (v6,v7,o0,o1)=>St.mk [(1,.bp 0 []),(5,.ow 1),(6,.dat tI v6),(7,.dat tI v7)] [.bx (.dat zl o0) false,.row (.fn (.pair zl .unit) (.pair .bool .unit)) o1 false]
def zgi (k0:zc3→Option (Bool × Unit)):zc3→Option (Bool × Unit):=fun (v6,v7,o0,o1) =>
 bif decide (v7 < v6) then inR v7 ((List.length o1):Int) (Option.bind (List.getD o1 (Int.toNat v7) (ze (.fn (.pair zl .unit) (.pair .bool .unit)))) fun q0=>Option.bind (q0 (o0,())) fun q1=>bif q1.1 then k0 (v6,wI (v7 + 1),o0,o1) else some (false,())) else some (true,())
abbrev zqu (K:Nat):zc3→Option (Bool × Unit):=zg zgi K
theorem zCG (K:Nat):∀ n,evV Es6 K Tryz.f113 0 (ch [.bool]) [1,0,1,0] [] zCF n = zg zgi n:=zn fun n0 (v6,v7,o0,o1)=>by kernel_rfl
def zmY (L0:zc3→Option (Bool × Unit)):(zd × Unit)→Option (Bool × Unit):=fun (x0,()) =>
 L0 (((List.length (zh (zh (zh (zh (zh (zh (List.replicate 6 (ze (.fn (.pair zl .unit) (.pair .bool .unit)))) 0 (some vK)) 1 (some ym)) 2 (some jO)) 3 (some vI)) 4 (some vJ)) 5 (some y8))):Int),0,x0,[some vK,some ym,some jO,some vI,some vJ,some y8])
def vo:(zd × Unit)→Option (Bool × Unit):=zmY (zqu K0)
abbrev zuS:Fun:=⟨113,(ch [zl]),(ch [.bool]),0,vo⟩
theorem zGI:Sq zuS:=ml6 (d:=false) (S:=fun K=>zmY (zqu K)) Tryz.func113 (by kernel_rfl) (fun K=>tr1 (T:=zmY) (zCG K K) fun (x0,())=>by kernel_rfl) rfl
def zgj:(zp × Unit)→Option (Bool × Unit):=fun (x0,()) =>
 Option.bind (zku (x0.1,())) fun q0=>bif q0.1 then Option.bind (zoL (x0.2.1,())) fun q1=>bif q1.1 then Option.bind (ziI (x0.2.2.1,())) fun q2=>bif q2.1 then Option.bind (zeD (x0.2.2.2.1,())) fun q3=>bif q3.1 then Option.bind (ziH (x0.2.2.2.2.1,())) fun q4=>bif q4.1 then some (true,()) else some (false,()) else some (false,()) else some (false,()) else some (false,()) else some (false,())
abbrev zqv:Fun:=⟨139,(ch [zx]),(ch [.bool]),0,zgj⟩
theorem zCH:Sq zqv:=ms6 (d:=false) (K:=0) Tryz.func139 (by kernel_rfl) (funext fun (x0,())=>by kernel_rfl)
abbrev zc4:Type:=Int × Int × (List zp) × Int × Int × qQ
abbrev zqw:zc4→St:=fun (v3,v10,v15,v16,v17,o0)=>St.mk [(1,.bp 0 []),(3,.dat tI v3),(10,.dat tI v10),(15,.dat (.sl zx) v15),(16,.dat tI v16),(17,.dat tI v17)] [.bx (.dat qk o0) false]
abbrev ye:Type:=Int × qQ
abbrev zqx:ye→St:=fun (v10,o0)=>St.mk [(1,.bp 0 []),(10,.dat tI v10)] [.bx (.dat qk o0) false]
def zc5 (k0:ye→Option (Bool × Unit)) (k1:zc4→Option (Bool × Unit)):zc4→Option (Bool × Unit):=fun (v3,v10,v15,v16,v17,o0) =>
 bif decide (v17 < v16) then inR v17 ((List.length v15):Int) (inR v3 (↑4:Int) (inR v17 ((List.length o0.1.2.2.2.2.1):Int) (bif decide (List.getD (ix zf v15 v17).2.2.2.2.2.2.2.1 (Int.toNat v3) (0:Int) > (ix qp o0.1.2.2.2.2.1 v17).2.2.2.2.2.1) then some (false,()) else k1 (v3,v10,v15,v16,wI (v17 + 1),o0)))) else Option.bind (zkw (o0.2.1,v3,())) fun q0=>Option.bind (zko (o0.2.1,v3,())) fun q1=>bif q0.2.1 != 0 then some (false,()) else bif q1.2.1 != 0 then some (false,()) else bif q0.1 != q1.1 then some (false,()) else k0 (wI (v10 + 1),o0)
abbrev zc6 (K:Nat) (k0:ye→Option (Bool × Unit)):zc4→Option (Bool × Unit):=zg (fun k1=>zc5 k0 k1) K
theorem zCI (K:Nat) (n0:Nat):∀ n,evV Es6 K Tryz.f88 0 (ch [.bool]) [1,0,1,0,0,1,1,0,0,1,0,1,0] [n0] zqw n = zg (fun k1=>zc5 (evV Es6 K Tryz.f88 0 (ch [.bool]) [1,0,1,0] [] zqx n0) k1) n:=zn fun n1 (v3,v10,v15,v16,v17,o0)=>by kernel_rfl
def zc7 (L1:zc4→Option (Bool × Unit)) (k0:ye→Option (Bool × Unit)):ye→Option (Bool × Unit):=fun (v10,o0) =>
 bif decide (v10 < 4) then L1 (v10,v10,o0.2.1.2.1,((List.length o0.2.1.2.1):Int),0,o0) else some (true,())
abbrev zqy (K:Nat):ye→Option (Bool × Unit):=zg (fun k0=>zc7 (zc6 K k0) k0) K
theorem zCJ (K:Nat):∀ n,evV Es6 K Tryz.f88 0 (ch [.bool]) [1,0,1,0] [] zqx n = zg (fun k0=>zc7 (zc6 K k0) k0) n:=qx (B:=fun L1 k0=>zc7 L1 k0) (V1:=fun n0=>evV Es6 K Tryz.f88 0 (ch [.bool]) [1,0,1,0,0,1,1,0,0,1,0,1,0] [n0] zqw K) (W1:=fun k0=>(zc6 K k0)) (fun n0=>zCI K n0 K) fun n0 (v10,o0)=>by kernel_rfl
def zmZ (L0:ye→Option (Bool × Unit)):(qQ × Unit)→Option (Bool × Unit):=fun (x0,()) =>
 L0 (0,x0)
def zfG:(qQ × Unit)→Option (Bool × Unit):=zmZ (zqy K0)
abbrev zuT:Fun:=⟨88,(ch [qk]),(ch [.bool]),0,zfG⟩
theorem zGJ:Sq zuT:=ml6 (d:=false) (S:=fun K=>zmZ (zqy K)) Tryz.func88 (by kernel_rfl) (fun K=>tr1 (T:=zmZ) (zCJ K K) fun (x0,())=>by kernel_rfl) rfl
def znC:((List zk) × (zk × Unit))→Option ((List zk) × (Int × (Int × Unit))):=fun (x0,x1,()) =>
 Option.bind (zeD (x0,())) fun q0=>bif q0.1 then Option.bind (zaX (x1,())) fun q1=>bif q1.1 then Option.bind (zdv (x1.2.2.2.2.1,())) fun q2=>bif q2.1 then Option.bind (zfh (x0,())) fun q3=>Option.bind (zhk (q3.1,(true,x1.2),())) fun q4=>some q4 else some ([],0,2,()) else some ([],0,1,()) else some ([],0,1,())
abbrev zCK:Fun:=⟨48,(ch [(.sl zu),zu]),(ch [(.sl zu),tI,tI]),0,znC⟩
theorem zNv:Sq zCK:=ms6 (d:=false) (K:=0) Tryz.func48 (by kernel_rfl) (funext fun (x0,x1,())=>by kernel_rfl)
abbrev zc8:Type:=Int × Int × zd × zb
abbrev zqz:zc8→St:=fun (v5,v6,o0,o1)=>St.mk [(2,.bp 0 []),(3,.bp 1 []),(5,.dat tI v5),(6,.dat tI v6)] [.bx (.dat zl o0) false,.bx (.dat zq o1) false]
abbrev zc9:Type:=Int × zb
abbrev zqA:zc9→St:=fun (v7,o0)=>St.mk [(3,.bp 0 []),(7,.dat tI v7)] [.bx (.dat zq o0) false]
abbrev yf:Type:=Int × zd × zb
abbrev zqB:yf→St:=fun (v5,o0,o1)=>St.mk [(2,.bp 0 []),(3,.bp 1 []),(5,.dat tI v5)] [.bx (.dat zl o0) false,.bx (.dat zq o1) false]
def zgk (k0:yf→Option (Bool × Unit)) (k1:zc8→Option (Bool × Unit)):zc8→Option (Bool × Unit):=fun (v5,v6,o0,o1) =>
 bif decide (v6 < 4) then inR v5 ((List.length o1.2.1):Int) (inR v6 (↑4:Int) (inR v5 ((List.length o0.2.2.2.2.1):Int) (bif decide (List.getD (ix zf o1.2.1 v5).2.2.2.2.2.2.2.1 (Int.toNat v6) (0:Int) > (ix qp o0.2.2.2.2.1 v5).2.2.2.2.2.1) then some (false,()) else k1 (v5,wI (v6 + 1),o0,o1)))) else k0 (wI (v5 + 1),o0,o1)
abbrev zgl (K:Nat) (k0:yf→Option (Bool × Unit)):zc8→Option (Bool × Unit):=zg (fun k1=>zgk k0 k1) K
theorem zCL (K:Nat) (n0:Nat):∀ n,evV Es6 K Tryz.f59 0 (ch [.bool]) [1,1,0,1,0,0,1,0,0,1,1,0] [n0] zqz n = zg (fun k1=>zgk (evV Es6 K Tryz.f59 0 (ch [.bool]) [1,1,0,1,0] [] zqB n0) k1) n:=zn fun n1 (v5,v6,o0,o1)=>by kernel_rfl
def zky (k2:zc9→Option (Bool × Unit)):zc9→Option (Bool × Unit):=fun (v7,o0) =>
 bif decide (v7 < 4) then Option.bind (zkj (o0,v7,())) fun q4=>Option.bind (zke (o0,v7,())) fun q5=>bif q4.2.1 != 0 then some (false,()) else bif q5.2.1 != 0 then some (false,()) else bif q4.1 != q5.1 then some (false,()) else k2 (wI (v7 + 1),o0) else some (true,())
abbrev zda (K:Nat):zc9→Option (Bool × Unit):=zg zky K
theorem zCM (K:Nat):∀ n,evV Es6 K Tryz.f59 0 (ch [.bool]) [1,1,1,0,1,0] [] zqA n = zg zky n:=zn fun n2 (v7,o0)=>by kernel_rfl
def zdb (L1:zc8→Option (Bool × Unit)) (L2:zc9→Option (Bool × Unit)) (k0:yf→Option (Bool × Unit)):yf→Option (Bool × Unit):=fun (v5,o0,o1) =>
 bif decide (v5 < ((List.length o1.2.1):Int)) then Option.bind (zfF (o0,o1,v5,())) fun q3=>bif q3.1 then L1 (v5,0,o0,o1) else some (false,()) else L2 (0,o1)
abbrev zkz (K:Nat):yf→Option (Bool × Unit):=zg (fun k0=>zdb (zgl K k0) (zda K) k0) K
theorem zCN (K:Nat):∀ n,evV Es6 K Tryz.f59 0 (ch [.bool]) [1,1,0,1,0] [] zqB n = zg (fun k0=>zdb (zgl K k0) (zda K) k0) n:=zOM (B:=fun L1 L2 k0=>zdb L1 L2 k0) (V1:=fun n0=>evV Es6 K Tryz.f59 0 (ch [.bool]) [1,1,0,1,0,0,1,0,0,1,1,0] [n0] zqz K) (V2:=fun n0=>evV Es6 K Tryz.f59 0 (ch [.bool]) [1,1,1,0,1,0] [] zqA K) (W1:=fun k0=>(zgl K k0)) (W2:=fun k0=>(zda K)) (fun n0=>zCL K n0 K) (fun n0=>zCM K K) fun n0 (v5,o0,o1)=>by kernel_rfl
def ziK (L0:yf→Option (Bool × Unit)):(zd × (zb × Unit))→Option (Bool × Unit):=fun (x0,x1,()) =>
 Option.bind (zfx (x0,())) fun q0=>bif q0.1 then Option.bind (ziy (x0,x1,())) fun q1=>bif q1.1 then Option.bind (zhp (x0,x1,())) fun q2=>bif q2.1 then L0 (0,x0,x1) else some (false,()) else some (false,()) else some (false,())
def ziL:(zd × zb × Unit)→Option (Bool × Unit):=ziK (zkz K0)
abbrev zuU:Fun:=⟨59,(ch [zl,zq]),(ch [.bool]),0,ziL⟩
theorem zGK:Sq zuU:=ml6 (d:=false) (S:=fun K=>ziK (zkz K)) Tryz.func59 (by kernel_rfl) (fun K=>tr1 (T:=ziK) (zCN K K) fun (x0,x1,())=>by kernel_rfl) rfl
def zlY:((List zk) × (Int × (Int × Unit)))→Option ((List zk) × (Int × Unit)):=fun (x0,x1,x2,()) =>
 Option.bind (zeD (x0,())) fun q0=>bif q0.1 then Option.bind (zkq (x0,x1,x2,())) fun q1=>bif q1.2.1 != 0 then some ([],q1.2.1,()) else Option.bind (zfh (x0,())) fun q2=>Option.bind (zeh (q2.1,x1,ze zu,())) fun q3=>some q3 else some ([],1,())
abbrev zy8:Fun:=⟨53,(ch [(.sl zu),tI,tI]),(ch [(.sl zu),tI]),0,zlY⟩
theorem zLq:Sq zy8:=ms6 (d:=false) (K:=0) Tryz.func53 (by kernel_rfl) (funext fun (x0,x1,x2,())=>by kernel_rfl)
abbrev L7:List Fun:=zuS :: zqv :: zuT :: zCK :: zuU :: zy8 :: L6
theorem h7:Sds Tryz.prog E0 L7:=⟨zGI,zCH,zGJ,zNv,zGK,zLq,h6⟩
theorem ms7 {d:Bool} {F:Fun} {f:Go.Func} {K:Nat} (hf:Tryz.prog.funcs[F.id]? = some f) (ho:jF f = true) (h:evF (En E0 d L7) K f F.md F.a F.r = F.spec):Sd Tryz.prog E0 F:=mkS h7 hf ho h
theorem ml7 {d:Bool} {F:Fun} {f:Go.Func} {S:Nat→F.a.I→Option F.r.I} (hf:Tryz.prog.funcs[F.id]? = some f) (ho:jF f = true) (h:∀ K,evF (En E0 d L7) K f F.md F.a F.r = S K) (e:S K0 = F.spec):Sd Tryz.prog E0 F:=mkS h7 hf ho ((h K0).trans e)
abbrev Es7:Env:=En E0 false L7
abbrev Ed7:Env:=En E0 true L7
abbrev zdc:Type:=Int × (List zp) × Int × Int × qQ
abbrev zCO:zdc→St:=fun (v3,v65,v66,v67,o0)=>St.mk [(1,.bp 0 []),(3,.dat tI v3),(65,.dat (.sl zx) v65),(66,.dat tI v66),(67,.dat tI v67)] [.bx (.dat qk o0) false]
def zgm (k0:zdc→Option (Bool × Unit)):zdc→Option (Bool × Unit):=fun (v3,v65,v66,v67,o0) =>
 bif decide (v67 < v66) then inR v67 ((List.length v65):Int) (inR v67 ((List.length o0.1.2.2.2.2.1):Int) (bif ((List.length (ix zf v65 v67).1):Int) != (ix qp o0.1.2.2.2.2.1 v67).1 then some (false,()) else bif ((List.length (ix zf v65 v67).2.1):Int) != (ix qp o0.1.2.2.2.2.1 v67).2.1 then some (false,()) else bif ((List.length (ix zf v65 v67).2.2.1):Int) != (ix qp o0.1.2.2.2.2.1 v67).2.2.1 then some (false,()) else bif ((List.length (ix zf v65 v67).2.2.2.1):Int) != (ix qp o0.1.2.2.2.2.1 v67).2.2.2.1 then some (false,()) else bif ((List.length (ix zf v65 v67).2.2.2.2.1):Int) != (ix qp o0.1.2.2.2.2.1 v67).2.2.2.2.1 then some (false,()) else bif ((List.length (ix zf v65 v67).2.2.2.2.2.1):Int) != v3 then some (false,()) else bif ((List.length (ix zf v65 v67).2.2.2.2.2.2.1):Int) != v3 then some (false,()) else k0 (v3,v65,v66,wI (v67 + 1),o0))) else some (true,())
abbrev zkA (K:Nat):zdc→Option (Bool × Unit):=zg zgm K
theorem zCP (K:Nat):∀ n,evV Es7 K Tryz.f82 0 (ch [.bool]) [1,1,1,0,1,0] [] zCO n = zg zgm n:=zn fun n0 (v3,v65,v66,v67,o0)=>by kernel_rfl
def ziM (L0:zdc→Option (Bool × Unit)):(qQ × Unit)→Option (Bool × Unit):=fun (x0,()) =>
 Option.bind (vo (x0.1,())) fun q0=>bif q0.1 then bif ((List.length x0.2.1.2.1):Int) != ((List.length x0.1.1):Int) then some (false,()) else bif ((List.length x0.2.1.2.2.2.1):Int) != x0.1.2.2.2.2.2.1 then some (false,()) else bif decide (((List.length x0.2.1.2.2.2.2.1):Int) > x0.1.2.2.2.2.2.2.1) then some (false,()) else bif ((List.length x0.2.1.2.2.2.2.2.1):Int) != ((List.length x0.1.2.1):Int) then some (false,()) else bif decide (x0.2.1.1 > 4611686018427387904) then some (false,()) else L0 (((List.length x0.1.2.2.1):Int),x0.2.1.2.1,((List.length x0.2.1.2.1):Int),0,x0) else some (false,())
def zbT:(qQ × Unit)→Option (Bool × Unit):=ziM (zkA K0)
abbrev zuV:Fun:=⟨82,(ch [qk]),(ch [.bool]),0,zbT⟩
theorem zGL:Sq zuV:=ml7 (d:=false) (S:=fun K=>ziM (zkA K)) Tryz.func82 (by kernel_rfl) (fun K=>tr1 (T:=ziM) (zCP K K) fun (x0,())=>by kernel_rfl) rfl
def zbU:(qQ × Unit)→Option (Bool × Unit):=fun (x0,()) =>
 Option.bind (zhP (x0.2.1.2.1,some zgj,())) fun q0=>bif q0.1 then some (true,()) else some (false,())
abbrev zuW:Fun:=⟨83,(ch [qk]),(ch [.bool]),0,zbU⟩
theorem zGM:Sq zuW:=ms7 (d:=false) (K:=0) Tryz.func83 (by kernel_rfl) (funext fun (x0,())=>by kernel_rfl)
abbrev zeH:Type:=(Option ((Int × Unit)→Option (Bool × Unit))) × (List (List Int)) × Int × Int × zd
abbrev zEG:zeH→St:=fun (v5,v19,v20,v21,o0)=>St.mk [(2,.bp 0 []),(5,.dat (.fn (.pair tI .unit) (.pair .bool .unit)) v5),(19,.dat (.sl (.sl tI)) v19),(20,.dat tI v20),(21,.dat tI v21)] [.bx (.dat zl o0) false]
def zhq (k0:zeH→Option (Bool × Unit)):zeH→Option (Bool × Unit):=fun (v5,v19,v20,v21,o0) =>
 bif decide (v21 < v20) then inR v21 ((List.length v19):Int) (bif ((List.length (List.getD v19 (Int.toNat v21) ([]:List Int))):Int) != ((List.length o0.2.2.1):Int) then some (false,()) else Option.bind (qv (List.getD v19 (Int.toNat v21) ([]:List Int),v5,())) fun q1=>bif q1.1 then some (false,()) else inR v21 ((List.length o0.2.2.2.1):Int) (inR (ix qr o0.2.2.2.1 v21).2.1 ((List.length (List.getD v19 (Int.toNat v21) ([]:List Int))):Int) (bif List.getD (List.getD v19 (Int.toNat v21) ([]:List Int)) (Int.toNat (ix qr o0.2.2.2.1 v21).2.1) (0:Int) != 2 then some (false,()) else k0 (v5,v19,v20,wI (v21 + 1),o0)))) else some (true,())
abbrev zlt (K:Nat):zeH→Option (Bool × Unit):=zg zhq K
theorem zEH (K:Nat):∀ n,evV Es7 K Tryz.f144 0 (ch [.bool]) [1,1,1,0,1,0] [] zEG n = zg zhq n:=zn fun n0 (v5,v19,v20,v21,o0)=>by kernel_rfl
def zkB (L0:zeH→Option (Bool × Unit)):(zd × ((List (List Int)) × Unit))→Option (Bool × Unit):=fun (x0,x1,()) =>
 Option.bind (vo (x0,())) fun q0=>bif q0.1 then bif ((List.length x1):Int) != ((List.length x0.2.2.2.1):Int) then some (false,()) else L0 (some zaV,x1,((List.length x1):Int),0,x0) else some (false,())
def zeI:(zd × (List (List Int)) × Unit)→Option (Bool × Unit):=zkB (zlt K0)
abbrev zxj:Fun:=⟨144,(ch [zl,(.sl (.sl tI))]),(ch [.bool]),0,zeI⟩
theorem zJx:Sq zxj:=ml7 (d:=false) (S:=fun K=>zkB (zlt K)) Tryz.func144 (by kernel_rfl) (fun K=>tr1 (T:=zkB) (zEH K K) fun (x0,x1,())=>by kernel_rfl) rfl
def yg:(zd × (Int × Unit))→Option (Bool × Unit):=fun (x0,x1,()) =>
 Option.bind (vo (x0,())) fun q0=>bif q0.1 then Option.bind (ql (x1,0,wI (((List.length x0.1):Int) - 1),())) fun q1=>bif q1.1 then some (true,()) else some (false,()) else some (false,())
abbrev zqC:Fun:=⟨92,(ch [zl,tI]),(ch [.bool]),0,yg⟩
theorem zCQ:Sq zqC:=ms7 (d:=false) (K:=0) Tryz.func92 (by kernel_rfl) (funext fun (x0,x1,())=>by kernel_rfl)
def zdw:(zd × (zb × (pMe × Unit)))→Option (Bool × Unit):=fun (x0,x1,x2,()) =>
 Option.bind (ziL (x0,x1,())) fun q0=>bif q0.1 then Option.bind (zkf (x0,x2,())) fun q1=>bif q1.1 then some (true,()) else some (false,()) else some (false,())
abbrev zy9:Fun:=⟨15,(ch [zl,zq,tMe]),(ch [.bool]),0,zdw⟩
theorem zLr:Sq zy9:=ms7 (d:=false) (K:=0) Tryz.func15 (by kernel_rfl) (funext fun (x0,x1,x2,())=>by kernel_rfl)
abbrev zgM:Type:=(List zP) × Int × Int × zd × List (List Int) × Nat
abbrev zJy:zgM→St:=fun (v11,v12,v13,o0,o1,c1)=>St.mk [(1,.bp 0 []),(3,.ow 1),(11,.dat (.sl qY) v11),(12,.dat tI v12),(13,.dat tI v13)] [.bx (.dat zl o0) false,.drow (.sl tI) o1 c1]
def zxk (k0:zgM→Option ((List (List Int)) × Unit)):zgM→Option ((List (List Int)) × Unit):=fun (v11,v12,v13,o0,o1,c1) =>
 bif decide (v13 < v12) then inR v13 ((List.length v11):Int) (bif decide (((List.length o0.2.2.1):Int) ≤ ((List.length o0.2.2.1):Int)) then bif decide (((List.length o0.2.2.1):Int) ≤ (↑lim:Int)) then inR (ix qr v11 v13).2.1 ((List.length (List.replicate (Int.toNat ((List.length o0.2.2.1):Int)) (0:Int))):Int) (bif decide (List.length o1 + List.length [List.set (List.replicate (Int.toNat ((List.length o0.2.2.1):Int)) (0:Int)) (Int.toNat (ix qr v11 v13).2.1) 2] ≤ lim) then bif decide (c1 = List.length o1) then k0 (v11,v12,wI (v13 + 1),o0,o1 ++ [List.set (List.replicate (Int.toNat ((List.length o0.2.2.1):Int)) (0:Int)) (Int.toNat (ix qr v11 v13).2.1) 2],c1 + (0 + 1)) else none else none) else none else none) else bif decide (c1 = List.length o1) then some (o1,()) else none
abbrev zxl (K:Nat):zgM→Option ((List (List Int)) × Unit):=zg zxk K
theorem zJz (K:Nat):∀ n,evV Ed7 K Tryz.f114 4 (ch [(.sl (.sl tI))]) [1,1,1,0,1,0] [] zJy n = zg zxk n:=zn fun n0 (v11,v12,v13,o0,o1,c1)=>by kernel_rfl
def ztL (L0:zgM→Option ((List (List Int)) × Unit)):(zd × Unit)→Option ((List (List Int)) × Unit):=fun (x0,()) =>
 Option.bind (vo (x0,())) fun q0=>bif q0.1 then L0 (x0.2.2.2.1,((List.length x0.2.2.2.1):Int),0,x0,[],0) else some ([],())
def zCR:(zd × Unit)→Option ((List (List Int)) × Unit):=ztL (zxl K0)
abbrev zCS:Fun:=⟨114,(ch [zl]),(ch [(.sl (.sl tI))]),4,zCR⟩
theorem zNw:Sq zCS:=ml7 (d:=true) (S:=fun K=>ztL (zxl K)) Tryz.func114 (by kernel_rfl) (fun K=>tr1 (T:=ztL) (zJz K K) fun (x0,())=>by kernel_rfl) rfl
def zuX:(zd × (zz × Unit))→Option (Int × Unit):=fun (x0,x1,()) =>
 Option.bind (vo (x0,())) fun q0=>bif q0.1 then Option.bind (zeX (x0.1,x1,())) fun q1=>some (q1.1,()) else some ((-1),())
abbrev zuY:Fun:=⟨137,(ch [zl,zo]),(ch [tI]),0,zuX⟩
theorem zGN:Sq zuY:=ms7 (d:=false) (K:=0) Tryz.func137 (by kernel_rfl) (funext fun (x0,x1,())=>by kernel_rfl)
abbrev L8:List Fun:=zuV :: zuW :: zxj :: zqC :: zy9 :: zCS :: zuY :: L7
theorem h8:Sds Tryz.prog E0 L8:=⟨zGL,zGM,zJx,zCQ,zLr,zNw,zGN,h7⟩
theorem ms8 {d:Bool} {F:Fun} {f:Go.Func} {K:Nat} (hf:Tryz.prog.funcs[F.id]? = some f) (ho:jF f = true) (h:evF (En E0 d L8) K f F.md F.a F.r = F.spec):Sd Tryz.prog E0 F:=mkS h8 hf ho h
theorem ml8 {d:Bool} {F:Fun} {f:Go.Func} {S:Nat→F.a.I→Option F.r.I} (hf:Tryz.prog.funcs[F.id]? = some f) (ho:jF f = true) (h:∀ K,evF (En E0 d L8) K f F.md F.a F.r = S K) (e:S K0 = F.spec):Sd Tryz.prog E0 F:=mkS h8 hf ho ((h K0).trans e)
abbrev Es8:Env:=En E0 false L8
abbrev Ed8:Env:=En E0 true L8
def za4:(qQ × Unit)→Option (Bool × Unit):=fun (x0,()) =>
 Option.bind (zeI (x0.1,x0.2.1.2.2.1,())) fun q0=>bif q0.1 then Option.bind (zoV (x0.2.1.2.2.2.1,())) fun q1=>bif q1.1 then Option.bind (zmW (x0.2.1.2.2.2.2.1,())) fun q2=>bif q2.1 then Option.bind (zfo (x0.2.1,ze zL,())) fun q3=>bif q3.1 then Option.bind (zhQ (x0.2.1.2.2.2.1,some fun z=>zfa (z.1,some x0,()),())) fun q4=>bif q4.1 then Option.bind (zdJ (x0.2.1.2.2.2.2.1,some fun z=>zbf (z.1,some x0,()),())) fun q5=>bif q5.1 then Option.bind (zal (x0.2.1.2.2.2.2.2.1,some fun z=>vu (z.1,some x0,()),())) fun q6=>bif q6.1 then some (true,()) else some (false,()) else Option.bind (zal (x0.2.1.2.2.2.2.2.1,some fun z=>vu (z.1,some x0,()),())) fun q7=>bif q7.1 then some (false,()) else some (false,()) else Option.bind (zdJ (x0.2.1.2.2.2.2.1,some fun z=>zbf (z.1,some x0,()),())) fun q8=>bif q8.1 then Option.bind (zal (x0.2.1.2.2.2.2.2.1,some fun z=>vu (z.1,some x0,()),())) fun q9=>bif q9.1 then some (false,()) else some (false,()) else Option.bind (zal (x0.2.1.2.2.2.2.2.1,some fun z=>vu (z.1,some x0,()),())) fun q10=>bif q10.1 then some (false,()) else some (false,()) else some (false,()) else some (false,()) else some (false,()) else some (false,())
abbrev zsL:Fun:=⟨84,(ch [qk]),(ch [.bool]),0,za4⟩
theorem zEI:Sq zsL:=ms8 (d:=false) (K:=0) Tryz.func84 (by kernel_rfl) (funext fun (x0,())=>by kernel_rfl)
end
end Go.Proofs.YtkcakhbkoeimdaaGreatDoor
end
section
namespace Go.Proofs.YtkcakhbkoeimdaaGreatDoor
open Go.Ev
noncomputable section
def zfR:(zd × (Int × (Int × Unit)))→Option (Bool × Unit):=fun (x0,x1,x2,()) =>
 Option.bind (yg (x0,x1,())) fun q0=>bif q0.1 then Option.bind (yg (x0,x2,())) fun q1=>bif q1.1 then inR x1 ((List.length x0.1):Int) (inR x2 ((List.length x0.1):Int) (Option.bind (zh5 (ix qO x0.1 x1,ix qO x0.1 x2,())) fun q2=>bif q2.1 then some (true,()) else some (false,()))) else some (false,()) else some (false,())
abbrev zza:Fun:=⟨47,(ch [zl,tI,tI]),(ch [.bool]),0,zfR⟩
theorem zLs:Sq zza:=ms8 (d:=false) (K:=0) Tryz.func47 (by kernel_rfl) (funext fun (x0,x1,x2,())=>by kernel_rfl)
def zkC:(zd × (zb × (pMe × (Int × (Int × (ByteArray × Unit))))))→Option (zb × (Int × Unit)):=fun (x0,x1,x2,x3,x4,x5,()) =>
 Option.bind (zdw (x0,x1,x2,())) fun q0=>bif q0.1 then bif decide (x3 < 0) then some ((0,[],[],[],[],[],()),1,()) else bif decide (x3 ≥ ((List.length x0.1):Int)) then some ((0,[],[],[],[],[],()),1,()) else bif decide (x4 < 0) then some ((0,[],[],[],[],[],()),1,()) else bif decide (x4 ≥ ((List.length x0.2.2.1):Int)) then some ((0,[],[],[],[],[],()),1,()) else Option.bind (zfQ (x0,x2.2.1,x3,())) fun q1=>bif q1.1 then Option.bind (zej (x5,())) fun q2=>bif q2.1 then inR x3 ((List.length x1.2.1):Int) (Option.bind (zlV ((ix zf x1.2.1 x3).2.2.2.1,((ze zu).1,x2.2.1,x2.2.2.1,x4,x5,(ze zu).2.2.2.2.2),())) fun q3=>bif q3.2.2.1 == 0 then Option.bind (zgE (x1,x3,(u3 (ix zf x1.2.1 x3) q3.1),())) fun q4=>some (q4.1,0,()) else bif x3 == x2.2.1 then some ((0,[],[],[],[],[],()),8,()) else some (x1,0,())) else some ((0,[],[],[],[],[],()),2,()) else some ((0,[],[],[],[],[],()),5,()) else some ((0,[],[],[],[],[],()),1,())
abbrev zxm:Fun:=⟨9,(ch [zl,zq,tMe,tI,tI,.str]),(ch [zq,tI]),0,zkC⟩
theorem zJA:Sq zxm:=ms8 (d:=false) (K:=0) Tryz.func9 (by kernel_rfl) (funext fun (x0,x1,x2,x3,x4,x5,())=>by kernel_rfl)
def zkD:(zd × (zb × (pMe × (Int × Unit))))→Option (zb × (Int × Unit)):=fun (x0,x1,x2,x3,()) =>
 Option.bind (zdw (x0,x1,x2,())) fun q0=>bif q0.1 then inR x2.2.1 ((List.length x1.2.1):Int) (Option.bind (zkr ((ix zf x1.2.1 x2.2.1).2.2.2.1,x3,x2.2.2.1,())) fun q1=>bif q1.2.1 != 0 then some ((0,[],[],[],[],[],()),q1.2.1,()) else Option.bind (zgE (x1,x2.2.1,(u3 (ix zf x1.2.1 x2.2.1) q1.1),())) fun q2=>some (q2.1,0,())) else some ((0,[],[],[],[],[],()),1,())
abbrev zxn:Fun:=⟨11,(ch [zl,zq,tMe,tI]),(ch [zq,tI]),0,zkD⟩
theorem zJB:Sq zxn:=ms8 (d:=false) (K:=0) Tryz.func11 (by kernel_rfl) (funext fun (x0,x1,x2,x3,())=>by kernel_rfl)
def zhr:(zd × (zb × (pMe × (Int × Unit))))→Option (zk × (Int × Unit)):=fun (x0,x1,x2,x3,()) =>
 Option.bind (zdw (x0,x1,x2,())) fun q0=>bif q0.1 then inR x2.2.1 ((List.length x1.2.1):Int) (Option.bind (zg8 ((ix zf x1.2.1 x2.2.1).2.2.2.1,x3,x2.2.2.1,())) fun q1=>bif q1.1 then inR x3 ((List.length (ix zf x1.2.1 x2.2.1).2.2.2.1):Int) (some (List.getD (ix zf x1.2.1 x2.2.1).2.2.2.1 (Int.toNat x3) (ze zu),0,())) else some ((false,0,0,0,ByteArray.mk #[],()),3,())) else some ((false,0,0,0,ByteArray.mk #[],()),1,())
abbrev zsM:Fun:=⟨13,(ch [zl,zq,tMe,tI]),(ch [zu,tI]),0,zhr⟩
theorem zEJ:Sq zsM:=ms8 (d:=false) (K:=0) Tryz.func13 (by kernel_rfl) (funext fun (x0,x1,x2,x3,())=>by kernel_rfl)
abbrev zfH:Type:=Int × Int × Int × Int × List zp × Nat × List (List Int) × Nat × List zt × List zG × List Int × List zp × Nat × List (List Int) × Nat × List zt × List zG × List Int
abbrev zuZ:zfH→St:=fun (v42,v43,o0_0,o1_0,o2,c2,o3,c3,o4,o5,o6,o7,c7,o8,c8,o9,o10,o11)=>St.mk [(2,.bp 0 []),(4,.bp 1 []),(42,.dat tI v42),(43,.dat tI v43)] [.bx (.fld (.pair tU (.pair (.sl zx) (.pair (.sl (.sl tI)) (.pair (.sl zr) (.pair (.sl zy) (.pair (.sl tI) .unit)))))) [.dat tU o0_0,.ow 2,.ow 3,.ow 4,.ow 5,.ow 6]) false,.bx (.fld (.pair tU (.pair (.sl zx) (.pair (.sl (.sl tI)) (.pair (.sl zr) (.pair (.sl zy) (.pair (.sl tI) .unit)))))) [.dat tU o1_0,.ow 7,.ow 8,.ow 9,.ow 10,.ow 11]) false,.drow zx o2 c2,.drow (.sl tI) o3 c3,.row zr o4 false,.row zy o5 false,.row tI o6 false,.drow zx o7 c7,.drow (.sl tI) o8 c8,.row zr o9 false,.row zy o10 false,.row tI o11 false]
abbrev zfI:Type:=(List zba) × Int × Int × zd × Int × Int × List zp × Nat × List (List Int) × Nat × List zt × List zG × List Int × List zp × Nat × List (List Int) × Nat × List zt × List zG × List Int
abbrev zGO:zfI→St:=fun (v18,v19,v20,o0,o1_0,o2_0,o3,c3,o4,c4,o5,o6,o7,o8,c8,o9,c9,o10,o11,o12)=>St.mk [(1,.bp 0 []),(2,.bp 1 []),(4,.bp 2 []),(18,.dat (.sl zb4) v18),(19,.dat tI v19),(20,.dat tI v20)] [.bx (.dat zl o0) false,.bx (.fld (.pair tU (.pair (.sl zx) (.pair (.sl (.sl tI)) (.pair (.sl zr) (.pair (.sl zy) (.pair (.sl tI) .unit)))))) [.dat tU o1_0,.ow 3,.ow 4,.ow 5,.ow 6,.ow 7]) false,.bx (.fld (.pair tU (.pair (.sl zx) (.pair (.sl (.sl tI)) (.pair (.sl zr) (.pair (.sl zy) (.pair (.sl tI) .unit)))))) [.dat tU o2_0,.ow 8,.ow 9,.ow 10,.ow 11,.ow 12]) false,.drow zx o3 c3,.drow (.sl tI) o4 c4,.row zr o5 false,.row zy o6 false,.row tI o7 false,.drow zx o8 c8,.drow (.sl tI) o9 c9,.row zr o10 false,.row zy o11 false,.row tI o12 false]
def zu0 (k1:zfH→Option (zb × (Int × Unit))):zfH→Option (zb × (Int × Unit)):=fun (v42,v43,o0_0,o1_0,o2,c2,o3,c3,o4,o5,o6,o7,c7,o8,c8,o9,o10,o11) =>
 bif decide (v43 < v42) then bif decide (List.length o11 + List.length (zh (List.replicate 1 (0:Int)) 0 (-1)) ≤ lim) then k1 (v42,wI (v43 + 1),o0_0,o1_0,o2,c2,o3,c3,o4,o5,o6,o7,c7,o8,c8,o9,o10,o11 ++ zh (List.replicate 1 (0:Int)) 0 (-1)) else none else bif decide (c7 = List.length o7) then bif decide (c8 = List.length o8) then some ((o1_0,o7,o8,o9,o10,o11,()),0,()) else none else none
abbrev zm0 (K:Nat):zfH→Option (zb × (Int × Unit)):=zg zu0 K
theorem zGP (K:Nat):∀ n,evV Ed8 K Tryz.f62 3 (ch [zq,tI]) [1,1,1,1,1,0,1,0] [] zuZ n = zg zu0 n:=zn fun n1 (v42,v43,o0_0,o1_0,o2,c2,o3,c3,o4,o5,o6,o7,c7,o8,c8,o9,o10,o11)=>by kernel_rfl
def zm1 (L1:zfH→Option (zb × (Int × Unit))) (k0:zfI→Option (zb × (Int × Unit))):zfI→Option (zb × (Int × Unit)):=fun (v18,v19,v20,o0,o1_0,o2_0,o3,c3,o4,c4,o5,o6,o7,o8,c8,o9,c9,o10,o11,o12) =>
 bif decide (v20 < v19) then inR v20 ((List.length v18):Int) (Option.bind (zut (o0,ix qp v18 v20,())) fun q2=>bif decide (List.length o8 + List.length [(q2.1.1,q2.1.2.1,q2.1.2.2.1,q2.1.2.2.2.1,q2.1.2.2.2.2.1,q2.1.2.2.2.2.2.1,q2.1.2.2.2.2.2.2.1,q2.1.2.2.2.2.2.2.2.1,q2.1.2.2.2.2.2.2.2.2.1,())] ≤ lim) then bif decide (c8 = List.length o8) then k0 (v18,v19,wI (v20 + 1),o0,o1_0,o2_0,o3,c3,o4,c4,o5,o6,o7,o8 ++ [(q2.1.1,q2.1.2.1,q2.1.2.2.1,q2.1.2.2.2.1,q2.1.2.2.2.2.1,q2.1.2.2.2.2.2.1,q2.1.2.2.2.2.2.2.1,q2.1.2.2.2.2.2.2.2.1,q2.1.2.2.2.2.2.2.2.2.1,())],c8 + (0 + 1),o9,c9,o10,o11,o12) else none else none) else bif decide (0 < ((List.length o8):Int)) then bif decide (c8 ≤ Int.toNat 0) then bif decide (0 < ((List.length (ix zf o8 0).1):Int)) then none else none else bif decide (0 < ((List.length (ix zf o8 0).1):Int)) then L1 (((List.length o0.2.1):Int),0,o1_0,o2_0,o3,c3,o4,c4,o5,o6,o7,List.set o8 (Int.toNat 0) (List.set (ix zf o8 0).1 (Int.toNat 0) (true,ByteArray.mk #[112,108,97,122,97],(ze qh).2.2),(ix zf o8 0).2),c8,o9,c9,o10,o11,o12) else none else none
abbrev zu1 (K:Nat):zfI→Option (zb × (Int × Unit)):=zg (fun k0=>zm1 (zm0 K) k0) K
theorem zGQ (K:Nat):∀ n,evV Ed8 K Tryz.f62 3 (ch [zq,tI]) [1,1,1,0,1,0] [] zGO n = zg (fun k0=>zm1 (zm0 K) k0) n:=qx (B:=fun L1 k0=>zm1 L1 k0) (V1:=fun n0=>evV Ed8 K Tryz.f62 3 (ch [zq,tI]) [1,1,1,1,1,0,1,0] [] zuZ K) (W1:=fun k0=>(zm0 K)) (fun n0=>zGP K K) fun n0 (v18,v19,v20,o0,o1_0,o2_0,o3,c3,o4,c4,o5,o6,o7,o8,c8,o9,c9,o10,o11,o12)=>by kernel_rfl
def zrj (L0:zfI→Option (zb × (Int × Unit))):(zd × Unit)→Option (zb × (Int × Unit)):=fun (x0,()) =>
 Option.bind (vo (x0,())) fun q0=>bif q0.1 then Option.bind (zCR (x0,())) fun q1=>bif decide (0 ≤ x0.2.2.2.2.2.1) then bif decide (x0.2.2.2.2.2.1 ≤ x0.2.2.2.2.2.1) then bif decide (x0.2.2.2.2.2.1 ≤ (↑lim:Int)) then L0 (x0.2.2.2.2.1,((List.length x0.2.2.2.2.1):Int),0,x0,0,0,[],0,[],0,[],[],[],[],0,q1.1,List.length q1.1,List.replicate (Int.toNat x0.2.2.2.2.2.1) (ze zr),[],[]) else none else none else none else some ((0,[],[],[],[],[],()),1,())
def zzb:(zd × Unit)→Option (zb × Int × Unit):=zrj (zu1 K0)
abbrev zzc:Fun:=⟨62,(ch [zl]),(ch [zq,tI]),3,zzb⟩
theorem zLt:Sq zzc:=ml8 (d:=true) (S:=fun K=>zrj (zu1 K)) Tryz.func62 (by kernel_rfl) (fun K=>tr1 (T:=zrj) (zGQ K K) fun (x0,())=>by kernel_rfl) rfl
abbrev zbB:Type:=Int × (List zP) × Int × Int × zd × List Int
abbrev zAx:zbB→St:=fun (v1,v14,v15,v16,o0,o1)=>St.mk [(1,.dat tI v1),(2,.bp 0 []),(5,.ow 1),(14,.dat (.sl qY) v14),(15,.dat tI v15),(16,.dat tI v16)] [.bx (.dat zl o0) false,.row tI o1 false]
def zoZ (k0:zbB→Option ((List Int) × Unit)):zbB→Option ((List Int) × Unit):=fun (v1,v14,v15,v16,o0,o1) =>
 bif decide (v16 < v15) then inR v16 ((List.length v14):Int) (inR v1 ((List.length o0.1):Int) (Option.bind (znZ (ix qO o0.1 v1,())) fun q1=>Option.bind (zhO (q1.1,(ix qr v14 v16).1,())) fun q2=>bif q2.1 then bif decide (List.length o1 + List.length (zh (List.replicate 1 (0:Int)) 0 v16) ≤ lim) then k0 (v1,v14,v15,wI (v16 + 1),o0,o1 ++ zh (List.replicate 1 (0:Int)) 0 v16) else none else k0 (v1,v14,v15,wI (v16 + 1),o0,o1))) else some (o1,())
abbrev zo0 (K:Nat):zbB→Option ((List Int) × Unit):=zg zoZ K
theorem zAy (K:Nat):∀ n,evV Es8 K Tryz.f74 0 (ch [(.sl tI)]) [1,1,1,0,1,0] [] zAx n = zg zoZ n:=zn fun n0 (v1,v14,v15,v16,o0,o1)=>by kernel_rfl
def zlu (L0:zbB→Option ((List Int) × Unit)):(zd × (Int × Unit))→Option ((List Int) × Unit):=fun (x0,x1,()) =>
 Option.bind (yg (x0,x1,())) fun q0=>bif q0.1 then L0 (x1,x0.2.2.2.1,((List.length x0.2.2.2.1):Int),0,x0,[]) else some ([],())
def zlv:(zd × Int × Unit)→Option ((List Int) × Unit):=zlu (zo0 K0)
abbrev zsN:Fun:=⟨74,(ch [zl,tI]),(ch [(.sl tI)]),0,zlv⟩
theorem zEK:Sq zsN:=ml8 (d:=false) (S:=fun K=>zlu (zo0 K)) Tryz.func74 (by kernel_rfl) (fun K=>tr1 (T:=zlu) (zAy K K) fun (x0,x1,())=>by kernel_rfl) rfl
def zqD:(zd × (Int × Unit))→Option (Int × Unit):=fun (x0,x1,()) =>
 Option.bind (yg (x0,x1,())) fun q0=>bif q0.1 then Option.bind (zjZ (x0.2.2.2.1,some fun z=>znj (z.1,some x0,some x1,()),())) fun q1=>some (q1.1,()) else some ((-1),())
abbrev zqE:Fun:=⟨232,(ch [zl,tI]),(ch [tI]),0,zqD⟩
theorem zCT:Sq zqE:=ms8 (d:=false) (K:=0) Tryz.func232 (by kernel_rfl) (funext fun (x0,x1,())=>by kernel_rfl)
def zsO:(zd × (Int × Unit))→Option (Int × Unit):=fun (x0,x1,()) =>
 Option.bind (vo (x0,())) fun q0=>bif q0.1 then Option.bind (ql (x1,0,wI (((List.length x0.2.2.2.1):Int) - 1),())) fun q1=>bif q1.1 then inR x1 ((List.length x0.2.2.2.1):Int) (Option.bind (zdW ((ix qr x0.2.2.2.1 x1).1,())) fun q2=>Option.bind (zuX (x0,q2.1,())) fun q3=>some (q3.1,())) else some ((-1),()) else some ((-1),())
abbrev zsP:Fun:=⟨81,(ch [zl,tI]),(ch [tI]),0,zsO⟩
theorem zEL:Sq zsP:=ms8 (d:=false) (K:=0) Tryz.func81 (by kernel_rfl) (funext fun (x0,x1,())=>by kernel_rfl)
abbrev L9:List Fun:=zsL :: zza :: zxm :: zxn :: zsM :: zzc :: zsN :: zqE :: zsP :: L8
theorem h9:Sds Tryz.prog E0 L9:=⟨zEI,zLs,zJA,zJB,zEJ,zLt,zEK,zCT,zEL,h8⟩
theorem ms9 {d:Bool} {F:Fun} {f:Go.Func} {K:Nat} (hf:Tryz.prog.funcs[F.id]? = some f) (ho:jF f = true) (h:evF (En E0 d L9) K f F.md F.a F.r = F.spec):Sd Tryz.prog E0 F:=mkS h9 hf ho h
theorem ml9 {d:Bool} {F:Fun} {f:Go.Func} {S:Nat→F.a.I→Option F.r.I} (hf:Tryz.prog.funcs[F.id]? = some f) (ho:jF f = true) (h:∀ K,evF (En E0 d L9) K f F.md F.a F.r = S K) (e:S K0 = F.spec):Sd Tryz.prog E0 F:=mkS h9 hf ho ((h K0).trans e)
abbrev Es9:Env:=En E0 false L9
abbrev zdd:Type:=Bool × Int × Int × List (Option (Unit→Option (Bool × Unit)))
abbrev zCU:zdd→St:=fun (v6,v27,v28,o0)=>St.mk [(6,.dat .bool v6),(26,.ow 0),(27,.dat tI v27),(28,.dat tI v28)] [.row (.fn .unit (.pair .bool .unit)) o0 false]
def zgn (k0:zdd→Option (Bool × Unit)):zdd→Option (Bool × Unit):=fun (v6,v27,v28,o0) =>
 bif decide (v28 < v27) then inR v28 ((List.length o0):Int) (Option.bind (List.getD o0 (Int.toNat v28) (ze (.fn .unit (.pair .bool .unit)))) fun q0=>Option.bind (q0 ()) fun q1=>bif q1.1 then k0 (true,v27,wI (v28 + 1),o0) else some (false,())) else some (v6,())
abbrev zqF (K:Nat):zdd→Option (Bool × Unit):=zg zgn K
theorem zCV (K:Nat):∀ n,evV Es9 K Tryz.f30 0 (ch [.bool]) [1,0,1,1,1,0,1,0] [] zCU n = zg zgn n:=zn fun n0 (v6,v27,v28,o0)=>by kernel_rfl
def zm2 (L0:zdd→Option (Bool × Unit)):(zd × (zb × Unit))→Option (Bool × Unit):=fun (x0,x1,()) =>
 L0 (true,((List.length (zh (zh (zh (zh (zh (zh (zh (List.replicate 7 (ze (.fn .unit (.pair .bool .unit)))) 0 (some fun z=>zbT ((x0,x1,(ze qk).2.2),()))) 1 (some fun z=>zbU ((x0,x1,(ze qk).2.2),()))) 2 (some fun z=>za4 ((x0,x1,(ze qk).2.2),()))) 3 (some fun z=>zfC ((x0,x1,(ze qk).2.2),()))) 4 (some fun z=>za2 ((x0,x1,(ze qk).2.2),()))) 5 (some fun z=>zfz ((x0,x1,(ze qk).2.2),()))) 6 (some fun z=>zfG ((x0,x1,(ze qk).2.2),())))):Int),0,[some fun z=>zbT ((x0,x1,(ze qk).2.2),()),some fun z=>zbU ((x0,x1,(ze qk).2.2),()),some fun z=>za4 ((x0,x1,(ze qk).2.2),()),some fun z=>zfC ((x0,x1,(ze qk).2.2),()),some fun z=>za2 ((x0,x1,(ze qk).2.2),()),some fun z=>zfz ((x0,x1,(ze qk).2.2),()),some fun z=>zfG ((x0,x1,(ze qk).2.2),())])
def ziN:(zd × zb × Unit)→Option (Bool × Unit):=zm2 (zqF K0)
abbrev zu2:Fun:=⟨30,(ch [zl,zq]),(ch [.bool]),0,ziN⟩
theorem zGR:Sq zu2:=ml9 (d:=false) (S:=fun K=>zm2 (zqF K)) Tryz.func30 (by kernel_rfl) (fun K=>tr1 (T:=zm2) (zCV K K) fun (x0,x1,())=>by kernel_rfl) rfl
abbrev zfJ:Type:=(Option ((pMe × Unit)→Option (Bool × Unit))) × (List Int) × Int × Int × zd × pMe × List Int
abbrev zGS:zfJ→St:=fun (v3,v14,v15,v16,o0,o1,o2)=>St.mk [(3,.dat (.fn (.pair tMe .unit) (.pair .bool .unit)) v3),(4,.bp 0 []),(6,.bp 1 []),(9,.ow 2),(14,.dat (.sl tI) v14),(15,.dat tI v15),(16,.dat tI v16)] [.bx (.dat zl o0) false,.bx (.dat tMe o1) false,.row tI o2 false]
def zu3 (k0:zfJ→Option ((List Int) × Unit)):zfJ→Option ((List Int) × Unit):=fun (v3,v14,v15,v16,o0,o1,o2) =>
 bif decide (v16 < v15) then inR v16 ((List.length v14):Int) (inR v16 ((List.length o0.2.1):Int) (bif v16 == o1.1 then k0 (v3,v14,v15,wI (v16 + 1),o0,o1,o2) else bif decide (ix (0:Int) v14 v16 < 0) then k0 (v3,v14,v15,wI (v16 + 1),o0,o1,o2) else Option.bind (zfR (o0,o1.2.1,ix (0:Int) o0.2.1 v16,())) fun q0=>bif q0.1 then Option.bind v3 fun q1=>Option.bind (q1 ((v16,ix (0:Int) o0.2.1 v16,ix (0:Int) v14 v16,(ze tMe).2.2.2),())) fun q2=>bif q2.1 then bif decide (List.length o2 + List.length (zh (List.replicate 1 (0:Int)) 0 v16) ≤ lim) then k0 (v3,v14,v15,wI (v16 + 1),o0,o1,o2 ++ zh (List.replicate 1 (0:Int)) 0 v16) else none else k0 (v3,v14,v15,wI (v16 + 1),o0,o1,o2) else k0 (v3,v14,v15,wI (v16 + 1),o0,o1,o2))) else some (o2,())
abbrev zu4 (K:Nat):zfJ→Option ((List Int) × Unit):=zg zu3 K
theorem zGT (K:Nat):∀ n,evV Es9 K Tryz.f69 0 (ch [(.sl tI)]) [1,0,1,1,0,1,0] [] zGS n = zg zu3 n:=zn fun n0 (v3,v14,v15,v16,o0,o1,o2)=>by kernel_rfl
def zrk (L0:zfJ→Option ((List Int) × Unit)):(zd × (zb × (pMe × ((Option ((pMe × Unit)→Option (Bool × Unit))) × Unit))))→Option ((List Int) × Unit):=fun (x0,x1,x2,x3,()) =>
 L0 (x3,x1.2.2.2.2.2.1,((List.length x1.2.2.2.2.2.1):Int),0,x0,x2,[])
def zrl:(zd × (zb × (pMe × ((Option ((pMe × Unit)→Option (Bool × Unit))) × Unit))))→Option ((List Int) × Unit):=zrk (zu4 K0)
abbrev zzd:Fun:=⟨69,(ch [zl,zq,tMe,(.fn (ch [tMe]) (ch [.bool]))]),(ch [(.sl tI)]),0,zrl⟩
theorem zLu:Sq zzd:=ml9 (d:=false) (S:=fun K=>zrk (zu4 K)) Tryz.func69 (by kernel_rfl) (fun K=>tr1 (T:=zrk) (zGT K K) fun (x0,x1,x2,x3,())=>by kernel_rfl) rfl
def zsQ:(zd × ((List (List Int)) × (Int × (Int × Unit))))→Option (Bool × Unit):=fun (x0,x1,x2,x3,()) =>
 Option.bind (zeI (x0,x1,())) fun q0=>bif q0.1 then Option.bind (zjp (x2,((List.length x0.2.2.1):Int),())) fun q1=>bif q1.1 then Option.bind (zjp (x3,((List.length x0.1):Int),())) fun q2=>bif q2.1 then inR x2 ((List.length x0.2.2.1):Int) (inR x3 ((List.length x0.1):Int) (bif decide ((ix qH x0.2.2.1 x2).2.2.1 ≥ (ix qO x0.1 x3).1) then Option.bind (zlv (x0,x3,())) fun q3=>Option.bind (qv (q3.1,some fun z=>zoi (z.1,some x1,some x2,()),())) fun q4=>bif q4.1 then some (false,()) else some (true,()) else some (false,()))) else some (false,()) else some (false,()) else some (false,())
abbrev zsR:Fun:=⟨233,(ch [zl,(.sl (.sl tI)),tI,tI]),(ch [.bool]),0,zsQ⟩
theorem zEM:Sq zsR:=ms9 (d:=false) (K:=0) Tryz.func233 (by kernel_rfl) (funext fun (x0,x1,x2,x3,())=>by kernel_rfl)
abbrev L10:List Fun:=zu2 :: zzd :: zsR :: L9
theorem h10:Sds Tryz.prog E0 L10:=⟨zGR,zLu,zEM,h9⟩
theorem zRq {d:Bool} {F:Fun} {f:Go.Func} {K:Nat} (hf:Tryz.prog.funcs[F.id]? = some f) (ho:jF f = true) (h:evF (En E0 d L10) K f F.md F.a F.r = F.spec):Sd Tryz.prog E0 F:=mkS h10 hf ho h
theorem zRr {d:Bool} {F:Fun} {f:Go.Func} {S:Nat→F.a.I→Option F.r.I} (hf:Tryz.prog.funcs[F.id]? = some f) (ho:jF f = true) (h:∀ K,evF (En E0 d L10) K f F.md F.a F.r = S K) (e:S K0 = F.spec):Sd Tryz.prog E0 F:=mkS h10 hf ho ((h K0).trans e)
abbrev zRs:Env:=En E0 true L10
def jP:(zd × (zb × (pMe × Unit)))→Option (Bool × Unit):=fun (x0,x1,x2,()) =>
 Option.bind (ziN (x0,x1,())) fun q0=>bif q0.1 then bif decide (x2.1 ≥ 0) then bif decide (x2.1 < ((List.length x0.2.1):Int)) then inR x2.1 ((List.length x0.2.1):Int) (bif x2.2.1 == ix (0:Int) x0.2.1 x2.1 then bif decide (x2.2.2.1 ≥ 0) then bif decide (x2.2.2.1 < ((List.length x0.2.2.1):Int)) then some (true,()) else some (false,()) else some (false,()) else some (false,())) else some (false,()) else some (false,()) else some (false,())
abbrev zxo:Fun:=⟨28,(ch [zl,zq,tMe]),(ch [.bool]),0,jP⟩
theorem zJC:Sq zxo:=zRq (d:=false) (K:=0) Tryz.func28 (by kernel_rfl) (funext fun (x0,x1,x2,())=>by kernel_rfl)
abbrev zgN:Type:=Int × Int × Int × (List (List Int)) × Int × Int × List (List Int) × Nat
abbrev zJD:zgN→St:=fun (v4,v14,v15,v92,v93,v94,o0,c0)=>St.mk [(4,.dat tI v4),(14,.dat tI v14),(15,.dat tI v15),(17,.ow 0),(92,.dat (.sl (.sl tI)) v92),(93,.dat tI v93),(94,.dat tI v94)] [.drow (.sl tI) o0 c0]
def zxp (k0:zgN→Option ((List (List Int)) × (Int × Unit))):zgN→Option ((List (List Int)) × (Int × Unit)):=fun (v4,v14,v15,v92,v93,v94,o0,c0) =>
 bif decide (v94 < v93) then inR v94 ((List.length v92):Int) (Option.bind (zaU (List.getD v92 (Int.toNat v94) ([]:List Int),())) fun q8=>bif decide (List.length o0 + List.length [q8.1] ≤ lim) then bif decide (c0 = List.length o0) then k0 (v4,v14,v15,v92,v93,wI (v94 + 1),o0 ++ [q8.1],c0 + (0 + 1)) else none else none) else inR v14 ((List.length o0):Int) (bif decide (c0 ≤ Int.toNat v14) then inR v4 ((List.length (List.getD o0 (Int.toNat v14) ([]:List Int))):Int) none else inR v4 ((List.length (List.getD o0 (Int.toNat v14) ([]:List Int))):Int) (some (List.set o0 (Int.toNat v14) (List.set (List.getD o0 (Int.toNat v14) ([]:List Int)) (Int.toNat v4) v15),0,())))
abbrev zxq (K:Nat):zgN→Option ((List (List Int)) × (Int × Unit)):=zg zxp K
theorem zJE (K:Nat):∀ n,evV zRs K Tryz.f127 0 (ch [(.sl (.sl tI)),tI]) [1,1,1,1,1,1,1,1,0,1,0] [] zJD n = zg zxp n:=zn fun n0 (v4,v14,v15,v92,v93,v94,o0,c0)=>by kernel_rfl
def ztM (L0:zgN→Option ((List (List Int)) × (Int × Unit))):(zd × ((List (List Int)) × (Int × (Int × (Int × ((Option ((Int × (Bool × Unit))→Option (Int × (Int × Unit)))) × Unit))))))→Option ((List (List Int)) × (Int × Unit)):=fun (x0,x1,x2,x3,x4,x5,()) =>
 Option.bind (zeI (x0,x1,())) fun q0=>bif q0.1 then Option.bind (zjp (x2,((List.length x0.1):Int),())) fun q1=>bif q1.1 then Option.bind (zjp (x3,((List.length x0.2.2.1):Int),())) fun q2=>bif q2.1 then Option.bind (zjp (x4,((List.length x0.2.2.1):Int),())) fun q3=>bif q3.1 then Option.bind (zqD (x0,x2,())) fun q4=>bif decide (q4.1 < 0) then some ([],17,()) else Option.bind (zsQ (x0,x1,x3,x2,())) fun q5=>bif q5.1 then inR q4.1 ((List.length x1):Int) (inR x3 ((List.length (List.getD x1 (Int.toNat q4.1) ([]:List Int))):Int) (bif List.getD (List.getD x1 (Int.toNat q4.1) ([]:List Int)) (Int.toNat x3) (0:Int) != 2 then some ([],5,()) else inR q4.1 ((List.length x1):Int) (inR x4 ((List.length (List.getD x1 (Int.toNat q4.1) ([]:List Int))):Int) (inR q4.1 ((List.length x0.2.2.2.1):Int) (bif (ix qr x0.2.2.2.1 q4.1).2.1 == x4 then Option.bind x5 fun q6=>Option.bind (q6 (List.getD (List.getD x1 (Int.toNat q4.1) ([]:List Int)) (Int.toNat x4) (0:Int),true,())) fun q7=>bif q7.2.1 != 0 then some ([],q7.2.1,()) else L0 (x4,q4.1,q7.1,x1,((List.length x1):Int),0,[],0) else Option.bind x5 fun q9=>Option.bind (q9 (List.getD (List.getD x1 (Int.toNat q4.1) ([]:List Int)) (Int.toNat x4) (0:Int),false,())) fun q10=>bif q10.2.1 != 0 then some ([],q10.2.1,()) else L0 (x4,q4.1,q10.1,x1,((List.length x1):Int),0,[],0)))))) else some ([],5,()) else some ([],1,()) else some ([],1,()) else some ([],1,()) else some ([],1,())
def znD:(zd × ((List (List Int)) × (Int × (Int × (Int × ((Option ((Int × Bool × Unit)→Option (Int × Int × Unit))) × Unit))))))→Option ((List (List Int)) × Int × Unit):=ztM (zxq K0)
abbrev zCW:Fun:=⟨127,(ch [zl,(.sl (.sl tI)),tI,tI,tI,(.fn (ch [tI,.bool]) (ch [tI,tI]))]),(ch [(.sl (.sl tI)),tI]),0,znD⟩
theorem zNx:Sq zCW:=zRr (d:=true) (S:=fun K=>ztM (zxq K)) Tryz.func127 (by kernel_rfl) (fun K=>tr1 (T:=ztM) (zJE K K) fun (x0,x1,x2,x3,x4,x5,())=>by kernel_rfl) rfl
abbrev L11:List Fun:=zxo :: zCW :: L10
theorem h11:Sds Tryz.prog E0 L11:=⟨zJC,zNx,h10⟩
theorem zrm {d:Bool} {F:Fun} {f:Go.Func} {K:Nat} (hf:Tryz.prog.funcs[F.id]? = some f) (ho:jF f = true) (h:evF (En E0 d L11) K f F.md F.a F.r = F.spec):Sd Tryz.prog E0 F:=mkS h11 hf ho h
def zdx:(zd × (zb × (pMe × (Int × (Int × (ByteArray × Unit))))))→Option (zb × (Int × Unit)):=fun (x0,x1,x2,x3,x4,x5,()) =>
 Option.bind (jP (x0,x1,x2,())) fun q0=>bif q0.1 then bif decide (x3 < 0) then some ((0,[],[],[],[],[],()),1,()) else bif decide (x3 ≥ ((List.length x0.1):Int)) then some ((0,[],[],[],[],[],()),1,()) else bif decide (x4 < 0) then some ((0,[],[],[],[],[],()),1,()) else bif decide (x4 ≥ ((List.length x0.2.2.1):Int)) then some ((0,[],[],[],[],[],()),1,()) else Option.bind (zfR (x0,x2.2.1,x3,())) fun q1=>bif q1.1 then inR x3 ((List.length x1.2.1):Int) (Option.bind (znC ((ix zf x1.2.1 x3).2.2.2.1,((ze zu).1,x2.2.1,x2.2.2.1,x4,x5,(ze zu).2.2.2.2.2),())) fun q2=>Option.bind (jl (x1,())) fun q3=>bif q2.2.2.1 == 0 then inR x3 ((List.length q3.1.2.1):Int) (some ((u1 q3.1 (List.set q3.1.2.1 (Int.toNat x3) (u3 (ix zf q3.1.2.1 x3) q2.1))),0,())) else bif q2.2.2.1 == 2 then some ((0,[],[],[],[],[],()),q2.2.2.1,()) else bif x3 == x2.2.1 then some ((0,[],[],[],[],[],()),q2.2.2.1,()) else some (q3.1,0,())) else some ((0,[],[],[],[],[],()),5,()) else some ((0,[],[],[],[],[],()),1,())
abbrev zze:Fun:=⟨8,(ch [zl,zq,tMe,tI,tI,.str]),(ch [zq,tI]),0,zdx⟩
theorem zLv:Sq zze:=zrm (d:=true) (K:=0) Tryz.func8 (by kernel_rfl) (funext fun (x0,x1,x2,x3,x4,x5,())=>by kernel_rfl)
def zfS:(zd × (zb × (pMe × (Int × Unit))))→Option (zb × (Int × Unit)):=fun (x0,x1,x2,x3,()) =>
 Option.bind (jP (x0,x1,x2,())) fun q0=>bif q0.1 then Option.bind (zd1 (x1,x2,())) fun q1=>Option.bind (zlY (q1.1,x3,x2.2.2.1,())) fun q2=>bif q2.2.1 != 0 then some ((0,[],[],[],[],[],()),q2.2.1,()) else Option.bind (jl (x1,())) fun q3=>inR x2.2.1 ((List.length q3.1.2.1):Int) (some ((u1 q3.1 (List.set q3.1.2.1 (Int.toNat x2.2.1) (u3 (ix zf q3.1.2.1 x2.2.1) q2.1))),0,())) else some ((0,[],[],[],[],[],()),1,())
abbrev zzf:Fun:=⟨10,(ch [zl,zq,tMe,tI]),(ch [zq,tI]),0,zfS⟩
theorem zLw:Sq zzf:=zrm (d:=true) (K:=0) Tryz.func10 (by kernel_rfl) (funext fun (x0,x1,x2,x3,())=>by kernel_rfl)
def zfK:(zd × (zb × (pMe × (Int × Unit))))→Option (zk × (Int × Unit)):=fun (x0,x1,x2,x3,()) =>
 Option.bind (jP (x0,x1,x2,())) fun q0=>bif q0.1 then Option.bind (zd1 (x1,x2,())) fun q1=>Option.bind (zkq (q1.1,x3,x2.2.2.1,())) fun q2=>some q2 else some ((false,0,0,0,ByteArray.mk #[],()),1,())
abbrev zu5:Fun:=⟨12,(ch [zl,zq,tMe,tI]),(ch [zu,tI]),0,zfK⟩
theorem zGU:Sq zu5:=zrm (d:=false) (K:=0) Tryz.func12 (by kernel_rfl) (funext fun (x0,x1,x2,x3,())=>by kernel_rfl)
def zgO:(zd × (zb × (pMe × Unit)))→Option ((List Int) × (Int × Unit)):=fun (x0,x1,x2,()) =>
 Option.bind (jP (x0,x1,x2,())) fun q0=>bif q0.1 then Option.bind (zd1 (x1,x2,())) fun q1=>Option.bind (zmq (q1.1,x2.2.2.1,())) fun q2=>some (q2.1,0,()) else some ([],1,())
abbrev zxr:Fun:=⟨14,(ch [zl,zq,tMe]),(ch [(.sl tI),tI]),0,zgO⟩
theorem zJF:Sq zxr:=zrm (d:=false) (K:=0) Tryz.func14 (by kernel_rfl) (funext fun (x0,x1,x2,())=>by kernel_rfl)
def ztN:(zd × (zb × (pMe × (ByteArray × Unit))))→Option ((List Int) × (Int × Unit)):=fun (x0,x1,x2,x3,()) =>
 Option.bind (jP (x0,x1,x2,())) fun q0=>bif q0.1 then Option.bind (zdv (x3,())) fun q1=>bif q1.1 then Option.bind (zrl (x0,x1,x2,some fun z=>zwD (z.1,some (some fun z_1=>zwB (z_1.1,some x1,())),some x2,()),())) fun q2=>some (q2.1,0,()) else some ([],2,()) else some ([],1,())
abbrev zCX:Fun:=⟨20,(ch [zl,zq,tMe,.str]),(ch [(.sl tI),tI]),0,ztN⟩
theorem zNy:Sq zCX:=zrm (d:=false) (K:=0) Tryz.func20 (by kernel_rfl) (funext fun (x0,x1,x2,x3,())=>by kernel_rfl)
def zo1:(zd × (zb × (pMe × (Int × (ByteArray × Unit)))))→Option ((List Int) × (Int × Unit)):=fun (x0,x1,x2,x3,x4,()) =>
 Option.bind (jP (x0,x1,x2,())) fun q0=>bif q0.1 then Option.bind (zlk (x0,x3,())) fun q1=>bif q1.1 then Option.bind (zlv (x0,x2.2.1,())) fun q2=>Option.bind (zhO (q2.1,x3,())) fun q3=>bif q3.1 then Option.bind (zdv (x4,())) fun q4=>bif q4.1 then Option.bind (zrl (x0,x1,x2,some zr1,())) fun q5=>some (q5.1,0,()) else some ([],2,()) else some ([],5,()) else some ([],1,()) else some ([],1,())
abbrev zxs:Fun:=⟨22,(ch [zl,zq,tMe,tI,.str]),(ch [(.sl tI),tI]),0,zo1⟩
theorem zJG:Sq zxs:=zrm (d:=false) (K:=0) Tryz.func22 (by kernel_rfl) (funext fun (x0,x1,x2,x3,x4,())=>by kernel_rfl)
def zu6:(zd × ((List (List Int)) × (Int × (Int × (Int × Unit)))))→Option ((List (List Int)) × (Int × Unit)):=fun (x0,x1,x2,x3,x4,()) =>
 Option.bind (znD (x0,x1,x2,x3,x4,some zpZ,())) fun q0=>some q0
abbrev zu7:Fun:=⟨77,(ch [zl,(.sl (.sl tI)),tI,tI,tI]),(ch [(.sl (.sl tI)),tI]),0,zu6⟩
theorem zGV:Sq zu7:=zrm (d:=false) (K:=0) Tryz.func77 (by kernel_rfl) (funext fun (x0,x1,x2,x3,x4,())=>by kernel_rfl)
def zxt:(zd × ((List (List Int)) × (Int × (Int × (Int × Unit)))))→Option ((List (List Int)) × (Int × Unit)):=fun (x0,x1,x2,x3,x4,()) =>
 Option.bind (znD (x0,x1,x2,x3,x4,some zr3,())) fun q0=>some q0
abbrev zxu:Fun:=⟨78,(ch [zl,(.sl (.sl tI)),tI,tI,tI]),(ch [(.sl (.sl tI)),tI]),0,zxt⟩
theorem zJH:Sq zxu:=zrm (d:=false) (K:=0) Tryz.func78 (by kernel_rfl) (funext fun (x0,x1,x2,x3,x4,())=>by kernel_rfl)
def zxv:(zd × ((List (List Int)) × (Int × (Int × (Int × Unit)))))→Option ((List (List Int)) × (Int × Unit)):=fun (x0,x1,x2,x3,x4,()) =>
 Option.bind (znD (x0,x1,x2,x3,x4,some zr5,())) fun q0=>some q0
abbrev zxw:Fun:=⟨79,(ch [zl,(.sl (.sl tI)),tI,tI,tI]),(ch [(.sl (.sl tI)),tI]),0,zxv⟩
theorem zJI:Sq zxw:=zrm (d:=false) (K:=0) Tryz.func79 (by kernel_rfl) (funext fun (x0,x1,x2,x3,x4,())=>by kernel_rfl)
def zsS:(zd × (zb × (pMe × (Int × Unit))))→Option ((List Int) × (Int × Unit)):=fun (x0,x1,x2,x3,()) =>
 Option.bind (jP (x0,x1,x2,())) fun q0=>bif q0.1 then Option.bind (zlk (x0,x3,())) fun q1=>bif q1.1 then Option.bind (zsO (x0,x3,())) fun q2=>Option.bind (zfR (x0,q2.1,x2.2.1,())) fun q3=>bif q3.1 then inR x3 ((List.length x1.2.2.1):Int) (Option.bind (zaU (List.getD x1.2.2.1 (Int.toNat x3) ([]:List Int),())) fun q4=>some (q4.1,0,())) else some ([],5,()) else some ([],1,()) else some ([],1,())
abbrev zsT:Fun:=⟨26,(ch [zl,zq,tMe,tI]),(ch [(.sl tI),tI]),0,zsS⟩
theorem zEN:Sq zsT:=zrm (d:=false) (K:=0) Tryz.func26 (by kernel_rfl) (funext fun (x0,x1,x2,x3,())=>by kernel_rfl)
abbrev L12:List Fun:=zze :: zzf :: zu5 :: zxr :: zCX :: zxs :: zu7 :: zxu :: zxw :: zsT :: L11
theorem h12:Sds Tryz.prog E0 L12:=⟨zLv,zLw,zGU,zJF,zNy,zJG,zGV,zJH,zJI,zEN,h11⟩
theorem zRt {d:Bool} {F:Fun} {f:Go.Func} {K:Nat} (hf:Tryz.prog.funcs[F.id]? = some f) (ho:jF f = true) (h:evF (En E0 d L12) K f F.md F.a F.r = F.spec):Sd Tryz.prog E0 F:=mkS h12 hf ho h
def zo2:(zd × (zb × (pMe × (Int × (Int × Unit)))))→Option (zb × (Int × Unit)):=fun (x0,x1,x2,x3,x4,()) =>
 Option.bind (jP (x0,x1,x2,())) fun q0=>bif q0.1 then bif x3 == 28 then Option.bind (zu6 (x0,x1.2.2.1,x2.2.1,x2.2.2.1,x4,())) fun q1=>bif q1.2.1 != 0 then some ((0,[],[],[],[],[],()),q1.2.1,()) else Option.bind (jl (x1,())) fun q2=>some ((u2 q2.1 q1.1),0,()) else bif x3 == 29 then Option.bind (zxt (x0,x1.2.2.1,x2.2.1,x2.2.2.1,x4,())) fun q3=>bif q3.2.1 != 0 then some ((0,[],[],[],[],[],()),q3.2.1,()) else Option.bind (jl (x1,())) fun q4=>some ((u2 q4.1 q3.1),0,()) else bif x3 == 30 then Option.bind (zxv (x0,x1.2.2.1,x2.2.1,x2.2.2.1,x4,())) fun q5=>bif q5.2.1 != 0 then some ((0,[],[],[],[],[],()),q5.2.1,()) else Option.bind (jl (x1,())) fun q6=>some ((u2 q6.1 q5.1),0,()) else some ((0,[],[],[],[],[],()),1,()) else some ((0,[],[],[],[],[],()),1,())
abbrev zxx:Fun:=⟨24,(ch [zl,zq,tMe,tI,tI]),(ch [zq,tI]),0,zo2⟩
theorem zJJ:Sq zxx:=zRt (d:=true) (K:=0) Tryz.func24 (by kernel_rfl) (funext fun (x0,x1,x2,x3,x4,())=>by kernel_rfl)
abbrev L13:List Fun:=zxx :: L12
theorem h13:Sds Tryz.prog E0 L13:=⟨zJJ,h12⟩
theorem zRu {d:Bool} {F:Fun} {f:Go.Func} {K:Nat} (hf:Tryz.prog.funcs[F.id]? = some f) (ho:jF f = true) (h:evF (En E0 d L13) K f F.md F.a F.r = F.spec):Sd Tryz.prog E0 F:=mkS h13 hf ho h
def zfL:Unit→Option (Bool × Unit):=fun () =>
 Option.bind (zur ()) fun q0=>Option.bind (zzb (q0.1,())) fun q1=>bif q1.2.1 != 0 then some (false,()) else bif ((List.length q1.1.2.2.2.2.2.1):Int) != 3 then some (false,()) else bif decide (1 < ((List.length q1.1.2.2.2.2.2.1):Int)) then bif decide (2 < ((List.length (List.set q1.1.2.2.2.2.2.1 (Int.toNat 1) 0)):Int)) then Option.bind (zdx (q0.1,(u5 q1.1 (List.set (List.set q1.1.2.2.2.2.2.1 (Int.toNat 1) 0) (Int.toNat 2) 0)),(0,(ze tMe).2),2,0,ByteArray.mk #[104,105],())) fun q2=>Option.bind (zdx (q0.1,(u5 q1.1 (List.set (List.set q1.1.2.2.2.2.2.1 (Int.toNat 1) 0) (Int.toNat 2) 0)),(2,2,(ze tMe).2.2),0,0,ByteArray.mk #[104,105],())) fun q3=>Option.bind (zgO (q0.1,q2.1,(2,2,(ze tMe).2.2),())) fun q4=>Option.bind (zfK (q0.1,q2.1,(2,2,(ze tMe).2.2),0,())) fun q5=>Option.bind (zfS (q0.1,q2.1,(2,2,(ze tMe).2.2),0,())) fun q6=>Option.bind (ztN (q0.1,(u5 q1.1 (List.set (List.set q1.1.2.2.2.2.2.1 (Int.toNat 1) 0) (Int.toNat 2) 0)),(0,(ze tMe).2),ByteArray.mk #[104,105],())) fun q7=>Option.bind (ztN (q0.1,(u5 q1.1 (List.set (List.set q1.1.2.2.2.2.2.1 (Int.toNat 1) 0) (Int.toNat 2) 0)),(0,(ze tMe).2),ByteArray.mk #[32],())) fun q8=>Option.bind (zo1 (q0.1,(u5 q1.1 (List.set (List.set q1.1.2.2.2.2.2.1 (Int.toNat 1) 0) (Int.toNat 2) 0)),(1,1,(ze tMe).2.2),0,ByteArray.mk #[104,105],())) fun q9=>Option.bind (zo1 (q0.1,(u5 q1.1 (List.set (List.set q1.1.2.2.2.2.2.1 (Int.toNat 1) 0) (Int.toNat 2) 0)),(0,(ze tMe).2),0,ByteArray.mk #[104,105],())) fun q10=>Option.bind (zo2 (q0.1,(u5 q1.1 (List.set (List.set q1.1.2.2.2.2.2.1 (Int.toNat 1) 0) (Int.toNat 2) 0)),(1,1,(ze tMe).2.2),28,1,())) fun q11=>Option.bind (zsS (q0.1,q11.1,(2,2,(ze tMe).2.2),0,())) fun q12=>bif q2.2.1 != 0 then some (false,()) else bif q4.2.1 != 0 then some (false,()) else bif q6.2.1 != 0 then some (false,()) else bif q7.2.1 != 0 then some (false,()) else bif q9.2.1 != 0 then some (false,()) else bif q11.2.1 != 0 then some (false,()) else bif q12.2.1 != 0 then some (false,()) else bif ((List.length q12.1):Int) != 2 then some (false,()) else bif ((List.length q6.1.2.1):Int) != 3 then some (false,()) else bif q3.2.1 == 5 then bif ((List.length q4.1):Int) == 1 then bif ByteArray.toList q5.1.2.2.2.2.1 == ByteArray.toList (ByteArray.mk #[104,105]) then bif q5.2.1 == 0 then bif decide (2 < ((List.length q6.1.2.1):Int)) then bif decide (0 < ((List.length (ix zf q6.1.2.1 2).2.2.2.1):Int)) then bif (List.getD (ix zf q6.1.2.1 2).2.2.2.1 (Int.toNat 0) (ze zu)).1 then some (false,()) else Option.bind (zd4 (q7.1,zh (zh (List.replicate 2 (0:Int)) 0 1) 1 2,())) fun q13=>bif q13.1 then bif q8.2.1 == 2 then Option.bind (zd4 (q9.1,zh (List.replicate 1 (0:Int)) 0 2,())) fun q14=>bif q14.1 then bif q10.2.1 == 5 then bif decide (1 < ((List.length q12.1):Int)) then bif ix (0:Int) q12.1 1 == 1 then some (true,()) else some (false,()) else none else some (false,()) else some (false,()) else some (false,()) else some (false,()) else none else none else some (false,()) else some (false,()) else some (false,()) else some (false,()) else none else none
abbrev zu8:Fun:=⟨18,.unit,(ch [.bool]),0,zfL⟩
theorem zGW:Sq zu8:=zRu (d:=true) (K:=0) Tryz.func18 (by kernel_rfl) (funext fun ()=>by kernel_rfl)
abbrev L14:List Fun:=zu8 :: L13
theorem h14:Sds Tryz.prog E0 L14:=⟨zGW,h13⟩
theorem zRv {d:Bool} {F:Fun} {f:Go.Func} {K:Nat} (hf:Tryz.prog.funcs[F.id]? = some f) (ho:jF f = true) (h:evF (En E0 d L14) K f F.md F.a F.r = F.spec):Sd Tryz.prog E0 F:=mkS h14 hf ho h
def P_law31_TalkMails:(zd × (zb × (pMe × (znX × Unit))))→Option (Bool × Unit):=fun (x0,x1,x2,x3,()) =>
 Option.bind (jl (x1,())) fun q0=>Option.bind (zdx (x0,x1,x2,x3.1,x3.2.1,x3.2.2.2.2.1,())) fun q1=>Option.bind (zkC (x0,q0.1,x2,x3.1,x3.2.1,x3.2.2.2.2.1,())) fun q2=>Option.bind (zfS (x0,x1,x2,x3.2.2.1,())) fun q3=>Option.bind (zkD (x0,q0.1,x2,x3.2.2.1,())) fun q4=>Option.bind (zfK (x0,x1,x2,x3.2.2.1,())) fun q5=>Option.bind (zhr (x0,q0.1,x2,x3.2.2.1,())) fun q6=>Option.bind (zgO (x0,x1,x2,())) fun q7=>Option.bind (zdw (x0,x1,x2,())) fun q8=>bif q8.1 then bif q7.2.1 != 0 then some (false,()) else inR x2.2.1 ((List.length x1.2.1):Int) (Option.bind (ztK ((ix zf x1.2.1 x2.2.1).2.2.2.1,x2.2.2.1,())) fun q9=>Option.bind (zd4 (q7.1,q9.1,())) fun q10=>bif q10.1 then Option.bind (zfL ()) fun q11=>bif q11.1 then Option.bind (vn (q1.1,q2.1,())) fun q12=>bif q12.1 then bif q1.2.1 == q2.2.1 then Option.bind (vn (q3.1,q4.1,())) fun q13=>bif q13.1 then bif q3.2.1 == q4.2.1 then bif eqI zu q5.1 q6.1 then bif q5.2.1 == q6.2.1 then Option.bind (vn (x1,q0.1,())) fun q14=>bif q14.1 then some (true,()) else some (false,()) else some (false,()) else some (false,()) else some (false,()) else some (false,()) else some (false,()) else some (false,()) else some (false,()) else some (false,())) else bif q7.2.1 != 1 then some (false,()) else bif ((List.length q7.1):Int) != 0 then some (false,()) else Option.bind (zfL ()) fun q15=>bif q15.1 then Option.bind (vn (q1.1,q2.1,())) fun q16=>bif q16.1 then bif q1.2.1 == q2.2.1 then Option.bind (vn (q3.1,q4.1,())) fun q17=>bif q17.1 then bif q3.2.1 == q4.2.1 then bif eqI zu q5.1 q6.1 then bif q5.2.1 == q6.2.1 then Option.bind (vn (x1,q0.1,())) fun q18=>bif q18.1 then some (true,()) else some (false,()) else some (false,()) else some (false,()) else some (false,()) else some (false,()) else some (false,()) else some (false,()) else some (false,())
abbrev zyp:Fun:=⟨3,(ch [zl,zq,tMe,vt]),(ch [.bool]),0,P_law31_TalkMails⟩
theorem s_law31_TalkMails:Sq zyp:=zRv (d:=false) (K:=0) Tryz.func3 (by kernel_rfl) (funext fun (x0,x1,x2,x3,())=>by kernel_rfl)
end
end Go.Proofs.YtkcakhbkoeimdaaGreatDoor
end
section
namespace Go.Proofs.YtkcakhbkoeimdaaGreatDoor
open Go.Ev
theorem zCY {l:List Int} {g:Int × Unit→Option (Bool × Unit)} {p:Int→Bool} (hl:l.length ≤ Go.maxLen) (hp:∀ x ∈ l,g (x,()) = some (p x,())):vB (l,some g,()) = some (qK p l 0,()):=qE (τ:=tI) (B:=zaG) (fun _ _ _ _ _=>rfl) hl hp
theorem zde {l:List Int} {g:Int × Unit→Option (Bool × Unit)} {p:Int→Bool} (hl:l.length ≤ Go.maxLen) (hp:∀ x ∈ l,g (x,()) = some (p x,())):qv (l,some g,()) = some (l.any p,()):=qq (τ:=tI) (f:=vB) (zCY hl hp)
theorem zyq {l:List zz} {g:zz × Unit→Option (Bool × Unit)} {p:zz→Bool} (hl:l.length ≤ Go.maxLen) (hp:∀ x ∈ l,g (x,()) = some (p x,())):zaF (l,some g,()) = some (qK p l 0,()):=qE (τ:=zo) (B:=zdl) (fun _ _ _ _ _=>rfl) hl hp
theorem zkE {l:List zz} {g:zz × Unit→Option (Bool × Unit)} {p:zz→Bool} (hl:l.length ≤ Go.maxLen) (hp:∀ x ∈ l,g (x,()) = some (p x,())):yo (l,some g,()) = some (l.any p,()):=qq (τ:=zo) (f:=zaF) (zyq hl hp)
theorem zvG {l:List qu} {g:qu × Unit→Option (Bool × Unit)} {p:qu→Bool} (hl:l.length ≤ Go.maxLen) (hp:∀ x ∈ l,g (x,()) = some (p x,())):yY (l,some g,()) = some (qK p l 0,()):=qE (τ:=qz) (B:=zbd) (fun _ _ _ _ _=>rfl) hl hp
theorem zrn {l:List qu} {g:qu × Unit→Option (Bool × Unit)} {p:qu→Bool} (hl:l.length ≤ Go.maxLen) (hp:∀ x ∈ l,g (x,()) = some (p x,())):zaL (l,some g,()) = some (l.any p,()):=qq (τ:=qz) (f:=yY) (zvG hl hp)
theorem zyr {l:List zp} {g:zp × Unit→Option (Bool × Unit)} {p:zp→Bool} (hl:l.length ≤ Go.maxLen) (hp:∀ x ∈ l,g (x,()) = some (p x,())):zaH (l,some g,()) = some (qK p l 0,()):=qE (τ:=zx) (B:=zdn) (fun _ _ _ _ _=>rfl) hl hp
theorem ztO {l:List zp} {g:zp × Unit→Option (Bool × Unit)} {p:zp→Bool} (hl:l.length ≤ Go.maxLen) (hp:∀ x ∈ l,g (x,()) = some (p x,())):jZ (l,some g,()) = some (l.any p,()):=qq (τ:=zx) (f:=zaH) (zyr hl hp)
theorem zAz {l:List qP} {g:qP × Unit→Option (Bool × Unit)} {p:qP→Bool} (hl:l.length ≤ Go.maxLen) (hp:∀ x ∈ l,g (x,()) = some (p x,())):zbH (l,some g,()) = some (qK p l 0,()):=qE (τ:=qh) (B:=zdX) (fun _ _ _ _ _=>rfl) hl hp
theorem zvH {l:List qP} {g:qP × Unit→Option (Bool × Unit)} {p:qP→Bool} (hl:l.length ≤ Go.maxLen) (hp:∀ x ∈ l,g (x,()) = some (p x,())):zdu (l,some g,()) = some (l.any p,()):=qq (τ:=qh) (f:=zbH) (zAz hl hp)
theorem zAA {l:List z5} {g:z5 × Unit→Option (Bool × Unit)} {p:z5→Bool} (hl:l.length ≤ Go.maxLen) (hp:∀ x ∈ l,g (x,()) = some (p x,())):zbI (l,some g,()) = some (qK p l 0,()):=qE (τ:=zH) (B:=zdZ) (fun _ _ _ _ _=>rfl) hl hp
theorem zk7 {l:List z5} {g:z5 × Unit→Option (Bool × Unit)} {p:z5→Bool} (hl:l.length ≤ Go.maxLen) (hp:∀ x ∈ l,g (x,()) = some (p x,())):jq (l,some g,()) = some (l.any p,()):=qq (τ:=zH) (f:=zbI) (zAA hl hp)
theorem zo3 {l:List zk} {g:zk × Unit→Option (Bool × Unit)} {p:zk→Bool} (hl:l.length ≤ Go.maxLen) (hp:∀ x ∈ l,g (x,()) = some (p x,())):yw (l,some g,()) = some (qK p l 0,()):=qE (τ:=zu) (B:=zd0) (fun _ _ _ _ _=>rfl) hl hp
theorem zk8 {l:List zk} {g:zk × Unit→Option (Bool × Unit)} {p:zk→Bool} (hl:l.length ≤ Go.maxLen) (hp:∀ x ∈ l,g (x,()) = some (p x,())):jt (l,some g,()) = some (l.any p,()):=qq (τ:=zu) (f:=yw) (zo3 hl hp)
theorem zys {l:List zv} {g:zv × Unit→Option (Bool × Unit)} {p:zv→Bool} (hl:l.length ≤ Go.maxLen) (hp:∀ x ∈ l,g (x,()) = some (p x,())):zaI (l,some g,()) = some (qK p l 0,()):=qE (τ:=zw) (B:=zdq) (fun _ _ _ _ _=>rfl) hl hp
theorem zkF {l:List zv} {g:zv × Unit→Option (Bool × Unit)} {p:zv→Bool} (hl:l.length ≤ Go.maxLen) (hp:∀ x ∈ l,g (x,()) = some (p x,())):jf (l,some g,()) = some (l.any p,()):=qq (τ:=zw) (f:=zaI) (zys hl hp)
theorem zyt {l:List zt} {g:zt × Unit→Option (Bool × Unit)} {p:zt→Bool} (hl:l.length ≤ Go.maxLen) (hp:∀ x ∈ l,g (x,()) = some (p x,())):zaJ (l,some g,()) = some (qK p l 0,()):=qE (τ:=zr) (B:=zdr) (fun _ _ _ _ _=>rfl) hl hp
theorem ztP {l:List zt} {g:zt × Unit→Option (Bool × Unit)} {p:zt→Bool} (hl:l.length ≤ Go.maxLen) (hp:∀ x ∈ l,g (x,()) = some (p x,())):j3 (l,some g,()) = some (l.any p,()):=qq (τ:=zr) (f:=zaJ) (zyt hl hp)
theorem zyu {l:List zG} {g:zG × Unit→Option (Bool × Unit)} {p:zG→Bool} (hl:l.length ≤ Go.maxLen) (hp:∀ x ∈ l,g (x,()) = some (p x,())):zaK (l,some g,()) = some (qK p l 0,()):=qE (τ:=zy) (B:=zds) (fun _ _ _ _ _=>rfl) hl hp
theorem ztQ {l:List zG} {g:zG × Unit→Option (Bool × Unit)} {p:zG→Bool} (hl:l.length ≤ Go.maxLen) (hp:∀ x ∈ l,g (x,()) = some (p x,())):j4 (l,some g,()) = some (l.any p,()):=qq (τ:=zy) (f:=zaK) (zyu hl hp)
theorem zo4 {l:List qb} {g:qb × Unit→Option (Bool × Unit)} {p:qb→Bool} (hl:l.length ≤ Go.maxLen) (hp:∀ x ∈ l,g (x,()) = some (p x,())):yu (l,some g,()) = some (qK p l 0,()):=qE (τ:=zU) (B:=zdY) (fun _ _ _ _ _=>rfl) hl hp
theorem zvI {l:List qb} {g:qb × Unit→Option (Bool × Unit)} {p:qb→Bool} (hl:l.length ≤ Go.maxLen) (hp:∀ x ∈ l,g (x,()) = some (p x,())):vm (l,some g,()) = some (l.any p,()):=qq (τ:=zU) (f:=yu) (zo4 hl hp)
theorem zCZ {l:List vN} {g:vN × Unit→Option (Bool × Unit)} {p:vN→Bool} (hl:l.length ≤ Go.maxLen) (hp:∀ x ∈ l,g (x,()) = some (p x,())):zb9 (l,some g,()) = some (qK p l 0,()):=qE (τ:=zL) (B:=ze4) (fun _ _ _ _ _=>rfl) hl hp
theorem zxy {l:List vN} {g:vN × Unit→Option (Bool × Unit)} {p:vN→Bool} (hl:l.length ≤ Go.maxLen) (hp:∀ x ∈ l,g (x,()) = some (p x,())):vH (l,some g,()) = some (l.any p,()):=qq (τ:=zL) (f:=zb9) (zCZ hl hp)
theorem zAB {l:List Int} {g:Int × Unit→Option (Bool × Unit)} {p:Int→Bool} (hl:l.length ≤ Go.maxLen) (hp:∀ x ∈ l,g (x,()) = some (p x,())):zbF (l,some g,()) = some (qK p l 0,()):=qE (τ:=(Ty.int .u8)) (B:=zdT) (fun _ _ _ _ _=>rfl) hl hp
theorem zvJ {l:List Int} {g:Int × Unit→Option (Bool × Unit)} {p:Int→Bool} (hl:l.length ≤ Go.maxLen) (hp:∀ x ∈ l,g (x,()) = some (p x,())):vl (l,some g,()) = some (l.any p,()):=qq (τ:=(Ty.int .u8)) (f:=zbF) (zAB hl hp)
theorem zLx {l:List zp} {g:zp × Unit→Option (Bool × Unit)} {p:zp→Bool} (hl:l.length ≤ Go.maxLen) (hp:∀ x ∈ l,g (x,()) = some (p x,())):zhP (l,some g,()) = some (l.all p,()):=by
 have h:jZ (l,some fun z=>zbG (z.1,some (some g),()),()) = some (l.any fun x=>!p x,()):=ztO hl fun x hx=>by
  show Option.bind (g (x,())) (fun q=>bif q.1 then some (false,()) else some (true,())) = _
  rw [hp x hx]; cases p x <;> rfl
 show Option.bind (jZ (l,some fun z=>zbG (z.1,some (some g),()),())) (fun q=>bif q.1 then some (false,()) else some (true,())) = _
 rw [h,← va]; cases l.any fun x=>!p x <;> rfl
theorem zLy {l:List zt} {g:zt × Unit→Option (Bool × Unit)} {p:zt→Bool} (hl:l.length ≤ Go.maxLen) (hp:∀ x ∈ l,g (x,()) = some (p x,())):zhQ (l,some g,()) = some (l.all p,()):=by
 have h:j3 (l,some fun z=>zbJ (z.1,some (some g),()),()) = some (l.any fun x=>!p x,()):=ztP hl fun x hx=>by
  show Option.bind (g (x,())) (fun q=>bif q.1 then some (false,()) else some (true,())) = _
  rw [hp x hx]; cases p x <;> rfl
 show Option.bind (j3 (l,some fun z=>zbJ (z.1,some (some g),()),())) (fun q=>bif q.1 then some (false,()) else some (true,())) = _
 rw [h,← va]; cases l.any fun x=>!p x <;> rfl
theorem zLz {l:List zG} {g:zG × Unit→Option (Bool × Unit)} {p:zG→Bool} (hl:l.length ≤ Go.maxLen) (hp:∀ x ∈ l,g (x,()) = some (p x,())):zdJ (l,some g,()) = some (l.all p,()):=by
 have h:j4 (l,some fun z=>zbK (z.1,some (some g),()),()) = some (l.any fun x=>!p x,()):=ztQ hl fun x hx=>by
  show Option.bind (g (x,())) (fun q=>bif q.1 then some (false,()) else some (true,())) = _
  rw [hp x hx]; cases p x <;> rfl
 show Option.bind (j4 (l,some fun z=>zbK (z.1,some (some g),()),())) (fun q=>bif q.1 then some (false,()) else some (true,())) = _
 rw [h,← va]; cases l.any fun x=>!p x <;> rfl
theorem zOW {l:List Int} {g:Int × Unit→Option (Bool × Unit)} {p:Int→Bool} (hl:l.length ≤ Go.maxLen) (hp:∀ x ∈ l,g (x,()) = some (p x,())):zal (l,some g,()) = some (l.all p,()):=by
 have h:qv (l,some fun z=>zdF (z.1,some (some g),()),()) = some (l.any fun x=>!p x,()):=zde hl fun x hx=>by
  show Option.bind (g (x,())) (fun q=>bif q.1 then some (false,()) else some (true,())) = _
  rw [hp x hx]; cases p x <;> rfl
 show Option.bind (qv (l,some fun z=>zdF (z.1,some (some g),()),())) (fun q=>bif q.1 then some (false,()) else some (true,())) = _
 rw [h,← va]; cases l.any fun x=>!p x <;> rfl
theorem zNz {l:List qb} {g:qb × Unit→Option (Bool × Unit)} {p:qb→Bool} (hl:l.length ≤ Go.maxLen) (hp:∀ x ∈ l,g (x,()) = some (p x,())):zi3 (l,some g,()) = some (l.all p,()):=by
 have h:vm (l,some fun z=>zb6 (z.1,some (some g),()),()) = some (l.any fun x=>!p x,()):=zvI hl fun x hx=>by
  show Option.bind (g (x,())) (fun q=>bif q.1 then some (false,()) else some (true,())) = _
  rw [hp x hx]; cases p x <;> rfl
 show Option.bind (vm (l,some fun z=>zb6 (z.1,some (some g),()),())) (fun q=>bif q.1 then some (false,()) else some (true,())) = _
 rw [h,← va]; cases l.any fun x=>!p x <;> rfl
theorem zC0 {l:List z5} {g:z5 × Unit→Option (Bool × Unit)} {p:z5→Bool} (hl:l.length ≤ Go.maxLen) (hp:∀ x ∈ l,g (x,()) = some (p x,())):yQ (l,some g,()) = some (l.all p,()):=by
 have h:jq (l,some fun z=>zb8 (z.1,some (some g),()),()) = some (l.any fun x=>!p x,()):=zk7 hl fun x hx=>by
  show Option.bind (g (x,())) (fun q=>bif q.1 then some (false,()) else some (true,())) = _
  rw [hp x hx]; cases p x <;> rfl
 show Option.bind (jq (l,some fun z=>zb8 (z.1,some (some g),()),())) (fun q=>bif q.1 then some (false,()) else some (true,())) = _
 rw [h,← va]; cases l.any fun x=>!p x <;> rfl
theorem zOX {l:List vN} {g:vN × Unit→Option (Bool × Unit)} {p:vN→Bool} (hl:l.length ≤ Go.maxLen) (hp:∀ x ∈ l,g (x,()) = some (p x,())):zkg (l,some g,()) = some (l.all p,()):=by
 have h:vH (l,some fun z=>zdG (z.1,some (some g),()),()) = some (l.any fun x=>!p x,()):=zxy hl fun x hx=>by
  show Option.bind (g (x,())) (fun q=>bif q.1 then some (false,()) else some (true,())) = _
  rw [hp x hx]; cases p x <;> rfl
 show Option.bind (vH (l,some fun z=>zdG (z.1,some (some g),()),())) (fun q=>bif q.1 then some (false,()) else some (true,())) = _
 rw [h,← va]; cases l.any fun x=>!p x <;> rfl
theorem zNA {l:List zk} {g:zk × Unit→Option (Bool × Unit)} {p:zk→Bool} (hl:l.length ≤ Go.maxLen) (hp:∀ x ∈ l,g (x,()) = some (p x,())):yR (l,some g,()) = some (l.all p,()):=by
 have h:jt (l,some fun z=>zca (z.1,some (some g),()),()) = some (l.any fun x=>!p x,()):=zk8 hl fun x hx=>by
  show Option.bind (g (x,())) (fun q=>bif q.1 then some (false,()) else some (true,())) = _
  rw [hp x hx]; cases p x <;> rfl
 show Option.bind (jt (l,some fun z=>zca (z.1,some (some g),()),())) (fun q=>bif q.1 then some (false,()) else some (true,())) = _
 rw [h,← va]; cases l.any fun x=>!p x <;> rfl
theorem zLA {l:List zv} {g:zv × Unit→Option (Bool × Unit)} {p:zv→Bool} (hl:l.length ≤ Go.maxLen) (hp:∀ x ∈ l,g (x,()) = some (p x,())):qL (l,some g,()) = some (l.all p,()):=by
 have h:jf (l,some fun z=>zbL (z.1,some (some g),()),()) = some (l.any fun x=>!p x,()):=zkF hl fun x hx=>by
  show Option.bind (g (x,())) (fun q=>bif q.1 then some (false,()) else some (true,())) = _
  rw [hp x hx]; cases p x <;> rfl
 show Option.bind (jf (l,some fun z=>zbL (z.1,some (some g),()),())) (fun q=>bif q.1 then some (false,()) else some (true,())) = _
 rw [h,← va]; cases l.any fun x=>!p x <;> rfl
theorem zu9 {l:List zt} (hl:l.length * 80 ≤ 140737488355328):zbb (l,()) = some (l,()):=yj (τ:=zr) hl rfl
theorem zGX {l:List zt} (hl:l.length ≤ lim):zbb (l,()) = some (l,()):=zu9 (by unfold lim at hl; omega)
theorem zGY {l:List zG} (hl:l.length * 80 ≤ 140737488355328):ziT (l,()) = some (l,()):=yj (τ:=zy) hl rfl
theorem zzg {l:List Int} (hl:l.length * 8 ≤ 140737488355328):zaU (l,()) = some (l,()):=yj (τ:=tI) hl rfl
theorem zJK {l:List (List Int)} (hl:l.length * 24 ≤ 140737488355328):zjF (l,()) = some (l,()):=yj (τ:=(Ty.sl tI)) hl rfl
theorem zGZ {l:List zp} (hl:l.length * 232 ≤ 140737488355328):ziU (l,()) = some (l,()):=yj (τ:=zx) hl rfl
theorem zJL {l:List qP} (hl:l.length * 24 ≤ 140737488355328):zjG (l,()) = some (l,()):=yj (τ:=qh) hl rfl
theorem zJM {l:List qb} (hl:l.length * 48 ≤ 140737488355328):zjH (l,()) = some (l,()):=yj (τ:=zU) hl rfl
theorem zJN {l:List z5} (hl:l.length * 56 ≤ 140737488355328):zjI (l,()) = some (l,()):=yj (τ:=zH) hl rfl
theorem zxz {l:List zk} (hl:l.length * 48 ≤ 140737488355328):zah (l,()) = some (l,()):=yj (τ:=zu) hl rfl
theorem zxA {l:List zk} (hl:l.length ≤ lim):zah (l,()) = some (l,()):=zxz (by unfold lim at hl; omega)
theorem zva {l:List zv} (hl:l.length * 72 ≤ 140737488355328):zbc (l,()) = some (l,()):=yj (τ:=zw) hl rfl
theorem zvb {l:List zv} (hl:l.length ≤ lim):zbc (l,()) = some (l,()):=zva (by unfold lim at hl; omega)
theorem zNB {l:List (List Int)} (hl:l.length * 32 ≤ 140737488355328):zmD (l,()) = some (l,()):=yj (τ:=(Ty.arr 4 tU)) hl rfl
theorem zLB {l:List vN} (hl:l.length * 16 ≤ 140737488355328):zlh (l,()) = some (l,()):=yj (τ:=zL) hl rfl
end Go.Proofs.YtkcakhbkoeimdaaGreatDoor
end
section
namespace Go.Proofs.YtkcakhbkoeimdaaGreatDoor
open Go.Ev
theorem zx0:∃ m,K0 = m + 8:=⟨Go.maxLen - 6,by unfold K0 Go.maxLen; omega⟩
def zT (x a b:Int):Bool:=decide (a ≤ x ∧ x ≤ b)
theorem zfl (x a b:Int):ql (x,a,b,()) = some (zT x a b,()):=by
 simp only [ql,zT]; grind
def zap (a:zz):Bool:=zT a.1 0 3
theorem zG0 (a:zz):zir (a,()) = some (zap a,()):=by
 simp only [zir,zap,zT]; grind
theorem zNC (a:zz):ze8 (a,()) = some (!zap a,()):=by
 simp only [ze8,zG0,Option.bind_some]; grind
theorem zG1 (a:zz):ziu (a,()) = some (zap a,()):=by
 rw [zB]
 simp only [ziu,zap,zT]
 grind
def zkG (x y:Int):Int:=bif decide (x < y) then -1 else bif decide (y < x) then 1 else 0
theorem zLC (x:Int):zai (x,()) = some (false,()):=by
 simp only [zai]; grind
theorem zEO (x:Int):vA (x,()) = some (false,()):=by
 simp only [vA]; grind
theorem zvc (x y:Int):zaA (x,y,()) = some (zkG x y,()):=by
 simp only [zaA,zLC,Option.bind_some,zkG]; grind
theorem zo5 (x y:Int):vZ (x,y,()) = some (zkG x y,()):=by
 simp only [vZ,zEO,Option.bind_some,zkG]; grind
def orV (a b:Int):Int:=bif a != 0 then a else b
theorem zQ2 (a b:Int):zdS ([a,b],()) = some (orV a b,()):=by
 show zg qZ K0 (0,[a,b],2,0) = _
 obtain ⟨m,hm⟩:=zx0
 rw [hm]
 show qZ (qZ (qZ (zg qZ (m + 5)))) (0,[a,b],2,0) = _
 have h:qZ (qZ (qZ (zg qZ (m + 5)))) (0,[a,b],2,0) = bif a != 0 then some (a,()) else bif b != 0 then some (b,()) else some (0,()):=by kernel_rfl
 rw [h]; unfold orV; grind
def zgP (a b:zz):Int:=orV (zkG a.1 b.1) (zkG a.2.1 b.2.1)
theorem zLD (a b:zz):zlP (a,b,()) = some (zgP a b,()):=by
 simp only [zlP,zvc,zo5,Option.bind_some]
 show Option.bind (zdS ([zkG a.1 b.1,zkG a.2.1 b.2.1],())) _ = _
 rw [zQ2]; rfl
theorem zqG (a b:zz):eqI zo a b = ((a.1:Int) == b.1 && (a.2.1:Int) == b.2.1):=by
 show cond ((a.1:Int) == b.1) (cond ((a.2.1:Int) == b.2.1) true false) false = _
 cases ((a.1:Int) == b.1) <;> cases ((a.2.1:Int) == b.2.1) <;> rfl
theorem zLE (a b:zz):zlM (a,b,()) = some (zgP a b,()):=by
 simp only [zlM,zqG,zgP,orV,zkG]; grind
def zbV (l:List zz):Bool:=zT (l.length:Int) 1 8 && (eqI zo (l.getD 0 (ze zo)) (ze zo) && (l.all zap && zV (fun i=>decide (zgP (l.getD (i - 1) (ze zo)) (l.getD i (ze zo)) < 0)) 1 (l.length - 1)))
theorem zND {α:Type} {d:α} {l:List α}:ix d l 0 = l.getD 0 d:=rfl
theorem zPS (r:zd):vK (r,()) = some (zbV r.1,()):=by
 simp only [vK,zhm,zfl,Option.bind_some]
 by_cases hw:zT (List.length r.1:Int) 1 8 = true
 ·have hb:1 ≤ List.length r.1 ∧ List.length r.1 ≤ 8:=by unfold zT at hw; grind
  have hl:List.length r.1 ≤ Go.maxLen:=by unfold Go.maxLen; omega
  have hloop:zi6 K0 (1,r) = bif zV (fun i=>decide (zgP (List.getD r.1 (i - 1) (ze zo)) (List.getD r.1 i (ze zo)) < 0)) 1 (List.length r.1 - 1) then some (true,()) else some (false,()) :=
   z7 (i0:=1) hl hb.1 (fun i=>(i,r)) (fun k i h1 h2=>by
    simp only [zfi]
    rw [ltT h2,zji h1 (by omega),zj (by omega),zj h2,zE,Int.toNat_natCast,zLD]
    simp only [cond_true,Option.bind_some]; grind) (fun k=>by simp only [zfi]; rw [ltF]; rfl)
  rw [zkE (p:=fun a=>!zap a) hl fun x _=>zNC x,hloop,zND]
  have:=va (l:=r.1) (p:=zap)
  unfold zbV
  simp only [Option.bind_some]
  grind
 ·unfold zbV; grind
theorem zEP (l:List zz):zhe (l,()) = some (zbV l,()):=by
 simp only [zhe,zhd]
 by_cases hw:zT (List.length l:Int) 1 8 = true
 ·have hb:1 ≤ List.length l ∧ List.length l ≤ 8:=by unfold zT at hw; grind
  have hl:List.length l ≤ Go.maxLen:=by unfold Go.maxLen; omega
  have hloop:ziY K0 (l,1) = bif zV (fun i=>zap (List.getD l i (ze zo)) && decide (zgP (List.getD l (i - 1) (ze zo)) (List.getD l i (ze zo)) < 0)) 1 (List.length l - 1) then some (true,()) else some (false,()) :=
   z7 (i0:=1) hl hb.1 (fun i=>(l,i)) (fun k i h1 h2=>by
    simp only [zfc]
    rw [ltT h2,zji h1 (by omega),zj h2,zj (by omega),zj h2,zE,Int.toNat_natCast,zLE,zG1]
    simp only [cond_true,Option.bind_some]; grind) (fun k=>by simp only [zfc]; rw [ltF]; rfl)
  rw [hloop,zND]
  have h0:eqI zo (l.getD 0 (ze zo)) (ze zo) = true→zap (l.getD 0 (ze zo)) = true:=fun h=>by
   rw [zqG] at h
   have:(l.getD 0 (ze zo)).1 = (0:Int):=by have:(ze zo).1 = (0:Int):=rfl; grind
   unfold zap zT; grind
  have hsplit:zap (l.getD 0 (ze zo)) = true→zV (fun i=>zap (List.getD l i (ze zo)) && decide (zgP (List.getD l (i - 1) (ze zo)) (List.getD l i (ze zo)) < 0)) 1 (List.length l - 1) = (l.all zap && zV (fun i=>decide (zgP (l.getD (i - 1) (ze zo)) (l.getD i (ze zo)) < 0)) 1 (l.length - 1)):=fun h0=>by
   rw [Bool.eq_iff_iff,Bool.and_eq_true,qy,qy,List.all_eq_true]
   constructor
   ·intro h
    refine ⟨fun x hx=>?_,fun j h1 h2=>?_⟩
    ·obtain ⟨i,hi,rfl⟩:=List.mem_iff_getElem.1 hx
     have e:l.getD i (ze zo) = l[i]:=by simp [List.getD,hi]
     rw [← e]
     by_cases hz:i = 0
     ·subst hz; exact h0
     ·have:=h i (by omega) (by omega); grind
    ·have:=h j h1 h2; grind
   ·rintro ⟨h1,h2⟩ j h3 h4
    have:=h2 j h3 h4
    have:=h1 _ (zX (d:=ze zo) (show j < l.length by omega))
    grind
  unfold zbV
  grind
 ·unfold zbV zT at *; grind
end Go.Proofs.YtkcakhbkoeimdaaGreatDoor
end
section
namespace Go.Proofs.YtkcakhbkoeimdaaGreatDoor
open Go.Ev
def small (c:Int):Bool:=decide (97 ≤ c ∧ c ≤ 122)
def zx1 (c:Int):Bool:=decide (48 ≤ c ∧ c ≤ 57)
theorem zMs (c:Int):zgx (c,()) = some (small c,()):=by
 simp only [zgx,small]; grind
theorem zQu (c:Int):zjM (c,()) = some (zx1 c,()):=by
 simp only [zjM,zx1]; grind
def zHD (c:Int):Bool:=small c || zx1 c
theorem zQ3 (c:Int):zha (c,()) = some (zHD c,()):=by
 simp only [zha,zMs,zQu,Option.bind_some,zHD]; grind
def zgQ (s:ByteArray):List Int:=List.map (fun b:UInt8=>(b.toNat:Int)) s.data.toList
def chr (s:ByteArray) (i:Nat):Int:=(((s.data.toList).getD i 0).toNat:Int)
theorem zm3 (s:ByteArray):(zgQ s).length = s.size:=by unfold zgQ; rw [List.length_map]; rfl
theorem znK (s:ByteArray):s.data.toList.length = s.size:=rfl
theorem zC1 (s:ByteArray) (p:Int→Bool):(zgQ s).all p = zV (fun i=>p (chr s i)) 0 s.size:=by
 rw [Bool.eq_iff_iff,qy,List.all_eq_true]
 have key:∀ i,i < s.size→(zgQ s)[i]? = some (chr s i):=fun i hi=>by
  unfold zgQ chr
  rw [List.getElem?_map,List.getElem?_eq_getElem (by rw [znK]; exact hi)]
  simp [List.getD,znK,hi]
 constructor
 ·intro h j _ hj
  exact h _ (List.mem_of_getElem? (key j (by omega)))
 ·intro h x hx
  obtain ⟨i,hi,rfl⟩:=List.mem_iff_getElem.1 hx
  rw [zm3] at hi
  have:=key i hi
  rw [List.getElem?_eq_getElem (by rw [zm3]; exact hi)] at this
  rw [Option.some.inj this]
  exact h i (by omega) (by omega)
theorem zC2 {s:ByteArray} {g:Int × Unit→Option (Bool × Unit)} {p:Int→Bool} (hl:s.size ≤ Go.maxLen) (hp:∀ c,g (c,()) = some (p c,())):znz (s,some g,()) = some ((zgQ s).all p,()):=by
 have h:vl (zgQ s,some fun z=>zjL (z.1,some (some g),()),()) = some ((zgQ s).any fun x=>!p x,()):=zvJ (by rw [zm3]; exact hl) fun x hx=>by
  show Option.bind (g (x,())) (fun q=>bif q.1 then some (false,()) else some (true,())) = _
  rw [hp x]; cases p x <;> rfl
 show Option.bind (vl (zgQ s,some fun z=>zjL (z.1,some (some g),()),())) (fun q=>bif q.1 then some (false,()) else some (true,())) = _
 rw [h,← va]; cases (zgQ s).any fun x=>!p x <;> rfl
def zkH (s:ByteArray):Bool:=decide (1 ≤ s.size) && (decide (s.size ≤ 12) && zV (fun i=>small (chr s i) || (decide (i ≠ 0) && zx1 (chr s i))) 0 s.size)
theorem zPT (s:ByteArray):zkH s = (decide (1 ≤ s.size) && (decide (s.size ≤ 12) && (small (chr s 0) && (zgQ s).all zHD))):=by
 rw [zC1,zkH,Bool.eq_iff_iff]
 simp only [Bool.and_eq_true,decide_eq_true_eq,qy,zHD]
 constructor
 ·rintro ⟨h1,h2,h3⟩
  have:=h3 0 (by omega) (by omega)
  refine ⟨h1,h2,by grind,fun j h4 h5=>?_⟩
  have:=h3 j h4 h5
  grind
 ·rintro ⟨h1,h2,h3,h4⟩
  refine ⟨h1,h2,fun j h5 h6=>?_⟩
  have:=h4 j h5 h6
  by_cases e:j = 0
  ·subst e; grind
  ·grind
theorem zo6 (s:ByteArray):zbt (s,()) = some (zkH s,()):=by
 rw [zB]
 simp only [zbt]
 rw [zPT]
 by_cases h1:s.size < 1
 ·grind
 by_cases h2:s.size > 12
 ·grind
 rw [zC2 (by unfold Go.maxLen; omega) zQ3]
 have hc:((UInt8.toNat (List.getD s.data.toList (Int.toNat 0) 0):Nat):Int) = chr s 0:=rfl
 rw [hc,zMs]
 simp only [Option.bind_some]
 grind
theorem zm4 (s:ByteArray):zD (s,()) = some (zkH s,()):=by
 rw [zB]
 simp only [zD,ziv]
 unfold zkH
 by_cases h1:s.size < 1
 ·have:s.size = 0:=by omega
  grind
 by_cases h2:s.size > 12
 ·grind
 have hloop:zjX K0 (s,0) = bif zV (fun i=>small (chr s i) || (decide (i ≠ 0) && zx1 (chr s i))) 0 (s.size - 0) then some (true,()) else some (false,()) :=
  z7 (i0:=0) (n:=s.size) (by unfold Go.maxLen; omega) (Nat.zero_le _) (fun i=>(s,i)) (fun k i h3 h4=>by
   simp only [zf9]
   have hc:((UInt8.toNat (List.getD s.data.toList (Int.toNat (i:Int)) 0):Nat):Int) = chr s i:=by rw [Int.toNat_natCast]; rfl
   rw [hc]
   simp only [ltT h4,zj h4,cond_true,small,zx1]
   grind) (fun k=>by simp only [zf9]; rw [ltF]; rfl)
 rw [hloop]
 grind
def zdf (a:qu):Bool:=zkH a.1 && (zkH a.2.1 && zT a.2.2.1 0 3)
theorem zJO (a:qu):zcL (a,()) = some (!zdf a,()):=by
 simp only [zcL,zo6,zfl,Option.bind_some,zdf]; grind
theorem zhH {α:Type} (d x:α):zh (List.replicate 1 d) 0 x = [x]:=rfl
theorem zOY {n:Nat} (h:n ≤ 1000000):decide (n ≤ lim) = true:=decide_eq_true (by unfold lim; omega)
theorem zLF (r:zd) (h:r.2.2.1.length ≤ 1000):zhJ (r,()) = some (r.2.2.1.map (·.1),()):=by
 have hl:r.2.2.1.length ≤ Go.maxLen:=by unfold Go.maxLen; omega
 have:=zaT (B:=yt) (α:=List ByteArray) (len:=r.2.2.1.length) hl (fun i o=>(r.2.2.1,(r.2.2.1.length:Int),i,o)) (fun i o=>some (o ++ (r.2.2.1.drop i).map (·.1),())) (fun i o=>o.length ≤ i) (fun k i s hi hI hk=>by
  simp only [yt]
  rw [ltT hi,zj hi,zE,zhH,zOY (by simp; omega)]
  simp only [cond_true]
  rw [hk _ (by simp; omega),yi qH hi]
  simp) (fun k s _=>by
  simp only [yt]
  rw [ltF,List.drop_of_length_le (Nat.le_refl _)]
  simp) [] (Nat.le_refl _)
 exact this
def zgR:List ByteArray→Bool
 | []=>true
 | x :: l=>!(l.any fun y=>eqI .str x y) && zgR l
theorem zsU (x y:ByteArray):eqI .str x y = (x.toList == y.toList):=rfl
theorem zOZ (o:List (ByteArray × Int)) (x z:ByteArray) (v:Int):jE .str (jI .str o x v) z = (jE .str o z || eqI .str z x):=by
 induction o with
 | nil=>simp only [jI,jE]; cases eqI .str z x <;> rfl
 | cons e o ih =>
  simp only [jI,jE]
  cases h:eqI .str x e.1 with
  | true =>
   simp only [cond_true,jE]
   have:eqI .str z e.1 = eqI .str z x:=by rw [zsU] at *; rw [zsU]; have:=eq_of_beq h; rw [this]
   cases h2:eqI .str z e.1 with
   | true=>rfl
   | false=>rw [← this,h2]; simp
  | false =>
   simp only [cond_false,jE,ih]
   cases eqI .str z e.1 <;> rfl
theorem zJP (o:List (ByteArray × Int)) (x:ByteArray) (v:Int):(jI .str o x v).length = o.length + (bif jE .str o x then 0 else 1):=by
 induction o with
 | nil=>rfl
 | cons e o ih =>
  simp only [jI,jE]
  cases h:eqI .str x e.1 with
  | true=>simp only [cond_true,List.length_cons,Nat.add_zero]
  | false =>
   simp only [cond_false,List.length_cons,ih]
   generalize (bif jE .str o x then 0 else 1) = n
   omega
def ztR:List ByteArray→List (ByteArray × Int)→Nat
 | [],o=>o.length
 | x :: l,o=>ztR l (jI .str o x (wI (zaD .str (0:Int) o x + 1)))
theorem zMt:∀ (l:List ByteArray) (o:List (ByteArray × Int)),ztR l o ≤ o.length + l.length
 | [],o=>Nat.le_refl _
 | x :: l,o=>by
  have h:=zMt l (jI .str o x (wI (zaD .str (0:Int) o x + 1)))
  rw [zJP] at h
  simp only [ztR,List.length_cons]
  cases hm:jE .str o x <;> (rw [hm] at h; simp only [cond_true,cond_false] at h; omega)
theorem zMu:∀ (l:List ByteArray) (o:List (ByteArray × Int)),(ztR l o == o.length + l.length) = (zgR l && l.all fun x=>!jE .str o x)
 | [],o=>by simp [ztR,zgR]
 | x :: l,o=>by
  have h:=zMt l (jI .str o x (wI (zaD .str (0:Int) o x + 1)))
  have ih:=zMu l (jI .str o x (wI (zaD .str (0:Int) o x + 1)))
  rw [zJP] at h ih
  simp only [ztR,List.length_cons,zgR,List.all_cons]
  cases hm:jE .str o x with
  | true =>
   rw [hm] at h
   simp only [cond_true] at h
   have:(ztR l (jI .str o x (wI (zaD .str (0:Int) o x + 1))) == o.length + (l.length + 1)) = false:=by
    simp only [beq_eq_false_iff_ne]; omega
   rw [this]
   simp
  | false =>
   rw [hm] at ih
   simp only [cond_false] at ih
   rw [show o.length + (l.length + 1) = o.length + 1 + l.length by omega,ih]
   simp only [zOZ,Bool.not_or,Bool.not_false,Bool.true_and]
   have:(l.all fun z=>!jE .str o z && !eqI .str z x) = ((l.all fun z=>!jE .str o z) && !(l.any fun y=>eqI .str x y)):=by
    rw [Bool.eq_iff_iff]
    simp only [List.all_eq_true,Bool.and_eq_true,Bool.not_eq_true',List.any_eq_false,Bool.not_eq_true]
    have hs:∀ z,eqI .str z x = eqI .str x z:=fun z=>by rw [zsU,zsU]; exact Bool.beq_comm
    grind
   rw [this]
   cases zgR l <;> cases (l.all fun z=>!jE .str o z) <;> cases (l.any fun y=>eqI .str x y) <;> rfl
theorem zO0 (m n:Nat):(((m:Nat):Int) == ((n:Nat):Int)) = (m == n):=by
 rw [Bool.eq_iff_iff]; simp only [beq_iff_eq]; omega
theorem zQv (l:List ByteArray) (h:l.length ≤ 1000):zn8 (l,()) = some (zgR l,()):=by
 have:=zpJ (B:=zdV) (l:=l) (α:=List (ByteArray × Int)) (ze .str) (fun i o=>(l,l,(l.length:Int),i,o)) (fun rest o=>some (ztR rest o == l.length,())) (by unfold Go.maxLen; omega) (fun k i x rest s hi hx _ hr hk=>by
  simp only [zdV]
  rw [ltT hi,zj hi,Int.toNat_natCast,hx]
  simp only [cond_true]
  exact hk _) (fun k s=>by
  simp only [zdV]
  rw [ltF]
  simp only [cond_false,ztR]
  rw [zO0]
  cases s.length == l.length <;> rfl) []
 refine this.trans ?_
 have h2:=zMu l []
 simp only [List.length_nil,Nat.zero_add] at h2
 rw [h2]
 simp [jE]
def zeN (l:List qu):Bool:=zT (l.length:Int) 1 8 && (l.all zdf && zgR (l.map (·.1)))
theorem zNE (r:zd):jO (r,()) = some (zeN r.2.2.1,()):=by
 rw [zB]
 simp only [jO,zfl,Option.bind_some]
 unfold zeN
 by_cases hw:zT (List.length r.2.2.1:Int) 1 8 = true
 ·have hb:1 ≤ List.length r.2.2.1 ∧ List.length r.2.2.1 ≤ 8:=by unfold zT at hw; grind
  rw [zrn (p:=fun a=>!zdf a) (by unfold Go.maxLen; omega) fun x _=>zJO x,zLF r (by omega)]
  simp only [Option.bind_some]
  rw [zQv _ (by simp; omega)]
  simp only [Option.bind_some]
  have:=va (l:=r.2.2.1) (p:=zdf)
  grind
 ·grind
theorem zC3:∀ {l:List ByteArray},zgR l = true ↔ ∀ i j:Nat,i < j→j < l.length→eqI .str (l.getD i (ze .str)) (l.getD j (ze .str)) = false
 | []=>by simp [zgR]
 | x :: l=>by
  simp only [zgR,Bool.and_eq_true,Bool.not_eq_true',List.any_eq_false,zC3 (l:=l)]
  constructor
  ·rintro ⟨h1,h2⟩ i j hij hj
   cases j with
   | zero=>omega
   | succ j =>
    simp only [List.length_cons] at hj
    cases i with
    | zero =>
     have:=h1 (l.getD j (ze .str)) (zX (by omega))
     simpa using this
    | succ i=>exact h2 i j (by omega) (by omega)
  ·intro h
   refine ⟨fun y hy=>?_,fun i j h1 h2=>h (i + 1) (j + 1) (by omega) (by simp only [List.length_cons]; omega)⟩
   obtain ⟨j,hj,rfl⟩:=List.mem_iff_getElem.1 hy
   have:=h 0 (j + 1) (by omega) (by simp only [List.length_cons]; omega)
   simpa [List.getD,hj] using this
theorem zAC (l:List qu):zfe (l,()) = some (zeN l,()):=by
 rw [zB]
 simp only [zfe,zfd]
 unfold zeN
 by_cases h1:l.length < 1
 ·unfold zT; grind
 by_cases h2:l.length > 8
 ·unfold zT; grind
 have hl:l.length ≤ Go.maxLen:=by unfold Go.maxLen; omega
 have inner:∀ k0 (j:Nat),j < l.length→zcm K0 k0 (l,(j:Int),0) = bif zV (fun i=>!eqI .str (l.getD i qH).1 (l.getD j qH).1) 0 j then k0 (l,wI ((j:Int) + 1)) else some (false,()):=fun k0 j hj =>
  z7 (i0:=0) (n:=j) (by omega) (Nat.zero_le _) (fun i=>(l,(j:Int),i)) (fun k i h3 h4=>by
   simp only [zcl]
   rw [ltT h4,zj (by omega),zj hj,zE,zE,← zsU]
   simp only [cond_true]
   cases eqI .str (l.getD i qH).1 (l.getD j qH).1 <;> rfl) (fun k=>by simp only [zcl]; rw [ltF]; rfl)
 have hloop:zgI K0 (l,0) = bif zV (fun j=>zdf (l.getD j qH) && zV (fun i=>!eqI .str (l.getD i qH).1 (l.getD j qH).1) 0 j) 0 (l.length - 0) then some (true,()) else some (false,()) :=
  z7 (i0:=0) hl (Nat.zero_le _) (fun i=>(l,i)) (fun k i h3 h4=>by
   simp only [zaa]
   rw [ltT h4]
   simp only [zj h4,zE,zm4,Option.bind_some,cond_true]
   rw [inner k i h4]
   unfold zdf zT
   grind) (fun k=>by simp only [zaa]; rw [ltF]; rfl)
 rw [hloop]
 have hw:zT (l.length:Int) 1 8 = true:=by unfold zT; grind
 have key:zV (fun j=>zdf (l.getD j qH) && zV (fun i=>!eqI .str (l.getD i qH).1 (l.getD j qH).1) 0 j) 0 (l.length - 0) = (l.all zdf && zgR (l.map (·.1))):=by
  have hm:∀ i,i < l.length→(l.map (·.1)).getD i (ze .str) = (l.getD i qH).1:=fun i hi=>by simp [List.getD,hi]
  rw [Bool.eq_iff_iff,Bool.and_eq_true,qy,zC3,List.all_eq_true]
  constructor
  ·intro h
   refine ⟨fun x hx=>?_,fun i j h3 h4=>?_⟩
   ·obtain ⟨i,hi,rfl⟩:=List.mem_iff_getElem.1 hx
    have e:l.getD i qH = l[i]:=by simp [List.getD,hi]
    rw [← e]
    have:=h i (by omega) (by omega)
    grind
   ·rw [List.length_map] at h4
    rw [hm i (by omega),hm j h4]
    have:=h j (by omega) (by omega)
    simp only [Bool.and_eq_true,qy] at this
    have:=this.2 i (by omega) (by omega)
    simpa using this
  ·rintro ⟨h3,h4⟩ j h5 h6
   simp only [Bool.and_eq_true,qy]
   refine ⟨h3 _ (zX (by omega)),fun i h7 h8=>?_⟩
   have:=h4 i j (by omega) (by rw [List.length_map]; omega)
   rw [hm i (by omega),hm j (by omega)] at this
   rw [this]; rfl
 rw [key,hw]
 grind
def zms (r:zd):Bool:=zT (r.2.1.length:Int) 1 8 && r.2.1.all fun i=>decide (0 ≤ i) && decide (i < (r.1.length:Int))
theorem zQw (r:zd) (h:r.1.length ≤ 1000):ym (r,()) = some (zms r,()):=by
 rw [zB]
 simp only [ym,zfl,Option.bind_some]
 unfold zms
 by_cases hw:zT (List.length r.2.1:Int) 1 8 = true
 ·have hb:1 ≤ List.length r.2.1 ∧ List.length r.2.1 ≤ 8:=by unfold zT at hw; grind
  have hq:∀ x:Int,(fun z:Int × Unit=>zcj (z.1,some r,())) (x,()) = some (!(decide (0 ≤ x) && decide (x < (r.1.length:Int))),()):=fun x=>by
   show zcj _ = _
   simp only [zcj,zfl,Option.bind_some]
   have:wI (((List.length r.1:Nat):Int) - 1) = (r.1.length:Int) - 1:=by
    unfold wI
    exact IntWalk.i64_in _ (by omega)
   rw [this]
   unfold zT
   grind
  rw [zde (by unfold Go.maxLen; omega) fun x _=>hq x]
  simp only [Option.bind_some]
  have:=va (l:=r.2.1) (p:=fun i=>decide (0 ≤ i) && decide (i < (r.1.length:Int)))
  grind
 ·grind
def zx2 (r:zd):Bool:=zT r.2.2.2.2.2.1 0 24 && (zT r.2.2.2.2.2.2.1 0 48 && (zT r.2.2.2.2.2.2.2.1 1 4 && zT r.2.2.2.2.2.2.2.2.1 1 16))
theorem zQ4 (r:zd):y8 (r,()) = some (zx2 r,()):=by
 simp only [y8,zfl,Option.bind_some,zx2]; grind
def zsV (q:zba):Bool:=zT q.1 0 12 && (zT q.2.1 0 12 && (zT q.2.2.1 0 12 && (zT q.2.2.2.1 0 12 && zT q.2.2.2.2.1 0 12)))
def zkI:Int→List zba→Bool
 | _,[]=>true
 | left,q :: l=>zsV q && (decide (q.2.2.2.2.2.1 ≤ left) && zkI (wU (left - q.2.2.2.2.2.1)) l)
theorem zNF (x:Int):ze9 (x,()) = some (!zT x 0 12,()):=by
 simp only [ze9,zfl,Option.bind_some]; grind
def zhs (n:Nat) (l:List zba):Bool:=decide (l.length = n) && (decide (0 < l.length) && (decide (1 ≤ (l.getD 0 qp).1) && zkI 4611686018427387904 l))
theorem zPU (r:zd) (h:1 ≤ r.1.length ∧ r.1.length ≤ 1000):vJ (r,()) = some (zhs r.1.length r.2.2.2.2.1,()):=by
 rw [zB]
 simp only [vJ,zhi]
 unfold zhs
 by_cases hn:r.2.2.2.2.1.length = r.1.length
 ·have hl:r.2.2.2.2.1.length ≤ Go.maxLen:=by unfold Go.maxLen; omega
  have hloop:zi2 K0 (4611686018427387904,r.2.2.2.2.1,(r.2.2.2.2.1.length:Int),0) = some (zkI 4611686018427387904 r.2.2.2.2.1,()) :=
   zpJ (l:=r.2.2.2.2.1) (α:=Int) qp (fun i s=>(s,r.2.2.2.2.1,(r.2.2.2.2.1.length:Int),i)) (fun rest s=>some (zkI s rest,())) hl (fun k i x rest s hi hx _ hr hk=>by
    simp only [zfg]
    rw [ltT hi,zj hi]
    simp only [zE,hx,cond_true]
    have hnum:zjN (x,()) = some ([x.1,x.2.1,x.2.2.1,x.2.2.2.1,x.2.2.2.2.1],()):=rfl
    rw [hnum]
    simp only [Option.bind_some]
    rw [zde (p:=fun n=>!zT n 0 12) (l:=[x.1,x.2.1,x.2.2.1,x.2.2.2.1,x.2.2.2.2.1]) (by unfold Go.maxLen; simp) fun n _=>zNF n]
    simp only [Option.bind_some,hk,zkI,zsV,List.any_cons,List.any_nil]
    grind) (fun k s=>by simp only [zfg]; rw [ltF]; rfl) _
  rw [hloop,zND]
  have h1:(((List.length r.2.2.2.2.1:Nat):Int) != ((List.length r.1:Nat):Int)) = false:=by rw [ziq]; simp [hn]
  rw [h1]
  grind
 ·have h1:(((List.length r.2.2.2.2.1:Nat):Int) != ((List.length r.1:Nat):Int)) = true:=by rw [ziq]; simp [hn]
  rw [h1]
  grind
theorem zG2 (x:Int):yl (x,()) = some (zT x 0 12,()):=by
 simp only [yl,zT]; grind
theorem zEQ (l:List zba) (hl:l.length ≤ Go.maxLen):zln (l,()) = some (zhs l.length l,()):=by
 rw [zB]
 show zg (yO) K0 (l,4611686018427387904,0) = _
 have hloop:zg (yO) K0 (l,4611686018427387904,0) = some (zkI 4611686018427387904 l && (decide (0 < l.length) && decide (1 ≤ (l.getD 0 qp).1)),()) :=
  zpJ (l:=l) (α:=Int) qp (fun i s=>(l,s,i)) (fun rest s=>some (zkI s rest && (decide (0 < l.length) && decide (1 ≤ (l.getD 0 qp).1)),())) hl (fun k i x rest s hi hx _ hr hk=>by
   simp only [yO]
   rw [ltT hi,zj hi]
   simp only [zE,hx,cond_true,zG2,Option.bind_some,hk,zkI,zsV]
   grind) (fun k s=>by
   simp only [yO]
   rw [ltF,zND]
   simp only [zkI]
   grind) _
 rw [hloop]
 unfold zhs
 grind
end Go.Proofs.YtkcakhbkoeimdaaGreatDoor
end
section
namespace Go.Proofs.YtkcakhbkoeimdaaGreatDoor
open Go.Ev
def zAD (b:Int):Int:=((2 ^ b.toNat:Nat):Int)
def yJ (b:Int):Bool:=decide (0 ≤ b) && decide (b < 64)
theorem zO1 {b:Int} (h:yJ b = true):Go.IntKind.wrap .u64 (1 * 2 ^ (min (Int.toNat b) (Go.IntKind.bits .u64))) = zAD b:=by
 unfold yJ at h
 simp only [Bool.and_eq_true,decide_eq_true_eq] at h
 obtain ⟨n,rfl⟩:=Int.eq_ofNat_of_zero_le h.1
 have hn:n < 64:=by omega
 unfold zAD
 rw [Int.toNat_natCast]
 have hm:min n (Go.IntKind.bits .u64) = n:=Nat.min_eq_left (by show n ≤ 64; omega)
 rw [hm]
 have:∀ n:Fin 64,Go.IntKind.wrap .u64 (1 * 2 ^ n.val) = ((2 ^ n.val:Nat):Int):=by decide +kernel
 exact this ⟨n,hn⟩
theorem zkJ {n:Int} (h:0 ≤ n ∧ n < 18446744073709551616):Go.IntKind.wrap .u64 n = n:=by
  show n % ((2 ^ 64:Nat):Int) = n
  exact Int.emod_eq_of_lt h.1 (by have:((2 ^ 64:Nat):Int) = 18446744073709551616:=by decide
                                  omega)
def zm5 (c:Int) (b:Nat):Bool:=c.toNat.testBit b
theorem has_eq (c b:Int) (hc:0 ≤ c) (hb:0 ≤ b ∧ b < 64):(Int.tmod (Int.fdiv c (2 ^ min (Int.toNat (Go.IntKind.wrap .u64 b)) (Go.IntKind.bits .u64))) 2 == 1) = zm5 c b.toNat:=by
 obtain ⟨n,rfl⟩:=Int.eq_ofNat_of_zero_le hc
 obtain ⟨m,rfl⟩:=Int.eq_ofNat_of_zero_le hb.1
 rw [zkJ (by omega)]
 have hm:min (Int.toNat (m:Int)) (Go.IntKind.bits .u64) = m:=Nat.min_eq_left (by show (m:Int).toNat ≤ 64; omega)
 rw [hm]
 unfold zm5
 have h2:Int.fdiv (n:Int) (2 ^ m) = ((n / 2 ^ m:Nat):Int):=by
  rw [show ((2:Int) ^ m) = ((2 ^ m:Nat):Int) by simp]
  rw [Int.fdiv_eq_ediv_of_nonneg _ (Int.natCast_nonneg _)]
  rfl
 have h3:Int.tmod ((n / 2 ^ m:Nat):Int) 2 = ((n / 2 ^ m % 2:Nat):Int):=by
  rw [Int.tmod_eq_emod_of_nonneg (Int.natCast_nonneg _)]
  rfl
 rw [h2,h3,Int.toNat_natCast,Int.toNat_natCast,Nat.testBit_eq_decide_div_mod_eq]
 have:(((n / 2 ^ m % 2:Nat):Int) == 1) = decide (n / 2 ^ m % 2 = 1):=by
  by_cases h:n / 2 ^ m % 2 = 1
  ·rw [h]; rfl
  ·rw [decide_eq_false h]
   cases hx:(((n / 2 ^ m % 2:Nat):Int) == 1) with
   | false=>rfl
   | true=>exact absurd (Int.ofNat.inj (by simpa using hx)) h
 exact this
def zht (a b:Int):Int:=Go.IntKind.wrap .u64 (BitVec.toNat (BitVec.ofInt (Go.IntKind.bits .u64) a &&& ~~~BitVec.ofInt (Go.IntKind.bits .u64) b):Int)
def orI (a b:Int):Int:=Go.IntKind.wrap .u64 (BitVec.toNat (BitVec.ofInt (Go.IntKind.bits .u64) a ||| BitVec.ofInt (Go.IntKind.bits .u64) b):Int)
def znE:Int→List zP→Int
 | a,[]=>a
 | a,g :: gs=>znE (orI a (zAD g.1)) gs
theorem zmt (n:Nat):BitVec.ofInt (Go.IntKind.bits .u64) (n:Int) = BitVec.ofNat 64 n:=by
 show BitVec.ofInt 64 (n:Int) = BitVec.ofNat 64 n
 apply BitVec.eq_of_toNat_eq
 rw [BitVec.toNat_ofInt,BitVec.toNat_ofNat]
 omega
theorem zQa (x:BitVec 64):Go.IntKind.wrap .u64 (x.toNat:Int) = (x.toNat:Int):=by
 have:=x.isLt
 exact zkJ (by omega)
theorem zQx (a b:Nat) (ha:a < 2 ^ 64) (hb:b < 2 ^ 64):orI (a:Int) (b:Int) = ((a ||| b:Nat):Int):=by
 unfold orI
 rw [zmt,zmt]
 show Go.IntKind.wrap .u64 ((BitVec.ofNat 64 a ||| BitVec.ofNat 64 b).toNat:Int) = _
 rw [zQa,BitVec.toNat_or,BitVec.toNat_ofNat,BitVec.toNat_ofNat,Nat.mod_eq_of_lt ha,Nat.mod_eq_of_lt hb]
theorem zzh (c m:Nat) (hc:c < 2 ^ 64) (hm:m < 2 ^ 64):(zht (c:Int) (m:Int) != 0) = !((List.range' 0 64).all fun i=>!c.testBit i || m.testBit i):=by
 unfold zht
 rw [zmt,zmt]
 show (Go.IntKind.wrap .u64 ((BitVec.ofNat 64 c &&& ~~~BitVec.ofNat 64 m).toNat:Int) != 0) = _
 rw [zQa]
 have hbit:∀ i,i < 64→(BitVec.ofNat 64 c &&& ~~~BitVec.ofNat 64 m).getLsbD i = (c.testBit i && !m.testBit i):=by
  intro i hi
  rw [BitVec.getLsbD_and,BitVec.getLsbD_not,BitVec.getLsbD_ofNat,BitVec.getLsbD_ofNat]
  simp [hi]
 by_cases h:((List.range' 0 64).all fun i=>!c.testBit i || m.testBit i) = true
 ·rw [h]
  have h0:(BitVec.ofNat 64 c &&& ~~~BitVec.ofNat 64 m) = 0#64:=by
   apply BitVec.eq_of_getLsbD_eq
   intro i hi
   rw [hbit i hi]
   have:=List.all_eq_true.1 h i (by simp [List.mem_range'_1]; omega)
   revert this
   cases c.testBit i <;> cases m.testBit i <;> simp
  rw [h0]
  rfl
 ·have h':=h
  simp only [Bool.not_eq_true] at h'
  rw [h']
  have:(BitVec.ofNat 64 c &&& ~~~BitVec.ofNat 64 m).toNat ≠ 0:=by
   intro h0
   apply h
   rw [List.all_eq_true]
   intro i hi
   simp only [List.mem_range'_1] at hi
   have hb:=hbit i (by omega)
   have e0:(BitVec.ofNat 64 c &&& ~~~BitVec.ofNat 64 m) = 0#64:=BitVec.eq_of_toNat_eq (by rw [h0]; rfl)
   rw [e0] at hb
   revert hb
   cases c.testBit i <;> cases m.testBit i <;> simp
  rw [Bool.not_false,bne_iff_ne]
  omega
theorem zPV {b:Int} (h:yJ b = true):∃ n:Nat,b = n ∧ n < 64 ∧ zAD b = ((2 ^ n:Nat):Int):=by
 unfold yJ at h
 simp only [Bool.and_eq_true,decide_eq_true_eq] at h
 obtain ⟨n,rfl⟩:=Int.eq_ofNat_of_zero_le h.1
 exact ⟨n,rfl,by omega,rfl⟩
theorem zC4:∀ (l:List zP) (m:Nat),m < 2 ^ 64→(∀ g ∈ l,yJ g.1 = true)→∃ k:Nat,znE (m:Int) l = (k:Int) ∧ k < 2 ^ 64 ∧ ∀ i:Nat,k.testBit i = (m.testBit i || l.any fun g=>g.1 == (i:Int))
 | [],m,hm,_=>⟨m,rfl,hm,fun i=>by simp⟩
 | g :: l,m,hm,h=>by
  obtain ⟨n,hn,hn64,hv⟩:=zPV (h g (by simp))
  have hp:2 ^ n < 2 ^ 64:=Nat.pow_lt_pow_right (by omega) hn64
  obtain ⟨k,hk,hk64,hb⟩:=zC4 l (m ||| 2 ^ n) (Nat.or_lt_two_pow hm hp) fun g hg=>h g (by simp [hg])
  refine ⟨k,?_,hk64,fun i=>?_⟩
  ·simp only [znE]
   rw [hv,zQx m (2 ^ n) hm hp]
   exact hk
  ·rw [hb i,Nat.testBit_or,Nat.testBit_two_pow,List.any_cons,hn,Bool.or_assoc]
   congr 2
   by_cases e:n = i
   ·subst e; simp
   ·rw [decide_eq_false e]
    symm
    simp only [beq_eq_false_iff_ne,ne_eq]
    omega
def zx3 (l:List zP) (c:Int) (i k:Nat):Bool:=(List.range' i k).all fun b=>!zm5 c b || l.any fun g=>g.1 == (b:Int)
def zxB (labels:List zz) (l:List zP):Bool:=labels.all fun a=>zx3 l a.2.1 0 64
def zo7 (l:List zz):Prop:=∀ a ∈ l,0 ≤ a.2.1 ∧ a.2.1 < 18446744073709551616
theorem zQ5 (labels:List zz) (l:List zP) (hl:zo7 labels) (h:∀ g ∈ l,yJ g.1 = true):(labels.any fun a=>zht a.2.1 (znE 0 l) != 0) = !zxB labels l:=by
 obtain ⟨k,hk,hk64,hb⟩:=zC4 l 0 (by decide) h
 have hk':znE 0 l = (k:Int):=hk
 rw [hk']
 unfold zxB
 have key:∀ ls:List zz,zo7 ls→(ls.any fun a=>zht a.2.1 (k:Int) != 0) = !(ls.all fun a=>zx3 l a.2.1 0 64):=by
  intro ls
  induction ls with
  | nil=>intro _; rfl
  | cons a ls ih =>
   intro ha
   have h1:=ha a (by simp)
   rw [List.any_cons,List.all_cons,ih fun b hb=>ha b (by simp [hb]),Bool.not_and]
   congr 1
   obtain ⟨c,hc⟩:=Int.eq_ofNat_of_zero_le h1.1
   rw [hc,zzh c k (by omega) hk64]
   congr 1
   unfold zx3
   congr 1
   funext i
   rw [hb i]
   unfold zm5
   simp
 exact key labels hl
def ztS (b:Int):zz:=(0,zAD b,())
theorem zJQ (b:Int):zdW (b,()) = some (bif yJ b then (ztS b,0,()) else ((0,0,()),1,())):=by
 simp only [zdW]
 cases h:yJ b with
 | true =>
  have hs:wU (1 * 2 ^ min (Int.toNat b) (Go.IntKind.bits .u64)) = zAD b:=zO1 h
  rw [hs]
  simp only [yJ,Bool.and_eq_true,decide_eq_true_eq] at h
  simp only [ztS]
  grind
 | false =>
  simp only [yJ,Bool.and_eq_false_iff,decide_eq_false_iff_not] at h
  grind
theorem zNG (a:zz) (c:Int):ziW (a,some c,()) = some (zht a.2.1 c != 0,()):=by
 rw [zB]; rfl
theorem zNH (a b:zz):eqI zo a b = eqI zo b a:=by
 rw [zqG,zqG]
 grind
theorem zJR {σ α:Type} {B:(σ→Option (Int × Unit))→σ→Option (Int × Unit)} {l:List α} (d:α) {p:α→Bool} (st:Int→σ) (hl:l.length ≤ Go.maxLen)
 (hin:∀ k (i:Nat) x,i < l.length→l.getD i d = x→x ∈ l→B k (st i) = bif p x then some ((i:Int),()) else k (st (wI (i + 1)))) (hout:∀ k,B k (st l.length) = some (-1,())):zg B K0 (st 0) = some (qK p l 0,()):=by
 have:=zaT (α:=Unit) (B:=B) hl (fun i _=>st i) (fun i _=>some (qK p (l.drop i) i,())) (fun _ _=>True) (fun k i s hi _ h=>?_) (fun k s _=>?_) () trivial
 ·simpa using this
 ·rw [hin k i _ hi rfl (zX hi),h () trivial,yi d hi]
  simp only [qK]
  cases p (l.getD i d) <;> rfl
 ·rw [hout,List.drop_of_length_le (Nat.le_refl _)]; rfl
theorem zPW {σ α ρ:Type} {B:(σ→Option ρ)→σ→Option ρ} {l:List α} (d:α) {p:α→Bool} {fin hit:Option ρ} (st:Int→σ) (hl:l.length ≤ Go.maxLen)
 (hin:∀ k (i:Nat) x,i < l.length→l.getD i d = x→x ∈ l→B k (st i) = bif p x then hit else k (st (wI (i + 1)))) (hout:∀ k,B k (st l.length) = fin):zg B K0 (st 0) = bif l.any p then hit else fin:=by
 have:=jz (B:=B) (p:=fun x=>!p x) (fin:=fin) (bad:=hit) d st hl (fun k i x h1 h2 h3=>by
  rw [hin k i x h1 h2 h3]; cases p x <;> rfl) hout
 rw [this,← List.not_any_eq_all_not]
 cases l.any p <;> rfl
theorem zAE {l:List zz} {a:zz} (hl:l.length ≤ Go.maxLen):zbM (l,a,()) = some (l.any fun y=>eqI zo a y,()):=by
 have h:zeX (l,a,()) = some (qK (fun y=>eqI zo a y) l 0,()) :=
  zJR (B:=y7) (l:=l) qO (fun i=>(l,(l.length:Int),i,a)) hl (fun k i x hi hx _=>by
   simp only [y7]
   rw [ltT hi,zj hi,zE,hx]; rfl) (fun k=>by simp only [y7]; rw [ltF]; rfl)
 rw [zB]
 simp only [zbM,h,Option.bind_some]
 rw [zzF (p:=fun y=>eqI zo a y) l 0 (Int.le_refl 0)]
theorem zFB {α:Type} {p:α→Bool}:∀ (xs:List α) (i:Int),0 ≤ i→decide (qK p xs i < 0) = !xs.any p
 | [],_,_=>rfl
 | x :: xs,i,h=>by
  have ih:=zFB (p:=p) xs (i + 1) (by omega)
  simp only [qK,List.any_cons]
  by_cases hp:p x = true
  ·simp [hp]; omega
  ·simp only [Bool.not_eq_true] at hp
   simpa [hp] using ih
theorem zJS (b:Int) (h:yJ b = true):zgD (b,()) = some (ztS b,()):=by
 simp only [zgD]
 have hs:=zO1 h
 simp only [yJ,Bool.and_eq_true,decide_eq_true_eq] at h
 have hw:wU b = b:=zkJ (by omega)
 rw [hw,decide_eq_false (by omega),cond_false]
 exact congrArg (fun z:Int=>some (((0,z,()),()):zz × Unit)) hs
theorem zG3 {l:List zz} {a:zz} (hl:l.length ≤ Go.maxLen):ziw (l,a,()) = some (qK (fun y=>eqI zo y a) l 0,()) :=
 zJR (B:=zcd) (l:=l) qO (fun i=>(l,i,a)) hl (fun k i x hi hx _=>by
  simp only [zcd]
  rw [ltT hi,zj hi,zE,hx]; rfl) (fun k=>by simp only [zcd]; rw [ltF]; rfl)
theorem zLG {l:List zP} {b:Int} (hl:l.length ≤ Go.maxLen):zq8 (l,b,()) = some (l.any fun g=>(g.1:Int) == b,()):=by
 rw [zB]
 exact zPW (B:=zfq) (l:=l) qr (fun i=>(l,b,i)) hl (fun k i x hi hx _=>by
  simp only [zfq]
  rw [ltT hi,zj hi,zE,hx]; rfl) (fun k=>by simp only [zfq]; rw [ltF]; rfl)
theorem zro (a:zz) (b:Int) (ha:0 ≤ a.2.1) (hb:0 ≤ b ∧ b < 64):zfP (a,b,()) = some (zm5 a.2.1 b.toNat,()):=by
 rw [zB]
 simp only [zfP]
 have hh:=has_eq a.2.1 b ha hb
 have hw:wU b = b:=zkJ (by omega)
 rw [hw,decide_eq_false (by omega),cond_false,← hh]
 have hw':Go.IntKind.wrap .u64 b = b:=hw
 rw [hw']
def zAF (labels:List zz) (n:Nat) (last:Int) (g:zP):Bool:=yJ g.1 && (decide (last < g.1) && (zT g.2.1 0 ((n:Int) - 1) && labels.any fun y=>eqI zo (ztS g.1) y))
def zgS (labels:List zz) (n:Nat):Int→List zP→Bool
 | _,[]=>true
 | last,g :: gs=>zAF labels n last g && zgS labels n g.1 gs
def znL (labels:List zz) (n:Nat) (l:List zP):Bool:=decide (l.length ≤ 8) && (zgS labels n (-1) l && zxB labels l)
theorem zFC {labels:List zz} {m:Nat}:∀ (l:List zP) (last:Int),zgS labels m last l = true→∀ g ∈ l,yJ g.1 = true
 | [],_,_,g,hg=>by cases hg
 | a :: l,last,h,g,hg=>by
  simp only [zgS,zAF,Bool.and_eq_true] at h
  rcases List.mem_cons.1 hg with rfl | hg
  ·exact h.1.1
  ·exact zFC l a.1 h.2 g hg
theorem zPX (r:zd) (h1:r.1.length ≤ Go.maxLen) (h2:r.2.2.1.length ≤ 1000000) (h3:r.2.2.2.1.length ≤ Go.maxLen) (hL:zo7 r.1):vI (r,()) = some (znL r.1 r.2.2.1.length r.2.2.2.1,()):=by
 have hloop:vI (r,()) = some (zgS r.1 r.2.2.1.length (-1) r.2.2.2.1 && (decide (r.2.2.2.1.length ≤ 8) && !(r.1.any fun a=>zht a.2.1 (znE 0 r.2.2.2.1) != 0)),()) :=
  zpJ (B := zbo) (l:=r.2.2.2.1) (α:=Int × Int) qr (fun i s=>(s.1,r.2.2.2.1,(r.2.2.2.1.length:Int),i,r,s.2))
   (fun rest s=>some (zgS r.1 r.2.2.1.length s.1 rest && (decide (r.2.2.2.1.length ≤ 8) && !(r.1.any fun a=>zht a.2.1 (znE s.2 rest) != 0)),())) h3 (fun k i x rest s hi hx _ hr hk=>by
    simp only [zbo]
    have hw:wI (((List.length r.2.2.1:Nat):Int) - 1) = (r.2.2.1.length:Int) - 1:=by
     unfold wI
     exact IntWalk.i64_in _ (by omega)
    rw [ltT hi,zj hi,hw]
    simp only [zE,hx,cond_true,zJQ,Option.bind_some,zgS,zAF,znE]
    cases hb:yJ x.1 with
    | false=>rfl
    | true =>
     simp only [cond_true,zfl,Option.bind_some,Bool.true_and,zAE h1]
     have hk':=hk (x.1,orI s.2 (zAD x.1))
     have e:decide (s.1 < x.1) = !decide ((x.1:Int) ≤ s.1):=by grind
     rw [e]
     cases decide ((x.1:Int) ≤ s.1) with
     | true=>rfl
     | false =>
      cases zT x.2.1 0 ((r.2.2.1.length:Int) - 1) with
      | false=>rfl
      | true =>
       cases (r.1.any fun y=>eqI zo (ztS x.1) y) with
       | false=>rfl
       | true=>exact hk') (fun k s=>by
    simp only [zbo]
    rw [ltF]
    simp only [cond_false,zgS,znE,Bool.true_and]
    rw [zkE (p:=fun a=>zht a.2.1 s.2 != 0) h1 fun x _=>zNG x s.2,Option.bind_some]
    grind) (-1,0)
 rw [hloop]
 unfold znL
 cases hr:zgS r.1 r.2.2.1.length (-1) r.2.2.2.1 with
 | false=>simp
 | true =>
  rw [zQ5 r.1 r.2.2.2.1 hL (zFC _ _ hr)]
  simp
theorem zC5 {labels:List zz} {n:Nat}:∀ {l:List zP} {last:Int},zgS labels n last l = zV (fun i=>zAF labels n (if i = 0 then last else (l.getD (i - 1) qr).1) (l.getD i qr)) 0 l.length:=by
 intro l
 induction l with
 | nil=>intro last; rfl
 | cons a l ih =>
  intro last
  simp only [zgS,List.length_cons,zV,ih]
  rw [Bool.eq_iff_iff]
  simp only [Bool.and_eq_true,qy]
  constructor
  ·rintro ⟨h1,h2⟩
   refine ⟨h1,fun j h3 h4=>?_⟩
   obtain ⟨i,rfl⟩:∃ i,j = i + 1:=⟨j - 1,by omega⟩
   have:=h2 i (by omega) (by omega)
   rw [if_neg (by omega)]
   by_cases e:i = 0
   ·subst e; simpa using this
   ·rw [if_neg e] at this
    obtain ⟨m,rfl⟩:∃ m,i = m + 1:=⟨i - 1,by omega⟩
    exact this
  ·rintro ⟨h1,h2⟩
   refine ⟨h1,fun j h3 h4=>?_⟩
   have:=h2 (j + 1) (by omega) (by omega)
   rw [if_neg (by omega)] at this
   by_cases e:j = 0
   ·subst e; simpa using this
   ·rw [if_neg e]
    obtain ⟨m,rfl⟩:∃ m,j = m + 1:=⟨j - 1,by omega⟩
    exact this
theorem zER (l:List zP) (labels:List zz) (n:Nat) (h1:labels.length ≤ Go.maxLen) (hL:zo7 labels):zhg (l,labels,(n:Int),()) = some (znL labels n l,()):=by
 rw [zB]
 simp only [zhg,zhf]
 unfold znL
 by_cases h8:l.length ≤ 8
 ·have hl:l.length ≤ Go.maxLen:=by unfold Go.maxLen; omega
  have bits:∀ k1 (j:Nat),j < labels.length→zg (yN k1) K0 (l,labels,(j:Int),0) = bif zx3 l (labels.getD j qO).2.1 0 64 then k1 (l,labels,wI ((j:Int) + 1)) else some (false,()):=fun k1 j hj=>by
   have hc:=(hL _ (zX (d:=qO) hj)).1
   have:=zFv (B:=yN k1) (n:=64) (by unfold Go.maxLen; omega) (p:=fun b=>!zm5 (labels.getD j qO).2.1 b || l.any fun g=>(g.1:Int) == (b:Int)) (fin:=k1 (l,labels,wI ((j:Int) + 1))) (bad:=some (false,())) (fun i=>(l,labels,(j:Int),i)) (fun k i hi=>by
    simp only [yN]
    rw [decide_eq_true (by omega),zj hj,zE,zro _ _ hc (by omega),zLG hl,Int.toNat_natCast]
    simp only [cond_true,Option.bind_some]
    grind) (fun k=>by
    simp only [yN]
    rfl)
   rw [this]
   unfold zx3
   rw [List.range_eq_range']
  have cover:zff K0 (l,labels,0) = some (zxB labels l,()):=by
   rw [zB]
   exact jz (l:=labels) qO (p:=fun a=>zx3 l a.2.1 0 64) (fun i=>(l,labels,i)) h1 (fun k i x hi hx _=>by
    simp only [zbk]
    rw [ltT hi,cond_true]
    refine (bits k i hi).trans ?_
    rw [hx]) (fun k=>by simp only [zbk]; rw [ltF]; rfl)
  have hloop:zi1 K0 (l,labels,(n:Int),0) = bif zV (fun i=>zAF labels n (if i = 0 then -1 else (l.getD (i - 1) qr).1) (l.getD i qr)) 0 (l.length - 0) then some (zxB labels l,()) else some (false,()) :=
   z7 (i0:=0) hl (Nat.zero_le _) (fun i=>(l,labels,(n:Int),i)) (fun k i h3 h4=>by
    simp only [zbl]
    rw [ltT h4]
    simp only [zj h4,cond_true,zE,zAF]
    by_cases hb:yJ (l.getD i qr).1 = true
    ·rw [zJS _ hb,Option.bind_some,zG3 h1,Option.bind_some,hb]
     have ha:(labels.any fun y=>eqI zo y (ztS (l.getD i qr).1)) = labels.any fun y=>eqI zo (ztS (l.getD i qr).1) y:=by congr 1; funext y; exact zNH _ _
     rw [zFB labels 0 (Int.le_refl 0),ha]
     simp only [yJ,Bool.and_eq_true,decide_eq_true_eq] at hb
     by_cases hi0:i = 0
     ·subst hi0
      unfold zT
      grind
     ·rw [zji (by omega) (by unfold Go.maxLen; omega),zj (by omega),Int.toNat_natCast,if_neg hi0]
      unfold zT
      grind
    ·simp only [Bool.not_eq_true] at hb
     rw [hb]
     simp only [yJ,Bool.and_eq_false_iff,decide_eq_false_iff_not] at hb
     grind) (fun k=>by
    simp only [zbl]
    rw [ltF,cond_false]
    exact cover)
  rw [hloop,zC5]
  grind
 ·grind
end Go.Proofs.YtkcakhbkoeimdaaGreatDoor
end
