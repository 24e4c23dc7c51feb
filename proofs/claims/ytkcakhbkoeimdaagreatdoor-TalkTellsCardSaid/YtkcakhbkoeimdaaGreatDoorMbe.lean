import Derived.Test.YtkcakhbkoeimdaaGreatDoorMbd
set_option linter.unusedVariables false
set_option linter.unusedSimpArgs false
section
namespace Go.Proofs.YtkcakhbkoeimdaaGreatDoor
open Go.Ev
noncomputable section
abbrev zex:Type:=(List zU) × (List zU) × Int
abbrev zE0:zex→St:=fun (v0,v1,v5)=>St.mk [(0,.dat (.sl zz) v0),(1,.dat (.sl zz) v1),(5,.dat tI v5)] []
def zey (k0:zex→Option (Bool × Unit)):zex→Option (Bool × Unit):=fun (v0,v1,v5) =>
 bif decide (v5 < ((List.length v0):Int)) then inR v5 ((List.length v0):Int) (inR v5 ((List.length v1):Int) (bif !eqI zz (ix ya v0 v5) (ix ya v1 v5) then some (false,()) else k0 (v0,v1,wI (v5 + 1)))) else some (true,())
abbrev zsU (K:Nat):zex→Option (Bool × Unit):=zg zey K
theorem zE1 (K:Nat):∀ n,evV Es0 K Tryz.f119 0 (ch [.bool]) [1,1,0,1,0] [] zE0 n = zg zey n:=zm fun n0 (v0,v1,v5)=>by kernel_rfl
def zoZ (L0:zex→Option (Bool × Unit)):((List zU) × ((List zU) × Unit))→Option (Bool × Unit):=fun (x0,x1,()) =>
 bif ((List.length x0):Int) != ((List.length x1):Int) then some (false,()) else L0 (x0,x1,0)
def zo0:((List zU) × (List zU) × Unit)→Option (Bool × Unit):=zoZ (zsU K0)
abbrev zxs:Fun:=⟨119,(ch [(.sl zz),(.sl zz)]),(ch [.bool]),0,zo0⟩
theorem zJ7:Sq zxs:=ml0 (d:=false) (S:=fun K=>zoZ (zsU K)) Tryz.func119 (by kernel_rfl) (fun K=>tr1 (T:=zoZ) (zE1 K K) fun (x0,x1,())=>by kernel_rfl) rfl
abbrev zez:Type:=(List zu) × (List zu) × Int
abbrev zE2:zez→St:=fun (v0,v1,v5)=>St.mk [(0,.dat (.sl zw) v0),(1,.dat (.sl zw) v1),(5,.dat tI v5)] []
def zeA (k0:zez→Option (Bool × Unit)):zez→Option (Bool × Unit):=fun (v0,v1,v5) =>
 bif decide (v5 < ((List.length v0):Int)) then inR v5 ((List.length v0):Int) (inR v5 ((List.length v1):Int) (bif !eqI zw (ix zY v0 v5) (ix zY v1 v5) then some (false,()) else k0 (v0,v1,wI (v5 + 1)))) else some (true,())
abbrev zsV (K:Nat):zez→Option (Bool × Unit):=zg zeA K
theorem zE3 (K:Nat):∀ n,evV Es0 K Tryz.f120 0 (ch [.bool]) [1,1,0,1,0] [] zE2 n = zg zeA n:=zm fun n0 (v0,v1,v5)=>by kernel_rfl
def zo1 (L0:zez→Option (Bool × Unit)):((List zu) × ((List zu) × Unit))→Option (Bool × Unit):=fun (x0,x1,()) =>
 bif ((List.length x0):Int) != ((List.length x1):Int) then some (false,()) else L0 (x0,x1,0)
def zo2:((List zu) × (List zu) × Unit)→Option (Bool × Unit):=zo1 (zsV K0)
abbrev zxt:Fun:=⟨120,(ch [(.sl zw),(.sl zw)]),(ch [.bool]),0,zo2⟩
theorem zJ8:Sq zxt:=ml0 (d:=false) (S:=fun K=>zo1 (zsV K)) Tryz.func120 (by kernel_rfl) (fun K=>tr1 (T:=zo1) (zE3 K K) fun (x0,x1,())=>by kernel_rfl) rfl
abbrev L1:List Fun:=zoz :: zoA :: zsm :: zqo :: zoB :: zqp :: zqq :: zqr :: zqs :: zoC :: zuO :: zsn :: zuP :: zso :: zj7 :: zqt :: zmK :: zwV :: zmL :: zwW :: zwX :: zlk :: zwY :: zir :: znM :: zwZ :: zw0 :: zoI :: zoJ :: zqu :: zlm :: zkc :: zln :: zw3 :: zw4 :: zsv :: zlo :: zlp :: zCv :: zCw :: zlq :: zGz :: zw5 :: zh3 :: zit :: zkf :: zCx :: zw6 :: zw7 :: zsC :: znN :: zGA :: zCy :: zuQ :: zuR :: zqv :: zlr :: zkg :: zls :: zkh :: znO :: zzu :: zqw :: zmP :: zqx :: zmQ :: znP :: zmR :: zmS :: zlt :: zqy :: zoM :: zxc :: zoN :: zuS :: zzv :: zuT :: zsD :: zsE :: zxd :: zxe :: zxf :: zuU :: zzw :: zuV :: zxg :: zuW :: zzx :: zzy :: zuY :: zuZ :: zu0 :: zzz :: zzA :: zzB :: zsF :: zu2 :: zzC :: zu3 :: zzD :: zzE :: zzF :: zzG :: zzH :: zu4 :: zxh :: zu5 :: zxi :: zsG :: zJZ :: zsH :: zsI :: zGB :: zko :: zoP :: zqB :: zsK :: zsM :: zzI :: zva :: zvc :: zxk :: zqC :: zmU :: zxm :: zzK :: zxn :: zxo :: zxp :: zxq :: znQ :: znR :: zxr :: zxs :: zxt :: L0
theorem h1:Sds Tryz.prog E0 L1:=⟨zAC,zAD,zEz,zCo,zAE,zCp,zCq,zCr,zCs,zAF,zGU,zEA,zGV,zEB,zuh,zCt,zwU,zJH,zmM,zJI,zJJ,zv3,zJK,zrF,zyT,zJL,zJM,zAG,zAH,zCu,zv6,zuk,zv7,zJN,zJO,zEG,zv8,zv9,zOm,zOn,zwa,zPS,zJP,zpX,zrI,zum,zOo,zJQ,zJR,zEH,zyU,zPT,zOp,zGW,zGX,zCz,zwb,zun,zwc,zuo,zyV,zLZ,zCA,zw8,zCB,zw9,zyW,zxa,zxb,zwd,zCC,zAI,zJS,zAJ,zGY,zL0,zGZ,zEI,zEJ,zJT,zJU,zJV,zG0,zL1,zG1,zJW,zG2,zL2,zL3,zG5,zG6,zG7,zL4,zL5,zL6,zEK,zHa,zL7,zHb,zL8,zL9,zMa,zMb,zMc,zHc,zJX,zHd,zJY,zEL,zJG,zEM,zEN,zPU,zur,zAM,zCJ,zEO,zEP,zMd,zHg,zHh,zJ0,zCK,zxl,zJ1,zMe,zJ2,zJ3,zJ4,zJ5,zyX,zyY,zJ6,zJ7,zJ8,h0⟩
theorem ms1 {d:Bool} {F:Fun} {f:Go.Func} {K:Nat} (hf:Tryz.prog.funcs[F.id]? = some f) (ho:jJ f = true) (h:evF (En E0 d L1) K f F.md F.a F.r = F.spec):Sd Tryz.prog E0 F:=mkS h1 hf ho h
theorem ml1 {d:Bool} {F:Fun} {f:Go.Func} {S:Nat→F.a.I→Option F.r.I} (hf:Tryz.prog.funcs[F.id]? = some f) (ho:jJ f = true) (h:∀ K,evF (En E0 d L1) K f F.md F.a F.r = S K) (e:S K0 = F.spec):Sd Tryz.prog E0 F:=mkS h1 hf ho ((h K0).trans e)
abbrev Es1:Env:=En E0 false L1
abbrev Ed1:Env:=En E0 true L1
abbrev zcA:Type:=Int × Int × Int × Int × List zp × Nat × List (List Int) × Nat × List zr × List zI × List Int × List zp × Nat × List (List Int) × Nat × List zr × List zI × List Int
abbrev zqD:zcA→St:=fun (v44,v45,o0_0,o1_0,o2,c2,o3,c3,o4,o5,o6,o7,c7,o8,c8,o9,o10,o11)=>St.mk [(1,.bp 0 []),(2,.bp 1 []),(43,.ow 2),(44,.dat tI v44),(45,.dat tI v45)] [.bx (.fld (.pair tU (.pair (.sl zv) (.pair (.sl (.sl tI)) (.pair (.sl zq) (.pair (.sl zx) (.pair (.sl tI) .unit)))))) [.dat tU o0_0,.ow 2,.ow 3,.ow 4,.ow 5,.ow 6]) false,.bx (.fld (.pair tU (.pair (.sl zv) (.pair (.sl (.sl tI)) (.pair (.sl zq) (.pair (.sl zx) (.pair (.sl tI) .unit)))))) [.dat tU o1_0,.ow 7,.ow 8,.ow 9,.ow 10,.ow 11]) false,.drow zv o2 c2,.drow (.sl tI) o3 c3,.row zq o4 false,.row zx o5 false,.row tI o6 false,.drow zv o7 c7,.drow (.sl tI) o8 c8,.row zq o9 false,.row zx o10 false,.row tI o11 false]
abbrev zcC:Type:=Int × Int × Int × (List zp) × Int × List (List Int) × Nat × List zr × List zI × List Int × List zp × Nat × List (List Int) × Nat × List zr × List zI × List Int
abbrev zCL:zcC→St:=fun (v25,v26,o0_0,o0_1,o1_0,o2,c2,o3,o4,o5,o6,c6,o7,c7,o8,o9,o10)=>St.mk [(1,.bp 0 []),(2,.bp 1 []),(24,.ow 2),(25,.dat tI v25),(26,.dat tI v26)] [.bx (.fld (.pair tU (.pair (.sl zv) (.pair (.sl (.sl tI)) (.pair (.sl zq) (.pair (.sl zx) (.pair (.sl tI) .unit)))))) [.dat tU o0_0,.dat (.sl zv) o0_1,.ow 2,.ow 3,.ow 4,.ow 5]) false,.bx (.fld (.pair tU (.pair (.sl zv) (.pair (.sl (.sl tI)) (.pair (.sl zq) (.pair (.sl zx) (.pair (.sl tI) .unit)))))) [.dat tU o1_0,.ow 6,.ow 7,.ow 8,.ow 9,.ow 10]) false,.drow (.sl tI) o2 c2,.row zq o3 false,.row zx o4 false,.row tI o5 false,.drow zv o6 c6,.drow (.sl tI) o7 c7,.row zq o8 false,.row zx o9 false,.row tI o10 false]
def zcD (k1:zcA→Option (zd × Unit)):zcA→Option (zd × Unit):=fun (v44,v45,o0_0,o1_0,o2,c2,o3,c3,o4,o5,o6,o7,c7,o8,c8,o9,o10,o11) =>
 bif decide (v45 < v44) then inR v45 ((List.length o2):Int) (bif decide (c2 ≤ Int.toNat v45) then Option.bind (zj4 ((ix zf o2 v45).1,())) fun q6=>Option.bind (zj5 ((ix zf o2 v45).2.1,())) fun q7=>Option.bind (zj6 ((ix zf o2 v45).2.2.1,())) fun q8=>Option.bind (zcp ((ix zf o2 v45).2.2.2.1,())) fun q9=>Option.bind (zbn ((ix zf o2 v45).2.2.2.2.1,())) fun q10=>Option.bind (znf ((ix zf o2 v45).2.2.2.2.2.1,())) fun q11=>Option.bind (zlK ((ix zf o2 v45).2.2.2.2.2.2.1,())) fun q12=>inR v45 ((List.length o2):Int) (bif decide (Int.toNat v45 = c2) then k1 (v44,wI (v45 + 1),o0_0,o1_0,List.set o2 (Int.toNat v45) (q6.1,q7.1,q8.1,q9.1,q10.1,q11.1,q12.1,(ix zf o2 v45).2.2.2.2.2.2.2.1,(ix zf o2 v45).2.2.2.2.2.2.2.2.1,()),c2 + 1,o3,c3,o4,o5,o6,o7,c7,o8,c8,o9,o10,o11) else none) else none) else bif decide (c2 = List.length o2) then bif decide (c3 = List.length o3) then some ((o0_0,o2,o3,o4,o5,o6,()),()) else none else none
abbrev zcE (K:Nat):zcA→Option (zd × Unit):=zg zcD K
theorem zCM (K:Nat):∀ n,evV Ed1 K Tryz.f7 3 (ch [zo]) [1,1,1,1,1,0,1,0] [] zqD n = zg zcD n:=zm fun n1 (v44,v45,o0_0,o1_0,o2,c2,o3,c3,o4,o5,o6,o7,c7,o8,c8,o9,o10,o11)=>by kernel_rfl
def zar (L1:zcA→Option (zd × Unit)) (k0:zcC→Option (zd × Unit)):zcC→Option (zd × Unit):=fun (v25,v26,o0_0,o0_1,o1_0,o2,c2,o3,o4,o5,o6,c6,o7,c7,o8,o9,o10) =>
 bif decide (v26 < v25) then inR v26 ((List.length o2):Int) (bif decide (c2 ≤ Int.toNat v26) then Option.bind (yR (List.getD o2 (Int.toNat v26) ([]:List Int),())) fun q4=>inR v26 ((List.length o2):Int) (bif decide (Int.toNat v26 = c2) then k0 (v25,wI (v26 + 1),o0_0,o0_1,o1_0,List.set o2 (Int.toNat v26) q4.1,c2 + 1,o3,o4,o5,o6,c6,o7,c7,o8,o9,o10) else none) else none) else Option.bind (zjo (o0_1,())) fun q5=>L1 (((List.length q5.1):Int),0,o0_0,o1_0,q5.1,0,o2,c2,o3,o4,o5,o6,c6,o7,c7,o8,o9,o10)
abbrev zkq (K:Nat):zcC→Option (zd × Unit):=zg (fun k0=>zar (zcE K) k0) K
theorem zCN (K:Nat):∀ n,evV Ed1 K Tryz.f7 3 (ch [zo]) [1,1,1,0,1,0] [] zCL n = zg (fun k0=>zar (zcE K) k0) n:=qC (B:=fun L1 k0=>zar L1 k0) (V1:=fun n0=>evV Ed1 K Tryz.f7 3 (ch [zo]) [1,1,1,1,1,0,1,0] [] zqD K) (W1:=fun k0=>(zcE K)) (fun n0=>zCM K K) fun n0 (v25,v26,o0_0,o0_1,o1_0,o2,c2,o3,o4,o5,o6,c6,o7,c7,o8,o9,o10)=>by kernel_rfl
def zi1 (L0:zcC→Option (zd × Unit)):(zd × Unit)→Option (zd × Unit):=fun (x0,()) =>
 Option.bind (zbm (x0.2.2.2.1,())) fun q0=>Option.bind (zjn (x0.2.2.2.2.1,())) fun q1=>Option.bind (yR (x0.2.2.2.2.2.1,())) fun q2=>Option.bind (zj3 (x0.2.2.1,())) fun q3=>L0 (((List.length q3.1):Int),0,x0.1,x0.2.1,0,q3.1,0,q0.1,q1.1,q2.1,[],0,[],0,[],[],[])
def je:(zd × Unit)→Option (zd × Unit):=zi1 (zkq K0)
abbrev zvd:Fun:=⟨7,(ch [zo]),(ch [zo]),3,je⟩
theorem zHi:Sq zvd:=ml1 (d:=true) (S:=fun K=>zi1 (zkq K)) Tryz.func7 (by kernel_rfl) (fun K=>tr1 (T:=zi1) (zCN K K) fun (x0,())=>by kernel_rfl) rfl
def zfz:(zt × Unit)→Option (Bool × Unit):=fun (x0,()) =>
 Option.bind (ziS (x0,())) fun q0=>bif q0.1 then some (false,()) else some (true,())
abbrev zo3:Fun:=⟨299,(ch [zj]),(ch [.bool]),0,zfz⟩
theorem zAN:Sq zo3:=ms1 (d:=false) (K:=0) Tryz.func299 (by kernel_rfl) (funext fun (x0,())=>by kernel_rfl)
def yw:((List zt) × ((Option ((zt × Unit)→Option (Bool × Unit))) × Unit))→Option (Bool × Unit):=fun (x0,x1,()) =>
 Option.bind (zaT (x0,x1,())) fun q0=>bif decide (q0.1 ≥ 0) then some (true,()) else some (false,())
abbrev zh4:Fun:=⟨300,(ch [(.sl zj),(.fn (ch [zj]) (ch [.bool]))]),(ch [.bool]),0,yw⟩
theorem zpY:Sq zh4:=ms1 (d:=false) (K:=0) Tryz.func300 (by kernel_rfl) (funext fun (x0,x1,())=>by kernel_rfl)
def zaJ:(Int × (Int × Unit))→Option (Int × Unit):=fun (x0,x1,()) =>
 Option.bind (zaq (x0,())) fun q0=>bif q0.1 then Option.bind (zaq (x1,())) fun q1=>bif q1.1 then some (0,()) else some ((-1),()) else Option.bind (zaq (x1,())) fun q2=>bif q2.1 then some (1,()) else bif decide (x0 < x1) then some ((-1),()) else bif decide (x0 > x1) then some (1,()) else some (0,())
abbrev znS:Fun:=⟨342,(ch [tI,tI]),(ch [tI]),0,zaJ⟩
theorem zyZ:Sq znS:=ms1 (d:=false) (K:=0) Tryz.func342 (by kernel_rfl) (funext fun (x0,x1,())=>by kernel_rfl)
def yh:(Int × (Int × Unit))→Option (Int × Unit):=fun (x0,x1,()) =>
 Option.bind (vI (x0,())) fun q0=>bif q0.1 then Option.bind (vI (x1,())) fun q1=>bif q1.1 then some (0,()) else some ((-1),()) else Option.bind (vI (x1,())) fun q2=>bif q2.1 then some (1,()) else bif decide (x0 < x1) then some ((-1),()) else bif decide (x0 > x1) then some (1,()) else some (0,())
abbrev zkr:Fun:=⟨341,(ch [tU,tU]),(ch [tI]),0,yh⟩
theorem zus:Sq zkr:=ms1 (d:=false) (K:=0) Tryz.func341 (by kernel_rfl) (funext fun (x0,x1,())=>by kernel_rfl)
def zcF:(Int × ((Option za) × Unit))→Option (Bool × Unit):=fun (x0,x1,()) =>
 Option.bind x1 fun q0=>Option.bind (qq (x0,0,wI (((List.length q0.1):Int) - 1),())) fun q1=>bif q1.1 then some (false,()) else some (true,())
abbrev zqE:Fun:=⟨302,(ch [tI,(.ptr zl)]),(ch [.bool]),0,zcF⟩
theorem zCO:Sq zqE:=ms1 (d:=false) (K:=0) Tryz.func302 (by kernel_rfl) (funext fun (x0,x1,())=>by kernel_rfl)
def qv:((List Int) × ((Option ((Int × Unit)→Option (Bool × Unit))) × Unit))→Option (Bool × Unit):=fun (x0,x1,()) =>
 Option.bind (vJ (x0,x1,())) fun q0=>bif decide (q0.1 ≥ 0) then some (true,()) else some (false,())
abbrev zjQ:Fun:=⟨249,(ch [(.sl tI),(.fn (ch [tI]) (ch [.bool]))]),(ch [.bool]),0,qv⟩
theorem zsW:Sq zjQ:=ms1 (d:=false) (K:=0) Tryz.func249 (by kernel_rfl) (funext fun (x0,x1,())=>by kernel_rfl)
def vx:((List Int) × ((Option ((Int × Unit)→Option (Bool × Unit))) × Unit))→Option (Bool × Unit):=fun (x0,x1,()) =>
 Option.bind (zbV (x0,x1,())) fun q0=>bif decide (q0.1 ≥ 0) then some (true,()) else some (false,())
abbrev ziB:Fun:=⟨221,(ch [(.sl (.int .u8)),(.fn (ch [(.int .u8)]) (ch [.bool]))]),(ch [.bool]),0,vx⟩
theorem zrV:Sq ziB:=ms1 (d:=false) (K:=0) Tryz.func221 (by kernel_rfl) (funext fun (x0,x1,())=>by kernel_rfl)
def zhw:(Int × Unit)→Option (Bool × Unit):=fun (x0,()) =>
 Option.bind (zgX (x0,())) fun q0=>bif q0.1 then some (true,()) else Option.bind (zka (x0,())) fun q1=>bif q1.1 then some (true,()) else some (false,())
abbrev zsX:Fun:=⟨324,(ch [(.int .u8)]),(ch [.bool]),0,zhw⟩
theorem zE4:Sq zsX:=ms1 (d:=false) (K:=0) Tryz.func324 (by kernel_rfl) (funext fun (x0,())=>by kernel_rfl)
def za0:((List qD) × ((Option ((qD × Unit)→Option (Bool × Unit))) × Unit))→Option (Bool × Unit):=fun (x0,x1,()) =>
 Option.bind (zaa (x0,x1,())) fun q0=>bif decide (q0.1 ≥ 0) then some (true,()) else some (false,())
abbrev zgx:Fun:=⟨304,(ch [(.sl qH),(.fn (ch [qH]) (ch [.bool]))]),(ch [.bool]),0,za0⟩
theorem zoa:Sq zgx:=ms1 (d:=false) (K:=0) Tryz.func304 (by kernel_rfl) (funext fun (x0,x1,())=>by kernel_rfl)
def zb2:((List zt) × (zt × Unit))→Option (Bool × Unit):=fun (x0,x1,()) =>
 Option.bind (zbp (x0,x1,())) fun q0=>bif decide (q0.1 ≥ 0) then some (true,()) else some (false,())
abbrev zlw:Fun:=⟨307,(ch [(.sl zj),zj]),(ch [.bool]),0,zb2⟩
theorem zwi:Sq zlw:=ms1 (d:=false) (K:=0) Tryz.func307 (by kernel_rfl) (funext fun (x0,x1,())=>by kernel_rfl)
def zfA:(Int × Unit)→Option (Bool × Unit):=fun (x0,()) =>
 Option.bind (qq (x0,0,12,())) fun q0=>bif q0.1 then some (false,()) else some (true,())
abbrev zo4:Fun:=⟨309,(ch [tI]),(ch [.bool]),0,zfA⟩
theorem zAO:Sq zo4:=ms1 (d:=false) (K:=0) Tryz.func309 (by kernel_rfl) (funext fun (x0,())=>by kernel_rfl)
def zah:(za × Unit)→Option (Bool × Unit):=fun (x0,()) =>
 Option.bind (qq (x0.2.2.2.2.2.1,0,24,())) fun q0=>bif q0.1 then Option.bind (qq (x0.2.2.2.2.2.2.1,0,48,())) fun q1=>bif q1.1 then Option.bind (qq (x0.2.2.2.2.2.2.2.1,1,4,())) fun q2=>bif q2.1 then Option.bind (qq (x0.2.2.2.2.2.2.2.2.1,1,16,())) fun q3=>bif q3.1 then some (true,()) else some (false,()) else some (false,()) else some (false,()) else some (false,())
abbrev zxu:Fun:=⟨219,(ch [zl]),(ch [.bool]),0,zah⟩
theorem zJ9:Sq zxu:=ms1 (d:=false) (K:=0) Tryz.func219 (by kernel_rfl) (funext fun (x0,())=>by kernel_rfl)
def j8:((List zp) × ((Option ((zp × Unit)→Option (Bool × Unit))) × Unit))→Option (Bool × Unit):=fun (x0,x1,()) =>
 Option.bind (zaV (x0,x1,())) fun q0=>bif decide (q0.1 ≥ 0) then some (true,()) else some (false,())
abbrev zh5:Fun:=⟨236,(ch [(.sl zv),(.fn (ch [zv]) (ch [.bool]))]),(ch [.bool]),0,j8⟩
theorem zpZ:Sq zh5:=ms1 (d:=false) (K:=0) Tryz.func236 (by kernel_rfl) (funext fun (x0,x1,())=>by kernel_rfl)
def zdP:((List qU) × ((Option ((qU × Unit)→Option (Bool × Unit))) × Unit))→Option (Bool × Unit):=fun (x0,x1,()) =>
 Option.bind (zbX (x0,x1,())) fun q0=>bif decide (q0.1 ≥ 0) then some (true,()) else some (false,())
abbrev ziC:Fun:=⟨238,(ch [(.sl qm),(.fn (ch [qm]) (ch [.bool]))]),(ch [.bool]),0,zdP⟩
theorem zrW:Sq ziC:=ms1 (d:=false) (K:=0) Tryz.func238 (by kernel_rfl) (funext fun (x0,x1,())=>by kernel_rfl)
def zks:(qg × Unit)→Option (Bool × Unit):=fun (x0,()) =>
 bif x0.1 then Option.bind (zgZ (x0.2.1,())) fun q0=>bif q0.1 then Option.bind (zgZ (x0.2.2.1,())) fun q1=>bif q1.1 then Option.bind (zkd (x0.2.2.2.1,())) fun q2=>bif q2.1 then some (false,()) else some (true,()) else some (true,()) else some (true,()) else bif !eqI z3 x0 (ze z3) then some (true,()) else some (false,())
abbrev zxv:Fun:=⟨241,(ch [z3]),(ch [.bool]),0,zks⟩
theorem zKa:Sq zxv:=ms1 (d:=false) (K:=0) Tryz.func241 (by kernel_rfl) (funext fun (x0,())=>by kernel_rfl)
def zkt:((List qg) × (zL × (Int × Unit)))→Option (Int × Unit):=fun (x0,x1,x2,()) =>
 Option.bind (yC (x0,some fun z=>zhs (z.1,some x1,some x2,()),())) fun q0=>some (q0.1,())
abbrev zxw:Fun:=⟨242,(ch [(.sl z3),zP,tI]),(ch [tI]),0,zkt⟩
theorem zKb:Sq zxw:=ms1 (d:=false) (K:=0) Tryz.func242 (by kernel_rfl) (funext fun (x0,x1,x2,())=>by kernel_rfl)
def jx:((List qb) × ((Option ((qb × Unit)→Option (Bool × Unit))) × Unit))→Option (Bool × Unit):=fun (x0,x1,()) =>
 Option.bind (zbY (x0,x1,())) fun q0=>bif decide (q0.1 ≥ 0) then some (true,()) else some (false,())
abbrev ziD:Fun:=⟨243,(ch [(.sl zJ),(.fn (ch [zJ]) (ch [.bool]))]),(ch [.bool]),0,jx⟩
theorem zrX:Sq ziD:=ms1 (d:=false) (K:=0) Tryz.func243 (by kernel_rfl) (funext fun (x0,x1,())=>by kernel_rfl)
def zcG:(zyJ × Unit)→Option (Bool × Unit):=fun (x0,()) =>
 bif x0.1 == 1 then Option.bind (zfq (x0.2.1,())) fun q0=>bif q0.1 then bif eqI zP x0.2.2.1 (ze zP) then some (true,()) else some (false,()) else some (false,()) else bif x0.1 == 3 then Option.bind (zfq (x0.2.1,())) fun q1=>bif q1.1 then bif eqI zP x0.2.2.1 (ze zP) then some (true,()) else some (false,()) else some (false,()) else bif x0.1 == 2 then bif x0.2.1 == 0 then Option.bind (zfq (x0.2.2.1.1,())) fun q2=>bif q2.1 then Option.bind (zfq (x0.2.2.1.2.1,())) fun q3=>bif q3.1 then some (true,()) else some (false,()) else some (false,()) else some (false,()) else some (false,())
abbrev zmV:Fun:=⟨332,(ch [zyI]),(ch [.bool]),0,zcG⟩
theorem zxx:Sq zmV:=ms1 (d:=false) (K:=0) Tryz.func332 (by kernel_rfl) (funext fun (x0,())=>by kernel_rfl)
def jy:((List zU) × ((Option ((zU × Unit)→Option (Bool × Unit))) × Unit))→Option (Bool × Unit):=fun (x0,x1,()) =>
 Option.bind (yD (x0,x1,())) fun q0=>bif decide (q0.1 ≥ 0) then some (true,()) else some (false,())
abbrev ziE:Fun:=⟨188,(ch [(.sl zz),(.fn (ch [zz]) (ch [.bool]))]),(ch [.bool]),0,jy⟩
theorem zrY:Sq ziE:=ms1 (d:=false) (K:=0) Tryz.func188 (by kernel_rfl) (funext fun (x0,x1,())=>by kernel_rfl)
def zhx:(zU × Unit)→Option (Bool × Unit):=fun (x0,()) =>
 Option.bind (zjP (x0.2.1,())) fun q0=>bif q0.1 then Option.bind (zjP (x0.2.2.1,())) fun q1=>bif q1.1 then Option.bind (zjP (x0.2.2.2.1,())) fun q2=>bif q2.1 then some (true,()) else some (false,()) else some (false,()) else some (false,())
abbrev zsY:Fun:=⟨94,(ch [zz]),(ch [.bool]),0,zhx⟩
theorem zE5:Sq zsY:=ms1 (d:=false) (K:=0) Tryz.func94 (by kernel_rfl) (funext fun (x0,())=>by kernel_rfl)
def zhy:(ByteArray × (ByteArray × Unit))→Option (ByteArray × Unit):=fun (x0,x1,()) =>
 bif ByteArray.toList x0 == ByteArray.toList (ByteArray.mk #[]) then some (x0,()) else bif ByteArray.toList x1 == ByteArray.toList (ByteArray.mk #[]) then some (x0,()) else bif (↑(ByteArray.size x1):Int) == 1 then bif decide (0 < (↑(ByteArray.size x1):Int)) then bif decide ((↑(UInt8.toNat (List.getD (Array.toList (ByteArray.data x1)) (Int.toNat 0) 0)):Int) < 128) then bif decide (0 < (↑(ByteArray.size x1):Int)) then Option.bind (zb6 (x0,(↑(UInt8.toNat (List.getD (Array.toList (ByteArray.data x1)) (Int.toNat 0) 0)):Int),())) fun q0=>bif decide (0 < (↑(ByteArray.size x1):Int)) then Option.bind (zdJ (q0.1,(↑(UInt8.toNat (List.getD (Array.toList (ByteArray.data x1)) (Int.toNat 0) 0)):Int),())) fun q1=>some (q1.1,()) else none else none else none else none else none
abbrev zsZ:Fun:=⟨123,(ch [.str,.str]),(ch [.str]),0,zhy⟩
theorem zE6:Sq zsZ:=ms1 (d:=false) (K:=0) Tryz.func123 (by kernel_rfl) (funext fun (x0,x1,())=>by kernel_rfl)
def jm:((List zu) × ((Option ((zu × Unit)→Option (Bool × Unit))) × Unit))→Option (Bool × Unit):=fun (x0,x1,()) =>
 Option.bind (zaW (x0,x1,())) fun q0=>bif decide (q0.1 ≥ 0) then some (true,()) else some (false,())
abbrev zh6:Fun:=⟨245,(ch [(.sl zw),(.fn (ch [zw]) (ch [.bool]))]),(ch [.bool]),0,jm⟩
theorem zp0:Sq zh6:=ms1 (d:=false) (K:=0) Tryz.func245 (by kernel_rfl) (funext fun (x0,x1,())=>by kernel_rfl)
def ziF:(zj2 × Unit)→Option (Bool × Unit):=fun (x0,()) =>
 Option.bind (jq (x0.1,())) fun q0=>bif q0.1 then bif decide (x0.2.1 ≤ 4611686018427387904) then bif x0.2.2.1 == -1 then some (true,()) else Option.bind (zht (x0.2.2.1,())) fun q1=>bif q1.1 then some (true,()) else some (false,()) else some (false,()) else some (false,())
abbrev zzL:Fun:=⟨335,(ch [zdY]),(ch [.bool]),0,ziF⟩
theorem zMf:Sq zzL:=ms1 (d:=false) (K:=0) Tryz.func335 (by kernel_rfl) (funext fun (x0,())=>by kernel_rfl)
def zg4:(Int × (Int × Unit))→Option (Int × (Int × Unit)):=fun (x0,x1,()) =>
 Option.bind (zdZ (x0,x1,())) fun q0=>bif q0.1 != 0 then some (0,7,()) else bif decide (q0.2.1 > 4611686018427387904) then some (0,7,()) else some (q0.2.1,0,())
abbrev zxy:Fun:=⟨362,(ch [tU,tU]),(ch [tU,tI]),0,zg4⟩
theorem zKc:Sq zxy:=ms1 (d:=false) (K:=0) Tryz.func362 (by kernel_rfl) (funext fun (x0,x1,())=>by kernel_rfl)
def zfB:(zr × ((Option qV) × Unit))→Option (Bool × Unit):=fun (x0,x1,()) =>
 bif x0.1 then Option.bind x1 fun q0=>Option.bind (zb9 (q0,x0.2.1,())) fun q1=>bif q1.1 then Option.bind x1 fun q2=>Option.bind (qW (q2,x0.2.2.1,())) fun q3=>bif q3.1 then Option.bind x1 fun q4=>bif decide (x0.2.2.2.2.2.2.2.2.2.1 < ((List.length q4.2.1.2.2.2.2.1):Int)) then some (true,()) else some (false,()) else some (false,()) else some (false,()) else some (true,())
abbrev zo5:Fun:=⟨149,(ch [zq,(.ptr qp)]),(ch [.bool]),0,zfB⟩
theorem zAP:Sq zo5:=ms1 (d:=false) (K:=0) Tryz.func149 (by kernel_rfl) (funext fun (x0,x1,())=>by kernel_rfl)
def j9:((List zr) × ((Option ((zr × Unit)→Option (Bool × Unit))) × Unit))→Option (Bool × Unit):=fun (x0,x1,()) =>
 Option.bind (zaX (x0,x1,())) fun q0=>bif decide (q0.1 ≥ 0) then some (true,()) else some (false,())
abbrev zh7:Fun:=⟨253,(ch [(.sl zq),(.fn (ch [zq]) (ch [.bool]))]),(ch [.bool]),0,j9⟩
theorem zp1:Sq zh7:=ms1 (d:=false) (K:=0) Tryz.func253 (by kernel_rfl) (funext fun (x0,x1,())=>by kernel_rfl)
def zbt:(zI × ((Option qV) × Unit))→Option (Bool × Unit):=fun (x0,x1,()) =>
 Option.bind x1 fun q0=>bif decide (x0.2.1 < ((List.length q0.1.2.1):Int)) then Option.bind x1 fun q1=>inR x0.2.1 ((List.length q1.1.2.1):Int) (bif x0.2.2.1 == ix (0:Int) q1.1.2.1 x0.2.1 then Option.bind x1 fun q2=>Option.bind (qW (q2,x0.2.2.2.1,())) fun q3=>bif q3.1 then Option.bind x1 fun q4=>bif decide (x0.1 ≤ q4.2.1.1) then some (true,()) else some (false,()) else some (false,()) else some (false,())) else some (false,())
abbrev zo6:Fun:=⟨153,(ch [zx,(.ptr qp)]),(ch [.bool]),0,zbt⟩
theorem zAQ:Sq zo6:=ms1 (d:=false) (K:=0) Tryz.func153 (by kernel_rfl) (funext fun (x0,x1,())=>by kernel_rfl)
def va:((List zI) × ((Option ((zI × Unit)→Option (Bool × Unit))) × Unit))→Option (Bool × Unit):=fun (x0,x1,()) =>
 Option.bind (zaY (x0,x1,())) fun q0=>bif decide (q0.1 ≥ 0) then some (true,()) else some (false,())
abbrev zh8:Fun:=⟨255,(ch [(.sl zx),(.fn (ch [zx]) (ch [.bool]))]),(ch [.bool]),0,va⟩
theorem zp2:Sq zh8:=ms1 (d:=false) (K:=0) Tryz.func255 (by kernel_rfl) (funext fun (x0,x1,())=>by kernel_rfl)
def vC:(Int × ((Option qV) × Unit))→Option (Bool × Unit):=fun (x0,x1,()) =>
 bif x0 == -1 then some (true,()) else Option.bind x1 fun q0=>Option.bind (qW (q0,x0,())) fun q1=>bif q1.1 then some (true,()) else some (false,())
abbrev zo7:Fun:=⟨155,(ch [tI,(.ptr qp)]),(ch [.bool]),0,vC⟩
theorem zAR:Sq zo7:=ms1 (d:=false) (K:=0) Tryz.func155 (by kernel_rfl) (funext fun (x0,x1,())=>by kernel_rfl)
def ziG:(qV × (Int × (Int × Unit)))→Option (Bool × Unit):=fun (x0,x1,x2,()) =>
 Option.bind (zb9 (x0,x1,())) fun q0=>bif q0.1 then Option.bind (zb9 (x0,x2,())) fun q1=>bif q1.1 then inR x1 ((List.length x0.1.1):Int) (inR x2 ((List.length x0.1.1):Int) (Option.bind (zix (ix zA x0.1.1 x1,ix zA x0.1.1 x2,())) fun q2=>bif q2.1 then some (true,()) else some (false,()))) else some (false,()) else some (false,())
abbrev zzM:Fun:=⟨165,(ch [qp,tI,tI]),(ch [.bool]),0,ziG⟩
theorem zMg:Sq zzM:=ms1 (d:=false) (K:=0) Tryz.func165 (by kernel_rfl) (funext fun (x0,x1,x2,())=>by kernel_rfl)
def vy:((List qg) × ((Option ((qg × Unit)→Option (Bool × Unit))) × Unit))→Option (Bool × Unit):=fun (x0,x1,()) =>
 Option.bind (yC (x0,x1,())) fun q0=>bif decide (q0.1 ≥ 0) then some (true,()) else some (false,())
abbrev ziH:Fun:=⟨259,(ch [(.sl z3),(.fn (ch [z3]) (ch [.bool]))]),(ch [.bool]),0,vy⟩
theorem zrZ:Sq ziH:=ms1 (d:=false) (K:=0) Tryz.func259 (by kernel_rfl) (funext fun (x0,x1,())=>by kernel_rfl)
def vP:((List zL) × ((Option ((zL × Unit)→Option (Bool × Unit))) × Unit))→Option (Bool × Unit):=fun (x0,x1,()) =>
 Option.bind (zct (x0,x1,())) fun q0=>bif decide (q0.1 ≥ 0) then some (true,()) else some (false,())
abbrev zjR:Fun:=⟨262,(ch [(.sl zP),(.fn (ch [zP]) (ch [.bool]))]),(ch [.bool]),0,vP⟩
theorem zs0:Sq zjR:=ms1 (d:=false) (K:=0) Tryz.func262 (by kernel_rfl) (funext fun (x0,x1,())=>by kernel_rfl)
def zbu:(qb × ((Option qV) × Unit))→Option (Bool × Unit):=fun (x0,x1,()) =>
 bif x0.2.2.1 != 1 then some (true,()) else Option.bind x1 fun q0=>Option.bind (qW (q0,x0.2.2.2.1,())) fun q1=>bif q1.1 then some (true,()) else some (false,())
abbrev zo8:Fun:=⟨162,(ch [zJ,(.ptr qp)]),(ch [.bool]),0,zbu⟩
theorem zAS:Sq zo8:=ms1 (d:=false) (K:=0) Tryz.func162 (by kernel_rfl) (funext fun (x0,x1,())=>by kernel_rfl)
def qP:(zu × ((Option qV) × Unit))→Option (Bool × Unit):=fun (x0,x1,()) =>
 bif x0.1 then Option.bind x1 fun q0=>Option.bind (qW (q0,x0.2.1,())) fun q1=>bif q1.1 then Option.bind x1 fun q2=>Option.bind (qW (q2,x0.2.2.1,())) fun q3=>bif q3.1 then some (true,()) else some (false,()) else some (false,()) else some (true,())
abbrev zo9:Fun:=⟨167,(ch [zw,(.ptr qp)]),(ch [.bool]),0,qP⟩
theorem zAT:Sq zo9:=ms1 (d:=false) (K:=0) Tryz.func167 (by kernel_rfl) (funext fun (x0,x1,())=>by kernel_rfl)
def yT:((List zu) × ((Option ((zu × Unit)→Option (Bool × Unit))) × Unit))→Option ((Option zco) × Unit):=fun (x0,x1,()) =>
 bif Option.isNone x1 then some (none,()) else Option.bind (zbn (x0,())) fun q0=>some (some (q0.1,x1,()),())
abbrev zpa:Fun:=⟨168,(ch [(.sl zw),(.fn (ch [zw]) (ch [.bool]))]),(ch [(.ptr yc)]),0,yT⟩
theorem zAU:Sq zpa:=ms1 (d:=false) (K:=0) Tryz.func168 (by kernel_rfl) (funext fun (x0,x1,())=>by kernel_rfl)
def yi:((Option zco) × (Int × Unit))→Option (Bool × Unit):=fun (x0,x1,()) =>
 Option.bind (zfw (x0,())) fun q0=>bif q0.1 then bif decide (x1 ≥ 0) then Option.bind x0 fun q1=>bif decide (x1 < ((List.length q1.1):Int)) then Option.bind x0 fun q2=>Option.bind x0 fun q3=>inR x1 ((List.length q3.1):Int) (Option.bind q2.2.1 fun q4=>Option.bind (q4 (ix zY q3.1 x1,())) fun q5=>bif q5.1 then some (true,()) else some (false,())) else some (false,()) else some (false,()) else some (false,())
abbrev zqF:Fun:=⟨170,(ch [(.ptr yc),tI]),(ch [.bool]),0,yi⟩
theorem zCP:Sq zqF:=ms1 (d:=false) (K:=0) Tryz.func170 (by kernel_rfl) (funext fun (x0,x1,())=>by kernel_rfl)
def zjr:((List zr) × ((Option ((zr × Unit)→Option (Bool × Unit))) × Unit))→Option ((Option zfn) × Unit):=fun (x0,x1,()) =>
 bif Option.isNone x1 then some (none,()) else Option.bind (zbm (x0,())) fun q0=>some (some (q0.1,x1,()),())
abbrev zpb:Fun:=⟨375,(ch [(.sl zq),(.fn (ch [zq]) (ch [.bool]))]),(ch [(.ptr y9)]),0,zjr⟩
theorem zAV:Sq zpb:=ms1 (d:=false) (K:=0) Tryz.func375 (by kernel_rfl) (funext fun (x0,x1,())=>by kernel_rfl)
def zgy:((Option zfn) × (Int × Unit))→Option (Bool × Unit):=fun (x0,x1,()) =>
 Option.bind (zfx (x0,())) fun q0=>bif q0.1 then bif decide (x1 ≥ 0) then Option.bind x0 fun q1=>bif decide (x1 < ((List.length q1.1):Int)) then Option.bind x0 fun q2=>Option.bind x0 fun q3=>inR x1 ((List.length q3.1):Int) (Option.bind q2.2.1 fun q4=>Option.bind (q4 (ix zK q3.1 x1,())) fun q5=>bif q5.1 then some (true,()) else some (false,())) else some (false,()) else some (false,()) else some (false,())
abbrev zqG:Fun:=⟨378,(ch [(.ptr y9),tI]),(ch [.bool]),0,zgy⟩
theorem zCQ:Sq zqG:=ms1 (d:=false) (K:=0) Tryz.func378 (by kernel_rfl) (funext fun (x0,x1,())=>by kernel_rfl)
abbrev zg5:Type:=Int × (List Int) × Int × Int
abbrev zKd:zg5→St:=fun (v4,v9,v10,v11)=>St.mk [(4,.dat tU v4),(9,.dat (.sl tU) v9),(10,.dat tI v10),(11,.dat tI v11)] []
def zg6 (k0:zg5→Option (Int × (Int × Unit))):zg5→Option (Int × (Int × Unit)):=fun (v4,v9,v10,v11) =>
 bif decide (v11 < v10) then inR v11 ((List.length v9):Int) (Option.bind (zmk (v4,ix (0:Int) v9 v11,())) fun q0=>bif q0.2.1 != 0 then some (0,q0.2.1,()) else k0 (q0.1,v9,v10,wI (v11 + 1))) else some (v4,0,())
abbrev zxz (K:Nat):zg5→Option (Int × (Int × Unit)):=zg zg6 K
theorem zKe (K:Nat):∀ n,evV Es1 K Tryz.f270 0 (ch [tU,tI]) [1,1,0,1,0] [] zKd n = zg zg6 n:=zm fun n0 (v4,v9,v10,v11)=>by kernel_rfl
def zut (L0:zg5→Option (Int × (Int × Unit))):((List Int) × Unit)→Option (Int × (Int × Unit)):=fun (x0,()) =>
 L0 (0,x0,((List.length x0):Int),0)
def zhz:((List Int) × Unit)→Option (Int × Int × Unit):=zut (zxz K0)
abbrev zCR:Fun:=⟨270,(ch [(.sl tU)]),(ch [tU,tI]),0,zhz⟩
theorem zOq:Sq zCR:=ml1 (d:=false) (S:=fun K=>zut (zxz K)) Tryz.func270 (by kernel_rfl) (fun K=>tr1 (T:=zut) (zKe K K) fun (x0,())=>by kernel_rfl) rfl
abbrev zbv:Type:=(List zt) × Int
abbrev zAW:zbv→St:=fun (v0,v3)=>St.mk [(0,.dat (.sl zj) v0),(3,.dat tI v3)] []
def zfC (k0:zbv→Option (Bool × Unit)):zbv→Option (Bool × Unit):=fun (v0,v3) =>
 bif decide (v3 < ((List.length v0):Int)) then inR v3 ((List.length v0):Int) (Option.bind (ziV (ix zA v0 v3,())) fun q0=>bif q0.1 then inR (wI (v3 - 1)) ((List.length v0):Int) (inR v3 ((List.length v0):Int) (Option.bind (zml (List.getD v0 (Int.toNat (wI (v3 - 1))) (ze zj),ix zA v0 v3,())) fun q1=>bif decide (q1.1 ≥ 0) then some (false,()) else k0 (v0,wI (v3 + 1)))) else some (false,())) else some (true,())
abbrev zjs (K:Nat):zbv→Option (Bool × Unit):=zg zfC K
theorem zAX (K:Nat):∀ n,evV Es1 K Tryz.f196 0 (ch [.bool]) [1,1,0,1,0] [] zAW n = zg zfC n:=zm fun n0 (v0,v3)=>by kernel_rfl
def zhA (L0:zbv→Option (Bool × Unit)):((List zt) × Unit)→Option (Bool × Unit):=fun (x0,()) =>
 bif decide (((List.length x0):Int) < 1) then some (false,()) else bif decide (((List.length x0):Int) > 8) then some (false,()) else bif decide (0 < ((List.length x0):Int)) then bif !eqI zj (ix zA x0 0) (ze zj) then some (false,()) else L0 (x0,1) else none
def zhB:((List zt) × Unit)→Option (Bool × Unit):=zhA (zjs K0)
abbrev zs1:Fun:=⟨196,(ch [(.sl zj)]),(ch [.bool]),0,zhB⟩
theorem zE7:Sq zs1:=ml1 (d:=false) (S:=fun K=>zhA (zjs K)) Tryz.func196 (by kernel_rfl) (fun K=>tr1 (T:=zhA) (zAX K K) fun (x0,())=>by kernel_rfl) rfl
abbrev zai:Type:=(List qD) × Int × Int
abbrev zmW:zai→St:=fun (v0,v3,v4)=>St.mk [(0,.dat (.sl qH) v0),(3,.dat tI v3),(4,.dat tI v4)] []
abbrev jR:Type:=(List qD) × Int
abbrev zmX:jR→St:=fun (v0,v3)=>St.mk [(0,.dat (.sl qH) v0),(3,.dat tI v3)] []
def zcH (k0:jR→Option (Bool × Unit)) (k1:zai→Option (Bool × Unit)):zai→Option (Bool × Unit):=fun (v0,v3,v4) =>
 bif decide (v4 < v3) then inR v4 ((List.length v0):Int) (inR v3 ((List.length v0):Int) (bif ByteArray.toList (ix qt v0 v4).1 == ByteArray.toList (ix qt v0 v3).1 then some (false,()) else k1 (v0,v3,wI (v4 + 1)))) else k0 (v0,wI (v3 + 1))
abbrev zcI (K:Nat) (k0:jR→Option (Bool × Unit)):zai→Option (Bool × Unit):=zg (fun k1=>zcH k0 k1) K
theorem zxA (K:Nat) (n0:Nat):∀ n,evV Es1 K Tryz.f197 0 (ch [.bool]) [1,1,0,1,0,0,1,0,0,1,1,0] [n0] zmW n = zg (fun k1=>zcH (evV Es1 K Tryz.f197 0 (ch [.bool]) [1,1,0,1,0] [] zmX n0) k1) n:=zm fun n1 (v0,v3,v4)=>by kernel_rfl
def zaj (L1:zai→Option (Bool × Unit)) (k0:jR→Option (Bool × Unit)):jR→Option (Bool × Unit):=fun (v0,v3) =>
 bif decide (v3 < ((List.length v0):Int)) then inR v3 ((List.length v0):Int) (Option.bind (zF ((ix qt v0 v3).1,())) fun q0=>bif q0.1 then inR v3 ((List.length v0):Int) (Option.bind (zF ((ix qt v0 v3).2.1,())) fun q1=>bif q1.1 then inR v3 ((List.length v0):Int) (bif decide ((ix qt v0 v3).2.2.1 < 0) then some (false,()) else inR v3 ((List.length v0):Int) (bif decide ((ix qt v0 v3).2.2.1 > 3) then some (false,()) else L1 (v0,v3,0))) else some (false,())) else some (false,())) else some (true,())
abbrev zg7 (K:Nat):jR→Option (Bool × Unit):=zg (fun k0=>zaj (zcI K k0) k0) K
theorem zxB (K:Nat):∀ n,evV Es1 K Tryz.f197 0 (ch [.bool]) [1,1,0,1,0] [] zmX n = zg (fun k0=>zaj (zcI K k0) k0) n:=qC (B:=fun L1 k0=>zaj L1 k0) (V1:=fun n0=>evV Es1 K Tryz.f197 0 (ch [.bool]) [1,1,0,1,0,0,1,0,0,1,1,0] [n0] zmW K) (W1:=fun k0=>(zcI K k0)) (fun n0=>zxA K n0 K) fun n0 (v0,v3)=>by kernel_rfl
def zfD (L0:jR→Option (Bool × Unit)):((List qD) × Unit)→Option (Bool × Unit):=fun (x0,()) =>
 bif decide (((List.length x0):Int) < 1) then some (false,()) else bif decide (((List.length x0):Int) > 8) then some (false,()) else L0 (x0,0)
def zfE:((List qD) × Unit)→Option (Bool × Unit):=zfD (zg7 K0)
abbrev zpc:Fun:=⟨197,(ch [(.sl qH)]),(ch [.bool]),0,zfE⟩
theorem zAY:Sq zpc:=ml1 (d:=false) (S:=fun K=>zfD (zg7 K)) Tryz.func197 (by kernel_rfl) (fun K=>tr1 (T:=zfD) (zxB K K) fun (x0,())=>by kernel_rfl) rfl
abbrev zbw:Type:=(List zL) × (List zt) × Int × Int
abbrev zpd:zbw→St:=fun (v0,v1,v8,v9)=>St.mk [(0,.dat (.sl ja) v0),(1,.dat (.sl zj) v1),(8,.dat tI v8),(9,.dat tI v9)] []
abbrev vD:Type:=(List zL) × (List zt) × Int
abbrev zjt:vD→St:=fun (v0,v1,v8)=>St.mk [(0,.dat (.sl ja) v0),(1,.dat (.sl zj) v1),(8,.dat tI v8)] []
abbrev zbx:Type:=(List zL) × (List zt) × Int × Int
abbrev zAZ:zbx→St:=fun (v0,v1,v2,v7)=>St.mk [(0,.dat (.sl ja) v0),(1,.dat (.sl zj) v1),(2,.dat tI v2),(7,.dat tI v7)] []
def yU (k1:vD→Option (Bool × Unit)) (k2:zbw→Option (Bool × Unit)):zbw→Option (Bool × Unit):=fun (v0,v1,v8,v9) =>
 bif decide (v9 < 64) then inR v8 ((List.length v1):Int) (Option.bind (vV (ix zA v1 v8,v9,())) fun q4=>bif q4.1 then Option.bind (zrQ (v0,v9,())) fun q5=>bif q5.1 then k2 (v0,v1,v8,wI (v9 + 1)) else some (false,()) else k2 (v0,v1,v8,wI (v9 + 1))) else k1 (v0,v1,wI (v8 + 1))
abbrev zju (K:Nat) (k1:vD→Option (Bool × Unit)):zbw→Option (Bool × Unit):=zg (fun k2=>yU k1 k2) K
theorem zA0 (K:Nat) (n1:Nat):∀ n,evV Es1 K Tryz.f198 0 (ch [.bool]) [1,1,1,0,1,0,0,1,0,0,1,0] [n1] zpd n = zg (fun k2=>yU (evV Es1 K Tryz.f198 0 (ch [.bool]) [1,1,1,0,1,0] [] zjt n1) k2) n:=zm fun n2 (v0,v1,v8,v9)=>by kernel_rfl
def zby (L2:zbw→Option (Bool × Unit)) (k1:vD→Option (Bool × Unit)):vD→Option (Bool × Unit):=fun (v0,v1,v8) =>
 bif decide (v8 < ((List.length v1):Int)) then L2 (v0,v1,v8,0) else some (true,())
abbrev zfF (K:Nat):vD→Option (Bool × Unit):=zg (fun k1=>zby (zju K k1) k1) K
theorem zA1 (K:Nat):∀ n,evV Es1 K Tryz.f198 0 (ch [.bool]) [1,1,1,0,1,0] [] zjt n = zg (fun k1=>zby (zju K k1) k1) n:=qC (B:=fun L2 k1=>zby L2 k1) (V1:=fun n1=>evV Es1 K Tryz.f198 0 (ch [.bool]) [1,1,1,0,1,0,0,1,0,0,1,0] [n1] zpd K) (W1:=fun k1=>(zju K k1)) (fun n1=>zA0 K n1 K) fun n1 (v0,v1,v8)=>by kernel_rfl
def zbz (L1:vD→Option (Bool × Unit)) (k0:zbx→Option (Bool × Unit)):zbx→Option (Bool × Unit):=fun (v0,v1,v2,v7) =>
 bif decide (v7 < ((List.length v0):Int)) then inR v7 ((List.length v0):Int) (bif decide ((ix zD v0 v7).1 < 0) then some (false,()) else inR v7 ((List.length v0):Int) (bif decide ((ix zD v0 v7).1 > 63) then some (false,()) else inR v7 ((List.length v0):Int) (bif decide ((ix zD v0 v7).2.1 < 0) then some (false,()) else inR v7 ((List.length v0):Int) (bif decide ((ix zD v0 v7).2.1 ≥ v2) then some (false,()) else bif decide (v7 > 0) then inR (wI (v7 - 1)) ((List.length v0):Int) (inR v7 ((List.length v0):Int) (bif decide ((List.getD v0 (Int.toNat (wI (v7 - 1))) (ze ja)).1 ≥ (ix zD v0 v7).1) then some (false,()) else inR v7 ((List.length v0):Int) (Option.bind (zel ((ix zD v0 v7).1,())) fun q0=>Option.bind (zfL (v1,q0.1,())) fun q1=>bif decide (q1.1 < 0) then some (false,()) else k0 (v0,v1,v2,wI (v7 + 1))))) else inR v7 ((List.length v0):Int) (Option.bind (zel ((ix zD v0 v7).1,())) fun q2=>Option.bind (zfL (v1,q2.1,())) fun q3=>bif decide (q3.1 < 0) then some (false,()) else k0 (v0,v1,v2,wI (v7 + 1))))))) else L1 (v0,v1,0)
abbrev zjv (K:Nat):zbx→Option (Bool × Unit):=zg (fun k0=>zbz (zfF K) k0) K
theorem zA2 (K:Nat):∀ n,evV Es1 K Tryz.f198 0 (ch [.bool]) [1,1,0,1,0] [] zAZ n = zg (fun k0=>zbz (zfF K) k0) n:=qC (B:=fun L1 k0=>zbz L1 k0) (V1:=fun n0=>evV Es1 K Tryz.f198 0 (ch [.bool]) [1,1,1,0,1,0] [] zjt K) (W1:=fun k0=>(zfF K)) (fun n0=>zA1 K K) fun n0 (v0,v1,v2,v7)=>by kernel_rfl
def zhC (L0:zbx→Option (Bool × Unit)):((List zL) × ((List zt) × (Int × Unit)))→Option (Bool × Unit):=fun (x0,x1,x2,()) =>
 bif decide (((List.length x0):Int) > 8) then some (false,()) else L0 (x0,x1,x2,0)
def zhD:((List zL) × (List zt) × Int × Unit)→Option (Bool × Unit):=zhC (zjv K0)
abbrev zs2:Fun:=⟨198,(ch [(.sl ja),(.sl zj),tI]),(ch [.bool]),0,zhD⟩
theorem zE8:Sq zs2:=ml1 (d:=false) (S:=fun K=>zhC (zjv K)) Tryz.func198 (by kernel_rfl) (fun K=>tr1 (T:=zhC) (zA2 K K) fun (x0,x1,x2,())=>by kernel_rfl) rfl
abbrev zbA:Type:=(List zbl) × Int × Int
abbrev zA3:zbA→St:=fun (v0,v3,v4)=>St.mk [(0,.dat (.sl zcn) v0),(3,.dat tU v3),(4,.dat tI v4)] []
def yV (k0:zbA→Option (Bool × Unit)):zbA→Option (Bool × Unit):=fun (v0,v3,v4) =>
 bif decide (v4 < ((List.length v0):Int)) then inR v4 ((List.length v0):Int) (Option.bind (yr ((ix qy v0 v4).1,())) fun q0=>bif q0.1 then Option.bind (yr ((ix qy v0 v4).2.1,())) fun q1=>bif q1.1 then Option.bind (yr ((ix qy v0 v4).2.2.1,())) fun q2=>bif q2.1 then Option.bind (yr ((ix qy v0 v4).2.2.2.1,())) fun q3=>bif q3.1 then Option.bind (yr ((ix qy v0 v4).2.2.2.2.1,())) fun q4=>bif q4.1 then bif decide ((ix qy v0 v4).2.2.2.2.2.1 > v3) then some (false,()) else k0 (v0,wU (v3 - (ix qy v0 v4).2.2.2.2.2.1),wI (v4 + 1)) else some (false,()) else some (false,()) else some (false,()) else some (false,()) else some (false,())) else bif decide (((List.length v0):Int) > 0) then bif decide (0 < ((List.length v0):Int)) then bif decide ((ix qy v0 0).1 > 0) then some (true,()) else some (false,()) else none else some (false,())
abbrev zpe (K:Nat):zbA→Option (Bool × Unit):=zg yV K
theorem zA4 (K:Nat):∀ n,evV Es1 K Tryz.f199 0 (ch [.bool]) [1,1,0,1,0] [] zA3 n = zg yV n:=zm fun n0 (v0,v3,v4)=>by kernel_rfl
def zlQ (L0:zbA→Option (Bool × Unit)):((List zbl) × Unit)→Option (Bool × Unit):=fun (x0,()) =>
 L0 (x0,4611686018427387904,0)
def zlR:((List zbl) × Unit)→Option (Bool × Unit):=zlQ (zpe K0)
abbrev zs3:Fun:=⟨199,(ch [(.sl zcn)]),(ch [.bool]),0,zlR⟩
theorem zE9:Sq zs3:=ml1 (d:=false) (S:=fun K=>zlQ (zpe K)) Tryz.func199 (by kernel_rfl) (fun K=>tr1 (T:=zlQ) (zA4 K K) fun (x0,())=>by kernel_rfl) rfl
def zg8:(Int × (Int × (Int × Unit)))→Option (Int × (Int × Unit)):=fun (x0,x1,x2,()) =>
 bif decide (x0 < 1) then some (0,1,()) else bif decide (x0 > 2) then some (0,1,()) else bif x1 == 0 then some (0,1,()) else bif x2 == 0 then some (0,1,()) else Option.bind (ziZ (x1,x2,())) fun q0=>bif q0.2.1 == 0 then bif x0 == 2 then some (x1,q0.2.1,()) else some (q0.1,q0.2.1,()) else some (q0.1,q0.2.1,())
abbrev zxC:Fun:=⟨351,(ch [tI,tU,tU]),(ch [tU,tI]),0,zg8⟩
theorem zKf:Sq zxC:=ms1 (d:=false) (K:=0) Tryz.func351 (by kernel_rfl) (funext fun (x0,x1,x2,())=>by kernel_rfl)
abbrev zcJ:Type:=(List qU) × Int
abbrev zCS:zcJ→St:=fun (v0,v3)=>St.mk [(0,.dat (.sl qm) v0),(3,.dat tI v3)] []
def zcK (k0:zcJ→Option (Bool × Unit)):zcJ→Option (Bool × Unit):=fun (v0,v3) =>
 bif decide (v3 < ((List.length v0):Int)) then inR v3 ((List.length v0):Int) (bif (ix zhr v0 v3).1 then inR v3 ((List.length v0):Int) (Option.bind (zF ((ix zhr v0 v3).2.1,())) fun q0=>bif q0.1 then inR v3 ((List.length v0):Int) (bif (ix zhr v0 v3).1 then k0 (v0,wI (v3 + 1)) else inR v3 ((List.length v0):Int) (bif !ByteArray.toList (ix zhr v0 v3).2.1 == ByteArray.toList (ByteArray.mk #[]) then some (false,()) else k0 (v0,wI (v3 + 1)))) else some (false,())) else inR v3 ((List.length v0):Int) (Option.bind (zF ((ix zhr v0 v3).2.1,())) fun q1=>bif q1.1 then some (false,()) else inR v3 ((List.length v0):Int) (bif (ix zhr v0 v3).1 then k0 (v0,wI (v3 + 1)) else inR v3 ((List.length v0):Int) (bif !ByteArray.toList (ix zhr v0 v3).2.1 == ByteArray.toList (ByteArray.mk #[]) then some (false,()) else k0 (v0,wI (v3 + 1)))))) else some (true,())
abbrev zqH (K:Nat):zcJ→Option (Bool × Unit):=zg zcK K
theorem zCT (K:Nat):∀ n,evV Es1 K Tryz.f203 0 (ch [.bool]) [1,0,1,0] [] zCS n = zg zcK n:=zm fun n0 (v0,v3)=>by kernel_rfl
def znh (L0:zcJ→Option (Bool × Unit)):((List qU) × Unit)→Option (Bool × Unit):=fun (x0,()) =>
 L0 (x0,0)
def zni:((List qU) × Unit)→Option (Bool × Unit):=znh (zqH K0)
abbrev zve:Fun:=⟨203,(ch [(.sl qm)]),(ch [.bool]),0,zni⟩
theorem zHj:Sq zve:=ml1 (d:=false) (S:=fun K=>znh (zqH K)) Tryz.func203 (by kernel_rfl) (fun K=>tr1 (T:=znh) (zCT K K) fun (x0,())=>by kernel_rfl) rfl
abbrev zcL:Type:=(List qg) × Int × Int × qg
abbrev zqI:zcL→St:=fun (v0,v3,v5,o0)=>St.mk [(0,.dat (.sl z3) v0),(3,.dat tI v3),(4,.bp 0 []),(5,.dat tI v5)] [.bx (.dat z3 o0) false]
abbrev yj:Type:=(List qg) × Int
abbrev zqJ:yj→St:=fun (v0,v3)=>St.mk [(0,.dat (.sl z3) v0),(3,.dat tI v3)] []
def zcM (k0:yj→Option (Bool × Unit)) (k1:zcL→Option (Bool × Unit)):zcL→Option (Bool × Unit):=fun (v0,v3,v5,o0) =>
 bif decide (v5 < v3) then bif o0.1 then inR v5 ((List.length v0):Int) (bif (ix qj v0 v5).1 then inR v5 ((List.length v0):Int) (bif eqI zP (ix qj v0 v5).2.1 o0.2.1 then inR v5 ((List.length v0):Int) (bif (ix qj v0 v5).2.2.2.1 == o0.2.2.2.1 then some (false,()) else k1 (v0,v3,wI (v5 + 1),o0)) else k1 (v0,v3,wI (v5 + 1),o0)) else k1 (v0,v3,wI (v5 + 1),o0)) else k1 (v0,v3,wI (v5 + 1),o0) else k0 (v0,wI (v3 + 1))
abbrev zcN (K:Nat) (k0:yj→Option (Bool × Unit)):zcL→Option (Bool × Unit):=zg (fun k1=>zcM k0 k1) K
theorem zCU (K:Nat) (n0:Nat):∀ n,evV Es1 K Tryz.f204 0 (ch [.bool]) [1,0,1,0,0,1,0,0,1,1,1,0] [n0] zqI n = zg (fun k1=>zcM (evV Es1 K Tryz.f204 0 (ch [.bool]) [1,0,1,0] [] zqJ n0) k1) n:=zm fun n1 (v0,v3,v5,o0)=>by kernel_rfl
def zas (L1:zcL→Option (Bool × Unit)) (k0:yj→Option (Bool × Unit)):yj→Option (Bool × Unit):=fun (v0,v3) =>
 bif decide (v3 < ((List.length v0):Int)) then inR v3 ((List.length v0):Int) (bif (ix qj v0 v3).1 then bif (ix qj v0 v3).1 then Option.bind (qN ((ix qj v0 v3).2.1,())) fun q0=>bif q0.1 then Option.bind (qN ((ix qj v0 v3).2.2.1,())) fun q1=>bif q1.1 then bif decide ((ix qj v0 v3).2.2.2.1 < 0) then some (false,()) else bif decide ((ix qj v0 v3).2.2.2.1 > 5) then some (false,()) else L1 (v0,v3,0,ix qj v0 v3) else some (false,()) else some (false,()) else L1 (v0,v3,0,ix qj v0 v3) else bif !eqI z3 (ix qj v0 v3) (ze z3) then some (false,()) else bif (ix qj v0 v3).1 then Option.bind (qN ((ix qj v0 v3).2.1,())) fun q2=>bif q2.1 then Option.bind (qN ((ix qj v0 v3).2.2.1,())) fun q3=>bif q3.1 then bif decide ((ix qj v0 v3).2.2.2.1 < 0) then some (false,()) else bif decide ((ix qj v0 v3).2.2.2.1 > 5) then some (false,()) else L1 (v0,v3,0,ix qj v0 v3) else some (false,()) else some (false,()) else L1 (v0,v3,0,ix qj v0 v3)) else some (true,())
abbrev zqK (K:Nat):yj→Option (Bool × Unit):=zg (fun k0=>zas (zcN K k0) k0) K
theorem zCV (K:Nat):∀ n,evV Es1 K Tryz.f204 0 (ch [.bool]) [1,0,1,0] [] zqJ n = zg (fun k0=>zas (zcN K k0) k0) n:=qC (B:=fun L1 k0=>zas L1 k0) (V1:=fun n0=>evV Es1 K Tryz.f204 0 (ch [.bool]) [1,0,1,0,0,1,0,0,1,1,1,0] [n0] zqI K) (W1:=fun k0=>(zcN K k0)) (fun n0=>zCU K n0 K) fun n0 (v0,v3)=>by kernel_rfl
def znj (L0:yj→Option (Bool × Unit)):((List qg) × Unit)→Option (Bool × Unit):=fun (x0,()) =>
 L0 (x0,0)
def znk:((List qg) × Unit)→Option (Bool × Unit):=znj (zqK K0)
abbrev zvf:Fun:=⟨204,(ch [(.sl z3)]),(ch [.bool]),0,znk⟩
theorem zHk:Sq zvf:=ml1 (d:=false) (S:=fun K=>znj (zqK K)) Tryz.func204 (by kernel_rfl) (fun K=>tr1 (T:=znj) (zCV K K) fun (x0,())=>by kernel_rfl) rfl
end
end Go.Proofs.YtkcakhbkoeimdaaGreatDoor
end
section
namespace Go.Proofs.YtkcakhbkoeimdaaGreatDoor
open Go.Ev
noncomputable section
abbrev zcO:Type:=(List qb) × Int
abbrev zCW:zcO→St:=fun (v0,v3)=>St.mk [(0,.dat (.sl zJ) v0),(3,.dat tI v3)] []
def zcP (k0:zcO→Option (Bool × Unit)):zcO→Option (Bool × Unit):=fun (v0,v3) =>
 bif decide (v3 < ((List.length v0):Int)) then inR v3 ((List.length v0):Int) (bif (ix zE v0 v3).1 then bif (ix zE v0 v3).2.2.1 == 1 then Option.bind (ziz ((ix zE v0 v3).2.2.2.1,())) fun q0=>bif q0.1 then bif eqI zP (ix zE v0 v3).2.2.2.2.1 (ze zP) then bif (ix zE v0 v3).2.2.1 == 2 then bif (ix zE v0 v3).2.2.2.1 == 0 then Option.bind (qN ((ix zE v0 v3).2.2.2.2.1,())) fun q1=>bif q1.1 then Option.bind (zF ((ix zE v0 v3).2.1,())) fun q2=>bif q2.1 then k0 (v0,wI (v3 + 1)) else some (false,()) else Option.bind (zF ((ix zE v0 v3).2.1,())) fun q3=>bif q3.1 then k0 (v0,wI (v3 + 1)) else some (false,()) else Option.bind (zF ((ix zE v0 v3).2.1,())) fun q4=>bif q4.1 then k0 (v0,wI (v3 + 1)) else some (false,()) else Option.bind (zF ((ix zE v0 v3).2.1,())) fun q5=>bif q5.1 then k0 (v0,wI (v3 + 1)) else some (false,()) else bif (ix zE v0 v3).2.2.1 == 2 then bif (ix zE v0 v3).2.2.2.1 == 0 then Option.bind (qN ((ix zE v0 v3).2.2.2.2.1,())) fun q6=>bif q6.1 then Option.bind (zF ((ix zE v0 v3).2.1,())) fun q7=>bif q7.1 then k0 (v0,wI (v3 + 1)) else some (false,()) else Option.bind (zF ((ix zE v0 v3).2.1,())) fun q8=>bif q8.1 then some (false,()) else some (false,()) else Option.bind (zF ((ix zE v0 v3).2.1,())) fun q9=>bif q9.1 then some (false,()) else some (false,()) else Option.bind (zF ((ix zE v0 v3).2.1,())) fun q10=>bif q10.1 then some (false,()) else some (false,()) else bif (ix zE v0 v3).2.2.1 == 2 then bif (ix zE v0 v3).2.2.2.1 == 0 then Option.bind (qN ((ix zE v0 v3).2.2.2.2.1,())) fun q11=>bif q11.1 then Option.bind (zF ((ix zE v0 v3).2.1,())) fun q12=>bif q12.1 then k0 (v0,wI (v3 + 1)) else some (false,()) else Option.bind (zF ((ix zE v0 v3).2.1,())) fun q13=>bif q13.1 then some (false,()) else some (false,()) else Option.bind (zF ((ix zE v0 v3).2.1,())) fun q14=>bif q14.1 then some (false,()) else some (false,()) else Option.bind (zF ((ix zE v0 v3).2.1,())) fun q15=>bif q15.1 then some (false,()) else some (false,()) else bif (ix zE v0 v3).2.2.1 == 3 then Option.bind (ziz ((ix zE v0 v3).2.2.2.1,())) fun q16=>bif q16.1 then bif eqI zP (ix zE v0 v3).2.2.2.2.1 (ze zP) then bif (ix zE v0 v3).2.2.1 == 2 then bif (ix zE v0 v3).2.2.2.1 == 0 then Option.bind (qN ((ix zE v0 v3).2.2.2.2.1,())) fun q17=>bif q17.1 then Option.bind (zF ((ix zE v0 v3).2.1,())) fun q18=>bif q18.1 then k0 (v0,wI (v3 + 1)) else some (false,()) else Option.bind (zF ((ix zE v0 v3).2.1,())) fun q19=>bif q19.1 then k0 (v0,wI (v3 + 1)) else some (false,()) else Option.bind (zF ((ix zE v0 v3).2.1,())) fun q20=>bif q20.1 then k0 (v0,wI (v3 + 1)) else some (false,()) else Option.bind (zF ((ix zE v0 v3).2.1,())) fun q21=>bif q21.1 then k0 (v0,wI (v3 + 1)) else some (false,()) else bif (ix zE v0 v3).2.2.1 == 2 then bif (ix zE v0 v3).2.2.2.1 == 0 then Option.bind (qN ((ix zE v0 v3).2.2.2.2.1,())) fun q22=>bif q22.1 then Option.bind (zF ((ix zE v0 v3).2.1,())) fun q23=>bif q23.1 then k0 (v0,wI (v3 + 1)) else some (false,()) else Option.bind (zF ((ix zE v0 v3).2.1,())) fun q24=>bif q24.1 then some (false,()) else some (false,()) else Option.bind (zF ((ix zE v0 v3).2.1,())) fun q25=>bif q25.1 then some (false,()) else some (false,()) else Option.bind (zF ((ix zE v0 v3).2.1,())) fun q26=>bif q26.1 then some (false,()) else some (false,()) else bif (ix zE v0 v3).2.2.1 == 2 then bif (ix zE v0 v3).2.2.2.1 == 0 then Option.bind (qN ((ix zE v0 v3).2.2.2.2.1,())) fun q27=>bif q27.1 then Option.bind (zF ((ix zE v0 v3).2.1,())) fun q28=>bif q28.1 then k0 (v0,wI (v3 + 1)) else some (false,()) else Option.bind (zF ((ix zE v0 v3).2.1,())) fun q29=>bif q29.1 then some (false,()) else some (false,()) else Option.bind (zF ((ix zE v0 v3).2.1,())) fun q30=>bif q30.1 then some (false,()) else some (false,()) else Option.bind (zF ((ix zE v0 v3).2.1,())) fun q31=>bif q31.1 then some (false,()) else some (false,()) else bif (ix zE v0 v3).2.2.1 == 2 then bif (ix zE v0 v3).2.2.2.1 == 0 then Option.bind (qN ((ix zE v0 v3).2.2.2.2.1,())) fun q32=>bif q32.1 then Option.bind (zF ((ix zE v0 v3).2.1,())) fun q33=>bif q33.1 then k0 (v0,wI (v3 + 1)) else some (false,()) else Option.bind (zF ((ix zE v0 v3).2.1,())) fun q34=>bif q34.1 then some (false,()) else some (false,()) else Option.bind (zF ((ix zE v0 v3).2.1,())) fun q35=>bif q35.1 then some (false,()) else some (false,()) else Option.bind (zF ((ix zE v0 v3).2.1,())) fun q36=>bif q36.1 then some (false,()) else some (false,()) else bif !eqI zJ (ix zE v0 v3) (ze zJ) then some (false,()) else k0 (v0,wI (v3 + 1))) else some (true,())
abbrev zqL (K:Nat):zcO→Option (Bool × Unit):=zg zcP K
theorem zCX (K:Nat):∀ n,evV Es1 K Tryz.f205 0 (ch [.bool]) [1,0,1,0] [] zCW n = zg zcP n:=zm fun n0 (v0,v3)=>by kernel_rfl
def znl (L0:zcO→Option (Bool × Unit)):((List qb) × Unit)→Option (Bool × Unit):=fun (x0,()) =>
 L0 (x0,0)
def znm:((List qb) × Unit)→Option (Bool × Unit):=znl (zqL K0)
abbrev zvg:Fun:=⟨205,(ch [(.sl zJ)]),(ch [.bool]),0,znm⟩
theorem zHl:Sq zvg:=ml1 (d:=false) (S:=fun K=>znl (zqL K)) Tryz.func205 (by kernel_rfl) (fun K=>tr1 (T:=znl) (zCX K K) fun (x0,())=>by kernel_rfl) rfl
abbrev zeB:Type:=ByteArray × Int
abbrev zFa:zeB→St:=fun (v0,v3)=>St.mk [(0,.dat .str v0),(3,.dat tI v3)] []
def zhE (k0:zeB→Option (Bool × Unit)):zeB→Option (Bool × Unit):=fun (v0,v3) =>
 bif decide (v3 < (↑(ByteArray.size v0):Int)) then inR v3 (↑(ByteArray.size v0):Int) (Option.bind (zmn ((↑(UInt8.toNat (List.getD (Array.toList (ByteArray.data v0)) (Int.toNat v3) 0)):Int),())) fun q0=>bif q0.1 then k0 (v0,wI (v3 + 1)) else some (false,())) else some (true,())
abbrev zlS (K:Nat):zeB→Option (Bool × Unit):=zg zhE K
theorem zFb (K:Nat):∀ n,evV Es1 K Tryz.f50 0 (ch [.bool]) [1,1,0,1,0] [] zFa n = zg zhE n:=zm fun n0 (v0,v3)=>by kernel_rfl
def zku (L0:zeB→Option (Bool × Unit)):(ByteArray × Unit)→Option (Bool × Unit):=fun (x0,()) =>
 bif (↑(ByteArray.size x0):Int) == 0 then some (false,()) else bif decide ((↑(ByteArray.size x0):Int) > 40) then some (false,()) else bif decide (0 < (↑(ByteArray.size x0):Int)) then bif (↑(UInt8.toNat (List.getD (Array.toList (ByteArray.data x0)) (Int.toNat 0) 0)):Int) == 32 then some (false,()) else inR (wI ((↑(ByteArray.size x0):Int) - 1)) (↑(ByteArray.size x0):Int) (bif (↑(UInt8.toNat (List.getD (Array.toList (ByteArray.data x0)) (Int.toNat (wI ((↑(ByteArray.size x0):Int) - 1))) 0)):Int) == 32 then some (false,()) else L0 (x0,0)) else none
def zeC:(ByteArray × Unit)→Option (Bool × Unit):=zku (zlS K0)
abbrev zxD:Fun:=⟨50,(ch [.str]),(ch [.bool]),0,zeC⟩
theorem zKg:Sq zxD:=ml1 (d:=false) (S:=fun K=>zku (zlS K)) Tryz.func50 (by kernel_rfl) (fun K=>tr1 (T:=zku) (zFb K K) fun (x0,())=>by kernel_rfl) rfl
def zkv:(zu × Unit)→Option (Bool × Unit):=fun (x0,()) =>
 bif decide (x0.2.2.2.1.2.1 > 0) then Option.bind (ju (x0.2.1,())) fun q0=>bif q0.1 then Option.bind (ju (x0.2.2.1,())) fun q1=>bif q1.1 then bif x0.2.1 != x0.2.2.1 then Option.bind (jw (x0.2.2.2.1,())) fun q2=>bif q2.1 then Option.bind (jw (x0.2.2.2.2.1,())) fun q3=>bif q3.1 then some (true,()) else some (false,()) else some (false,()) else some (false,()) else some (false,()) else some (false,()) else bif decide (x0.2.2.2.1.2.2.1 ≥ 0) then Option.bind (ju (x0.2.1,())) fun q4=>bif q4.1 then Option.bind (ju (x0.2.2.1,())) fun q5=>bif q5.1 then bif x0.2.1 != x0.2.2.1 then Option.bind (jw (x0.2.2.2.1,())) fun q6=>bif q6.1 then Option.bind (jw (x0.2.2.2.2.1,())) fun q7=>bif q7.1 then some (true,()) else some (false,()) else some (false,()) else some (false,()) else some (false,()) else some (false,()) else bif decide (x0.2.2.2.2.1.2.1 > 0) then Option.bind (ju (x0.2.1,())) fun q8=>bif q8.1 then Option.bind (ju (x0.2.2.1,())) fun q9=>bif q9.1 then bif x0.2.1 != x0.2.2.1 then Option.bind (jw (x0.2.2.2.1,())) fun q10=>bif q10.1 then Option.bind (jw (x0.2.2.2.2.1,())) fun q11=>bif q11.1 then some (true,()) else some (false,()) else some (false,()) else some (false,()) else some (false,()) else some (false,()) else bif decide (x0.2.2.2.2.1.2.2.1 ≥ 0) then Option.bind (ju (x0.2.1,())) fun q12=>bif q12.1 then Option.bind (ju (x0.2.2.1,())) fun q13=>bif q13.1 then bif x0.2.1 != x0.2.2.1 then Option.bind (jw (x0.2.2.2.1,())) fun q14=>bif q14.1 then Option.bind (jw (x0.2.2.2.2.1,())) fun q15=>bif q15.1 then some (true,()) else some (false,()) else some (false,()) else some (false,()) else some (false,()) else some (false,()) else Option.bind (ju (x0.2.1,())) fun q16=>bif q16.1 then Option.bind (ju (x0.2.2.1,())) fun q17=>bif q17.1 then bif x0.2.1 != x0.2.2.1 then Option.bind (jw (x0.2.2.2.1,())) fun q18=>bif q18.1 then Option.bind (jw (x0.2.2.2.2.1,())) fun q19=>bif q19.1 then some (false,()) else some (false,()) else some (false,()) else some (false,()) else some (false,()) else some (false,())
abbrev zxE:Fun:=⟨297,(ch [zw]),(ch [.bool]),0,zkv⟩
theorem zKh:Sq zxE:=ms1 (d:=false) (K:=0) Tryz.func297 (by kernel_rfl) (funext fun (x0,())=>by kernel_rfl)
abbrev zfV:Type:=Int × zt × zt
abbrev zHm:zfV→St:=fun (v5,o0,o1)=>St.mk [(2,.bp 0 []),(3,.bp 1 []),(5,.dat tI v5)] [.bx (.dat zj o0) false,.bx (.dat zj o1) false]
def zfW (k0:zfV→Option (Bool × Unit)):zfV→Option (Bool × Unit):=fun (v5,o0,o1) =>
 bif decide (v5 < 64) then Option.bind (vV (o0,v5,())) fun q0=>bif q0.1 then Option.bind (vV (o1,v5,())) fun q1=>bif q1.1 then k0 (wI (v5 + 1),o0,o1) else some (false,()) else k0 (wI (v5 + 1),o0,o1) else bif decide (o0.1 ≤ o1.1) then some (true,()) else some (false,())
abbrev zvh (K:Nat):zfV→Option (Bool × Unit):=zg zfW K
theorem zHn (K:Nat):∀ n,evV Es1 K Tryz.f97 0 (ch [.bool]) [1,0,1,0] [] zHm n = zg zfW n:=zm fun n0 (v5,o0,o1)=>by kernel_rfl
def zr0 (L0:zfV→Option (Bool × Unit)):(zt × (zt × Unit))→Option (Bool × Unit):=fun (x0,x1,()) =>
 L0 (0,x0,x1)
def zr1:(zt × zt × Unit)→Option (Bool × Unit):=zr0 (zvh K0)
abbrev zzN:Fun:=⟨97,(ch [zj,zj]),(ch [.bool]),0,zr1⟩
theorem zMh:Sq zzN:=ml1 (d:=false) (S:=fun K=>zr0 (zvh K)) Tryz.func97 (by kernel_rfl) (fun K=>tr1 (T:=zr0) (zHn K K) fun (x0,x1,())=>by kernel_rfl) rfl
def zkw:(za × (zp × (Int × Unit)))→Option (Bool × Unit):=fun (x0,x1,x2,()) =>
 inR x2 ((List.length x1.2.2.2.2.1):Int) (bif (ix zY x1.2.2.2.2.1 x2).1 then Option.bind (jV (x0,(ix zY x1.2.2.2.2.1 x2).2.1,())) fun q0=>bif q0.1 then Option.bind (jV (x0,(ix zY x1.2.2.2.2.1 x2).2.2.1,())) fun q1=>bif q1.1 then bif decide ((ix zY x1.2.2.2.2.1 x2).2.2.2.1.2.2.1 ≥ ((List.length x1.2.2.1):Int)) then some (false,()) else bif decide ((ix zY x1.2.2.2.2.1 x2).2.2.2.2.1.2.2.1 ≥ ((List.length x1.2.2.1):Int)) then some (false,()) else bif decide ((ix zY x1.2.2.2.2.1 x2).2.2.2.1.2.2.1 < 0) then some (true,()) else inR (ix zY x1.2.2.2.2.1 x2).2.2.2.1.2.2.1 ((List.length x1.2.2.1):Int) (bif (List.getD x1.2.2.1 (Int.toNat (ix zY x1.2.2.2.2.1 x2).2.2.2.1.2.2.1) (ze zJ)).1 then bif (List.getD x1.2.2.1 (Int.toNat (ix zY x1.2.2.2.2.1 x2).2.2.2.1.2.2.1) (ze zJ)).2.2.1 == 3 then bif (List.getD x1.2.2.1 (Int.toNat (ix zY x1.2.2.2.2.1 x2).2.2.2.1.2.2.1) (ze zJ)).2.2.2.1 == x2 then some (true,()) else some (false,()) else some (false,()) else some (false,())) else some (false,()) else some (false,()) else some (true,()))
abbrev zxF:Fun:=⟨209,(ch [zl,zv,tI]),(ch [.bool]),0,zkw⟩
theorem zKi:Sq zxF:=ms1 (d:=false) (K:=0) Tryz.func209 (by kernel_rfl) (funext fun (x0,x1,x2,())=>by kernel_rfl)
abbrev zeD:Type:=(List zr) × Int × Int × Int
abbrev zFc:zeD→St:=fun (v0,v1,v6,v7)=>St.mk [(0,.dat (.sl zq) v0),(1,.dat tI v1),(6,.dat tU v6),(7,.dat tI v7)] []
def zeE (k0:zeD→Option (Int × (Int × Unit))):zeD→Option (Int × (Int × Unit)):=fun (v0,v1,v6,v7) =>
 bif decide (v7 < ((List.length v0):Int)) then inR v7 ((List.length v0):Int) (Option.bind (zi0 (ix zK v0 v7,v1,())) fun q0=>Option.bind (yg (v6,q0.1,())) fun q1=>bif q1.2.1 != 0 then some (0,q1.2.1,()) else k0 (v0,v1,q1.1,wI (v7 + 1))) else some (v6,0,())
abbrev zs4 (K:Nat):zeD→Option (Int × (Int × Unit)):=zg zeE K
theorem zFd (K:Nat):∀ n,evV Es1 K Tryz.f210 0 (ch [tU,tI]) [1,1,1,0,1,0] [] zFc n = zg zeE n:=zm fun n0 (v0,v1,v6,v7)=>by kernel_rfl
def zkx (L0:zeD→Option (Int × (Int × Unit))):((List zr) × (Int × Unit))→Option (Int × (Int × Unit)):=fun (x0,x1,()) =>
 bif decide (x1 < 0) then some (0,1,()) else bif decide (x1 > 3) then some (0,1,()) else L0 (x0,x1,0,0)
def zky:((List zr) × Int × Unit)→Option (Int × Int × Unit):=zkx (zs4 K0)
abbrev zxG:Fun:=⟨210,(ch [(.sl zq),tI]),(ch [tU,tI]),0,zky⟩
theorem zKj:Sq zxG:=ml1 (d:=false) (S:=fun K=>zkx (zs4 K)) Tryz.func210 (by kernel_rfl) (fun K=>tr1 (T:=zkx) (zFd K K) fun (x0,x1,())=>by kernel_rfl) rfl
abbrev zeF:Type:=(List zu) × Int × Int × Int
abbrev zFe:zeF→St:=fun (v0,v1,v6,v7)=>St.mk [(0,.dat (.sl zw) v0),(1,.dat tI v1),(6,.dat tU v6),(7,.dat tI v7)] []
def zeG (k0:zeF→Option (Int × (Int × Unit))):zeF→Option (Int × (Int × Unit)):=fun (v0,v1,v6,v7) =>
 bif decide (v7 < ((List.length v0):Int)) then inR v7 ((List.length v0):Int) (bif (ix zY v0 v7).1 then inR v7 ((List.length v0):Int) (bif (ix zY v0 v7).2.2.2.1.1 == v1 then inR v7 ((List.length v0):Int) (Option.bind (yg (v6,(ix zY v0 v7).2.2.2.1.2.1,())) fun q0=>bif q0.2.1 != 0 then some (0,q0.2.1,()) else k0 (v0,v1,q0.1,wI (v7 + 1))) else k0 (v0,v1,v6,wI (v7 + 1))) else k0 (v0,v1,v6,wI (v7 + 1))) else some (v6,0,())
abbrev zs5 (K:Nat):zeF→Option (Int × (Int × Unit)):=zg zeG K
theorem zFf (K:Nat):∀ n,evV Es1 K Tryz.f211 0 (ch [tU,tI]) [1,1,1,0,1,0] [] zFe n = zg zeG n:=zm fun n0 (v0,v1,v6,v7)=>by kernel_rfl
def zkz (L0:zeF→Option (Int × (Int × Unit))):((List zu) × (Int × Unit))→Option (Int × (Int × Unit)):=fun (x0,x1,()) =>
 bif decide (x1 < 0) then some (0,1,()) else bif decide (x1 > 3) then some (0,1,()) else L0 (x0,x1,0,0)
def zkA:((List zu) × Int × Unit)→Option (Int × Int × Unit):=zkz (zs5 K0)
abbrev zxH:Fun:=⟨211,(ch [(.sl zw),tI]),(ch [tU,tI]),0,zkA⟩
theorem zKk:Sq zxH:=ml1 (d:=false) (S:=fun K=>zkz (zs5 K)) Tryz.func211 (by kernel_rfl) (fun K=>tr1 (T:=zkz) (zFf K K) fun (x0,x1,())=>by kernel_rfl) rfl
abbrev zeH:Type:=Int × Int × Int × Int × Int × zd
abbrev zs6:zeH→St:=fun (v1,v6,v7,v8,v10,o0)=>St.mk [(1,.dat tI v1),(2,.bp 0 []),(6,.dat tU v6),(7,.dat tU v7),(8,.dat tI v8),(10,.dat tI v10)] [.bx (.dat zo o0) false]
abbrev zeI:Type:=Int × Int × Int × Int × Int × zd
abbrev zFg:zeI→St:=fun (v1,v6,v7,v8,v9,o0)=>St.mk [(1,.dat tI v1),(2,.bp 0 []),(6,.dat tU v6),(7,.dat tU v7),(8,.dat tI v8),(9,.dat tI v9)] [.bx (.dat zo o0) false]
def zeJ (k1:zeH→Option (Int × (Int × Unit))):zeH→Option (Int × (Int × Unit)):=fun (v1,v6,v7,v8,v10,o0) =>
 bif decide (v10 < ((List.length o0.2.1):Int)) then bif v8 == 0 then inR v10 ((List.length o0.2.1):Int) (inR v1 (↑4:Int) (Option.bind (yg (v7,List.getD (ix zf o0.2.1 v10).2.2.2.2.2.2.2.2.1 (Int.toNat v1) (0:Int),())) fun q1=>k1 (v1,v6,q1.1,q1.2.1,wI (v10 + 1),o0))) else bif v8 != 0 then some (0,v8,()) else Option.bind (zfR (v6,v7,())) fun q2=>some (q2.1,q2.2.1,()) else bif v8 != 0 then some (0,v8,()) else Option.bind (zfR (v6,v7,())) fun q3=>some (q3.1,q3.2.1,())
abbrev za9 (K:Nat):zeH→Option (Int × (Int × Unit)):=zg zeJ K
theorem zFh (K:Nat):∀ n,evV Es1 K Tryz.f111 0 (ch [tU,tI]) [1,1,1,1,1,1,0,1,0] [] zs6 n = zg zeJ n:=zm fun n1 (v1,v6,v7,v8,v10,o0)=>by kernel_rfl
def zba (L1:zeH→Option (Int × (Int × Unit))) (k0:zeI→Option (Int × (Int × Unit))):zeI→Option (Int × (Int × Unit)):=fun (v1,v6,v7,v8,v9,o0) =>
 bif decide (v9 < ((List.length o0.2.1):Int)) then bif v8 == 0 then inR v9 ((List.length o0.2.1):Int) (inR v1 (↑4:Int) (Option.bind (yg (v6,List.getD (ix zf o0.2.1 v9).2.2.2.2.2.2.2.1 (Int.toNat v1) (0:Int),())) fun q0=>k0 (v1,q0.1,v7,q0.2.1,wI (v9 + 1),o0))) else L1 (v1,v6,v7,v8,0,o0) else L1 (v1,v6,v7,v8,0,o0)
abbrev zs7 (K:Nat):zeI→Option (Int × (Int × Unit)):=zg (fun k0=>zba (za9 K) k0) K
theorem zFi (K:Nat):∀ n,evV Es1 K Tryz.f111 0 (ch [tU,tI]) [1,1,1,1,1,0,1,0] [] zFg n = zg (fun k0=>zba (za9 K) k0) n:=qC (B:=fun L1 k0=>zba L1 k0) (V1:=fun n0=>evV Es1 K Tryz.f111 0 (ch [tU,tI]) [1,1,1,1,1,1,0,1,0] [] zs6 K) (W1:=fun k0=>(za9 K)) (fun n0=>zFh K K) fun n0 (v1,v6,v7,v8,v9,o0)=>by kernel_rfl
def zkB (L0:zeI→Option (Int × (Int × Unit))):(zd × (Int × Unit))→Option (Int × (Int × Unit)):=fun (x0,x1,()) =>
 bif decide (x1 < 0) then some (0,1,()) else bif decide (x1 > 3) then some (0,1,()) else L0 (x1,0,0,0,0,x0)
def zkC:(zd × Int × Unit)→Option (Int × Int × Unit):=zkB (zs7 K0)
abbrev zxI:Fun:=⟨111,(ch [zo,tI]),(ch [tU,tI]),0,zkC⟩
theorem zKl:Sq zxI:=ml1 (d:=false) (S:=fun K=>zkB (zs7 K)) Tryz.func111 (by kernel_rfl) (fun K=>tr1 (T:=zkB) (zFi K K) fun (x0,x1,())=>by kernel_rfl) rfl
def zkD:(za × (pMe × Unit))→Option (Bool × Unit):=fun (x0,x1,()) =>
 bif decide (x1.1 ≥ 0) then bif decide (x1.1 < ((List.length x0.2.1):Int)) then inR x1.1 ((List.length x0.2.1):Int) (bif x1.2.1 == ix (0:Int) x0.2.1 x1.1 then Option.bind (jV (x0,x1.2.2.1,())) fun q0=>bif q0.1 then some (true,()) else some (false,()) else some (false,())) else some (false,()) else some (false,())
abbrev zxJ:Fun:=⟨60,(ch [zl,tMe]),(ch [.bool]),0,zkD⟩
theorem zKm:Sq zxJ:=ms1 (d:=false) (K:=0) Tryz.func60 (by kernel_rfl) (funext fun (x0,x1,())=>by kernel_rfl)
def ve:((List Int) × (Int × Unit))→Option (Bool × Unit):=fun (x0,x1,()) =>
 Option.bind (zlO (x0,x1,())) fun q0=>bif decide (q0.1 ≥ 0) then some (true,()) else some (false,())
abbrev znT:Fun:=⟨73,(ch [(.sl tI),tI]),(ch [.bool]),0,ve⟩
theorem zy0:Sq znT:=ms1 (d:=false) (K:=0) Tryz.func73 (by kernel_rfl) (funext fun (x0,x1,())=>by kernel_rfl)
def zaK:(zL × ((Option za) × ((Option Int) × Unit)))→Option (Bool × Unit):=fun (x0,x1,x2,()) =>
 Option.bind (zeg (x0.1,())) fun q0=>Option.bind x1 fun q1=>Option.bind x2 fun q2=>inR q2 ((List.length q1.1):Int) (bif eqI zj q0.1 (ix zA q1.1 q2) then some (true,()) else some (false,()))
abbrev znU:Fun:=⟨319,(ch [ja,(.ptr zl),(.ptr tI)]),(ch [.bool]),0,zaK⟩
theorem zy1:Sq znU:=ms1 (d:=false) (K:=0) Tryz.func319 (by kernel_rfl) (funext fun (x0,x1,x2,())=>by kernel_rfl)
def zhF:(za × (Int × Unit))→Option (Int × Unit):=fun (x0,x1,()) =>
 bif decide (x1 < 0) then some ((-1),()) else bif decide (x1 ≥ ((List.length x0.2.2.2.1):Int)) then some ((-1),()) else inR x1 ((List.length x0.2.2.2.1):Int) (Option.bind (zel ((ix zD x0.2.2.2.1 x1).1,())) fun q0=>Option.bind (zfL (x0.1,q0.1,())) fun q1=>some (q1.1,()))
abbrev zs8:Fun:=⟨234,(ch [zl,tI]),(ch [tI]),0,zhF⟩
theorem zFj:Sq zs8:=ms1 (d:=false) (K:=0) Tryz.func234 (by kernel_rfl) (funext fun (x0,x1,())=>by kernel_rfl)
abbrev zaL:Type:=(List (List Int)) × Int × Int × Int × za
abbrev zy2:zaL→St:=fun (v1,v2,v3,v9,o0)=>St.mk [(1,.dat (.sl (.sl tI)) v1),(2,.dat tI v2),(3,.dat tI v3),(4,.bp 0 []),(9,.dat tI v9)] [.bx (.dat zl o0) false]
def zaM (k0:zaL→Option (Bool × Unit)):zaL→Option (Bool × Unit):=fun (v1,v2,v3,v9,o0) =>
 bif decide (v9 < ((List.length o0.2.2.2.1):Int)) then inR v3 ((List.length o0.1):Int) (inR v9 ((List.length o0.2.2.2.1):Int) (Option.bind (vV (ix zA o0.1 v3,(ix zD o0.2.2.2.1 v9).1,())) fun q0=>bif q0.1 then inR v9 ((List.length v1):Int) (inR v2 ((List.length (List.getD v1 (Int.toNat v9) ([]:List Int))):Int) (bif List.getD (List.getD v1 (Int.toNat v9) ([]:List Int)) (Int.toNat v2) (0:Int) == 0 then some (false,()) else k0 (v1,v2,v3,wI (v9 + 1),o0))) else k0 (v1,v2,v3,wI (v9 + 1),o0))) else inR v3 ((List.length o0.1):Int) (inR v2 ((List.length o0.2.2.1):Int) (bif decide ((ix zA o0.1 v3).1 ≤ (ix qt o0.2.2.1 v2).2.2.1) then some (true,()) else some (false,())))
abbrev znV (K:Nat):zaL→Option (Bool × Unit):=zg zaM K
theorem zy3 (K:Nat):∀ n,evV Es1 K Tryz.f133 0 (ch [.bool]) [1,1,0,1,0] [] zy2 n = zg zaM n:=zm fun n0 (v1,v2,v3,v9,o0)=>by kernel_rfl
def zgz (L0:zaL→Option (Bool × Unit)):(za × ((List (List Int)) × (Int × (Int × Unit))))→Option (Bool × Unit):=fun (x0,x1,x2,x3,()) =>
 bif decide (x2 < 0) then some (false,()) else bif decide (x2 ≥ ((List.length x0.2.2.1):Int)) then some (false,()) else bif decide (x3 < 0) then some (false,()) else bif decide (x3 ≥ ((List.length x0.1):Int)) then some (false,()) else L0 (x1,x2,x3,0,x0)
def zgA:(za × (List (List Int)) × Int × Int × Unit)→Option (Bool × Unit):=zgz (znV K0)
abbrev zqM:Fun:=⟨133,(ch [zl,(.sl (.sl tI)),tI,tI]),(ch [.bool]),0,zgA⟩
theorem zCY:Sq zqM:=ml1 (d:=false) (S:=fun K=>zgz (znV K)) Tryz.func133 (by kernel_rfl) (fun K=>tr1 (T:=zgz) (zy3 K K) fun (x0,x1,x2,x3,())=>by kernel_rfl) rfl
def zqN:((List zU) × ((Option ((zU × Unit)→Option (Bool × Unit))) × Unit))→Option ((Option zae) × Unit):=fun (x0,x1,()) =>
 bif Option.isNone x1 then some (none,()) else Option.bind (zcp (x0,())) fun q0=>some (some (q0.1,x1,()),())
abbrev zqO:Fun:=⟨191,(ch [(.sl zz),(.fn (ch [zz]) (ch [.bool]))]),(ch [(.ptr vg)]),0,zqN⟩
theorem zCZ:Sq zqO:=ms1 (d:=false) (K:=0) Tryz.func191 (by kernel_rfl) (funext fun (x0,x1,())=>by kernel_rfl)
def zpf:((Option zae) × Unit)→Option (Int × (Int × Unit)):=fun (x0,()) =>
 Option.bind (zcz (x0,())) fun q0=>bif q0.1 then Option.bind x0 fun q1=>Option.bind (yD (q1.1,some fun z=>zmT (z.1,some x0,()),())) fun q2=>bif decide (q2.1 < 0) then some (0,8,()) else some (q2.1,0,()) else some (0,11,())
abbrev zpg:Fun:=⟨193,(ch [(.ptr vg)]),(ch [tI,tI]),0,zpf⟩
theorem zA5:Sq zpg:=ms1 (d:=false) (K:=0) Tryz.func193 (by kernel_rfl) (funext fun (x0,())=>by kernel_rfl)
def zlT:((Option zae) × (Int × (zU × Unit)))→Option ((List zU) × (Int × Unit)):=fun (x0,x1,x2,()) =>
 Option.bind (zcz (x0,())) fun q0=>bif q0.1 then bif decide (x1 < 0) then some ([],1,()) else Option.bind x0 fun q1=>bif decide (x1 ≥ ((List.length q1.1):Int)) then some ([],1,()) else Option.bind x0 fun q2=>Option.bind (zcp (q2.1,())) fun q3=>inR x1 ((List.length q3.1):Int) (some (List.set q3.1 (Int.toNat x1) x2,0,())) else some ([],11,())
abbrev zs9:Fun:=⟨101,(ch [(.ptr vg),tI,zz]),(ch [(.sl zz),tI]),0,zlT⟩
theorem zFk:Sq zs9:=ms1 (d:=false) (K:=0) Tryz.func101 (by kernel_rfl) (funext fun (x0,x1,x2,())=>by kernel_rfl)
def zlU:((Option zae) × (Int × Unit))→Option (Bool × Unit):=fun (x0,x1,()) =>
 Option.bind (zcz (x0,())) fun q0=>bif q0.1 then bif decide (x1 ≥ 0) then Option.bind x0 fun q1=>bif decide (x1 < ((List.length q1.1):Int)) then Option.bind x0 fun q2=>Option.bind x0 fun q3=>inR x1 ((List.length q3.1):Int) (Option.bind q2.2.1 fun q4=>Option.bind (q4 (ix ya q3.1 x1,())) fun q5=>bif q5.1 then some (true,()) else some (false,())) else some (false,()) else some (false,()) else some (false,())
abbrev zta:Fun:=⟨102,(ch [(.ptr vg),tI]),(ch [.bool]),0,zlU⟩
theorem zFl:Sq zta:=ms1 (d:=false) (K:=0) Tryz.func102 (by kernel_rfl) (funext fun (x0,x1,())=>by kernel_rfl)
abbrev yI:Type:=Int × zp × zp
abbrev zlx:yI→St:=fun (v6,o0,o1)=>St.mk [(2,.bp 0 []),(3,.bp 1 []),(6,.dat tI v6)] [.bx (.dat zv o0) false,.bx (.dat zv o1) false]
abbrev yJ:Type:=Int × zp × zp
abbrev zwj:yJ→St:=fun (v5,o0,o1)=>St.mk [(2,.bp 0 []),(3,.bp 1 []),(5,.dat tI v5)] [.bx (.dat zv o0) false,.bx (.dat zv o1) false]
def yK (k1:yI→Option (Bool × Unit)):yI→Option (Bool × Unit):=fun (v6,o0,o1) =>
 bif decide (v6 < ((List.length o0.2.2.2.2.2.2.1):Int)) then inR v6 ((List.length o0.2.2.2.2.2.2.1):Int) (inR v6 ((List.length o1.2.2.2.2.2.2.1):Int) (bif !eqI zP (ix zJC o0.2.2.2.2.2.2.1 v6) (ix zJC o1.2.2.2.2.2.2.1 v6) then some (false,()) else k1 (wI (v6 + 1),o0,o1))) else some (true,())
abbrev zb3 (K:Nat):yI→Option (Bool × Unit):=zg yK K
theorem zwk (K:Nat):∀ n,evV Es1 K Tryz.f66 0 (ch [.bool]) [1,1,1,1,0,1,0] [] zlx n = zg yK n:=zm fun n1 (v6,o0,o1)=>by kernel_rfl
def vj (L1:yI→Option (Bool × Unit)) (k0:yJ→Option (Bool × Unit)):yJ→Option (Bool × Unit):=fun (v5,o0,o1) =>
 bif decide (v5 < ((List.length o0.2.2.2.2.2.1):Int)) then inR v5 ((List.length o0.2.2.2.2.2.1):Int) (inR v5 ((List.length o1.2.2.2.2.2.1):Int) (bif !eqI (.arr 4 tU) (List.getD o0.2.2.2.2.2.1 (Int.toNat v5) (ze (.arr 4 tU))) (List.getD o1.2.2.2.2.2.1 (Int.toNat v5) (ze (.arr 4 tU))) then some (false,()) else k0 (wI (v5 + 1),o0,o1))) else L1 (0,o0,o1)
abbrev zgq (K:Nat):yJ→Option (Bool × Unit):=zg (fun k0=>vj (zb3 K) k0) K
theorem zwl (K:Nat):∀ n,evV Es1 K Tryz.f66 0 (ch [.bool]) [1,1,1,0,1,0] [] zwj n = zg (fun k0=>vj (zb3 K) k0) n:=qC (B:=fun L1 k0=>vj L1 k0) (V1:=fun n0=>evV Es1 K Tryz.f66 0 (ch [.bool]) [1,1,1,1,0,1,0] [] zlx K) (W1:=fun k0=>(zb3 K)) (fun n0=>zwk K K) fun n0 (v5,o0,o1)=>by kernel_rfl
def zd2 (L0:yJ→Option (Bool × Unit)):(zp × (zp × Unit))→Option (Bool × Unit):=fun (x0,x1,()) =>
 Option.bind (zic (x0.1,x1.1,())) fun q0=>bif q0.1 then Option.bind (zie (x0.2.1,x1.2.1,())) fun q1=>bif q1.1 then Option.bind (zoY (x0.2.2.1,x1.2.2.1,())) fun q2=>bif q2.1 then Option.bind (zo0 (x0.2.2.2.1,x1.2.2.2.1,())) fun q3=>bif q3.1 then Option.bind (zo2 (x0.2.2.2.2.1,x1.2.2.2.2.1,())) fun q4=>bif q4.1 then bif ((List.length x0.2.2.2.2.2.1):Int) != ((List.length x1.2.2.2.2.2.1):Int) then some (false,()) else bif ((List.length x0.2.2.2.2.2.2.1):Int) != ((List.length x1.2.2.2.2.2.2.1):Int) then some (false,()) else bif !eqI (.arr 4 tU) x0.2.2.2.2.2.2.2.1 x1.2.2.2.2.2.2.2.1 then some (false,()) else bif !eqI (.arr 4 tU) x0.2.2.2.2.2.2.2.2.1 x1.2.2.2.2.2.2.2.2.1 then some (false,()) else L0 (0,x0,x1) else some (false,()) else some (false,()) else some (false,()) else some (false,()) else some (false,())
def zd3:(zp × zp × Unit)→Option (Bool × Unit):=zd2 (zgq K0)
abbrev znW:Fun:=⟨66,(ch [zv,zv]),(ch [.bool]),0,zd3⟩
theorem zy4:Sq znW:=ml1 (d:=false) (S:=fun K=>zd2 (zgq K)) Tryz.func66 (by kernel_rfl) (fun K=>tr1 (T:=zd2) (zwl K K) fun (x0,x1,())=>by kernel_rfl) rfl
abbrev L2:List Fun:=zvd :: zo3 :: zh4 :: znS :: zkr :: zqE :: zjQ :: ziB :: zsX :: zgx :: zlw :: zo4 :: zxu :: zh5 :: ziC :: zxv :: zxw :: ziD :: zmV :: ziE :: zsY :: zsZ :: zh6 :: zzL :: zxy :: zo5 :: zh7 :: zo6 :: zh8 :: zo7 :: zzM :: ziH :: zjR :: zo8 :: zo9 :: zpa :: zqF :: zpb :: zqG :: zCR :: zs1 :: zpc :: zs2 :: zs3 :: zxC :: zve :: zvf :: zvg :: zxD :: zxE :: zzN :: zxF :: zxG :: zxH :: zxI :: zxJ :: znT :: znU :: zs8 :: zqM :: zqO :: zpg :: zs9 :: zta :: znW :: L1
theorem h2:Sds Tryz.prog E0 L2:=⟨zHi,zAN,zpY,zyZ,zus,zCO,zsW,zrV,zE4,zoa,zwi,zAO,zJ9,zpZ,zrW,zKa,zKb,zrX,zxx,zrY,zE5,zE6,zp0,zMf,zKc,zAP,zp1,zAQ,zp2,zAR,zMg,zrZ,zs0,zAS,zAT,zAU,zCP,zAV,zCQ,zOq,zE7,zAY,zE8,zE9,zKf,zHj,zHk,zHl,zKg,zKh,zMh,zKi,zKj,zKk,zKl,zKm,zy0,zy1,zFj,zCY,zCZ,zA5,zFk,zFl,zy4,h1⟩
theorem ms2 {d:Bool} {F:Fun} {f:Go.Func} {K:Nat} (hf:Tryz.prog.funcs[F.id]? = some f) (ho:jJ f = true) (h:evF (En E0 d L2) K f F.md F.a F.r = F.spec):Sd Tryz.prog E0 F:=mkS h2 hf ho h
theorem ml2 {d:Bool} {F:Fun} {f:Go.Func} {S:Nat→F.a.I→Option F.r.I} (hf:Tryz.prog.funcs[F.id]? = some f) (ho:jJ f = true) (h:∀ K,evF (En E0 d L2) K f F.md F.a F.r = S K) (e:S K0 = F.spec):Sd Tryz.prog E0 F:=mkS h2 hf ho ((h K0).trans e)
abbrev Es2:Env:=En E0 false L2
def zmo:(zt × (zt × Unit))→Option (Int × Unit):=fun (x0,x1,()) =>
 Option.bind (zaJ (x0.1,x1.1,())) fun q0=>Option.bind (yh (x0.2.1,x1.2.1,())) fun q1=>Option.bind (zec (zh (zh (List.replicate 2 (0:Int)) 0 q0.1) 1 q1.1,())) fun q2=>some (q2.1,())
abbrev zzO:Fun:=⟨301,(ch [zj,zj]),(ch [tI]),0,zmo⟩
theorem zMi:Sq zzO:=ms2 (d:=false) (K:=0) Tryz.func301 (by kernel_rfl) (funext fun (x0,x1,())=>by kernel_rfl)
def yt:(za × Unit)→Option (Bool × Unit):=fun (x0,()) =>
 Option.bind (qq (((List.length x0.2.1):Int),1,8,())) fun q0=>bif q0.1 then Option.bind (qv (x0.2.1,some fun z=>zcF (z.1,some x0,()),())) fun q1=>bif q1.1 then some (false,()) else some (true,()) else some (false,())
abbrev zvi:Fun:=⟨215,(ch [zl]),(ch [.bool]),0,yt⟩
theorem zHo:Sq zvi:=ms2 (d:=false) (K:=0) Tryz.func215 (by kernel_rfl) (funext fun (x0,())=>by kernel_rfl)
def zob:(ByteArray × ((Option ((Int × Unit)→Option (Bool × Unit))) × Unit))→Option (Bool × Unit):=fun (x0,x1,()) =>
 Option.bind (vx (List.map (fun b=>(↑(UInt8.toNat b):Int)) (Array.toList (ByteArray.data x0)),some fun z=>zj9 (z.1,some x1,()),())) fun q0=>bif q0.1 then some (false,()) else some (true,())
abbrev zC0:Fun:=⟨121,(ch [.str,(.fn (ch [(.int .u8)]) (ch [.bool]))]),(ch [.bool]),0,zob⟩
theorem zOr:Sq zC0:=ms2 (d:=false) (K:=0) Tryz.func121 (by kernel_rfl) (funext fun (x0,x1,())=>by kernel_rfl)
abbrev zbB:Type:=Int × (List zL) × Int × Int × za × Int
abbrev zA6:zbB→St:=fun (v4,v11,v12,v13,o0,o1)=>St.mk [(1,.bp 0 []),(3,.bp 1 []),(4,.dat tI v4),(11,.dat (.sl ja) v11),(12,.dat tI v12),(13,.dat tI v13)] [.bx (.dat zl o0) false,.bx (.dat tU o1) false]
def zbC (k0:zbB→Option (Bool × Unit)):zbB→Option (Bool × Unit):=fun (v4,v11,v12,v13,o0,o1) =>
 bif decide (v13 < v12) then inR v13 ((List.length v11):Int) (Option.bind (zeg ((ix zD v11 v13).1,())) fun q0=>bif q0.2.1 != 0 then some (false,()) else bif decide ((ix zD v11 v13).1 ≤ v4) then some (false,()) else Option.bind (qq ((ix zD v11 v13).2.1,0,wI (((List.length o0.2.2.1):Int) - 1),())) fun q1=>bif q1.1 then Option.bind (zb2 (o0.1,q0.1,())) fun q2=>bif q2.1 then k0 ((ix zD v11 v13).1,v11,v12,wI (v13 + 1),o0,wU (↑(BitVec.toNat (BitVec.ofInt (IntKind.bits IntKind.u64) o1 ||| BitVec.ofInt (IntKind.bits IntKind.u64) q0.1.2.1)):Int)) else some (false,()) else some (false,())) else bif decide (((List.length o0.2.2.2.1):Int) ≤ 8) then Option.bind (yw (o0.1,some fun z=>zjq (z.1,some o1,()),())) fun q3=>bif q3.1 then some (false,()) else some (true,()) else some (false,())
abbrev zph (K:Nat):zbB→Option (Bool × Unit):=zg zbC K
theorem zA7 (K:Nat):∀ n,evV Es2 K Tryz.f217 0 (ch [.bool]) [1,1,1,0,1,0] [] zA6 n = zg zbC n:=zm fun n0 (v4,v11,v12,v13,o0,o1)=>by kernel_rfl
def zlV (L0:zbB→Option (Bool × Unit)):(za × Unit)→Option (Bool × Unit):=fun (x0,()) =>
 L0 ((-1),x0.2.2.2.1,((List.length x0.2.2.2.1):Int),0,x0,0)
def vQ:(za × Unit)→Option (Bool × Unit):=zlV (zph K0)
abbrev ztb:Fun:=⟨217,(ch [zl]),(ch [.bool]),0,vQ⟩
theorem zFm:Sq ztb:=ml2 (d:=false) (S:=fun K=>zlV (zph K)) Tryz.func217 (by kernel_rfl) (fun K=>tr1 (T:=zlV) (zA7 K K) fun (x0,())=>by kernel_rfl) rfl
abbrev zbD:Type:=Int × (List zbl) × Int × Int
abbrev zA8:zbD→St:=fun (v3,v23,v24,v25)=>St.mk [(3,.dat tU v3),(23,.dat (.sl zcn) v23),(24,.dat tI v24),(25,.dat tI v25)] []
def zfG (k0:zbD→Option (Bool × Unit)):zbD→Option (Bool × Unit):=fun (v3,v23,v24,v25) =>
 bif decide (v25 < v24) then inR v25 ((List.length v23):Int) (bif decide ((ix qy v23 v25).2.2.2.2.2.1 > v3) then some (false,()) else Option.bind (zkb (ix qy v23 v25,())) fun q0=>Option.bind (qv (q0.1,some zfA,())) fun q1=>bif q1.1 then some (false,()) else k0 (wU (v3 - (ix qy v23 v25).2.2.2.2.2.1),v23,v24,wI (v25 + 1))) else some (true,())
abbrev zjw (K:Nat):zbD→Option (Bool × Unit):=zg zfG K
theorem zA9 (K:Nat):∀ n,evV Es2 K Tryz.f218 0 (ch [.bool]) [1,1,1,0,1,0] [] zA8 n = zg zfG n:=zm fun n0 (v3,v23,v24,v25)=>by kernel_rfl
def zhG (L0:zbD→Option (Bool × Unit)):(za × Unit)→Option (Bool × Unit):=fun (x0,()) =>
 bif ((List.length x0.2.2.2.2.1):Int) != ((List.length x0.1):Int) then some (false,()) else bif decide (0 < ((List.length x0.2.2.2.2.1):Int)) then bif decide ((ix qy x0.2.2.2.2.1 0).1 < 1) then some (false,()) else L0 (4611686018427387904,x0.2.2.2.2.1,((List.length x0.2.2.2.2.1):Int),0) else none
def vR:(za × Unit)→Option (Bool × Unit):=zhG (zjw K0)
abbrev ztc:Fun:=⟨218,(ch [zl]),(ch [.bool]),0,vR⟩
theorem zFn:Sq ztc:=ml2 (d:=false) (S:=fun K=>zhG (zjw K)) Tryz.func218 (by kernel_rfl) (fun K=>tr1 (T:=zhG) (zA9 K K) fun (x0,())=>by kernel_rfl) rfl
def zif:((List zp) × ((Option ((zp × Unit)→Option (Bool × Unit))) × Unit))→Option (Bool × Unit):=fun (x0,x1,()) =>
 Option.bind (j8 (x0,some fun z=>zbW (z.1,some x1,()),())) fun q0=>bif q0.1 then some (false,()) else some (true,())
abbrev znX:Fun:=⟨138,(ch [(.sl zv),(.fn (ch [zv]) (ch [.bool]))]),(ch [.bool]),0,zif⟩
theorem zy5:Sq znX:=ms2 (d:=false) (K:=0) Tryz.func138 (by kernel_rfl) (funext fun (x0,x1,())=>by kernel_rfl)
abbrev zeK:Type:=(List qg) × (List qg) × Int × Int
abbrev zFo:zeK→St:=fun (v0,v5,v6,v7)=>St.mk [(0,.dat (.sl z3) v0),(5,.dat (.sl z3) v5),(6,.dat tI v6),(7,.dat tI v7)] []
def zeL (k0:zeK→Option (Bool × Unit)):zeK→Option (Bool × Unit):=fun (v0,v5,v6,v7) =>
 bif decide (v7 < v6) then inR v7 ((List.length v5):Int) (Option.bind (zks (ix qj v5 v7,())) fun q0=>bif q0.1 then some (false,()) else bif (ix qj v5 v7).1 then Option.bind (zkt (v0,(ix qj v5 v7).2.1,(ix qj v5 v7).2.2.2.1,())) fun q1=>bif q1.1 != v7 then some (false,()) else k0 (v0,v5,v6,wI (v7 + 1)) else k0 (v0,v5,v6,wI (v7 + 1))) else some (true,())
abbrev ztd (K:Nat):zeK→Option (Bool × Unit):=zg zeL K
theorem zFp (K:Nat):∀ n,evV Es2 K Tryz.f141 0 (ch [.bool]) [1,0,1,0] [] zFo n = zg zeL n:=zm fun n0 (v0,v5,v6,v7)=>by kernel_rfl
def zpi (L0:zeK→Option (Bool × Unit)):((List qg) × Unit)→Option (Bool × Unit):=fun (x0,()) =>
 L0 (x0,x0,((List.length x0):Int),0)
def zpj:((List qg) × Unit)→Option (Bool × Unit):=zpi (ztd K0)
abbrev zxK:Fun:=⟨141,(ch [(.sl z3)]),(ch [.bool]),0,zpj⟩
theorem zKn:Sq zxK:=ml2 (d:=false) (S:=fun K=>zpi (ztd K)) Tryz.func141 (by kernel_rfl) (fun K=>tr1 (T:=zpi) (zFp K K) fun (x0,())=>by kernel_rfl) rfl
def zmp:(zu × Unit)→Option (Bool × Unit):=fun (x0,()) =>
 Option.bind (zht (x0.2.1,())) fun q0=>bif q0.1 then Option.bind (zht (x0.2.2.1,())) fun q1=>bif q1.1 then bif x0.2.1 != x0.2.2.1 then Option.bind (ziF (x0.2.2.2.1,())) fun q2=>bif q2.1 then Option.bind (ziF (x0.2.2.2.2.1,())) fun q3=>bif q3.1 then Option.bind (zg1 (x0.2.2.2.1,())) fun q4=>bif q4.1 then Option.bind (zg1 (x0.2.2.2.2.1,())) fun q5=>bif q5.1 then some (false,()) else some (true,()) else some (true,()) else some (false,()) else some (false,()) else some (false,()) else some (false,()) else some (false,())
abbrev zzP:Fun:=⟨247,(ch [zw]),(ch [.bool]),0,zmp⟩
theorem zMj:Sq zzP:=ms2 (d:=false) (K:=0) Tryz.func247 (by kernel_rfl) (funext fun (x0,())=>by kernel_rfl)
def ziI:(Int × (Int × (Int × Unit)))→Option (Int × (Int × Unit)):=fun (x0,x1,x2,()) =>
 bif x0 != 1 then bif x0 != 2 then some (0,1,()) else bif x1 == 0 then some (0,1,()) else bif x2 == 0 then some (0,1,()) else Option.bind (zg4 (x1,x2,())) fun q0=>bif q0.2.1 != 0 then some (0,q0.2.1,()) else bif x0 == 2 then some (x1,0,()) else some (q0.1,0,()) else bif x1 == 0 then some (0,1,()) else bif x2 == 0 then some (0,1,()) else Option.bind (zg4 (x1,x2,())) fun q1=>bif q1.2.1 != 0 then some (0,q1.2.1,()) else bif x0 == 2 then some (x1,0,()) else some (q1.1,0,())
abbrev zzQ:Fun:=⟨337,(ch [tI,tU,tU]),(ch [tU,tI]),0,ziI⟩
theorem zMk:Sq zzQ:=ms2 (d:=false) (K:=0) Tryz.func337 (by kernel_rfl) (funext fun (x0,x1,x2,())=>by kernel_rfl)
def zi2:(zI × (zI × Unit))→Option (Int × Unit):=fun (x0,x1,()) =>
 Option.bind (yh (x0.1,x1.1,())) fun q0=>Option.bind (zaJ (x0.2.1,x1.2.1,())) fun q1=>Option.bind (zec (zh (zh (List.replicate 2 (0:Int)) 0 q0.1) 1 q1.1,())) fun q2=>some (q2.1,())
abbrev zvj:Fun:=⟨252,(ch [zx,zx]),(ch [tI]),0,zi2⟩
theorem zHp:Sq zvj:=ms2 (d:=false) (K:=0) Tryz.func252 (by kernel_rfl) (funext fun (x0,x1,())=>by kernel_rfl)
def zig:((List zr) × ((Option ((zr × Unit)→Option (Bool × Unit))) × Unit))→Option (Bool × Unit):=fun (x0,x1,()) =>
 Option.bind (j9 (x0,some fun z=>zbZ (z.1,some x1,()),())) fun q0=>bif q0.1 then some (false,()) else some (true,())
abbrev znY:Fun:=⟨148,(ch [(.sl zq),(.fn (ch [zq]) (ch [.bool]))]),(ch [.bool]),0,zig⟩
theorem zy6:Sq znY:=ms2 (d:=false) (K:=0) Tryz.func148 (by kernel_rfl) (funext fun (x0,x1,())=>by kernel_rfl)
def zd4:((List zI) × ((Option ((zI × Unit)→Option (Bool × Unit))) × Unit))→Option (Bool × Unit):=fun (x0,x1,()) =>
 Option.bind (va (x0,some fun z=>zb0 (z.1,some x1,()),())) fun q0=>bif q0.1 then some (false,()) else some (true,())
abbrev znZ:Fun:=⟨152,(ch [(.sl zx),(.fn (ch [zx]) (ch [.bool]))]),(ch [.bool]),0,zd4⟩
theorem zy7:Sq znZ:=ms2 (d:=false) (K:=0) Tryz.func152 (by kernel_rfl) (funext fun (x0,x1,())=>by kernel_rfl)
def zat:((List Int) × ((Option ((Int × Unit)→Option (Bool × Unit))) × Unit))→Option (Bool × Unit):=fun (x0,x1,()) =>
 Option.bind (qv (x0,some fun z=>zd0 (z.1,some x1,()),())) fun q0=>bif q0.1 then some (false,()) else some (true,())
abbrev zqP:Fun:=⟨154,(ch [(.sl tI),(.fn (ch [tI]) (ch [.bool]))]),(ch [.bool]),0,zat⟩
theorem zC1:Sq zqP:=ms2 (d:=false) (K:=0) Tryz.func154 (by kernel_rfl) (funext fun (x0,x1,())=>by kernel_rfl)
def yk:(zL × ((Option qV) × ((Option Int) × Unit)))→Option (Bool × Unit):=fun (x0,x1,x2,()) =>
 Option.bind x1 fun q0=>Option.bind (zfK (q0.2.1,x0,())) fun q1=>bif q1.1 then Option.bind x1 fun q2=>Option.bind x2 fun q3=>Option.bind (ziG (q2,x0.1,q3,())) fun q4=>bif q4.1 then some (true,()) else some (false,()) else some (false,())
abbrev zqQ:Fun:=⟨258,(ch [zP,(.ptr qp),(.ptr tI)]),(ch [.bool]),0,yk⟩
theorem zC2:Sq zqQ:=ms2 (d:=false) (K:=0) Tryz.func258 (by kernel_rfl) (funext fun (x0,x1,x2,())=>by kernel_rfl)
def zjx:((List qg) × ((Option ((qg × Unit)→Option (Bool × Unit))) × Unit))→Option (Bool × Unit):=fun (x0,x1,()) =>
 Option.bind (vy (x0,some fun z=>zcq (z.1,some x1,()),())) fun q0=>bif q0.1 then some (false,()) else some (true,())
abbrev zpk:Fun:=⟨157,(ch [(.sl z3),(.fn (ch [z3]) (ch [.bool]))]),(ch [.bool]),0,zjx⟩
theorem zBa:Sq zpk:=ms2 (d:=false) (K:=0) Tryz.func157 (by kernel_rfl) (funext fun (x0,x1,())=>by kernel_rfl)
def yW:((List qb) × ((Option ((qb × Unit)→Option (Bool × Unit))) × Unit))→Option (Bool × Unit):=fun (x0,x1,()) =>
 Option.bind (jx (x0,some fun z=>zcs (z.1,some x1,()),())) fun q0=>bif q0.1 then some (false,()) else some (true,())
abbrev zpl:Fun:=⟨159,(ch [(.sl zJ),(.fn (ch [zJ]) (ch [.bool]))]),(ch [.bool]),0,yW⟩
theorem zBb:Sq zpl:=ms2 (d:=false) (K:=0) Tryz.func159 (by kernel_rfl) (funext fun (x0,x1,())=>by kernel_rfl)
def zkE:((List zL) × ((Option ((zL × Unit)→Option (Bool × Unit))) × Unit))→Option (Bool × Unit):=fun (x0,x1,()) =>
 Option.bind (vP (x0,some fun z=>zd1 (z.1,some x1,()),())) fun q0=>bif q0.1 then some (false,()) else some (true,())
abbrev zqR:Fun:=⟨161,(ch [(.sl zP),(.fn (ch [zP]) (ch [.bool]))]),(ch [.bool]),0,zkE⟩
theorem zC3:Sq zqR:=ms2 (d:=false) (K:=0) Tryz.func161 (by kernel_rfl) (funext fun (x0,x1,())=>by kernel_rfl)
def vE:(zU × ((Option qV) × ((Option Int) × Unit)))→Option (Bool × Unit):=fun (x0,x1,x2,()) =>
 bif x0.1 then Option.bind x1 fun q0=>Option.bind x2 fun q1=>Option.bind (ziG (q0,x0.2.1,q1,())) fun q2=>bif q2.1 then Option.bind x1 fun q3=>Option.bind (qW (q3,x0.2.2.1,())) fun q4=>bif q4.1 then Option.bind x1 fun q5=>Option.bind (qW (q5,x0.2.2.2.1,())) fun q6=>bif q6.1 then some (true,()) else some (false,()) else some (false,()) else some (false,()) else some (true,())
abbrev zpm:Fun:=⟨164,(ch [zz,(.ptr qp),(.ptr tI)]),(ch [.bool]),0,vE⟩
theorem zBc:Sq zpm:=ms2 (d:=false) (K:=0) Tryz.func164 (by kernel_rfl) (funext fun (x0,x1,x2,())=>by kernel_rfl)
def yX:((List zU) × ((Option ((zU × Unit)→Option (Bool × Unit))) × Unit))→Option (Bool × Unit):=fun (x0,x1,()) =>
 Option.bind (jy (x0,some fun z=>zcu (z.1,some x1,()),())) fun q0=>bif q0.1 then some (false,()) else some (true,())
abbrev zpn:Fun:=⟨163,(ch [(.sl zz),(.fn (ch [zz]) (ch [.bool]))]),(ch [.bool]),0,yX⟩
theorem zBd:Sq zpn:=ms2 (d:=false) (K:=0) Tryz.func163 (by kernel_rfl) (funext fun (x0,x1,())=>by kernel_rfl)
def qQ:((List zu) × ((Option ((zu × Unit)→Option (Bool × Unit))) × Unit))→Option (Bool × Unit):=fun (x0,x1,()) =>
 Option.bind (jm (x0,some fun z=>zb1 (z.1,some x1,()),())) fun q0=>bif q0.1 then some (false,()) else some (true,())
abbrev zn0:Fun:=⟨166,(ch [(.sl zw),(.fn (ch [zw]) (ch [.bool]))]),(ch [.bool]),0,qQ⟩
theorem zy8:Sq zn0:=ms2 (d:=false) (K:=0) Tryz.func166 (by kernel_rfl) (funext fun (x0,x1,())=>by kernel_rfl)
abbrev yL:Type:=(Option zco) × Int × Int × List Int
abbrev zwm:yL→St:=fun (v0,v12,v13,o0)=>St.mk [(0,.dat (.ptr yc) v0),(3,.ow 0),(12,.dat tI v12),(13,.dat tI v13)] [.row tI o0 false]
def yM (k0:yL→Option ((List Int) × Unit)):yL→Option ((List Int) × Unit):=fun (v0,v12,v13,o0) =>
 bif decide (v13 < v12) then Option.bind (yi (v0,v13,())) fun q2=>bif q2.1 then bif decide (List.length o0 + List.length (zh (List.replicate 1 (0:Int)) 0 v13) ≤ lim) then k0 (v0,v12,wI (v13 + 1),o0 ++ zh (List.replicate 1 (0:Int)) 0 v13) else none else k0 (v0,v12,wI (v13 + 1),o0) else some (o0,())
abbrev zly (K:Nat):yL→Option ((List Int) × Unit):=zg yM K
theorem zwn (K:Nat):∀ n,evV Es2 K Tryz.f171 0 (ch [(.sl tI)]) [1,1,1,0,1,0] [] zwm n = zg yM n:=zm fun n0 (v0,v12,v13,o0)=>by kernel_rfl
def zih (L0:yL→Option ((List Int) × Unit)):((Option zco) × Unit)→Option ((List Int) × Unit):=fun (x0,()) =>
 Option.bind (zfw (x0,())) fun q0=>bif q0.1 then Option.bind x0 fun q1=>L0 (x0,((List.length q1.1):Int),0,[]) else some ([],())
def zd5:((Option zco) × Unit)→Option ((List Int) × Unit):=zih (zly K0)
abbrev zn1:Fun:=⟨171,(ch [(.ptr yc)]),(ch [(.sl tI)]),0,zd5⟩
theorem zy9:Sq zn1:=ml2 (d:=false) (S:=fun K=>zih (zly K)) Tryz.func171 (by kernel_rfl) (fun K=>tr1 (T:=zih) (zwn K K) fun (x0,())=>by kernel_rfl) rfl
def zoc:((List zr) × Unit)→Option ((Option zfn) × Unit):=fun (x0,()) =>
 Option.bind (zjr (x0,some zkj,())) fun q0=>some (q0.1,())
abbrev zC4:Fun:=⟨365,(ch [(.sl zq)]),(ch [(.ptr y9)]),0,zoc⟩
theorem zOs:Sq zC4:=ms2 (d:=false) (K:=0) Tryz.func365 (by kernel_rfl) (funext fun (x0,())=>by kernel_rfl)
abbrev yN:Type:=(Option zfn) × Int × Int × List Int
abbrev zwo:yN→St:=fun (v0,v12,v13,o0)=>St.mk [(0,.dat (.ptr y9) v0),(3,.ow 0),(12,.dat tI v12),(13,.dat tI v13)] [.row tI o0 false]
def yO (k0:yN→Option ((List Int) × Unit)):yN→Option ((List Int) × Unit):=fun (v0,v12,v13,o0) =>
 bif decide (v13 < v12) then Option.bind (zgy (v0,v13,())) fun q2=>bif q2.1 then bif decide (List.length o0 + List.length (zh (List.replicate 1 (0:Int)) 0 v13) ≤ lim) then k0 (v0,v12,wI (v13 + 1),o0 ++ zh (List.replicate 1 (0:Int)) 0 v13) else none else k0 (v0,v12,wI (v13 + 1),o0) else some (o0,())
abbrev zlz (K:Nat):yN→Option ((List Int) × Unit):=zg yO K
theorem zwp (K:Nat):∀ n,evV Es2 K Tryz.f366 0 (ch [(.sl tI)]) [1,1,1,0,1,0] [] zwo n = zg yO n:=zm fun n0 (v0,v12,v13,o0)=>by kernel_rfl
def zii (L0:yN→Option ((List Int) × Unit)):((Option zfn) × Unit)→Option ((List Int) × Unit):=fun (x0,()) =>
 Option.bind (zfx (x0,())) fun q0=>bif q0.1 then Option.bind x0 fun q1=>L0 (x0,((List.length q1.1):Int),0,[]) else some ([],())
def zij:((Option zfn) × Unit)→Option ((List Int) × Unit):=zii (zlz K0)
abbrev zn2:Fun:=⟨366,(ch [(.ptr y9)]),(ch [(.sl tI)]),0,zij⟩
theorem zza:Sq zn2:=ml2 (d:=false) (S:=fun K=>zii (zlz K)) Tryz.func366 (by kernel_rfl) (fun K=>tr1 (T:=zii) (zwp K K) fun (x0,())=>by kernel_rfl) rfl
def zmq:((List zu) × Unit)→Option ((Option zco) × Unit):=fun (x0,()) =>
 Option.bind (yT (x0,some ziU,())) fun q0=>some (q0.1,())
abbrev zzR:Fun:=⟨348,(ch [(.sl zw)]),(ch [(.ptr yc)]),0,zmq⟩
theorem zMl:Sq zzR:=ms2 (d:=false) (K:=0) Tryz.func348 (by kernel_rfl) (funext fun (x0,())=>by kernel_rfl)
abbrev zbE:Type:=Int × (Option ((zp × Unit)→Option ((List Int) × Unit))) × (List zp) × Int × Int × List Int
abbrev zBe:zbE→St:=fun (v1,v2,v12,v13,v14,o0)=>St.mk [(1,.dat tI v1),(2,.dat (.fn (.pair zv .unit) (.pair (.arr 4 tU) .unit)) v2),(8,.ow 0),(12,.dat (.sl zv) v12),(13,.dat tI v13),(14,.dat tI v14)] [.row tU o0 false]
def zbF (k0:zbE→Option (Int × (Int × Unit))):zbE→Option (Int × (Int × Unit)):=fun (v1,v2,v12,v13,v14,o0) =>
 bif decide (v14 < v13) then inR v14 ((List.length v12):Int) (Option.bind v2 fun q0=>Option.bind (q0 (ix zf v12 v14,())) fun q1=>inR v1 (↑4:Int) (bif decide (List.length o0 + List.length (zh (List.replicate 1 (0:Int)) 0 (ix (0:Int) q1.1 v1)) ≤ lim) then k0 (v1,v2,v12,v13,wI (v14 + 1),o0 ++ zh (List.replicate 1 (0:Int)) 0 (ix (0:Int) q1.1 v1)) else none)) else Option.bind (zhz (o0,())) fun q2=>some (q2.1,q2.2.1,())
abbrev zpo (K:Nat):zbE→Option (Int × (Int × Unit)):=zg zbF K
theorem zBf (K:Nat):∀ n,evV Es2 K Tryz.f271 0 (ch [tU,tI]) [1,1,0,1,0] [] zBe n = zg zbF n:=zm fun n0 (v1,v2,v12,v13,v14,o0)=>by kernel_rfl
def zlW (L0:zbE→Option (Int × (Int × Unit))):(zd × (Int × ((Option ((zp × Unit)→Option ((List Int) × Unit))) × Unit)))→Option (Int × (Int × Unit)):=fun (x0,x1,x2,()) =>
 L0 (x1,x2,x0.2.1,((List.length x0.2.1):Int),0,[])
def zhH:(zd × (Int × ((Option ((zp × Unit)→Option ((List Int) × Unit))) × Unit)))→Option (Int × Int × Unit):=zlW (zpo K0)
abbrev zte:Fun:=⟨271,(ch [zo,tI,(.fn (ch [zv]) (ch [(.arr 4 tU)]))]),(ch [tU,tI]),0,zhH⟩
theorem zFq:Sq zte:=ml2 (d:=false) (S:=fun K=>zlW (zpo K)) Tryz.func271 (by kernel_rfl) (fun K=>tr1 (T:=zlW) (zBf K K) fun (x0,x1,x2,())=>by kernel_rfl) rfl
end
end Go.Proofs.YtkcakhbkoeimdaaGreatDoor
end
section
namespace Go.Proofs.YtkcakhbkoeimdaaGreatDoor
open Go.Ev
noncomputable section
abbrev zcQ:Type:=Int × za
abbrev zC5:zcQ→St:=fun (v3,o0)=>St.mk [(1,.bp 0 []),(3,.dat tI v3)] [.bx (.dat zl o0) false]
def zgB (k0:zcQ→Option (Bool × Unit)):zcQ→Option (Bool × Unit):=fun (v3,o0) =>
 bif decide (v3 < ((List.length o0.2.1):Int)) then inR v3 ((List.length o0.2.1):Int) (bif decide (ix (0:Int) o0.2.1 v3 < 0) then some (false,()) else inR v3 ((List.length o0.2.1):Int) (bif decide (ix (0:Int) o0.2.1 v3 ≥ ((List.length o0.1):Int)) then some (false,()) else k0 (wI (v3 + 1),o0))) else bif ((List.length o0.2.2.2.2.1):Int) != ((List.length o0.1):Int) then some (false,()) else Option.bind (zlR (o0.2.2.2.2.1,())) fun q3=>bif q3.1 then bif decide (o0.2.2.2.2.2.1 ≥ 0) then bif decide (o0.2.2.2.2.2.1 ≤ 24) then bif decide (o0.2.2.2.2.2.2.1 ≥ 0) then bif decide (o0.2.2.2.2.2.2.1 ≤ 48) then bif decide (o0.2.2.2.2.2.2.2.1 ≥ 1) then bif decide (o0.2.2.2.2.2.2.2.1 ≤ 4) then bif decide (o0.2.2.2.2.2.2.2.2.1 ≥ 1) then bif decide (o0.2.2.2.2.2.2.2.2.1 ≤ 16) then some (true,()) else some (false,()) else some (false,()) else some (false,()) else some (false,()) else some (false,()) else some (false,()) else some (false,()) else some (false,()) else some (false,())
abbrev zkF (K:Nat):zcQ→Option (Bool × Unit):=zg zgB K
theorem zC6 (K:Nat):∀ n,evV Es2 K Tryz.f106 0 (ch [.bool]) [1,1,0,1,0] [] zC5 n = zg zgB n:=zm fun n0 (v3,o0)=>by kernel_rfl
def zi3 (L0:zcQ→Option (Bool × Unit)):(za × Unit)→Option (Bool × Unit):=fun (x0,()) =>
 Option.bind (zhB (x0.1,())) fun q0=>bif q0.1 then bif decide (((List.length x0.2.1):Int) < 1) then some (false,()) else bif decide (((List.length x0.2.1):Int) > 8) then some (false,()) else Option.bind (zfE (x0.2.2.1,())) fun q1=>bif q1.1 then Option.bind (zhD (x0.2.2.2.1,x0.1,((List.length x0.2.2.1):Int),())) fun q2=>bif q2.1 then L0 (0,x0) else some (false,()) else some (false,()) else some (false,())
def zfX:(za × Unit)→Option (Bool × Unit):=zi3 (zkF K0)
abbrev zvk:Fun:=⟨106,(ch [zl]),(ch [.bool]),0,zfX⟩
theorem zHq:Sq zvk:=ml2 (d:=false) (S:=fun K=>zi3 (zkF K)) Tryz.func106 (by kernel_rfl) (fun K=>tr1 (T:=zi3) (zC6 K K) fun (x0,())=>by kernel_rfl) rfl
def ziJ:(zr × Unit)→Option (Bool × Unit):=fun (x0,()) =>
 Option.bind (zg8 (x0.2.2.2.1,x0.2.2.2.2.2.2.2.1,x0.2.2.2.2.2.2.1,())) fun q0=>bif decide (x0.2.2.2.2.1 ≥ 0) then bif decide (x0.2.2.2.2.1 < 4) then bif decide (x0.2.2.2.2.2.1 ≥ 0) then bif decide (x0.2.2.2.2.2.1 < 4) then bif x0.2.2.2.2.1 != x0.2.2.2.2.2.1 then bif q0.2.1 == 0 then bif x0.2.2.2.2.2.2.2.2.1 == q0.1 then Option.bind (ziy (x0.2.1,())) fun q1=>bif q1.1 then Option.bind (ziy (x0.2.2.1,())) fun q2=>bif q2.1 then bif decide (x0.2.2.2.2.2.2.2.2.2.1 ≥ 0) then some (true,()) else some (false,()) else some (false,()) else some (false,()) else some (false,()) else some (false,()) else bif q0.2.1 == 0 then bif x0.2.2.2.2.2.2.2.2.1 == q0.1 then some (false,()) else some (false,()) else some (false,()) else bif q0.2.1 == 0 then bif x0.2.2.2.2.2.2.2.2.1 == q0.1 then some (false,()) else some (false,()) else some (false,()) else bif q0.2.1 == 0 then bif x0.2.2.2.2.2.2.2.2.1 == q0.1 then some (false,()) else some (false,()) else some (false,()) else bif q0.2.1 == 0 then bif x0.2.2.2.2.2.2.2.2.1 == q0.1 then some (false,()) else some (false,()) else some (false,()) else bif q0.2.1 == 0 then bif x0.2.2.2.2.2.2.2.2.1 == q0.1 then some (false,()) else some (false,()) else some (false,())
abbrev zzS:Fun:=⟨291,(ch [zq]),(ch [.bool]),0,ziJ⟩
theorem zMm:Sq zzS:=ms2 (d:=false) (K:=0) Tryz.func291 (by kernel_rfl) (funext fun (x0,())=>by kernel_rfl)
def zmr:(zI × Unit)→Option (Bool × Unit):=fun (x0,()) =>
 bif decide (x0.1 > 4611686018427387904) then some (false,()) else Option.bind (zdN (x0.2.1,())) fun q0=>bif q0.1 then Option.bind (zdN (x0.2.2.1,())) fun q1=>bif q1.1 then Option.bind (zdN (x0.2.2.2.1,())) fun q2=>bif q2.1 then bif x0.2.2.2.2.1 == 3 then Option.bind (zdN (x0.2.2.2.2.2.2.2.2.2.1,())) fun q3=>bif q3.1 then bif x0.2.2.2.2.2.1 == 0 then bif x0.2.2.2.2.2.2.1 == 0 then bif x0.2.2.2.2.2.2.2.1 == 0 then bif x0.2.2.2.2.2.2.2.2.1 == 0 then some (true,()) else some (false,()) else some (false,()) else some (false,()) else some (false,()) else some (false,()) else Option.bind (zg8 (x0.2.2.2.2.1,x0.2.2.2.2.2.2.2.1,x0.2.2.2.2.2.2.2.2.1,())) fun q4=>bif q4.2.1 == 0 then bif x0.2.2.2.2.2.2.2.2.2.1 == 0 then bif decide (x0.2.2.2.2.2.1 ≥ 0) then bif decide (x0.2.2.2.2.2.1 < 4) then bif decide (x0.2.2.2.2.2.2.1 ≥ 0) then bif decide (x0.2.2.2.2.2.2.1 < 4) then bif x0.2.2.2.2.2.1 != x0.2.2.2.2.2.2.1 then some (true,()) else some (false,()) else some (false,()) else some (false,()) else some (false,()) else some (false,()) else some (false,()) else some (false,()) else some (false,()) else some (false,()) else some (false,())
abbrev zzT:Fun:=⟨293,(ch [zx]),(ch [.bool]),0,zmr⟩
theorem zMn:Sq zzT:=ms2 (d:=false) (K:=0) Tryz.func293 (by kernel_rfl) (funext fun (x0,())=>by kernel_rfl)
abbrev zcR:Type:=(List zU) × Int
abbrev zC7:zcR→St:=fun (v0,v3)=>St.mk [(0,.dat (.sl zz) v0),(3,.dat tI v3)] []
def zcS (k0:zcR→Option (Bool × Unit)):zcR→Option (Bool × Unit):=fun (v0,v3) =>
 bif decide (v3 < ((List.length v0):Int)) then inR v3 ((List.length v0):Int) (bif (ix ya v0 v3).1 then Option.bind (zge ((ix ya v0 v3).2.1,())) fun q0=>bif q0.1 then Option.bind (zge ((ix ya v0 v3).2.2.1,())) fun q1=>bif q1.1 then Option.bind (zge ((ix ya v0 v3).2.2.2.1,())) fun q2=>bif q2.1 then Option.bind (zeC ((ix ya v0 v3).2.2.2.2.1,())) fun q3=>bif q3.1 then bif (ix ya v0 v3).1 then k0 (v0,wI (v3 + 1)) else bif !eqI zz (ix ya v0 v3) (ze zz) then some (false,()) else k0 (v0,wI (v3 + 1)) else some (false,()) else some (false,()) else some (false,()) else some (false,()) else bif (ix ya v0 v3).1 then k0 (v0,wI (v3 + 1)) else bif !eqI zz (ix ya v0 v3) (ze zz) then some (false,()) else k0 (v0,wI (v3 + 1))) else some (true,())
abbrev zqS (K:Nat):zcR→Option (Bool × Unit):=zg zcS K
theorem zC8 (K:Nat):∀ n,evV Es2 K Tryz.f99 0 (ch [.bool]) [1,0,1,0] [] zC7 n = zg zcS n:=zm fun n0 (v0,v3)=>by kernel_rfl
def znn (L0:zcR→Option (Bool × Unit)):((List zU) × Unit)→Option (Bool × Unit):=fun (x0,()) =>
 L0 (x0,0)
def zno:((List zU) × Unit)→Option (Bool × Unit):=znn (zqS K0)
abbrev zvl:Fun:=⟨99,(ch [(.sl zz)]),(ch [.bool]),0,zno⟩
theorem zHr:Sq zvl:=ml2 (d:=false) (S:=fun K=>znn (zqS K)) Tryz.func99 (by kernel_rfl) (fun K=>tr1 (T:=znn) (zC8 K K) fun (x0,())=>by kernel_rfl) rfl
abbrev zcT:Type:=(List zu) × Int
abbrev zC9:zcT→St:=fun (v0,v3)=>St.mk [(0,.dat (.sl zw) v0),(3,.dat tI v3)] []
def zcU (k0:zcT→Option (Bool × Unit)):zcT→Option (Bool × Unit):=fun (v0,v3) =>
 bif decide (v3 < ((List.length v0):Int)) then inR v3 ((List.length v0):Int) (bif (ix zY v0 v3).1 then inR v3 ((List.length v0):Int) (Option.bind (zkv (ix zY v0 v3,())) fun q0=>bif q0.1 then inR v3 ((List.length v0):Int) (bif (ix zY v0 v3).1 then k0 (v0,wI (v3 + 1)) else inR v3 ((List.length v0):Int) (bif !eqI zw (ix zY v0 v3) (ze zw) then some (false,()) else k0 (v0,wI (v3 + 1)))) else some (false,())) else inR v3 ((List.length v0):Int) (bif (ix zY v0 v3).1 then k0 (v0,wI (v3 + 1)) else inR v3 ((List.length v0):Int) (bif !eqI zw (ix zY v0 v3) (ze zw) then some (false,()) else k0 (v0,wI (v3 + 1))))) else some (true,())
abbrev zqT (K:Nat):zcT→Option (Bool × Unit):=zg zcU K
theorem zDa (K:Nat):∀ n,evV Es2 K Tryz.f206 0 (ch [.bool]) [1,0,1,0] [] zC9 n = zg zcU n:=zm fun n0 (v0,v3)=>by kernel_rfl
def znp (L0:zcT→Option (Bool × Unit)):((List zu) × Unit)→Option (Bool × Unit):=fun (x0,()) =>
 L0 (x0,0)
def znq:((List zu) × Unit)→Option (Bool × Unit):=znp (zqT K0)
abbrev zvm:Fun:=⟨206,(ch [(.sl zw)]),(ch [.bool]),0,znq⟩
theorem zHs:Sq zvm:=ml2 (d:=false) (S:=fun K=>znp (zqT K)) Tryz.func206 (by kernel_rfl) (fun K=>tr1 (T:=znp) (zDa K K) fun (x0,())=>by kernel_rfl) rfl
def zgf:(za × (Int × (Int × Unit)))→Option (Bool × Unit):=fun (x0,x1,x2,()) =>
 bif decide (x1 ≥ 0) then bif decide (x2 ≥ 0) then bif decide (x1 < ((List.length x0.1):Int)) then bif decide (x2 < ((List.length x0.1):Int)) then inR x1 ((List.length x0.1):Int) (inR x2 ((List.length x0.1):Int) (Option.bind (zr1 (ix zA x0.1 x1,ix zA x0.1 x2,())) fun q0=>bif q0.1 then some (true,()) else some (false,()))) else some (false,()) else some (false,()) else some (false,()) else some (false,())
abbrev zzU:Fun:=⟨49,(ch [zl,tI,tI]),(ch [.bool]),0,zgf⟩
theorem zMo:Sq zzU:=ms2 (d:=false) (K:=0) Tryz.func49 (by kernel_rfl) (funext fun (x0,x1,x2,())=>by kernel_rfl)
abbrev zeM:Type:=Int × Int × Int × Int × zd
abbrev ztf:zeM→St:=fun (v1,v6,v8,v11,o0)=>St.mk [(1,.dat tI v1),(2,.bp 0 []),(6,.dat tU v6),(8,.dat tI v8),(11,.dat tI v11)] [.bx (.dat zo o0) false]
abbrev yY:Type:=Int × Int × Int × zd
abbrev ztg:yY→St:=fun (v1,v6,v8,o0)=>St.mk [(1,.dat tI v1),(2,.bp 0 []),(6,.dat tU v6),(8,.dat tI v8)] [.bx (.dat zo o0) false]
def zeN (k0:yY→Option (Int × (Int × Unit))) (k1:zeM→Option (Int × (Int × Unit))):zeM→Option (Int × (Int × Unit)):=fun (v1,v6,v8,v11,o0) =>
 inR v8 ((List.length o0.2.1):Int) (bif decide (v11 < ((List.length (ix zf o0.2.1 v8).2.2.2.2.2.1):Int)) then inR v8 ((List.length o0.2.1):Int) (inR v11 ((List.length (ix zf o0.2.1 v8).2.2.2.2.2.1):Int) (inR v1 (↑4:Int) (Option.bind (yg (v6,List.getD (List.getD (ix zf o0.2.1 v8).2.2.2.2.2.1 (Int.toNat v11) (ze (.arr 4 tU))) (Int.toNat v1) (0:Int),())) fun q3=>bif q3.2.1 != 0 then some (0,q3.2.1,()) else k1 (v1,q3.1,v8,wI (v11 + 1),o0)))) else k0 (v1,v6,wI (v8 + 1),o0))
abbrev zeO (K:Nat) (k0:yY→Option (Int × (Int × Unit))):zeM→Option (Int × (Int × Unit)):=zg (fun k1=>zeN k0 k1) K
theorem zFr (K:Nat) (n0:Nat):∀ n,evV Es2 K Tryz.f110 0 (ch [tU,tI]) [1,1,1,0,1,0,0,1,0,0,1,1,1,1,1,0] [n0] ztf n = zg (fun k1=>zeN (evV Es2 K Tryz.f110 0 (ch [tU,tI]) [1,1,1,0,1,0] [] ztg n0) k1) n:=zm fun n1 (v1,v6,v8,v11,o0)=>by kernel_rfl
def zbb (L1:zeM→Option (Int × (Int × Unit))) (k0:yY→Option (Int × (Int × Unit))):yY→Option (Int × (Int × Unit)):=fun (v1,v6,v8,o0) =>
 bif decide (v8 < ((List.length o0.2.1):Int)) then inR v8 ((List.length o0.2.1):Int) (Option.bind (zkA ((ix zf o0.2.1 v8).2.2.2.2.1,v1,())) fun q1=>bif q1.2.1 != 0 then some (0,q1.2.1,()) else Option.bind (yg (v6,q1.1,())) fun q2=>bif q2.2.1 != 0 then some (0,q2.2.1,()) else L1 (v1,q2.1,v8,0,o0)) else some (v6,0,())
abbrev zth (K:Nat):yY→Option (Int × (Int × Unit)):=zg (fun k0=>zbb (zeO K k0) k0) K
theorem zFs (K:Nat):∀ n,evV Es2 K Tryz.f110 0 (ch [tU,tI]) [1,1,1,0,1,0] [] ztg n = zg (fun k0=>zbb (zeO K k0) k0) n:=qC (B:=fun L1 k0=>zbb L1 k0) (V1:=fun n0=>evV Es2 K Tryz.f110 0 (ch [tU,tI]) [1,1,1,0,1,0,0,1,0,0,1,1,1,1,1,0] [n0] ztf K) (W1:=fun k0=>(zeO K k0)) (fun n0=>zFr K n0 K) fun n0 (v1,v6,v8,o0)=>by kernel_rfl
def zkG (L0:yY→Option (Int × (Int × Unit))):(zd × (Int × Unit))→Option (Int × (Int × Unit)):=fun (x0,x1,()) =>
 Option.bind (zky (x0.2.2.2.1,x1,())) fun q0=>bif q0.2.1 != 0 then some (0,q0.2.1,()) else L0 (x1,q0.1,0,x0)
def zkH:(zd × Int × Unit)→Option (Int × Int × Unit):=zkG (zth K0)
abbrev zxL:Fun:=⟨110,(ch [zo,tI]),(ch [tU,tI]),0,zkH⟩
theorem zKo:Sq zxL:=ml2 (d:=false) (S:=fun K=>zkG (zth K)) Tryz.func110 (by kernel_rfl) (fun K=>tr1 (T:=zkG) (zFs K K) fun (x0,x1,())=>by kernel_rfl) rfl
abbrev zaN:Type:=Int × Int × za
abbrev zzb:zaN→St:=fun (v1,v5,o0)=>St.mk [(1,.dat tI v1),(2,.bp 0 []),(5,.dat tI v5)] [.bx (.dat zl o0) false]
def zaO (k0:zaN→Option (Int × Unit)):zaN→Option (Int × Unit):=fun (v1,v5,o0) =>
 bif decide (v5 < ((List.length o0.2.2.2.1):Int)) then Option.bind (zhF (o0,v5,())) fun q0=>bif q0.1 == v1 then some (v5,()) else k0 (v1,wI (v5 + 1),o0) else some ((-1),())
abbrev zn3 (K:Nat):zaN→Option (Int × Unit):=zg zaO K
theorem zzc (K:Nat):∀ n,evV Es2 K Tryz.f132 0 (ch [tI]) [1,0,1,0] [] zzb n = zg zaO n:=zm fun n0 (v1,v5,o0)=>by kernel_rfl
def zkI (L0:zaN→Option (Int × Unit)):(za × (Int × Unit))→Option (Int × Unit):=fun (x0,x1,()) =>
 L0 (x1,0,x0)
def zkJ:(za × Int × Unit)→Option (Int × Unit):=zkI (zn3 K0)
abbrev zqU:Fun:=⟨132,(ch [zl,tI]),(ch [tI]),0,zkJ⟩
theorem zDb:Sq zqU:=ml2 (d:=false) (S:=fun K=>zkI (zn3 K)) Tryz.func132 (by kernel_rfl) (fun K=>tr1 (T:=zkI) (zzc K K) fun (x0,x1,())=>by kernel_rfl) rfl
def zkK:((List zU) × Unit)→Option ((Option zae) × Unit):=fun (x0,()) =>
 Option.bind (zqN (x0,some zxj,())) fun q0=>some (q0.1,())
abbrev zDc:Fun:=⟨95,(ch [(.sl zz)]),(ch [(.ptr vg)]),0,zkK⟩
theorem zOt:Sq zDc:=ms2 (d:=false) (K:=0) Tryz.func95 (by kernel_rfl) (funext fun (x0,())=>by kernel_rfl)
def zti:((Option zae) × (zU × Unit))→Option ((List zU) × (Int × (Int × Unit))):=fun (x0,x1,()) =>
 Option.bind (zpf (x0,())) fun q0=>bif q0.2.1 != 0 then some ([],0,q0.2.1,()) else Option.bind (zlT (x0,q0.1,x1,())) fun q1=>some (q1.1,q0.1,q1.2.1,())
abbrev ztj:Fun:=⟨96,(ch [(.ptr vg),zz]),(ch [(.sl zz),tI,tI]),0,zti⟩
theorem zFt:Sq ztj:=ms2 (d:=false) (K:=0) Tryz.func96 (by kernel_rfl) (funext fun (x0,x1,())=>by kernel_rfl)
abbrev zak:Type:=(Option zae) × Int × Int × List Int
abbrev zxM:zak→St:=fun (v0,v12,v13,o0)=>St.mk [(0,.dat (.ptr vg) v0),(3,.ow 0),(12,.dat tI v12),(13,.dat tI v13)] [.row tI o0 false]
def zmY (k0:zak→Option ((List Int) × Unit)):zak→Option ((List Int) × Unit):=fun (v0,v12,v13,o0) =>
 bif decide (v13 < v12) then Option.bind (zlU (v0,v13,())) fun q2=>bif q2.1 then bif decide (List.length o0 + List.length (zh (List.replicate 1 (0:Int)) 0 v13) ≤ lim) then k0 (v0,v12,wI (v13 + 1),o0 ++ zh (List.replicate 1 (0:Int)) 0 v13) else none else k0 (v0,v12,wI (v13 + 1),o0) else some (o0,())
abbrev zmZ (K:Nat):zak→Option ((List Int) × Unit):=zg zmY K
theorem zxN (K:Nat):∀ n,evV Es2 K Tryz.f105 1 (ch [(.sl tI)]) [1,1,1,0,1,0] [] zxM n = zg zmY n:=zm fun n0 (v0,v12,v13,o0)=>by kernel_rfl
def zjy (L0:zak→Option ((List Int) × Unit)):((Option zae) × Unit)→Option ((List Int) × Unit):=fun (x0,()) =>
 Option.bind (zcz (x0,())) fun q0=>bif q0.1 then Option.bind x0 fun q1=>L0 (x0,((List.length q1.1):Int),0,[]) else some ([],())
def zpp:((Option zae) × Unit)→Option ((List Int) × Unit):=zjy (zmZ K0)
abbrev zpq:Fun:=⟨105,(ch [(.ptr vg)]),(ch [(.sl tI)]),1,zpp⟩
theorem zBg:Sq zpq:=ml2 (d:=false) (S:=fun K=>zjy (zmZ K)) Tryz.func105 (by kernel_rfl) (fun K=>tr1 (T:=zjy) (zxN K K) fun (x0,())=>by kernel_rfl) rfl
abbrev zeP:Type:=Int × zd × zd
abbrev ztk:zeP→St:=fun (v6,o0,o1)=>St.mk [(2,.bp 0 []),(3,.bp 1 []),(6,.dat tI v6)] [.bx (.dat zo o0) false,.bx (.dat zo o1) false]
abbrev zeQ:Type:=Int × zd × zd
abbrev zFu:zeQ→St:=fun (v5,o0,o1)=>St.mk [(2,.bp 0 []),(3,.bp 1 []),(5,.dat tI v5)] [.bx (.dat zo o0) false,.bx (.dat zo o1) false]
def zeR (k1:zeP→Option (Bool × Unit)):zeP→Option (Bool × Unit):=fun (v6,o0,o1) =>
 bif decide (v6 < ((List.length o0.2.2.2.2.2.1):Int)) then inR v6 ((List.length o0.2.2.2.2.2.1):Int) (inR v6 ((List.length o1.2.2.2.2.2.1):Int) (bif ix (0:Int) o0.2.2.2.2.2.1 v6 != ix (0:Int) o1.2.2.2.2.2.1 v6 then some (false,()) else k1 (wI (v6 + 1),o0,o1))) else some (true,())
abbrev zhI (K:Nat):zeP→Option (Bool × Unit):=zg zeR K
theorem zFv (K:Nat):∀ n,evV Es2 K Tryz.f19 0 (ch [.bool]) [1,1,1,0,1,0] [] ztk n = zg zeR n:=zm fun n1 (v6,o0,o1)=>by kernel_rfl
def zbc (L1:zeP→Option (Bool × Unit)) (k0:zeQ→Option (Bool × Unit)):zeQ→Option (Bool × Unit):=fun (v5,o0,o1) =>
 bif decide (v5 < ((List.length o0.2.1):Int)) then inR v5 ((List.length o0.2.1):Int) (inR v5 ((List.length o1.2.1):Int) (Option.bind (zd3 (ix zf o0.2.1 v5,ix zf o1.2.1 v5,())) fun q3=>bif q3.1 then k0 (wI (v5 + 1),o0,o1) else some (false,()))) else L1 (0,o0,o1)
abbrev zlX (K:Nat):zeQ→Option (Bool × Unit):=zg (fun k0=>zbc (zhI K) k0) K
theorem zFw (K:Nat):∀ n,evV Es2 K Tryz.f19 0 (ch [.bool]) [1,1,0,1,0] [] zFu n = zg (fun k0=>zbc (zhI K) k0) n:=qC (B:=fun L1 k0=>zbc L1 k0) (V1:=fun n0=>evV Es2 K Tryz.f19 0 (ch [.bool]) [1,1,1,0,1,0] [] ztk K) (W1:=fun k0=>(zhI K)) (fun n0=>zFv K K) fun n0 (v5,o0,o1)=>by kernel_rfl
def zkL (L0:zeQ→Option (Bool × Unit)):(zd × (zd × Unit))→Option (Bool × Unit):=fun (x0,x1,()) =>
 bif x0.1 != x1.1 then some (false,()) else bif ((List.length x0.2.1):Int) != ((List.length x1.2.1):Int) then some (false,()) else bif ((List.length x0.2.2.2.2.2.1):Int) != ((List.length x1.2.2.2.2.2.1):Int) then some (false,()) else Option.bind (zoS (x0.2.2.1,x1.2.2.1,())) fun q0=>bif q0.1 then Option.bind (zoU (x0.2.2.2.1,x1.2.2.2.1,())) fun q1=>bif q1.1 then Option.bind (zoW (x0.2.2.2.2.1,x1.2.2.2.2.1,())) fun q2=>bif q2.1 then L0 (0,x0,x1) else some (false,()) else some (false,()) else some (false,())
def zeS:(zd × zd × Unit)→Option (Bool × Unit):=zkL (zlX K0)
abbrev zxO:Fun:=⟨19,(ch [zo,zo]),(ch [.bool]),0,zeS⟩
theorem zKp:Sq zxO:=ml2 (d:=false) (S:=fun K=>zkL (zlX K)) Tryz.func19 (by kernel_rfl) (fun K=>tr1 (T:=zkL) (zFw K K) fun (x0,x1,())=>by kernel_rfl) rfl
abbrev L3:List Fun:=zzO :: zvi :: zC0 :: ztb :: ztc :: znX :: zxK :: zzP :: zzQ :: zvj :: znY :: znZ :: zqP :: zqQ :: zpk :: zpl :: zqR :: zpm :: zpn :: zn0 :: zn1 :: zC4 :: zn2 :: zzR :: zte :: zvk :: zzS :: zzT :: zvl :: zvm :: zzU :: zxL :: zqU :: zDc :: ztj :: zpq :: zxO :: L2
theorem h3:Sds Tryz.prog E0 L3:=⟨zMi,zHo,zOr,zFm,zFn,zy5,zKn,zMj,zMk,zHp,zy6,zy7,zC1,zC2,zBa,zBb,zC3,zBc,zBd,zy8,zy9,zOs,zza,zMl,zFq,zHq,zMm,zMn,zHr,zHs,zMo,zKo,zDb,zOt,zFt,zBg,zKp,h2⟩
theorem ms3 {d:Bool} {F:Fun} {f:Go.Func} {K:Nat} (hf:Tryz.prog.funcs[F.id]? = some f) (ho:jJ f = true) (h:evF (En E0 d L3) K f F.md F.a F.r = F.spec):Sd Tryz.prog E0 F:=mkS h3 hf ho h
theorem ml3 {d:Bool} {F:Fun} {f:Go.Func} {S:Nat→F.a.I→Option F.r.I} (hf:Tryz.prog.funcs[F.id]? = some f) (ho:jJ f = true) (h:∀ K,evF (En E0 d L3) K f F.md F.a F.r = S K) (e:S K0 = F.spec):Sd Tryz.prog E0 F:=mkS h3 hf ho ((h K0).trans e)
abbrev Es3:Env:=En E0 false L3
abbrev zbG:Type:=Int × za
abbrev zBh:zbG→St:=fun (v4,o0)=>St.mk [(1,.bp 0 []),(4,.dat tI v4)] [.bx (.dat zl o0) false]
def zfH (k0:zbG→Option (Bool × Unit)):zbG→Option (Bool × Unit):=fun (v4,o0) =>
 bif decide (v4 < ((List.length o0.1):Int)) then inR (wI (v4 - 1)) ((List.length o0.1):Int) (inR v4 ((List.length o0.1):Int) (Option.bind (zmo (List.getD o0.1 (Int.toNat (wI (v4 - 1))) (ze zj),ix zA o0.1 v4,())) fun q2=>bif decide (q2.1 ≥ 0) then some (false,()) else k0 (wI (v4 + 1),o0))) else some (true,())
abbrev zjz (K:Nat):zbG→Option (Bool × Unit):=zg zfH K
theorem zBi (K:Nat):∀ n,evV Es3 K Tryz.f214 0 (ch [.bool]) [1,1,1,0,1,0] [] zBh n = zg zfH n:=zm fun n0 (v4,o0)=>by kernel_rfl
def zhJ (L0:zbG→Option (Bool × Unit)):(za × Unit)→Option (Bool × Unit):=fun (x0,()) =>
 Option.bind (qq (((List.length x0.1):Int),1,8,())) fun q0=>bif q0.1 then bif decide (0 < ((List.length x0.1):Int)) then bif !eqI zj (ix zA x0.1 0) (ze zj) then some (false,()) else Option.bind (yw (x0.1,some zfz,())) fun q1=>bif q1.1 then some (false,()) else L0 (1,x0) else none else some (false,())
def vS:(za × Unit)→Option (Bool × Unit):=zhJ (zjz K0)
abbrev ztl:Fun:=⟨214,(ch [zl]),(ch [.bool]),0,vS⟩
theorem zFx:Sq ztl:=ml3 (d:=false) (S:=fun K=>zhJ (zjz K)) Tryz.func214 (by kernel_rfl) (fun K=>tr1 (T:=zhJ) (zBi K K) fun (x0,())=>by kernel_rfl) rfl
def zbH:(ByteArray × Unit)→Option (Bool × Unit):=fun (x0,()) =>
 bif decide ((↑(ByteArray.size x0):Int) < 1) then some (false,()) else bif decide ((↑(ByteArray.size x0):Int) > 12) then some (false,()) else bif decide (0 < (↑(ByteArray.size x0):Int)) then Option.bind (zgX ((↑(UInt8.toNat (List.getD (Array.toList (ByteArray.data x0)) (Int.toNat 0) 0)):Int),())) fun q0=>bif q0.1 then Option.bind (zob (x0,some zhw,())) fun q1=>bif q1.1 then some (true,()) else some (false,()) else some (false,()) else none
abbrev zxP:Fun:=⟨240,(ch [.str]),(ch [.bool]),0,zbH⟩
theorem zKq:Sq zxP:=ms3 (d:=false) (K:=0) Tryz.func240 (by kernel_rfl) (funext fun (x0,())=>by kernel_rfl)
def zdQ:(ByteArray × Unit)→Option (Bool × Unit):=fun (x0,()) =>
 bif decide ((↑(ByteArray.size x0):Int) ≥ 1) then bif decide ((↑(ByteArray.size x0):Int) ≤ 40) then Option.bind (zob (x0,some zke,())) fun q0=>bif q0.1 then Option.bind (zhy (x0,ByteArray.mk #[32],())) fun q1=>bif ByteArray.toList q1.1 == ByteArray.toList x0 then some (true,()) else some (false,()) else some (false,()) else some (false,()) else some (false,())
abbrev zzV:Fun:=⟨67,(ch [.str]),(ch [.bool]),0,zdQ⟩
theorem zMp:Sq zzV:=ms3 (d:=false) (K:=0) Tryz.func67 (by kernel_rfl) (funext fun (x0,())=>by kernel_rfl)
def zgC:(zu × Unit)→Option (Bool × Unit):=fun (x0,()) =>
 bif x0.1 then Option.bind (zmp (x0,())) fun q0=>bif q0.1 then some (false,()) else some (true,()) else bif !eqI zw x0 (ze zw) then some (true,()) else some (false,())
abbrev zqV:Fun:=⟨246,(ch [zw]),(ch [.bool]),0,zgC⟩
theorem zDd:Sq zqV:=ms3 (d:=false) (K:=0) Tryz.func246 (by kernel_rfl) (funext fun (x0,())=>by kernel_rfl)
def zod:(zr × Unit)→Option (Bool × Unit):=fun (x0,()) =>
 Option.bind (ziI (x0.2.2.2.1,x0.2.2.2.2.2.2.2.1,x0.2.2.2.2.2.2.1,())) fun q0=>bif q0.2.1 == 0 then bif q0.1 == x0.2.2.2.2.2.2.2.2.1 then Option.bind (zmO (x0.2.1,())) fun q1=>bif q1.1 then Option.bind (zmO (x0.2.2.1,())) fun q2=>bif q2.1 then Option.bind (jq (x0.2.2.2.2.1,())) fun q3=>bif q3.1 then Option.bind (jq (x0.2.2.2.2.2.1,())) fun q4=>bif q4.1 then bif x0.2.2.2.2.1 != x0.2.2.2.2.2.1 then bif decide (x0.2.2.2.2.2.2.2.2.2.1 ≥ 0) then some (true,()) else some (false,()) else some (false,()) else some (false,()) else some (false,()) else some (false,()) else some (false,()) else some (false,()) else some (false,())
abbrev zDe:Fun:=⟨250,(ch [zq]),(ch [.bool]),0,zod⟩
theorem zOu:Sq zDe:=ms3 (d:=false) (K:=0) Tryz.func250 (by kernel_rfl) (funext fun (x0,())=>by kernel_rfl)
def zms:(zI × Unit)→Option (Bool × Unit):=fun (x0,()) =>
 bif decide (x0.1 > 4611686018427387904) then some (false,()) else Option.bind (zfs (x0.2.1,())) fun q0=>bif q0.1 then Option.bind (zfs (x0.2.2.1,())) fun q1=>bif q1.1 then Option.bind (zfs (x0.2.2.2.1,())) fun q2=>bif q2.1 then Option.bind (zfs (x0.2.2.2.2.2.2.2.2.2.1,())) fun q3=>bif q3.1 then bif x0.2.2.2.2.1 == 3 then bif eqI zx x0 (x0.1,x0.2.1,x0.2.2.1,x0.2.2.2.1,x0.2.2.2.2.1,(ze zx).2.2.2.2.2.1,(ze zx).2.2.2.2.2.2.1,(ze zx).2.2.2.2.2.2.2.1,(ze zx).2.2.2.2.2.2.2.2.1,x0.2.2.2.2.2.2.2.2.2.1,(ze zx).2.2.2.2.2.2.2.2.2.2) then some (true,()) else some (false,()) else Option.bind (ziI (x0.2.2.2.2.1,x0.2.2.2.2.2.2.2.1,x0.2.2.2.2.2.2.2.2.1,())) fun q4=>bif q4.2.1 == 0 then bif x0.2.2.2.2.2.2.2.2.2.1 == 0 then bif x0.2.2.2.2.2.1 != x0.2.2.2.2.2.2.1 then Option.bind (jq (x0.2.2.2.2.2.1,())) fun q5=>bif q5.1 then Option.bind (jq (x0.2.2.2.2.2.2.1,())) fun q6=>bif q6.1 then some (true,()) else some (false,()) else some (false,()) else some (false,()) else some (false,()) else some (false,()) else some (false,()) else some (false,()) else some (false,()) else some (false,())
abbrev zzW:Fun:=⟨251,(ch [zx]),(ch [.bool]),0,zms⟩
theorem zMq:Sq zzW:=ms3 (d:=false) (K:=0) Tryz.func251 (by kernel_rfl) (funext fun (x0,())=>by kernel_rfl)
def znr:(qV × (Int × Unit))→Option ((Option ((zL × Unit)→Option (Bool × Unit))) × Unit):=fun (x0,x1,()) =>
 some (some fun z=>yk (z.1,some x0,some x1,()),())
abbrev zvn:Fun:=⟨156,(ch [qp,tI]),(ch [(.fn (ch [zP]) (ch [.bool]))]),0,znr⟩
theorem zHt:Sq zvn:=ms3 (d:=false) (K:=0) Tryz.func156 (by kernel_rfl) (funext fun (x0,x1,())=>by kernel_rfl)
abbrev vF:Type:=(List zp) × Int × Int × qV
abbrev zBj:vF→St:=fun (v10,v11,v12,o0)=>St.mk [(1,.bp 0 []),(10,.dat (.sl zv) v10),(11,.dat tI v11),(12,.dat tI v12)] [.bx (.dat qp o0) true]
abbrev zfI:Type:=(List zp) × Int × Int × qV
abbrev zBk:zfI→St:=fun (v10,v11,v12,o0)=>St.mk [(1,.bp 0 []),(10,.dat (.sl zv) v10),(11,.dat tI v11),(12,.dat tI v12)] [.bx (.dat qp o0) false]
def qZ (k1:vF→Option (Bool × Unit)):vF→Option (Bool × Unit):=fun (v10,v11,v12,o0) =>
 bif decide (v12 < v11) then inR v12 ((List.length v10):Int) (Option.bind (yW ((ix zf v10 v12).2.2.1,some fun z=>zbu (z.1,some o0,()),())) fun q3=>bif q3.1 then Option.bind (yX ((ix zf v10 v12).2.2.2.1,some fun z=>vE (z.1,some o0,some v12,()),())) fun q4=>bif q4.1 then Option.bind (qQ ((ix zf v10 v12).2.2.2.2.1,some fun z=>qP (z.1,some o0,()),())) fun q5=>bif q5.1 then k1 (v10,v11,wI (v12 + 1),o0) else some (false,()) else Option.bind (qQ ((ix zf v10 v12).2.2.2.2.1,some fun z=>qP (z.1,some o0,()),())) fun q6=>bif q6.1 then some (false,()) else some (false,()) else Option.bind (yX ((ix zf v10 v12).2.2.2.1,some fun z=>vE (z.1,some o0,some v12,()),())) fun q7=>bif q7.1 then Option.bind (qQ ((ix zf v10 v12).2.2.2.2.1,some fun z=>qP (z.1,some o0,()),())) fun q8=>bif q8.1 then some (false,()) else some (false,()) else Option.bind (qQ ((ix zf v10 v12).2.2.2.2.1,some fun z=>qP (z.1,some o0,()),())) fun q9=>bif q9.1 then some (false,()) else some (false,())) else some (true,())
theorem zBl (K:Nat):∀ n,evV Es3 K Tryz.f86 0 (ch [.bool]) [1,0,1,0] [] zBj n = zg qZ n:=zm fun n1 (v10,v11,v12,o0)=>by kernel_rfl
def zpr (k1:vF→Option (Bool × Unit)):zfI→Option (Bool × Unit):=fun (v10,v11,v12,o0) =>
 bif decide (v12 < v11) then inR v12 ((List.length v10):Int) (Option.bind (yW ((ix zf v10 v12).2.2.1,some fun z=>zbu (z.1,some o0,()),())) fun q0=>bif q0.1 then Option.bind (yX ((ix zf v10 v12).2.2.2.1,some fun z=>vE (z.1,some o0,some v12,()),())) fun q1=>bif q1.1 then Option.bind (qQ ((ix zf v10 v12).2.2.2.2.1,some fun z=>qP (z.1,some o0,()),())) fun q2=>bif q2.1 then k1 (v10,v11,wI (v12 + 1),o0) else some (false,()) else Option.bind (qQ ((ix zf v10 v12).2.2.2.2.1,some fun z=>qP (z.1,some o0,()),())) fun q10=>bif q10.1 then some (false,()) else some (false,()) else Option.bind (yX ((ix zf v10 v12).2.2.2.1,some fun z=>vE (z.1,some o0,some v12,()),())) fun q11=>bif q11.1 then Option.bind (qQ ((ix zf v10 v12).2.2.2.2.1,some fun z=>qP (z.1,some o0,()),())) fun q12=>bif q12.1 then some (false,()) else some (false,()) else Option.bind (qQ ((ix zf v10 v12).2.2.2.2.1,some fun z=>qP (z.1,some o0,()),())) fun q13=>bif q13.1 then some (false,()) else some (false,())) else some (true,())
abbrev zps (K:Nat):zfI→Option (Bool × Unit):=zCm zpr qZ K
theorem zBm (K:Nat):∀ n,evV Es3 K Tryz.f86 0 (ch [.bool]) [1,0,1,0] [] zBk n = zCm zpr qZ n:=zPO (zBl K) fun n0 (v10,v11,v12,o0)=>by kernel_rfl
def zlY (L0:zfI→Option (Bool × Unit)):(qV × Unit)→Option (Bool × Unit):=fun (x0,()) =>
 L0 (x0.2.1.2.1,((List.length x0.2.1.2.1):Int),0,x0)
def zbd:(qV × Unit)→Option (Bool × Unit):=zlY (zps K0)
abbrev ztm:Fun:=⟨86,(ch [qp]),(ch [.bool]),0,zbd⟩
theorem zFy:Sq ztm:=ml3 (d:=false) (S:=fun K=>zlY (zps K)) Tryz.func86 (by kernel_rfl) (fun K=>tr1 (T:=zlY) (zBm K K) fun (x0,())=>by kernel_rfl) rfl
abbrev zcV:Type:=(List zp) × Int × Int × (List Int) × Int × Int × zp
abbrev zqW:zcV→St:=fun (v14,v15,v16,v55,v56,v57,o0)=>St.mk [(4,.bp 0 []),(14,.dat (.sl zv) v14),(15,.dat tI v15),(16,.dat tI v16),(55,.dat (.sl tI) v55),(56,.dat tI v56),(57,.dat tI v57)] [.bx (.dat zv o0) false]
abbrev zcW:Type:=(Option zco) × (List zp) × Int × Int × (List qb) × Int × Int × zp
abbrev zqX:zcW→St:=fun (v5,v14,v15,v16,v24,v25,v26,o0)=>St.mk [(4,.bp 0 []),(5,.dat (.ptr yc) v5),(14,.dat (.sl zv) v14),(15,.dat tI v15),(16,.dat tI v16),(24,.dat (.sl zJ) v24),(25,.dat tI v25),(26,.dat tI v26)] [.bx (.dat zv o0) false]
abbrev jH:Type:=(List zp) × Int × Int
abbrev zau:jH→St:=fun (v14,v15,v16)=>St.mk [(14,.dat (.sl zv) v14),(15,.dat tI v15),(16,.dat tI v16)] []
def zcX (k0:jH→Option (Bool × Unit)) (k2:zcV→Option (Bool × Unit)):zcV→Option (Bool × Unit):=fun (v14,v15,v16,v55,v56,v57,o0) =>
 bif decide (v57 < v56) then inR v57 ((List.length v55):Int) (inR (ix (0:Int) v55 v57) ((List.length o0.2.2.2.2.1):Int) (inR (ix (0:Int) v55 v57) ((List.length o0.2.2.2.2.1):Int) (bif decide ((List.getD o0.2.2.2.2.1 (Int.toNat (ix (0:Int) v55 v57)) (ze zw)).2.2.2.1.2.2.1 ≥ ((List.length o0.2.2.1):Int)) then some (false,()) else bif decide ((List.getD o0.2.2.2.2.1 (Int.toNat (ix (0:Int) v55 v57)) (ze zw)).2.2.2.2.1.2.2.1 ≥ ((List.length o0.2.2.1):Int)) then some (false,()) else bif decide ((List.getD o0.2.2.2.2.1 (Int.toNat (ix (0:Int) v55 v57)) (ze zw)).2.2.2.1.2.2.1 ≥ 0) then inR (List.getD o0.2.2.2.2.1 (Int.toNat (ix (0:Int) v55 v57)) (ze zw)).2.2.2.1.2.2.1 ((List.length o0.2.2.1):Int) (bif (List.getD o0.2.2.1 (Int.toNat (List.getD o0.2.2.2.2.1 (Int.toNat (ix (0:Int) v55 v57)) (ze zw)).2.2.2.1.2.2.1) (ze zJ)).2.2.1 != 3 then some (false,()) else inR (List.getD o0.2.2.2.2.1 (Int.toNat (ix (0:Int) v55 v57)) (ze zw)).2.2.2.1.2.2.1 ((List.length o0.2.2.1):Int) (bif (List.getD o0.2.2.1 (Int.toNat (List.getD o0.2.2.2.2.1 (Int.toNat (ix (0:Int) v55 v57)) (ze zw)).2.2.2.1.2.2.1) (ze zJ)).2.2.2.1 != ix (0:Int) v55 v57 then some (false,()) else k2 (v14,v15,v16,v55,v56,wI (v57 + 1),o0))) else k2 (v14,v15,v16,v55,v56,wI (v57 + 1),o0)))) else k0 (v14,v15,wI (v16 + 1))
abbrev zcY (K:Nat) (k0:jH→Option (Bool × Unit)):zcV→Option (Bool × Unit):=zg (fun k2=>zcX k0 k2) K
theorem zDf (K:Nat) (n0:Nat):∀ n,evV Es3 K Tryz.f87 0 (ch [.bool]) [1,0,1,0,0,1,1,0,0,1,1,1,1,0] [n0] zqW n = zg (fun k2=>zcX (evV Es3 K Tryz.f87 0 (ch [.bool]) [1,0,1,0] [] zau n0) k2) n:=zm fun n2 (v14,v15,v16,v55,v56,v57,o0)=>by kernel_rfl
def zav (L2:zcV→Option (Bool × Unit)) (k0:jH→Option (Bool × Unit)) (k1:zcW→Option (Bool × Unit)):zcW→Option (Bool × Unit):=fun (v5,v14,v15,v16,v24,v25,v26,o0) =>
 bif decide (v26 < v25) then inR v26 ((List.length v24):Int) (bif (ix zE v24 v26).2.2.1 == 3 then Option.bind (yi (v5,(ix zE v24 v26).2.2.2.1,())) fun q1=>bif q1.1 then inR (ix zE v24 v26).2.2.2.1 ((List.length o0.2.2.2.2.1):Int) (bif (List.getD o0.2.2.2.2.1 (Int.toNat (ix zE v24 v26).2.2.2.1) (ze zw)).2.2.2.1.2.2.1 != v26 then some (false,()) else k1 (v5,v14,v15,v16,v24,v25,wI (v26 + 1),o0)) else some (false,()) else k1 (v5,v14,v15,v16,v24,v25,wI (v26 + 1),o0)) else Option.bind (zd5 (v5,())) fun q2=>L2 (v14,v15,v16,q2.1,((List.length q2.1):Int),0,o0)
abbrev zcZ (K:Nat) (k0:jH→Option (Bool × Unit)):zcW→Option (Bool × Unit):=zg (fun k1=>zav (zcY K k0) k0 k1) K
theorem zDg (K:Nat) (n0:Nat):∀ n,evV Es3 K Tryz.f87 0 (ch [.bool]) [1,0,1,0,0,1,1,0,0,1,1,0,1,0] [n0] zqX n = zg (fun k1=>zav (zcY K (evV Es3 K Tryz.f87 0 (ch [.bool]) [1,0,1,0] [] zau n0)) (evV Es3 K Tryz.f87 0 (ch [.bool]) [1,0,1,0] [] zau n0) k1) n:=qC (B:=fun L2 k1=>zav L2 (evV Es3 K Tryz.f87 0 (ch [.bool]) [1,0,1,0] [] zau n0) k1) (V1:=fun n1=>evV Es3 K Tryz.f87 0 (ch [.bool]) [1,0,1,0,0,1,1,0,0,1,1,1,1,0] [n0] zqW K) (W1:=fun k1=>(zcY K (evV Es3 K Tryz.f87 0 (ch [.bool]) [1,0,1,0] [] zau n0))) (fun n1=>zDf K n0 K) fun n1 (v5,v14,v15,v16,v24,v25,v26,o0)=>by kernel_rfl
def zaw (L1:zcW→Option (Bool × Unit)) (k0:jH→Option (Bool × Unit)):jH→Option (Bool × Unit):=fun (v14,v15,v16) =>
 bif decide (v16 < v15) then inR v16 ((List.length v14):Int) (Option.bind (yT ((ix zf v14 v16).2.2.2.2.1,some yf,())) fun q0=>L1 (q0.1,v14,v15,v16,(ix zf v14 v16).2.2.1,((List.length (ix zf v14 v16).2.2.1):Int),0,ix zf v14 v16)) else some (true,())
abbrev zqY (K:Nat):jH→Option (Bool × Unit):=zg (fun k0=>zaw (zcZ K k0) k0) K
theorem zDh (K:Nat):∀ n,evV Es3 K Tryz.f87 0 (ch [.bool]) [1,0,1,0] [] zau n = zg (fun k0=>zaw (zcZ K k0) k0) n:=qC (B:=fun L1 k0=>zaw L1 k0) (V1:=fun n0=>evV Es3 K Tryz.f87 0 (ch [.bool]) [1,0,1,0,0,1,1,0,0,1,1,0,1,0] [n0] zqX K) (W1:=fun k0=>(zcZ K k0)) (fun n0=>zDg K n0 K) fun n0 (v14,v15,v16)=>by kernel_rfl
def zns (L0:jH→Option (Bool × Unit)):(qV × Unit)→Option (Bool × Unit):=fun (x0,()) =>
 L0 (x0.2.1.2.1,((List.length x0.2.1.2.1):Int),0)
def zfY:(qV × Unit)→Option (Bool × Unit):=zns (zqY K0)
abbrev zvo:Fun:=⟨87,(ch [qp]),(ch [.bool]),0,zfY⟩
theorem zHu:Sq zvo:=ml3 (d:=false) (S:=fun K=>zns (zqY K)) Tryz.func87 (by kernel_rfl) (fun K=>tr1 (T:=zns) (zDh K K) fun (x0,())=>by kernel_rfl) rfl
def zkM:((List zr) × Unit)→Option ((List Int) × Unit):=fun (x0,()) =>
 Option.bind (zoc (x0,())) fun q0=>Option.bind (zij (q0.1,())) fun q1=>some (q1.1,())
abbrev zxQ:Fun:=⟨346,(ch [(.sl zq)]),(ch [(.sl tI)]),0,zkM⟩
theorem zKr:Sq zxQ:=ms3 (d:=false) (K:=0) Tryz.func346 (by kernel_rfl) (funext fun (x0,())=>by kernel_rfl)
abbrev zeT:Type:=(List zu) × Int × (List Int) × Int × Int × List Int
abbrev zFz:zeT→St:=fun (v0,v1,v14,v15,v16,o0)=>St.mk [(0,.dat (.sl zw) v0),(1,.dat tI v1),(6,.ow 0),(14,.dat (.sl tI) v14),(15,.dat tI v15),(16,.dat tI v16)] [.row tU o0 false]
def zeU (k0:zeT→Option (Int × (Int × Unit))):zeT→Option (Int × (Int × Unit)):=fun (v0,v1,v14,v15,v16,o0) =>
 bif decide (v16 < v15) then inR v16 ((List.length v14):Int) (inR (ix (0:Int) v14 v16) ((List.length v0):Int) (bif (List.getD v0 (Int.toNat (ix (0:Int) v14 v16)) (ze zw)).2.2.2.1.1 == v1 then inR (ix (0:Int) v14 v16) ((List.length v0):Int) (bif decide (List.length o0 + List.length (zh (List.replicate 1 (0:Int)) 0 (List.getD v0 (Int.toNat (ix (0:Int) v14 v16)) (ze zw)).2.2.2.1.2.1) ≤ lim) then k0 (v0,v1,v14,v15,wI (v16 + 1),o0 ++ zh (List.replicate 1 (0:Int)) 0 (List.getD v0 (Int.toNat (ix (0:Int) v14 v16)) (ze zw)).2.2.2.1.2.1) else none) else k0 (v0,v1,v14,v15,wI (v16 + 1),o0))) else Option.bind (zhz (o0,())) fun q3=>some (q3.1,q3.2.1,())
abbrev ztn (K:Nat):zeT→Option (Int × (Int × Unit)):=zg zeU K
theorem zFA (K:Nat):∀ n,evV Es3 K Tryz.f269 0 (ch [tU,tI]) [1,1,1,0,1,0] [] zFz n = zg zeU n:=zm fun n0 (v0,v1,v14,v15,v16,o0)=>by kernel_rfl
def zkN (L0:zeT→Option (Int × (Int × Unit))):((List zu) × (Int × Unit))→Option (Int × (Int × Unit)):=fun (x0,x1,()) =>
 Option.bind (jq (x1,())) fun q0=>bif q0.1 then Option.bind (zmq (x0,())) fun q1=>Option.bind (zd5 (q1.1,())) fun q2=>L0 (x0,x1,q2.1,((List.length q2.1):Int),0,[]) else some (0,1,())
def zkO:((List zu) × Int × Unit)→Option (Int × Int × Unit):=zkN (ztn K0)
abbrev zxR:Fun:=⟨269,(ch [(.sl zw),tI]),(ch [tU,tI]),0,zkO⟩
theorem zKs:Sq zxR:=ml3 (d:=false) (S:=fun K=>zkN (ztn K)) Tryz.func269 (by kernel_rfl) (fun K=>tr1 (T:=zkN) (zFA K K) fun (x0,x1,())=>by kernel_rfl) rfl
def zkP:(zd × (Int × Unit))→Option (Int × (Int × Unit)):=fun (x0,x1,()) =>
 Option.bind (jq (x1,())) fun q0=>bif q0.1 then Option.bind (zhH (x0,x1,some zlL,())) fun q1=>bif q1.2.1 != 0 then some (0,q1.2.1,()) else Option.bind (zhH (x0,x1,some zlM,())) fun q2=>bif q2.2.1 != 0 then some (0,q2.2.1,()) else Option.bind (zkk (q1.1,q2.1,())) fun q3=>some (q3.1,q3.2.1,()) else some (0,1,())
abbrev zxS:Fun:=⟨173,(ch [zo,tI]),(ch [tU,tI]),0,zkP⟩
theorem zKt:Sq zxS:=ms3 (d:=false) (K:=0) Tryz.func173 (by kernel_rfl) (funext fun (x0,x1,())=>by kernel_rfl)
abbrev zc0:Type:=(List (List Int)) × Int × Int × za
abbrev zqZ:zc0→St:=fun (v1,v5,v6,o0)=>St.mk [(1,.dat (.sl (.sl tI)) v1),(2,.bp 0 []),(5,.dat tI v5),(6,.dat tI v6)] [.bx (.dat zl o0) false]
abbrev yl:Type:=(List (List Int)) × Int × za
abbrev zq0:yl→St:=fun (v1,v5,o0)=>St.mk [(1,.dat (.sl (.sl tI)) v1),(2,.bp 0 []),(5,.dat tI v5)] [.bx (.dat zl o0) false]
def zgD (k0:yl→Option (Bool × Unit)) (k1:zc0→Option (Bool × Unit)):zc0→Option (Bool × Unit):=fun (v1,v5,v6,o0) =>
 inR v5 ((List.length v1):Int) (bif decide (v6 < ((List.length (List.getD v1 (Int.toNat v5) ([]:List Int))):Int)) then inR v5 ((List.length v1):Int) (inR v6 ((List.length (List.getD v1 (Int.toNat v5) ([]:List Int))):Int) (bif decide (List.getD (List.getD v1 (Int.toNat v5) ([]:List Int)) (Int.toNat v6) (0:Int) < 0) then some (false,()) else inR v5 ((List.length v1):Int) (inR v6 ((List.length (List.getD v1 (Int.toNat v5) ([]:List Int))):Int) (bif decide (List.getD (List.getD v1 (Int.toNat v5) ([]:List Int)) (Int.toNat v6) (0:Int) > 2) then some (false,()) else k1 (v1,v5,wI (v6 + 1),o0))))) else k0 (v1,wI (v5 + 1),o0))
abbrev zgE (K:Nat) (k0:yl→Option (Bool × Unit)):zc0→Option (Bool × Unit):=zg (fun k1=>zgD k0 k1) K
theorem zDi (K:Nat) (n0:Nat):∀ n,evV Es3 K Tryz.f131 0 (ch [.bool]) [1,1,0,1,0,0,1,0,0,1,1,0] [n0] zqZ n = zg (fun k1=>zgD (evV Es3 K Tryz.f131 0 (ch [.bool]) [1,1,0,1,0] [] zq0 n0) k1) n:=zm fun n1 (v1,v5,v6,o0)=>by kernel_rfl
def zc1 (L1:zc0→Option (Bool × Unit)) (k0:yl→Option (Bool × Unit)):yl→Option (Bool × Unit):=fun (v1,v5,o0) =>
 bif decide (v5 < ((List.length v1):Int)) then inR v5 ((List.length v1):Int) (bif ((List.length (List.getD v1 (Int.toNat v5) ([]:List Int))):Int) != ((List.length o0.2.2.1):Int) then some (false,()) else inR v5 ((List.length v1):Int) (inR v5 ((List.length o0.2.2.2.1):Int) (inR (ix zD o0.2.2.2.1 v5).2.1 ((List.length (List.getD v1 (Int.toNat v5) ([]:List Int))):Int) (bif List.getD (List.getD v1 (Int.toNat v5) ([]:List Int)) (Int.toNat (ix zD o0.2.2.2.1 v5).2.1) (0:Int) != 2 then some (false,()) else L1 (v1,v5,0,o0))))) else some (true,())
abbrev zkQ (K:Nat):yl→Option (Bool × Unit):=zg (fun k0=>zc1 (zgE K k0) k0) K
theorem zDj (K:Nat):∀ n,evV Es3 K Tryz.f131 0 (ch [.bool]) [1,1,0,1,0] [] zq0 n = zg (fun k0=>zc1 (zgE K k0) k0) n:=qC (B:=fun L1 k0=>zc1 L1 k0) (V1:=fun n0=>evV Es3 K Tryz.f131 0 (ch [.bool]) [1,1,0,1,0,0,1,0,0,1,1,0] [n0] zqZ K) (W1:=fun k0=>(zgE K k0)) (fun n0=>zDi K n0 K) fun n0 (v1,v5,o0)=>by kernel_rfl
def zi4 (L0:yl→Option (Bool × Unit)):(za × ((List (List Int)) × Unit))→Option (Bool × Unit):=fun (x0,x1,()) =>
 Option.bind (zfX (x0,())) fun q0=>bif q0.1 then bif ((List.length x1):Int) != ((List.length x0.2.2.2.1):Int) then some (false,()) else L0 (x1,0,x0) else some (false,())
def zfZ:(za × (List (List Int)) × Unit)→Option (Bool × Unit):=zi4 (zkQ K0)
abbrev zvp:Fun:=⟨131,(ch [zl,(.sl (.sl tI))]),(ch [.bool]),0,zfZ⟩
theorem zHv:Sq zvp:=ml3 (d:=false) (S:=fun K=>zi4 (zkQ K)) Tryz.func131 (by kernel_rfl) (fun K=>tr1 (T:=zi4) (zDj K K) fun (x0,x1,())=>by kernel_rfl) rfl
abbrev zc2:Type:=(List zr) × Int
abbrev zDk:zc2→St:=fun (v0,v3)=>St.mk [(0,.dat (.sl zq) v0),(3,.dat tI v3)] []
def zc3 (k0:zc2→Option (Bool × Unit)):zc2→Option (Bool × Unit):=fun (v0,v3) =>
 bif decide (v3 < ((List.length v0):Int)) then inR v3 ((List.length v0):Int) (bif (ix zK v0 v3).1 then inR v3 ((List.length v0):Int) (bif (ix zK v0 v3).1 then inR v3 ((List.length v0):Int) (Option.bind (ziJ (ix zK v0 v3,())) fun q0=>bif q0.1 then inR v3 ((List.length v0):Int) (Option.bind (zmm (v0,v3,(ix zK v0 v3).2.2.2.2.2.2.2.2.2.1,())) fun q1=>bif q1.1 then some (false,()) else k0 (v0,wI (v3 + 1))) else some (false,())) else k0 (v0,wI (v3 + 1))) else inR v3 ((List.length v0):Int) (bif !eqI zq (ix zK v0 v3) (ze zq) then some (false,()) else inR v3 ((List.length v0):Int) (bif (ix zK v0 v3).1 then inR v3 ((List.length v0):Int) (Option.bind (ziJ (ix zK v0 v3,())) fun q2=>bif q2.1 then inR v3 ((List.length v0):Int) (Option.bind (zmm (v0,v3,(ix zK v0 v3).2.2.2.2.2.2.2.2.2.1,())) fun q3=>bif q3.1 then some (false,()) else k0 (v0,wI (v3 + 1))) else some (false,())) else k0 (v0,wI (v3 + 1))))) else some (true,())
abbrev zq1 (K:Nat):zc2→Option (Bool × Unit):=zg zc3 K
theorem zDl (K:Nat):∀ n,evV Es3 K Tryz.f200 0 (ch [.bool]) [1,0,1,0] [] zDk n = zg zc3 n:=zm fun n0 (v0,v3)=>by kernel_rfl
def znt (L0:zc2→Option (Bool × Unit)):((List zr) × Unit)→Option (Bool × Unit):=fun (x0,()) =>
 L0 (x0,0)
def znu:((List zr) × Unit)→Option (Bool × Unit):=znt (zq1 K0)
abbrev zvq:Fun:=⟨200,(ch [(.sl zq)]),(ch [.bool]),0,znu⟩
theorem zHw:Sq zvq:=ml3 (d:=false) (S:=fun K=>znt (zq1 K)) Tryz.func200 (by kernel_rfl) (fun K=>tr1 (T:=znt) (zDl K K) fun (x0,())=>by kernel_rfl) rfl
abbrev zc4:Type:=(List zI) × Int
abbrev zDm:zc4→St:=fun (v0,v3)=>St.mk [(0,.dat (.sl zx) v0),(3,.dat tI v3)] []
def zc5 (k0:zc4→Option (Bool × Unit)):zc4→Option (Bool × Unit):=fun (v0,v3) =>
 bif decide (v3 < ((List.length v0):Int)) then inR v3 ((List.length v0):Int) (Option.bind (zmr (ix yb v0 v3,())) fun q0=>bif q0.1 then bif decide (v3 > 0) then inR v3 ((List.length v0):Int) (inR (wI (v3 - 1)) ((List.length v0):Int) (Option.bind (zhu (ix yb v0 v3,List.getD v0 (Int.toNat (wI (v3 - 1))) (ze zx),())) fun q1=>bif q1.1 then k0 (v0,wI (v3 + 1)) else some (false,()))) else k0 (v0,wI (v3 + 1)) else some (false,())) else some (true,())
abbrev zq2 (K:Nat):zc4→Option (Bool × Unit):=zg zc5 K
theorem zDn (K:Nat):∀ n,evV Es3 K Tryz.f201 0 (ch [.bool]) [1,0,1,0] [] zDm n = zg zc5 n:=zm fun n0 (v0,v3)=>by kernel_rfl
def znv (L0:zc4→Option (Bool × Unit)):((List zI) × Unit)→Option (Bool × Unit):=fun (x0,()) =>
 L0 (x0,0)
def znw:((List zI) × Unit)→Option (Bool × Unit):=znv (zq2 K0)
abbrev zvr:Fun:=⟨201,(ch [(.sl zx)]),(ch [.bool]),0,znw⟩
theorem zHx:Sq zvr:=ml3 (d:=false) (S:=fun K=>znv (zq2 K)) Tryz.func201 (by kernel_rfl) (fun K=>tr1 (T:=znv) (zDn K K) fun (x0,())=>by kernel_rfl) rfl
def zaF:(za × (zd × (zL × (Int × Unit))))→Option (Bool × Unit):=fun (x0,x1,x2,x3,()) =>
 Option.bind (zfQ (x1,x2,())) fun q0=>bif q0.1 then Option.bind (zgf (x0,x2.1,x3,())) fun q1=>bif q1.1 then some (true,()) else some (false,()) else some (false,())
abbrev zvs:Fun:=⟨207,(ch [zl,zo,zP,tI]),(ch [.bool]),0,zaF⟩
theorem zHy:Sq zvs:=ms3 (d:=false) (K:=0) Tryz.func207 (by kernel_rfl) (funext fun (x0,x1,x2,x3,())=>by kernel_rfl)
def zi5:(za × (zd × (pMe × (Int × (Bool × Unit)))))→Option (Bool × Unit):=fun (x0,x1,x2,x3,x4,()) =>
 bif x3 == x2.1 then some (false,()) else inR x3 ((List.length x1.2.2.2.2.2.1):Int) (bif decide (ix (0:Int) x1.2.2.2.2.2.1 x3 < 0) then some (false,()) else inR x3 ((List.length x0.2.1):Int) (Option.bind (zgf (x0,x2.2.1,ix (0:Int) x0.2.1 x3,())) fun q0=>bif q0.1 then bif !x4 then some (true,()) else inR x3 ((List.length x0.2.1):Int) (inR (ix (0:Int) x0.2.1 x3) ((List.length x1.2.1):Int) (inR x3 ((List.length x1.2.2.2.2.2.1):Int) (inR (ix (0:Int) x1.2.2.2.2.2.1 x3) ((List.length (List.getD x1.2.1 (Int.toNat (ix (0:Int) x0.2.1 x3)) (ze zv)).2.2.2.2.2.2.1):Int) (Option.bind (zkn (x1,x2,())) fun q1=>bif eqI zP (List.getD (List.getD x1.2.1 (Int.toNat (ix (0:Int) x0.2.1 x3)) (ze zv)).2.2.2.2.2.2.1 (Int.toNat (ix (0:Int) x1.2.2.2.2.2.1 x3)) (ze zP)) q1.1 then some (true,()) else some (false,()))))) else some (false,())))
abbrev zvt:Fun:=⟨124,(ch [zl,zo,tMe,tI,.bool]),(ch [.bool]),0,zi5⟩
theorem zHz:Sq zvt:=ms3 (d:=false) (K:=0) Tryz.func124 (by kernel_rfl) (funext fun (x0,x1,x2,x3,x4,())=>by kernel_rfl)
theorem zQU {l:List Int} {g:Int × Unit→Option (Bool × Unit)} {p:Int→Bool} (hl:l.length ≤ Go.maxLen) (hp:∀ x ∈ l,g (x,()) = some (p x,())):vJ (l,some g,()) = some (qx p l 0,()):=qF (τ:=tI) (B:=zaU) (fun _ _ _ _ _=>rfl) hl hp
theorem zR7 {G:FH} (hE:EnvOk Tryz.prog G E0):zI2 Tryz.prog G 104 zCn:=zQT (specI:=vJ) (zmM G hE) fun xs p ha hl=>by
 refine ⟨_,zQU (p:=zne p) (by unfold Go.maxLen; omega) fun x hx=>?_,zJB xs 0 |>.imp id fun ⟨k,h1,h2,h3,h4⟩=>⟨k,h1,(show qx (zne p) xs 0 = _ from h2.trans (by omega)),h3,h4⟩⟩
 obtain ⟨⟨b,⟨⟩⟩,hy⟩:=Option.isSome_iff_exists.1 (ha x hx)
 unfold zne
 rw [hy]
def zxT:List zU × Int × Unit→Option (List Int × Unit):=fun (x0,x1,()) =>
 Option.bind (zkK (x0,())) fun q0=>Option.bind (zpp (q0.1,())) fun q1=>Option.bind (zR4 (fun z=>zzJ (z.1,some x0,some x1,())) q1.1) fun ys=>some (ys,())
abbrev zGC:Fun:=⟨58,ch [.sl zz,tI],ch [.sl tI],0,zxT⟩
theorem zPV (K:Nat):evF ((En E0 false L3).del 104) K Tryz.f58 0 (ch [.sl zz,tI]) (ch [.sl tI]) = zxT:=funext fun (x0,x1,())=>by kernel_rfl
theorem zPW:Sq zGC:=fun G hE=>zna.mk zOk ((h3.env hE).del (zR7 hE)) Tryz.func58 (by kernel_rfl) (by kernel_rfl) fun x y hy=>⟨0,by rw [zPV]; exact hy⟩
def zuu:((List zU) × (Int × (Int × Unit)))→Option (zU × (Int × Unit)):=fun (x0,x1,x2,()) =>
 Option.bind (zkK (x0,())) fun q0=>Option.bind (zlU (q0.1,x1,())) fun q1=>bif q1.1 then inR x1 ((List.length x0):Int) (bif (ix ya x0 x1).2.2.2.1 != x2 then some ((false,0,0,0,ByteArray.mk #[],()),3,()) else inR x1 ((List.length x0):Int) (some (ix ya x0 x1,0,()))) else some ((false,0,0,0,ByteArray.mk #[],()),3,())
abbrev zDo:Fun:=⟨56,(ch [(.sl zz),tI,tI]),(ch [zz,tI]),0,zuu⟩
theorem zOv:Sq zDo:=ms3 (d:=false) (K:=0) Tryz.func56 (by kernel_rfl) (funext fun (x0,x1,x2,())=>by kernel_rfl)
abbrev L4:List Fun:=ztl :: zxP :: zzV :: zqV :: zDe :: zzW :: zvn :: ztm :: zvo :: zxQ :: zxR :: zxS :: zvp :: zvq :: zvr :: zvs :: zvt :: zGC :: zDo :: L3
theorem h4:Sds Tryz.prog E0 L4:=⟨zFx,zKq,zMp,zDd,zOu,zMq,zHt,zFy,zHu,zKr,zKs,zKt,zHv,zHw,zHx,zHy,zHz,zPW,zOv,h3⟩
theorem ms4 {d:Bool} {F:Fun} {f:Go.Func} {K:Nat} (hf:Tryz.prog.funcs[F.id]? = some f) (ho:jJ f = true) (h:evF (En E0 d L4) K f F.md F.a F.r = F.spec):Sd Tryz.prog E0 F:=mkS h4 hf ho h
theorem ml4 {d:Bool} {F:Fun} {f:Go.Func} {S:Nat→F.a.I→Option F.r.I} (hf:Tryz.prog.funcs[F.id]? = some f) (ho:jJ f = true) (h:∀ K,evF (En E0 d L4) K f F.md F.a F.r = S K) (e:S K0 = F.spec):Sd Tryz.prog E0 F:=mkS h4 hf ho ((h K0).trans e)
abbrev Es4:Env:=En E0 false L4
end
end Go.Proofs.YtkcakhbkoeimdaaGreatDoor
end
section
namespace Go.Proofs.YtkcakhbkoeimdaaGreatDoor
open Go.Ev
noncomputable section
def zc6:(qD × Unit)→Option (Bool × Unit):=fun (x0,()) =>
 Option.bind (zbH (x0.1,())) fun q0=>bif q0.1 then Option.bind (zbH (x0.2.1,())) fun q1=>bif q1.1 then Option.bind (qq (x0.2.2.1,0,3,())) fun q2=>bif q2.1 then some (false,()) else some (true,()) else some (true,()) else some (true,())
abbrev zm0:Fun:=⟨303,(ch [qH]),(ch [.bool]),0,zc6⟩
theorem zxU:Sq zm0:=ms4 (d:=false) (K:=0) Tryz.func303 (by kernel_rfl) (funext fun (x0,())=>by kernel_rfl)
def zhK:(qU × Unit)→Option (Bool × Unit):=fun (x0,()) =>
 bif x0.1 then Option.bind (zbH (x0.2.1,())) fun q0=>bif q0.1 then bif x0.1 then some (false,()) else bif !ByteArray.toList x0.2.1 == ByteArray.toList (ByteArray.mk #[]) then some (true,()) else some (false,()) else some (true,()) else bif x0.1 then some (false,()) else bif !ByteArray.toList x0.2.1 == ByteArray.toList (ByteArray.mk #[]) then some (true,()) else some (false,())
abbrev zto:Fun:=⟨239,(ch [qm]),(ch [.bool]),0,zhK⟩
theorem zFB:Sq zto:=ms4 (d:=false) (K:=0) Tryz.func239 (by kernel_rfl) (funext fun (x0,())=>by kernel_rfl)
def zi6:(qb × Unit)→Option (Bool × Unit):=fun (x0,()) =>
 bif x0.1 then Option.bind (zbH (x0.2.1,())) fun q0=>bif q0.1 then Option.bind (zul (x0,())) fun q1=>Option.bind (zcG (q1.1,())) fun q2=>bif q2.1 then some (false,()) else some (true,()) else some (true,()) else bif !eqI zJ x0 (ze zJ) then some (true,()) else some (false,())
abbrev zvu:Fun:=⟨244,(ch [zJ]),(ch [.bool]),0,zi6⟩
theorem zHA:Sq zvu:=ms4 (d:=false) (K:=0) Tryz.func244 (by kernel_rfl) (funext fun (x0,())=>by kernel_rfl)
def zkR:(zU × Unit)→Option (Bool × Unit):=fun (x0,()) =>
 bif x0.1 then Option.bind (zhx (x0,())) fun q0=>bif q0.1 then Option.bind (zdQ (x0.2.2.2.2.1,())) fun q1=>bif q1.1 then some (false,()) else some (true,()) else some (true,()) else bif !eqI zz x0 (ze zz) then some (true,()) else some (false,())
abbrev zxV:Fun:=⟨189,(ch [zz]),(ch [.bool]),0,zkR⟩
theorem zKu:Sq zxV:=ms4 (d:=false) (K:=0) Tryz.func189 (by kernel_rfl) (funext fun (x0,())=>by kernel_rfl)
def zi7:((List zu) × Unit)→Option (Bool × Unit):=fun (x0,()) =>
 Option.bind (jm (x0,some zgC,())) fun q0=>bif q0.1 then some (false,()) else some (true,())
abbrev zvv:Fun:=⟨143,(ch [(.sl zw)]),(ch [.bool]),0,zi7⟩
theorem zHB:Sq zvv:=ms4 (d:=false) (K:=0) Tryz.func143 (by kernel_rfl) (funext fun (x0,())=>by kernel_rfl)
abbrev zeV:Type:=Int × (List zr) × Int × Int × List (Int × Int)
abbrev zFC:zeV→St:=fun (v4,v8,v9,v10,o0)=>St.mk [(3,.om 0),(4,.dat tI v4),(8,.dat (.sl zq) v8),(9,.dat tI v9),(10,.dat tI v10)] [.mp tI tI o0]
def zeW (k0:zeV→Option (Bool × Unit)):zeV→Option (Bool × Unit):=fun (v4,v8,v9,v10,o0) =>
 bif decide (v10 < v9) then inR v10 ((List.length v8):Int) (bif (ix zK v8 v10).1 then Option.bind (zod (ix zK v8 v10,())) fun q0=>bif q0.1 then bif (ix zK v8 v10).1 then bif (ix zK v8 v10).1 then k0 (wI (v4 + 1),v8,v9,wI (v10 + 1),jM tI o0 (ix zK v8 v10).2.2.2.2.2.2.2.2.2.1 (wI (zaR tI (0:Int) o0 (ix zK v8 v10).2.2.2.2.2.2.2.2.2.1 + 1))) else k0 (v4,v8,v9,wI (v10 + 1),o0) else bif !eqI zq (ix zK v8 v10) (ze zq) then some (false,()) else bif (ix zK v8 v10).1 then k0 (wI (v4 + 1),v8,v9,wI (v10 + 1),jM tI o0 (ix zK v8 v10).2.2.2.2.2.2.2.2.2.1 (wI (zaR tI (0:Int) o0 (ix zK v8 v10).2.2.2.2.2.2.2.2.2.1 + 1))) else k0 (v4,v8,v9,wI (v10 + 1),o0) else some (false,()) else bif (ix zK v8 v10).1 then bif (ix zK v8 v10).1 then k0 (wI (v4 + 1),v8,v9,wI (v10 + 1),jM tI o0 (ix zK v8 v10).2.2.2.2.2.2.2.2.2.1 (wI (zaR tI (0:Int) o0 (ix zK v8 v10).2.2.2.2.2.2.2.2.2.1 + 1))) else k0 (v4,v8,v9,wI (v10 + 1),o0) else bif !eqI zq (ix zK v8 v10) (ze zq) then some (false,()) else bif (ix zK v8 v10).1 then k0 (wI (v4 + 1),v8,v9,wI (v10 + 1),jM tI o0 (ix zK v8 v10).2.2.2.2.2.2.2.2.2.1 (wI (zaR tI (0:Int) o0 (ix zK v8 v10).2.2.2.2.2.2.2.2.2.1 + 1))) else k0 (v4,v8,v9,wI (v10 + 1),o0)) else bif ((List.length o0):Int) == v4 then some (true,()) else some (false,())
abbrev ztp (K:Nat):zeV→Option (Bool × Unit):=zg zeW K
theorem zFD (K:Nat):∀ n,evV Es4 K Tryz.f145 0 (ch [.bool]) [1,1,1,0,1,0] [] zFC n = zg zeW n:=zm fun n0 (v4,v8,v9,v10,o0)=>by kernel_rfl
def zpt (L0:zeV→Option (Bool × Unit)):((List zr) × Unit)→Option (Bool × Unit):=fun (x0,()) =>
 L0 (0,x0,((List.length x0):Int),0,[])
def zpu:((List zr) × Unit)→Option (Bool × Unit):=zpt (ztp K0)
abbrev zxW:Fun:=⟨145,(ch [(.sl zq)]),(ch [.bool]),0,zpu⟩
theorem zKv:Sq zxW:=ml4 (d:=false) (S:=fun K=>zpt (ztp K)) Tryz.func145 (by kernel_rfl) (fun K=>tr1 (T:=zpt) (zFD K K) fun (x0,())=>by kernel_rfl) rfl
abbrev zc7:Type:=(List zI) × (List zI) × Int × Int
abbrev zDp:zc7→St:=fun (v0,v5,v6,v7)=>St.mk [(0,.dat (.sl zx) v0),(5,.dat (.sl zx) v5),(6,.dat tI v6),(7,.dat tI v7)] []
def zc8 (k0:zc7→Option (Bool × Unit)):zc7→Option (Bool × Unit):=fun (v0,v5,v6,v7) =>
 bif decide (v7 < v6) then inR v7 ((List.length v5):Int) (Option.bind (zms (ix yb v5 v7,())) fun q0=>bif q0.1 then bif decide (v7 > 0) then inR (wI (v7 - 1)) ((List.length v0):Int) (Option.bind (zi2 (List.getD v0 (Int.toNat (wI (v7 - 1))) (ze zx),ix yb v5 v7,())) fun q1=>bif decide (q1.1 ≥ 0) then some (false,()) else k0 (v0,v5,v6,wI (v7 + 1))) else k0 (v0,v5,v6,wI (v7 + 1)) else some (false,())) else some (true,())
abbrev zq3 (K:Nat):zc7→Option (Bool × Unit):=zg zc8 K
theorem zDq (K:Nat):∀ n,evV Es4 K Tryz.f146 0 (ch [.bool]) [1,0,1,0] [] zDp n = zg zc8 n:=zm fun n0 (v0,v5,v6,v7)=>by kernel_rfl
def znx (L0:zc7→Option (Bool × Unit)):((List zI) × Unit)→Option (Bool × Unit):=fun (x0,()) =>
 L0 (x0,x0,((List.length x0):Int),0)
def zny:((List zI) × Unit)→Option (Bool × Unit):=znx (zq3 K0)
abbrev zvw:Fun:=⟨146,(ch [(.sl zx)]),(ch [.bool]),0,zny⟩
theorem zHC:Sq zvw:=ml4 (d:=false) (S:=fun K=>znx (zq3 K)) Tryz.func146 (by kernel_rfl) (fun K=>tr1 (T:=znx) (zDq K K) fun (x0,())=>by kernel_rfl) rfl
abbrev zc9:Type:=(List zp) × Int × Int × qV
abbrev zDr:zc9→St:=fun (v10,v11,v12,o0)=>St.mk [(1,.bp 0 []),(10,.dat (.sl zv) v10),(11,.dat tI v11),(12,.dat tI v12)] [.bx (.dat qp o0) false]
def zda (k0:zc9→Option (Bool × Unit)):zc9→Option (Bool × Unit):=fun (v10,v11,v12,o0) =>
 bif decide (v12 < v11) then inR v12 ((List.length v10):Int) (Option.bind (znr (o0,v12,())) fun q0=>Option.bind (zjx ((ix zf v10 v12).2.1,some fun z=>zgu (z.1,some q0.1,()),())) fun q1=>bif q1.1 then Option.bind (yW ((ix zf v10 v12).2.2.1,some fun z=>zcr (z.1,some q0.1,()),())) fun q2=>bif q2.1 then Option.bind (zkE ((ix zf v10 v12).2.2.2.2.2.2.1,q0.1,())) fun q3=>bif q3.1 then k0 (v10,v11,wI (v12 + 1),o0) else some (false,()) else some (false,()) else Option.bind (yW ((ix zf v10 v12).2.2.1,some fun z=>zcr (z.1,some q0.1,()),())) fun q4=>bif q4.1 then some (false,()) else some (false,())) else some (true,())
abbrev zq4 (K:Nat):zc9→Option (Bool × Unit):=zg zda K
theorem zDs (K:Nat):∀ n,evV Es4 K Tryz.f85 0 (ch [.bool]) [1,0,1,0] [] zDr n = zg zda n:=zm fun n0 (v10,v11,v12,o0)=>by kernel_rfl
def znz (L0:zc9→Option (Bool × Unit)):(qV × Unit)→Option (Bool × Unit):=fun (x0,()) =>
 L0 (x0.2.1.2.1,((List.length x0.2.1.2.1):Int),0,x0)
def zf0:(qV × Unit)→Option (Bool × Unit):=znz (zq4 K0)
abbrev zvx:Fun:=⟨85,(ch [qp]),(ch [.bool]),0,zf0⟩
theorem zHD:Sq zvx:=ml4 (d:=false) (S:=fun K=>znz (zq4 K)) Tryz.func85 (by kernel_rfl) (fun K=>tr1 (T:=znz) (zDs K K) fun (x0,())=>by kernel_rfl) rfl
abbrev zf1:Type:=(List zr) × Int × (List Int) × Int × Int × List Int
abbrev zHE:zf1→St:=fun (v0,v1,v13,v14,v15,o0)=>St.mk [(0,.dat (.sl zq) v0),(1,.dat tI v1),(6,.ow 0),(13,.dat (.sl tI) v13),(14,.dat tI v14),(15,.dat tI v15)] [.row tU o0 false]
def zf2 (k0:zf1→Option (Int × (Int × Unit))):zf1→Option (Int × (Int × Unit)):=fun (v0,v1,v13,v14,v15,o0) =>
 bif decide (v15 < v14) then inR v15 ((List.length v13):Int) (inR (ix (0:Int) v13 v15) ((List.length v0):Int) (Option.bind (ziT (List.getD v0 (Int.toNat (ix (0:Int) v13 v15)) (ze zq),())) fun q2=>bif q2.1 == v1 then inR (ix (0:Int) v13 v15) ((List.length v0):Int) (bif decide (List.length o0 + List.length (zh (List.replicate 1 (0:Int)) 0 (List.getD v0 (Int.toNat (ix (0:Int) v13 v15)) (ze zq)).2.2.2.2.2.2.2.2.1) ≤ lim) then k0 (v0,v1,v13,v14,wI (v15 + 1),o0 ++ zh (List.replicate 1 (0:Int)) 0 (List.getD v0 (Int.toNat (ix (0:Int) v13 v15)) (ze zq)).2.2.2.2.2.2.2.2.1) else none) else k0 (v0,v1,v13,v14,wI (v15 + 1),o0))) else Option.bind (zhz (o0,())) fun q3=>some (q3.1,q3.2.1,())
abbrev zvy (K:Nat):zf1→Option (Int × (Int × Unit)):=zg zf2 K
theorem zHF (K:Nat):∀ n,evV Es4 K Tryz.f268 0 (ch [tU,tI]) [1,1,1,0,1,0] [] zHE n = zg zf2 n:=zm fun n0 (v0,v1,v13,v14,v15,o0)=>by kernel_rfl
def zmt (L0:zf1→Option (Int × (Int × Unit))):((List zr) × (Int × Unit))→Option (Int × (Int × Unit)):=fun (x0,x1,()) =>
 Option.bind (jq (x1,())) fun q0=>bif q0.1 then Option.bind (zkM (x0,())) fun q1=>L0 (x0,x1,q1.1,((List.length q1.1):Int),0,[]) else some (0,1,())
def zmu:((List zr) × Int × Unit)→Option (Int × Int × Unit):=zmt (zvy K0)
abbrev zzX:Fun:=⟨268,(ch [(.sl zq),tI]),(ch [tU,tI]),0,zmu⟩
theorem zMr:Sq zzX:=ml4 (d:=false) (S:=fun K=>zmt (zvy K)) Tryz.func268 (by kernel_rfl) (fun K=>tr1 (T:=zmt) (zHF K K) fun (x0,x1,())=>by kernel_rfl) rfl
abbrev zbI:Type:=Int × za × zd
abbrev zpv:zbI→St:=fun (v9,o0,o1)=>St.mk [(2,.bp 0 []),(3,.bp 1 []),(9,.dat tI v9)] [.bx (.dat zl o0) false,.bx (.dat zo o1) false]
abbrev zbJ:Type:=Int × za × zd
abbrev zpw:zbJ→St:=fun (v7,o0,o1)=>St.mk [(2,.bp 0 []),(3,.bp 1 []),(7,.dat tI v7)] [.bx (.dat zl o0) false,.bx (.dat zo o1) false]
abbrev zbK:Type:=Int × za × zd
abbrev zBn:zbK→St:=fun (v5,o0,o1)=>St.mk [(2,.bp 0 []),(3,.bp 1 []),(5,.dat tI v5)] [.bx (.dat zl o0) false,.bx (.dat zo o1) false]
def zfJ (k2:zbI→Option (Bool × Unit)):zbI→Option (Bool × Unit):=fun (v9,o0,o1) =>
 bif decide (v9 < ((List.length o1.2.2.2.2.2.1):Int)) then inR v9 ((List.length o1.2.2.2.2.2.1):Int) (bif ix (0:Int) o1.2.2.2.2.2.1 v9 != -1 then inR v9 ((List.length o1.2.2.2.2.2.1):Int) (Option.bind (jV (o0,ix (0:Int) o1.2.2.2.2.2.1 v9,())) fun q6=>bif q6.1 then k2 (wI (v9 + 1),o0,o1) else some (false,())) else k2 (wI (v9 + 1),o0,o1)) else some (true,())
abbrev zbL (K:Nat):zbI→Option (Bool × Unit):=zg zfJ K
theorem zBo (K:Nat):∀ n,evV Es4 K Tryz.f108 0 (ch [.bool]) [1,1,1,1,0,1,0] [] zpv n = zg zfJ n:=zm fun n2 (v9,o0,o1)=>by kernel_rfl
def zbM (L2:zbI→Option (Bool × Unit)) (k1:zbJ→Option (Bool × Unit)):zbJ→Option (Bool × Unit):=fun (v7,o0,o1) =>
 bif decide (v7 < ((List.length o1.2.2.2.2.1):Int)) then inR v7 ((List.length o1.2.2.2.2.1):Int) (bif decide ((ix yb o1.2.2.2.2.1 v7).2.1 ≥ ((List.length o0.2.1):Int)) then some (false,()) else inR (ix yb o1.2.2.2.2.1 v7).2.1 ((List.length o0.2.1):Int) (bif (ix yb o1.2.2.2.2.1 v7).2.2.1 != List.getD o0.2.1 (Int.toNat (ix yb o1.2.2.2.2.1 v7).2.1) (0:Int) then some (false,()) else Option.bind (jV (o0,(ix yb o1.2.2.2.2.1 v7).2.2.2.1,())) fun q5=>bif q5.1 then bif decide ((ix yb o1.2.2.2.2.1 v7).1 > o1.1) then some (false,()) else k1 (wI (v7 + 1),o0,o1) else some (false,()))) else L2 (0,o0,o1)
abbrev zbN (K:Nat):zbJ→Option (Bool × Unit):=zg (fun k1=>zbM (zbL K) k1) K
theorem zBp (K:Nat):∀ n,evV Es4 K Tryz.f108 0 (ch [.bool]) [1,1,1,0,1,0] [] zpw n = zg (fun k1=>zbM (zbL K) k1) n:=qC (B:=fun L2 k1=>zbM L2 k1) (V1:=fun n1=>evV Es4 K Tryz.f108 0 (ch [.bool]) [1,1,1,1,0,1,0] [] zpv K) (W1:=fun k1=>(zbL K)) (fun n1=>zBo K K) fun n1 (v7,o0,o1)=>by kernel_rfl
def zbO (L1:zbJ→Option (Bool × Unit)) (k0:zbK→Option (Bool × Unit)):zbK→Option (Bool × Unit):=fun (v5,o0,o1) =>
 bif decide (v5 < ((List.length o1.2.2.2.1):Int)) then inR v5 ((List.length o1.2.2.2.1):Int) (bif (ix zK o1.2.2.2.1 v5).1 then bif decide ((ix zK o1.2.2.2.1 v5).2.1 ≥ ((List.length o0.1):Int)) then some (false,()) else Option.bind (jV (o0,(ix zK o1.2.2.2.1 v5).2.2.1,())) fun q4=>bif q4.1 then bif decide ((ix zK o1.2.2.2.1 v5).2.2.2.2.2.2.2.2.2.1 ≥ ((List.length o1.2.2.2.2.1):Int)) then some (false,()) else k0 (wI (v5 + 1),o0,o1) else some (false,()) else k0 (wI (v5 + 1),o0,o1)) else L1 (0,o0,o1)
abbrev zjA (K:Nat):zbK→Option (Bool × Unit):=zg (fun k0=>zbO (zbN K) k0) K
theorem zBq (K:Nat):∀ n,evV Es4 K Tryz.f108 0 (ch [.bool]) [1,1,0,1,0] [] zBn n = zg (fun k0=>zbO (zbN K) k0) n:=qC (B:=fun L1 k0=>zbO L1 k0) (V1:=fun n0=>evV Es4 K Tryz.f108 0 (ch [.bool]) [1,1,1,0,1,0] [] zpw K) (W1:=fun k0=>(zbN K)) (fun n0=>zBp K K) fun n0 (v5,o0,o1)=>by kernel_rfl
def zhL (L0:zbK→Option (Bool × Unit)):(za × (zd × Unit))→Option (Bool × Unit):=fun (x0,x1,()) =>
 Option.bind (zfZ (x0,x1.2.2.1,())) fun q0=>bif q0.1 then Option.bind (znu (x1.2.2.2.1,())) fun q1=>bif q1.1 then Option.bind (znw (x1.2.2.2.2.1,())) fun q2=>bif q2.1 then Option.bind (zfQ (x1,ze zP,())) fun q3=>bif q3.1 then L0 (0,x0,x1) else some (false,()) else some (false,()) else some (false,()) else some (false,())
def zhM:(za × zd × Unit)→Option (Bool × Unit):=zhL (zjA K0)
abbrev ztq:Fun:=⟨108,(ch [zl,zo]),(ch [.bool]),0,zhM⟩
theorem zFE:Sq ztq:=ml4 (d:=false) (S:=fun K=>zhL (zjA K)) Tryz.func108 (by kernel_rfl) (fun K=>tr1 (T:=zhL) (zBq K K) fun (x0,x1,())=>by kernel_rfl) rfl
def zkS:(za × (zd × (Int × (Int × Unit))))→Option (Bool × Unit):=fun (x0,x1,x2,x3,()) =>
 inR x2 ((List.length x1.2.1):Int) (inR x3 ((List.length (ix zf x1.2.1 x2).2.2.1):Int) (bif (List.getD (ix zf x1.2.1 x2).2.2.1 (Int.toNat x3) (ze zJ)).1 then bif (List.getD (ix zf x1.2.1 x2).2.2.1 (Int.toNat x3) (ze zJ)).2.2.1 == 1 then Option.bind (jV (x0,(List.getD (ix zf x1.2.1 x2).2.2.1 (Int.toNat x3) (ze zJ)).2.2.2.1,())) fun q0=>bif q0.1 then some (true,()) else some (false,()) else bif (List.getD (ix zf x1.2.1 x2).2.2.1 (Int.toNat x3) (ze zJ)).2.2.1 == 2 then Option.bind (zaF (x0,x1,(List.getD (ix zf x1.2.1 x2).2.2.1 (Int.toNat x3) (ze zJ)).2.2.2.2.1,x2,())) fun q1=>bif q1.1 then some (true,()) else some (false,()) else bif decide ((List.getD (ix zf x1.2.1 x2).2.2.1 (Int.toNat x3) (ze zJ)).2.2.2.1 < ((List.length (ix zf x1.2.1 x2).2.2.2.2.1):Int)) then inR (List.getD (ix zf x1.2.1 x2).2.2.1 (Int.toNat x3) (ze zJ)).2.2.2.1 ((List.length (ix zf x1.2.1 x2).2.2.2.2.1):Int) (bif (List.getD (ix zf x1.2.1 x2).2.2.2.2.1 (Int.toNat (List.getD (ix zf x1.2.1 x2).2.2.1 (Int.toNat x3) (ze zJ)).2.2.2.1) (ze zw)).1 then inR (List.getD (ix zf x1.2.1 x2).2.2.1 (Int.toNat x3) (ze zJ)).2.2.2.1 ((List.length (ix zf x1.2.1 x2).2.2.2.2.1):Int) (bif (List.getD (ix zf x1.2.1 x2).2.2.2.2.1 (Int.toNat (List.getD (ix zf x1.2.1 x2).2.2.1 (Int.toNat x3) (ze zJ)).2.2.2.1) (ze zw)).2.2.2.1.2.2.1 == x3 then some (true,()) else some (false,())) else some (false,())) else some (false,()) else some (true,())))
abbrev zxX:Fun:=⟨208,(ch [zl,zo,tI,tI]),(ch [.bool]),0,zkS⟩
theorem zKw:Sq zxX:=ms4 (d:=false) (K:=0) Tryz.func208 (by kernel_rfl) (funext fun (x0,x1,x2,x3,())=>by kernel_rfl)
abbrev zeX:Type:=Bool × Int × za × zd × pMe × List Int
abbrev zFF:zeX→St:=fun (v3,v10,o0,o1,o2,o3)=>St.mk [(3,.dat .bool v3),(4,.bp 0 []),(5,.bp 1 []),(6,.bp 2 []),(9,.ow 3),(10,.dat tI v10)] [.bx (.dat zl o0) false,.bx (.dat zo o1) false,.bx (.dat tMe o2) false,.row tI o3 false]
def zeY (k0:zeX→Option ((List Int) × Unit)):zeX→Option ((List Int) × Unit):=fun (v3,v10,o0,o1,o2,o3) =>
 bif decide (v10 < ((List.length o0.2.1):Int)) then Option.bind (zi5 (o0,o1,o2,v10,v3,())) fun q0=>bif q0.1 then bif decide (List.length o3 + List.length (zh (List.replicate 1 (0:Int)) 0 v10) ≤ lim) then k0 (v3,wI (v10 + 1),o0,o1,o2,o3 ++ zh (List.replicate 1 (0:Int)) 0 v10) else none else k0 (v3,wI (v10 + 1),o0,o1,o2,o3) else some (o3,())
abbrev ztr (K:Nat):zeX→Option ((List Int) × Unit):=zg zeY K
theorem zFG (K:Nat):∀ n,evV Es4 K Tryz.f71 0 (ch [(.sl tI)]) [1,1,0,1,0] [] zFF n = zg zeY n:=zm fun n0 (v3,v10,o0,o1,o2,o3)=>by kernel_rfl
def zpx (L0:zeX→Option ((List Int) × Unit)):(za × (zd × (pMe × (Bool × Unit))))→Option ((List Int) × Unit):=fun (x0,x1,x2,x3,()) =>
 L0 (x3,0,x0,x1,x2,[])
def zkT:(za × zd × pMe × Bool × Unit)→Option ((List Int) × Unit):=zpx (ztr K0)
abbrev zxY:Fun:=⟨71,(ch [zl,zo,tMe,.bool]),(ch [(.sl tI)]),0,zkT⟩
theorem zKx:Sq zxY:=ml4 (d:=false) (S:=fun K=>zpx (ztr K)) Tryz.func71 (by kernel_rfl) (fun K=>tr1 (T:=zpx) (zFG K K) fun (x0,x1,x2,x3,())=>by kernel_rfl) rfl
def zmv:(za × ((List (List Int)) × (Int × (Int × (Int × (Int × Unit))))))→Option ((List (List Int)) × (Int × Unit)):=fun (x0,x1,x2,x3,x4,x5,()) =>
 Option.bind (zfZ (x0,x1,())) fun q0=>bif q0.1 then bif decide (x3 < 0) then some ([],1,()) else bif decide (x3 ≥ ((List.length x0.1):Int)) then some ([],1,()) else bif decide (x4 < 0) then some ([],1,()) else bif decide (x4 ≥ ((List.length x0.2.2.1):Int)) then some ([],1,()) else bif decide (x5 < 0) then some ([],1,()) else bif decide (x5 ≥ ((List.length x0.2.2.1):Int)) then some ([],1,()) else Option.bind (zkJ (x0,x3,())) fun q1=>bif decide (q1.1 < 0) then some ([],17,()) else Option.bind (zgA (x0,x1,x4,x3,())) fun q2=>bif q2.1 then inR q1.1 ((List.length x1):Int) (inR x4 ((List.length (List.getD x1 (Int.toNat q1.1) ([]:List Int))):Int) (bif decide (List.getD (List.getD x1 (Int.toNat q1.1) ([]:List Int)) (Int.toNat x4) (0:Int) < 2) then some ([],5,()) else inR q1.1 ((List.length x1):Int) (inR x5 ((List.length (List.getD x1 (Int.toNat q1.1) ([]:List Int))):Int) (bif x2 == 1 then bif decide (List.getD (List.getD x1 (Int.toNat q1.1) ([]:List Int)) (Int.toNat x5) (0:Int) > 0) then some ([],4,()) else bif x2 == 2 then bif List.getD (List.getD x1 (Int.toNat q1.1) ([]:List Int)) (Int.toNat x5) (0:Int) == 2 then some ([],4,()) else bif decide (x2 > 1) then bif List.getD (List.getD x1 (Int.toNat q1.1) ([]:List Int)) (Int.toNat x5) (0:Int) == 0 then some ([],3,()) else bif x2 == 3 then inR q1.1 ((List.length x0.2.2.2.1):Int) (bif (ix zD x0.2.2.2.1 q1.1).2.1 == x5 then some ([],5,()) else Option.bind (qu (x1,q1.1,x5,Int.tmod x2 3,())) fun q3=>some (q3.1,0,())) else Option.bind (qu (x1,q1.1,x5,Int.tmod x2 3,())) fun q4=>some (q4.1,0,()) else bif x2 == 3 then inR q1.1 ((List.length x0.2.2.2.1):Int) (bif (ix zD x0.2.2.2.1 q1.1).2.1 == x5 then some ([],5,()) else Option.bind (qu (x1,q1.1,x5,Int.tmod x2 3,())) fun q5=>some (q5.1,0,())) else Option.bind (qu (x1,q1.1,x5,Int.tmod x2 3,())) fun q6=>some (q6.1,0,()) else bif decide (x2 > 1) then bif List.getD (List.getD x1 (Int.toNat q1.1) ([]:List Int)) (Int.toNat x5) (0:Int) == 0 then some ([],3,()) else bif x2 == 3 then inR q1.1 ((List.length x0.2.2.2.1):Int) (bif (ix zD x0.2.2.2.1 q1.1).2.1 == x5 then some ([],5,()) else Option.bind (qu (x1,q1.1,x5,Int.tmod x2 3,())) fun q7=>some (q7.1,0,())) else Option.bind (qu (x1,q1.1,x5,Int.tmod x2 3,())) fun q8=>some (q8.1,0,()) else bif x2 == 3 then inR q1.1 ((List.length x0.2.2.2.1):Int) (bif (ix zD x0.2.2.2.1 q1.1).2.1 == x5 then some ([],5,()) else Option.bind (qu (x1,q1.1,x5,Int.tmod x2 3,())) fun q9=>some (q9.1,0,())) else Option.bind (qu (x1,q1.1,x5,Int.tmod x2 3,())) fun q10=>some (q10.1,0,()) else bif x2 == 2 then bif List.getD (List.getD x1 (Int.toNat q1.1) ([]:List Int)) (Int.toNat x5) (0:Int) == 2 then some ([],4,()) else bif decide (x2 > 1) then bif List.getD (List.getD x1 (Int.toNat q1.1) ([]:List Int)) (Int.toNat x5) (0:Int) == 0 then some ([],3,()) else bif x2 == 3 then inR q1.1 ((List.length x0.2.2.2.1):Int) (bif (ix zD x0.2.2.2.1 q1.1).2.1 == x5 then some ([],5,()) else Option.bind (qu (x1,q1.1,x5,Int.tmod x2 3,())) fun q11=>some (q11.1,0,())) else Option.bind (qu (x1,q1.1,x5,Int.tmod x2 3,())) fun q12=>some (q12.1,0,()) else bif x2 == 3 then inR q1.1 ((List.length x0.2.2.2.1):Int) (bif (ix zD x0.2.2.2.1 q1.1).2.1 == x5 then some ([],5,()) else Option.bind (qu (x1,q1.1,x5,Int.tmod x2 3,())) fun q13=>some (q13.1,0,())) else Option.bind (qu (x1,q1.1,x5,Int.tmod x2 3,())) fun q14=>some (q14.1,0,()) else bif decide (x2 > 1) then bif List.getD (List.getD x1 (Int.toNat q1.1) ([]:List Int)) (Int.toNat x5) (0:Int) == 0 then some ([],3,()) else bif x2 == 3 then inR q1.1 ((List.length x0.2.2.2.1):Int) (bif (ix zD x0.2.2.2.1 q1.1).2.1 == x5 then some ([],5,()) else Option.bind (qu (x1,q1.1,x5,Int.tmod x2 3,())) fun q15=>some (q15.1,0,())) else Option.bind (qu (x1,q1.1,x5,Int.tmod x2 3,())) fun q16=>some (q16.1,0,()) else bif x2 == 3 then inR q1.1 ((List.length x0.2.2.2.1):Int) (bif (ix zD x0.2.2.2.1 q1.1).2.1 == x5 then some ([],5,()) else Option.bind (qu (x1,q1.1,x5,Int.tmod x2 3,())) fun q17=>some (q17.1,0,())) else Option.bind (qu (x1,q1.1,x5,Int.tmod x2 3,())) fun q18=>some (q18.1,0,()))))) else some ([],5,()) else some ([],1,())
abbrev zzY:Fun:=⟨80,(ch [zl,(.sl (.sl tI)),tI,tI,tI,tI]),(ch [(.sl (.sl tI)),tI]),0,zmv⟩
theorem zMs:Sq zzY:=ms4 (d:=false) (K:=0) Tryz.func80 (by kernel_rfl) (funext fun (x0,x1,x2,x3,x4,x5,())=>by kernel_rfl)
abbrev L5:List Fun:=zm0 :: zto :: zvu :: zxV :: zvv :: zxW :: zvw :: zvx :: zzX :: ztq :: zxX :: zxY :: zzY :: L4
theorem h5:Sds Tryz.prog E0 L5:=⟨zxU,zFB,zHA,zKu,zHB,zKv,zHC,zHD,zMr,zFE,zKw,zKx,zMs,h4⟩
theorem ms5 {d:Bool} {F:Fun} {f:Go.Func} {K:Nat} (hf:Tryz.prog.funcs[F.id]? = some f) (ho:jJ f = true) (h:evF (En E0 d L5) K f F.md F.a F.r = F.spec):Sd Tryz.prog E0 F:=mkS h5 hf ho h
theorem ml5 {d:Bool} {F:Fun} {f:Go.Func} {S:Nat→F.a.I→Option F.r.I} (hf:Tryz.prog.funcs[F.id]? = some f) (ho:jJ f = true) (h:∀ K,evF (En E0 d L5) K f F.md F.a F.r = S K) (e:S K0 = F.spec):Sd Tryz.prog E0 F:=mkS h5 hf ho ((h K0).trans e)
abbrev Es5:Env:=En E0 false L5
def jS:(za × Unit)→Option (Bool × Unit):=fun (x0,()) =>
 Option.bind (qq (((List.length x0.2.2.1):Int),1,8,())) fun q0=>bif q0.1 then Option.bind (za0 (x0.2.2.1,some zc6,())) fun q1=>bif q1.1 then some (false,()) else Option.bind (zia (x0,())) fun q2=>Option.bind (zoH (q2.1,())) fun q3=>bif q3.1 then some (true,()) else some (false,()) else some (false,())
abbrev zpy:Fun:=⟨216,(ch [zl]),(ch [.bool]),0,jS⟩
theorem zBr:Sq zpy:=ms5 (d:=false) (K:=0) Tryz.func216 (by kernel_rfl) (funext fun (x0,())=>by kernel_rfl)
def zkU:((List qU) × Unit)→Option (Bool × Unit):=fun (x0,()) =>
 Option.bind (zdP (x0,some zhK,())) fun q0=>bif q0.1 then some (false,()) else some (true,())
abbrev zxZ:Fun:=⟨140,(ch [(.sl qm)]),(ch [.bool]),0,zkU⟩
theorem zKy:Sq zxZ:=ms5 (d:=false) (K:=0) Tryz.func140 (by kernel_rfl) (funext fun (x0,())=>by kernel_rfl)
def zi8:((List qb) × Unit)→Option (Bool × Unit):=fun (x0,()) =>
 Option.bind (jx (x0,some zi6,())) fun q0=>bif q0.1 then some (false,()) else some (true,())
abbrev zvz:Fun:=⟨142,(ch [(.sl zJ)]),(ch [.bool]),0,zi8⟩
theorem zHG:Sq zvz:=ms5 (d:=false) (K:=0) Tryz.func142 (by kernel_rfl) (funext fun (x0,())=>by kernel_rfl)
def zeZ:((List zU) × Unit)→Option (Bool × Unit):=fun (x0,()) =>
 Option.bind (jy (x0,some zkR,())) fun q0=>bif q0.1 then some (false,()) else some (true,())
abbrev zx0:Fun:=⟨93,(ch [(.sl zz)]),(ch [.bool]),0,zeZ⟩
theorem zKz:Sq zx0:=ms5 (d:=false) (K:=0) Tryz.func93 (by kernel_rfl) (funext fun (x0,())=>by kernel_rfl)
abbrev ze0:Type:=Int × (List zp) × Int × Int × (List (List Int)) × Int × Int × List Int
abbrev zts:ze0→St:=fun (v1,v31,v32,v33,v52,v53,v54,o0)=>St.mk [(1,.dat tI v1),(8,.ow 0),(31,.dat (.sl zv) v31),(32,.dat tI v32),(33,.dat tI v33),(52,.dat (.sl (.arr 4 tU)) v52),(53,.dat tI v53),(54,.dat tI v54)] [.row tU o0 false]
abbrev yZ:Type:=Int × (List zp) × Int × Int × List Int
abbrev ztt:yZ→St:=fun (v1,v31,v32,v33,o0)=>St.mk [(1,.dat tI v1),(8,.ow 0),(31,.dat (.sl zv) v31),(32,.dat tI v32),(33,.dat tI v33)] [.row tU o0 false]
def ze1 (k0:yZ→Option (Int × (Int × Unit))) (k1:ze0→Option (Int × (Int × Unit))):ze0→Option (Int × (Int × Unit)):=fun (v1,v31,v32,v33,v52,v53,v54,o0) =>
 bif decide (v54 < v53) then inR v54 ((List.length v52):Int) (inR v1 (↑4:Int) (bif decide (List.length o0 + List.length (zh (List.replicate 1 (0:Int)) 0 (List.getD (List.getD v52 (Int.toNat v54) (ze (.arr 4 tU))) (Int.toNat v1) (0:Int))) ≤ lim) then k1 (v1,v31,v32,v33,v52,v53,wI (v54 + 1),o0 ++ zh (List.replicate 1 (0:Int)) 0 (List.getD (List.getD v52 (Int.toNat v54) (ze (.arr 4 tU))) (Int.toNat v1) (0:Int))) else none)) else k0 (v1,v31,v32,wI (v33 + 1),o0)
abbrev ze2 (K:Nat) (k0:yZ→Option (Int × (Int × Unit))):ze0→Option (Int × (Int × Unit)):=zg (fun k1=>ze1 k0 k1) K
theorem zFH (K:Nat) (n0:Nat):∀ n,evV Es5 K Tryz.f172 0 (ch [tU,tI]) [1,1,1,1,1,0,1,0,0,1,1,0,0,1,1,1,1,1,0] [n0] zts n = zg (fun k1=>ze1 (evV Es5 K Tryz.f172 0 (ch [tU,tI]) [1,1,1,1,1,0,1,0] [] ztt n0) k1) n:=zm fun n1 (v1,v31,v32,v33,v52,v53,v54,o0)=>by kernel_rfl
def zbe (L1:ze0→Option (Int × (Int × Unit))) (k0:yZ→Option (Int × (Int × Unit))):yZ→Option (Int × (Int × Unit)):=fun (v1,v31,v32,v33,o0) =>
 bif decide (v33 < v32) then inR v33 ((List.length v31):Int) (Option.bind (zkO ((ix zf v31 v33).2.2.2.2.1,v1,())) fun q2=>bif q2.2.1 != 0 then some (0,q2.2.1,()) else bif decide (List.length o0 + List.length (zh (List.replicate 1 (0:Int)) 0 q2.1) ≤ lim) then L1 (v1,v31,v32,v33,(ix zf v31 v33).2.2.2.2.2.1,((List.length (ix zf v31 v33).2.2.2.2.2.1):Int),0,o0 ++ zh (List.replicate 1 (0:Int)) 0 q2.1) else none) else Option.bind (zhz (o0,())) fun q3=>some (q3.1,q3.2.1,())
abbrev ztu (K:Nat):yZ→Option (Int × (Int × Unit)):=zg (fun k0=>zbe (ze2 K k0) k0) K
theorem zFI (K:Nat):∀ n,evV Es5 K Tryz.f172 0 (ch [tU,tI]) [1,1,1,1,1,0,1,0] [] ztt n = zg (fun k0=>zbe (ze2 K k0) k0) n:=qC (B:=fun L1 k0=>zbe L1 k0) (V1:=fun n0=>evV Es5 K Tryz.f172 0 (ch [tU,tI]) [1,1,1,1,1,0,1,0,0,1,1,0,0,1,1,1,1,1,0] [n0] zts K) (W1:=fun k0=>(ze2 K k0)) (fun n0=>zFH K n0 K) fun n0 (v1,v31,v32,v33,o0)=>by kernel_rfl
def zkV (L0:yZ→Option (Int × (Int × Unit))):(zd × (Int × Unit))→Option (Int × (Int × Unit)):=fun (x0,x1,()) =>
 Option.bind (jq (x1,())) fun q0=>bif q0.1 then Option.bind (zmu (x0.2.2.2.1,x1,())) fun q1=>bif q1.2.1 != 0 then some (0,q1.2.1,()) else L0 (x1,x0.2.1,((List.length x0.2.1):Int),0,[q1.1]) else some (0,1,())
def zkW:(zd × Int × Unit)→Option (Int × Int × Unit):=zkV (ztu K0)
abbrev zx1:Fun:=⟨172,(ch [zo,tI]),(ch [tU,tI]),0,zkW⟩
theorem zKA:Sq zx1:=ml5 (d:=false) (S:=fun K=>zkV (ztu K)) Tryz.func172 (by kernel_rfl) (fun K=>tr1 (T:=zkV) (zFI K K) fun (x0,x1,())=>by kernel_rfl) rfl
abbrev zdb:Type:=Int × Int × za × zd × zp
abbrev zq5:zdb→St:=fun (v2,v14,o0,o1,o2)=>St.mk [(2,.dat tI v2),(3,.bp 0 []),(4,.bp 1 []),(7,.bp 2 []),(14,.dat tI v14)] [.bx (.dat zl o0) false,.bx (.dat zo o1) false,.bx (.dat zv o2) false]
abbrev zdc:Type:=Int × Int × za × zd × zp
abbrev zq6:zdc→St:=fun (v2,v12,o0,o1,o2)=>St.mk [(2,.dat tI v2),(3,.bp 0 []),(4,.bp 1 []),(7,.bp 2 []),(12,.dat tI v12)] [.bx (.dat zl o0) false,.bx (.dat zo o1) false,.bx (.dat zv o2) false]
abbrev zdd:Type:=Int × Int × za × zd × zp
abbrev zq7:zdd→St:=fun (v2,v11,o0,o1,o2)=>St.mk [(2,.dat tI v2),(3,.bp 0 []),(4,.bp 1 []),(7,.bp 2 []),(11,.dat tI v11)] [.bx (.dat zl o0) false,.bx (.dat zo o1) false,.bx (.dat zv o2) false]
abbrev zde:Type:=Int × Int × za × zd × zp
abbrev zq8:zde→St:=fun (v2,v10,o0,o1,o2)=>St.mk [(2,.dat tI v2),(3,.bp 0 []),(4,.bp 1 []),(7,.bp 2 []),(10,.dat tI v10)] [.bx (.dat zl o0) false,.bx (.dat zo o1) false,.bx (.dat zv o2) false]
abbrev zdf:Type:=Int × Int × za × zd × zp
abbrev zDt:zdf→St:=fun (v2,v8,o0,o1,o2)=>St.mk [(2,.dat tI v2),(3,.bp 0 []),(4,.bp 1 []),(7,.bp 2 []),(8,.dat tI v8)] [.bx (.dat zl o0) false,.bx (.dat zo o1) false,.bx (.dat zv o2) false]
def zgF (k4:zdb→Option (Bool × Unit)):zdb→Option (Bool × Unit):=fun (v2,v14,o0,o1,o2) =>
 bif decide (v14 < ((List.length o2.2.2.2.2.2.2.1):Int)) then inR v14 ((List.length o2.2.2.2.2.2.2.1):Int) (Option.bind (zaF (o0,o1,ix zJC o2.2.2.2.2.2.2.1 v14,v2,())) fun q12=>bif q12.1 then k4 (v2,wI (v14 + 1),o0,o1,o2) else some (false,())) else some (true,())
abbrev zdg (K:Nat):zdb→Option (Bool × Unit):=zg zgF K
theorem zDu (K:Nat):∀ n,evV Es5 K Tryz.f109 0 (ch [.bool]) [1,1,1,1,1,1,1,0,1,0] [] zq5 n = zg zgF n:=zm fun n4 (v2,v14,o0,o1,o2)=>by kernel_rfl
def zdh (L4:zdb→Option (Bool × Unit)) (k3:zdc→Option (Bool × Unit)):zdc→Option (Bool × Unit):=fun (v2,v12,o0,o1,o2) =>
 bif decide (v12 < ((List.length o2.2.2.2.1):Int)) then inR v12 ((List.length o2.2.2.2.1):Int) (bif (ix ya o2.2.2.2.1 v12).1 then Option.bind (zgf (o0,(ix ya o2.2.2.2.1 v12).2.1,v2,())) fun q9=>bif q9.1 then Option.bind (jV (o0,(ix ya o2.2.2.2.1 v12).2.2.1,())) fun q10=>bif q10.1 then Option.bind (jV (o0,(ix ya o2.2.2.2.1 v12).2.2.2.1,())) fun q11=>bif q11.1 then k3 (v2,wI (v12 + 1),o0,o1,o2) else some (false,()) else some (false,()) else some (false,()) else k3 (v2,wI (v12 + 1),o0,o1,o2)) else L4 (v2,0,o0,o1,o2)
abbrev zdi (K:Nat):zdc→Option (Bool × Unit):=zg (fun k3=>zdh (zdg K) k3) K
theorem zDv (K:Nat):∀ n,evV Es5 K Tryz.f109 0 (ch [.bool]) [1,1,1,1,1,1,0,1,0] [] zq6 n = zg (fun k3=>zdh (zdg K) k3) n:=qC (B:=fun L4 k3=>zdh L4 k3) (V1:=fun n3=>evV Es5 K Tryz.f109 0 (ch [.bool]) [1,1,1,1,1,1,1,0,1,0] [] zq5 K) (W1:=fun k3=>(zdg K)) (fun n3=>zDu K K) fun n3 (v2,v12,o0,o1,o2)=>by kernel_rfl
def zdj (L3:zdc→Option (Bool × Unit)) (k2:zdd→Option (Bool × Unit)):zdd→Option (Bool × Unit):=fun (v2,v11,o0,o1,o2) =>
 bif decide (v11 < ((List.length o2.2.2.2.2.1):Int)) then Option.bind (zkw (o0,o2,v11,())) fun q8=>bif q8.1 then k2 (v2,wI (v11 + 1),o0,o1,o2) else some (false,()) else L3 (v2,0,o0,o1,o2)
abbrev zdk (K:Nat):zdd→Option (Bool × Unit):=zg (fun k2=>zdj (zdi K) k2) K
theorem zDw (K:Nat):∀ n,evV Es5 K Tryz.f109 0 (ch [.bool]) [1,1,1,1,1,0,1,0] [] zq7 n = zg (fun k2=>zdj (zdi K) k2) n:=qC (B:=fun L3 k2=>zdj L3 k2) (V1:=fun n2=>evV Es5 K Tryz.f109 0 (ch [.bool]) [1,1,1,1,1,1,0,1,0] [] zq6 K) (W1:=fun k2=>(zdi K)) (fun n2=>zDv K K) fun n2 (v2,v11,o0,o1,o2)=>by kernel_rfl
def zdl (L2:zdd→Option (Bool × Unit)) (k1:zde→Option (Bool × Unit)):zde→Option (Bool × Unit):=fun (v2,v10,o0,o1,o2) =>
 bif decide (v10 < ((List.length o2.2.2.1):Int)) then Option.bind (zkS (o0,o1,v2,v10,())) fun q7=>bif q7.1 then k1 (v2,wI (v10 + 1),o0,o1,o2) else some (false,()) else L2 (v2,0,o0,o1,o2)
abbrev zdm (K:Nat):zde→Option (Bool × Unit):=zg (fun k1=>zdl (zdk K) k1) K
theorem zDx (K:Nat):∀ n,evV Es5 K Tryz.f109 0 (ch [.bool]) [1,1,1,1,0,1,0] [] zq8 n = zg (fun k1=>zdl (zdk K) k1) n:=qC (B:=fun L2 k1=>zdl L2 k1) (V1:=fun n1=>evV Es5 K Tryz.f109 0 (ch [.bool]) [1,1,1,1,1,0,1,0] [] zq7 K) (W1:=fun k1=>(zdk K)) (fun n1=>zDw K K) fun n1 (v2,v10,o0,o1,o2)=>by kernel_rfl
def zdn (L1:zde→Option (Bool × Unit)) (k0:zdf→Option (Bool × Unit)):zdf→Option (Bool × Unit):=fun (v2,v8,o0,o1,o2) =>
 bif decide (v8 < ((List.length o2.2.1):Int)) then inR v8 ((List.length o2.2.1):Int) (bif (ix qj o2.2.1 v8).1 then Option.bind (zaF (o0,o1,(ix qj o2.2.1 v8).2.1,v2,())) fun q5=>bif q5.1 then Option.bind (zaF (o0,o1,(ix qj o2.2.1 v8).2.2.1,v2,())) fun q6=>bif q6.1 then k0 (v2,wI (v8 + 1),o0,o1,o2) else some (false,()) else some (false,()) else k0 (v2,wI (v8 + 1),o0,o1,o2)) else L1 (v2,0,o0,o1,o2)
abbrev zkX (K:Nat):zdf→Option (Bool × Unit):=zg (fun k0=>zdn (zdm K) k0) K
theorem zDy (K:Nat):∀ n,evV Es5 K Tryz.f109 0 (ch [.bool]) [1,1,1,0,1,0] [] zDt n = zg (fun k0=>zdn (zdm K) k0) n:=qC (B:=fun L1 k0=>zdn L1 k0) (V1:=fun n0=>evV Es5 K Tryz.f109 0 (ch [.bool]) [1,1,1,1,0,1,0] [] zq8 K) (W1:=fun k0=>(zdm K)) (fun n0=>zDx K K) fun n0 (v2,v8,o0,o1,o2)=>by kernel_rfl
def zi9 (L0:zdf→Option (Bool × Unit)):(za × (zd × (Int × Unit)))→Option (Bool × Unit):=fun (x0,x1,x2,()) =>
 inR x2 ((List.length x1.2.1):Int) (Option.bind (zni ((ix zf x1.2.1 x2).1,())) fun q0=>bif q0.1 then Option.bind (znk ((ix zf x1.2.1 x2).2.1,())) fun q1=>bif q1.1 then Option.bind (znm ((ix zf x1.2.1 x2).2.2.1,())) fun q2=>bif q2.1 then Option.bind (zno ((ix zf x1.2.1 x2).2.2.2.1,())) fun q3=>bif q3.1 then Option.bind (znq ((ix zf x1.2.1 x2).2.2.2.2.1,())) fun q4=>bif q4.1 then L0 (x2,0,x0,x1,ix zf x1.2.1 x2) else some (false,()) else some (false,()) else some (false,()) else some (false,()) else some (false,()))
def zf3:(za × zd × Int × Unit)→Option (Bool × Unit):=zi9 (zkX K0)
abbrev zvA:Fun:=⟨109,(ch [zl,zo,tI]),(ch [.bool]),0,zf3⟩
theorem zHH:Sq zvA:=ml5 (d:=false) (S:=fun K=>zi9 (zkX K)) Tryz.func109 (by kernel_rfl) (fun K=>tr1 (T:=zi9) (zDy K K) fun (x0,x1,x2,())=>by kernel_rfl) rfl
abbrev L6:List Fun:=zpy :: zxZ :: zvz :: zx0 :: zx1 :: zvA :: L5
theorem h6:Sds Tryz.prog E0 L6:=⟨zBr,zKy,zHG,zKz,zKA,zHH,h5⟩
theorem ms6 {d:Bool} {F:Fun} {f:Go.Func} {K:Nat} (hf:Tryz.prog.funcs[F.id]? = some f) (ho:jJ f = true) (h:evF (En E0 d L6) K f F.md F.a F.r = F.spec):Sd Tryz.prog E0 F:=mkS h6 hf ho h
theorem ml6 {d:Bool} {F:Fun} {f:Go.Func} {S:Nat→F.a.I→Option F.r.I} (hf:Tryz.prog.funcs[F.id]? = some f) (ho:jJ f = true) (h:∀ K,evF (En E0 d L6) K f F.md F.a F.r = S K) (e:S K0 = F.spec):Sd Tryz.prog E0 F:=mkS h6 hf ho ((h K0).trans e)
abbrev Es6:Env:=En E0 false L6
abbrev zdo:Type:=Int × Int × za × List (Option ((za × Unit)→Option (Bool × Unit)))
abbrev zDz:zdo→St:=fun (v6,v7,o0,o1)=>St.mk [(1,.bp 0 []),(5,.ow 1),(6,.dat tI v6),(7,.dat tI v7)] [.bx (.dat zl o0) false,.row (.fn (.pair zl .unit) (.pair .bool .unit)) o1 false]
def zgG (k0:zdo→Option (Bool × Unit)):zdo→Option (Bool × Unit):=fun (v6,v7,o0,o1) =>
 bif decide (v7 < v6) then inR v7 ((List.length o1):Int) (Option.bind (List.getD o1 (Int.toNat v7) (ze (.fn (.pair zl .unit) (.pair .bool .unit)))) fun q0=>Option.bind (q0 (o0,())) fun q1=>bif q1.1 then k0 (v6,wI (v7 + 1),o0,o1) else some (false,())) else some (true,())
abbrev zq9 (K:Nat):zdo→Option (Bool × Unit):=zg zgG K
theorem zDA (K:Nat):∀ n,evV Es6 K Tryz.f113 0 (ch [.bool]) [1,0,1,0] [] zDz n = zg zgG n:=zm fun n0 (v6,v7,o0,o1)=>by kernel_rfl
def znA (L0:zdo→Option (Bool × Unit)):(za × Unit)→Option (Bool × Unit):=fun (x0,()) =>
 L0 (((List.length (zh (zh (zh (zh (zh (zh (List.replicate 6 (ze (.fn (.pair zl .unit) (.pair .bool .unit)))) 0 (some vS)) 1 (some yt)) 2 (some jS)) 3 (some vQ)) 4 (some vR)) 5 (some zah))):Int),0,x0,[some vS,some yt,some jS,some vQ,some vR,some zah])
def vz:(za × Unit)→Option (Bool × Unit):=znA (zq9 K0)
abbrev zvB:Fun:=⟨113,(ch [zl]),(ch [.bool]),0,vz⟩
theorem zHI:Sq zvB:=ml6 (d:=false) (S:=fun K=>znA (zq9 K)) Tryz.func113 (by kernel_rfl) (fun K=>tr1 (T:=znA) (zDA K K) fun (x0,())=>by kernel_rfl) rfl
def zgH:(zp × Unit)→Option (Bool × Unit):=fun (x0,()) =>
 Option.bind (zkU (x0.1,())) fun q0=>bif q0.1 then Option.bind (zpj (x0.2.1,())) fun q1=>bif q1.1 then Option.bind (zi8 (x0.2.2.1,())) fun q2=>bif q2.1 then Option.bind (zeZ (x0.2.2.2.1,())) fun q3=>bif q3.1 then Option.bind (zi7 (x0.2.2.2.2.1,())) fun q4=>bif q4.1 then some (true,()) else some (false,()) else some (false,()) else some (false,()) else some (false,()) else some (false,())
abbrev zra:Fun:=⟨139,(ch [zv]),(ch [.bool]),0,zgH⟩
theorem zDB:Sq zra:=ms6 (d:=false) (K:=0) Tryz.func139 (by kernel_rfl) (funext fun (x0,())=>by kernel_rfl)
abbrev zdp:Type:=Int × Int × (List zp) × Int × Int × qV
abbrev zrb:zdp→St:=fun (v3,v10,v15,v16,v17,o0)=>St.mk [(1,.bp 0 []),(3,.dat tI v3),(10,.dat tI v10),(15,.dat (.sl zv) v15),(16,.dat tI v16),(17,.dat tI v17)] [.bx (.dat qp o0) false]
abbrev ym:Type:=Int × qV
abbrev zrc:ym→St:=fun (v10,o0)=>St.mk [(1,.bp 0 []),(10,.dat tI v10)] [.bx (.dat qp o0) false]
def zdq (k0:ym→Option (Bool × Unit)) (k1:zdp→Option (Bool × Unit)):zdp→Option (Bool × Unit):=fun (v3,v10,v15,v16,v17,o0) =>
 bif decide (v17 < v16) then inR v17 ((List.length v15):Int) (inR v3 (↑4:Int) (inR v17 ((List.length o0.1.2.2.2.2.1):Int) (bif decide (List.getD (ix zf v15 v17).2.2.2.2.2.2.2.1 (Int.toNat v3) (0:Int) > (ix qy o0.1.2.2.2.2.1 v17).2.2.2.2.2.1) then some (false,()) else k1 (v3,v10,v15,v16,wI (v17 + 1),o0)))) else Option.bind (zkW (o0.2.1,v3,())) fun q0=>Option.bind (zkP (o0.2.1,v3,())) fun q1=>bif q0.2.1 != 0 then some (false,()) else bif q1.2.1 != 0 then some (false,()) else bif q0.1 != q1.1 then some (false,()) else k0 (wI (v10 + 1),o0)
abbrev zdr (K:Nat) (k0:ym→Option (Bool × Unit)):zdp→Option (Bool × Unit):=zg (fun k1=>zdq k0 k1) K
theorem zDC (K:Nat) (n0:Nat):∀ n,evV Es6 K Tryz.f88 0 (ch [.bool]) [1,0,1,0,0,1,1,0,0,1,0,1,0] [n0] zrb n = zg (fun k1=>zdq (evV Es6 K Tryz.f88 0 (ch [.bool]) [1,0,1,0] [] zrc n0) k1) n:=zm fun n1 (v3,v10,v15,v16,v17,o0)=>by kernel_rfl
def zds (L1:zdp→Option (Bool × Unit)) (k0:ym→Option (Bool × Unit)):ym→Option (Bool × Unit):=fun (v10,o0) =>
 bif decide (v10 < 4) then L1 (v10,v10,o0.2.1.2.1,((List.length o0.2.1.2.1):Int),0,o0) else some (true,())
abbrev zrd (K:Nat):ym→Option (Bool × Unit):=zg (fun k0=>zds (zdr K k0) k0) K
theorem zDD (K:Nat):∀ n,evV Es6 K Tryz.f88 0 (ch [.bool]) [1,0,1,0] [] zrc n = zg (fun k0=>zds (zdr K k0) k0) n:=qC (B:=fun L1 k0=>zds L1 k0) (V1:=fun n0=>evV Es6 K Tryz.f88 0 (ch [.bool]) [1,0,1,0,0,1,1,0,0,1,0,1,0] [n0] zrb K) (W1:=fun k0=>(zdr K k0)) (fun n0=>zDC K n0 K) fun n0 (v10,o0)=>by kernel_rfl
def znB (L0:ym→Option (Bool × Unit)):(qV × Unit)→Option (Bool × Unit):=fun (x0,()) =>
 L0 (0,x0)
def zf4:(qV × Unit)→Option (Bool × Unit):=znB (zrd K0)
abbrev zvC:Fun:=⟨88,(ch [qp]),(ch [.bool]),0,zf4⟩
theorem zHJ:Sq zvC:=ml6 (d:=false) (S:=fun K=>znB (zrd K)) Tryz.func88 (by kernel_rfl) (fun K=>tr1 (T:=znB) (zDD K K) fun (x0,())=>by kernel_rfl) rfl
abbrev zdt:Type:=Int × Int × za × zd
abbrev zre:zdt→St:=fun (v5,v6,o0,o1)=>St.mk [(2,.bp 0 []),(3,.bp 1 []),(5,.dat tI v5),(6,.dat tI v6)] [.bx (.dat zl o0) false,.bx (.dat zo o1) false]
abbrev zdu:Type:=Int × zd
abbrev zrf:zdu→St:=fun (v7,o0)=>St.mk [(3,.bp 0 []),(7,.dat tI v7)] [.bx (.dat zo o0) false]
abbrev yn:Type:=Int × za × zd
abbrev zrg:yn→St:=fun (v5,o0,o1)=>St.mk [(2,.bp 0 []),(3,.bp 1 []),(5,.dat tI v5)] [.bx (.dat zl o0) false,.bx (.dat zo o1) false]
def zgI (k0:yn→Option (Bool × Unit)) (k1:zdt→Option (Bool × Unit)):zdt→Option (Bool × Unit):=fun (v5,v6,o0,o1) =>
 bif decide (v6 < 4) then inR v5 ((List.length o1.2.1):Int) (inR v6 (↑4:Int) (inR v5 ((List.length o0.2.2.2.2.1):Int) (bif decide (List.getD (ix zf o1.2.1 v5).2.2.2.2.2.2.2.1 (Int.toNat v6) (0:Int) > (ix qy o0.2.2.2.2.1 v5).2.2.2.2.2.1) then some (false,()) else k1 (v5,wI (v6 + 1),o0,o1)))) else k0 (wI (v5 + 1),o0,o1)
abbrev zgJ (K:Nat) (k0:yn→Option (Bool × Unit)):zdt→Option (Bool × Unit):=zg (fun k1=>zgI k0 k1) K
theorem zDE (K:Nat) (n0:Nat):∀ n,evV Es6 K Tryz.f59 0 (ch [.bool]) [1,1,0,1,0,0,1,0,0,1,1,0] [n0] zre n = zg (fun k1=>zgI (evV Es6 K Tryz.f59 0 (ch [.bool]) [1,1,0,1,0] [] zrg n0) k1) n:=zm fun n1 (v5,v6,o0,o1)=>by kernel_rfl
def zkY (k2:zdu→Option (Bool × Unit)):zdu→Option (Bool × Unit):=fun (v7,o0) =>
 bif decide (v7 < 4) then Option.bind (zkH (o0,v7,())) fun q4=>Option.bind (zkC (o0,v7,())) fun q5=>bif q4.2.1 != 0 then some (false,()) else bif q5.2.1 != 0 then some (false,()) else bif q4.1 != q5.1 then some (false,()) else k2 (wI (v7 + 1),o0) else some (true,())
abbrev zdv (K:Nat):zdu→Option (Bool × Unit):=zg zkY K
theorem zDF (K:Nat):∀ n,evV Es6 K Tryz.f59 0 (ch [.bool]) [1,1,1,0,1,0] [] zrf n = zg zkY n:=zm fun n2 (v7,o0)=>by kernel_rfl
def zdw (L1:zdt→Option (Bool × Unit)) (L2:zdu→Option (Bool × Unit)) (k0:yn→Option (Bool × Unit)):yn→Option (Bool × Unit):=fun (v5,o0,o1) =>
 bif decide (v5 < ((List.length o1.2.1):Int)) then Option.bind (zf3 (o0,o1,v5,())) fun q3=>bif q3.1 then L1 (v5,0,o0,o1) else some (false,()) else L2 (0,o1)
abbrev zkZ (K:Nat):yn→Option (Bool × Unit):=zg (fun k0=>zdw (zgJ K k0) (zdv K) k0) K
theorem zDG (K:Nat):∀ n,evV Es6 K Tryz.f59 0 (ch [.bool]) [1,1,0,1,0] [] zrg n = zg (fun k0=>zdw (zgJ K k0) (zdv K) k0) n:=zPN (B:=fun L1 L2 k0=>zdw L1 L2 k0) (V1:=fun n0=>evV Es6 K Tryz.f59 0 (ch [.bool]) [1,1,0,1,0,0,1,0,0,1,1,0] [n0] zre K) (V2:=fun n0=>evV Es6 K Tryz.f59 0 (ch [.bool]) [1,1,1,0,1,0] [] zrf K) (W1:=fun k0=>(zgJ K k0)) (W2:=fun k0=>(zdv K)) (fun n0=>zDE K n0 K) (fun n0=>zDF K K) fun n0 (v5,o0,o1)=>by kernel_rfl
def zja (L0:yn→Option (Bool × Unit)):(za × (zd × Unit))→Option (Bool × Unit):=fun (x0,x1,()) =>
 Option.bind (zfX (x0,())) fun q0=>bif q0.1 then Option.bind (ziY (x0,x1,())) fun q1=>bif q1.1 then Option.bind (zhM (x0,x1,())) fun q2=>bif q2.1 then L0 (0,x0,x1) else some (false,()) else some (false,()) else some (false,())
def zjb:(za × zd × Unit)→Option (Bool × Unit):=zja (zkZ K0)
abbrev zvD:Fun:=⟨59,(ch [zl,zo]),(ch [.bool]),0,zjb⟩
theorem zHK:Sq zvD:=ml6 (d:=false) (S:=fun K=>zja (zkZ K)) Tryz.func59 (by kernel_rfl) (fun K=>tr1 (T:=zja) (zDG K K) fun (x0,x1,())=>by kernel_rfl) rfl
def zDH:((List zU) × (zU × Unit))→Option ((List zU) × (Int × (Int × Unit))):=fun (x0,x1,()) =>
 Option.bind (zeZ (x0,())) fun q0=>bif q0.1 then Option.bind (zhx (x1,())) fun q1=>bif q1.1 then Option.bind (zdQ (x1.2.2.2.2.1,())) fun q2=>bif q2.1 then Option.bind (zkK (x0,())) fun q3=>Option.bind (zti (q3.1,(true,x1.2),())) fun q4=>some q4 else some ([],0,2,()) else some ([],0,1,()) else some ([],0,1,())
abbrev zDI:Fun:=⟨48,(ch [(.sl zz),zz]),(ch [(.sl zz),tI,tI]),0,zDH⟩
theorem zOw:Sq zDI:=ms6 (d:=false) (K:=0) Tryz.func48 (by kernel_rfl) (funext fun (x0,x1,())=>by kernel_rfl)
def zzZ:((List zU) × (Int × (Int × Unit)))→Option ((List zU) × (Int × Unit)):=fun (x0,x1,x2,()) =>
 Option.bind (zeZ (x0,())) fun q0=>bif q0.1 then Option.bind (zuu (x0,x1,x2,())) fun q1=>bif q1.2.1 != 0 then some ([],q1.2.1,()) else Option.bind (zkK (x0,())) fun q2=>Option.bind (zlT (q2.1,x1,ze zz,())) fun q3=>some q3 else some ([],1,())
abbrev zz0:Fun:=⟨53,(ch [(.sl zz),tI,tI]),(ch [(.sl zz),tI]),0,zzZ⟩
theorem zMt:Sq zz0:=ms6 (d:=false) (K:=0) Tryz.func53 (by kernel_rfl) (funext fun (x0,x1,x2,())=>by kernel_rfl)
abbrev L7:List Fun:=zvB :: zra :: zvC :: zvD :: zDI :: zz0 :: L6
theorem h7:Sds Tryz.prog E0 L7:=⟨zHI,zDB,zHJ,zHK,zOw,zMt,h6⟩
theorem ms7 {d:Bool} {F:Fun} {f:Go.Func} {K:Nat} (hf:Tryz.prog.funcs[F.id]? = some f) (ho:jJ f = true) (h:evF (En E0 d L7) K f F.md F.a F.r = F.spec):Sd Tryz.prog E0 F:=mkS h7 hf ho h
theorem ml7 {d:Bool} {F:Fun} {f:Go.Func} {S:Nat→F.a.I→Option F.r.I} (hf:Tryz.prog.funcs[F.id]? = some f) (ho:jJ f = true) (h:∀ K,evF (En E0 d L7) K f F.md F.a F.r = S K) (e:S K0 = F.spec):Sd Tryz.prog E0 F:=mkS h7 hf ho ((h K0).trans e)
abbrev Es7:Env:=En E0 false L7
abbrev Ed7:Env:=En E0 true L7
abbrev zdx:Type:=Int × (List zp) × Int × Int × qV
abbrev zDJ:zdx→St:=fun (v3,v65,v66,v67,o0)=>St.mk [(1,.bp 0 []),(3,.dat tI v3),(65,.dat (.sl zv) v65),(66,.dat tI v66),(67,.dat tI v67)] [.bx (.dat qp o0) false]
def zgK (k0:zdx→Option (Bool × Unit)):zdx→Option (Bool × Unit):=fun (v3,v65,v66,v67,o0) =>
 bif decide (v67 < v66) then inR v67 ((List.length v65):Int) (inR v67 ((List.length o0.1.2.2.2.2.1):Int) (bif ((List.length (ix zf v65 v67).1):Int) != (ix qy o0.1.2.2.2.2.1 v67).1 then some (false,()) else bif ((List.length (ix zf v65 v67).2.1):Int) != (ix qy o0.1.2.2.2.2.1 v67).2.1 then some (false,()) else bif ((List.length (ix zf v65 v67).2.2.1):Int) != (ix qy o0.1.2.2.2.2.1 v67).2.2.1 then some (false,()) else bif ((List.length (ix zf v65 v67).2.2.2.1):Int) != (ix qy o0.1.2.2.2.2.1 v67).2.2.2.1 then some (false,()) else bif ((List.length (ix zf v65 v67).2.2.2.2.1):Int) != (ix qy o0.1.2.2.2.2.1 v67).2.2.2.2.1 then some (false,()) else bif ((List.length (ix zf v65 v67).2.2.2.2.2.1):Int) != v3 then some (false,()) else bif ((List.length (ix zf v65 v67).2.2.2.2.2.2.1):Int) != v3 then some (false,()) else k0 (v3,v65,v66,wI (v67 + 1),o0))) else some (true,())
abbrev zk0 (K:Nat):zdx→Option (Bool × Unit):=zg zgK K
theorem zDK (K:Nat):∀ n,evV Es7 K Tryz.f82 0 (ch [.bool]) [1,1,1,0,1,0] [] zDJ n = zg zgK n:=zm fun n0 (v3,v65,v66,v67,o0)=>by kernel_rfl
def zjc (L0:zdx→Option (Bool × Unit)):(qV × Unit)→Option (Bool × Unit):=fun (x0,()) =>
 Option.bind (vz (x0.1,())) fun q0=>bif q0.1 then bif ((List.length x0.2.1.2.1):Int) != ((List.length x0.1.1):Int) then some (false,()) else bif ((List.length x0.2.1.2.2.2.1):Int) != x0.1.2.2.2.2.2.1 then some (false,()) else bif decide (((List.length x0.2.1.2.2.2.2.1):Int) > x0.1.2.2.2.2.2.2.1) then some (false,()) else bif ((List.length x0.2.1.2.2.2.2.2.1):Int) != ((List.length x0.1.2.1):Int) then some (false,()) else bif decide (x0.2.1.1 > 4611686018427387904) then some (false,()) else L0 (((List.length x0.1.2.2.1):Int),x0.2.1.2.1,((List.length x0.2.1.2.1):Int),0,x0) else some (false,())
def zcb:(qV × Unit)→Option (Bool × Unit):=zjc (zk0 K0)
abbrev zvE:Fun:=⟨82,(ch [qp]),(ch [.bool]),0,zcb⟩
theorem zHL:Sq zvE:=ml7 (d:=false) (S:=fun K=>zjc (zk0 K)) Tryz.func82 (by kernel_rfl) (fun K=>tr1 (T:=zjc) (zDK K K) fun (x0,())=>by kernel_rfl) rfl
end
end Go.Proofs.YtkcakhbkoeimdaaGreatDoor
end
section
namespace Go.Proofs.YtkcakhbkoeimdaaGreatDoor
open Go.Ev
noncomputable section
def zcc:(qV × Unit)→Option (Bool × Unit):=fun (x0,()) =>
 Option.bind (zif (x0.2.1.2.1,some zgH,())) fun q0=>bif q0.1 then some (true,()) else some (false,())
abbrev zvF:Fun:=⟨83,(ch [qp]),(ch [.bool]),0,zcc⟩
theorem zHM:Sq zvF:=ms7 (d:=false) (K:=0) Tryz.func83 (by kernel_rfl) (funext fun (x0,())=>by kernel_rfl)
abbrev ze3:Type:=(Option ((Int × Unit)→Option (Bool × Unit))) × (List (List Int)) × Int × Int × za
abbrev zFJ:ze3→St:=fun (v5,v19,v20,v21,o0)=>St.mk [(2,.bp 0 []),(5,.dat (.fn (.pair tI .unit) (.pair .bool .unit)) v5),(19,.dat (.sl (.sl tI)) v19),(20,.dat tI v20),(21,.dat tI v21)] [.bx (.dat zl o0) false]
def zhN (k0:ze3→Option (Bool × Unit)):ze3→Option (Bool × Unit):=fun (v5,v19,v20,v21,o0) =>
 bif decide (v21 < v20) then inR v21 ((List.length v19):Int) (bif ((List.length (List.getD v19 (Int.toNat v21) ([]:List Int))):Int) != ((List.length o0.2.2.1):Int) then some (false,()) else Option.bind (qv (List.getD v19 (Int.toNat v21) ([]:List Int),v5,())) fun q1=>bif q1.1 then some (false,()) else inR v21 ((List.length o0.2.2.2.1):Int) (inR (ix zD o0.2.2.2.1 v21).2.1 ((List.length (List.getD v19 (Int.toNat v21) ([]:List Int))):Int) (bif List.getD (List.getD v19 (Int.toNat v21) ([]:List Int)) (Int.toNat (ix zD o0.2.2.2.1 v21).2.1) (0:Int) != 2 then some (false,()) else k0 (v5,v19,v20,wI (v21 + 1),o0)))) else some (true,())
abbrev zlZ (K:Nat):ze3→Option (Bool × Unit):=zg zhN K
theorem zFK (K:Nat):∀ n,evV Es7 K Tryz.f144 0 (ch [.bool]) [1,1,1,0,1,0] [] zFJ n = zg zhN n:=zm fun n0 (v5,v19,v20,v21,o0)=>by kernel_rfl
def zk1 (L0:ze3→Option (Bool × Unit)):(za × ((List (List Int)) × Unit))→Option (Bool × Unit):=fun (x0,x1,()) =>
 Option.bind (vz (x0,())) fun q0=>bif q0.1 then bif ((List.length x1):Int) != ((List.length x0.2.2.2.1):Int) then some (false,()) else L0 (some za7,x1,((List.length x1):Int),0,x0) else some (false,())
def ze4:(za × (List (List Int)) × Unit)→Option (Bool × Unit):=zk1 (zlZ K0)
abbrev zx2:Fun:=⟨144,(ch [zl,(.sl (.sl tI))]),(ch [.bool]),0,ze4⟩
theorem zKB:Sq zx2:=ml7 (d:=false) (S:=fun K=>zk1 (zlZ K)) Tryz.func144 (by kernel_rfl) (fun K=>tr1 (T:=zk1) (zFK K K) fun (x0,x1,())=>by kernel_rfl) rfl
def yo:(za × (Int × Unit))→Option (Bool × Unit):=fun (x0,x1,()) =>
 Option.bind (vz (x0,())) fun q0=>bif q0.1 then Option.bind (qq (x1,0,wI (((List.length x0.1):Int) - 1),())) fun q1=>bif q1.1 then some (true,()) else some (false,()) else some (false,())
abbrev zrh:Fun:=⟨92,(ch [zl,tI]),(ch [.bool]),0,yo⟩
theorem zDL:Sq zrh:=ms7 (d:=false) (K:=0) Tryz.func92 (by kernel_rfl) (funext fun (x0,x1,())=>by kernel_rfl)
def zdR:(za × (zd × (pMe × Unit)))→Option (Bool × Unit):=fun (x0,x1,x2,()) =>
 Option.bind (zjb (x0,x1,())) fun q0=>bif q0.1 then Option.bind (zkD (x0,x2,())) fun q1=>bif q1.1 then some (true,()) else some (false,()) else some (false,())
abbrev zz1:Fun:=⟨15,(ch [zl,zo,tMe]),(ch [.bool]),0,zdR⟩
theorem zMu:Sq zz1:=ms7 (d:=false) (K:=0) Tryz.func15 (by kernel_rfl) (funext fun (x0,x1,x2,())=>by kernel_rfl)
def zjd:(za × (zt × Unit))→Option (Int × Unit):=fun (x0,x1,()) =>
 Option.bind (vz (x0,())) fun q0=>bif q0.1 then Option.bind (zbp (x0.1,x1,())) fun q1=>some (q1.1,()) else some ((-1),())
abbrev zvG:Fun:=⟨137,(ch [zl,zj]),(ch [tI]),0,zjd⟩
theorem zHN:Sq zvG:=ms7 (d:=false) (K:=0) Tryz.func137 (by kernel_rfl) (funext fun (x0,x1,())=>by kernel_rfl)
abbrev zg9:Type:=(List zL) × Int × Int × za × List (List Int) × Nat
abbrev zKC:zg9→St:=fun (v11,v12,v13,o0,o1,c1)=>St.mk [(1,.bp 0 []),(3,.ow 1),(11,.dat (.sl ja) v11),(12,.dat tI v12),(13,.dat tI v13)] [.bx (.dat zl o0) false,.drow (.sl tI) o1 c1]
def zx3 (k0:zg9→Option ((List (List Int)) × Unit)):zg9→Option ((List (List Int)) × Unit):=fun (v11,v12,v13,o0,o1,c1) =>
 bif decide (v13 < v12) then inR v13 ((List.length v11):Int) (bif decide (((List.length o0.2.2.1):Int) ≤ ((List.length o0.2.2.1):Int)) then bif decide (((List.length o0.2.2.1):Int) ≤ (↑lim:Int)) then inR (ix zD v11 v13).2.1 ((List.length (List.replicate (Int.toNat ((List.length o0.2.2.1):Int)) (0:Int))):Int) (bif decide (List.length o1 + List.length [List.set (List.replicate (Int.toNat ((List.length o0.2.2.1):Int)) (0:Int)) (Int.toNat (ix zD v11 v13).2.1) 2] ≤ lim) then bif decide (c1 = List.length o1) then k0 (v11,v12,wI (v13 + 1),o0,o1 ++ [List.set (List.replicate (Int.toNat ((List.length o0.2.2.1):Int)) (0:Int)) (Int.toNat (ix zD v11 v13).2.1) 2],c1 + (0 + 1)) else none else none) else none else none) else bif decide (c1 = List.length o1) then some (o1,()) else none
abbrev zx4 (K:Nat):zg9→Option ((List (List Int)) × Unit):=zg zx3 K
theorem zKD (K:Nat):∀ n,evV Ed7 K Tryz.f114 4 (ch [(.sl (.sl tI))]) [1,1,1,0,1,0] [] zKC n = zg zx3 n:=zm fun n0 (v11,v12,v13,o0,o1,c1)=>by kernel_rfl
def zuv (L0:zg9→Option ((List (List Int)) × Unit)):(za × Unit)→Option ((List (List Int)) × Unit):=fun (x0,()) =>
 Option.bind (vz (x0,())) fun q0=>bif q0.1 then L0 (x0.2.2.2.1,((List.length x0.2.2.2.1):Int),0,x0,[],0) else some ([],())
def zDM:(za × Unit)→Option ((List (List Int)) × Unit):=zuv (zx4 K0)
abbrev zDN:Fun:=⟨114,(ch [zl]),(ch [(.sl (.sl tI))]),4,zDM⟩
theorem zOx:Sq zDN:=ml7 (d:=true) (S:=fun K=>zuv (zx4 K)) Tryz.func114 (by kernel_rfl) (fun K=>tr1 (T:=zuv) (zKD K K) fun (x0,())=>by kernel_rfl) rfl
abbrev L8:List Fun:=zvE :: zvF :: zx2 :: zrh :: zz1 :: zvG :: zDN :: L7
theorem h8:Sds Tryz.prog E0 L8:=⟨zHL,zHM,zKB,zDL,zMu,zHN,zOx,h7⟩
theorem ms8 {d:Bool} {F:Fun} {f:Go.Func} {K:Nat} (hf:Tryz.prog.funcs[F.id]? = some f) (ho:jJ f = true) (h:evF (En E0 d L8) K f F.md F.a F.r = F.spec):Sd Tryz.prog E0 F:=mkS h8 hf ho h
theorem ml8 {d:Bool} {F:Fun} {f:Go.Func} {S:Nat→F.a.I→Option F.r.I} (hf:Tryz.prog.funcs[F.id]? = some f) (ho:jJ f = true) (h:∀ K,evF (En E0 d L8) K f F.md F.a F.r = S K) (e:S K0 = F.spec):Sd Tryz.prog E0 F:=mkS h8 hf ho ((h K0).trans e)
abbrev Es8:Env:=En E0 false L8
abbrev Ed8:Env:=En E0 true L8
def zbf:(qV × Unit)→Option (Bool × Unit):=fun (x0,()) =>
 Option.bind (ze4 (x0.1,x0.2.1.2.2.1,())) fun q0=>bif q0.1 then Option.bind (zpu (x0.2.1.2.2.2.1,())) fun q1=>bif q1.1 then Option.bind (zny (x0.2.1.2.2.2.2.1,())) fun q2=>bif q2.1 then Option.bind (zfK (x0.2.1,ze zP,())) fun q3=>bif q3.1 then Option.bind (zig (x0.2.1.2.2.2.1,some fun z=>zfB (z.1,some x0,()),())) fun q4=>bif q4.1 then Option.bind (zd4 (x0.2.1.2.2.2.2.1,some fun z=>zbt (z.1,some x0,()),())) fun q5=>bif q5.1 then Option.bind (zat (x0.2.1.2.2.2.2.2.1,some fun z=>vC (z.1,some x0,()),())) fun q6=>bif q6.1 then some (true,()) else some (false,()) else Option.bind (zat (x0.2.1.2.2.2.2.2.1,some fun z=>vC (z.1,some x0,()),())) fun q7=>bif q7.1 then some (false,()) else some (false,()) else Option.bind (zd4 (x0.2.1.2.2.2.2.1,some fun z=>zbt (z.1,some x0,()),())) fun q8=>bif q8.1 then Option.bind (zat (x0.2.1.2.2.2.2.2.1,some fun z=>vC (z.1,some x0,()),())) fun q9=>bif q9.1 then some (false,()) else some (false,()) else Option.bind (zat (x0.2.1.2.2.2.2.2.1,some fun z=>vC (z.1,some x0,()),())) fun q10=>bif q10.1 then some (false,()) else some (false,()) else some (false,()) else some (false,()) else some (false,()) else some (false,())
abbrev ztv:Fun:=⟨84,(ch [qp]),(ch [.bool]),0,zbf⟩
theorem zFL:Sq ztv:=ms8 (d:=false) (K:=0) Tryz.func84 (by kernel_rfl) (funext fun (x0,())=>by kernel_rfl)
def zgg:(za × (Int × (Int × Unit)))→Option (Bool × Unit):=fun (x0,x1,x2,()) =>
 Option.bind (yo (x0,x1,())) fun q0=>bif q0.1 then Option.bind (yo (x0,x2,())) fun q1=>bif q1.1 then inR x1 ((List.length x0.1):Int) (inR x2 ((List.length x0.1):Int) (Option.bind (zix (ix zA x0.1 x1,ix zA x0.1 x2,())) fun q2=>bif q2.1 then some (true,()) else some (false,()))) else some (false,()) else some (false,())
abbrev zz2:Fun:=⟨47,(ch [zl,tI,tI]),(ch [.bool]),0,zgg⟩
theorem zMv:Sq zz2:=ms8 (d:=false) (K:=0) Tryz.func47 (by kernel_rfl) (funext fun (x0,x1,x2,())=>by kernel_rfl)
def zmw:(za × (zd × (pMe × (ByteArray × Unit))))→Option ((List Int) × (Int × Unit)):=fun (x0,x1,x2,x3,()) =>
 Option.bind (zdR (x0,x1,x2,())) fun q0=>bif q0.1 then Option.bind (zeC (x3,())) fun q1=>bif q1.1 then Option.bind (zkT (x0,x1,x2,true,())) fun q2=>some (q2.1,0,()) else some ([],2,()) else some ([],1,())
abbrev zz3:Fun:=⟨21,(ch [zl,zo,tMe,.str]),(ch [(.sl tI),tI]),0,zmw⟩
theorem zMw:Sq zz3:=ms8 (d:=false) (K:=0) Tryz.func21 (by kernel_rfl) (funext fun (x0,x1,x2,x3,())=>by kernel_rfl)
abbrev zbP:Type:=Int × (List zL) × Int × Int × za × List Int
abbrev zBs:zbP→St:=fun (v1,v14,v15,v16,o0,o1)=>St.mk [(1,.dat tI v1),(2,.bp 0 []),(5,.ow 1),(14,.dat (.sl ja) v14),(15,.dat tI v15),(16,.dat tI v16)] [.bx (.dat zl o0) false,.row tI o1 false]
def zbQ (k0:zbP→Option ((List Int) × Unit)):zbP→Option ((List Int) × Unit):=fun (v1,v14,v15,v16,o0,o1) =>
 bif decide (v16 < v15) then inR v16 ((List.length v14):Int) (inR v1 ((List.length o0.1):Int) (Option.bind (zgV (ix zA o0.1 v1,())) fun q1=>Option.bind (ve (q1.1,(ix zD v14 v16).1,())) fun q2=>bif q2.1 then bif decide (List.length o1 + List.length (zh (List.replicate 1 (0:Int)) 0 v16) ≤ lim) then k0 (v1,v14,v15,wI (v16 + 1),o0,o1 ++ zh (List.replicate 1 (0:Int)) 0 v16) else none else k0 (v1,v14,v15,wI (v16 + 1),o0,o1))) else some (o1,())
abbrev zpz (K:Nat):zbP→Option ((List Int) × Unit):=zg zbQ K
theorem zBt (K:Nat):∀ n,evV Es8 K Tryz.f74 0 (ch [(.sl tI)]) [1,1,1,0,1,0] [] zBs n = zg zbQ n:=zm fun n0 (v1,v14,v15,v16,o0,o1)=>by kernel_rfl
def zhO (L0:zbP→Option ((List Int) × Unit)):(za × (Int × Unit))→Option ((List Int) × Unit):=fun (x0,x1,()) =>
 Option.bind (yo (x0,x1,())) fun q0=>bif q0.1 then L0 (x1,x0.2.2.2.1,((List.length x0.2.2.2.1):Int),0,x0,[]) else some ([],())
def y0:(za × Int × Unit)→Option ((List Int) × Unit):=zhO (zpz K0)
abbrev ztw:Fun:=⟨74,(ch [zl,tI]),(ch [(.sl tI)]),0,y0⟩
theorem zFM:Sq ztw:=ml8 (d:=false) (S:=fun K=>zhO (zpz K)) Tryz.func74 (by kernel_rfl) (fun K=>tr1 (T:=zhO) (zBt K K) fun (x0,x1,())=>by kernel_rfl) rfl
def zje:(za × (zd × (pMe × (Int × (ByteArray × Unit)))))→Option ((List Int) × (Int × Unit)):=fun (x0,x1,x2,x3,x4,()) =>
 Option.bind (zdR (x0,x1,x2,())) fun q0=>bif q0.1 then bif decide (x3 < 0) then some ([],1,()) else bif decide (x3 ≥ ((List.length x0.2.2.2.1):Int)) then some ([],1,()) else inR x2.2.1 ((List.length x0.1):Int) (inR x3 ((List.length x0.2.2.2.1):Int) (Option.bind (vV (ix zA x0.1 x2.2.1,(ix zD x0.2.2.2.1 x3).1,())) fun q1=>bif q1.1 then Option.bind (zeC (x4,())) fun q2=>bif q2.1 then Option.bind (zkT (x0,x1,x2,false,())) fun q3=>some (q3.1,0,()) else some ([],2,()) else some ([],5,()))) else some ([],1,())
abbrev zvH:Fun:=⟨23,(ch [zl,zo,tMe,tI,.str]),(ch [(.sl tI),tI]),0,zje⟩
theorem zHO:Sq zvH:=ms8 (d:=false) (K:=0) Tryz.func23 (by kernel_rfl) (funext fun (x0,x1,x2,x3,x4,())=>by kernel_rfl)
def zgL:(za × (Int × Unit))→Option (Int × Unit):=fun (x0,x1,()) =>
 Option.bind (yo (x0,x1,())) fun q0=>bif q0.1 then Option.bind (zaZ (x0.2.2.2.1,some fun z=>zaK (z.1,some x0,some x1,()),())) fun q1=>some (q1.1,()) else some ((-1),())
abbrev zri:Fun:=⟨232,(ch [zl,tI]),(ch [tI]),0,zgL⟩
theorem zDO:Sq zri:=ms8 (d:=false) (K:=0) Tryz.func232 (by kernel_rfl) (funext fun (x0,x1,())=>by kernel_rfl)
def zjf:(za × (zd × (pMe × (Int × (Int × Unit)))))→Option (zd × (Int × Unit)):=fun (x0,x1,x2,x3,x4,()) =>
 Option.bind (zdR (x0,x1,x2,())) fun q0=>bif q0.1 then bif decide (x3 < 28) then some ((0,[],[],[],[],[],()),1,()) else bif decide (x3 > 30) then some ((0,[],[],[],[],[],()),1,()) else Option.bind (zmv (x0,x1.2.2.1,wI (x3 - 27),x2.2.1,x2.2.2.1,x4,())) fun q1=>bif q1.2.1 != 0 then some ((0,[],[],[],[],[],()),q1.2.1,()) else some ((u2 x1 q1.1),0,()) else some ((0,[],[],[],[],[],()),1,())
abbrev zvI:Fun:=⟨25,(ch [zl,zo,tMe,tI,tI]),(ch [zo,tI]),0,zjf⟩
theorem zHP:Sq zvI:=ms8 (d:=false) (K:=0) Tryz.func25 (by kernel_rfl) (funext fun (x0,x1,x2,x3,x4,())=>by kernel_rfl)
def zhP:(za × (Int × Unit))→Option (Int × Unit):=fun (x0,x1,()) =>
 Option.bind (vz (x0,())) fun q0=>bif q0.1 then Option.bind (qq (x1,0,wI (((List.length x0.2.2.2.1):Int) - 1),())) fun q1=>bif q1.1 then inR x1 ((List.length x0.2.2.2.1):Int) (Option.bind (zeg ((ix zD x0.2.2.2.1 x1).1,())) fun q2=>Option.bind (zjd (x0,q2.1,())) fun q3=>some (q3.1,())) else some ((-1),()) else some ((-1),())
abbrev ztx:Fun:=⟨81,(ch [zl,tI]),(ch [tI]),0,zhP⟩
theorem zFN:Sq ztx:=ms8 (d:=false) (K:=0) Tryz.func81 (by kernel_rfl) (funext fun (x0,x1,())=>by kernel_rfl)
def zgM:(za × (zd × (pMe × (Int × Unit))))→Option ((List Int) × (Int × Unit)):=fun (x0,x1,x2,x3,()) =>
 Option.bind (zdR (x0,x1,x2,())) fun q0=>bif q0.1 then bif decide (x3 < 0) then some ([],1,()) else bif decide (x3 ≥ ((List.length x0.2.2.2.1):Int)) then some ([],1,()) else inR x2.2.1 ((List.length x0.1):Int) (inR x3 ((List.length x0.2.2.2.1):Int) (Option.bind (vV (ix zA x0.1 x2.2.1,(ix zD x0.2.2.2.1 x3).1,())) fun q1=>bif q1.1 then inR x3 ((List.length x1.2.2.1):Int) (some (List.getD x1.2.2.1 (Int.toNat x3) ([]:List Int),0,())) else some ([],5,()))) else some ([],1,())
abbrev zrj:Fun:=⟨27,(ch [zl,zo,tMe,tI]),(ch [(.sl tI),tI]),0,zgM⟩
theorem zDP:Sq zrj:=ms8 (d:=false) (K:=0) Tryz.func27 (by kernel_rfl) (funext fun (x0,x1,x2,x3,())=>by kernel_rfl)
abbrev zf5:Type:=Int × Int × Int × Int × List zp × Nat × List (List Int) × Nat × List zr × List zI × List Int × List zp × Nat × List (List Int) × Nat × List zr × List zI × List Int
abbrev zvJ:zf5→St:=fun (v42,v43,o0_0,o1_0,o2,c2,o3,c3,o4,o5,o6,o7,c7,o8,c8,o9,o10,o11)=>St.mk [(2,.bp 0 []),(4,.bp 1 []),(42,.dat tI v42),(43,.dat tI v43)] [.bx (.fld (.pair tU (.pair (.sl zv) (.pair (.sl (.sl tI)) (.pair (.sl zq) (.pair (.sl zx) (.pair (.sl tI) .unit)))))) [.dat tU o0_0,.ow 2,.ow 3,.ow 4,.ow 5,.ow 6]) false,.bx (.fld (.pair tU (.pair (.sl zv) (.pair (.sl (.sl tI)) (.pair (.sl zq) (.pair (.sl zx) (.pair (.sl tI) .unit)))))) [.dat tU o1_0,.ow 7,.ow 8,.ow 9,.ow 10,.ow 11]) false,.drow zv o2 c2,.drow (.sl tI) o3 c3,.row zq o4 false,.row zx o5 false,.row tI o6 false,.drow zv o7 c7,.drow (.sl tI) o8 c8,.row zq o9 false,.row zx o10 false,.row tI o11 false]
abbrev zf6:Type:=(List zbl) × Int × Int × za × Int × Int × List zp × Nat × List (List Int) × Nat × List zr × List zI × List Int × List zp × Nat × List (List Int) × Nat × List zr × List zI × List Int
abbrev zHQ:zf6→St:=fun (v18,v19,v20,o0,o1_0,o2_0,o3,c3,o4,c4,o5,o6,o7,o8,c8,o9,c9,o10,o11,o12)=>St.mk [(1,.bp 0 []),(2,.bp 1 []),(4,.bp 2 []),(18,.dat (.sl zcn) v18),(19,.dat tI v19),(20,.dat tI v20)] [.bx (.dat zl o0) false,.bx (.fld (.pair tU (.pair (.sl zv) (.pair (.sl (.sl tI)) (.pair (.sl zq) (.pair (.sl zx) (.pair (.sl tI) .unit)))))) [.dat tU o1_0,.ow 3,.ow 4,.ow 5,.ow 6,.ow 7]) false,.bx (.fld (.pair tU (.pair (.sl zv) (.pair (.sl (.sl tI)) (.pair (.sl zq) (.pair (.sl zx) (.pair (.sl tI) .unit)))))) [.dat tU o2_0,.ow 8,.ow 9,.ow 10,.ow 11,.ow 12]) false,.drow zv o3 c3,.drow (.sl tI) o4 c4,.row zq o5 false,.row zx o6 false,.row tI o7 false,.drow zv o8 c8,.drow (.sl tI) o9 c9,.row zq o10 false,.row zx o11 false,.row tI o12 false]
def zvK (k1:zf5→Option (zd × (Int × Unit))):zf5→Option (zd × (Int × Unit)):=fun (v42,v43,o0_0,o1_0,o2,c2,o3,c3,o4,o5,o6,o7,c7,o8,c8,o9,o10,o11) =>
 bif decide (v43 < v42) then bif decide (List.length o11 + List.length (zh (List.replicate 1 (0:Int)) 0 (-1)) ≤ lim) then k1 (v42,wI (v43 + 1),o0_0,o1_0,o2,c2,o3,c3,o4,o5,o6,o7,c7,o8,c8,o9,o10,o11 ++ zh (List.replicate 1 (0:Int)) 0 (-1)) else none else bif decide (c7 = List.length o7) then bif decide (c8 = List.length o8) then some ((o1_0,o7,o8,o9,o10,o11,()),0,()) else none else none
abbrev znC (K:Nat):zf5→Option (zd × (Int × Unit)):=zg zvK K
theorem zHR (K:Nat):∀ n,evV Ed8 K Tryz.f62 3 (ch [zo,tI]) [1,1,1,1,1,0,1,0] [] zvJ n = zg zvK n:=zm fun n1 (v42,v43,o0_0,o1_0,o2,c2,o3,c3,o4,o5,o6,o7,c7,o8,c8,o9,o10,o11)=>by kernel_rfl
def znD (L1:zf5→Option (zd × (Int × Unit))) (k0:zf6→Option (zd × (Int × Unit))):zf6→Option (zd × (Int × Unit)):=fun (v18,v19,v20,o0,o1_0,o2_0,o3,c3,o4,c4,o5,o6,o7,o8,c8,o9,c9,o10,o11,o12) =>
 bif decide (v20 < v19) then inR v20 ((List.length v18):Int) (Option.bind (zvb (o0,ix qy v18 v20,())) fun q2=>bif decide (List.length o8 + List.length [(q2.1.1,q2.1.2.1,q2.1.2.2.1,q2.1.2.2.2.1,q2.1.2.2.2.2.1,q2.1.2.2.2.2.2.1,q2.1.2.2.2.2.2.2.1,q2.1.2.2.2.2.2.2.2.1,q2.1.2.2.2.2.2.2.2.2.1,())] ≤ lim) then bif decide (c8 = List.length o8) then k0 (v18,v19,wI (v20 + 1),o0,o1_0,o2_0,o3,c3,o4,c4,o5,o6,o7,o8 ++ [(q2.1.1,q2.1.2.1,q2.1.2.2.1,q2.1.2.2.2.1,q2.1.2.2.2.2.1,q2.1.2.2.2.2.2.1,q2.1.2.2.2.2.2.2.1,q2.1.2.2.2.2.2.2.2.1,q2.1.2.2.2.2.2.2.2.2.1,())],c8 + (0 + 1),o9,c9,o10,o11,o12) else none else none) else bif decide (0 < ((List.length o8):Int)) then bif decide (c8 ≤ Int.toNat 0) then bif decide (0 < ((List.length (ix zf o8 0).1):Int)) then none else none else bif decide (0 < ((List.length (ix zf o8 0).1):Int)) then L1 (((List.length o0.2.1):Int),0,o1_0,o2_0,o3,c3,o4,c4,o5,o6,o7,List.set o8 (Int.toNat 0) (List.set (ix zf o8 0).1 (Int.toNat 0) (true,ByteArray.mk #[112,108,97,122,97],(ze qm).2.2),(ix zf o8 0).2),c8,o9,c9,o10,o11,o12) else none else none
abbrev zvL (K:Nat):zf6→Option (zd × (Int × Unit)):=zg (fun k0=>znD (znC K) k0) K
theorem zHS (K:Nat):∀ n,evV Ed8 K Tryz.f62 3 (ch [zo,tI]) [1,1,1,0,1,0] [] zHQ n = zg (fun k0=>znD (znC K) k0) n:=qC (B:=fun L1 k0=>znD L1 k0) (V1:=fun n0=>evV Ed8 K Tryz.f62 3 (ch [zo,tI]) [1,1,1,1,1,0,1,0] [] zvJ K) (W1:=fun k0=>(znC K)) (fun n0=>zHR K K) fun n0 (v18,v19,v20,o0,o1_0,o2_0,o3,c3,o4,c4,o5,o6,o7,o8,c8,o9,c9,o10,o11,o12)=>by kernel_rfl
def zr2 (L0:zf6→Option (zd × (Int × Unit))):(za × Unit)→Option (zd × (Int × Unit)):=fun (x0,()) =>
 Option.bind (vz (x0,())) fun q0=>bif q0.1 then Option.bind (zDM (x0,())) fun q1=>bif decide (0 ≤ x0.2.2.2.2.2.1) then bif decide (x0.2.2.2.2.2.1 ≤ x0.2.2.2.2.2.1) then bif decide (x0.2.2.2.2.2.1 ≤ (↑lim:Int)) then L0 (x0.2.2.2.2.1,((List.length x0.2.2.2.2.1):Int),0,x0,0,0,[],0,[],0,[],[],[],[],0,q1.1,List.length q1.1,List.replicate (Int.toNat x0.2.2.2.2.2.1) (ze zq),[],[]) else none else none else none else some ((0,[],[],[],[],[],()),1,())
def zz4:(za × Unit)→Option (zd × Int × Unit):=zr2 (zvL K0)
abbrev zz5:Fun:=⟨62,(ch [zl]),(ch [zo,tI]),3,zz4⟩
theorem zMx:Sq zz5:=ml8 (d:=true) (S:=fun K=>zr2 (zvL K)) Tryz.func62 (by kernel_rfl) (fun K=>tr1 (T:=zr2) (zHS K K) fun (x0,())=>by kernel_rfl) rfl
abbrev L9:List Fun:=ztv :: zz2 :: zz3 :: ztw :: zvH :: zri :: zvI :: ztx :: zrj :: zz5 :: L8
theorem h9:Sds Tryz.prog E0 L9:=⟨zFL,zMv,zMw,zFM,zHO,zDO,zHP,zFN,zDP,zMx,h8⟩
theorem ms9 {d:Bool} {F:Fun} {f:Go.Func} {K:Nat} (hf:Tryz.prog.funcs[F.id]? = some f) (ho:jJ f = true) (h:evF (En E0 d L9) K f F.md F.a F.r = F.spec):Sd Tryz.prog E0 F:=mkS h9 hf ho h
theorem ml9 {d:Bool} {F:Fun} {f:Go.Func} {S:Nat→F.a.I→Option F.r.I} (hf:Tryz.prog.funcs[F.id]? = some f) (ho:jJ f = true) (h:∀ K,evF (En E0 d L9) K f F.md F.a F.r = S K) (e:S K0 = F.spec):Sd Tryz.prog E0 F:=mkS h9 hf ho ((h K0).trans e)
abbrev Es9:Env:=En E0 false L9
abbrev zdy:Type:=Bool × Int × Int × List (Option (Unit→Option (Bool × Unit)))
abbrev zDQ:zdy→St:=fun (v6,v27,v28,o0)=>St.mk [(6,.dat .bool v6),(26,.ow 0),(27,.dat tI v27),(28,.dat tI v28)] [.row (.fn .unit (.pair .bool .unit)) o0 false]
def zgN (k0:zdy→Option (Bool × Unit)):zdy→Option (Bool × Unit):=fun (v6,v27,v28,o0) =>
 bif decide (v28 < v27) then inR v28 ((List.length o0):Int) (Option.bind (List.getD o0 (Int.toNat v28) (ze (.fn .unit (.pair .bool .unit)))) fun q0=>Option.bind (q0 ()) fun q1=>bif q1.1 then k0 (true,v27,wI (v28 + 1),o0) else some (false,())) else some (v6,())
abbrev zrk (K:Nat):zdy→Option (Bool × Unit):=zg zgN K
theorem zDR (K:Nat):∀ n,evV Es9 K Tryz.f30 0 (ch [.bool]) [1,0,1,1,1,0,1,0] [] zDQ n = zg zgN n:=zm fun n0 (v6,v27,v28,o0)=>by kernel_rfl
def znE (L0:zdy→Option (Bool × Unit)):(za × (zd × Unit))→Option (Bool × Unit):=fun (x0,x1,()) =>
 L0 (true,((List.length (zh (zh (zh (zh (zh (zh (zh (List.replicate 7 (ze (.fn .unit (.pair .bool .unit)))) 0 (some fun z=>zcb ((x0,x1,(ze qp).2.2),()))) 1 (some fun z=>zcc ((x0,x1,(ze qp).2.2),()))) 2 (some fun z=>zbf ((x0,x1,(ze qp).2.2),()))) 3 (some fun z=>zf0 ((x0,x1,(ze qp).2.2),()))) 4 (some fun z=>zbd ((x0,x1,(ze qp).2.2),()))) 5 (some fun z=>zfY ((x0,x1,(ze qp).2.2),()))) 6 (some fun z=>zf4 ((x0,x1,(ze qp).2.2),())))):Int),0,[some fun z=>zcb ((x0,x1,(ze qp).2.2),()),some fun z=>zcc ((x0,x1,(ze qp).2.2),()),some fun z=>zbf ((x0,x1,(ze qp).2.2),()),some fun z=>zf0 ((x0,x1,(ze qp).2.2),()),some fun z=>zbd ((x0,x1,(ze qp).2.2),()),some fun z=>zfY ((x0,x1,(ze qp).2.2),()),some fun z=>zf4 ((x0,x1,(ze qp).2.2),())])
def zjg:(za × zd × Unit)→Option (Bool × Unit):=znE (zrk K0)
abbrev zvM:Fun:=⟨30,(ch [zl,zo]),(ch [.bool]),0,zjg⟩
theorem zHT:Sq zvM:=ml9 (d:=false) (S:=fun K=>znE (zrk K)) Tryz.func30 (by kernel_rfl) (fun K=>tr1 (T:=znE) (zDR K K) fun (x0,x1,())=>by kernel_rfl) rfl
abbrev zf7:Type:=(Option ((pMe × Unit)→Option (Bool × Unit))) × (List Int) × Int × Int × za × pMe × List Int
abbrev zHU:zf7→St:=fun (v3,v14,v15,v16,o0,o1,o2)=>St.mk [(3,.dat (.fn (.pair tMe .unit) (.pair .bool .unit)) v3),(4,.bp 0 []),(6,.bp 1 []),(9,.ow 2),(14,.dat (.sl tI) v14),(15,.dat tI v15),(16,.dat tI v16)] [.bx (.dat zl o0) false,.bx (.dat tMe o1) false,.row tI o2 false]
def zf8 (k0:zf7→Option ((List Int) × Unit)):zf7→Option ((List Int) × Unit):=fun (v3,v14,v15,v16,o0,o1,o2) =>
 bif decide (v16 < v15) then inR v16 ((List.length v14):Int) (inR v16 ((List.length o0.2.1):Int) (bif v16 == o1.1 then k0 (v3,v14,v15,wI (v16 + 1),o0,o1,o2) else bif decide (ix (0:Int) v14 v16 < 0) then k0 (v3,v14,v15,wI (v16 + 1),o0,o1,o2) else Option.bind (zgg (o0,o1.2.1,ix (0:Int) o0.2.1 v16,())) fun q0=>bif q0.1 then Option.bind v3 fun q1=>Option.bind (q1 ((v16,ix (0:Int) o0.2.1 v16,ix (0:Int) v14 v16,(ze tMe).2.2.2),())) fun q2=>bif q2.1 then bif decide (List.length o2 + List.length (zh (List.replicate 1 (0:Int)) 0 v16) ≤ lim) then k0 (v3,v14,v15,wI (v16 + 1),o0,o1,o2 ++ zh (List.replicate 1 (0:Int)) 0 v16) else none else k0 (v3,v14,v15,wI (v16 + 1),o0,o1,o2) else k0 (v3,v14,v15,wI (v16 + 1),o0,o1,o2))) else some (o2,())
abbrev znF (K:Nat):zf7→Option ((List Int) × Unit):=zg zf8 K
theorem zHV (K:Nat):∀ n,evV Es9 K Tryz.f69 0 (ch [(.sl tI)]) [1,0,1,1,0,1,0] [] zHU n = zg zf8 n:=zm fun n0 (v3,v14,v15,v16,o0,o1,o2)=>by kernel_rfl
def zr3 (L0:zf7→Option ((List Int) × Unit)):(za × (zd × (pMe × ((Option ((pMe × Unit)→Option (Bool × Unit))) × Unit))))→Option ((List Int) × Unit):=fun (x0,x1,x2,x3,()) =>
 L0 (x3,x1.2.2.2.2.2.1,((List.length x1.2.2.2.2.2.1):Int),0,x0,x2,[])
def zmx:(za × (zd × (pMe × ((Option ((pMe × Unit)→Option (Bool × Unit))) × Unit))))→Option ((List Int) × Unit):=zr3 (znF K0)
abbrev zz6:Fun:=⟨69,(ch [zl,zo,tMe,(.fn (ch [tMe]) (ch [.bool]))]),(ch [(.sl tI)]),0,zmx⟩
theorem zMy:Sq zz6:=ml9 (d:=false) (S:=fun K=>zr3 (znF K)) Tryz.func69 (by kernel_rfl) (fun K=>tr1 (T:=zr3) (zHV K K) fun (x0,x1,x2,x3,())=>by kernel_rfl) rfl
def zhQ:(za × ((List (List Int)) × (Int × (Int × Unit))))→Option (Bool × Unit):=fun (x0,x1,x2,x3,()) =>
 Option.bind (ze4 (x0,x1,())) fun q0=>bif q0.1 then Option.bind (zfd (x2,((List.length x0.2.2.1):Int),())) fun q1=>bif q1.1 then Option.bind (zfd (x3,((List.length x0.1):Int),())) fun q2=>bif q2.1 then inR x2 ((List.length x0.2.2.1):Int) (inR x3 ((List.length x0.1):Int) (bif decide ((ix qt x0.2.2.1 x2).2.2.1 ≥ (ix zA x0.1 x3).1) then Option.bind (y0 (x0,x3,())) fun q3=>Option.bind (qv (q3.1,some fun z=>zbs (z.1,some x1,some x2,()),())) fun q4=>bif q4.1 then some (false,()) else some (true,()) else some (false,()))) else some (false,()) else some (false,()) else some (false,())
abbrev zty:Fun:=⟨233,(ch [zl,(.sl (.sl tI)),tI,tI]),(ch [.bool]),0,zhQ⟩
theorem zFO:Sq zty:=ms9 (d:=false) (K:=0) Tryz.func233 (by kernel_rfl) (funext fun (x0,x1,x2,x3,())=>by kernel_rfl)
abbrev L10:List Fun:=zvM :: zz6 :: zty :: L9
theorem h10:Sds Tryz.prog E0 L10:=⟨zHT,zMy,zFO,h9⟩
theorem zSx {d:Bool} {F:Fun} {f:Go.Func} {K:Nat} (hf:Tryz.prog.funcs[F.id]? = some f) (ho:jJ f = true) (h:evF (En E0 d L10) K f F.md F.a F.r = F.spec):Sd Tryz.prog E0 F:=mkS h10 hf ho h
theorem zSy {d:Bool} {F:Fun} {f:Go.Func} {S:Nat→F.a.I→Option F.r.I} (hf:Tryz.prog.funcs[F.id]? = some f) (ho:jJ f = true) (h:∀ K,evF (En E0 d L10) K f F.md F.a F.r = S K) (e:S K0 = F.spec):Sd Tryz.prog E0 F:=mkS h10 hf ho ((h K0).trans e)
abbrev zSz:Env:=En E0 true L10
def jT:(za × (zd × (pMe × Unit)))→Option (Bool × Unit):=fun (x0,x1,x2,()) =>
 Option.bind (zjg (x0,x1,())) fun q0=>bif q0.1 then bif decide (x2.1 ≥ 0) then bif decide (x2.1 < ((List.length x0.2.1):Int)) then inR x2.1 ((List.length x0.2.1):Int) (bif x2.2.1 == ix (0:Int) x0.2.1 x2.1 then bif decide (x2.2.2.1 ≥ 0) then bif decide (x2.2.2.1 < ((List.length x0.2.2.1):Int)) then some (true,()) else some (false,()) else some (false,()) else some (false,())) else some (false,()) else some (false,()) else some (false,())
abbrev zx5:Fun:=⟨28,(ch [zl,zo,tMe]),(ch [.bool]),0,jT⟩
theorem zKE:Sq zx5:=zSx (d:=false) (K:=0) Tryz.func28 (by kernel_rfl) (funext fun (x0,x1,x2,())=>by kernel_rfl)
abbrev zha:Type:=Int × Int × Int × (List (List Int)) × Int × Int × List (List Int) × Nat
abbrev zKF:zha→St:=fun (v4,v14,v15,v92,v93,v94,o0,c0)=>St.mk [(4,.dat tI v4),(14,.dat tI v14),(15,.dat tI v15),(17,.ow 0),(92,.dat (.sl (.sl tI)) v92),(93,.dat tI v93),(94,.dat tI v94)] [.drow (.sl tI) o0 c0]
def zhb (k0:zha→Option ((List (List Int)) × (Int × Unit))):zha→Option ((List (List Int)) × (Int × Unit)):=fun (v4,v14,v15,v92,v93,v94,o0,c0) =>
 bif decide (v94 < v93) then inR v94 ((List.length v92):Int) (Option.bind (yR (List.getD v92 (Int.toNat v94) ([]:List Int),())) fun q8=>bif decide (List.length o0 + List.length [q8.1] ≤ lim) then bif decide (c0 = List.length o0) then k0 (v4,v14,v15,v92,v93,wI (v94 + 1),o0 ++ [q8.1],c0 + (0 + 1)) else none else none) else inR v14 ((List.length o0):Int) (bif decide (c0 ≤ Int.toNat v14) then inR v4 ((List.length (List.getD o0 (Int.toNat v14) ([]:List Int))):Int) none else inR v4 ((List.length (List.getD o0 (Int.toNat v14) ([]:List Int))):Int) (some (List.set o0 (Int.toNat v14) (List.set (List.getD o0 (Int.toNat v14) ([]:List Int)) (Int.toNat v4) v15),0,())))
abbrev zk2 (K:Nat):zha→Option ((List (List Int)) × (Int × Unit)):=zg zhb K
theorem zKG (K:Nat):∀ n,evV zSz K Tryz.f127 0 (ch [(.sl (.sl tI)),tI]) [1,1,1,1,1,1,1,1,0,1,0] [] zKF n = zg zhb n:=zm fun n0 (v4,v14,v15,v92,v93,v94,o0,c0)=>by kernel_rfl
def zoe (L0:zha→Option ((List (List Int)) × (Int × Unit))):(za × ((List (List Int)) × (Int × (Int × (Int × ((Option ((Int × (Bool × Unit))→Option (Int × (Int × Unit)))) × Unit))))))→Option ((List (List Int)) × (Int × Unit)):=fun (x0,x1,x2,x3,x4,x5,()) =>
 Option.bind (ze4 (x0,x1,())) fun q0=>bif q0.1 then Option.bind (zfd (x2,((List.length x0.1):Int),())) fun q1=>bif q1.1 then Option.bind (zfd (x3,((List.length x0.2.2.1):Int),())) fun q2=>bif q2.1 then Option.bind (zfd (x4,((List.length x0.2.2.1):Int),())) fun q3=>bif q3.1 then Option.bind (zgL (x0,x2,())) fun q4=>bif decide (q4.1 < 0) then some ([],17,()) else Option.bind (zhQ (x0,x1,x3,x2,())) fun q5=>bif q5.1 then inR q4.1 ((List.length x1):Int) (inR x3 ((List.length (List.getD x1 (Int.toNat q4.1) ([]:List Int))):Int) (bif List.getD (List.getD x1 (Int.toNat q4.1) ([]:List Int)) (Int.toNat x3) (0:Int) != 2 then some ([],5,()) else inR q4.1 ((List.length x1):Int) (inR x4 ((List.length (List.getD x1 (Int.toNat q4.1) ([]:List Int))):Int) (inR q4.1 ((List.length x0.2.2.2.1):Int) (bif (ix zD x0.2.2.2.1 q4.1).2.1 == x4 then Option.bind x5 fun q6=>Option.bind (q6 (List.getD (List.getD x1 (Int.toNat q4.1) ([]:List Int)) (Int.toNat x4) (0:Int),true,())) fun q7=>bif q7.2.1 != 0 then some ([],q7.2.1,()) else L0 (x4,q4.1,q7.1,x1,((List.length x1):Int),0,[],0) else Option.bind x5 fun q9=>Option.bind (q9 (List.getD (List.getD x1 (Int.toNat q4.1) ([]:List Int)) (Int.toNat x4) (0:Int),false,())) fun q10=>bif q10.2.1 != 0 then some ([],q10.2.1,()) else L0 (x4,q4.1,q10.1,x1,((List.length x1):Int),0,[],0)))))) else some ([],5,()) else some ([],1,()) else some ([],1,()) else some ([],1,()) else some ([],1,())
def zhR:(za × ((List (List Int)) × (Int × (Int × (Int × ((Option ((Int × Bool × Unit)→Option (Int × Int × Unit))) × Unit))))))→Option ((List (List Int)) × Int × Unit):=zoe (zk2 K0)
abbrev zDS:Fun:=⟨127,(ch [zl,(.sl (.sl tI)),tI,tI,tI,(.fn (ch [tI,.bool]) (ch [tI,tI]))]),(ch [(.sl (.sl tI)),tI]),0,zhR⟩
theorem zOy:Sq zDS:=zSy (d:=true) (S:=fun K=>zoe (zk2 K)) Tryz.func127 (by kernel_rfl) (fun K=>tr1 (T:=zoe) (zKG K K) fun (x0,x1,x2,x3,x4,x5,())=>by kernel_rfl) rfl
abbrev L11:List Fun:=zx5 :: zDS :: L10
theorem h11:Sds Tryz.prog E0 L11:=⟨zKE,zOy,h10⟩
theorem zr4 {d:Bool} {F:Fun} {f:Go.Func} {K:Nat} (hf:Tryz.prog.funcs[F.id]? = some f) (ho:jJ f = true) (h:evF (En E0 d L11) K f F.md F.a F.r = F.spec):Sd Tryz.prog E0 F:=mkS h11 hf ho h
def zhS:(za × (zd × (pMe × (ByteArray × Unit))))→Option ((List Int) × (Int × Unit)):=fun (x0,x1,x2,x3,()) =>
 Option.bind (jT (x0,x1,x2,())) fun q0=>bif q0.1 then Option.bind (zdQ (x3,())) fun q1=>bif q1.1 then Option.bind (zmx (x0,x1,x2,some fun z=>zg3 (z.1,some (some fun z_1=>vv (z_1.1,some x1,())),some x2,()),())) fun q2=>some (q2.1,0,()) else some ([],2,()) else some ([],1,())
abbrev zDT:Fun:=⟨20,(ch [zl,zo,tMe,.str]),(ch [(.sl tI),tI]),0,zhS⟩
theorem zOz:Sq zDT:=zr4 (d:=false) (K:=0) Tryz.func20 (by kernel_rfl) (funext fun (x0,x1,x2,x3,())=>by kernel_rfl)
def ze5:(za × (zd × (pMe × (Int × (ByteArray × Unit)))))→Option ((List Int) × (Int × Unit)):=fun (x0,x1,x2,x3,x4,()) =>
 Option.bind (jT (x0,x1,x2,())) fun q0=>bif q0.1 then Option.bind (zem (x0,x3,())) fun q1=>bif q1.1 then Option.bind (y0 (x0,x2.2.1,())) fun q2=>Option.bind (ve (q2.1,x3,())) fun q3=>bif q3.1 then Option.bind (zdQ (x4,())) fun q4=>bif q4.1 then Option.bind (zmx (x0,x1,x2,some zlP,())) fun q5=>some (q5.1,0,()) else some ([],2,()) else some ([],5,()) else some ([],1,()) else some ([],1,())
abbrev zx6:Fun:=⟨22,(ch [zl,zo,tMe,tI,.str]),(ch [(.sl tI),tI]),0,ze5⟩
theorem zKH:Sq zx6:=zr4 (d:=false) (K:=0) Tryz.func22 (by kernel_rfl) (funext fun (x0,x1,x2,x3,x4,())=>by kernel_rfl)
def zjh:(za × ((List (List Int)) × (Int × (Int × (Int × Unit)))))→Option ((List (List Int)) × (Int × Unit)):=fun (x0,x1,x2,x3,x4,()) =>
 Option.bind (zhR (x0,x1,x2,x3,x4,some zqA,())) fun q0=>some q0
abbrev zvN:Fun:=⟨77,(ch [zl,(.sl (.sl tI)),tI,tI,tI]),(ch [(.sl (.sl tI)),tI]),0,zjh⟩
theorem zHW:Sq zvN:=zr4 (d:=false) (K:=0) Tryz.func77 (by kernel_rfl) (funext fun (x0,x1,x2,x3,x4,())=>by kernel_rfl)
def zk3:(za × ((List (List Int)) × (Int × (Int × (Int × Unit)))))→Option ((List (List Int)) × (Int × Unit)):=fun (x0,x1,x2,x3,x4,()) =>
 Option.bind (zhR (x0,x1,x2,x3,x4,some zsJ,())) fun q0=>some q0
abbrev zx7:Fun:=⟨78,(ch [zl,(.sl (.sl tI)),tI,tI,tI]),(ch [(.sl (.sl tI)),tI]),0,zk3⟩
theorem zKI:Sq zx7:=zr4 (d:=false) (K:=0) Tryz.func78 (by kernel_rfl) (funext fun (x0,x1,x2,x3,x4,())=>by kernel_rfl)
def zk4:(za × ((List (List Int)) × (Int × (Int × (Int × Unit)))))→Option ((List (List Int)) × (Int × Unit)):=fun (x0,x1,x2,x3,x4,()) =>
 Option.bind (zhR (x0,x1,x2,x3,x4,some zsL,())) fun q0=>some q0
abbrev zx8:Fun:=⟨79,(ch [zl,(.sl (.sl tI)),tI,tI,tI]),(ch [(.sl (.sl tI)),tI]),0,zk4⟩
theorem zKJ:Sq zx8:=zr4 (d:=false) (K:=0) Tryz.func79 (by kernel_rfl) (funext fun (x0,x1,x2,x3,x4,())=>by kernel_rfl)
def ze6:(za × (zd × (pMe × (Int × Unit))))→Option ((List Int) × (Int × Unit)):=fun (x0,x1,x2,x3,()) =>
 Option.bind (jT (x0,x1,x2,())) fun q0=>bif q0.1 then Option.bind (zem (x0,x3,())) fun q1=>bif q1.1 then Option.bind (zhP (x0,x3,())) fun q2=>Option.bind (zgg (x0,q2.1,x2.2.1,())) fun q3=>bif q3.1 then inR x3 ((List.length x1.2.2.1):Int) (Option.bind (yR (List.getD x1.2.2.1 (Int.toNat x3) ([]:List Int),())) fun q4=>some (q4.1,0,())) else some ([],5,()) else some ([],1,()) else some ([],1,())
abbrev ztz:Fun:=⟨26,(ch [zl,zo,tMe,tI]),(ch [(.sl tI),tI]),0,ze6⟩
theorem zFP:Sq ztz:=zr4 (d:=false) (K:=0) Tryz.func26 (by kernel_rfl) (funext fun (x0,x1,x2,x3,())=>by kernel_rfl)
def zmy:(za × (zd × (pMe × (Int × (Int × (ByteArray × Unit))))))→Option (zd × (Int × Unit)):=fun (x0,x1,x2,x3,x4,x5,()) =>
 Option.bind (jT (x0,x1,x2,())) fun q0=>bif q0.1 then bif decide (x3 < 0) then some ((0,[],[],[],[],[],()),1,()) else bif decide (x3 ≥ ((List.length x0.1):Int)) then some ((0,[],[],[],[],[],()),1,()) else bif decide (x4 < 0) then some ((0,[],[],[],[],[],()),1,()) else bif decide (x4 ≥ ((List.length x0.2.2.1):Int)) then some ((0,[],[],[],[],[],()),1,()) else Option.bind (zgg (x0,x2.2.1,x3,())) fun q1=>bif q1.1 then inR x3 ((List.length x1.2.1):Int) (Option.bind (zDH ((ix zf x1.2.1 x3).2.2.2.1,((ze zz).1,x2.2.1,x2.2.2.1,x4,x5,(ze zz).2.2.2.2.2),())) fun q2=>Option.bind (je (x1,())) fun q3=>bif q2.2.2.1 == 0 then inR x3 ((List.length q3.1.2.1):Int) (some ((u1 q3.1 (List.set q3.1.2.1 (Int.toNat x3) (u3 (ix zf q3.1.2.1 x3) q2.1))),0,())) else bif q2.2.2.1 == 2 then some ((0,[],[],[],[],[],()),q2.2.2.1,()) else bif x3 == x2.2.1 then some ((0,[],[],[],[],[],()),q2.2.2.1,()) else some (q3.1,0,())) else some ((0,[],[],[],[],[],()),5,()) else some ((0,[],[],[],[],[],()),1,())
abbrev zz7:Fun:=⟨8,(ch [zl,zo,tMe,tI,tI,.str]),(ch [zo,tI]),0,zmy⟩
theorem zMz:Sq zz7:=zr4 (d:=true) (K:=0) Tryz.func8 (by kernel_rfl) (funext fun (x0,x1,x2,x3,x4,x5,())=>by kernel_rfl)
def zx9:(za × (zd × (pMe × Unit)))→Option ((List Int) × (Int × Unit)):=fun (x0,x1,x2,()) =>
 Option.bind (jT (x0,x1,x2,())) fun q0=>bif q0.1 then Option.bind (zkp (x1,x2,())) fun q1=>Option.bind (zxT (q1.1,x2.2.2.1,())) fun q2=>some (q2.1,0,()) else some ([],1,())
abbrev zya:Fun:=⟨14,(ch [zl,zo,tMe]),(ch [(.sl tI),tI]),0,zx9⟩
theorem zKK:Sq zya:=zr4 (d:=false) (K:=0) Tryz.func14 (by kernel_rfl) (funext fun (x0,x1,x2,())=>by kernel_rfl)
def zvO:(za × (zd × (pMe × (Int × Unit))))→Option (zU × (Int × Unit)):=fun (x0,x1,x2,x3,()) =>
 Option.bind (jT (x0,x1,x2,())) fun q0=>bif q0.1 then Option.bind (zkp (x1,x2,())) fun q1=>Option.bind (zuu (q1.1,x3,x2.2.2.1,())) fun q2=>some q2 else some ((false,0,0,0,ByteArray.mk #[],()),1,())
abbrev zvP:Fun:=⟨12,(ch [zl,zo,tMe,tI]),(ch [zz,tI]),0,zvO⟩
theorem zHX:Sq zvP:=zr4 (d:=false) (K:=0) Tryz.func12 (by kernel_rfl) (funext fun (x0,x1,x2,x3,())=>by kernel_rfl)
def zr5:(za × (zd × (pMe × (Int × Unit))))→Option (zd × (Int × Unit)):=fun (x0,x1,x2,x3,()) =>
 Option.bind (jT (x0,x1,x2,())) fun q0=>bif q0.1 then Option.bind (zkp (x1,x2,())) fun q1=>Option.bind (zzZ (q1.1,x3,x2.2.2.1,())) fun q2=>bif q2.2.1 != 0 then some ((0,[],[],[],[],[],()),q2.2.1,()) else Option.bind (je (x1,())) fun q3=>inR x2.2.1 ((List.length q3.1.2.1):Int) (some ((u1 q3.1 (List.set q3.1.2.1 (Int.toNat x2.2.1) (u3 (ix zf q3.1.2.1 x2.2.1) q2.1))),0,())) else some ((0,[],[],[],[],[],()),1,())
abbrev zz8:Fun:=⟨10,(ch [zl,zo,tMe,tI]),(ch [zo,tI]),0,zr5⟩
theorem zMA:Sq zz8:=zr4 (d:=true) (K:=0) Tryz.func10 (by kernel_rfl) (funext fun (x0,x1,x2,x3,())=>by kernel_rfl)
abbrev L12:List Fun:=zDT :: zx6 :: zvN :: zx7 :: zx8 :: ztz :: zz7 :: zya :: zvP :: zz8 :: L11
theorem h12:Sds Tryz.prog E0 L12:=⟨zOz,zKH,zHW,zKI,zKJ,zFP,zMz,zKK,zHX,zMA,h11⟩
theorem zSA {d:Bool} {F:Fun} {f:Go.Func} {K:Nat} (hf:Tryz.prog.funcs[F.id]? = some f) (ho:jJ f = true) (h:evF (En E0 d L12) K f F.md F.a F.r = F.spec):Sd Tryz.prog E0 F:=mkS h12 hf ho h
def ze7:(za × (zd × (pMe × (Int × (Int × Unit)))))→Option (zd × (Int × Unit)):=fun (x0,x1,x2,x3,x4,()) =>
 Option.bind (jT (x0,x1,x2,())) fun q0=>bif q0.1 then bif x3 == 28 then Option.bind (zjh (x0,x1.2.2.1,x2.2.1,x2.2.2.1,x4,())) fun q1=>bif q1.2.1 != 0 then some ((0,[],[],[],[],[],()),q1.2.1,()) else Option.bind (je (x1,())) fun q2=>some ((u2 q2.1 q1.1),0,()) else bif x3 == 29 then Option.bind (zk3 (x0,x1.2.2.1,x2.2.1,x2.2.2.1,x4,())) fun q3=>bif q3.2.1 != 0 then some ((0,[],[],[],[],[],()),q3.2.1,()) else Option.bind (je (x1,())) fun q4=>some ((u2 q4.1 q3.1),0,()) else bif x3 == 30 then Option.bind (zk4 (x0,x1.2.2.1,x2.2.1,x2.2.2.1,x4,())) fun q5=>bif q5.2.1 != 0 then some ((0,[],[],[],[],[],()),q5.2.1,()) else Option.bind (je (x1,())) fun q6=>some ((u2 q6.1 q5.1),0,()) else some ((0,[],[],[],[],[],()),1,()) else some ((0,[],[],[],[],[],()),1,())
abbrev zyb:Fun:=⟨24,(ch [zl,zo,tMe,tI,tI]),(ch [zo,tI]),0,ze7⟩
theorem zKL:Sq zyb:=zSA (d:=true) (K:=0) Tryz.func24 (by kernel_rfl) (funext fun (x0,x1,x2,x3,x4,())=>by kernel_rfl)
abbrev L13:List Fun:=zyb :: L12
theorem h13:Sds Tryz.prog E0 L13:=⟨zKL,h12⟩
theorem zSB {d:Bool} {F:Fun} {f:Go.Func} {K:Nat} (hf:Tryz.prog.funcs[F.id]? = some f) (ho:jJ f = true) (h:evF (En E0 d L13) K f F.md F.a F.r = F.spec):Sd Tryz.prog E0 F:=mkS h13 hf ho h
def zji:Unit→Option (Bool × Unit):=fun () =>
 Option.bind (zu9 ()) fun q0=>Option.bind (zz4 (q0.1,())) fun q1=>bif q1.2.1 != 0 then some (false,()) else bif ((List.length q1.1.2.2.2.2.2.1):Int) != 3 then some (false,()) else bif decide (1 < ((List.length q1.1.2.2.2.2.2.1):Int)) then bif decide (2 < ((List.length (List.set q1.1.2.2.2.2.2.1 (Int.toNat 1) 0)):Int)) then Option.bind (zmy (q0.1,(u5 q1.1 (List.set (List.set q1.1.2.2.2.2.2.1 (Int.toNat 1) 0) (Int.toNat 2) 0)),(0,(ze tMe).2),2,0,ByteArray.mk #[104,105],())) fun q2=>Option.bind (zmy (q0.1,(u5 q1.1 (List.set (List.set q1.1.2.2.2.2.2.1 (Int.toNat 1) 0) (Int.toNat 2) 0)),(2,2,(ze tMe).2.2),0,0,ByteArray.mk #[104,105],())) fun q3=>Option.bind (zx9 (q0.1,q2.1,(2,2,(ze tMe).2.2),())) fun q4=>Option.bind (zvO (q0.1,q2.1,(2,2,(ze tMe).2.2),0,())) fun q5=>Option.bind (zr5 (q0.1,q2.1,(2,2,(ze tMe).2.2),0,())) fun q6=>Option.bind (zhS (q0.1,(u5 q1.1 (List.set (List.set q1.1.2.2.2.2.2.1 (Int.toNat 1) 0) (Int.toNat 2) 0)),(0,(ze tMe).2),ByteArray.mk #[104,105],())) fun q7=>Option.bind (zhS (q0.1,(u5 q1.1 (List.set (List.set q1.1.2.2.2.2.2.1 (Int.toNat 1) 0) (Int.toNat 2) 0)),(0,(ze tMe).2),ByteArray.mk #[32],())) fun q8=>Option.bind (ze5 (q0.1,(u5 q1.1 (List.set (List.set q1.1.2.2.2.2.2.1 (Int.toNat 1) 0) (Int.toNat 2) 0)),(1,1,(ze tMe).2.2),0,ByteArray.mk #[104,105],())) fun q9=>Option.bind (ze5 (q0.1,(u5 q1.1 (List.set (List.set q1.1.2.2.2.2.2.1 (Int.toNat 1) 0) (Int.toNat 2) 0)),(0,(ze tMe).2),0,ByteArray.mk #[104,105],())) fun q10=>Option.bind (ze7 (q0.1,(u5 q1.1 (List.set (List.set q1.1.2.2.2.2.2.1 (Int.toNat 1) 0) (Int.toNat 2) 0)),(1,1,(ze tMe).2.2),28,1,())) fun q11=>Option.bind (ze6 (q0.1,q11.1,(2,2,(ze tMe).2.2),0,())) fun q12=>bif q2.2.1 != 0 then some (false,()) else bif q4.2.1 != 0 then some (false,()) else bif q6.2.1 != 0 then some (false,()) else bif q7.2.1 != 0 then some (false,()) else bif q9.2.1 != 0 then some (false,()) else bif q11.2.1 != 0 then some (false,()) else bif q12.2.1 != 0 then some (false,()) else bif ((List.length q12.1):Int) != 2 then some (false,()) else bif ((List.length q6.1.2.1):Int) != 3 then some (false,()) else bif q3.2.1 == 5 then bif ((List.length q4.1):Int) == 1 then bif ByteArray.toList q5.1.2.2.2.2.1 == ByteArray.toList (ByteArray.mk #[104,105]) then bif q5.2.1 == 0 then bif decide (2 < ((List.length q6.1.2.1):Int)) then bif decide (0 < ((List.length (ix zf q6.1.2.1 2).2.2.2.1):Int)) then bif (List.getD (ix zf q6.1.2.1 2).2.2.2.1 (Int.toNat 0) (ze zz)).1 then some (false,()) else Option.bind (zag (q7.1,zh (zh (List.replicate 2 (0:Int)) 0 1) 1 2,())) fun q13=>bif q13.1 then bif q8.2.1 == 2 then Option.bind (zag (q9.1,zh (List.replicate 1 (0:Int)) 0 2,())) fun q14=>bif q14.1 then bif q10.2.1 == 5 then bif decide (1 < ((List.length q12.1):Int)) then bif ix (0:Int) q12.1 1 == 1 then some (true,()) else some (false,()) else none else some (false,()) else some (false,()) else some (false,()) else some (false,()) else none else none else some (false,()) else some (false,()) else some (false,()) else some (false,()) else none else none
abbrev zvQ:Fun:=⟨18,.unit,(ch [.bool]),0,zji⟩
theorem zHY:Sq zvQ:=zSB (d:=true) (K:=0) Tryz.func18 (by kernel_rfl) (funext fun ()=>by kernel_rfl)
abbrev L14:List Fun:=zvQ :: L13
theorem h14:Sds Tryz.prog E0 L14:=⟨zHY,h13⟩
theorem zSC {d:Bool} {F:Fun} {f:Go.Func} {K:Nat} (hf:Tryz.prog.funcs[F.id]? = some f) (ho:jJ f = true) (h:evF (En E0 d L14) K f F.md F.a F.r = F.spec):Sd Tryz.prog E0 F:=mkS h14 hf ho h
def P_law31_TalkTells:(za × (zd × (pMe × (zox × Unit))))→Option (Bool × Unit):=fun (x0,x1,x2,x3,()) =>
 Option.bind (je (x1,())) fun q0=>Option.bind (zhS (x0,x1,x2,x3.2.2.2.2.1,())) fun q1=>Option.bind (zmw (x0,q0.1,x2,x3.2.2.2.2.1,())) fun q2=>Option.bind (ze5 (x0,x1,x2,x3.2.2.1,x3.2.2.2.2.1,())) fun q3=>Option.bind (zje (x0,q0.1,x2,x3.2.2.1,x3.2.2.2.2.1,())) fun q4=>Option.bind (ze7 (x0,x1,x2,x3.2.2.2.1,x3.2.1,())) fun q5=>Option.bind (zjf (x0,q0.1,x2,x3.2.2.2.1,x3.2.1,())) fun q6=>Option.bind (ze6 (x0,x1,x2,x3.2.2.1,())) fun q7=>Option.bind (zgM (x0,q0.1,x2,x3.2.2.1,())) fun q8=>Option.bind (zji ()) fun q9=>bif q9.1 then Option.bind (zag (q1.1,q2.1,())) fun q10=>bif q10.1 then bif q1.2.1 == q2.2.1 then Option.bind (zag (q3.1,q4.1,())) fun q11=>bif q11.1 then bif q3.2.1 == q4.2.1 then Option.bind (zeS (q5.1,q6.1,())) fun q12=>bif q12.1 then bif q5.2.1 == q6.2.1 then Option.bind (zag (q7.1,q8.1,())) fun q13=>bif q13.1 then bif q7.2.1 == q8.2.1 then Option.bind (zeS (x1,q0.1,())) fun q14=>bif q14.1 then some (true,()) else some (false,()) else some (false,()) else some (false,()) else some (false,()) else some (false,()) else some (false,()) else some (false,()) else some (false,()) else some (false,()) else some (false,())
abbrev zzd:Fun:=⟨4,(ch [zl,zo,tMe,vB]),(ch [.bool]),0,P_law31_TalkTells⟩
theorem s_law31_TalkTells:Sq zzd:=zSC (d:=false) (K:=0) Tryz.func4 (by kernel_rfl) (funext fun (x0,x1,x2,x3,())=>by kernel_rfl)
end
end Go.Proofs.YtkcakhbkoeimdaaGreatDoor
end
section
namespace Go.Proofs.YtkcakhbkoeimdaaGreatDoor
open Go.Ev
theorem zDU {l:List Int} {g:Int × Unit→Option (Bool × Unit)} {p:Int→Bool} (hl:l.length ≤ Go.maxLen) (hp:∀ x ∈ l,g (x,()) = some (p x,())):vJ (l,some g,()) = some (qx p l 0,()):=qF (τ:=tI) (B:=zaU) (fun _ _ _ _ _=>rfl) hl hp
theorem zal {l:List Int} {g:Int × Unit→Option (Bool × Unit)} {p:Int→Bool} (hl:l.length ≤ Go.maxLen) (hp:∀ x ∈ l,g (x,()) = some (p x,())):qv (l,some g,()) = some (l.any p,()):=qz (τ:=tI) (f:=vJ) (zDU hl hp)
theorem zze {l:List zt} {g:zt × Unit→Option (Bool × Unit)} {p:zt→Bool} (hl:l.length ≤ Go.maxLen) (hp:∀ x ∈ l,g (x,()) = some (p x,())):zaT (l,some g,()) = some (qx p l 0,()):=qF (τ:=zj) (B:=zdF) (fun _ _ _ _ _=>rfl) hl hp
theorem zk5 {l:List zt} {g:zt × Unit→Option (Bool × Unit)} {p:zt→Bool} (hl:l.length ≤ Go.maxLen) (hp:∀ x ∈ l,g (x,()) = some (p x,())):yw (l,some g,()) = some (l.any p,()):=qz (τ:=zj) (f:=zaT) (zze hl hp)
theorem zwq {l:List qD} {g:qD × Unit→Option (Bool × Unit)} {p:qD→Bool} (hl:l.length ≤ Go.maxLen) (hp:∀ x ∈ l,g (x,()) = some (p x,())):zaa (l,some g,()) = some (qx p l 0,()):=qF (τ:=qH) (B:=zbo) (fun _ _ _ _ _=>rfl) hl hp
theorem zr6 {l:List qD} {g:qD × Unit→Option (Bool × Unit)} {p:qD→Bool} (hl:l.length ≤ Go.maxLen) (hp:∀ x ∈ l,g (x,()) = some (p x,())):za0 (l,some g,()) = some (l.any p,()):=qz (τ:=qH) (f:=zaa) (zwq hl hp)
theorem zzf {l:List zp} {g:zp × Unit→Option (Bool × Unit)} {p:zp→Bool} (hl:l.length ≤ Go.maxLen) (hp:∀ x ∈ l,g (x,()) = some (p x,())):zaV (l,some g,()) = some (qx p l 0,()):=qF (τ:=zv) (B:=zdH) (fun _ _ _ _ _=>rfl) hl hp
theorem zuw {l:List zp} {g:zp × Unit→Option (Bool × Unit)} {p:zp→Bool} (hl:l.length ≤ Go.maxLen) (hp:∀ x ∈ l,g (x,()) = some (p x,())):j8 (l,some g,()) = some (l.any p,()):=qz (τ:=zv) (f:=zaV) (zzf hl hp)
theorem zBu {l:List qU} {g:qU × Unit→Option (Bool × Unit)} {p:qU→Bool} (hl:l.length ≤ Go.maxLen) (hp:∀ x ∈ l,g (x,()) = some (p x,())):zbX (l,some g,()) = some (qx p l 0,()):=qF (τ:=qm) (B:=zeh) (fun _ _ _ _ _=>rfl) hl hp
theorem zwr {l:List qU} {g:qU × Unit→Option (Bool × Unit)} {p:qU→Bool} (hl:l.length ≤ Go.maxLen) (hp:∀ x ∈ l,g (x,()) = some (p x,())):zdP (l,some g,()) = some (l.any p,()):=qz (τ:=qm) (f:=zbX) (zBu hl hp)
theorem zBv {l:List qb} {g:qb × Unit→Option (Bool × Unit)} {p:qb→Bool} (hl:l.length ≤ Go.maxLen) (hp:∀ x ∈ l,g (x,()) = some (p x,())):zbY (l,some g,()) = some (qx p l 0,()):=qF (τ:=zJ) (B:=zej) (fun _ _ _ _ _=>rfl) hl hp
theorem zlA {l:List qb} {g:qb × Unit→Option (Bool × Unit)} {p:qb→Bool} (hl:l.length ≤ Go.maxLen) (hp:∀ x ∈ l,g (x,()) = some (p x,())):jx (l,some g,()) = some (l.any p,()):=qz (τ:=zJ) (f:=zbY) (zBv hl hp)
theorem zBw {l:List zU} {g:zU × Unit→Option (Bool × Unit)} {p:zU→Bool} (hl:l.length ≤ Go.maxLen) (hp:∀ x ∈ l,g (x,()) = some (p x,())):yD (l,some g,()) = some (qx p l 0,()):=qF (τ:=zz) (B:=zek) (fun _ _ _ _ _=>rfl) hl hp
theorem zlB {l:List zU} {g:zU × Unit→Option (Bool × Unit)} {p:zU→Bool} (hl:l.length ≤ Go.maxLen) (hp:∀ x ∈ l,g (x,()) = some (p x,())):jy (l,some g,()) = some (l.any p,()):=qz (τ:=zz) (f:=yD) (zBw hl hp)
theorem zzg {l:List zu} {g:zu × Unit→Option (Bool × Unit)} {p:zu→Bool} (hl:l.length ≤ Go.maxLen) (hp:∀ x ∈ l,g (x,()) = some (p x,())):zaW (l,some g,()) = some (qx p l 0,()):=qF (τ:=zw) (B:=zdK) (fun _ _ _ _ _=>rfl) hl hp
theorem zk6 {l:List zu} {g:zu × Unit→Option (Bool × Unit)} {p:zu→Bool} (hl:l.length ≤ Go.maxLen) (hp:∀ x ∈ l,g (x,()) = some (p x,())):jm (l,some g,()) = some (l.any p,()):=qz (τ:=zw) (f:=zaW) (zzg hl hp)
theorem zzh {l:List zr} {g:zr × Unit→Option (Bool × Unit)} {p:zr→Bool} (hl:l.length ≤ Go.maxLen) (hp:∀ x ∈ l,g (x,()) = some (p x,())):zaX (l,some g,()) = some (qx p l 0,()):=qF (τ:=zq) (B:=zdL) (fun _ _ _ _ _=>rfl) hl hp
theorem zux {l:List zr} {g:zr × Unit→Option (Bool × Unit)} {p:zr→Bool} (hl:l.length ≤ Go.maxLen) (hp:∀ x ∈ l,g (x,()) = some (p x,())):j9 (l,some g,()) = some (l.any p,()):=qz (τ:=zq) (f:=zaX) (zzh hl hp)
theorem zzi {l:List zI} {g:zI × Unit→Option (Bool × Unit)} {p:zI→Bool} (hl:l.length ≤ Go.maxLen) (hp:∀ x ∈ l,g (x,()) = some (p x,())):zaY (l,some g,()) = some (qx p l 0,()):=qF (τ:=zx) (B:=zdM) (fun _ _ _ _ _=>rfl) hl hp
theorem zuy {l:List zI} {g:zI × Unit→Option (Bool × Unit)} {p:zI→Bool} (hl:l.length ≤ Go.maxLen) (hp:∀ x ∈ l,g (x,()) = some (p x,())):va (l,some g,()) = some (l.any p,()):=qz (τ:=zx) (f:=zaY) (zzi hl hp)
theorem zpA {l:List qg} {g:qg × Unit→Option (Bool × Unit)} {p:qg→Bool} (hl:l.length ≤ Go.maxLen) (hp:∀ x ∈ l,g (x,()) = some (p x,())):yC (l,some g,()) = some (qx p l 0,()):=qF (τ:=z3) (B:=zei) (fun _ _ _ _ _=>rfl) hl hp
theorem zws {l:List qg} {g:qg × Unit→Option (Bool × Unit)} {p:qg→Bool} (hl:l.length ≤ Go.maxLen) (hp:∀ x ∈ l,g (x,()) = some (p x,())):vy (l,some g,()) = some (l.any p,()):=qz (τ:=z3) (f:=yC) (zpA hl hp)
theorem zDV {l:List vn} {g:vn × Unit→Option (Bool × Unit)} {p:vn→Bool} (hl:l.length ≤ Go.maxLen) (hp:∀ x ∈ l,g (x,()) = some (p x,())):zct (l,some g,()) = some (qx p l 0,()):=qF (τ:=zP) (B:=zfv) (fun _ _ _ _ _=>rfl) hl hp
theorem zyc {l:List vn} {g:vn × Unit→Option (Bool × Unit)} {p:vn→Bool} (hl:l.length ≤ Go.maxLen) (hp:∀ x ∈ l,g (x,()) = some (p x,())):vP (l,some g,()) = some (l.any p,()):=qz (τ:=zP) (f:=zct) (zDV hl hp)
theorem zBx {l:List Int} {g:Int × Unit→Option (Bool × Unit)} {p:Int→Bool} (hl:l.length ≤ Go.maxLen) (hp:∀ x ∈ l,g (x,()) = some (p x,())):zbV (l,some g,()) = some (qx p l 0,()):=qF (τ:=(Ty.int .u8)) (B:=zed) (fun _ _ _ _ _=>rfl) hl hp
theorem zwt {l:List Int} {g:Int × Unit→Option (Bool × Unit)} {p:Int→Bool} (hl:l.length ≤ Go.maxLen) (hp:∀ x ∈ l,g (x,()) = some (p x,())):vx (l,some g,()) = some (l.any p,()):=qz (τ:=(Ty.int .u8)) (f:=zbV) (zBx hl hp)
theorem zMB {l:List zp} {g:zp × Unit→Option (Bool × Unit)} {p:zp→Bool} (hl:l.length ≤ Go.maxLen) (hp:∀ x ∈ l,g (x,()) = some (p x,())):zif (l,some g,()) = some (l.all p,()):=by
 have h:j8 (l,some fun z=>zbW (z.1,some (some g),()),()) = some (l.any fun x=>!p x,()):=zuw hl fun x hx=>by
  show Option.bind (g (x,())) (fun q=>bif q.1 then some (false,()) else some (true,())) = _
  rw [hp x hx]; cases p x <;> rfl
 show Option.bind (j8 (l,some fun z=>zbW (z.1,some (some g),()),())) (fun q=>bif q.1 then some (false,()) else some (true,())) = _
 rw [h,← vi]; cases l.any fun x=>!p x <;> rfl
theorem zMC {l:List zr} {g:zr × Unit→Option (Bool × Unit)} {p:zr→Bool} (hl:l.length ≤ Go.maxLen) (hp:∀ x ∈ l,g (x,()) = some (p x,())):zig (l,some g,()) = some (l.all p,()):=by
 have h:j9 (l,some fun z=>zbZ (z.1,some (some g),()),()) = some (l.any fun x=>!p x,()):=zux hl fun x hx=>by
  show Option.bind (g (x,())) (fun q=>bif q.1 then some (false,()) else some (true,())) = _
  rw [hp x hx]; cases p x <;> rfl
 show Option.bind (j9 (l,some fun z=>zbZ (z.1,some (some g),()),())) (fun q=>bif q.1 then some (false,()) else some (true,())) = _
 rw [h,← vi]; cases l.any fun x=>!p x <;> rfl
theorem zMD {l:List zI} {g:zI × Unit→Option (Bool × Unit)} {p:zI→Bool} (hl:l.length ≤ Go.maxLen) (hp:∀ x ∈ l,g (x,()) = some (p x,())):zd4 (l,some g,()) = some (l.all p,()):=by
 have h:va (l,some fun z=>zb0 (z.1,some (some g),()),()) = some (l.any fun x=>!p x,()):=zuy hl fun x hx=>by
  show Option.bind (g (x,())) (fun q=>bif q.1 then some (false,()) else some (true,())) = _
  rw [hp x hx]; cases p x <;> rfl
 show Option.bind (va (l,some fun z=>zb0 (z.1,some (some g),()),())) (fun q=>bif q.1 then some (false,()) else some (true,())) = _
 rw [h,← vi]; cases l.any fun x=>!p x <;> rfl
theorem zPX {l:List Int} {g:Int × Unit→Option (Bool × Unit)} {p:Int→Bool} (hl:l.length ≤ Go.maxLen) (hp:∀ x ∈ l,g (x,()) = some (p x,())):zat (l,some g,()) = some (l.all p,()):=by
 have h:qv (l,some fun z=>zd0 (z.1,some (some g),()),()) = some (l.any fun x=>!p x,()):=zal hl fun x hx=>by
  show Option.bind (g (x,())) (fun q=>bif q.1 then some (false,()) else some (true,())) = _
  rw [hp x hx]; cases p x <;> rfl
 show Option.bind (qv (l,some fun z=>zd0 (z.1,some (some g),()),())) (fun q=>bif q.1 then some (false,()) else some (true,())) = _
 rw [h,← vi]; cases l.any fun x=>!p x <;> rfl
theorem zOA {l:List qg} {g:qg × Unit→Option (Bool × Unit)} {p:qg→Bool} (hl:l.length ≤ Go.maxLen) (hp:∀ x ∈ l,g (x,()) = some (p x,())):zjx (l,some g,()) = some (l.all p,()):=by
 have h:vy (l,some fun z=>zcq (z.1,some (some g),()),()) = some (l.any fun x=>!p x,()):=zws hl fun x hx=>by
  show Option.bind (g (x,())) (fun q=>bif q.1 then some (false,()) else some (true,())) = _
  rw [hp x hx]; cases p x <;> rfl
 show Option.bind (vy (l,some fun z=>zcq (z.1,some (some g),()),())) (fun q=>bif q.1 then some (false,()) else some (true,())) = _
 rw [h,← vi]; cases l.any fun x=>!p x <;> rfl
theorem zDW {l:List qb} {g:qb × Unit→Option (Bool × Unit)} {p:qb→Bool} (hl:l.length ≤ Go.maxLen) (hp:∀ x ∈ l,g (x,()) = some (p x,())):yW (l,some g,()) = some (l.all p,()):=by
 have h:jx (l,some fun z=>zcs (z.1,some (some g),()),()) = some (l.any fun x=>!p x,()):=zlA hl fun x hx=>by
  show Option.bind (g (x,())) (fun q=>bif q.1 then some (false,()) else some (true,())) = _
  rw [hp x hx]; cases p x <;> rfl
 show Option.bind (jx (l,some fun z=>zcs (z.1,some (some g),()),())) (fun q=>bif q.1 then some (false,()) else some (true,())) = _
 rw [h,← vi]; cases l.any fun x=>!p x <;> rfl
theorem zPY {l:List vn} {g:vn × Unit→Option (Bool × Unit)} {p:vn→Bool} (hl:l.length ≤ Go.maxLen) (hp:∀ x ∈ l,g (x,()) = some (p x,())):zkE (l,some g,()) = some (l.all p,()):=by
 have h:vP (l,some fun z=>zd1 (z.1,some (some g),()),()) = some (l.any fun x=>!p x,()):=zyc hl fun x hx=>by
  show Option.bind (g (x,())) (fun q=>bif q.1 then some (false,()) else some (true,())) = _
  rw [hp x hx]; cases p x <;> rfl
 show Option.bind (vP (l,some fun z=>zd1 (z.1,some (some g),()),())) (fun q=>bif q.1 then some (false,()) else some (true,())) = _
 rw [h,← vi]; cases l.any fun x=>!p x <;> rfl
theorem zOB {l:List zU} {g:zU × Unit→Option (Bool × Unit)} {p:zU→Bool} (hl:l.length ≤ Go.maxLen) (hp:∀ x ∈ l,g (x,()) = some (p x,())):yX (l,some g,()) = some (l.all p,()):=by
 have h:jy (l,some fun z=>zcu (z.1,some (some g),()),()) = some (l.any fun x=>!p x,()):=zlB hl fun x hx=>by
  show Option.bind (g (x,())) (fun q=>bif q.1 then some (false,()) else some (true,())) = _
  rw [hp x hx]; cases p x <;> rfl
 show Option.bind (jy (l,some fun z=>zcu (z.1,some (some g),()),())) (fun q=>bif q.1 then some (false,()) else some (true,())) = _
 rw [h,← vi]; cases l.any fun x=>!p x <;> rfl
theorem zME {l:List zu} {g:zu × Unit→Option (Bool × Unit)} {p:zu→Bool} (hl:l.length ≤ Go.maxLen) (hp:∀ x ∈ l,g (x,()) = some (p x,())):qQ (l,some g,()) = some (l.all p,()):=by
 have h:jm (l,some fun z=>zb1 (z.1,some (some g),()),()) = some (l.any fun x=>!p x,()):=zk6 hl fun x hx=>by
  show Option.bind (g (x,())) (fun q=>bif q.1 then some (false,()) else some (true,())) = _
  rw [hp x hx]; cases p x <;> rfl
 show Option.bind (jm (l,some fun z=>zb1 (z.1,some (some g),()),())) (fun q=>bif q.1 then some (false,()) else some (true,())) = _
 rw [h,← vi]; cases l.any fun x=>!p x <;> rfl
theorem zvR {l:List zr} (hl:l.length * 80 ≤ 140737488355328):zbm (l,()) = some (l,()):=yq (τ:=zq) hl rfl
theorem zHZ {l:List zr} (hl:l.length ≤ lim):zbm (l,()) = some (l,()):=zvR (by unfold lim at hl; omega)
theorem zH0 {l:List zI} (hl:l.length * 80 ≤ 140737488355328):zjn (l,()) = some (l,()):=yq (τ:=zx) hl rfl
theorem zr7 {l:List Int} (hl:l.length * 8 ≤ 140737488355328):yR (l,()) = some (l,()):=yq (τ:=tI) hl rfl
theorem zz9 {l:List Int} (hl:l.length ≤ lim):yR (l,()) = some (l,()):=zr7 (by unfold lim at hl; omega)
theorem zKM {l:List (List Int)} (hl:l.length * 24 ≤ 140737488355328):zj3 (l,()) = some (l,()):=yq (τ:=(Ty.sl tI)) hl rfl
theorem zH1 {l:List zp} (hl:l.length * 232 ≤ 140737488355328):zjo (l,()) = some (l,()):=yq (τ:=zv) hl rfl
theorem zKN {l:List qU} (hl:l.length * 24 ≤ 140737488355328):zj4 (l,()) = some (l,()):=yq (τ:=qm) hl rfl
theorem zKO {l:List qg} (hl:l.length * 48 ≤ 140737488355328):zj5 (l,()) = some (l,()):=yq (τ:=z3) hl rfl
theorem zKP {l:List qb} (hl:l.length * 56 ≤ 140737488355328):zj6 (l,()) = some (l,()):=yq (τ:=zJ) hl rfl
theorem zKQ {l:List zU} (hl:l.length * 48 ≤ 140737488355328):zcp (l,()) = some (l,()):=yq (τ:=zz) hl rfl
theorem zvS {l:List zu} (hl:l.length * 72 ≤ 140737488355328):zbn (l,()) = some (l,()):=yq (τ:=zw) hl rfl
theorem zvT {l:List zu} (hl:l.length ≤ lim):zbn (l,()) = some (l,()):=zvS (by unfold lim at hl; omega)
theorem zOC {l:List (List Int)} (hl:l.length * 32 ≤ 140737488355328):znf (l,()) = some (l,()):=yq (τ:=(Ty.arr 4 tU)) hl rfl
theorem zMF {l:List vn} (hl:l.length * 16 ≤ 140737488355328):zlK (l,()) = some (l,()):=yq (τ:=zP) hl rfl
end Go.Proofs.YtkcakhbkoeimdaaGreatDoor
end
section
namespace Go.Proofs.YtkcakhbkoeimdaaGreatDoor
open Go.Ev
theorem zyK:∃ m,K0 = m + 8:=⟨Go.maxLen - 6,by unfold K0 Go.maxLen; omega⟩
def zT (x a b:Int):Bool:=decide (a ≤ x ∧ x ≤ b)
theorem zdS (x a b:Int):qq (x,a,b,()) = some (zT x a b,()):=by
 simp only [qq,zT]; grind
def y3 (a:zt):Bool:=zT a.1 0 3
theorem zH2 (a:zt):ziS (a,()) = some (y3 a,()):=by
 simp only [ziS,y3,zT]; grind
theorem zOD (a:zt):zfz (a,()) = some (!y3 a,()):=by
 simp only [zfz,zH2,Option.bind_some]; grind
theorem zH3 (a:zt):ziV (a,()) = some (y3 a,()):=by
 rw [zB]
 simp only [ziV,y3,zT]
 grind
def zhc (x y:Int):Int:=bif decide (x < y) then -1 else bif decide (y < x) then 1 else 0
theorem zMG (x:Int):zaq (x,()) = some (false,()):=by
 simp only [zaq]; grind
theorem zFQ (x:Int):vI (x,()) = some (false,()):=by
 simp only [vI]; grind
theorem zvU (x y:Int):zaJ (x,y,()) = some (zhc x y,()):=by
 simp only [zaJ,zMG,Option.bind_some,zhc]; grind
theorem zpB (x y:Int):yh (x,y,()) = some (zhc x y,()):=by
 simp only [yh,zFQ,Option.bind_some,zhc]; grind
def orV (a b:Int):Int:=bif a != 0 then a else b
theorem zR8 (a b:Int):zec ([a,b],()) = some (orV a b,()):=by
 show zg jg K0 (0,[a,b],2,0) = _
 obtain ⟨m,hm⟩:=zyK
 rw [hm]
 show jg (jg (jg (zg jg (m + 5)))) (0,[a,b],2,0) = _
 have h:jg (jg (jg (zg jg (m + 5)))) (0,[a,b],2,0) = bif a != 0 then some (a,()) else bif b != 0 then some (b,()) else some (0,()):=by kernel_rfl
 rw [h]; unfold orV; grind
def zbR (a b:zt):Int:=orV (zhc a.1 b.1) (zhc a.2.1 b.2.1)
theorem zMH (a b:zt):zmo (a,b,()) = some (zbR a b,()):=by
 simp only [zmo,zvU,zpB,Option.bind_some]
 show Option.bind (zec ([zhc a.1 b.1,zhc a.2.1 b.2.1],())) _ = _
 rw [zR8]; rfl
theorem zm1 (a b:zt):eqI zj a b = ((a.1:Int) == b.1 && (a.2.1:Int) == b.2.1):=by
 show cond ((a.1:Int) == b.1) (cond ((a.2.1:Int) == b.2.1) true false) false = _
 cases ((a.1:Int) == b.1) <;> cases ((a.2.1:Int) == b.2.1) <;> rfl
theorem zMI (a b:zt):zml (a,b,()) = some (zbR a b,()):=by
 simp only [zml,zm1,zbR,orV,zhc]; grind
def jZ (l:List zt):Bool:=zT (l.length:Int) 1 8 && (eqI zj (l.getD 0 (ze zj)) (ze zj) && (l.all y3 && zW (fun i=>decide (zbR (l.getD (i - 1) (ze zj)) (l.getD i (ze zj)) < 0)) 1 (l.length - 1)))
theorem zOE {α:Type} {d:α} {l:List α}:ix d l 0 = l.getD 0 d:=rfl
theorem zQV (r:za):vS (r,()) = some (jZ r.1,()):=by
 simp only [vS,zhJ,zdS,Option.bind_some]
 by_cases hw:zT (List.length r.1:Int) 1 8 = true
 ·have hb:1 ≤ List.length r.1 ∧ List.length r.1 ≤ 8:=by unfold zT at hw; grind
  have hl:List.length r.1 ≤ Go.maxLen:=by unfold Go.maxLen; omega
  have hloop:zjz K0 (1,r) = bif zW (fun i=>decide (zbR (List.getD r.1 (i - 1) (ze zj)) (List.getD r.1 i (ze zj)) < 0)) 1 (List.length r.1 - 1) then some (true,()) else some (false,()) :=
   qa (i0:=1) hl hb.1 (fun i=>(i,r)) (fun k i h1 h2=>by
    simp only [zfH]
    rw [ltT h2,zhq h1 (by omega),zi (by omega),zi h2,zC,Int.toNat_natCast,zMH]
    simp only [cond_true,Option.bind_some]; grind) (fun k=>by simp only [zfH]; rw [ltF]; rfl)
  rw [zk5 (p:=fun a=>!y3 a) hl fun x _=>zOD x,hloop,zOE]
  have:=vi (l:=r.1) (p:=y3)
  unfold jZ
  simp only [Option.bind_some]
  grind
 ·unfold jZ; grind
theorem zFR (l:List zt):zhB (l,()) = some (jZ l,()):=by
 simp only [zhB,zhA]
 by_cases hw:zT (List.length l:Int) 1 8 = true
 ·have hb:1 ≤ List.length l ∧ List.length l ≤ 8:=by unfold zT at hw; grind
  have hl:List.length l ≤ Go.maxLen:=by unfold Go.maxLen; omega
  have hloop:zjs K0 (l,1) = bif zW (fun i=>y3 (List.getD l i (ze zj)) && decide (zbR (List.getD l (i - 1) (ze zj)) (List.getD l i (ze zj)) < 0)) 1 (List.length l - 1) then some (true,()) else some (false,()) :=
   qa (i0:=1) hl hb.1 (fun i=>(l,i)) (fun k i h1 h2=>by
    simp only [zfC]
    rw [ltT h2,zhq h1 (by omega),zi h2,zi (by omega),zi h2,zC,Int.toNat_natCast,zMI,zH3]
    simp only [cond_true,Option.bind_some]; grind) (fun k=>by simp only [zfC]; rw [ltF]; rfl)
  rw [hloop,zOE]
  have h0:eqI zj (l.getD 0 (ze zj)) (ze zj) = true→y3 (l.getD 0 (ze zj)) = true:=fun h=>by
   rw [zm1] at h
   have:(l.getD 0 (ze zj)).1 = (0:Int):=by have:(ze zj).1 = (0:Int):=rfl; grind
   unfold y3 zT; grind
  have hsplit:y3 (l.getD 0 (ze zj)) = true→zW (fun i=>y3 (List.getD l i (ze zj)) && decide (zbR (List.getD l (i - 1) (ze zj)) (List.getD l i (ze zj)) < 0)) 1 (List.length l - 1) = (l.all y3 && zW (fun i=>decide (zbR (l.getD (i - 1) (ze zj)) (l.getD i (ze zj)) < 0)) 1 (l.length - 1)):=fun h0=>by
   rw [Bool.eq_iff_iff,Bool.and_eq_true,qo,qo,List.all_eq_true]
   constructor
   ·intro h
    refine ⟨fun x hx=>?_,fun j h1 h2=>?_⟩
    ·obtain ⟨i,hi,rfl⟩:=List.mem_iff_getElem.1 hx
     have e:l.getD i (ze zj) = l[i]:=by simp [List.getD,hi]
     rw [← e]
     by_cases hz:i = 0
     ·subst hz; exact h0
     ·have:=h i (by omega) (by omega); grind
    ·have:=h j h1 h2; grind
   ·rintro ⟨h1,h2⟩ j h3 h4
    have:=h2 j h3 h4
    have:=h1 _ (zH (d:=ze zj) (show j < l.length by omega))
    grind
  unfold jZ
  grind
 ·unfold jZ zT at *; grind
end Go.Proofs.YtkcakhbkoeimdaaGreatDoor
end
section
namespace Go.Proofs.YtkcakhbkoeimdaaGreatDoor
open Go.Ev
def small (c:Int):Bool:=decide (97 ≤ c ∧ c ≤ 122)
def zyL (c:Int):Bool:=decide (48 ≤ c ∧ c ≤ 57)
theorem zNu (c:Int):zgX (c,()) = some (small c,()):=by
 simp only [zgX,small]; grind
theorem zRz (c:Int):zka (c,()) = some (zyL c,()):=by
 simp only [zka,zyL]; grind
def zII (c:Int):Bool:=small c || zyL c
theorem zR9 (c:Int):zhw (c,()) = some (zII c,()):=by
 simp only [zhw,zNu,zRz,Option.bind_some,zII]; grind
def zhd (s:ByteArray):List Int:=List.map (fun b:UInt8=>(b.toNat:Int)) s.data.toList
def chr (s:ByteArray) (i:Nat):Int:=(((s.data.toList).getD i 0).toNat:Int)
theorem znG (s:ByteArray):(zhd s).length = s.size:=by unfold zhd; rw [List.length_map]; rfl
theorem zon (s:ByteArray):s.data.toList.length = s.size:=rfl
theorem zDX (s:ByteArray) (p:Int→Bool):(zhd s).all p = zW (fun i=>p (chr s i)) 0 s.size:=by
 rw [Bool.eq_iff_iff,qo,List.all_eq_true]
 have key:∀ i,i < s.size→(zhd s)[i]? = some (chr s i):=fun i hi=>by
  unfold zhd chr
  rw [List.getElem?_map,List.getElem?_eq_getElem (by rw [zon]; exact hi)]
  simp [List.getD,zon,hi]
 constructor
 ·intro h j _ hj
  exact h _ (List.mem_of_getElem? (key j (by omega)))
 ·intro h x hx
  obtain ⟨i,hi,rfl⟩:=List.mem_iff_getElem.1 hx
  rw [znG] at hi
  have:=key i hi
  rw [List.getElem?_eq_getElem (by rw [znG]; exact hi)] at this
  rw [Option.some.inj this]
  exact h i (by omega) (by omega)
theorem zDY {s:ByteArray} {g:Int × Unit→Option (Bool × Unit)} {p:Int→Bool} (hl:s.size ≤ Go.maxLen) (hp:∀ c,g (c,()) = some (p c,())):zob (s,some g,()) = some ((zhd s).all p,()):=by
 have h:vx (zhd s,some fun z=>zj9 (z.1,some (some g),()),()) = some ((zhd s).any fun x=>!p x,()):=zwt (by rw [znG]; exact hl) fun x hx=>by
  show Option.bind (g (x,())) (fun q=>bif q.1 then some (false,()) else some (true,())) = _
  rw [hp x]; cases p x <;> rfl
 show Option.bind (vx (zhd s,some fun z=>zj9 (z.1,some (some g),()),())) (fun q=>bif q.1 then some (false,()) else some (true,())) = _
 rw [h,← vi]; cases (zhd s).any fun x=>!p x <;> rfl
def zk7 (s:ByteArray):Bool:=decide (1 ≤ s.size) && (decide (s.size ≤ 12) && zW (fun i=>small (chr s i) || (decide (i ≠ 0) && zyL (chr s i))) 0 s.size)
theorem zQW (s:ByteArray):zk7 s = (decide (1 ≤ s.size) && (decide (s.size ≤ 12) && (small (chr s 0) && (zhd s).all zII))):=by
 rw [zDX,zk7,Bool.eq_iff_iff]
 simp only [Bool.and_eq_true,decide_eq_true_eq,qo,zII]
 constructor
 ·rintro ⟨h1,h2,h3⟩
  have:=h3 0 (by omega) (by omega)
  refine ⟨h1,h2,by grind,fun j h4 h5=>?_⟩
  have:=h3 j h4 h5
  grind
 ·rintro ⟨h1,h2,h3,h4⟩
  refine ⟨h1,h2,fun j h5 h6=>?_⟩
  have:=h4 j h5 h6
  by_cases e:j = 0
  ·subst e; grind
  ·grind
theorem zpC (s:ByteArray):zbH (s,()) = some (zk7 s,()):=by
 rw [zB]
 simp only [zbH]
 rw [zQW]
 by_cases h1:s.size < 1
 ·grind
 by_cases h2:s.size > 12
 ·grind
 rw [zDY (by unfold Go.maxLen; omega) zR9]
 have hc:((UInt8.toNat (List.getD s.data.toList (Int.toNat 0) 0):Nat):Int) = chr s 0:=rfl
 rw [hc,zNu]
 simp only [Option.bind_some]
 grind
theorem znH (s:ByteArray):zF (s,()) = some (zk7 s,()):=by
 rw [zB]
 simp only [zF,ziW]
 unfold zk7
 by_cases h1:s.size < 1
 ·have:s.size = 0:=by omega
  grind
 by_cases h2:s.size > 12
 ·grind
 have hloop:zkl K0 (s,0) = bif zW (fun i=>small (chr s i) || (decide (i ≠ 0) && zyL (chr s i))) 0 (s.size - 0) then some (true,()) else some (false,()) :=
  qa (i0:=0) (n:=s.size) (by unfold Go.maxLen; omega) (Nat.zero_le _) (fun i=>(s,i)) (fun k i h3 h4=>by
   simp only [zgv]
   have hc:((UInt8.toNat (List.getD s.data.toList (Int.toNat (i:Int)) 0):Nat):Int) = chr s i:=by rw [Int.toNat_natCast]; rfl
   rw [hc]
   simp only [ltT h4,zi h4,cond_true,small,zyL]
   grind) (fun k=>by simp only [zgv]; rw [ltF]; rfl)
 rw [hloop]
 grind
def zdz (a:qD):Bool:=zk7 a.1 && (zk7 a.2.1 && zT a.2.2.1 0 3)
theorem zKR (a:qD):zc6 (a,()) = some (!zdz a,()):=by
 simp only [zc6,zpC,zdS,Option.bind_some,zdz]; grind
theorem zfl {α:Type} (d x:α):zh (List.replicate 1 d) 0 x = [x]:=rfl
theorem zm2 {n:Nat} (h:n ≤ 1000000):decide (n ≤ lim) = true:=decide_eq_true (by unfold lim; omega)
theorem zMJ (r:za) (h:r.2.2.1.length ≤ 1000):zia (r,()) = some (r.2.2.1.map (·.1),()):=by
 have hl:r.2.2.1.length ≤ Go.maxLen:=by unfold Go.maxLen; omega
 have:=yQ (B:=yB) (α:=List ByteArray) (len:=r.2.2.1.length) hl (fun i o=>(r.2.2.1,(r.2.2.1.length:Int),i,o)) (fun i o=>some (o ++ (r.2.2.1.drop i).map (·.1),())) (fun i o=>o.length ≤ i) (fun k i s hi hI hk=>by
  simp only [yB]
  rw [ltT hi,zi hi,zC,zfl,zm2 (by simp; omega)]
  simp only [cond_true]
  rw [hk _ (by simp; omega),zcm qt hi]
  simp) (fun k s _=>by
  simp only [yB]
  rw [ltF,List.drop_of_length_le (Nat.le_refl _)]
  simp) [] (Nat.le_refl _)
 exact this
def zhe:List ByteArray→Bool
 | []=>true
 | x :: l=>!(l.any fun y=>eqI .str x y) && zhe l
theorem ztA (x y:ByteArray):eqI .str x y = (x.toList == y.toList):=rfl
theorem zPZ (o:List (ByteArray × Int)) (x z:ByteArray) (v:Int):jI .str (jM .str o x v) z = (jI .str o z || eqI .str z x):=by
 induction o with
 | nil=>simp only [jM,jI]; cases eqI .str z x <;> rfl
 | cons e o ih =>
  simp only [jM,jI]
  cases h:eqI .str x e.1 with
  | true =>
   simp only [cond_true,jI]
   have:eqI .str z e.1 = eqI .str z x:=by rw [ztA] at *; rw [ztA]; have:=eq_of_beq h; rw [this]
   cases h2:eqI .str z e.1 with
   | true=>rfl
   | false=>rw [← this,h2]; simp
  | false =>
   simp only [cond_false,jI,ih]
   cases eqI .str z e.1 <;> rfl
theorem zKS (o:List (ByteArray × Int)) (x:ByteArray) (v:Int):(jM .str o x v).length = o.length + (bif jI .str o x then 0 else 1):=by
 induction o with
 | nil=>rfl
 | cons e o ih =>
  simp only [jM,jI]
  cases h:eqI .str x e.1 with
  | true=>simp only [cond_true,List.length_cons,Nat.add_zero]
  | false =>
   simp only [cond_false,List.length_cons,ih]
   generalize (bif jI .str o x then 0 else 1) = n
   omega
def zuz:List ByteArray→List (ByteArray × Int)→Nat
 | [],o=>o.length
 | x :: l,o=>zuz l (jM .str o x (wI (zaR .str (0:Int) o x + 1)))
theorem zNv:∀ (l:List ByteArray) (o:List (ByteArray × Int)),zuz l o ≤ o.length + l.length
 | [],o=>Nat.le_refl _
 | x :: l,o=>by
  have h:=zNv l (jM .str o x (wI (zaR .str (0:Int) o x + 1)))
  rw [zKS] at h
  simp only [zuz,List.length_cons]
  cases hm:jI .str o x <;> (rw [hm] at h; simp only [cond_true,cond_false] at h; omega)
theorem zNw:∀ (l:List ByteArray) (o:List (ByteArray × Int)),(zuz l o == o.length + l.length) = (zhe l && l.all fun x=>!jI .str o x)
 | [],o=>by simp [zuz,zhe]
 | x :: l,o=>by
  have h:=zNv l (jM .str o x (wI (zaR .str (0:Int) o x + 1)))
  have ih:=zNw l (jM .str o x (wI (zaR .str (0:Int) o x + 1)))
  rw [zKS] at h ih
  simp only [zuz,List.length_cons,zhe,List.all_cons]
  cases hm:jI .str o x with
  | true =>
   rw [hm] at h
   simp only [cond_true] at h
   have:(zuz l (jM .str o x (wI (zaR .str (0:Int) o x + 1))) == o.length + (l.length + 1)) = false:=by
    simp only [beq_eq_false_iff_ne]; omega
   rw [this]
   simp
  | false =>
   rw [hm] at ih
   simp only [cond_false] at ih
   rw [show o.length + (l.length + 1) = o.length + 1 + l.length by omega,ih]
   simp only [zPZ,Bool.not_or,Bool.not_false,Bool.true_and]
   have:(l.all fun z=>!jI .str o z && !eqI .str z x) = ((l.all fun z=>!jI .str o z) && !(l.any fun y=>eqI .str x y)):=by
    rw [Bool.eq_iff_iff]
    simp only [List.all_eq_true,Bool.and_eq_true,Bool.not_eq_true',List.any_eq_false,Bool.not_eq_true]
    have hs:∀ z,eqI .str z x = eqI .str x z:=fun z=>by rw [ztA,ztA]; exact Bool.beq_comm
    grind
   rw [this]
   cases zhe l <;> cases (l.all fun z=>!jI .str o z) <;> cases (l.any fun y=>eqI .str x y) <;> rfl
theorem zP0 (m n:Nat):(((m:Nat):Int) == ((n:Nat):Int)) = (m == n):=by
 rw [Bool.eq_iff_iff]; simp only [beq_iff_eq]; omega
theorem zRA (l:List ByteArray) (h:l.length ≤ 1000):zoH (l,()) = some (zhe l,()):=by
 have:=zql (B:=zef) (l:=l) (α:=List (ByteArray × Int)) (ze .str) (fun i o=>(l,l,(l.length:Int),i,o)) (fun rest o=>some (zuz rest o == l.length,())) (by unfold Go.maxLen; omega) (fun k i x rest s hi hx _ hr hk=>by
  simp only [zef]
  rw [ltT hi,zi hi,Int.toNat_natCast,hx]
  simp only [cond_true]
  exact hk _) (fun k s=>by
  simp only [zef]
  rw [ltF]
  simp only [cond_false,zuz]
  rw [zP0]
  cases s.length == l.length <;> rfl) []
 refine this.trans ?_
 have h2:=zNw l []
 simp only [List.length_nil,Nat.zero_add] at h2
 rw [h2]
 simp [jI]
def zfe (l:List qD):Bool:=zT (l.length:Int) 1 8 && (l.all zdz && zhe (l.map (·.1)))
theorem zOF (r:za):jS (r,()) = some (zfe r.2.2.1,()):=by
 rw [zB]
 simp only [jS,zdS,Option.bind_some]
 unfold zfe
 by_cases hw:zT (List.length r.2.2.1:Int) 1 8 = true
 ·have hb:1 ≤ List.length r.2.2.1 ∧ List.length r.2.2.1 ≤ 8:=by unfold zT at hw; grind
  rw [zr6 (p:=fun a=>!zdz a) (by unfold Go.maxLen; omega) fun x _=>zKR x,zMJ r (by omega)]
  simp only [Option.bind_some]
  rw [zRA _ (by simp; omega)]
  simp only [Option.bind_some]
  have:=vi (l:=r.2.2.1) (p:=zdz)
  grind
 ·grind
theorem zDZ:∀ {l:List ByteArray},zhe l = true ↔ ∀ i j:Nat,i < j→j < l.length→eqI .str (l.getD i (ze .str)) (l.getD j (ze .str)) = false
 | []=>by simp [zhe]
 | x :: l=>by
  simp only [zhe,Bool.and_eq_true,Bool.not_eq_true',List.any_eq_false,zDZ (l:=l)]
  constructor
  ·rintro ⟨h1,h2⟩ i j hij hj
   cases j with
   | zero=>omega
   | succ j =>
    simp only [List.length_cons] at hj
    cases i with
    | zero =>
     have:=h1 (l.getD j (ze .str)) (zH (by omega))
     simpa using this
    | succ i=>exact h2 i j (by omega) (by omega)
  ·intro h
   refine ⟨fun y hy=>?_,fun i j h1 h2=>h (i + 1) (j + 1) (by omega) (by simp only [List.length_cons]; omega)⟩
   obtain ⟨j,hj,rfl⟩:=List.mem_iff_getElem.1 hy
   have:=h 0 (j + 1) (by omega) (by simp only [List.length_cons]; omega)
   simpa [List.getD,hj] using this
theorem zBy (l:List qD):zfE (l,()) = some (zfe l,()):=by
 rw [zB]
 simp only [zfE,zfD]
 unfold zfe
 by_cases h1:l.length < 1
 ·unfold zT; grind
 by_cases h2:l.length > 8
 ·unfold zT; grind
 have hl:l.length ≤ Go.maxLen:=by unfold Go.maxLen; omega
 have inner:∀ k0 (j:Nat),j < l.length→zcI K0 k0 (l,(j:Int),0) = bif zW (fun i=>!eqI .str (l.getD i qt).1 (l.getD j qt).1) 0 j then k0 (l,wI ((j:Int) + 1)) else some (false,()):=fun k0 j hj =>
  qa (i0:=0) (n:=j) (by omega) (Nat.zero_le _) (fun i=>(l,(j:Int),i)) (fun k i h3 h4=>by
   simp only [zcH]
   rw [ltT h4,zi (by omega),zi hj,zC,zC,← ztA]
   simp only [cond_true]
   cases eqI .str (l.getD i qt).1 (l.getD j qt).1 <;> rfl) (fun k=>by simp only [zcH]; rw [ltF]; rfl)
 have hloop:zg7 K0 (l,0) = bif zW (fun j=>zdz (l.getD j qt) && zW (fun i=>!eqI .str (l.getD i qt).1 (l.getD j qt).1) 0 j) 0 (l.length - 0) then some (true,()) else some (false,()) :=
  qa (i0:=0) hl (Nat.zero_le _) (fun i=>(l,i)) (fun k i h3 h4=>by
   simp only [zaj]
   rw [ltT h4]
   simp only [zi h4,zC,znH,Option.bind_some,cond_true]
   rw [inner k i h4]
   unfold zdz zT
   grind) (fun k=>by simp only [zaj]; rw [ltF]; rfl)
 rw [hloop]
 have hw:zT (l.length:Int) 1 8 = true:=by unfold zT; grind
 have key:zW (fun j=>zdz (l.getD j qt) && zW (fun i=>!eqI .str (l.getD i qt).1 (l.getD j qt).1) 0 j) 0 (l.length - 0) = (l.all zdz && zhe (l.map (·.1))):=by
  have hm:∀ i,i < l.length→(l.map (·.1)).getD i (ze .str) = (l.getD i qt).1:=fun i hi=>by simp [List.getD,hi]
  rw [Bool.eq_iff_iff,Bool.and_eq_true,qo,zDZ,List.all_eq_true]
  constructor
  ·intro h
   refine ⟨fun x hx=>?_,fun i j h3 h4=>?_⟩
   ·obtain ⟨i,hi,rfl⟩:=List.mem_iff_getElem.1 hx
    have e:l.getD i qt = l[i]:=by simp [List.getD,hi]
    rw [← e]
    have:=h i (by omega) (by omega)
    grind
   ·rw [List.length_map] at h4
    rw [hm i (by omega),hm j h4]
    have:=h j (by omega) (by omega)
    simp only [Bool.and_eq_true,qo] at this
    have:=this.2 i (by omega) (by omega)
    simpa using this
  ·rintro ⟨h3,h4⟩ j h5 h6
   simp only [Bool.and_eq_true,qo]
   refine ⟨h3 _ (zH (by omega)),fun i h7 h8=>?_⟩
   have:=h4 i j (by omega) (by rw [List.length_map]; omega)
   rw [hm i (by omega),hm j (by omega)] at this
   rw [this]; rfl
 rw [key,hw]
 grind
def zk8 (r:za):Bool:=zT (r.2.1.length:Int) 1 8 && r.2.1.all fun i=>decide (0 ≤ i) && decide (i < (r.1.length:Int))
theorem zRB (r:za) (h:r.1.length ≤ 1000):yt (r,()) = some (zk8 r,()):=by
 rw [zB]
 simp only [yt,zdS,Option.bind_some]
 unfold zk8
 by_cases hw:zT (List.length r.2.1:Int) 1 8 = true
 ·have hb:1 ≤ List.length r.2.1 ∧ List.length r.2.1 ≤ 8:=by unfold zT at hw; grind
  have hq:∀ x:Int,(fun z:Int × Unit=>zcF (z.1,some r,())) (x,()) = some (!(decide (0 ≤ x) && decide (x < (r.1.length:Int))),()):=fun x=>by
   show zcF _ = _
   simp only [zcF,zdS,Option.bind_some]
   have:wI (((List.length r.1:Nat):Int) - 1) = (r.1.length:Int) - 1:=by
    unfold wI
    exact IntWalk.i64_in _ (by omega)
   rw [this]
   unfold zT
   grind
  rw [zal (by unfold Go.maxLen; omega) fun x _=>hq x]
  simp only [Option.bind_some]
  have:=vi (l:=r.2.1) (p:=fun i=>decide (0 ≤ i) && decide (i < (r.1.length:Int)))
  grind
 ·grind
def zyM (r:za):Bool:=zT r.2.2.2.2.2.1 0 24 && (zT r.2.2.2.2.2.2.1 0 48 && (zT r.2.2.2.2.2.2.2.1 1 4 && zT r.2.2.2.2.2.2.2.2.1 1 16))
theorem zSa (r:za):zah (r,()) = some (zyM r,()):=by
 simp only [zah,zdS,Option.bind_some,zyM]; grind
def ztB (q:zbl):Bool:=zT q.1 0 12 && (zT q.2.1 0 12 && (zT q.2.2.1 0 12 && (zT q.2.2.2.1 0 12 && zT q.2.2.2.2.1 0 12)))
def zk9:Int→List zbl→Bool
 | _,[]=>true
 | left,q :: l=>ztB q && (decide (q.2.2.2.2.2.1 ≤ left) && zk9 (wU (left - q.2.2.2.2.2.1)) l)
theorem zOG (x:Int):zfA (x,()) = some (!zT x 0 12,()):=by
 simp only [zfA,zdS,Option.bind_some]; grind
def zhT (n:Nat) (l:List zbl):Bool:=decide (l.length = n) && (decide (0 < l.length) && (decide (1 ≤ (l.getD 0 qy).1) && zk9 4611686018427387904 l))
theorem zQX (r:za) (h:1 ≤ r.1.length ∧ r.1.length ≤ 1000):vR (r,()) = some (zhT r.1.length r.2.2.2.2.1,()):=by
 rw [zB]
 simp only [vR,zhG]
 unfold zhT
 by_cases hn:r.2.2.2.2.1.length = r.1.length
 ·have hl:r.2.2.2.2.1.length ≤ Go.maxLen:=by unfold Go.maxLen; omega
  have hloop:zjw K0 (4611686018427387904,r.2.2.2.2.1,(r.2.2.2.2.1.length:Int),0) = some (zk9 4611686018427387904 r.2.2.2.2.1,()) :=
   zql (l:=r.2.2.2.2.1) (α:=Int) qy (fun i s=>(s,r.2.2.2.2.1,(r.2.2.2.2.1.length:Int),i)) (fun rest s=>some (zk9 s rest,())) hl (fun k i x rest s hi hx _ hr hk=>by
    simp only [zfG]
    rw [ltT hi,zi hi]
    simp only [zC,hx,cond_true]
    have hnum:zkb (x,()) = some ([x.1,x.2.1,x.2.2.1,x.2.2.2.1,x.2.2.2.2.1],()):=rfl
    rw [hnum]
    simp only [Option.bind_some]
    rw [zal (p:=fun n=>!zT n 0 12) (l:=[x.1,x.2.1,x.2.2.1,x.2.2.2.1,x.2.2.2.2.1]) (by unfold Go.maxLen; simp) fun n _=>zOG n]
    simp only [Option.bind_some,hk,zk9,ztB,List.any_cons,List.any_nil]
    grind) (fun k s=>by simp only [zfG]; rw [ltF]; rfl) _
  rw [hloop,zOE]
  have h1:(((List.length r.2.2.2.2.1:Nat):Int) != ((List.length r.1:Nat):Int)) = false:=by rw [ziR]; simp [hn]
  rw [h1]
  grind
 ·have h1:(((List.length r.2.2.2.2.1:Nat):Int) != ((List.length r.1:Nat):Int)) = true:=by rw [ziR]; simp [hn]
  rw [h1]
  grind
theorem zH4 (x:Int):yr (x,()) = some (zT x 0 12,()):=by
 simp only [yr,zT]; grind
theorem zFS (l:List zbl) (hl:l.length ≤ Go.maxLen):zlR (l,()) = some (zhT l.length l,()):=by
 rw [zB]
 show zg (yV) K0 (l,4611686018427387904,0) = _
 have hloop:zg (yV) K0 (l,4611686018427387904,0) = some (zk9 4611686018427387904 l && (decide (0 < l.length) && decide (1 ≤ (l.getD 0 qy).1)),()) :=
  zql (l:=l) (α:=Int) qy (fun i s=>(l,s,i)) (fun rest s=>some (zk9 s rest && (decide (0 < l.length) && decide (1 ≤ (l.getD 0 qy).1)),())) hl (fun k i x rest s hi hx _ hr hk=>by
   simp only [yV]
   rw [ltT hi,zi hi]
   simp only [zC,hx,cond_true,zH4,Option.bind_some,hk,zk9,ztB]
   grind) (fun k s=>by
   simp only [yV]
   rw [ltF,zOE]
   simp only [zk9]
   grind) _
 rw [hloop]
 unfold zhT
 grind
end Go.Proofs.YtkcakhbkoeimdaaGreatDoor
end
section
namespace Go.Proofs.YtkcakhbkoeimdaaGreatDoor
open Go.Ev
def zuA (b:Int):Int:=((2 ^ b.toNat:Nat):Int)
def vb (b:Int):Bool:=decide (0 ≤ b) && decide (b < 64)
theorem zP1 {b:Int} (h:vb b = true):Go.IntKind.wrap .u64 (1 * 2 ^ (min (Int.toNat b) (Go.IntKind.bits .u64))) = zuA b:=by
 unfold vb at h
 simp only [Bool.and_eq_true,decide_eq_true_eq] at h
 obtain ⟨n,rfl⟩:=Int.eq_ofNat_of_zero_le h.1
 have hn:n < 64:=by omega
 unfold zuA
 rw [Int.toNat_natCast]
 have hm:min n (Go.IntKind.bits .u64) = n:=Nat.min_eq_left (by show n ≤ 64; omega)
 rw [hm]
 have:∀ n:Fin 64,Go.IntKind.wrap .u64 (1 * 2 ^ n.val) = ((2 ^ n.val:Nat):Int):=by decide +kernel
 exact this ⟨n,hn⟩
theorem zla {n:Int} (h:0 ≤ n ∧ n < 18446744073709551616):Go.IntKind.wrap .u64 n = n:=by
  show n % ((2 ^ 64:Nat):Int) = n
  exact Int.emod_eq_of_lt h.1 (by have:((2 ^ 64:Nat):Int) = 18446744073709551616:=by decide
                                  omega)
def j3 (c:Int) (b:Nat):Bool:=c.toNat.testBit b
theorem has_eq (c b:Int) (hc:0 ≤ c) (hb:0 ≤ b ∧ b < 64):(Int.tmod (Int.fdiv c (2 ^ min (Int.toNat (Go.IntKind.wrap .u64 b)) (Go.IntKind.bits .u64))) 2 == 1) = j3 c b.toNat:=by
 obtain ⟨n,rfl⟩:=Int.eq_ofNat_of_zero_le hc
 obtain ⟨m,rfl⟩:=Int.eq_ofNat_of_zero_le hb.1
 rw [zla (by omega)]
 have hm:min (Int.toNat (m:Int)) (Go.IntKind.bits .u64) = m:=Nat.min_eq_left (by show (m:Int).toNat ≤ 64; omega)
 rw [hm]
 unfold j3
 have h2:Int.fdiv (n:Int) (2 ^ m) = ((n / 2 ^ m:Nat):Int):=by
  rw [show ((2:Int) ^ m) = ((2 ^ m:Nat):Int) by simp]
  rw [Int.fdiv_eq_ediv_of_nonneg _ (Int.natCast_nonneg _)]
  rfl
 have h3:Int.tmod ((n / 2 ^ m:Nat):Int) 2 = ((n / 2 ^ m % 2:Nat):Int):=by
  rw [Int.tmod_eq_emod_of_nonneg (Int.natCast_nonneg _)]
  rfl
 rw [h2,h3,Int.toNat_natCast,Int.toNat_natCast,Nat.testBit_eq_decide_div_mod_eq]
 have:(((n / 2 ^ m % 2:Nat):Int) == 1) = decide (n / 2 ^ m % 2 = 1):=by
  by_cases h:n / 2 ^ m % 2 = 1
  ·rw [h]; rfl
  ·rw [decide_eq_false h]
   cases hx:(((n / 2 ^ m % 2:Nat):Int) == 1) with
   | false=>rfl
   | true=>exact absurd (Int.ofNat.inj (by simpa using hx)) h
 exact this
def zhU (a b:Int):Int:=Go.IntKind.wrap .u64 (BitVec.toNat (BitVec.ofInt (Go.IntKind.bits .u64) a &&& ~~~BitVec.ofInt (Go.IntKind.bits .u64) b):Int)
def orI (a b:Int):Int:=Go.IntKind.wrap .u64 (BitVec.toNat (BitVec.ofInt (Go.IntKind.bits .u64) a ||| BitVec.ofInt (Go.IntKind.bits .u64) b):Int)
def zof:Int→List zL→Int
 | a,[]=>a
 | a,g :: gs=>zof (orI a (zuA g.1)) gs
theorem zm3 (n:Nat):BitVec.ofInt (Go.IntKind.bits .u64) (n:Int) = BitVec.ofNat 64 n:=by
 show BitVec.ofInt 64 (n:Int) = BitVec.ofNat 64 n
 apply BitVec.eq_of_toNat_eq
 rw [BitVec.toNat_ofInt,BitVec.toNat_ofNat]
 omega
theorem zRf (x:BitVec 64):Go.IntKind.wrap .u64 (x.toNat:Int) = (x.toNat:Int):=by
 have:=x.isLt
 exact zla (by omega)
theorem zRC (a b:Nat) (ha:a < 2 ^ 64) (hb:b < 2 ^ 64):orI (a:Int) (b:Int) = ((a ||| b:Nat):Int):=by
 unfold orI
 rw [zm3,zm3]
 show Go.IntKind.wrap .u64 ((BitVec.ofNat 64 a ||| BitVec.ofNat 64 b).toNat:Int) = _
 rw [zRf,BitVec.toNat_or,BitVec.toNat_ofNat,BitVec.toNat_ofNat,Nat.mod_eq_of_lt ha,Nat.mod_eq_of_lt hb]
theorem zAa (c m:Nat) (hc:c < 2 ^ 64) (hm:m < 2 ^ 64):(zhU (c:Int) (m:Int) != 0) = !((List.range' 0 64).all fun i=>!c.testBit i || m.testBit i):=by
 unfold zhU
 rw [zm3,zm3]
 show (Go.IntKind.wrap .u64 ((BitVec.ofNat 64 c &&& ~~~BitVec.ofNat 64 m).toNat:Int) != 0) = _
 rw [zRf]
 have hbit:∀ i,i < 64→(BitVec.ofNat 64 c &&& ~~~BitVec.ofNat 64 m).getLsbD i = (c.testBit i && !m.testBit i):=by
  intro i hi
  rw [BitVec.getLsbD_and,BitVec.getLsbD_not,BitVec.getLsbD_ofNat,BitVec.getLsbD_ofNat]
  simp [hi]
 by_cases h:((List.range' 0 64).all fun i=>!c.testBit i || m.testBit i) = true
 ·rw [h]
  have h0:(BitVec.ofNat 64 c &&& ~~~BitVec.ofNat 64 m) = 0#64:=by
   apply BitVec.eq_of_getLsbD_eq
   intro i hi
   rw [hbit i hi]
   have:=List.all_eq_true.1 h i (by simp [List.mem_range'_1]; omega)
   revert this
   cases c.testBit i <;> cases m.testBit i <;> simp
  rw [h0]
  rfl
 ·have h':=h
  simp only [Bool.not_eq_true] at h'
  rw [h']
  have:(BitVec.ofNat 64 c &&& ~~~BitVec.ofNat 64 m).toNat ≠ 0:=by
   intro h0
   apply h
   rw [List.all_eq_true]
   intro i hi
   simp only [List.mem_range'_1] at hi
   have hb:=hbit i (by omega)
   have e0:(BitVec.ofNat 64 c &&& ~~~BitVec.ofNat 64 m) = 0#64:=BitVec.eq_of_toNat_eq (by rw [h0]; rfl)
   rw [e0] at hb
   revert hb
   cases c.testBit i <;> cases m.testBit i <;> simp
  rw [Bool.not_false,bne_iff_ne]
  omega
theorem zQY {b:Int} (h:vb b = true):∃ n:Nat,b = n ∧ n < 64 ∧ zuA b = ((2 ^ n:Nat):Int):=by
 unfold vb at h
 simp only [Bool.and_eq_true,decide_eq_true_eq] at h
 obtain ⟨n,rfl⟩:=Int.eq_ofNat_of_zero_le h.1
 exact ⟨n,rfl,by omega,rfl⟩
theorem zD0:∀ (l:List zL) (m:Nat),m < 2 ^ 64→(∀ g ∈ l,vb g.1 = true)→∃ k:Nat,zof (m:Int) l = (k:Int) ∧ k < 2 ^ 64 ∧ ∀ i:Nat,k.testBit i = (m.testBit i || l.any fun g=>g.1 == (i:Int))
 | [],m,hm,_=>⟨m,rfl,hm,fun i=>by simp⟩
 | g :: l,m,hm,h=>by
  obtain ⟨n,hn,hn64,hv⟩:=zQY (h g (by simp))
  have hp:2 ^ n < 2 ^ 64:=Nat.pow_lt_pow_right (by omega) hn64
  obtain ⟨k,hk,hk64,hb⟩:=zD0 l (m ||| 2 ^ n) (Nat.or_lt_two_pow hm hp) fun g hg=>h g (by simp [hg])
  refine ⟨k,?_,hk64,fun i=>?_⟩
  ·simp only [zof]
   rw [hv,zRC m (2 ^ n) hm hp]
   exact hk
  ·rw [hb i,Nat.testBit_or,Nat.testBit_two_pow,List.any_cons,hn,Bool.or_assoc]
   congr 2
   by_cases e:n = i
   ·subst e; simp
   ·rw [decide_eq_false e]
    symm
    simp only [beq_eq_false_iff_ne,ne_eq]
    omega
def zyN (l:List zL) (c:Int) (i k:Nat):Bool:=(List.range' i k).all fun b=>!j3 c b || l.any fun g=>g.1 == (b:Int)
def zyd (labels:List zt) (l:List zL):Bool:=labels.all fun a=>zyN l a.2.1 0 64
def zpD (l:List zt):Prop:=∀ a ∈ l,0 ≤ a.2.1 ∧ a.2.1 < 18446744073709551616
theorem zSb (labels:List zt) (l:List zL) (hl:zpD labels) (h:∀ g ∈ l,vb g.1 = true):(labels.any fun a=>zhU a.2.1 (zof 0 l) != 0) = !zyd labels l:=by
 obtain ⟨k,hk,hk64,hb⟩:=zD0 l 0 (by decide) h
 have hk':zof 0 l = (k:Int):=hk
 rw [hk']
 unfold zyd
 have key:∀ ls:List zt,zpD ls→(ls.any fun a=>zhU a.2.1 (k:Int) != 0) = !(ls.all fun a=>zyN l a.2.1 0 64):=by
  intro ls
  induction ls with
  | nil=>intro _; rfl
  | cons a ls ih =>
   intro ha
   have h1:=ha a (by simp)
   rw [List.any_cons,List.all_cons,ih fun b hb=>ha b (by simp [hb]),Bool.not_and]
   congr 1
   obtain ⟨c,hc⟩:=Int.eq_ofNat_of_zero_le h1.1
   rw [hc,zAa c k (by omega) hk64]
   congr 1
   unfold zyN
   congr 1
   funext i
   rw [hb i]
   unfold j3
   simp
 exact key labels hl
def vh (b:Int):zt:=(0,zuA b,())
theorem zpE (b:Int):zeg (b,()) = some (bif vb b then (vh b,0,()) else ((0,0,()),1,())):=by
 simp only [zeg]
 cases h:vb b with
 | true =>
  have hs:wU (1 * 2 ^ min (Int.toNat b) (Go.IntKind.bits .u64)) = zuA b:=zP1 h
  rw [hs]
  simp only [vb,Bool.and_eq_true,decide_eq_true_eq] at h
  simp only [vh]
  grind
 | false =>
  simp only [vb,Bool.and_eq_false_iff,decide_eq_false_iff_not] at h
  grind
theorem zOH (a:zt) (c:Int):zjq (a,some c,()) = some (zhU a.2.1 c != 0,()):=by
 rw [zB]; rfl
theorem zOI (a b:zt):eqI zj a b = eqI zj b a:=by
 rw [zm1,zm1]
 grind
theorem zpF {σ α:Type} {B:(σ→Option (Int × Unit))→σ→Option (Int × Unit)} {l:List α} (d:α) {p:α→Bool} (st:Int→σ) (hl:l.length ≤ Go.maxLen)
 (hin:∀ k (i:Nat) x,i < l.length→l.getD i d = x→x ∈ l→B k (st i) = bif p x then some ((i:Int),()) else k (st (wI (i + 1)))) (hout:∀ k,B k (st l.length) = some (-1,())):zg B K0 (st 0) = some (qx p l 0,()):=by
 have:=yQ (α:=Unit) (B:=B) hl (fun i _=>st i) (fun i _=>some (qx p (l.drop i) i,())) (fun _ _=>True) (fun k i s hi _ h=>?_) (fun k s _=>?_) () trivial
 ·simpa using this
 ·rw [hin k i _ hi rfl (zH hi),h () trivial,zcm d hi]
  simp only [qx]
  cases p (l.getD i d) <;> rfl
 ·rw [hout,List.drop_of_length_le (Nat.le_refl _)]; rfl
end Go.Proofs.YtkcakhbkoeimdaaGreatDoor
end
