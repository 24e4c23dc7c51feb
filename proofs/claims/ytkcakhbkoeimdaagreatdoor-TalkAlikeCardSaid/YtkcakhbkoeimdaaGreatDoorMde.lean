import Derived.Test.YtkcakhbkoeimdaaGreatDoorMdd
set_option linter.unusedVariables false
set_option linter.unusedSimpArgs false
section
namespace Go.Proofs.YtkcakhbkoeimdaaGreatDoor
open Go.Ev
noncomputable section
def yu:((List zo) × ((Option ((zo × Unit)→Option (Bool × Unit))) × Unit))→Option (Bool × Unit):=fun (x0,x1,()) =>
 Option.bind (zaO (x0,x1,())) fun q0=>bif decide (q0.1 ≥ 0) then some (true,()) else some (false,())
abbrev zga:Fun:=⟨300,(ch [(.sl zn),(.fn (ch [zn]) (ch [.bool]))]),(ch [.bool]),0,yu⟩
theorem zm9:Sq zga:=ms1 (d:=false) (K:=0) Tryz.func300 (by kernel_rfl) (funext fun (x0,x1,())=>by kernel_rfl)
def zaG:(Int × (Int × Unit))→Option (Int × Unit):=fun (x0,x1,()) =>
 Option.bind (zao (x0,())) fun q0=>bif q0.1 then Option.bind (zao (x1,())) fun q1=>bif q1.1 then some (0,()) else some ((-1),()) else Option.bind (zao (x1,())) fun q2=>bif q2.1 then some (1,()) else bif decide (x0 < x1) then some ((-1),()) else bif decide (x0 > x1) then some (1,()) else some (0,())
abbrev zlk:Fun:=⟨342,(ch [tI,tI]),(ch [tI]),0,zaG⟩
theorem zuZ:Sq zlk:=ms1 (d:=false) (K:=0) Tryz.func342 (by kernel_rfl) (funext fun (x0,x1,())=>by kernel_rfl)
def yc:(Int × (Int × Unit))→Option (Int × Unit):=fun (x0,x1,()) =>
 Option.bind (vy (x0,())) fun q0=>bif q0.1 then Option.bind (vy (x1,())) fun q1=>bif q1.1 then some (0,()) else some ((-1),()) else Option.bind (vy (x1,())) fun q2=>bif q2.1 then some (1,()) else bif decide (x0 < x1) then some ((-1),()) else bif decide (x0 > x1) then some (1,()) else some (0,())
abbrev zix:Fun:=⟨341,(ch [tU,tU]),(ch [tI]),0,yc⟩
theorem zq4:Sq zix:=ms1 (d:=false) (K:=0) Tryz.func341 (by kernel_rfl) (funext fun (x0,x1,())=>by kernel_rfl)
def zcj:(Int × ((Option za) × Unit))→Option (Bool × Unit):=fun (x0,x1,()) =>
 Option.bind x1 fun q0=>Option.bind (ql (x0,0,wI (((List.length q0.1):Int) - 1),())) fun q1=>bif q1.1 then some (false,()) else some (true,())
abbrev znS:Fun:=⟨302,(ch [tI,(.ptr zl)]),(ch [.bool]),0,zcj⟩
theorem zys:Sq znS:=ms1 (d:=false) (K:=0) Tryz.func302 (by kernel_rfl) (funext fun (x0,x1,())=>by kernel_rfl)
def qo:((List Int) × ((Option ((Int × Unit)→Option (Bool × Unit))) × Unit))→Option (Bool × Unit):=fun (x0,x1,()) =>
 Option.bind (vz (x0,x1,())) fun q0=>bif decide (q0.1 ≥ 0) then some (true,()) else some (false,())
abbrev zhL:Fun:=⟨249,(ch [(.sl tI),(.fn (ch [tI]) (ch [.bool]))]),(ch [.bool]),0,qo⟩
theorem zpJ:Sq zhL:=ms1 (d:=false) (K:=0) Tryz.func249 (by kernel_rfl) (funext fun (x0,x1,())=>by kernel_rfl)
def vk:((List Int) × ((Option ((Int × Unit)→Option (Bool × Unit))) × Unit))→Option (Bool × Unit):=fun (x0,x1,()) =>
 Option.bind (zbK (x0,x1,())) fun q0=>bif decide (q0.1 ≥ 0) then some (true,()) else some (false,())
abbrev zgF:Fun:=⟨221,(ch [(.sl (.int .u8)),(.fn (ch [(.int .u8)]) (ch [.bool]))]),(ch [.bool]),0,vk⟩
theorem zoO:Sq zgF:=ms1 (d:=false) (K:=0) Tryz.func221 (by kernel_rfl) (funext fun (x0,x1,())=>by kernel_rfl)
def zfS:(Int × Unit)→Option (Bool × Unit):=fun (x0,()) =>
 Option.bind (zfl (x0,())) fun q0=>bif q0.1 then some (true,()) else Option.bind (zh5 (x0,())) fun q1=>bif q1.1 then some (true,()) else some (false,())
abbrev zpK:Fun:=⟨324,(ch [(.int .u8)]),(ch [.bool]),0,zfS⟩
theorem zAh:Sq zpK:=ms1 (d:=false) (K:=0) Tryz.func324 (by kernel_rfl) (funext fun (x0,())=>by kernel_rfl)
def zaV:((List qO) × ((Option ((qO × Unit)→Option (Bool × Unit))) × Unit))→Option (Bool × Unit):=fun (x0,x1,()) =>
 Option.bind (y0 (x0,x1,())) fun q0=>bif decide (q0.1 ≥ 0) then some (true,()) else some (false,())
abbrev ze1:Fun:=⟨304,(ch [(.sl qN),(.fn (ch [qN]) (ch [.bool]))]),(ch [.bool]),0,zaV⟩
theorem zlB:Sq ze1:=ms1 (d:=false) (K:=0) Tryz.func304 (by kernel_rfl) (funext fun (x0,x1,())=>by kernel_rfl)
def zbR:((List zo) × (zo × Unit))→Option (Bool × Unit):=fun (x0,x1,()) =>
 Option.bind (zbm (x0,x1,())) fun q0=>bif decide (q0.1 ≥ 0) then some (true,()) else some (false,())
abbrev zjk:Fun:=⟨307,(ch [(.sl zn),zn]),(ch [.bool]),0,zbR⟩
theorem zst:Sq zjk:=ms1 (d:=false) (K:=0) Tryz.func307 (by kernel_rfl) (funext fun (x0,x1,())=>by kernel_rfl)
def zei:(Int × Unit)→Option (Bool × Unit):=fun (x0,()) =>
 Option.bind (ql (x0,0,12,())) fun q0=>bif q0.1 then some (false,()) else some (true,())
abbrev zmr:Fun:=⟨309,(ch [tI]),(ch [.bool]),0,zei⟩
theorem zwA:Sq zmr:=ms1 (d:=false) (K:=0) Tryz.func309 (by kernel_rfl) (funext fun (x0,())=>by kernel_rfl)
def zag:(za × Unit)→Option (Bool × Unit):=fun (x0,()) =>
 Option.bind (ql (x0.2.2.2.2.2.1,0,24,())) fun q0=>bif q0.1 then Option.bind (ql (x0.2.2.2.2.2.2.1,0,48,())) fun q1=>bif q1.1 then Option.bind (ql (x0.2.2.2.2.2.2.2.1,1,4,())) fun q2=>bif q2.1 then Option.bind (ql (x0.2.2.2.2.2.2.2.2.1,1,16,())) fun q3=>bif q3.1 then some (true,()) else some (false,()) else some (false,()) else some (false,()) else some (false,())
abbrev ztA:Fun:=⟨219,(ch [zl]),(ch [.bool]),0,zag⟩
theorem zEo:Sq ztA:=ms1 (d:=false) (K:=0) Tryz.func219 (by kernel_rfl) (funext fun (x0,())=>by kernel_rfl)
def jV:((List zi) × ((Option ((zi × Unit)→Option (Bool × Unit))) × Unit))→Option (Bool × Unit):=fun (x0,x1,()) =>
 Option.bind (zaQ (x0,x1,())) fun q0=>bif decide (q0.1 ≥ 0) then some (true,()) else some (false,())
abbrev zgb:Fun:=⟨236,(ch [(.sl zp),(.fn (ch [zp]) (ch [.bool]))]),(ch [.bool]),0,jV⟩
theorem zna:Sq zgb:=ms1 (d:=false) (K:=0) Tryz.func236 (by kernel_rfl) (funext fun (x0,x1,())=>by kernel_rfl)
def zcY:((List ja) × ((Option ((ja × Unit)→Option (Bool × Unit))) × Unit))→Option (Bool × Unit):=fun (x0,x1,()) =>
 Option.bind (zbM (x0,x1,())) fun q0=>bif decide (q0.1 ≥ 0) then some (true,()) else some (false,())
abbrev zgG:Fun:=⟨238,(ch [(.sl qn),(.fn (ch [qn]) (ch [.bool]))]),(ch [.bool]),0,zcY⟩
theorem zoP:Sq zgG:=ms1 (d:=false) (K:=0) Tryz.func238 (by kernel_rfl) (funext fun (x0,x1,())=>by kernel_rfl)
def ziy:(qg × Unit)→Option (Bool × Unit):=fun (x0,()) =>
 bif x0.1 then Option.bind (zfn (x0.2.1,())) fun q0=>bif q0.1 then Option.bind (zfn (x0.2.2.1,())) fun q1=>bif q1.1 then Option.bind (zh8 (x0.2.2.2.1,())) fun q2=>bif q2.1 then some (false,()) else some (true,()) else some (true,()) else some (true,()) else bif !eqI z4 x0 (ze z4) then some (true,()) else some (false,())
abbrev ztB:Fun:=⟨241,(ch [z4]),(ch [.bool]),0,ziy⟩
theorem zEp:Sq ztB:=ms1 (d:=false) (K:=0) Tryz.func241 (by kernel_rfl) (funext fun (x0,())=>by kernel_rfl)
def ziz:((List qg) × (zN × (Int × Unit)))→Option (Int × Unit):=fun (x0,x1,x2,()) =>
 Option.bind (yB (x0,some fun z=>zfQ (z.1,some x1,some x2,()),())) fun q0=>some (q0.1,())
abbrev ztC:Fun:=⟨242,(ch [(.sl z4),zR,tI]),(ch [tI]),0,ziz⟩
theorem zEq:Sq ztC:=ms1 (d:=false) (K:=0) Tryz.func242 (by kernel_rfl) (funext fun (x0,x1,x2,())=>by kernel_rfl)
def jm:((List qb) × ((Option ((qb × Unit)→Option (Bool × Unit))) × Unit))→Option (Bool × Unit):=fun (x0,x1,()) =>
 Option.bind (zbN (x0,x1,())) fun q0=>bif decide (q0.1 ≥ 0) then some (true,()) else some (false,())
abbrev zgH:Fun:=⟨243,(ch [(.sl zZ),(.fn (ch [zZ]) (ch [.bool]))]),(ch [.bool]),0,jm⟩
theorem zoQ:Sq zgH:=ms1 (d:=false) (K:=0) Tryz.func243 (by kernel_rfl) (funext fun (x0,x1,())=>by kernel_rfl)
def zck:(zuy × Unit)→Option (Bool × Unit):=fun (x0,()) =>
 bif x0.1 == 1 then Option.bind (zd6 (x0.2.1,())) fun q0=>bif q0.1 then bif eqI zR x0.2.2.1 (ze zR) then some (true,()) else some (false,()) else some (false,()) else bif x0.1 == 3 then Option.bind (zd6 (x0.2.1,())) fun q1=>bif q1.1 then bif eqI zR x0.2.2.1 (ze zR) then some (true,()) else some (false,()) else some (false,()) else bif x0.1 == 2 then bif x0.2.1 == 0 then Option.bind (zd6 (x0.2.2.1.1,())) fun q2=>bif q2.1 then Option.bind (zd6 (x0.2.2.1.2.1,())) fun q3=>bif q3.1 then some (true,()) else some (false,()) else some (false,()) else some (false,()) else some (false,())
abbrev zkE:Fun:=⟨332,(ch [zux]),(ch [.bool]),0,zck⟩
theorem ztD:Sq zkE:=ms1 (d:=false) (K:=0) Tryz.func332 (by kernel_rfl) (funext fun (x0,())=>by kernel_rfl)
def jo:((List zm) × ((Option ((zm × Unit)→Option (Bool × Unit))) × Unit))→Option (Bool × Unit):=fun (x0,x1,()) =>
 Option.bind (yC (x0,x1,())) fun q0=>bif decide (q0.1 ≥ 0) then some (true,()) else some (false,())
abbrev zgI:Fun:=⟨188,(ch [(.sl zu),(.fn (ch [zu]) (ch [.bool]))]),(ch [.bool]),0,jo⟩
theorem zoR:Sq zgI:=ms1 (d:=false) (K:=0) Tryz.func188 (by kernel_rfl) (funext fun (x0,x1,())=>by kernel_rfl)
def zbb:(zm × Unit)→Option (Bool × Unit):=fun (x0,()) =>
 Option.bind (zhI (x0.2.1,())) fun q0=>bif q0.1 then Option.bind (zhI (x0.2.2.1,())) fun q1=>bif q1.1 then Option.bind (zhI (x0.2.2.2.1,())) fun q2=>bif q2.1 then some (true,()) else some (false,()) else some (false,()) else some (false,())
abbrev zpL:Fun:=⟨94,(ch [zu]),(ch [.bool]),0,zbb⟩
theorem zAi:Sq zpL:=ms1 (d:=false) (K:=0) Tryz.func94 (by kernel_rfl) (funext fun (x0,())=>by kernel_rfl)
def zfT:(ByteArray × (ByteArray × Unit))→Option (ByteArray × Unit):=fun (x0,x1,()) =>
 bif ByteArray.toList x0 == ByteArray.toList (ByteArray.mk #[]) then some (x0,()) else bif ByteArray.toList x1 == ByteArray.toList (ByteArray.mk #[]) then some (x0,()) else bif (↑(ByteArray.size x1):Int) == 1 then bif decide (0 < (↑(ByteArray.size x1):Int)) then bif decide ((↑(UInt8.toNat (List.getD (Array.toList (ByteArray.data x1)) (Int.toNat 0) 0)):Int) < 128) then bif decide (0 < (↑(ByteArray.size x1):Int)) then Option.bind (zbU (x0,(↑(UInt8.toNat (List.getD (Array.toList (ByteArray.data x1)) (Int.toNat 0) 0)):Int),())) fun q0=>bif decide (0 < (↑(ByteArray.size x1):Int)) then Option.bind (zcT (q0.1,(↑(UInt8.toNat (List.getD (Array.toList (ByteArray.data x1)) (Int.toNat 0) 0)):Int),())) fun q1=>some (q1.1,()) else none else none else none else none else none
abbrev zpM:Fun:=⟨123,(ch [.str,.str]),(ch [.str]),0,zfT⟩
theorem zAj:Sq zpM:=ms1 (d:=false) (K:=0) Tryz.func123 (by kernel_rfl) (funext fun (x0,x1,())=>by kernel_rfl)
def qZ:((List zw) × ((Option ((zw × Unit)→Option (Bool × Unit))) × Unit))→Option (Bool × Unit):=fun (x0,x1,()) =>
 Option.bind (zaR (x0,x1,())) fun q0=>bif decide (q0.1 ≥ 0) then some (true,()) else some (false,())
abbrev zgc:Fun:=⟨245,(ch [(.sl zz),(.fn (ch [zz]) (ch [.bool]))]),(ch [.bool]),0,qZ⟩
theorem znb:Sq zgc:=ms1 (d:=false) (K:=0) Tryz.func245 (by kernel_rfl) (funext fun (x0,x1,())=>by kernel_rfl)
def zgJ:(zly × Unit)→Option (Bool × Unit):=fun (x0,()) =>
 Option.bind (jg (x0.1,())) fun q0=>bif q0.1 then bif decide (x0.2.1 ≤ 4611686018427387904) then bif x0.2.2.1 == -1 then some (true,()) else Option.bind (zfR (x0.2.2.1,())) fun q1=>bif q1.1 then some (true,()) else some (false,()) else some (false,()) else some (false,())
abbrev zvu:Fun:=⟨335,(ch [zd2]),(ch [.bool]),0,zgJ⟩
theorem zGj:Sq zvu:=ms1 (d:=false) (K:=0) Tryz.func335 (by kernel_rfl) (funext fun (x0,())=>by kernel_rfl)
def zfx:(Int × (Int × Unit))→Option (Int × (Int × Unit)):=fun (x0,x1,()) =>
 Option.bind (zc8 (x0,x1,())) fun q0=>bif q0.1 != 0 then some (0,7,()) else bif decide (q0.2.1 > 4611686018427387904) then some (0,7,()) else some (q0.2.1,0,())
abbrev ztE:Fun:=⟨362,(ch [tU,tU]),(ch [tU,tI]),0,zfx⟩
theorem zEr:Sq ztE:=ms1 (d:=false) (K:=0) Tryz.func362 (by kernel_rfl) (funext fun (x0,x1,())=>by kernel_rfl)
def zej:(zr × ((Option qL) × Unit))→Option (Bool × Unit):=fun (x0,x1,()) =>
 bif x0.1 then Option.bind x1 fun q0=>Option.bind (zbX (q0,x0.2.1,())) fun q1=>bif q1.1 then Option.bind x1 fun q2=>Option.bind (qM (q2,x0.2.2.1,())) fun q3=>bif q3.1 then Option.bind x1 fun q4=>bif decide (x0.2.2.2.2.2.2.2.2.2.1 < ((List.length q4.2.1.2.2.2.2.1):Int)) then some (true,()) else some (false,()) else some (false,()) else some (false,()) else some (true,())
abbrev zms:Fun:=⟨149,(ch [zq,(.ptr qk)]),(ch [.bool]),0,zej⟩
theorem zwB:Sq zms:=ms1 (d:=false) (K:=0) Tryz.func149 (by kernel_rfl) (funext fun (x0,x1,())=>by kernel_rfl)
def jW:((List zr) × ((Option ((zr × Unit)→Option (Bool × Unit))) × Unit))→Option (Bool × Unit):=fun (x0,x1,()) =>
 Option.bind (zaS (x0,x1,())) fun q0=>bif decide (q0.1 ≥ 0) then some (true,()) else some (false,())
abbrev zgd:Fun:=⟨253,(ch [(.sl zq),(.fn (ch [zq]) (ch [.bool]))]),(ch [.bool]),0,jW⟩
theorem znc:Sq zgd:=ms1 (d:=false) (K:=0) Tryz.func253 (by kernel_rfl) (funext fun (x0,x1,())=>by kernel_rfl)
def zbu:(zH × ((Option qL) × Unit))→Option (Bool × Unit):=fun (x0,x1,()) =>
 Option.bind x1 fun q0=>bif decide (x0.2.1 < ((List.length q0.1.2.1):Int)) then Option.bind x1 fun q1=>inR x0.2.1 ((List.length q1.1.2.1):Int) (bif x0.2.2.1 == ix (0:Int) q1.1.2.1 x0.2.1 then Option.bind x1 fun q2=>Option.bind (qM (q2,x0.2.2.2.1,())) fun q3=>bif q3.1 then Option.bind x1 fun q4=>bif decide (x0.1 ≤ q4.2.1.1) then some (true,()) else some (false,()) else some (false,()) else some (false,())) else some (false,())
abbrev zmt:Fun:=⟨153,(ch [zy,(.ptr qk)]),(ch [.bool]),0,zbu⟩
theorem zwC:Sq zmt:=ms1 (d:=false) (K:=0) Tryz.func153 (by kernel_rfl) (funext fun (x0,x1,())=>by kernel_rfl)
def jX:((List zH) × ((Option ((zH × Unit)→Option (Bool × Unit))) × Unit))→Option (Bool × Unit):=fun (x0,x1,()) =>
 Option.bind (zaT (x0,x1,())) fun q0=>bif decide (q0.1 ≥ 0) then some (true,()) else some (false,())
abbrev zge:Fun:=⟨255,(ch [(.sl zy),(.fn (ch [zy]) (ch [.bool]))]),(ch [.bool]),0,jX⟩
theorem znd:Sq zge:=ms1 (d:=false) (K:=0) Tryz.func255 (by kernel_rfl) (funext fun (x0,x1,())=>by kernel_rfl)
def vt:(Int × ((Option qL) × Unit))→Option (Bool × Unit):=fun (x0,x1,()) =>
 bif x0 == -1 then some (true,()) else Option.bind x1 fun q0=>Option.bind (qM (q0,x0,())) fun q1=>bif q1.1 then some (true,()) else some (false,())
abbrev zmu:Fun:=⟨155,(ch [tI,(.ptr qk)]),(ch [.bool]),0,vt⟩
theorem zwD:Sq zmu:=ms1 (d:=false) (K:=0) Tryz.func155 (by kernel_rfl) (funext fun (x0,x1,())=>by kernel_rfl)
def zgK:(qL × (Int × (Int × Unit)))→Option (Bool × Unit):=fun (x0,x1,x2,()) =>
 Option.bind (zbX (x0,x1,())) fun q0=>bif q0.1 then Option.bind (zbX (x0,x2,())) fun q1=>bif q1.1 then inR x1 ((List.length x0.1.1):Int) (inR x2 ((List.length x0.1.1):Int) (Option.bind (y3 (ix zA x0.1.1 x1,ix zA x0.1.1 x2,())) fun q2=>bif q2.1 then some (true,()) else some (false,()))) else some (false,()) else some (false,())
abbrev zvv:Fun:=⟨165,(ch [qk,tI,tI]),(ch [.bool]),0,zgK⟩
theorem zGk:Sq zvv:=ms1 (d:=false) (K:=0) Tryz.func165 (by kernel_rfl) (funext fun (x0,x1,x2,())=>by kernel_rfl)
def vl:((List qg) × ((Option ((qg × Unit)→Option (Bool × Unit))) × Unit))→Option (Bool × Unit):=fun (x0,x1,()) =>
 Option.bind (yB (x0,x1,())) fun q0=>bif decide (q0.1 ≥ 0) then some (true,()) else some (false,())
abbrev zgL:Fun:=⟨259,(ch [(.sl z4),(.fn (ch [z4]) (ch [.bool]))]),(ch [.bool]),0,vl⟩
theorem zoS:Sq zgL:=ms1 (d:=false) (K:=0) Tryz.func259 (by kernel_rfl) (funext fun (x0,x1,())=>by kernel_rfl)
def vJ:((List zN) × ((Option ((zN × Unit)→Option (Bool × Unit))) × Unit))→Option (Bool × Unit):=fun (x0,x1,()) =>
 Option.bind (zcg (x0,x1,())) fun q0=>bif decide (q0.1 ≥ 0) then some (true,()) else some (false,())
abbrev zhM:Fun:=⟨262,(ch [(.sl zR),(.fn (ch [zR]) (ch [.bool]))]),(ch [.bool]),0,vJ⟩
theorem zpN:Sq zhM:=ms1 (d:=false) (K:=0) Tryz.func262 (by kernel_rfl) (funext fun (x0,x1,())=>by kernel_rfl)
def zbv:(qb × ((Option qL) × Unit))→Option (Bool × Unit):=fun (x0,x1,()) =>
 bif x0.2.2.1 != 1 then some (true,()) else Option.bind x1 fun q0=>Option.bind (qM (q0,x0.2.2.2.1,())) fun q1=>bif q1.1 then some (true,()) else some (false,())
abbrev zmv:Fun:=⟨162,(ch [zZ,(.ptr qk)]),(ch [.bool]),0,zbv⟩
theorem zwE:Sq zmv:=ms1 (d:=false) (K:=0) Tryz.func162 (by kernel_rfl) (funext fun (x0,x1,())=>by kernel_rfl)
def qG:(zw × ((Option qL) × Unit))→Option (Bool × Unit):=fun (x0,x1,()) =>
 bif x0.1 then Option.bind x1 fun q0=>Option.bind (qM (q0,x0.2.1,())) fun q1=>bif q1.1 then Option.bind x1 fun q2=>Option.bind (qM (q2,x0.2.2.1,())) fun q3=>bif q3.1 then some (true,()) else some (false,()) else some (false,()) else some (true,())
abbrev zmw:Fun:=⟨167,(ch [zz,(.ptr qk)]),(ch [.bool]),0,qG⟩
theorem zwF:Sq zmw:=ms1 (d:=false) (K:=0) Tryz.func167 (by kernel_rfl) (funext fun (x0,x1,())=>by kernel_rfl)
def yM:((List zw) × ((Option ((zw × Unit)→Option (Bool × Unit))) × Unit))→Option ((Option zcc) × Unit):=fun (x0,x1,()) =>
 bif Option.isNone x1 then some (none,()) else Option.bind (zbn (x0,())) fun q0=>some (some (q0.1,x1,()),())
abbrev zmx:Fun:=⟨168,(ch [(.sl zz),(.fn (ch [zz]) (ch [.bool]))]),(ch [(.ptr vV)]),0,yM⟩
theorem zwG:Sq zmx:=ms1 (d:=false) (K:=0) Tryz.func168 (by kernel_rfl) (funext fun (x0,x1,())=>by kernel_rfl)
def yd:((Option zcc) × (Int × Unit))→Option (Bool × Unit):=fun (x0,x1,()) =>
 Option.bind (zec (x0,())) fun q0=>bif q0.1 then bif decide (x1 ≥ 0) then Option.bind x0 fun q1=>bif decide (x1 < ((List.length q1.1):Int)) then Option.bind x0 fun q2=>Option.bind x0 fun q3=>inR x1 ((List.length q3.1):Int) (Option.bind q2.2.1 fun q4=>Option.bind (q4 (ix qT q3.1 x1,())) fun q5=>bif q5.1 then some (true,()) else some (false,())) else some (false,()) else some (false,()) else some (false,())
abbrev znT:Fun:=⟨170,(ch [(.ptr vV),tI]),(ch [.bool]),0,yd⟩
theorem zyt:Sq znT:=ms1 (d:=false) (K:=0) Tryz.func170 (by kernel_rfl) (funext fun (x0,x1,())=>by kernel_rfl)
def zho:((List zr) × ((Option ((zr × Unit)→Option (Bool × Unit))) × Unit))→Option ((Option zd3) × Unit):=fun (x0,x1,()) =>
 bif Option.isNone x1 then some (none,()) else Option.bind (zbo (x0,())) fun q0=>some (some (q0.1,x1,()),())
abbrev zmy:Fun:=⟨375,(ch [(.sl zq),(.fn (ch [zq]) (ch [.bool]))]),(ch [(.ptr yZ)]),0,zho⟩
theorem zwH:Sq zmy:=ms1 (d:=false) (K:=0) Tryz.func375 (by kernel_rfl) (funext fun (x0,x1,())=>by kernel_rfl)
def ze2:((Option zd3) × (Int × Unit))→Option (Bool × Unit):=fun (x0,x1,()) =>
 Option.bind (zed (x0,())) fun q0=>bif q0.1 then bif decide (x1 ≥ 0) then Option.bind x0 fun q1=>bif decide (x1 < ((List.length q1.1):Int)) then Option.bind x0 fun q2=>Option.bind x0 fun q3=>inR x1 ((List.length q3.1):Int) (Option.bind q2.2.1 fun q4=>Option.bind (q4 (ix qt q3.1 x1,())) fun q5=>bif q5.1 then some (true,()) else some (false,())) else some (false,()) else some (false,()) else some (false,())
abbrev znU:Fun:=⟨378,(ch [(.ptr yZ),tI]),(ch [.bool]),0,ze2⟩
theorem zyu:Sq znU:=ms1 (d:=false) (K:=0) Tryz.func378 (by kernel_rfl) (funext fun (x0,x1,())=>by kernel_rfl)
abbrev zfy:Type:=Int × (List Int) × Int × Int
abbrev zEs:zfy→St:=fun (v4,v9,v10,v11)=>St.mk [(4,.dat tU v4),(9,.dat (.sl tU) v9),(10,.dat tI v10),(11,.dat tI v11)] []
def zfz (k0:zfy→Option (Int × (Int × Unit))):zfy→Option (Int × (Int × Unit)):=fun (v4,v9,v10,v11) =>
 bif decide (v11 < v10) then inR v11 ((List.length v9):Int) (Option.bind (zj2 (v4,ix (0:Int) v9 v11,())) fun q0=>bif q0.2.1 != 0 then some (0,q0.2.1,()) else k0 (q0.1,v9,v10,wI (v11 + 1))) else some (v4,0,())
abbrev ztF (K:Nat):zfy→Option (Int × (Int × Unit)):=zk zfz K
theorem zEt (K:Nat):∀ n,evV Es1 K Tryz.f270 0 (ch [tU,tI]) [1,1,0,1,0] [] zEs n = zk zfz n:=zt fun n0 (v4,v9,v10,v11)=>by kernel_rfl
def zq5 (L0:zfy→Option (Int × (Int × Unit))):((List Int) × Unit)→Option (Int × (Int × Unit)):=fun (x0,()) =>
 L0 (0,x0,((List.length x0):Int),0)
def zfU:((List Int) × Unit)→Option (Int × Int × Unit):=zq5 (ztF K0)
abbrev zyv:Fun:=⟨270,(ch [(.sl tU)]),(ch [tU,tI]),0,zfU⟩
theorem zIe:Sq zyv:=ml1 (d:=false) (S:=fun K=>zq5 (ztF K)) Tryz.func270 (by kernel_rfl) (fun K=>tr1 (T:=zq5) (zEt K K) fun (x0,())=>by kernel_rfl) rfl
def zbY:(Int × ((Option za) × ((Option zo) × Unit)))→Option (Bool × Unit):=fun (x0,x1,x2,()) =>
 Option.bind x1 fun q0=>inR x0 ((List.length q0.1):Int) (Option.bind x2 fun q1=>Option.bind (y3 (ix zA q0.1 x0,q1,())) fun q2=>bif q2.1 then some (true,()) else some (false,()))
abbrev zrF:Fun:=⟨175,(ch [tI,(.ptr zl),(.ptr zn)]),(ch [.bool]),0,zbY⟩
theorem zB7:Sq zrF:=ms1 (d:=false) (K:=0) Tryz.func175 (by kernel_rfl) (funext fun (x0,x1,x2,())=>by kernel_rfl)
def zgY:(Int × ((Option za) × ((Option zo) × Unit)))→Option (Bool × Unit):=fun (x0,x1,x2,()) =>
 Option.bind x1 fun q0=>inR x0 ((List.length q0.2.2.2.1):Int) (Option.bind (zbl ((ix zD q0.2.2.2.1 x0).1,())) fun q1=>Option.bind x2 fun q2=>Option.bind (y3 (q1.1,q2,())) fun q3=>bif q3.1 then some (true,()) else some (false,()))
abbrev zrG:Fun:=⟨176,(ch [tI,(.ptr zl),(.ptr zn)]),(ch [.bool]),0,zgY⟩
theorem zB8:Sq zrG:=ms1 (d:=false) (K:=0) Tryz.func176 (by kernel_rfl) (funext fun (x0,x1,x2,())=>by kernel_rfl)
abbrev zcl:Type:=Int × Int × Int × Int × List zi × Nat × List (List Int) × Nat × List zr × List zH × List Int × List zi × Nat × List (List Int) × Nat × List zr × List zH × List Int
abbrev znV:zcl→St:=fun (v44,v45,o0_0,o1_0,o2,c2,o3,c3,o4,o5,o6,o7,c7,o8,c8,o9,o10,o11)=>St.mk [(1,.bp 0 []),(2,.bp 1 []),(43,.ow 2),(44,.dat tI v44),(45,.dat tI v45)] [.bx (.fld (.pair tU (.pair (.sl zp) (.pair (.sl (.sl tI)) (.pair (.sl zq) (.pair (.sl zy) (.pair (.sl tI) .unit)))))) [.dat tU o0_0,.ow 2,.ow 3,.ow 4,.ow 5,.ow 6]) false,.bx (.fld (.pair tU (.pair (.sl zp) (.pair (.sl (.sl tI)) (.pair (.sl zq) (.pair (.sl zy) (.pair (.sl tI) .unit)))))) [.dat tU o1_0,.ow 7,.ow 8,.ow 9,.ow 10,.ow 11]) false,.drow zp o2 c2,.drow (.sl tI) o3 c3,.row zq o4 false,.row zy o5 false,.row tI o6 false,.drow zp o7 c7,.drow (.sl tI) o8 c8,.row zq o9 false,.row zy o10 false,.row tI o11 false]
abbrev zcm:Type:=Int × Int × Int × (List zi) × Int × List (List Int) × Nat × List zr × List zH × List Int × List zi × Nat × List (List Int) × Nat × List zr × List zH × List Int
abbrev zyw:zcm→St:=fun (v25,v26,o0_0,o0_1,o1_0,o2,c2,o3,o4,o5,o6,c6,o7,c7,o8,o9,o10)=>St.mk [(1,.bp 0 []),(2,.bp 1 []),(24,.ow 2),(25,.dat tI v25),(26,.dat tI v26)] [.bx (.fld (.pair tU (.pair (.sl zp) (.pair (.sl (.sl tI)) (.pair (.sl zq) (.pair (.sl zy) (.pair (.sl tI) .unit)))))) [.dat tU o0_0,.dat (.sl zp) o0_1,.ow 2,.ow 3,.ow 4,.ow 5]) false,.bx (.fld (.pair tU (.pair (.sl zp) (.pair (.sl (.sl tI)) (.pair (.sl zq) (.pair (.sl zy) (.pair (.sl tI) .unit)))))) [.dat tU o1_0,.ow 6,.ow 7,.ow 8,.ow 9,.ow 10]) false,.drow (.sl tI) o2 c2,.row zq o3 false,.row zy o4 false,.row tI o5 false,.drow zp o6 c6,.drow (.sl tI) o7 c7,.row zq o8 false,.row zy o9 false,.row tI o10 false]
def zcn (k1:zcl→Option (zd × Unit)):zcl→Option (zd × Unit):=fun (v44,v45,o0_0,o1_0,o2,c2,o3,c3,o4,o5,o6,o7,c7,o8,c8,o9,o10,o11) =>
 bif decide (v45 < v44) then inR v45 ((List.length o2):Int) (bif decide (c2 ≤ Int.toNat v45) then Option.bind (zii ((ix zg o2 v45).1,())) fun q6=>Option.bind (zij ((ix zg o2 v45).2.1,())) fun q7=>Option.bind (zik ((ix zg o2 v45).2.2.1,())) fun q8=>Option.bind (zap ((ix zg o2 v45).2.2.2.1,())) fun q9=>Option.bind (zbn ((ix zg o2 v45).2.2.2.2.1,())) fun q10=>Option.bind (zkU ((ix zg o2 v45).2.2.2.2.2.1,())) fun q11=>Option.bind (zjz ((ix zg o2 v45).2.2.2.2.2.2.1,())) fun q12=>inR v45 ((List.length o2):Int) (bif decide (Int.toNat v45 = c2) then k1 (v44,wI (v45 + 1),o0_0,o1_0,List.set o2 (Int.toNat v45) (q6.1,q7.1,q8.1,q9.1,q10.1,q11.1,q12.1,(ix zg o2 v45).2.2.2.2.2.2.2.1,(ix zg o2 v45).2.2.2.2.2.2.2.2.1,()),c2 + 1,o3,c3,o4,o5,o6,o7,c7,o8,c8,o9,o10,o11) else none) else none) else bif decide (c2 = List.length o2) then bif decide (c3 = List.length o3) then some ((o0_0,o2,o3,o4,o5,o6,()),()) else none else none
abbrev zco (K:Nat):zcl→Option (zd × Unit):=zk zcn K
theorem zyx (K:Nat):∀ n,evV Ed1 K Tryz.f7 3 (ch [zx]) [1,1,1,1,1,0,1,0] [] znV n = zk zcn n:=zt fun n1 (v44,v45,o0_0,o1_0,o2,c2,o3,c3,o4,o5,o6,o7,c7,o8,c8,o9,o10,o11)=>by kernel_rfl
def zaq (L1:zcl→Option (zd × Unit)) (k0:zcm→Option (zd × Unit)):zcm→Option (zd × Unit):=fun (v25,v26,o0_0,o0_1,o1_0,o2,c2,o3,o4,o5,o6,c6,o7,c7,o8,o9,o10) =>
 bif decide (v26 < v25) then inR v26 ((List.length o2):Int) (bif decide (c2 ≤ Int.toNat v26) then Option.bind (yL (List.getD o2 (Int.toNat v26) ([]:List Int),())) fun q4=>inR v26 ((List.length o2):Int) (bif decide (Int.toNat v26 = c2) then k0 (v25,wI (v26 + 1),o0_0,o0_1,o1_0,List.set o2 (Int.toNat v26) q4.1,c2 + 1,o3,o4,o5,o6,c6,o7,c7,o8,o9,o10) else none) else none) else Option.bind (zhf (o0_1,())) fun q5=>L1 (((List.length q5.1):Int),0,o0_0,o1_0,q5.1,0,o2,c2,o3,o4,o5,o6,c6,o7,c7,o8,o9,o10)
abbrev ziA (K:Nat):zcm→Option (zd × Unit):=zk (fun k0=>zaq (zco K) k0) K
theorem zyy (K:Nat):∀ n,evV Ed1 K Tryz.f7 3 (ch [zx]) [1,1,1,0,1,0] [] zyw n = zk (fun k0=>zaq (zco K) k0) n:=zhC (B:=fun L1 k0=>zaq L1 k0) (V1:=fun n0=>evV Ed1 K Tryz.f7 3 (ch [zx]) [1,1,1,1,1,0,1,0] [] znV K) (W1:=fun k0=>(zco K)) (fun n0=>zyx K K) fun n0 (v25,v26,o0_0,o0_1,o1_0,o2,c2,o3,o4,o5,o6,c6,o7,c7,o8,o9,o10)=>by kernel_rfl
def zgZ (L0:zcm→Option (zd × Unit)):(zd × Unit)→Option (zd × Unit):=fun (x0,()) =>
 Option.bind (zbo (x0.2.2.2.1,())) fun q0=>Option.bind (zhe (x0.2.2.2.2.1,())) fun q1=>Option.bind (yL (x0.2.2.2.2.2.1,())) fun q2=>Option.bind (zih (x0.2.2.1,())) fun q3=>L0 (((List.length q3.1):Int),0,x0.1,x0.2.1,0,q3.1,0,q0.1,q1.1,q2.1,[],0,[],0,[],[],[])
def qR:(zd × Unit)→Option (zd × Unit):=zgZ (ziA K0)
abbrev zrH:Fun:=⟨7,(ch [zx]),(ch [zx]),3,qR⟩
theorem zB9:Sq zrH:=ml1 (d:=true) (S:=fun K=>zgZ (ziA K)) Tryz.func7 (by kernel_rfl) (fun K=>tr1 (T:=zgZ) (zyy K K) fun (x0,())=>by kernel_rfl) rfl
def yl:(zi × (zi × Unit))→Option (Bool × Unit):=fun (x0,x1,()) =>
 Option.bind (zin (x0.1,x1.1,())) fun q0=>bif q0.1 then Option.bind (ziq (x0.2.1,x1.2.1,())) fun q1=>bif q1.1 then Option.bind (zis (x0.2.2.1,x1.2.2.1,())) fun q2=>bif q2.1 then Option.bind (ziu (x0.2.2.2.1,x1.2.2.2.1,())) fun q3=>bif q3.1 then Option.bind (zhh (x0.2.2.2.2.1,x1.2.2.2.2.1,())) fun q4=>bif q4.1 then Option.bind (zkW (x0.2.2.2.2.2.1,x1.2.2.2.2.2.1,())) fun q5=>bif q5.1 then Option.bind (zjB (x0.2.2.2.2.2.2.1,x1.2.2.2.2.2.2.1,())) fun q6=>bif q6.1 then bif eqI (.arr 4 tU) x0.2.2.2.2.2.2.2.1 x1.2.2.2.2.2.2.2.1 then bif eqI (.arr 4 tU) x0.2.2.2.2.2.2.2.2.1 x1.2.2.2.2.2.2.2.2.1 then some (true,()) else some (false,()) else some (false,()) else some (false,()) else some (false,()) else some (false,()) else some (false,()) else some (false,()) else some (false,()) else some (false,())
abbrev zll:Fun:=⟨182,(ch [zp,zp]),(ch [.bool]),0,yl⟩
theorem zu0:Sq zll:=ms1 (d:=false) (K:=0) Tryz.func182 (by kernel_rfl) (funext fun (x0,x1,())=>by kernel_rfl)
def ziB:((List zm) × ((Option ((zm × Unit)→Option (Bool × Unit))) × Unit))→Option ((Option yp) × Unit):=fun (x0,x1,()) =>
 bif Option.isNone x1 then some (none,()) else Option.bind (zap (x0,())) fun q0=>some (some (q0.1,x1,()),())
abbrev znW:Fun:=⟨191,(ch [(.sl zu),(.fn (ch [zu]) (ch [.bool]))]),(ch [(.ptr j3)]),0,ziB⟩
theorem zyz:Sq znW:=ms1 (d:=false) (K:=0) Tryz.func191 (by kernel_rfl) (funext fun (x0,x1,())=>by kernel_rfl)
def zek:((Option yp) × Unit)→Option (Int × (Int × Unit)):=fun (x0,()) =>
 Option.bind (yb (x0,())) fun q0=>bif q0.1 then Option.bind x0 fun q1=>Option.bind (yC (q1.1,some fun z=>zkC (z.1,some x0,()),())) fun q2=>bif decide (q2.1 < 0) then some (0,8,()) else some (q2.1,0,()) else some (0,11,())
abbrev zmz:Fun:=⟨193,(ch [(.ptr j3)]),(ch [tI,tI]),0,zek⟩
theorem zwI:Sq zmz:=ms1 (d:=false) (K:=0) Tryz.func193 (by kernel_rfl) (funext fun (x0,())=>by kernel_rfl)
def zdx:((Option yp) × (Int × (zm × Unit)))→Option ((List zm) × (Int × Unit)):=fun (x0,x1,x2,()) =>
 Option.bind (yb (x0,())) fun q0=>bif q0.1 then bif decide (x1 < 0) then some ([],1,()) else Option.bind x0 fun q1=>bif decide (x1 ≥ ((List.length q1.1):Int)) then some ([],1,()) else Option.bind x0 fun q2=>Option.bind (zap (q2.1,())) fun q3=>inR x1 ((List.length q3.1):Int) (some (List.set q3.1 (Int.toNat x1) x2,0,())) else some ([],11,())
abbrev zpO:Fun:=⟨101,(ch [(.ptr j3),tI,zu]),(ch [(.sl zu),tI]),0,zdx⟩
theorem zAk:Sq zpO:=ms1 (d:=false) (K:=0) Tryz.func101 (by kernel_rfl) (funext fun (x0,x1,x2,())=>by kernel_rfl)
def yN:((Option yp) × (Int × Unit))→Option (Bool × Unit):=fun (x0,x1,()) =>
 Option.bind (yb (x0,())) fun q0=>bif q0.1 then bif decide (x1 ≥ 0) then Option.bind x0 fun q1=>bif decide (x1 < ((List.length q1.1):Int)) then Option.bind x0 fun q2=>Option.bind x0 fun q3=>inR x1 ((List.length q3.1):Int) (Option.bind q2.2.1 fun q4=>Option.bind (q4 (ix vP q3.1 x1,())) fun q5=>bif q5.1 then some (true,()) else some (false,())) else some (false,()) else some (false,()) else some (false,())
abbrev zpP:Fun:=⟨102,(ch [(.ptr j3),tI]),(ch [.bool]),0,yN⟩
theorem zAl:Sq zpP:=ms1 (d:=false) (K:=0) Tryz.func102 (by kernel_rfl) (funext fun (x0,x1,())=>by kernel_rfl)
def jq:((List Int) × (Int × Unit))→Option (Bool × Unit):=fun (x0,x1,()) =>
 Option.bind (zjE (x0,x1,())) fun q0=>bif decide (q0.1 ≥ 0) then some (true,()) else some (false,())
abbrev zlm:Fun:=⟨73,(ch [(.sl tI),tI]),(ch [.bool]),0,jq⟩
theorem zu1:Sq zlm:=ms1 (d:=false) (K:=0) Tryz.func73 (by kernel_rfl) (funext fun (x0,x1,())=>by kernel_rfl)
def zaH:(zN × ((Option za) × ((Option Int) × Unit)))→Option (Bool × Unit):=fun (x0,x1,x2,()) =>
 Option.bind (zbl (x0.1,())) fun q0=>Option.bind x1 fun q1=>Option.bind x2 fun q2=>inR q2 ((List.length q1.1):Int) (bif eqI zn q0.1 (ix zA q1.1 q2) then some (true,()) else some (false,()))
abbrev zln:Fun:=⟨319,(ch [jf,(.ptr zl),(.ptr tI)]),(ch [.bool]),0,zaH⟩
theorem zu2:Sq zln:=ms1 (d:=false) (K:=0) Tryz.func319 (by kernel_rfl) (funext fun (x0,x1,x2,())=>by kernel_rfl)
abbrev L2:List Fun:=zmq :: zga :: zlk :: zix :: znS :: zhL :: zgF :: zpK :: ze1 :: zjk :: zmr :: ztA :: zgb :: zgG :: ztB :: ztC :: zgH :: zkE :: zgI :: zpL :: zpM :: zgc :: zvu :: ztE :: zms :: zgd :: zmt :: zge :: zmu :: zvv :: zgL :: zhM :: zmv :: zmw :: zmx :: znT :: zmy :: znU :: zyv :: zrF :: zrG :: zrH :: zll :: znW :: zmz :: zpO :: zpP :: zlm :: zln :: L1
theorem h2:Sds Tryz.prog E0 L2:=⟨zwz,zm9,zuZ,zq4,zys,zpJ,zoO,zAh,zlB,zst,zwA,zEo,zna,zoP,zEp,zEq,zoQ,ztD,zoR,zAi,zAj,znb,zGj,zEr,zwB,znc,zwC,znd,zwD,zGk,zoS,zpN,zwE,zwF,zwG,zyt,zwH,zyu,zIe,zB7,zB8,zB9,zu0,zyz,zwI,zAk,zAl,zu1,zu2,h1⟩
theorem ms2 {d:Bool} {F:Fun} {f:Go.Func} {K:Nat} (hf:Tryz.prog.funcs[F.id]? = some f) (ho:jC f = true) (h:evF (En E0 d L2) K f F.md F.a F.r = F.spec):Sd Tryz.prog E0 F:=mkS h2 hf ho h
theorem ml2 {d:Bool} {F:Fun} {f:Go.Func} {S:Nat→F.a.I→Option F.r.I} (hf:Tryz.prog.funcs[F.id]? = some f) (ho:jC f = true) (h:∀ K,evF (En E0 d L2) K f F.md F.a F.r = S K) (e:S K0 = F.spec):Sd Tryz.prog E0 F:=mkS h2 hf ho ((h K0).trans e)
abbrev Es2:Env:=En E0 false L2
def zj4:(zo × (zo × Unit))→Option (Int × Unit):=fun (x0,x1,()) =>
 Option.bind (zaG (x0.1,x1.1,())) fun q0=>Option.bind (yc (x0.2.1,x1.2.1,())) fun q1=>Option.bind (zdl (zf (zf (List.replicate 2 (0:Int)) 0 q0.1) 1 q1.1,())) fun q2=>some (q2.1,())
abbrev zvw:Fun:=⟨301,(ch [zn,zn]),(ch [tI]),0,zj4⟩
theorem zGl:Sq zvw:=ms2 (d:=false) (K:=0) Tryz.func301 (by kernel_rfl) (funext fun (x0,x1,())=>by kernel_rfl)
def yq:(za × Unit)→Option (Bool × Unit):=fun (x0,()) =>
 Option.bind (ql (((List.length x0.2.1):Int),1,8,())) fun q0=>bif q0.1 then Option.bind (qo (x0.2.1,some fun z=>zcj (z.1,some x0,()),())) fun q1=>bif q1.1 then some (false,()) else some (true,()) else some (false,())
abbrev zrI:Fun:=⟨215,(ch [zl]),(ch [.bool]),0,yq⟩
theorem zCa:Sq zrI:=ms2 (d:=false) (K:=0) Tryz.func215 (by kernel_rfl) (funext fun (x0,())=>by kernel_rfl)
def zlC:(ByteArray × ((Option ((Int × Unit)→Option (Bool × Unit))) × Unit))→Option (Bool × Unit):=fun (x0,x1,()) =>
 Option.bind (vk (List.map (fun b=>(↑(UInt8.toNat b):Int)) (Array.toList (ByteArray.data x0)),some fun z=>zh4 (z.1,some x1,()),())) fun q0=>bif q0.1 then some (false,()) else some (true,())
abbrev zyA:Fun:=⟨121,(ch [.str,(.fn (ch [(.int .u8)]) (ch [.bool]))]),(ch [.bool]),0,zlC⟩
theorem zIf:Sq zyA:=ms2 (d:=false) (K:=0) Tryz.func121 (by kernel_rfl) (funext fun (x0,x1,())=>by kernel_rfl)
abbrev zbw:Type:=Int × (List zN) × Int × Int × za × Int
abbrev zwJ:zbw→St:=fun (v4,v11,v12,v13,o0,o1)=>St.mk [(1,.bp 0 []),(3,.bp 1 []),(4,.dat tI v4),(11,.dat (.sl jf) v11),(12,.dat tI v12),(13,.dat tI v13)] [.bx (.dat zl o0) false,.bx (.dat tU o1) false]
def zbx (k0:zbw→Option (Bool × Unit)):zbw→Option (Bool × Unit):=fun (v4,v11,v12,v13,o0,o1) =>
 bif decide (v13 < v12) then inR v13 ((List.length v11):Int) (Option.bind (zbl ((ix zD v11 v13).1,())) fun q0=>bif q0.2.1 != 0 then some (false,()) else bif decide ((ix zD v11 v13).1 ≤ v4) then some (false,()) else Option.bind (ql ((ix zD v11 v13).2.1,0,wI (((List.length o0.2.2.1):Int) - 1),())) fun q1=>bif q1.1 then Option.bind (zbR (o0.1,q0.1,())) fun q2=>bif q2.1 then k0 ((ix zD v11 v13).1,v11,v12,wI (v13 + 1),o0,wU (↑(BitVec.toNat (BitVec.ofInt (IntKind.bits IntKind.u64) o1 ||| BitVec.ofInt (IntKind.bits IntKind.u64) q0.1.2.1)):Int)) else some (false,()) else some (false,())) else bif decide (((List.length o0.2.2.2.1):Int) ≤ 8) then Option.bind (yu (o0.1,some fun z=>zhd (z.1,some o1,()),())) fun q3=>bif q3.1 then some (false,()) else some (true,()) else some (false,())
abbrev zmA (K:Nat):zbw→Option (Bool × Unit):=zk zbx K
theorem zwK (K:Nat):∀ n,evV Es2 K Tryz.f217 0 (ch [.bool]) [1,1,1,0,1,0] [] zwJ n = zk zbx n:=zt fun n0 (v4,v11,v12,v13,o0,o1)=>by kernel_rfl
def zjG (L0:zbw→Option (Bool × Unit)):(za × Unit)→Option (Bool × Unit):=fun (x0,()) =>
 L0 ((-1),x0.2.2.2.1,((List.length x0.2.2.2.1):Int),0,x0,0)
def vK:(za × Unit)→Option (Bool × Unit):=zjG (zmA K0)
abbrev zpQ:Fun:=⟨217,(ch [zl]),(ch [.bool]),0,vK⟩
theorem zAm:Sq zpQ:=ml2 (d:=false) (S:=fun K=>zjG (zmA K)) Tryz.func217 (by kernel_rfl) (fun K=>tr1 (T:=zjG) (zwK K K) fun (x0,())=>by kernel_rfl) rfl
abbrev zby:Type:=Int × (List zcb) × Int × Int
abbrev zwL:zby→St:=fun (v3,v23,v24,v25)=>St.mk [(3,.dat tU v3),(23,.dat (.sl zdj) v23),(24,.dat tI v24),(25,.dat tI v25)] []
def zel (k0:zby→Option (Bool × Unit)):zby→Option (Bool × Unit):=fun (v3,v23,v24,v25) =>
 bif decide (v25 < v24) then inR v25 ((List.length v23):Int) (bif decide ((ix va v23 v25).2.2.2.2.2.1 > v3) then some (false,()) else Option.bind (zh6 (ix va v23 v25,())) fun q0=>Option.bind (qo (q0.1,some zei,())) fun q1=>bif q1.1 then some (false,()) else k0 (wU (v3 - (ix va v23 v25).2.2.2.2.2.1),v23,v24,wI (v25 + 1))) else some (true,())
abbrev zhp (K:Nat):zby→Option (Bool × Unit):=zk zel K
theorem zwM (K:Nat):∀ n,evV Es2 K Tryz.f218 0 (ch [.bool]) [1,1,1,0,1,0] [] zwL n = zk zel n:=zt fun n0 (v3,v23,v24,v25)=>by kernel_rfl
def zfV (L0:zby→Option (Bool × Unit)):(za × Unit)→Option (Bool × Unit):=fun (x0,()) =>
 bif ((List.length x0.2.2.2.2.1):Int) != ((List.length x0.1):Int) then some (false,()) else bif decide (0 < ((List.length x0.2.2.2.2.1):Int)) then bif decide ((ix va x0.2.2.2.2.1 0).1 < 1) then some (false,()) else L0 (4611686018427387904,x0.2.2.2.2.1,((List.length x0.2.2.2.2.1):Int),0) else none
def vL:(za × Unit)→Option (Bool × Unit):=zfV (zhp K0)
abbrev zpR:Fun:=⟨218,(ch [zl]),(ch [.bool]),0,vL⟩
theorem zAn:Sq zpR:=ml2 (d:=false) (S:=fun K=>zfV (zhp K)) Tryz.func218 (by kernel_rfl) (fun K=>tr1 (T:=zfV) (zwM K K) fun (x0,())=>by kernel_rfl) rfl
def zgn:((List zi) × ((Option ((zi × Unit)→Option (Bool × Unit))) × Unit))→Option (Bool × Unit):=fun (x0,x1,()) =>
 Option.bind (jV (x0,some fun z=>zbL (z.1,some x1,()),())) fun q0=>bif q0.1 then some (false,()) else some (true,())
abbrev zlo:Fun:=⟨138,(ch [(.sl zp),(.fn (ch [zp]) (ch [.bool]))]),(ch [.bool]),0,zgn⟩
theorem zu3:Sq zlo:=ms2 (d:=false) (K:=0) Tryz.func138 (by kernel_rfl) (funext fun (x0,x1,())=>by kernel_rfl)
abbrev zdy:Type:=(List qg) × (List qg) × Int × Int
abbrev zAo:zdy→St:=fun (v0,v5,v6,v7)=>St.mk [(0,.dat (.sl z4) v0),(5,.dat (.sl z4) v5),(6,.dat tI v6),(7,.dat tI v7)] []
def zdz (k0:zdy→Option (Bool × Unit)):zdy→Option (Bool × Unit):=fun (v0,v5,v6,v7) =>
 bif decide (v7 < v6) then inR v7 ((List.length v5):Int) (Option.bind (ziy (ix vU v5 v7,())) fun q0=>bif q0.1 then some (false,()) else bif (ix vU v5 v7).1 then Option.bind (ziz (v0,(ix vU v5 v7).2.1,(ix vU v5 v7).2.2.2.1,())) fun q1=>bif q1.1 != v7 then some (false,()) else k0 (v0,v5,v6,wI (v7 + 1)) else k0 (v0,v5,v6,wI (v7 + 1))) else some (true,())
abbrev zpS (K:Nat):zdy→Option (Bool × Unit):=zk zdz K
theorem zAp (K:Nat):∀ n,evV Es2 K Tryz.f141 0 (ch [.bool]) [1,0,1,0] [] zAo n = zk zdz n:=zt fun n0 (v0,v5,v6,v7)=>by kernel_rfl
def zmB (L0:zdy→Option (Bool × Unit)):((List qg) × Unit)→Option (Bool × Unit):=fun (x0,()) =>
 L0 (x0,x0,((List.length x0):Int),0)
def zmC:((List qg) × Unit)→Option (Bool × Unit):=zmB (zpS K0)
abbrev ztG:Fun:=⟨141,(ch [(.sl z4)]),(ch [.bool]),0,zmC⟩
theorem zEu:Sq ztG:=ml2 (d:=false) (S:=fun K=>zmB (zpS K)) Tryz.func141 (by kernel_rfl) (fun K=>tr1 (T:=zmB) (zAp K K) fun (x0,())=>by kernel_rfl) rfl
def zj5:(zw × Unit)→Option (Bool × Unit):=fun (x0,()) =>
 Option.bind (zfR (x0.2.1,())) fun q0=>bif q0.1 then Option.bind (zfR (x0.2.2.1,())) fun q1=>bif q1.1 then bif x0.2.1 != x0.2.2.1 then Option.bind (zgJ (x0.2.2.2.1,())) fun q2=>bif q2.1 then Option.bind (zgJ (x0.2.2.2.2.1,())) fun q3=>bif q3.1 then Option.bind (zfp (x0.2.2.2.1,())) fun q4=>bif q4.1 then Option.bind (zfp (x0.2.2.2.2.1,())) fun q5=>bif q5.1 then some (false,()) else some (true,()) else some (true,()) else some (false,()) else some (false,()) else some (false,()) else some (false,()) else some (false,())
abbrev zvx:Fun:=⟨247,(ch [zz]),(ch [.bool]),0,zj5⟩
theorem zGm:Sq zvx:=ms2 (d:=false) (K:=0) Tryz.func247 (by kernel_rfl) (funext fun (x0,())=>by kernel_rfl)
def zgM:(Int × (Int × (Int × Unit)))→Option (Int × (Int × Unit)):=fun (x0,x1,x2,()) =>
 bif x0 != 1 then bif x0 != 2 then some (0,1,()) else bif x1 == 0 then some (0,1,()) else bif x2 == 0 then some (0,1,()) else Option.bind (zfx (x1,x2,())) fun q0=>bif q0.2.1 != 0 then some (0,q0.2.1,()) else bif x0 == 2 then some (x1,0,()) else some (q0.1,0,()) else bif x1 == 0 then some (0,1,()) else bif x2 == 0 then some (0,1,()) else Option.bind (zfx (x1,x2,())) fun q1=>bif q1.2.1 != 0 then some (0,q1.2.1,()) else bif x0 == 2 then some (x1,0,()) else some (q1.1,0,())
abbrev zvy:Fun:=⟨337,(ch [tI,tU,tU]),(ch [tU,tI]),0,zgM⟩
theorem zGn:Sq zvy:=ms2 (d:=false) (K:=0) Tryz.func337 (by kernel_rfl) (funext fun (x0,x1,x2,())=>by kernel_rfl)
def zg0:(zH × (zH × Unit))→Option (Int × Unit):=fun (x0,x1,()) =>
 Option.bind (yc (x0.1,x1.1,())) fun q0=>Option.bind (zaG (x0.2.1,x1.2.1,())) fun q1=>Option.bind (zdl (zf (zf (List.replicate 2 (0:Int)) 0 q0.1) 1 q1.1,())) fun q2=>some (q2.1,())
abbrev zrJ:Fun:=⟨252,(ch [zy,zy]),(ch [tI]),0,zg0⟩
theorem zCb:Sq zrJ:=ms2 (d:=false) (K:=0) Tryz.func252 (by kernel_rfl) (funext fun (x0,x1,())=>by kernel_rfl)
def zgo:((List zr) × ((Option ((zr × Unit)→Option (Bool × Unit))) × Unit))→Option (Bool × Unit):=fun (x0,x1,()) =>
 Option.bind (jW (x0,some fun z=>zbO (z.1,some x1,()),())) fun q0=>bif q0.1 then some (false,()) else some (true,())
abbrev zlp:Fun:=⟨148,(ch [(.sl zq),(.fn (ch [zq]) (ch [.bool]))]),(ch [.bool]),0,zgo⟩
theorem zu4:Sq zlp:=ms2 (d:=false) (K:=0) Tryz.func148 (by kernel_rfl) (funext fun (x0,x1,())=>by kernel_rfl)
def zdb:((List zH) × ((Option ((zH × Unit)→Option (Bool × Unit))) × Unit))→Option (Bool × Unit):=fun (x0,x1,()) =>
 Option.bind (jX (x0,some fun z=>zbP (z.1,some x1,()),())) fun q0=>bif q0.1 then some (false,()) else some (true,())
abbrev zlq:Fun:=⟨152,(ch [(.sl zy),(.fn (ch [zy]) (ch [.bool]))]),(ch [.bool]),0,zdb⟩
theorem zu5:Sq zlq:=ms2 (d:=false) (K:=0) Tryz.func152 (by kernel_rfl) (funext fun (x0,x1,())=>by kernel_rfl)
def zar:((List Int) × ((Option ((Int × Unit)→Option (Bool × Unit))) × Unit))→Option (Bool × Unit):=fun (x0,x1,()) =>
 Option.bind (qo (x0,some fun z=>zc9 (z.1,some x1,()),())) fun q0=>bif q0.1 then some (false,()) else some (true,())
abbrev znX:Fun:=⟨154,(ch [(.sl tI),(.fn (ch [tI]) (ch [.bool]))]),(ch [.bool]),0,zar⟩
theorem zyB:Sq znX:=ms2 (d:=false) (K:=0) Tryz.func154 (by kernel_rfl) (funext fun (x0,x1,())=>by kernel_rfl)
def ye:(zN × ((Option qL) × ((Option Int) × Unit)))→Option (Bool × Unit):=fun (x0,x1,x2,()) =>
 Option.bind x1 fun q0=>Option.bind (zet (q0.2.1,x0,())) fun q1=>bif q1.1 then Option.bind x1 fun q2=>Option.bind x2 fun q3=>Option.bind (zgK (q2,x0.1,q3,())) fun q4=>bif q4.1 then some (true,()) else some (false,()) else some (false,())
abbrev znY:Fun:=⟨258,(ch [zR,(.ptr qk),(.ptr tI)]),(ch [.bool]),0,ye⟩
theorem zyC:Sq znY:=ms2 (d:=false) (K:=0) Tryz.func258 (by kernel_rfl) (funext fun (x0,x1,x2,())=>by kernel_rfl)
def zhq:((List qg) × ((Option ((qg × Unit)→Option (Bool × Unit))) × Unit))→Option (Bool × Unit):=fun (x0,x1,()) =>
 Option.bind (vl (x0,some fun z=>zcd (z.1,some x1,()),())) fun q0=>bif q0.1 then some (false,()) else some (true,())
abbrev zmD:Fun:=⟨157,(ch [(.sl z4),(.fn (ch [z4]) (ch [.bool]))]),(ch [.bool]),0,zhq⟩
theorem zwN:Sq zmD:=ms2 (d:=false) (K:=0) Tryz.func157 (by kernel_rfl) (funext fun (x0,x1,())=>by kernel_rfl)
def yO:((List qb) × ((Option ((qb × Unit)→Option (Bool × Unit))) × Unit))→Option (Bool × Unit):=fun (x0,x1,()) =>
 Option.bind (jm (x0,some fun z=>zcf (z.1,some x1,()),())) fun q0=>bif q0.1 then some (false,()) else some (true,())
abbrev zmE:Fun:=⟨159,(ch [(.sl zZ),(.fn (ch [zZ]) (ch [.bool]))]),(ch [.bool]),0,yO⟩
theorem zwO:Sq zmE:=ms2 (d:=false) (K:=0) Tryz.func159 (by kernel_rfl) (funext fun (x0,x1,())=>by kernel_rfl)
def ziC:((List zN) × ((Option ((zN × Unit)→Option (Bool × Unit))) × Unit))→Option (Bool × Unit):=fun (x0,x1,()) =>
 Option.bind (vJ (x0,some fun z=>zda (z.1,some x1,()),())) fun q0=>bif q0.1 then some (false,()) else some (true,())
abbrev znZ:Fun:=⟨161,(ch [(.sl zR),(.fn (ch [zR]) (ch [.bool]))]),(ch [.bool]),0,ziC⟩
theorem zyD:Sq znZ:=ms2 (d:=false) (K:=0) Tryz.func161 (by kernel_rfl) (funext fun (x0,x1,())=>by kernel_rfl)
def vu:(zm × ((Option qL) × ((Option Int) × Unit)))→Option (Bool × Unit):=fun (x0,x1,x2,()) =>
 bif x0.1 then Option.bind x1 fun q0=>Option.bind x2 fun q1=>Option.bind (zgK (q0,x0.2.1,q1,())) fun q2=>bif q2.1 then Option.bind x1 fun q3=>Option.bind (qM (q3,x0.2.2.1,())) fun q4=>bif q4.1 then Option.bind x1 fun q5=>Option.bind (qM (q5,x0.2.2.2.1,())) fun q6=>bif q6.1 then some (true,()) else some (false,()) else some (false,()) else some (false,()) else some (true,())
abbrev zmF:Fun:=⟨164,(ch [zu,(.ptr qk),(.ptr tI)]),(ch [.bool]),0,vu⟩
theorem zwP:Sq zmF:=ms2 (d:=false) (K:=0) Tryz.func164 (by kernel_rfl) (funext fun (x0,x1,x2,())=>by kernel_rfl)
def yP:((List zm) × ((Option ((zm × Unit)→Option (Bool × Unit))) × Unit))→Option (Bool × Unit):=fun (x0,x1,()) =>
 Option.bind (jo (x0,some fun z=>zch (z.1,some x1,()),())) fun q0=>bif q0.1 then some (false,()) else some (true,())
abbrev zmG:Fun:=⟨163,(ch [(.sl zu),(.fn (ch [zu]) (ch [.bool]))]),(ch [.bool]),0,yP⟩
theorem zwQ:Sq zmG:=ms2 (d:=false) (K:=0) Tryz.func163 (by kernel_rfl) (funext fun (x0,x1,())=>by kernel_rfl)
def qI:((List zw) × ((Option ((zw × Unit)→Option (Bool × Unit))) × Unit))→Option (Bool × Unit):=fun (x0,x1,()) =>
 Option.bind (qZ (x0,some fun z=>zbQ (z.1,some x1,()),())) fun q0=>bif q0.1 then some (false,()) else some (true,())
abbrev zlr:Fun:=⟨166,(ch [(.sl zz),(.fn (ch [zz]) (ch [.bool]))]),(ch [.bool]),0,qI⟩
theorem zu6:Sq zlr:=ms2 (d:=false) (K:=0) Tryz.func166 (by kernel_rfl) (funext fun (x0,x1,())=>by kernel_rfl)
abbrev yF:Type:=(Option zcc) × Int × Int × List Int
abbrev zsu:yF→St:=fun (v0,v12,v13,o0)=>St.mk [(0,.dat (.ptr vV) v0),(3,.ow 0),(12,.dat tI v12),(13,.dat tI v13)] [.row tI o0 false]
def yG (k0:yF→Option ((List Int) × Unit)):yF→Option ((List Int) × Unit):=fun (v0,v12,v13,o0) =>
 bif decide (v13 < v12) then Option.bind (yd (v0,v13,())) fun q2=>bif q2.1 then bif decide (List.length o0 + List.length (zf (List.replicate 1 (0:Int)) 0 v13) ≤ lim) then k0 (v0,v12,wI (v13 + 1),o0 ++ zf (List.replicate 1 (0:Int)) 0 v13) else none else k0 (v0,v12,wI (v13 + 1),o0) else some (o0,())
abbrev zjl (K:Nat):yF→Option ((List Int) × Unit):=zk yG K
theorem zsv (K:Nat):∀ n,evV Es2 K Tryz.f171 0 (ch [(.sl tI)]) [1,1,1,0,1,0] [] zsu n = zk yG n:=zt fun n0 (v0,v12,v13,o0)=>by kernel_rfl
def zgp (L0:yF→Option ((List Int) × Unit)):((Option zcc) × Unit)→Option ((List Int) × Unit):=fun (x0,()) =>
 Option.bind (zec (x0,())) fun q0=>bif q0.1 then Option.bind x0 fun q1=>L0 (x0,((List.length q1.1):Int),0,[]) else some ([],())
def zdc:((Option zcc) × Unit)→Option ((List Int) × Unit):=zgp (zjl K0)
abbrev zls:Fun:=⟨171,(ch [(.ptr vV)]),(ch [(.sl tI)]),0,zdc⟩
theorem zu7:Sq zls:=ml2 (d:=false) (S:=fun K=>zgp (zjl K)) Tryz.func171 (by kernel_rfl) (fun K=>tr1 (T:=zgp) (zsv K K) fun (x0,())=>by kernel_rfl) rfl
def zlD:((List zr) × Unit)→Option ((Option zd3) × Unit):=fun (x0,()) =>
 Option.bind (zho (x0,some zie,())) fun q0=>some (q0.1,())
abbrev zyE:Fun:=⟨365,(ch [(.sl zq)]),(ch [(.ptr yZ)]),0,zlD⟩
theorem zIg:Sq zyE:=ms2 (d:=false) (K:=0) Tryz.func365 (by kernel_rfl) (funext fun (x0,())=>by kernel_rfl)
end
end Go.Proofs.YtkcakhbkoeimdaaGreatDoor
end
section
namespace Go.Proofs.YtkcakhbkoeimdaaGreatDoor
open Go.Ev
noncomputable section
abbrev yH:Type:=(Option zd3) × Int × Int × List Int
abbrev zsw:yH→St:=fun (v0,v12,v13,o0)=>St.mk [(0,.dat (.ptr yZ) v0),(3,.ow 0),(12,.dat tI v12),(13,.dat tI v13)] [.row tI o0 false]
def yI (k0:yH→Option ((List Int) × Unit)):yH→Option ((List Int) × Unit):=fun (v0,v12,v13,o0) =>
 bif decide (v13 < v12) then Option.bind (ze2 (v0,v13,())) fun q2=>bif q2.1 then bif decide (List.length o0 + List.length (zf (List.replicate 1 (0:Int)) 0 v13) ≤ lim) then k0 (v0,v12,wI (v13 + 1),o0 ++ zf (List.replicate 1 (0:Int)) 0 v13) else none else k0 (v0,v12,wI (v13 + 1),o0) else some (o0,())
abbrev zjm (K:Nat):yH→Option ((List Int) × Unit):=zk yI K
theorem zsx (K:Nat):∀ n,evV Es2 K Tryz.f366 0 (ch [(.sl tI)]) [1,1,1,0,1,0] [] zsw n = zk yI n:=zt fun n0 (v0,v12,v13,o0)=>by kernel_rfl
def zgq (L0:yH→Option ((List Int) × Unit)):((Option zd3) × Unit)→Option ((List Int) × Unit):=fun (x0,()) =>
 Option.bind (zed (x0,())) fun q0=>bif q0.1 then Option.bind x0 fun q1=>L0 (x0,((List.length q1.1):Int),0,[]) else some ([],())
def zgr:((Option zd3) × Unit)→Option ((List Int) × Unit):=zgq (zjm K0)
abbrev zlt:Fun:=⟨366,(ch [(.ptr yZ)]),(ch [(.sl tI)]),0,zgr⟩
theorem zu8:Sq zlt:=ml2 (d:=false) (S:=fun K=>zgq (zjm K)) Tryz.func366 (by kernel_rfl) (fun K=>tr1 (T:=zgq) (zsx K K) fun (x0,())=>by kernel_rfl) rfl
def zj6:((List zw) × Unit)→Option ((Option zcc) × Unit):=fun (x0,()) =>
 Option.bind (yM (x0,some zgV,())) fun q0=>some (q0.1,())
abbrev zvz:Fun:=⟨348,(ch [(.sl zz)]),(ch [(.ptr vV)]),0,zj6⟩
theorem zGo:Sq zvz:=ms2 (d:=false) (K:=0) Tryz.func348 (by kernel_rfl) (funext fun (x0,())=>by kernel_rfl)
abbrev zbz:Type:=Int × (Option ((zi × Unit)→Option ((List Int) × Unit))) × (List zi) × Int × Int × List Int
abbrev zwR:zbz→St:=fun (v1,v2,v12,v13,v14,o0)=>St.mk [(1,.dat tI v1),(2,.dat (.fn (.pair zp .unit) (.pair (.arr 4 tU) .unit)) v2),(8,.ow 0),(12,.dat (.sl zp) v12),(13,.dat tI v13),(14,.dat tI v14)] [.row tU o0 false]
def zbA (k0:zbz→Option (Int × (Int × Unit))):zbz→Option (Int × (Int × Unit)):=fun (v1,v2,v12,v13,v14,o0) =>
 bif decide (v14 < v13) then inR v14 ((List.length v12):Int) (Option.bind v2 fun q0=>Option.bind (q0 (ix zg v12 v14,())) fun q1=>inR v1 (↑4:Int) (bif decide (List.length o0 + List.length (zf (List.replicate 1 (0:Int)) 0 (ix (0:Int) q1.1 v1)) ≤ lim) then k0 (v1,v2,v12,v13,wI (v14 + 1),o0 ++ zf (List.replicate 1 (0:Int)) 0 (ix (0:Int) q1.1 v1)) else none)) else Option.bind (zfU (o0,())) fun q2=>some (q2.1,q2.2.1,())
abbrev zmH (K:Nat):zbz→Option (Int × (Int × Unit)):=zk zbA K
theorem zwS (K:Nat):∀ n,evV Es2 K Tryz.f271 0 (ch [tU,tI]) [1,1,0,1,0] [] zwR n = zk zbA n:=zt fun n0 (v1,v2,v12,v13,v14,o0)=>by kernel_rfl
def zjH (L0:zbz→Option (Int × (Int × Unit))):(zd × (Int × ((Option ((zi × Unit)→Option ((List Int) × Unit))) × Unit)))→Option (Int × (Int × Unit)):=fun (x0,x1,x2,()) =>
 L0 (x1,x2,x0.2.1,((List.length x0.2.1):Int),0,[])
def zfW:(zd × (Int × ((Option ((zi × Unit)→Option ((List Int) × Unit))) × Unit)))→Option (Int × Int × Unit):=zjH (zmH K0)
abbrev zpT:Fun:=⟨271,(ch [zx,tI,(.fn (ch [zp]) (ch [(.arr 4 tU)]))]),(ch [tU,tI]),0,zfW⟩
theorem zAq:Sq zpT:=ml2 (d:=false) (S:=fun K=>zjH (zmH K)) Tryz.func271 (by kernel_rfl) (fun K=>tr1 (T:=zjH) (zwS K K) fun (x0,x1,x2,())=>by kernel_rfl) rfl
def ziD:(zd × (zd × Unit))→Option (Bool × Unit):=fun (x0,x1,()) =>
 bif x0.1 == x1.1 then Option.bind (zef (x0.2.1,x1.2.1,some yl,())) fun q0=>bif q0.1 then Option.bind (zeW (x0.2.2.1,x1.2.2.1,some zba,())) fun q1=>bif q1.1 then Option.bind (zhl (x0.2.2.2.1,x1.2.2.2.1,())) fun q2=>bif q2.1 then Option.bind (zhn (x0.2.2.2.2.1,x1.2.2.2.2.1,())) fun q3=>bif q3.1 then Option.bind (zba (x0.2.2.2.2.2.1,x1.2.2.2.2.2.1,())) fun q4=>bif q4.1 then some (true,()) else some (false,()) else some (false,()) else some (false,()) else some (false,()) else some (false,()) else some (false,())
abbrev ztH:Fun:=⟨90,(ch [zx,zx]),(ch [.bool]),0,ziD⟩
theorem zEv:Sq ztH:=ms2 (d:=false) (K:=0) Tryz.func90 (by kernel_rfl) (funext fun (x0,x1,())=>by kernel_rfl)
def zem:((List zm) × Unit)→Option ((Option yp) × Unit):=fun (x0,()) =>
 Option.bind (ziB (x0,some qV,())) fun q0=>some (q0.1,())
abbrev zyF:Fun:=⟨95,(ch [(.sl zu)]),(ch [(.ptr j3)]),0,zem⟩
theorem zIh:Sq zyF:=ms2 (d:=false) (K:=0) Tryz.func95 (by kernel_rfl) (funext fun (x0,())=>by kernel_rfl)
def zfX:((Option yp) × (zm × Unit))→Option ((List zm) × (Int × (Int × Unit))):=fun (x0,x1,()) =>
 Option.bind (zek (x0,())) fun q0=>bif q0.2.1 != 0 then some ([],0,q0.2.1,()) else Option.bind (zdx (x0,q0.1,x1,())) fun q1=>some (q1.1,q0.1,q1.2.1,())
abbrev zpU:Fun:=⟨96,(ch [(.ptr j3),zu]),(ch [(.sl zu),tI,tI]),0,zfX⟩
theorem zAr:Sq zpU:=ms2 (d:=false) (K:=0) Tryz.func96 (by kernel_rfl) (funext fun (x0,x1,())=>by kernel_rfl)
abbrev zah:Type:=(Option yp) × Int × Int × List Int
abbrev ztI:zah→St:=fun (v0,v12,v13,o0)=>St.mk [(0,.dat (.ptr j3) v0),(3,.ow 0),(12,.dat tI v12),(13,.dat tI v13)] [.row tI o0 false]
def zai (k0:zah→Option ((List Int) × Unit)):zah→Option ((List Int) × Unit):=fun (v0,v12,v13,o0) =>
 bif decide (v13 < v12) then Option.bind (yN (v0,v13,())) fun q2=>bif q2.1 then bif decide (List.length o0 + List.length (zf (List.replicate 1 (0:Int)) 0 v13) ≤ lim) then k0 (v0,v12,wI (v13 + 1),o0 ++ zf (List.replicate 1 (0:Int)) 0 v13) else none else k0 (v0,v12,wI (v13 + 1),o0) else some (o0,())
abbrev zkF (K:Nat):zah→Option ((List Int) × Unit):=zk zai K
theorem ztJ (K:Nat):∀ n,evV Es2 K Tryz.f105 1 (ch [(.sl tI)]) [1,1,1,0,1,0] [] ztI n = zk zai n:=zt fun n0 (v0,v12,v13,o0)=>by kernel_rfl
def zhr (L0:zah→Option ((List Int) × Unit)):((Option yp) × Unit)→Option ((List Int) × Unit):=fun (x0,()) =>
 Option.bind (yb (x0,())) fun q0=>bif q0.1 then Option.bind x0 fun q1=>L0 (x0,((List.length q1.1):Int),0,[]) else some ([],())
def zhs:((Option yp) × Unit)→Option ((List Int) × Unit):=zhr (zkF K0)
abbrev zmI:Fun:=⟨105,(ch [(.ptr j3)]),(ch [(.sl tI)]),1,zhs⟩
theorem zwT:Sq zmI:=ml2 (d:=false) (S:=fun K=>zhr (zkF K)) Tryz.func105 (by kernel_rfl) (fun K=>tr1 (T:=zhr) (ztJ K K) fun (x0,())=>by kernel_rfl) rfl
abbrev L3:List Fun:=zvw :: zrI :: zyA :: zpQ :: zpR :: zlo :: ztG :: zvx :: zvy :: zrJ :: zlp :: zlq :: znX :: znY :: zmD :: zmE :: znZ :: zmF :: zmG :: zlr :: zls :: zyE :: zlt :: zvz :: zpT :: ztH :: zyF :: zpU :: zmI :: L2
theorem h3:Sds Tryz.prog E0 L3:=⟨zGl,zCa,zIf,zAm,zAn,zu3,zEu,zGm,zGn,zCb,zu4,zu5,zyB,zyC,zwN,zwO,zyD,zwP,zwQ,zu6,zu7,zIg,zu8,zGo,zAq,zEv,zIh,zAr,zwT,h2⟩
theorem ms3 {d:Bool} {F:Fun} {f:Go.Func} {K:Nat} (hf:Tryz.prog.funcs[F.id]? = some f) (ho:jC f = true) (h:evF (En E0 d L3) K f F.md F.a F.r = F.spec):Sd Tryz.prog E0 F:=mkS h3 hf ho h
theorem ml3 {d:Bool} {F:Fun} {f:Go.Func} {S:Nat→F.a.I→Option F.r.I} (hf:Tryz.prog.funcs[F.id]? = some f) (ho:jC f = true) (h:∀ K,evF (En E0 d L3) K f F.md F.a F.r = S K) (e:S K0 = F.spec):Sd Tryz.prog E0 F:=mkS h3 hf ho ((h K0).trans e)
abbrev Es3:Env:=En E0 false L3
abbrev zbB:Type:=Int × za
abbrev zwU:zbB→St:=fun (v4,o0)=>St.mk [(1,.bp 0 []),(4,.dat tI v4)] [.bx (.dat zl o0) false]
def zen (k0:zbB→Option (Bool × Unit)):zbB→Option (Bool × Unit):=fun (v4,o0) =>
 bif decide (v4 < ((List.length o0.1):Int)) then inR (wI (v4 - 1)) ((List.length o0.1):Int) (inR v4 ((List.length o0.1):Int) (Option.bind (zj4 (List.getD o0.1 (Int.toNat (wI (v4 - 1))) (ze zn),ix zA o0.1 v4,())) fun q2=>bif decide (q2.1 ≥ 0) then some (false,()) else k0 (wI (v4 + 1),o0))) else some (true,())
abbrev zht (K:Nat):zbB→Option (Bool × Unit):=zk zen K
theorem zwV (K:Nat):∀ n,evV Es3 K Tryz.f214 0 (ch [.bool]) [1,1,1,0,1,0] [] zwU n = zk zen n:=zt fun n0 (v4,o0)=>by kernel_rfl
def zfY (L0:zbB→Option (Bool × Unit)):(za × Unit)→Option (Bool × Unit):=fun (x0,()) =>
 Option.bind (ql (((List.length x0.1):Int),1,8,())) fun q0=>bif q0.1 then bif decide (0 < ((List.length x0.1):Int)) then bif !eqI zn (ix zA x0.1 0) (ze zn) then some (false,()) else Option.bind (yu (x0.1,some zeh,())) fun q1=>bif q1.1 then some (false,()) else L0 (1,x0) else none else some (false,())
def vM:(za × Unit)→Option (Bool × Unit):=zfY (zht K0)
abbrev zpV:Fun:=⟨214,(ch [zl]),(ch [.bool]),0,vM⟩
theorem zAs:Sq zpV:=ml3 (d:=false) (S:=fun K=>zfY (zht K)) Tryz.func214 (by kernel_rfl) (fun K=>tr1 (T:=zfY) (zwV K K) fun (x0,())=>by kernel_rfl) rfl
def zbC:(ByteArray × Unit)→Option (Bool × Unit):=fun (x0,()) =>
 bif decide ((↑(ByteArray.size x0):Int) < 1) then some (false,()) else bif decide ((↑(ByteArray.size x0):Int) > 12) then some (false,()) else bif decide (0 < (↑(ByteArray.size x0):Int)) then Option.bind (zfl ((↑(UInt8.toNat (List.getD (Array.toList (ByteArray.data x0)) (Int.toNat 0) 0)):Int),())) fun q0=>bif q0.1 then Option.bind (zlC (x0,some zfS,())) fun q1=>bif q1.1 then some (true,()) else some (false,()) else some (false,()) else none
abbrev ztK:Fun:=⟨240,(ch [.str]),(ch [.bool]),0,zbC⟩
theorem zEw:Sq ztK:=ms3 (d:=false) (K:=0) Tryz.func240 (by kernel_rfl) (funext fun (x0,())=>by kernel_rfl)
def zcZ:(ByteArray × Unit)→Option (Bool × Unit):=fun (x0,()) =>
 bif decide ((↑(ByteArray.size x0):Int) ≥ 1) then bif decide ((↑(ByteArray.size x0):Int) ≤ 40) then Option.bind (zlC (x0,some zh9,())) fun q0=>bif q0.1 then Option.bind (zfT (x0,ByteArray.mk #[32],())) fun q1=>bif ByteArray.toList q1.1 == ByteArray.toList x0 then some (true,()) else some (false,()) else some (false,()) else some (false,()) else some (false,())
abbrev zvA:Fun:=⟨67,(ch [.str]),(ch [.bool]),0,zcZ⟩
theorem zGp:Sq zvA:=ms3 (d:=false) (K:=0) Tryz.func67 (by kernel_rfl) (funext fun (x0,())=>by kernel_rfl)
def ze3:(zw × Unit)→Option (Bool × Unit):=fun (x0,()) =>
 bif x0.1 then Option.bind (zj5 (x0,())) fun q0=>bif q0.1 then some (false,()) else some (true,()) else bif !eqI zz x0 (ze zz) then some (true,()) else some (false,())
abbrev zn0:Fun:=⟨246,(ch [zz]),(ch [.bool]),0,ze3⟩
theorem zyG:Sq zn0:=ms3 (d:=false) (K:=0) Tryz.func246 (by kernel_rfl) (funext fun (x0,())=>by kernel_rfl)
def zlE:(zr × Unit)→Option (Bool × Unit):=fun (x0,()) =>
 Option.bind (zgM (x0.2.2.2.1,x0.2.2.2.2.2.2.2.1,x0.2.2.2.2.2.2.1,())) fun q0=>bif q0.2.1 == 0 then bif q0.1 == x0.2.2.2.2.2.2.2.2.1 then Option.bind (zkt (x0.2.1,())) fun q1=>bif q1.1 then Option.bind (zkt (x0.2.2.1,())) fun q2=>bif q2.1 then Option.bind (jg (x0.2.2.2.2.1,())) fun q3=>bif q3.1 then Option.bind (jg (x0.2.2.2.2.2.1,())) fun q4=>bif q4.1 then bif x0.2.2.2.2.1 != x0.2.2.2.2.2.1 then bif decide (x0.2.2.2.2.2.2.2.2.2.1 ≥ 0) then some (true,()) else some (false,()) else some (false,()) else some (false,()) else some (false,()) else some (false,()) else some (false,()) else some (false,()) else some (false,())
abbrev zyH:Fun:=⟨250,(ch [zq]),(ch [.bool]),0,zlE⟩
theorem zIi:Sq zyH:=ms3 (d:=false) (K:=0) Tryz.func250 (by kernel_rfl) (funext fun (x0,())=>by kernel_rfl)
def zj7:(zH × Unit)→Option (Bool × Unit):=fun (x0,()) =>
 bif decide (x0.1 > 4611686018427387904) then some (false,()) else Option.bind (zd8 (x0.2.1,())) fun q0=>bif q0.1 then Option.bind (zd8 (x0.2.2.1,())) fun q1=>bif q1.1 then Option.bind (zd8 (x0.2.2.2.1,())) fun q2=>bif q2.1 then Option.bind (zd8 (x0.2.2.2.2.2.2.2.2.2.1,())) fun q3=>bif q3.1 then bif x0.2.2.2.2.1 == 3 then bif eqI zy x0 (x0.1,x0.2.1,x0.2.2.1,x0.2.2.2.1,x0.2.2.2.2.1,(ze zy).2.2.2.2.2.1,(ze zy).2.2.2.2.2.2.1,(ze zy).2.2.2.2.2.2.2.1,(ze zy).2.2.2.2.2.2.2.2.1,x0.2.2.2.2.2.2.2.2.2.1,(ze zy).2.2.2.2.2.2.2.2.2.2) then some (true,()) else some (false,()) else Option.bind (zgM (x0.2.2.2.2.1,x0.2.2.2.2.2.2.2.1,x0.2.2.2.2.2.2.2.2.1,())) fun q4=>bif q4.2.1 == 0 then bif x0.2.2.2.2.2.2.2.2.2.1 == 0 then bif x0.2.2.2.2.2.1 != x0.2.2.2.2.2.2.1 then Option.bind (jg (x0.2.2.2.2.2.1,())) fun q5=>bif q5.1 then Option.bind (jg (x0.2.2.2.2.2.2.1,())) fun q6=>bif q6.1 then some (true,()) else some (false,()) else some (false,()) else some (false,()) else some (false,()) else some (false,()) else some (false,()) else some (false,()) else some (false,()) else some (false,())
abbrev zvB:Fun:=⟨251,(ch [zy]),(ch [.bool]),0,zj7⟩
theorem zGq:Sq zvB:=ms3 (d:=false) (K:=0) Tryz.func251 (by kernel_rfl) (funext fun (x0,())=>by kernel_rfl)
def zkX:(qL × (Int × Unit))→Option ((Option ((zN × Unit)→Option (Bool × Unit))) × Unit):=fun (x0,x1,()) =>
 some (some fun z=>ye (z.1,some x0,some x1,()),())
abbrev zrK:Fun:=⟨156,(ch [qk,tI]),(ch [(.fn (ch [zR]) (ch [.bool]))]),0,zkX⟩
theorem zCc:Sq zrK:=ms3 (d:=false) (K:=0) Tryz.func156 (by kernel_rfl) (funext fun (x0,x1,())=>by kernel_rfl)
abbrev vv:Type:=(List zi) × Int × Int × qL
abbrev zwW:vv→St:=fun (v10,v11,v12,o0)=>St.mk [(1,.bp 0 []),(10,.dat (.sl zp) v10),(11,.dat tI v11),(12,.dat tI v12)] [.bx (.dat qk o0) true]
abbrev zeo:Type:=(List zi) × Int × Int × qL
abbrev zwX:zeo→St:=fun (v10,v11,v12,o0)=>St.mk [(1,.bp 0 []),(10,.dat (.sl zp) v10),(11,.dat tI v11),(12,.dat tI v12)] [.bx (.dat qk o0) false]
def qP (k1:vv→Option (Bool × Unit)):vv→Option (Bool × Unit):=fun (v10,v11,v12,o0) =>
 bif decide (v12 < v11) then inR v12 ((List.length v10):Int) (Option.bind (yO ((ix zg v10 v12).2.2.1,some fun z=>zbv (z.1,some o0,()),())) fun q3=>bif q3.1 then Option.bind (yP ((ix zg v10 v12).2.2.2.1,some fun z=>vu (z.1,some o0,some v12,()),())) fun q4=>bif q4.1 then Option.bind (qI ((ix zg v10 v12).2.2.2.2.1,some fun z=>qG (z.1,some o0,()),())) fun q5=>bif q5.1 then k1 (v10,v11,wI (v12 + 1),o0) else some (false,()) else Option.bind (qI ((ix zg v10 v12).2.2.2.2.1,some fun z=>qG (z.1,some o0,()),())) fun q6=>bif q6.1 then some (false,()) else some (false,()) else Option.bind (yP ((ix zg v10 v12).2.2.2.1,some fun z=>vu (z.1,some o0,some v12,()),())) fun q7=>bif q7.1 then Option.bind (qI ((ix zg v10 v12).2.2.2.2.1,some fun z=>qG (z.1,some o0,()),())) fun q8=>bif q8.1 then some (false,()) else some (false,()) else Option.bind (qI ((ix zg v10 v12).2.2.2.2.1,some fun z=>qG (z.1,some o0,()),())) fun q9=>bif q9.1 then some (false,()) else some (false,())) else some (true,())
theorem zwY (K:Nat):∀ n,evV Es3 K Tryz.f86 0 (ch [.bool]) [1,0,1,0] [] zwW n = zk qP n:=zt fun n1 (v10,v11,v12,o0)=>by kernel_rfl
def zmJ (k1:vv→Option (Bool × Unit)):zeo→Option (Bool × Unit):=fun (v10,v11,v12,o0) =>
 bif decide (v12 < v11) then inR v12 ((List.length v10):Int) (Option.bind (yO ((ix zg v10 v12).2.2.1,some fun z=>zbv (z.1,some o0,()),())) fun q0=>bif q0.1 then Option.bind (yP ((ix zg v10 v12).2.2.2.1,some fun z=>vu (z.1,some o0,some v12,()),())) fun q1=>bif q1.1 then Option.bind (qI ((ix zg v10 v12).2.2.2.2.1,some fun z=>qG (z.1,some o0,()),())) fun q2=>bif q2.1 then k1 (v10,v11,wI (v12 + 1),o0) else some (false,()) else Option.bind (qI ((ix zg v10 v12).2.2.2.2.1,some fun z=>qG (z.1,some o0,()),())) fun q10=>bif q10.1 then some (false,()) else some (false,()) else Option.bind (yP ((ix zg v10 v12).2.2.2.1,some fun z=>vu (z.1,some o0,some v12,()),())) fun q11=>bif q11.1 then Option.bind (qI ((ix zg v10 v12).2.2.2.2.1,some fun z=>qG (z.1,some o0,()),())) fun q12=>bif q12.1 then some (false,()) else some (false,()) else Option.bind (qI ((ix zg v10 v12).2.2.2.2.1,some fun z=>qG (z.1,some o0,()),())) fun q13=>bif q13.1 then some (false,()) else some (false,())) else some (true,())
abbrev zmK (K:Nat):zeo→Option (Bool × Unit):=zx3 zmJ qP K
theorem zwZ (K:Nat):∀ n,evV Es3 K Tryz.f86 0 (ch [.bool]) [1,0,1,0] [] zwX n = zx3 zmJ qP n:=zJT (zwY K) fun n0 (v10,v11,v12,o0)=>by kernel_rfl
def zjI (L0:zeo→Option (Bool × Unit)):(qL × Unit)→Option (Bool × Unit):=fun (x0,()) =>
 L0 (x0.2.1.2.1,((List.length x0.2.1.2.1):Int),0,x0)
def zbc:(qL × Unit)→Option (Bool × Unit):=zjI (zmK K0)
abbrev zpW:Fun:=⟨86,(ch [qk]),(ch [.bool]),0,zbc⟩
theorem zAt:Sq zpW:=ml3 (d:=false) (S:=fun K=>zjI (zmK K)) Tryz.func86 (by kernel_rfl) (fun K=>tr1 (T:=zjI) (zwZ K K) fun (x0,())=>by kernel_rfl) rfl
abbrev zcp:Type:=(List zi) × Int × Int × (List Int) × Int × Int × zi
abbrev zn1:zcp→St:=fun (v14,v15,v16,v55,v56,v57,o0)=>St.mk [(4,.bp 0 []),(14,.dat (.sl zp) v14),(15,.dat tI v15),(16,.dat tI v16),(55,.dat (.sl tI) v55),(56,.dat tI v56),(57,.dat tI v57)] [.bx (.dat zp o0) false]
abbrev zcq:Type:=(Option zcc) × (List zi) × Int × Int × (List qb) × Int × Int × zi
abbrev zn2:zcq→St:=fun (v5,v14,v15,v16,v24,v25,v26,o0)=>St.mk [(4,.bp 0 []),(5,.dat (.ptr vV) v5),(14,.dat (.sl zp) v14),(15,.dat tI v15),(16,.dat tI v16),(24,.dat (.sl zZ) v24),(25,.dat tI v25),(26,.dat tI v26)] [.bx (.dat zp o0) false]
abbrev jA:Type:=(List zi) × Int × Int
abbrev zas:jA→St:=fun (v14,v15,v16)=>St.mk [(14,.dat (.sl zp) v14),(15,.dat tI v15),(16,.dat tI v16)] []
def zcr (k0:jA→Option (Bool × Unit)) (k2:zcp→Option (Bool × Unit)):zcp→Option (Bool × Unit):=fun (v14,v15,v16,v55,v56,v57,o0) =>
 bif decide (v57 < v56) then inR v57 ((List.length v55):Int) (inR (ix (0:Int) v55 v57) ((List.length o0.2.2.2.2.1):Int) (inR (ix (0:Int) v55 v57) ((List.length o0.2.2.2.2.1):Int) (bif decide ((List.getD o0.2.2.2.2.1 (Int.toNat (ix (0:Int) v55 v57)) (ze zz)).2.2.2.1.2.2.1 ≥ ((List.length o0.2.2.1):Int)) then some (false,()) else bif decide ((List.getD o0.2.2.2.2.1 (Int.toNat (ix (0:Int) v55 v57)) (ze zz)).2.2.2.2.1.2.2.1 ≥ ((List.length o0.2.2.1):Int)) then some (false,()) else bif decide ((List.getD o0.2.2.2.2.1 (Int.toNat (ix (0:Int) v55 v57)) (ze zz)).2.2.2.1.2.2.1 ≥ 0) then inR (List.getD o0.2.2.2.2.1 (Int.toNat (ix (0:Int) v55 v57)) (ze zz)).2.2.2.1.2.2.1 ((List.length o0.2.2.1):Int) (bif (List.getD o0.2.2.1 (Int.toNat (List.getD o0.2.2.2.2.1 (Int.toNat (ix (0:Int) v55 v57)) (ze zz)).2.2.2.1.2.2.1) (ze zZ)).2.2.1 != 3 then some (false,()) else inR (List.getD o0.2.2.2.2.1 (Int.toNat (ix (0:Int) v55 v57)) (ze zz)).2.2.2.1.2.2.1 ((List.length o0.2.2.1):Int) (bif (List.getD o0.2.2.1 (Int.toNat (List.getD o0.2.2.2.2.1 (Int.toNat (ix (0:Int) v55 v57)) (ze zz)).2.2.2.1.2.2.1) (ze zZ)).2.2.2.1 != ix (0:Int) v55 v57 then some (false,()) else k2 (v14,v15,v16,v55,v56,wI (v57 + 1),o0))) else k2 (v14,v15,v16,v55,v56,wI (v57 + 1),o0)))) else k0 (v14,v15,wI (v16 + 1))
abbrev zcs (K:Nat) (k0:jA→Option (Bool × Unit)):zcp→Option (Bool × Unit):=zk (fun k2=>zcr k0 k2) K
theorem zyI (K:Nat) (n0:Nat):∀ n,evV Es3 K Tryz.f87 0 (ch [.bool]) [1,0,1,0,0,1,1,0,0,1,1,1,1,0] [n0] zn1 n = zk (fun k2=>zcr (evV Es3 K Tryz.f87 0 (ch [.bool]) [1,0,1,0] [] zas n0) k2) n:=zt fun n2 (v14,v15,v16,v55,v56,v57,o0)=>by kernel_rfl
def zat (L2:zcp→Option (Bool × Unit)) (k0:jA→Option (Bool × Unit)) (k1:zcq→Option (Bool × Unit)):zcq→Option (Bool × Unit):=fun (v5,v14,v15,v16,v24,v25,v26,o0) =>
 bif decide (v26 < v25) then inR v26 ((List.length v24):Int) (bif (ix zd1 v24 v26).2.2.1 == 3 then Option.bind (yd (v5,(ix zd1 v24 v26).2.2.2.1,())) fun q1=>bif q1.1 then inR (ix zd1 v24 v26).2.2.2.1 ((List.length o0.2.2.2.2.1):Int) (bif (List.getD o0.2.2.2.2.1 (Int.toNat (ix zd1 v24 v26).2.2.2.1) (ze zz)).2.2.2.1.2.2.1 != v26 then some (false,()) else k1 (v5,v14,v15,v16,v24,v25,wI (v26 + 1),o0)) else some (false,()) else k1 (v5,v14,v15,v16,v24,v25,wI (v26 + 1),o0)) else Option.bind (zdc (v5,())) fun q2=>L2 (v14,v15,v16,q2.1,((List.length q2.1):Int),0,o0)
abbrev zct (K:Nat) (k0:jA→Option (Bool × Unit)):zcq→Option (Bool × Unit):=zk (fun k1=>zat (zcs K k0) k0 k1) K
theorem zyJ (K:Nat) (n0:Nat):∀ n,evV Es3 K Tryz.f87 0 (ch [.bool]) [1,0,1,0,0,1,1,0,0,1,1,0,1,0] [n0] zn2 n = zk (fun k1=>zat (zcs K (evV Es3 K Tryz.f87 0 (ch [.bool]) [1,0,1,0] [] zas n0)) (evV Es3 K Tryz.f87 0 (ch [.bool]) [1,0,1,0] [] zas n0) k1) n:=zhC (B:=fun L2 k1=>zat L2 (evV Es3 K Tryz.f87 0 (ch [.bool]) [1,0,1,0] [] zas n0) k1) (V1:=fun n1=>evV Es3 K Tryz.f87 0 (ch [.bool]) [1,0,1,0,0,1,1,0,0,1,1,1,1,0] [n0] zn1 K) (W1:=fun k1=>(zcs K (evV Es3 K Tryz.f87 0 (ch [.bool]) [1,0,1,0] [] zas n0))) (fun n1=>zyI K n0 K) fun n1 (v5,v14,v15,v16,v24,v25,v26,o0)=>by kernel_rfl
def zau (L1:zcq→Option (Bool × Unit)) (k0:jA→Option (Bool × Unit)):jA→Option (Bool × Unit):=fun (v14,v15,v16) =>
 bif decide (v16 < v15) then inR v16 ((List.length v14):Int) (Option.bind (yM ((ix zg v14 v16).2.2.2.2.1,some vY,())) fun q0=>L1 (q0.1,v14,v15,v16,(ix zg v14 v16).2.2.1,((List.length (ix zg v14 v16).2.2.1):Int),0,ix zg v14 v16)) else some (true,())
abbrev zn3 (K:Nat):jA→Option (Bool × Unit):=zk (fun k0=>zau (zct K k0) k0) K
theorem zyK (K:Nat):∀ n,evV Es3 K Tryz.f87 0 (ch [.bool]) [1,0,1,0] [] zas n = zk (fun k0=>zau (zct K k0) k0) n:=zhC (B:=fun L1 k0=>zau L1 k0) (V1:=fun n0=>evV Es3 K Tryz.f87 0 (ch [.bool]) [1,0,1,0,0,1,1,0,0,1,1,0,1,0] [n0] zn2 K) (W1:=fun k0=>(zct K k0)) (fun n0=>zyJ K n0 K) fun n0 (v14,v15,v16)=>by kernel_rfl
def zkY (L0:jA→Option (Bool × Unit)):(qL × Unit)→Option (Bool × Unit):=fun (x0,()) =>
 L0 (x0.2.1.2.1,((List.length x0.2.1.2.1):Int),0)
def zeu:(qL × Unit)→Option (Bool × Unit):=zkY (zn3 K0)
abbrev zrL:Fun:=⟨87,(ch [qk]),(ch [.bool]),0,zeu⟩
theorem zCd:Sq zrL:=ml3 (d:=false) (S:=fun K=>zkY (zn3 K)) Tryz.func87 (by kernel_rfl) (fun K=>tr1 (T:=zkY) (zyK K K) fun (x0,())=>by kernel_rfl) rfl
def ziE:((List zr) × Unit)→Option ((List Int) × Unit):=fun (x0,()) =>
 Option.bind (zlD (x0,())) fun q0=>Option.bind (zgr (q0.1,())) fun q1=>some (q1.1,())
abbrev ztL:Fun:=⟨346,(ch [(.sl zq)]),(ch [(.sl tI)]),0,ziE⟩
theorem zEx:Sq ztL:=ms3 (d:=false) (K:=0) Tryz.func346 (by kernel_rfl) (funext fun (x0,())=>by kernel_rfl)
abbrev zdA:Type:=(List zw) × Int × (List Int) × Int × Int × List Int
abbrev zAu:zdA→St:=fun (v0,v1,v14,v15,v16,o0)=>St.mk [(0,.dat (.sl zz) v0),(1,.dat tI v1),(6,.ow 0),(14,.dat (.sl tI) v14),(15,.dat tI v15),(16,.dat tI v16)] [.row tU o0 false]
def zdB (k0:zdA→Option (Int × (Int × Unit))):zdA→Option (Int × (Int × Unit)):=fun (v0,v1,v14,v15,v16,o0) =>
 bif decide (v16 < v15) then inR v16 ((List.length v14):Int) (inR (ix (0:Int) v14 v16) ((List.length v0):Int) (bif (List.getD v0 (Int.toNat (ix (0:Int) v14 v16)) (ze zz)).2.2.2.1.1 == v1 then inR (ix (0:Int) v14 v16) ((List.length v0):Int) (bif decide (List.length o0 + List.length (zf (List.replicate 1 (0:Int)) 0 (List.getD v0 (Int.toNat (ix (0:Int) v14 v16)) (ze zz)).2.2.2.1.2.1) ≤ lim) then k0 (v0,v1,v14,v15,wI (v16 + 1),o0 ++ zf (List.replicate 1 (0:Int)) 0 (List.getD v0 (Int.toNat (ix (0:Int) v14 v16)) (ze zz)).2.2.2.1.2.1) else none) else k0 (v0,v1,v14,v15,wI (v16 + 1),o0))) else Option.bind (zfU (o0,())) fun q3=>some (q3.1,q3.2.1,())
abbrev zpX (K:Nat):zdA→Option (Int × (Int × Unit)):=zk zdB K
theorem zAv (K:Nat):∀ n,evV Es3 K Tryz.f269 0 (ch [tU,tI]) [1,1,1,0,1,0] [] zAu n = zk zdB n:=zt fun n0 (v0,v1,v14,v15,v16,o0)=>by kernel_rfl
def ziF (L0:zdA→Option (Int × (Int × Unit))):((List zw) × (Int × Unit))→Option (Int × (Int × Unit)):=fun (x0,x1,()) =>
 Option.bind (jg (x1,())) fun q0=>bif q0.1 then Option.bind (zj6 (x0,())) fun q1=>Option.bind (zdc (q1.1,())) fun q2=>L0 (x0,x1,q2.1,((List.length q2.1):Int),0,[]) else some (0,1,())
def ziG:((List zw) × Int × Unit)→Option (Int × Int × Unit):=ziF (zpX K0)
abbrev ztM:Fun:=⟨269,(ch [(.sl zz),tI]),(ch [tU,tI]),0,ziG⟩
theorem zEy:Sq ztM:=ml3 (d:=false) (S:=fun K=>ziF (zpX K)) Tryz.func269 (by kernel_rfl) (fun K=>tr1 (T:=ziF) (zAv K K) fun (x0,x1,())=>by kernel_rfl) rfl
def ziH:(zd × (Int × Unit))→Option (Int × (Int × Unit)):=fun (x0,x1,()) =>
 Option.bind (jg (x1,())) fun q0=>bif q0.1 then Option.bind (zfW (x0,x1,some zjx,())) fun q1=>bif q1.2.1 != 0 then some (0,q1.2.1,()) else Option.bind (zfW (x0,x1,some zjy,())) fun q2=>bif q2.2.1 != 0 then some (0,q2.2.1,()) else Option.bind (zif (q1.1,q2.1,())) fun q3=>some (q3.1,q3.2.1,()) else some (0,1,())
abbrev ztN:Fun:=⟨173,(ch [zx,tI]),(ch [tU,tI]),0,ziH⟩
theorem zEz:Sq ztN:=ms3 (d:=false) (K:=0) Tryz.func173 (by kernel_rfl) (funext fun (x0,x1,())=>by kernel_rfl)
theorem zK6 {l:List Int} {g:Int × Unit→Option (Bool × Unit)} {p:Int→Bool} (hl:l.length ≤ Go.maxLen) (hp:∀ x ∈ l,g (x,()) = some (p x,())):vz (l,some g,()) = some (qu p l 0,()):=qx (τ:=tI) (B:=zaP) (fun _ _ _ _ _=>rfl) hl hp
theorem zMx {G:FH} (hE:EnvOk Tryz.prog G E0):zDr Tryz.prog G 104 zx4:=zK5 (specI:=vz) (zkr G hE) fun xs p ha hl=>by
 refine ⟨_,zK6 (p:=zh0 p) (by unfold Go.maxLen; omega) fun x hx=>?_,zD0 xs 0 |>.imp id fun ⟨k,h1,h2,h3,h4⟩=>⟨k,h1,(show qu (zh0 p) xs 0 = _ from h2.trans (by omega)),h3,h4⟩⟩
 obtain ⟨⟨b,⟨⟩⟩,hy⟩:=Option.isSome_iff_exists.1 (ha x hx)
 unfold zh0
 rw [hy]
def zkG:List zm × Int × Unit→Option (List Int × Unit):=fun (x0,x1,()) =>
 Option.bind (zem (x0,())) fun q0=>Option.bind (zhs (q0.1,())) fun q1=>Option.bind (zH7 (fun z=>y4 (z.1,some x0,some x1,())) q1.1) fun ys=>some (ys,())
abbrev zBz:Fun:=⟨58,ch [.sl zu,tI],ch [.sl tI],0,zkG⟩
theorem zJ0 (K:Nat):evF ((En E0 false L3).del 104) K Tryz.f58 0 (ch [.sl zu,tI]) (ch [.sl tI]) = zkG:=funext fun (x0,x1,())=>by kernel_rfl
theorem zJ1:Sq zBz:=fun G hE=>zkQ.mk zH8 ((h3.env hE).del (zMx hE)) Tryz.func58 (by kernel_rfl) (by kernel_rfl) fun x y hy=>⟨0,by rw [zJ0]; exact hy⟩
def ziI:((List zm) × (Int × (Int × Unit)))→Option (zm × (Int × Unit)):=fun (x0,x1,x2,()) =>
 Option.bind (zem (x0,())) fun q0=>Option.bind (yN (q0.1,x1,())) fun q1=>bif q1.1 then inR x1 ((List.length x0):Int) (bif (ix vP x0 x1).2.2.2.1 != x2 then some ((false,0,0,0,ByteArray.mk #[],()),3,()) else inR x1 ((List.length x0):Int) (some (ix vP x0 x1,0,()))) else some ((false,0,0,0,ByteArray.mk #[],()),3,())
abbrev zyL:Fun:=⟨56,(ch [(.sl zu),tI,tI]),(ch [zu,tI]),0,ziI⟩
theorem zIj:Sq zyL:=ms3 (d:=false) (K:=0) Tryz.func56 (by kernel_rfl) (funext fun (x0,x1,x2,())=>by kernel_rfl)
abbrev L4:List Fun:=zpV :: ztK :: zvA :: zn0 :: zyH :: zvB :: zrK :: zpW :: zrL :: ztL :: ztM :: ztN :: zBz :: zyL :: L3
theorem h4:Sds Tryz.prog E0 L4:=⟨zAs,zEw,zGp,zyG,zIi,zGq,zCc,zAt,zCd,zEx,zEy,zEz,zJ1,zIj,h3⟩
theorem ms4 {d:Bool} {F:Fun} {f:Go.Func} {K:Nat} (hf:Tryz.prog.funcs[F.id]? = some f) (ho:jC f = true) (h:evF (En E0 d L4) K f F.md F.a F.r = F.spec):Sd Tryz.prog E0 F:=mkS h4 hf ho h
theorem ml4 {d:Bool} {F:Fun} {f:Go.Func} {S:Nat→F.a.I→Option F.r.I} (hf:Tryz.prog.funcs[F.id]? = some f) (ho:jC f = true) (h:∀ K,evF (En E0 d L4) K f F.md F.a F.r = S K) (e:S K0 = F.spec):Sd Tryz.prog E0 F:=mkS h4 hf ho ((h K0).trans e)
abbrev Es4:Env:=En E0 false L4
def zcu:(qO × Unit)→Option (Bool × Unit):=fun (x0,()) =>
 Option.bind (zbC (x0.1,())) fun q0=>bif q0.1 then Option.bind (zbC (x0.2.1,())) fun q1=>bif q1.1 then Option.bind (ql (x0.2.2.1,0,3,())) fun q2=>bif q2.1 then some (false,()) else some (true,()) else some (true,()) else some (true,())
abbrev zkH:Fun:=⟨303,(ch [qN]),(ch [.bool]),0,zcu⟩
theorem ztO:Sq zkH:=ms4 (d:=false) (K:=0) Tryz.func303 (by kernel_rfl) (funext fun (x0,())=>by kernel_rfl)
def zfZ:(ja × Unit)→Option (Bool × Unit):=fun (x0,()) =>
 bif x0.1 then Option.bind (zbC (x0.2.1,())) fun q0=>bif q0.1 then bif x0.1 then some (false,()) else bif !ByteArray.toList x0.2.1 == ByteArray.toList (ByteArray.mk #[]) then some (true,()) else some (false,()) else some (true,()) else bif x0.1 then some (false,()) else bif !ByteArray.toList x0.2.1 == ByteArray.toList (ByteArray.mk #[]) then some (true,()) else some (false,())
abbrev zpY:Fun:=⟨239,(ch [qn]),(ch [.bool]),0,zfZ⟩
theorem zAw:Sq zpY:=ms4 (d:=false) (K:=0) Tryz.func239 (by kernel_rfl) (funext fun (x0,())=>by kernel_rfl)
def zg1:(qb × Unit)→Option (Bool × Unit):=fun (x0,()) =>
 bif x0.1 then Option.bind (zbC (x0.2.1,())) fun q0=>bif q0.1 then Option.bind (zqU (x0,())) fun q1=>Option.bind (zck (q1.1,())) fun q2=>bif q2.1 then some (false,()) else some (true,()) else some (true,()) else bif !eqI zZ x0 (ze zZ) then some (true,()) else some (false,())
abbrev zrM:Fun:=⟨244,(ch [zZ]),(ch [.bool]),0,zg1⟩
theorem zCe:Sq zrM:=ms4 (d:=false) (K:=0) Tryz.func244 (by kernel_rfl) (funext fun (x0,())=>by kernel_rfl)
def ziJ:(zm × Unit)→Option (Bool × Unit):=fun (x0,()) =>
 bif x0.1 then Option.bind (zbb (x0,())) fun q0=>bif q0.1 then Option.bind (zcZ (x0.2.2.2.2.1,())) fun q1=>bif q1.1 then some (false,()) else some (true,()) else some (true,()) else bif !eqI zu x0 (ze zu) then some (true,()) else some (false,())
abbrev ztP:Fun:=⟨189,(ch [zu]),(ch [.bool]),0,ziJ⟩
theorem zEA:Sq ztP:=ms4 (d:=false) (K:=0) Tryz.func189 (by kernel_rfl) (funext fun (x0,())=>by kernel_rfl)
def zg2:((List zw) × Unit)→Option (Bool × Unit):=fun (x0,()) =>
 Option.bind (qZ (x0,some ze3,())) fun q0=>bif q0.1 then some (false,()) else some (true,())
abbrev zrN:Fun:=⟨143,(ch [(.sl zz)]),(ch [.bool]),0,zg2⟩
theorem zCf:Sq zrN:=ms4 (d:=false) (K:=0) Tryz.func143 (by kernel_rfl) (funext fun (x0,())=>by kernel_rfl)
abbrev zdC:Type:=Int × (List zr) × Int × Int × List (Int × Int)
abbrev zAx:zdC→St:=fun (v4,v8,v9,v10,o0)=>St.mk [(3,.om 0),(4,.dat tI v4),(8,.dat (.sl zq) v8),(9,.dat tI v9),(10,.dat tI v10)] [.mp tI tI o0]
def zdD (k0:zdC→Option (Bool × Unit)):zdC→Option (Bool × Unit):=fun (v4,v8,v9,v10,o0) =>
 bif decide (v10 < v9) then inR v10 ((List.length v8):Int) (bif (ix qt v8 v10).1 then Option.bind (zlE (ix qt v8 v10,())) fun q0=>bif q0.1 then bif (ix qt v8 v10).1 then bif (ix qt v8 v10).1 then k0 (wI (v4 + 1),v8,v9,wI (v10 + 1),yJ tI o0 (ix qt v8 v10).2.2.2.2.2.2.2.2.2.1 (wI (zcM tI (0:Int) o0 (ix qt v8 v10).2.2.2.2.2.2.2.2.2.1 + 1))) else k0 (v4,v8,v9,wI (v10 + 1),o0) else bif !eqI zq (ix qt v8 v10) (ze zq) then some (false,()) else bif (ix qt v8 v10).1 then k0 (wI (v4 + 1),v8,v9,wI (v10 + 1),yJ tI o0 (ix qt v8 v10).2.2.2.2.2.2.2.2.2.1 (wI (zcM tI (0:Int) o0 (ix qt v8 v10).2.2.2.2.2.2.2.2.2.1 + 1))) else k0 (v4,v8,v9,wI (v10 + 1),o0) else some (false,()) else bif (ix qt v8 v10).1 then bif (ix qt v8 v10).1 then k0 (wI (v4 + 1),v8,v9,wI (v10 + 1),yJ tI o0 (ix qt v8 v10).2.2.2.2.2.2.2.2.2.1 (wI (zcM tI (0:Int) o0 (ix qt v8 v10).2.2.2.2.2.2.2.2.2.1 + 1))) else k0 (v4,v8,v9,wI (v10 + 1),o0) else bif !eqI zq (ix qt v8 v10) (ze zq) then some (false,()) else bif (ix qt v8 v10).1 then k0 (wI (v4 + 1),v8,v9,wI (v10 + 1),yJ tI o0 (ix qt v8 v10).2.2.2.2.2.2.2.2.2.1 (wI (zcM tI (0:Int) o0 (ix qt v8 v10).2.2.2.2.2.2.2.2.2.1 + 1))) else k0 (v4,v8,v9,wI (v10 + 1),o0)) else bif ((List.length o0):Int) == v4 then some (true,()) else some (false,())
abbrev zpZ (K:Nat):zdC→Option (Bool × Unit):=zk zdD K
theorem zAy (K:Nat):∀ n,evV Es4 K Tryz.f145 0 (ch [.bool]) [1,1,1,0,1,0] [] zAx n = zk zdD n:=zt fun n0 (v4,v8,v9,v10,o0)=>by kernel_rfl
def zmL (L0:zdC→Option (Bool × Unit)):((List zr) × Unit)→Option (Bool × Unit):=fun (x0,()) =>
 L0 (0,x0,((List.length x0):Int),0,[])
def zmM:((List zr) × Unit)→Option (Bool × Unit):=zmL (zpZ K0)
abbrev ztQ:Fun:=⟨145,(ch [(.sl zq)]),(ch [.bool]),0,zmM⟩
theorem zEB:Sq ztQ:=ml4 (d:=false) (S:=fun K=>zmL (zpZ K)) Tryz.func145 (by kernel_rfl) (fun K=>tr1 (T:=zmL) (zAy K K) fun (x0,())=>by kernel_rfl) rfl
abbrev zcv:Type:=(List zH) × (List zH) × Int × Int
abbrev zyM:zcv→St:=fun (v0,v5,v6,v7)=>St.mk [(0,.dat (.sl zy) v0),(5,.dat (.sl zy) v5),(6,.dat tI v6),(7,.dat tI v7)] []
def zcw (k0:zcv→Option (Bool × Unit)):zcv→Option (Bool × Unit):=fun (v0,v5,v6,v7) =>
 bif decide (v7 < v6) then inR v7 ((List.length v5):Int) (Option.bind (zj7 (ix zh1 v5 v7,())) fun q0=>bif q0.1 then bif decide (v7 > 0) then inR (wI (v7 - 1)) ((List.length v0):Int) (Option.bind (zg0 (List.getD v0 (Int.toNat (wI (v7 - 1))) (ze zy),ix zh1 v5 v7,())) fun q1=>bif decide (q1.1 ≥ 0) then some (false,()) else k0 (v0,v5,v6,wI (v7 + 1))) else k0 (v0,v5,v6,wI (v7 + 1)) else some (false,())) else some (true,())
abbrev zn4 (K:Nat):zcv→Option (Bool × Unit):=zk zcw K
theorem zyN (K:Nat):∀ n,evV Es4 K Tryz.f146 0 (ch [.bool]) [1,0,1,0] [] zyM n = zk zcw n:=zt fun n0 (v0,v5,v6,v7)=>by kernel_rfl
def zkZ (L0:zcv→Option (Bool × Unit)):((List zH) × Unit)→Option (Bool × Unit):=fun (x0,()) =>
 L0 (x0,x0,((List.length x0):Int),0)
def zk0:((List zH) × Unit)→Option (Bool × Unit):=zkZ (zn4 K0)
abbrev zrO:Fun:=⟨146,(ch [(.sl zy)]),(ch [.bool]),0,zk0⟩
theorem zCg:Sq zrO:=ml4 (d:=false) (S:=fun K=>zkZ (zn4 K)) Tryz.func146 (by kernel_rfl) (fun K=>tr1 (T:=zkZ) (zyN K K) fun (x0,())=>by kernel_rfl) rfl
abbrev zcx:Type:=(List zi) × Int × Int × qL
abbrev zyO:zcx→St:=fun (v10,v11,v12,o0)=>St.mk [(1,.bp 0 []),(10,.dat (.sl zp) v10),(11,.dat tI v11),(12,.dat tI v12)] [.bx (.dat qk o0) false]
def zcy (k0:zcx→Option (Bool × Unit)):zcx→Option (Bool × Unit):=fun (v10,v11,v12,o0) =>
 bif decide (v12 < v11) then inR v12 ((List.length v10):Int) (Option.bind (zkX (o0,v12,())) fun q0=>Option.bind (zhq ((ix zg v10 v12).2.1,some fun z=>ze0 (z.1,some q0.1,()),())) fun q1=>bif q1.1 then Option.bind (yO ((ix zg v10 v12).2.2.1,some fun z=>zce (z.1,some q0.1,()),())) fun q2=>bif q2.1 then Option.bind (ziC ((ix zg v10 v12).2.2.2.2.2.2.1,q0.1,())) fun q3=>bif q3.1 then k0 (v10,v11,wI (v12 + 1),o0) else some (false,()) else some (false,()) else Option.bind (yO ((ix zg v10 v12).2.2.1,some fun z=>zce (z.1,some q0.1,()),())) fun q4=>bif q4.1 then some (false,()) else some (false,())) else some (true,())
abbrev zn5 (K:Nat):zcx→Option (Bool × Unit):=zk zcy K
theorem zyP (K:Nat):∀ n,evV Es4 K Tryz.f85 0 (ch [.bool]) [1,0,1,0] [] zyO n = zk zcy n:=zt fun n0 (v10,v11,v12,o0)=>by kernel_rfl
def zk1 (L0:zcx→Option (Bool × Unit)):(qL × Unit)→Option (Bool × Unit):=fun (x0,()) =>
 L0 (x0.2.1.2.1,((List.length x0.2.1.2.1):Int),0,x0)
def zev:(qL × Unit)→Option (Bool × Unit):=zk1 (zn5 K0)
abbrev zrP:Fun:=⟨85,(ch [qk]),(ch [.bool]),0,zev⟩
theorem zCh:Sq zrP:=ml4 (d:=false) (S:=fun K=>zk1 (zn5 K)) Tryz.func85 (by kernel_rfl) (fun K=>tr1 (T:=zk1) (zyP K K) fun (x0,())=>by kernel_rfl) rfl
abbrev zew:Type:=(List zr) × Int × (List Int) × Int × Int × List Int
abbrev zCi:zew→St:=fun (v0,v1,v13,v14,v15,o0)=>St.mk [(0,.dat (.sl zq) v0),(1,.dat tI v1),(6,.ow 0),(13,.dat (.sl tI) v13),(14,.dat tI v14),(15,.dat tI v15)] [.row tU o0 false]
def zex (k0:zew→Option (Int × (Int × Unit))):zew→Option (Int × (Int × Unit)):=fun (v0,v1,v13,v14,v15,o0) =>
 bif decide (v15 < v14) then inR v15 ((List.length v13):Int) (inR (ix (0:Int) v13 v15) ((List.length v0):Int) (Option.bind (zgU (List.getD v0 (Int.toNat (ix (0:Int) v13 v15)) (ze zq),())) fun q2=>bif q2.1 == v1 then inR (ix (0:Int) v13 v15) ((List.length v0):Int) (bif decide (List.length o0 + List.length (zf (List.replicate 1 (0:Int)) 0 (List.getD v0 (Int.toNat (ix (0:Int) v13 v15)) (ze zq)).2.2.2.2.2.2.2.2.1) ≤ lim) then k0 (v0,v1,v13,v14,wI (v15 + 1),o0 ++ zf (List.replicate 1 (0:Int)) 0 (List.getD v0 (Int.toNat (ix (0:Int) v13 v15)) (ze zq)).2.2.2.2.2.2.2.2.1) else none) else k0 (v0,v1,v13,v14,wI (v15 + 1),o0))) else Option.bind (zfU (o0,())) fun q3=>some (q3.1,q3.2.1,())
abbrev zrQ (K:Nat):zew→Option (Int × (Int × Unit)):=zk zex K
theorem zCj (K:Nat):∀ n,evV Es4 K Tryz.f268 0 (ch [tU,tI]) [1,1,1,0,1,0] [] zCi n = zk zex n:=zt fun n0 (v0,v1,v13,v14,v15,o0)=>by kernel_rfl
def zj8 (L0:zew→Option (Int × (Int × Unit))):((List zr) × (Int × Unit))→Option (Int × (Int × Unit)):=fun (x0,x1,()) =>
 Option.bind (jg (x1,())) fun q0=>bif q0.1 then Option.bind (ziE (x0,())) fun q1=>L0 (x0,x1,q1.1,((List.length q1.1):Int),0,[]) else some (0,1,())
def zj9:((List zr) × Int × Unit)→Option (Int × Int × Unit):=zj8 (zrQ K0)
abbrev zvC:Fun:=⟨268,(ch [(.sl zq),tI]),(ch [tU,tI]),0,zj9⟩
theorem zGr:Sq zvC:=ml4 (d:=false) (S:=fun K=>zj8 (zrQ K)) Tryz.func268 (by kernel_rfl) (fun K=>tr1 (T:=zj8) (zCj K K) fun (x0,x1,())=>by kernel_rfl) rfl
abbrev L5:List Fun:=zkH :: zpY :: zrM :: ztP :: zrN :: ztQ :: zrO :: zrP :: zvC :: L4
theorem h5:Sds Tryz.prog E0 L5:=⟨ztO,zAw,zCe,zEA,zCf,zEB,zCg,zCh,zGr,h4⟩
theorem ms5 {d:Bool} {F:Fun} {f:Go.Func} {K:Nat} (hf:Tryz.prog.funcs[F.id]? = some f) (ho:jC f = true) (h:evF (En E0 d L5) K f F.md F.a F.r = F.spec):Sd Tryz.prog E0 F:=mkS h5 hf ho h
theorem ml5 {d:Bool} {F:Fun} {f:Go.Func} {S:Nat→F.a.I→Option F.r.I} (hf:Tryz.prog.funcs[F.id]? = some f) (ho:jC f = true) (h:∀ K,evF (En E0 d L5) K f F.md F.a F.r = S K) (e:S K0 = F.spec):Sd Tryz.prog E0 F:=mkS h5 hf ho ((h K0).trans e)
abbrev Es5:Env:=En E0 false L5
def jL:(za × Unit)→Option (Bool × Unit):=fun (x0,()) =>
 Option.bind (ql (((List.length x0.2.2.1):Int),1,8,())) fun q0=>bif q0.1 then Option.bind (zaV (x0.2.2.1,some zcu,())) fun q1=>bif q1.1 then some (false,()) else Option.bind (zgg (x0,())) fun q2=>Option.bind (zl7 (q2.1,())) fun q3=>bif q3.1 then some (true,()) else some (false,()) else some (false,())
abbrev zmN:Fun:=⟨216,(ch [zl]),(ch [.bool]),0,jL⟩
theorem zw0:Sq zmN:=ms5 (d:=false) (K:=0) Tryz.func216 (by kernel_rfl) (funext fun (x0,())=>by kernel_rfl)
def ziK:((List ja) × Unit)→Option (Bool × Unit):=fun (x0,()) =>
 Option.bind (zcY (x0,some zfZ,())) fun q0=>bif q0.1 then some (false,()) else some (true,())
abbrev ztR:Fun:=⟨140,(ch [(.sl qn)]),(ch [.bool]),0,ziK⟩
theorem zEC:Sq ztR:=ms5 (d:=false) (K:=0) Tryz.func140 (by kernel_rfl) (funext fun (x0,())=>by kernel_rfl)
def zg3:((List qb) × Unit)→Option (Bool × Unit):=fun (x0,()) =>
 Option.bind (jm (x0,some zg1,())) fun q0=>bif q0.1 then some (false,()) else some (true,())
abbrev zrR:Fun:=⟨142,(ch [(.sl zZ)]),(ch [.bool]),0,zg3⟩
theorem zCk:Sq zrR:=ms5 (d:=false) (K:=0) Tryz.func142 (by kernel_rfl) (funext fun (x0,())=>by kernel_rfl)
def zdE:((List zm) × Unit)→Option (Bool × Unit):=fun (x0,()) =>
 Option.bind (jo (x0,some ziJ,())) fun q0=>bif q0.1 then some (false,()) else some (true,())
abbrev ztS:Fun:=⟨93,(ch [(.sl zu)]),(ch [.bool]),0,zdE⟩
theorem zED:Sq ztS:=ms5 (d:=false) (K:=0) Tryz.func93 (by kernel_rfl) (funext fun (x0,())=>by kernel_rfl)
abbrev zdF:Type:=Int × (List zi) × Int × Int × (List (List Int)) × Int × Int × List Int
abbrev zp0:zdF→St:=fun (v1,v31,v32,v33,v52,v53,v54,o0)=>St.mk [(1,.dat tI v1),(8,.ow 0),(31,.dat (.sl zp) v31),(32,.dat tI v32),(33,.dat tI v33),(52,.dat (.sl (.arr 4 tU)) v52),(53,.dat tI v53),(54,.dat tI v54)] [.row tU o0 false]
abbrev yQ:Type:=Int × (List zi) × Int × Int × List Int
abbrev zp1:yQ→St:=fun (v1,v31,v32,v33,o0)=>St.mk [(1,.dat tI v1),(8,.ow 0),(31,.dat (.sl zp) v31),(32,.dat tI v32),(33,.dat tI v33)] [.row tU o0 false]
def zdG (k0:yQ→Option (Int × (Int × Unit))) (k1:zdF→Option (Int × (Int × Unit))):zdF→Option (Int × (Int × Unit)):=fun (v1,v31,v32,v33,v52,v53,v54,o0) =>
 bif decide (v54 < v53) then inR v54 ((List.length v52):Int) (inR v1 (↑4:Int) (bif decide (List.length o0 + List.length (zf (List.replicate 1 (0:Int)) 0 (List.getD (List.getD v52 (Int.toNat v54) (ze (.arr 4 tU))) (Int.toNat v1) (0:Int))) ≤ lim) then k1 (v1,v31,v32,v33,v52,v53,wI (v54 + 1),o0 ++ zf (List.replicate 1 (0:Int)) 0 (List.getD (List.getD v52 (Int.toNat v54) (ze (.arr 4 tU))) (Int.toNat v1) (0:Int))) else none)) else k0 (v1,v31,v32,wI (v33 + 1),o0)
abbrev zdH (K:Nat) (k0:yQ→Option (Int × (Int × Unit))):zdF→Option (Int × (Int × Unit)):=zk (fun k1=>zdG k0 k1) K
theorem zAz (K:Nat) (n0:Nat):∀ n,evV Es5 K Tryz.f172 0 (ch [tU,tI]) [1,1,1,1,1,0,1,0,0,1,1,0,0,1,1,1,1,1,0] [n0] zp0 n = zk (fun k1=>zdG (evV Es5 K Tryz.f172 0 (ch [tU,tI]) [1,1,1,1,1,0,1,0] [] zp1 n0) k1) n:=zt fun n1 (v1,v31,v32,v33,v52,v53,v54,o0)=>by kernel_rfl
def zbd (L1:zdF→Option (Int × (Int × Unit))) (k0:yQ→Option (Int × (Int × Unit))):yQ→Option (Int × (Int × Unit)):=fun (v1,v31,v32,v33,o0) =>
 bif decide (v33 < v32) then inR v33 ((List.length v31):Int) (Option.bind (ziG ((ix zg v31 v33).2.2.2.2.1,v1,())) fun q2=>bif q2.2.1 != 0 then some (0,q2.2.1,()) else bif decide (List.length o0 + List.length (zf (List.replicate 1 (0:Int)) 0 q2.1) ≤ lim) then L1 (v1,v31,v32,v33,(ix zg v31 v33).2.2.2.2.2.1,((List.length (ix zg v31 v33).2.2.2.2.2.1):Int),0,o0 ++ zf (List.replicate 1 (0:Int)) 0 q2.1) else none) else Option.bind (zfU (o0,())) fun q3=>some (q3.1,q3.2.1,())
abbrev zp2 (K:Nat):yQ→Option (Int × (Int × Unit)):=zk (fun k0=>zbd (zdH K k0) k0) K
theorem zAA (K:Nat):∀ n,evV Es5 K Tryz.f172 0 (ch [tU,tI]) [1,1,1,1,1,0,1,0] [] zp1 n = zk (fun k0=>zbd (zdH K k0) k0) n:=zhC (B:=fun L1 k0=>zbd L1 k0) (V1:=fun n0=>evV Es5 K Tryz.f172 0 (ch [tU,tI]) [1,1,1,1,1,0,1,0,0,1,1,0,0,1,1,1,1,1,0] [n0] zp0 K) (W1:=fun k0=>(zdH K k0)) (fun n0=>zAz K n0 K) fun n0 (v1,v31,v32,v33,o0)=>by kernel_rfl
def ziL (L0:yQ→Option (Int × (Int × Unit))):(zd × (Int × Unit))→Option (Int × (Int × Unit)):=fun (x0,x1,()) =>
 Option.bind (jg (x1,())) fun q0=>bif q0.1 then Option.bind (zj9 (x0.2.2.2.1,x1,())) fun q1=>bif q1.2.1 != 0 then some (0,q1.2.1,()) else L0 (x1,x0.2.1,((List.length x0.2.1):Int),0,[q1.1]) else some (0,1,())
def ziM:(zd × Int × Unit)→Option (Int × Int × Unit):=ziL (zp2 K0)
abbrev ztT:Fun:=⟨172,(ch [zx,tI]),(ch [tU,tI]),0,ziM⟩
theorem zEE:Sq ztT:=ml5 (d:=false) (S:=fun K=>ziL (zp2 K)) Tryz.func172 (by kernel_rfl) (fun K=>tr1 (T:=ziL) (zAA K K) fun (x0,x1,())=>by kernel_rfl) rfl
abbrev L6:List Fun:=zmN :: ztR :: zrR :: ztS :: ztT :: L5
theorem h6:Sds Tryz.prog E0 L6:=⟨zw0,zEC,zCk,zED,zEE,h5⟩
theorem ms6 {d:Bool} {F:Fun} {f:Go.Func} {K:Nat} (hf:Tryz.prog.funcs[F.id]? = some f) (ho:jC f = true) (h:evF (En E0 d L6) K f F.md F.a F.r = F.spec):Sd Tryz.prog E0 F:=mkS h6 hf ho h
theorem ml6 {d:Bool} {F:Fun} {f:Go.Func} {S:Nat→F.a.I→Option F.r.I} (hf:Tryz.prog.funcs[F.id]? = some f) (ho:jC f = true) (h:∀ K,evF (En E0 d L6) K f F.md F.a F.r = S K) (e:S K0 = F.spec):Sd Tryz.prog E0 F:=mkS h6 hf ho ((h K0).trans e)
abbrev Es6:Env:=En E0 false L6
abbrev zcz:Type:=Int × Int × za × List (Option ((za × Unit)→Option (Bool × Unit)))
abbrev zyQ:zcz→St:=fun (v6,v7,o0,o1)=>St.mk [(1,.bp 0 []),(5,.ow 1),(6,.dat tI v6),(7,.dat tI v7)] [.bx (.dat zl o0) false,.row (.fn (.pair zl .unit) (.pair .bool .unit)) o1 false]
def ze4 (k0:zcz→Option (Bool × Unit)):zcz→Option (Bool × Unit):=fun (v6,v7,o0,o1) =>
 bif decide (v7 < v6) then inR v7 ((List.length o1):Int) (Option.bind (List.getD o1 (Int.toNat v7) (ze (.fn (.pair zl .unit) (.pair .bool .unit)))) fun q0=>Option.bind (q0 (o0,())) fun q1=>bif q1.1 then k0 (v6,wI (v7 + 1),o0,o1) else some (false,())) else some (true,())
abbrev zn6 (K:Nat):zcz→Option (Bool × Unit):=zk ze4 K
theorem zyR (K:Nat):∀ n,evV Es6 K Tryz.f113 0 (ch [.bool]) [1,0,1,0] [] zyQ n = zk ze4 n:=zt fun n0 (v6,v7,o0,o1)=>by kernel_rfl
def zk2 (L0:zcz→Option (Bool × Unit)):(za × Unit)→Option (Bool × Unit):=fun (x0,()) =>
 L0 (((List.length (zf (zf (zf (zf (zf (zf (List.replicate 6 (ze (.fn (.pair zl .unit) (.pair .bool .unit)))) 0 (some vM)) 1 (some yq)) 2 (some jL)) 3 (some vK)) 4 (some vL)) 5 (some zag))):Int),0,x0,[some vM,some yq,some jL,some vK,some vL,some zag])
def jO:(za × Unit)→Option (Bool × Unit):=zk2 (zn6 K0)
abbrev zrS:Fun:=⟨113,(ch [zl]),(ch [.bool]),0,jO⟩
theorem zCl:Sq zrS:=ml6 (d:=false) (S:=fun K=>zk2 (zn6 K)) Tryz.func113 (by kernel_rfl) (fun K=>tr1 (T:=zk2) (zyR K K) fun (x0,())=>by kernel_rfl) rfl
end
end Go.Proofs.YtkcakhbkoeimdaaGreatDoor
end
section
namespace Go.Proofs.YtkcakhbkoeimdaaGreatDoor
open Go.Ev
noncomputable section
def ze5:(zi × Unit)→Option (Bool × Unit):=fun (x0,()) =>
 Option.bind (ziK (x0.1,())) fun q0=>bif q0.1 then Option.bind (zmC (x0.2.1,())) fun q1=>bif q1.1 then Option.bind (zg3 (x0.2.2.1,())) fun q2=>bif q2.1 then Option.bind (zdE (x0.2.2.2.1,())) fun q3=>bif q3.1 then Option.bind (zg2 (x0.2.2.2.2.1,())) fun q4=>bif q4.1 then some (true,()) else some (false,()) else some (false,()) else some (false,()) else some (false,()) else some (false,())
abbrev zn7:Fun:=⟨139,(ch [zp]),(ch [.bool]),0,ze5⟩
theorem zyS:Sq zn7:=ms6 (d:=false) (K:=0) Tryz.func139 (by kernel_rfl) (funext fun (x0,())=>by kernel_rfl)
abbrev zcA:Type:=Int × Int × (List zi) × Int × Int × qL
abbrev zn8:zcA→St:=fun (v3,v10,v15,v16,v17,o0)=>St.mk [(1,.bp 0 []),(3,.dat tI v3),(10,.dat tI v10),(15,.dat (.sl zp) v15),(16,.dat tI v16),(17,.dat tI v17)] [.bx (.dat qk o0) false]
abbrev yf:Type:=Int × qL
abbrev zn9:yf→St:=fun (v10,o0)=>St.mk [(1,.bp 0 []),(10,.dat tI v10)] [.bx (.dat qk o0) false]
def zcC (k0:yf→Option (Bool × Unit)) (k1:zcA→Option (Bool × Unit)):zcA→Option (Bool × Unit):=fun (v3,v10,v15,v16,v17,o0) =>
 bif decide (v17 < v16) then inR v17 ((List.length v15):Int) (inR v3 (↑4:Int) (inR v17 ((List.length o0.1.2.2.2.2.1):Int) (bif decide (List.getD (ix zg v15 v17).2.2.2.2.2.2.2.1 (Int.toNat v3) (0:Int) > (ix va o0.1.2.2.2.2.1 v17).2.2.2.2.2.1) then some (false,()) else k1 (v3,v10,v15,v16,wI (v17 + 1),o0)))) else Option.bind (ziM (o0.2.1,v3,())) fun q0=>Option.bind (ziH (o0.2.1,v3,())) fun q1=>bif q0.2.1 != 0 then some (false,()) else bif q1.2.1 != 0 then some (false,()) else bif q0.1 != q1.1 then some (false,()) else k0 (wI (v10 + 1),o0)
abbrev zcD (K:Nat) (k0:yf→Option (Bool × Unit)):zcA→Option (Bool × Unit):=zk (fun k1=>zcC k0 k1) K
theorem zyT (K:Nat) (n0:Nat):∀ n,evV Es6 K Tryz.f88 0 (ch [.bool]) [1,0,1,0,0,1,1,0,0,1,0,1,0] [n0] zn8 n = zk (fun k1=>zcC (evV Es6 K Tryz.f88 0 (ch [.bool]) [1,0,1,0] [] zn9 n0) k1) n:=zt fun n1 (v3,v10,v15,v16,v17,o0)=>by kernel_rfl
def zcE (L1:zcA→Option (Bool × Unit)) (k0:yf→Option (Bool × Unit)):yf→Option (Bool × Unit):=fun (v10,o0) =>
 bif decide (v10 < 4) then L1 (v10,v10,o0.2.1.2.1,((List.length o0.2.1.2.1):Int),0,o0) else some (true,())
abbrev zoa (K:Nat):yf→Option (Bool × Unit):=zk (fun k0=>zcE (zcD K k0) k0) K
theorem zyU (K:Nat):∀ n,evV Es6 K Tryz.f88 0 (ch [.bool]) [1,0,1,0] [] zn9 n = zk (fun k0=>zcE (zcD K k0) k0) n:=zhC (B:=fun L1 k0=>zcE L1 k0) (V1:=fun n0=>evV Es6 K Tryz.f88 0 (ch [.bool]) [1,0,1,0,0,1,1,0,0,1,0,1,0] [n0] zn8 K) (W1:=fun k0=>(zcD K k0)) (fun n0=>zyT K n0 K) fun n0 (v10,o0)=>by kernel_rfl
def zk3 (L0:yf→Option (Bool × Unit)):(qL × Unit)→Option (Bool × Unit):=fun (x0,()) =>
 L0 (0,x0)
def zey:(qL × Unit)→Option (Bool × Unit):=zk3 (zoa K0)
abbrev zrT:Fun:=⟨88,(ch [qk]),(ch [.bool]),0,zey⟩
theorem zCm:Sq zrT:=ml6 (d:=false) (S:=fun K=>zk3 (zoa K)) Tryz.func88 (by kernel_rfl) (fun K=>tr1 (T:=zk3) (zyU K K) fun (x0,())=>by kernel_rfl) rfl
def zlF:((List zm) × (zm × Unit))→Option ((List zm) × (Int × (Int × Unit))):=fun (x0,x1,()) =>
 Option.bind (zdE (x0,())) fun q0=>bif q0.1 then Option.bind (zbb (x1,())) fun q1=>bif q1.1 then Option.bind (zcZ (x1.2.2.2.2.1,())) fun q2=>bif q2.1 then Option.bind (zem (x0,())) fun q3=>Option.bind (zfX (q3.1,(true,x1.2),())) fun q4=>some q4 else some ([],0,2,()) else some ([],0,1,()) else some ([],0,1,())
abbrev zyV:Fun:=⟨48,(ch [(.sl zu),zu]),(ch [(.sl zu),tI,tI]),0,zlF⟩
theorem zIk:Sq zyV:=ms6 (d:=false) (K:=0) Tryz.func48 (by kernel_rfl) (funext fun (x0,x1,())=>by kernel_rfl)
def zka:((List zm) × (Int × (Int × Unit)))→Option ((List zm) × (Int × Unit)):=fun (x0,x1,x2,()) =>
 Option.bind (zdE (x0,())) fun q0=>bif q0.1 then Option.bind (ziI (x0,x1,x2,())) fun q1=>bif q1.2.1 != 0 then some ([],q1.2.1,()) else Option.bind (zem (x0,())) fun q2=>Option.bind (zdx (q2.1,x1,ze zu,())) fun q3=>some q3 else some ([],1,())
abbrev zvD:Fun:=⟨53,(ch [(.sl zu),tI,tI]),(ch [(.sl zu),tI]),0,zka⟩
theorem zGs:Sq zvD:=ms6 (d:=false) (K:=0) Tryz.func53 (by kernel_rfl) (funext fun (x0,x1,x2,())=>by kernel_rfl)
abbrev L7:List Fun:=zrS :: zn7 :: zrT :: zyV :: zvD :: L6
theorem h7:Sds Tryz.prog E0 L7:=⟨zCl,zyS,zCm,zIk,zGs,h6⟩
theorem ms7 {d:Bool} {F:Fun} {f:Go.Func} {K:Nat} (hf:Tryz.prog.funcs[F.id]? = some f) (ho:jC f = true) (h:evF (En E0 d L7) K f F.md F.a F.r = F.spec):Sd Tryz.prog E0 F:=mkS h7 hf ho h
theorem ml7 {d:Bool} {F:Fun} {f:Go.Func} {S:Nat→F.a.I→Option F.r.I} (hf:Tryz.prog.funcs[F.id]? = some f) (ho:jC f = true) (h:∀ K,evF (En E0 d L7) K f F.md F.a F.r = S K) (e:S K0 = F.spec):Sd Tryz.prog E0 F:=mkS h7 hf ho ((h K0).trans e)
abbrev Es7:Env:=En E0 false L7
abbrev Ed7:Env:=En E0 true L7
abbrev zcF:Type:=Int × (List zi) × Int × Int × qL
abbrev zyW:zcF→St:=fun (v3,v65,v66,v67,o0)=>St.mk [(1,.bp 0 []),(3,.dat tI v3),(65,.dat (.sl zp) v65),(66,.dat tI v66),(67,.dat tI v67)] [.bx (.dat qk o0) false]
def ze6 (k0:zcF→Option (Bool × Unit)):zcF→Option (Bool × Unit):=fun (v3,v65,v66,v67,o0) =>
 bif decide (v67 < v66) then inR v67 ((List.length v65):Int) (inR v67 ((List.length o0.1.2.2.2.2.1):Int) (bif ((List.length (ix zg v65 v67).1):Int) != (ix va o0.1.2.2.2.2.1 v67).1 then some (false,()) else bif ((List.length (ix zg v65 v67).2.1):Int) != (ix va o0.1.2.2.2.2.1 v67).2.1 then some (false,()) else bif ((List.length (ix zg v65 v67).2.2.1):Int) != (ix va o0.1.2.2.2.2.1 v67).2.2.1 then some (false,()) else bif ((List.length (ix zg v65 v67).2.2.2.1):Int) != (ix va o0.1.2.2.2.2.1 v67).2.2.2.1 then some (false,()) else bif ((List.length (ix zg v65 v67).2.2.2.2.1):Int) != (ix va o0.1.2.2.2.2.1 v67).2.2.2.2.1 then some (false,()) else bif ((List.length (ix zg v65 v67).2.2.2.2.2.1):Int) != v3 then some (false,()) else bif ((List.length (ix zg v65 v67).2.2.2.2.2.2.1):Int) != v3 then some (false,()) else k0 (v3,v65,v66,wI (v67 + 1),o0))) else some (true,())
abbrev ziN (K:Nat):zcF→Option (Bool × Unit):=zk ze6 K
theorem zyX (K:Nat):∀ n,evV Es7 K Tryz.f82 0 (ch [.bool]) [1,1,1,0,1,0] [] zyW n = zk ze6 n:=zt fun n0 (v3,v65,v66,v67,o0)=>by kernel_rfl
def zg4 (L0:zcF→Option (Bool × Unit)):(qL × Unit)→Option (Bool × Unit):=fun (x0,()) =>
 Option.bind (jO (x0.1,())) fun q0=>bif q0.1 then bif ((List.length x0.2.1.2.1):Int) != ((List.length x0.1.1):Int) then some (false,()) else bif ((List.length x0.2.1.2.2.2.1):Int) != x0.1.2.2.2.2.2.1 then some (false,()) else bif decide (((List.length x0.2.1.2.2.2.2.1):Int) > x0.1.2.2.2.2.2.2.1) then some (false,()) else bif ((List.length x0.2.1.2.2.2.2.2.1):Int) != ((List.length x0.1.2.1):Int) then some (false,()) else bif decide (x0.2.1.1 > 4611686018427387904) then some (false,()) else L0 (((List.length x0.1.2.2.1):Int),x0.2.1.2.1,((List.length x0.2.1.2.1):Int),0,x0) else some (false,())
def zbZ:(qL × Unit)→Option (Bool × Unit):=zg4 (ziN K0)
abbrev zrU:Fun:=⟨82,(ch [qk]),(ch [.bool]),0,zbZ⟩
theorem zCn:Sq zrU:=ml7 (d:=false) (S:=fun K=>zg4 (ziN K)) Tryz.func82 (by kernel_rfl) (fun K=>tr1 (T:=zg4) (zyX K K) fun (x0,())=>by kernel_rfl) rfl
def zb0:(qL × Unit)→Option (Bool × Unit):=fun (x0,()) =>
 Option.bind (zgn (x0.2.1.2.1,some ze5,())) fun q0=>bif q0.1 then some (true,()) else some (false,())
abbrev zrV:Fun:=⟨83,(ch [qk]),(ch [.bool]),0,zb0⟩
theorem zCo:Sq zrV:=ms7 (d:=false) (K:=0) Tryz.func83 (by kernel_rfl) (funext fun (x0,())=>by kernel_rfl)
abbrev zdI:Type:=(Option ((Int × Unit)→Option (Bool × Unit))) × (List (List Int)) × Int × Int × za
abbrev zAB:zdI→St:=fun (v5,v19,v20,v21,o0)=>St.mk [(2,.bp 0 []),(5,.dat (.fn (.pair tI .unit) (.pair .bool .unit)) v5),(19,.dat (.sl (.sl tI)) v19),(20,.dat tI v20),(21,.dat tI v21)] [.bx (.dat zl o0) false]
def zf0 (k0:zdI→Option (Bool × Unit)):zdI→Option (Bool × Unit):=fun (v5,v19,v20,v21,o0) =>
 bif decide (v21 < v20) then inR v21 ((List.length v19):Int) (bif ((List.length (List.getD v19 (Int.toNat v21) ([]:List Int))):Int) != ((List.length o0.2.2.1):Int) then some (false,()) else Option.bind (qo (List.getD v19 (Int.toNat v21) ([]:List Int),v5,())) fun q1=>bif q1.1 then some (false,()) else inR v21 ((List.length o0.2.2.2.1):Int) (inR (ix zD o0.2.2.2.1 v21).2.1 ((List.length (List.getD v19 (Int.toNat v21) ([]:List Int))):Int) (bif List.getD (List.getD v19 (Int.toNat v21) ([]:List Int)) (Int.toNat (ix zD o0.2.2.2.1 v21).2.1) (0:Int) != 2 then some (false,()) else k0 (v5,v19,v20,wI (v21 + 1),o0)))) else some (true,())
abbrev zjJ (K:Nat):zdI→Option (Bool × Unit):=zk zf0 K
theorem zAC (K:Nat):∀ n,evV Es7 K Tryz.f144 0 (ch [.bool]) [1,1,1,0,1,0] [] zAB n = zk zf0 n:=zt fun n0 (v5,v19,v20,v21,o0)=>by kernel_rfl
def ziO (L0:zdI→Option (Bool × Unit)):(za × ((List (List Int)) × Unit))→Option (Bool × Unit):=fun (x0,x1,()) =>
 Option.bind (jO (x0,())) fun q0=>bif q0.1 then bif ((List.length x1):Int) != ((List.length x0.2.2.2.1):Int) then some (false,()) else L0 (some za9,x1,((List.length x1):Int),0,x0) else some (false,())
def zdJ:(za × (List (List Int)) × Unit)→Option (Bool × Unit):=ziO (zjJ K0)
abbrev ztU:Fun:=⟨144,(ch [zl,(.sl (.sl tI))]),(ch [.bool]),0,zdJ⟩
theorem zEF:Sq ztU:=ml7 (d:=false) (S:=fun K=>ziO (zjJ K)) Tryz.func144 (by kernel_rfl) (fun K=>tr1 (T:=ziO) (zAC K K) fun (x0,x1,())=>by kernel_rfl) rfl
abbrev zfA:Type:=(List zN) × Int × Int × za × List (List Int) × Nat
abbrev zEG:zfA→St:=fun (v11,v12,v13,o0,o1,c1)=>St.mk [(1,.bp 0 []),(3,.ow 1),(11,.dat (.sl jf) v11),(12,.dat tI v12),(13,.dat tI v13)] [.bx (.dat zl o0) false,.drow (.sl tI) o1 c1]
def zfB (k0:zfA→Option ((List (List Int)) × Unit)):zfA→Option ((List (List Int)) × Unit):=fun (v11,v12,v13,o0,o1,c1) =>
 bif decide (v13 < v12) then inR v13 ((List.length v11):Int) (bif decide (((List.length o0.2.2.1):Int) ≤ ((List.length o0.2.2.1):Int)) then bif decide (((List.length o0.2.2.1):Int) ≤ (↑lim:Int)) then inR (ix zD v11 v13).2.1 ((List.length (List.replicate (Int.toNat ((List.length o0.2.2.1):Int)) (0:Int))):Int) (bif decide (List.length o1 + List.length [List.set (List.replicate (Int.toNat ((List.length o0.2.2.1):Int)) (0:Int)) (Int.toNat (ix zD v11 v13).2.1) 2] ≤ lim) then bif decide (c1 = List.length o1) then k0 (v11,v12,wI (v13 + 1),o0,o1 ++ [List.set (List.replicate (Int.toNat ((List.length o0.2.2.1):Int)) (0:Int)) (Int.toNat (ix zD v11 v13).2.1) 2],c1 + (0 + 1)) else none else none) else none else none) else bif decide (c1 = List.length o1) then some (o1,()) else none
abbrev ztV (K:Nat):zfA→Option ((List (List Int)) × Unit):=zk zfB K
theorem zEH (K:Nat):∀ n,evV Ed7 K Tryz.f114 4 (ch [(.sl (.sl tI))]) [1,1,1,0,1,0] [] zEG n = zk zfB n:=zt fun n0 (v11,v12,v13,o0,o1,c1)=>by kernel_rfl
def zlG (L0:zfA→Option ((List (List Int)) × Unit)):(za × Unit)→Option ((List (List Int)) × Unit):=fun (x0,()) =>
 Option.bind (jO (x0,())) fun q0=>bif q0.1 then L0 (x0.2.2.2.1,((List.length x0.2.2.2.1):Int),0,x0,[],0) else some ([],())
def zlH:(za × Unit)→Option ((List (List Int)) × Unit):=zlG (ztV K0)
abbrev zyY:Fun:=⟨114,(ch [zl]),(ch [(.sl (.sl tI))]),4,zlH⟩
theorem zIl:Sq zyY:=ml7 (d:=true) (S:=fun K=>zlG (ztV K)) Tryz.func114 (by kernel_rfl) (fun K=>tr1 (T:=zlG) (zEH K K) fun (x0,())=>by kernel_rfl) rfl
def yg:(za × (Int × Unit))→Option (Bool × Unit):=fun (x0,x1,()) =>
 Option.bind (jO (x0,())) fun q0=>bif q0.1 then Option.bind (ql (x1,0,wI (((List.length x0.1):Int) - 1),())) fun q1=>bif q1.1 then some (true,()) else some (false,()) else some (false,())
abbrev zob:Fun:=⟨92,(ch [zl,tI]),(ch [.bool]),0,yg⟩
theorem zyZ:Sq zob:=ms7 (d:=false) (K:=0) Tryz.func92 (by kernel_rfl) (funext fun (x0,x1,())=>by kernel_rfl)
def zg5:(za × (zo × Unit))→Option (Int × Unit):=fun (x0,x1,()) =>
 Option.bind (jO (x0,())) fun q0=>bif q0.1 then Option.bind (zbm (x0.1,x1,())) fun q1=>some (q1.1,()) else some ((-1),())
abbrev zrW:Fun:=⟨137,(ch [zl,zn]),(ch [tI]),0,zg5⟩
theorem zCp:Sq zrW:=ms7 (d:=false) (K:=0) Tryz.func137 (by kernel_rfl) (funext fun (x0,x1,())=>by kernel_rfl)
abbrev zdK:Type:=(List Int) × Int × Int × za × zo × List Int
abbrev zAD:zdK→St:=fun (v18,v19,v20,o0,o1,o2)=>St.mk [(2,.bp 0 []),(3,.bp 1 []),(5,.ow 2),(18,.dat (.sl tI) v18),(19,.dat tI v19),(20,.dat tI v20)] [.bx (.dat zl o0) false,.bx (.dat zn o1) false,.row tI o2 false]
def zdL (k0:zdK→Option ((List Int) × Unit)):zdK→Option ((List Int) × Unit):=fun (v18,v19,v20,o0,o1,o2) =>
 bif decide (v20 < v19) then inR v20 ((List.length v18):Int) (inR (ix (0:Int) v18 v20) ((List.length o0.1):Int) (Option.bind (y3 (List.getD o0.1 (Int.toNat (ix (0:Int) v18 v20)) (ze zn),o1,())) fun q2=>bif q2.1 then bif decide (List.length o2 + List.length (zf (List.replicate 1 (0:Int)) 0 v20) ≤ lim) then k0 (v18,v19,wI (v20 + 1),o0,o1,o2 ++ zf (List.replicate 1 (0:Int)) 0 v20) else none else k0 (v18,v19,wI (v20 + 1),o0,o1,o2))) else some (o2,())
abbrev zp3 (K:Nat):zdK→Option ((List Int) × Unit):=zk zdL K
theorem zAE (K:Nat):∀ n,evV Es7 K Tryz.f187 0 (ch [(.sl tI)]) [1,1,1,0,1,0] [] zAD n = zk zdL n:=zt fun n0 (v18,v19,v20,o0,o1,o2)=>by kernel_rfl
def zmO (L0:zdK→Option ((List Int) × Unit)):(za × (zo × Unit))→Option ((List Int) × Unit):=fun (x0,x1,()) =>
 Option.bind (jO (x0,())) fun q0=>bif q0.1 then Option.bind (zbW (x1,())) fun q1=>bif q1.1 then L0 (x0.2.1,((List.length x0.2.1):Int),0,x0,x1,[]) else some ([],()) else some ([],())
def ziP:(za × zo × Unit)→Option ((List Int) × Unit):=zmO (zp3 K0)
abbrev ztW:Fun:=⟨187,(ch [zl,zn]),(ch [(.sl tI)]),0,ziP⟩
theorem zEI:Sq ztW:=ml7 (d:=false) (S:=fun K=>zmO (zp3 K)) Tryz.func187 (by kernel_rfl) (fun K=>tr1 (T:=zmO) (zAE K K) fun (x0,x1,())=>by kernel_rfl) rfl
abbrev L8:List Fun:=zrU :: zrV :: ztU :: zyY :: zob :: zrW :: ztW :: L7
theorem h8:Sds Tryz.prog E0 L8:=⟨zCn,zCo,zEF,zIl,zyZ,zCp,zEI,h7⟩
theorem ms8 {d:Bool} {F:Fun} {f:Go.Func} {K:Nat} (hf:Tryz.prog.funcs[F.id]? = some f) (ho:jC f = true) (h:evF (En E0 d L8) K f F.md F.a F.r = F.spec):Sd Tryz.prog E0 F:=mkS h8 hf ho h
theorem ml8 {d:Bool} {F:Fun} {f:Go.Func} {S:Nat→F.a.I→Option F.r.I} (hf:Tryz.prog.funcs[F.id]? = some f) (ho:jC f = true) (h:∀ K,evF (En E0 d L8) K f F.md F.a F.r = S K) (e:S K0 = F.spec):Sd Tryz.prog E0 F:=mkS h8 hf ho ((h K0).trans e)
abbrev Es8:Env:=En E0 false L8
abbrev Ed8:Env:=En E0 true L8
def zbe:(qL × Unit)→Option (Bool × Unit):=fun (x0,()) =>
 Option.bind (zdJ (x0.1,x0.2.1.2.2.1,())) fun q0=>bif q0.1 then Option.bind (zmM (x0.2.1.2.2.2.1,())) fun q1=>bif q1.1 then Option.bind (zk0 (x0.2.1.2.2.2.2.1,())) fun q2=>bif q2.1 then Option.bind (zet (x0.2.1,ze zR,())) fun q3=>bif q3.1 then Option.bind (zgo (x0.2.1.2.2.2.1,some fun z=>zej (z.1,some x0,()),())) fun q4=>bif q4.1 then Option.bind (zdb (x0.2.1.2.2.2.2.1,some fun z=>zbu (z.1,some x0,()),())) fun q5=>bif q5.1 then Option.bind (zar (x0.2.1.2.2.2.2.2.1,some fun z=>vt (z.1,some x0,()),())) fun q6=>bif q6.1 then some (true,()) else some (false,()) else Option.bind (zar (x0.2.1.2.2.2.2.2.1,some fun z=>vt (z.1,some x0,()),())) fun q7=>bif q7.1 then some (false,()) else some (false,()) else Option.bind (zdb (x0.2.1.2.2.2.2.1,some fun z=>zbu (z.1,some x0,()),())) fun q8=>bif q8.1 then Option.bind (zar (x0.2.1.2.2.2.2.2.1,some fun z=>vt (z.1,some x0,()),())) fun q9=>bif q9.1 then some (false,()) else some (false,()) else Option.bind (zar (x0.2.1.2.2.2.2.2.1,some fun z=>vt (z.1,some x0,()),())) fun q10=>bif q10.1 then some (false,()) else some (false,()) else some (false,()) else some (false,()) else some (false,()) else some (false,())
abbrev zp4:Fun:=⟨84,(ch [qk]),(ch [.bool]),0,zbe⟩
theorem zAF:Sq zp4:=ms8 (d:=false) (K:=0) Tryz.func84 (by kernel_rfl) (funext fun (x0,())=>by kernel_rfl)
abbrev zez:Type:=Int × Int × Int × Int × List zi × Nat × List (List Int) × Nat × List zr × List zH × List Int × List zi × Nat × List (List Int) × Nat × List zr × List zH × List Int
abbrev zrX:zez→St:=fun (v42,v43,o0_0,o1_0,o2,c2,o3,c3,o4,o5,o6,o7,c7,o8,c8,o9,o10,o11)=>St.mk [(2,.bp 0 []),(4,.bp 1 []),(42,.dat tI v42),(43,.dat tI v43)] [.bx (.fld (.pair tU (.pair (.sl zp) (.pair (.sl (.sl tI)) (.pair (.sl zq) (.pair (.sl zy) (.pair (.sl tI) .unit)))))) [.dat tU o0_0,.ow 2,.ow 3,.ow 4,.ow 5,.ow 6]) false,.bx (.fld (.pair tU (.pair (.sl zp) (.pair (.sl (.sl tI)) (.pair (.sl zq) (.pair (.sl zy) (.pair (.sl tI) .unit)))))) [.dat tU o1_0,.ow 7,.ow 8,.ow 9,.ow 10,.ow 11]) false,.drow zp o2 c2,.drow (.sl tI) o3 c3,.row zq o4 false,.row zy o5 false,.row tI o6 false,.drow zp o7 c7,.drow (.sl tI) o8 c8,.row zq o9 false,.row zy o10 false,.row tI o11 false]
abbrev zeA:Type:=(List zcb) × Int × Int × za × Int × Int × List zi × Nat × List (List Int) × Nat × List zr × List zH × List Int × List zi × Nat × List (List Int) × Nat × List zr × List zH × List Int
abbrev zCq:zeA→St:=fun (v18,v19,v20,o0,o1_0,o2_0,o3,c3,o4,c4,o5,o6,o7,o8,c8,o9,c9,o10,o11,o12)=>St.mk [(1,.bp 0 []),(2,.bp 1 []),(4,.bp 2 []),(18,.dat (.sl zdj) v18),(19,.dat tI v19),(20,.dat tI v20)] [.bx (.dat zl o0) false,.bx (.fld (.pair tU (.pair (.sl zp) (.pair (.sl (.sl tI)) (.pair (.sl zq) (.pair (.sl zy) (.pair (.sl tI) .unit)))))) [.dat tU o1_0,.ow 3,.ow 4,.ow 5,.ow 6,.ow 7]) false,.bx (.fld (.pair tU (.pair (.sl zp) (.pair (.sl (.sl tI)) (.pair (.sl zq) (.pair (.sl zy) (.pair (.sl tI) .unit)))))) [.dat tU o2_0,.ow 8,.ow 9,.ow 10,.ow 11,.ow 12]) false,.drow zp o3 c3,.drow (.sl tI) o4 c4,.row zq o5 false,.row zy o6 false,.row tI o7 false,.drow zp o8 c8,.drow (.sl tI) o9 c9,.row zq o10 false,.row zy o11 false,.row tI o12 false]
def zeB (k1:zez→Option (zd × (Int × Unit))):zez→Option (zd × (Int × Unit)):=fun (v42,v43,o0_0,o1_0,o2,c2,o3,c3,o4,o5,o6,o7,c7,o8,c8,o9,o10,o11) =>
 bif decide (v43 < v42) then bif decide (List.length o11 + List.length (zf (List.replicate 1 (0:Int)) 0 (-1)) ≤ lim) then k1 (v42,wI (v43 + 1),o0_0,o1_0,o2,c2,o3,c3,o4,o5,o6,o7,c7,o8,c8,o9,o10,o11 ++ zf (List.replicate 1 (0:Int)) 0 (-1)) else none else bif decide (c7 = List.length o7) then bif decide (c8 = List.length o8) then some ((o1_0,o7,o8,o9,o10,o11,()),0,()) else none else none
abbrev zeC (K:Nat):zez→Option (zd × (Int × Unit)):=zk zeB K
theorem zCr (K:Nat):∀ n,evV Ed8 K Tryz.f62 3 (ch [zx,tI]) [1,1,1,1,1,0,1,0] [] zrX n = zk zeB n:=zt fun n1 (v42,v43,o0_0,o1_0,o2,c2,o3,c3,o4,o5,o6,o7,c7,o8,c8,o9,o10,o11)=>by kernel_rfl
def zb1 (L1:zez→Option (zd × (Int × Unit))) (k0:zeA→Option (zd × (Int × Unit))):zeA→Option (zd × (Int × Unit)):=fun (v18,v19,v20,o0,o1_0,o2_0,o3,c3,o4,c4,o5,o6,o7,o8,c8,o9,c9,o10,o11,o12) =>
 bif decide (v20 < v19) then inR v20 ((List.length v18):Int) (Option.bind (zgW (o0,ix va v18 v20,())) fun q2=>bif decide (List.length o8 + List.length [(q2.1.1,q2.1.2.1,q2.1.2.2.1,q2.1.2.2.2.1,q2.1.2.2.2.2.1,q2.1.2.2.2.2.2.1,q2.1.2.2.2.2.2.2.1,q2.1.2.2.2.2.2.2.2.1,q2.1.2.2.2.2.2.2.2.2.1,())] ≤ lim) then bif decide (c8 = List.length o8) then k0 (v18,v19,wI (v20 + 1),o0,o1_0,o2_0,o3,c3,o4,c4,o5,o6,o7,o8 ++ [(q2.1.1,q2.1.2.1,q2.1.2.2.1,q2.1.2.2.2.1,q2.1.2.2.2.2.1,q2.1.2.2.2.2.2.1,q2.1.2.2.2.2.2.2.1,q2.1.2.2.2.2.2.2.2.1,q2.1.2.2.2.2.2.2.2.2.1,())],c8 + (0 + 1),o9,c9,o10,o11,o12) else none else none) else bif decide (0 < ((List.length o8):Int)) then bif decide (c8 ≤ Int.toNat 0) then bif decide (0 < ((List.length (ix zg o8 0).1):Int)) then none else none else bif decide (0 < ((List.length (ix zg o8 0).1):Int)) then L1 (((List.length o0.2.1):Int),0,o1_0,o2_0,o3,c3,o4,c4,o5,o6,o7,List.set o8 (Int.toNat 0) (List.set (ix zg o8 0).1 (Int.toNat 0) (true,ByteArray.mk #[112,108,97,122,97],(ze qn).2.2),(ix zg o8 0).2),c8,o9,c9,o10,o11,o12) else none else none
abbrev zrY (K:Nat):zeA→Option (zd × (Int × Unit)):=zk (fun k0=>zb1 (zeC K) k0) K
theorem zCs (K:Nat):∀ n,evV Ed8 K Tryz.f62 3 (ch [zx,tI]) [1,1,1,0,1,0] [] zCq n = zk (fun k0=>zb1 (zeC K) k0) n:=zhC (B:=fun L1 k0=>zb1 L1 k0) (V1:=fun n0=>evV Ed8 K Tryz.f62 3 (ch [zx,tI]) [1,1,1,1,1,0,1,0] [] zrX K) (W1:=fun k0=>(zeC K)) (fun n0=>zCr K K) fun n0 (v18,v19,v20,o0,o1_0,o2_0,o3,c3,o4,c4,o5,o6,o7,o8,c8,o9,c9,o10,o11,o12)=>by kernel_rfl
def zkb (L0:zeA→Option (zd × (Int × Unit))):(za × Unit)→Option (zd × (Int × Unit)):=fun (x0,()) =>
 Option.bind (jO (x0,())) fun q0=>bif q0.1 then Option.bind (zlH (x0,())) fun q1=>bif decide (0 ≤ x0.2.2.2.2.2.1) then bif decide (x0.2.2.2.2.2.1 ≤ x0.2.2.2.2.2.1) then bif decide (x0.2.2.2.2.2.1 ≤ (↑lim:Int)) then L0 (x0.2.2.2.2.1,((List.length x0.2.2.2.2.1):Int),0,x0,0,0,[],0,[],0,[],[],[],[],0,q1.1,List.length q1.1,List.replicate (Int.toNat x0.2.2.2.2.2.1) (ze zq),[],[]) else none else none else none else some ((0,[],[],[],[],[],()),1,())
def zgN:(za × Unit)→Option (zd × Int × Unit):=zkb (zrY K0)
abbrev zvE:Fun:=⟨62,(ch [zl]),(ch [zx,tI]),3,zgN⟩
theorem zGt:Sq zvE:=ml8 (d:=true) (S:=fun K=>zkb (zrY K)) Tryz.func62 (by kernel_rfl) (fun K=>tr1 (T:=zkb) (zCs K K) fun (x0,())=>by kernel_rfl) rfl
def zeK:(za × (Int × (Int × Unit)))→Option (Bool × Unit):=fun (x0,x1,x2,()) =>
 Option.bind (yg (x0,x1,())) fun q0=>bif q0.1 then Option.bind (yg (x0,x2,())) fun q1=>bif q1.1 then inR x1 ((List.length x0.1):Int) (inR x2 ((List.length x0.1):Int) (Option.bind (y3 (ix zA x0.1 x1,ix zA x0.1 x2,())) fun q2=>bif q2.1 then some (true,()) else some (false,()))) else some (false,()) else some (false,())
abbrev zvF:Fun:=⟨47,(ch [zl,tI,tI]),(ch [.bool]),0,zeK⟩
theorem zGu:Sq zvF:=ms8 (d:=false) (K:=0) Tryz.func47 (by kernel_rfl) (funext fun (x0,x1,x2,())=>by kernel_rfl)
abbrev zbD:Type:=Int × (List zN) × Int × Int × za × List Int
abbrev zw1:zbD→St:=fun (v1,v14,v15,v16,o0,o1)=>St.mk [(1,.dat tI v1),(2,.bp 0 []),(5,.ow 1),(14,.dat (.sl jf) v14),(15,.dat tI v15),(16,.dat tI v16)] [.bx (.dat zl o0) false,.row tI o1 false]
def zbE (k0:zbD→Option ((List Int) × Unit)):zbD→Option ((List Int) × Unit):=fun (v1,v14,v15,v16,o0,o1) =>
 bif decide (v16 < v15) then inR v16 ((List.length v14):Int) (inR v1 ((List.length o0.1):Int) (Option.bind (zfj (ix zA o0.1 v1,())) fun q1=>Option.bind (jq (q1.1,(ix zD v14 v16).1,())) fun q2=>bif q2.1 then bif decide (List.length o1 + List.length (zf (List.replicate 1 (0:Int)) 0 v16) ≤ lim) then k0 (v1,v14,v15,wI (v16 + 1),o0,o1 ++ zf (List.replicate 1 (0:Int)) 0 v16) else none else k0 (v1,v14,v15,wI (v16 + 1),o0,o1))) else some (o1,())
abbrev zmP (K:Nat):zbD→Option ((List Int) × Unit):=zk zbE K
theorem zw2 (K:Nat):∀ n,evV Es8 K Tryz.f74 0 (ch [(.sl tI)]) [1,1,1,0,1,0] [] zw1 n = zk zbE n:=zt fun n0 (v1,v14,v15,v16,o0,o1)=>by kernel_rfl
def zf1 (L0:zbD→Option ((List Int) × Unit)):(za × (Int × Unit))→Option ((List Int) × Unit):=fun (x0,x1,()) =>
 Option.bind (yg (x0,x1,())) fun q0=>bif q0.1 then L0 (x1,x0.2.2.2.1,((List.length x0.2.2.2.1):Int),0,x0,[]) else some ([],())
def yR:(za × Int × Unit)→Option ((List Int) × Unit):=zf1 (zmP K0)
abbrev zp5:Fun:=⟨74,(ch [zl,tI]),(ch [(.sl tI)]),0,yR⟩
theorem zAG:Sq zp5:=ml8 (d:=false) (S:=fun K=>zf1 (zmP K)) Tryz.func74 (by kernel_rfl) (fun K=>tr1 (T:=zf1) (zw2 K K) fun (x0,x1,())=>by kernel_rfl) rfl
def ze7:(za × (Int × Unit))→Option (Int × Unit):=fun (x0,x1,()) =>
 Option.bind (yg (x0,x1,())) fun q0=>bif q0.1 then Option.bind (zaU (x0.2.2.2.1,some fun z=>zaH (z.1,some x0,some x1,()),())) fun q1=>some (q1.1,()) else some ((-1),())
abbrev zoc:Fun:=⟨232,(ch [zl,tI]),(ch [tI]),0,ze7⟩
theorem zy0:Sq zoc:=ms8 (d:=false) (K:=0) Tryz.func232 (by kernel_rfl) (funext fun (x0,x1,())=>by kernel_rfl)
def zf2:(za × (Int × Unit))→Option (Int × Unit):=fun (x0,x1,()) =>
 Option.bind (jO (x0,())) fun q0=>bif q0.1 then Option.bind (ql (x1,0,wI (((List.length x0.2.2.2.1):Int) - 1),())) fun q1=>bif q1.1 then inR x1 ((List.length x0.2.2.2.1):Int) (Option.bind (zbl ((ix zD x0.2.2.2.1 x1).1,())) fun q2=>Option.bind (zg5 (x0,q2.1,())) fun q3=>some (q3.1,())) else some ((-1),()) else some ((-1),())
abbrev zp6:Fun:=⟨81,(ch [zl,tI]),(ch [tI]),0,zf2⟩
theorem zAH:Sq zp6:=ms8 (d:=false) (K:=0) Tryz.func81 (by kernel_rfl) (funext fun (x0,x1,())=>by kernel_rfl)
def zkc:(za × (Int × (zo × Unit)))→Option (Bool × Unit):=fun (x0,x1,x2,()) =>
 Option.bind (ziP (x0,x2,())) fun q0=>Option.bind (jq (q0.1,x1,())) fun q1=>bif q1.1 then some (true,()) else some (false,())
abbrev zvG:Fun:=⟨91,(ch [zl,tI,zn]),(ch [.bool]),0,zkc⟩
theorem zGv:Sq zvG:=ms8 (d:=false) (K:=0) Tryz.func91 (by kernel_rfl) (funext fun (x0,x1,x2,())=>by kernel_rfl)
abbrev L9:List Fun:=zp4 :: zvE :: zvF :: zp5 :: zoc :: zp6 :: zvG :: L8
theorem h9:Sds Tryz.prog E0 L9:=⟨zAF,zGt,zGu,zAG,zy0,zAH,zGv,h8⟩
theorem ms9 {d:Bool} {F:Fun} {f:Go.Func} {K:Nat} (hf:Tryz.prog.funcs[F.id]? = some f) (ho:jC f = true) (h:evF (En E0 d L9) K f F.md F.a F.r = F.spec):Sd Tryz.prog E0 F:=mkS h9 hf ho h
theorem ml9 {d:Bool} {F:Fun} {f:Go.Func} {S:Nat→F.a.I→Option F.r.I} (hf:Tryz.prog.funcs[F.id]? = some f) (ho:jC f = true) (h:∀ K,evF (En E0 d L9) K f F.md F.a F.r = S K) (e:S K0 = F.spec):Sd Tryz.prog E0 F:=mkS h9 hf ho ((h K0).trans e)
abbrev Es9:Env:=En E0 false L9
abbrev zcG:Type:=Bool × Int × Int × List (Option (Unit→Option (Bool × Unit)))
abbrev zy1:zcG→St:=fun (v6,v27,v28,o0)=>St.mk [(6,.dat .bool v6),(26,.ow 0),(27,.dat tI v27),(28,.dat tI v28)] [.row (.fn .unit (.pair .bool .unit)) o0 false]
def ze8 (k0:zcG→Option (Bool × Unit)):zcG→Option (Bool × Unit):=fun (v6,v27,v28,o0) =>
 bif decide (v28 < v27) then inR v28 ((List.length o0):Int) (Option.bind (List.getD o0 (Int.toNat v28) (ze (.fn .unit (.pair .bool .unit)))) fun q0=>Option.bind (q0 ()) fun q1=>bif q1.1 then k0 (true,v27,wI (v28 + 1),o0) else some (false,())) else some (v6,())
abbrev zod (K:Nat):zcG→Option (Bool × Unit):=zk ze8 K
theorem zy2 (K:Nat):∀ n,evV Es9 K Tryz.f30 0 (ch [.bool]) [1,0,1,1,1,0,1,0] [] zy1 n = zk ze8 n:=zt fun n0 (v6,v27,v28,o0)=>by kernel_rfl
def zk4 (L0:zcG→Option (Bool × Unit)):(za × (zd × Unit))→Option (Bool × Unit):=fun (x0,x1,()) =>
 L0 (true,((List.length (zf (zf (zf (zf (zf (zf (zf (List.replicate 7 (ze (.fn .unit (.pair .bool .unit)))) 0 (some fun z=>zbZ ((x0,x1,(ze qk).2.2),()))) 1 (some fun z=>zb0 ((x0,x1,(ze qk).2.2),()))) 2 (some fun z=>zbe ((x0,x1,(ze qk).2.2),()))) 3 (some fun z=>zev ((x0,x1,(ze qk).2.2),()))) 4 (some fun z=>zbc ((x0,x1,(ze qk).2.2),()))) 5 (some fun z=>zeu ((x0,x1,(ze qk).2.2),()))) 6 (some fun z=>zey ((x0,x1,(ze qk).2.2),())))):Int),0,[some fun z=>zbZ ((x0,x1,(ze qk).2.2),()),some fun z=>zb0 ((x0,x1,(ze qk).2.2),()),some fun z=>zbe ((x0,x1,(ze qk).2.2),()),some fun z=>zev ((x0,x1,(ze qk).2.2),()),some fun z=>zbc ((x0,x1,(ze qk).2.2),()),some fun z=>zeu ((x0,x1,(ze qk).2.2),()),some fun z=>zey ((x0,x1,(ze qk).2.2),())])
def zeD:(za × zd × Unit)→Option (Bool × Unit):=zk4 (zod K0)
abbrev zrZ:Fun:=⟨30,(ch [zl,zx]),(ch [.bool]),0,zeD⟩
theorem zCt:Sq zrZ:=ml9 (d:=false) (S:=fun K=>zk4 (zod K)) Tryz.func30 (by kernel_rfl) (fun K=>tr1 (T:=zk4) (zy2 K K) fun (x0,x1,())=>by kernel_rfl) rfl
def zc0:(za × (zd × (zo × Unit)))→Option (zd × (Int × Unit)):=fun (x0,x1,x2,()) =>
 Option.bind (zgN (x0,())) fun q0=>bif q0.2.1 != 0 then some ((0,[],[],[],[],[],()),1,()) else Option.bind (zbW (x2,())) fun q1=>bif q1.1 then Option.bind (zj3 (x0,x1,())) fun q2=>bif q2.1 then Option.bind (zeU (x1.2.1,q0.1.2.1,some fun z=>zbY (z.1,some x0,some x2,()),())) fun q3=>Option.bind (zfs (x1.2.2.1,q0.1.2.2.1,some fun z=>zgY (z.1,some x0,some x2,()),())) fun q4=>Option.bind (zgi (x1.2.2.2.2.2.1,q0.1.2.2.2.2.2.1,some fun z=>zgX (z.1,some (some fun z_1=>zbY (z_1.1,some x0,some x2,())),some x0,()),())) fun q5=>Option.bind (qR ((x1.1,q3.1,q4.1,x1.2.2.2.1,x1.2.2.2.2.1,q5.1,x1.2.2.2.2.2.2),())) fun q6=>some (q6.1,0,()) else some ((0,[],[],[],[],[],()),1,()) else some ((0,[],[],[],[],[],()),1,())
abbrev zvH:Fun:=⟨89,(ch [zl,zx,zn]),(ch [zx,tI]),0,zc0⟩
theorem zGw:Sq zvH:=ms9 (d:=false) (K:=0) Tryz.func89 (by kernel_rfl) (funext fun (x0,x1,x2,())=>by kernel_rfl)
abbrev zeE:Type:=(Option ((pMe × Unit)→Option (Bool × Unit))) × (List Int) × Int × Int × za × pMe × List Int
abbrev zCu:zeE→St:=fun (v3,v14,v15,v16,o0,o1,o2)=>St.mk [(3,.dat (.fn (.pair tMe .unit) (.pair .bool .unit)) v3),(4,.bp 0 []),(6,.bp 1 []),(9,.ow 2),(14,.dat (.sl tI) v14),(15,.dat tI v15),(16,.dat tI v16)] [.bx (.dat zl o0) false,.bx (.dat tMe o1) false,.row tI o2 false]
def zeF (k0:zeE→Option ((List Int) × Unit)):zeE→Option ((List Int) × Unit):=fun (v3,v14,v15,v16,o0,o1,o2) =>
 bif decide (v16 < v15) then inR v16 ((List.length v14):Int) (inR v16 ((List.length o0.2.1):Int) (bif v16 == o1.1 then k0 (v3,v14,v15,wI (v16 + 1),o0,o1,o2) else bif decide (ix (0:Int) v14 v16 < 0) then k0 (v3,v14,v15,wI (v16 + 1),o0,o1,o2) else Option.bind (zeK (o0,o1.2.1,ix (0:Int) o0.2.1 v16,())) fun q0=>bif q0.1 then Option.bind v3 fun q1=>Option.bind (q1 ((v16,ix (0:Int) o0.2.1 v16,ix (0:Int) v14 v16,(ze tMe).2.2.2),())) fun q2=>bif q2.1 then bif decide (List.length o2 + List.length (zf (List.replicate 1 (0:Int)) 0 v16) ≤ lim) then k0 (v3,v14,v15,wI (v16 + 1),o0,o1,o2 ++ zf (List.replicate 1 (0:Int)) 0 v16) else none else k0 (v3,v14,v15,wI (v16 + 1),o0,o1,o2) else k0 (v3,v14,v15,wI (v16 + 1),o0,o1,o2))) else some (o2,())
abbrev zk5 (K:Nat):zeE→Option ((List Int) × Unit):=zk zeF K
theorem zCv (K:Nat):∀ n,evV Es9 K Tryz.f69 0 (ch [(.sl tI)]) [1,0,1,1,0,1,0] [] zCu n = zk zeF n:=zt fun n0 (v3,v14,v15,v16,o0,o1,o2)=>by kernel_rfl
def zoT (L0:zeE→Option ((List Int) × Unit)):(za × (zd × (pMe × ((Option ((pMe × Unit)→Option (Bool × Unit))) × Unit))))→Option ((List Int) × Unit):=fun (x0,x1,x2,x3,()) =>
 L0 (x3,x1.2.2.2.2.2.1,((List.length x1.2.2.2.2.2.1):Int),0,x0,x2,[])
def zkd:(za × (zd × (pMe × ((Option ((pMe × Unit)→Option (Bool × Unit))) × Unit))))→Option ((List Int) × Unit):=zoT (zk5 K0)
abbrev zvI:Fun:=⟨69,(ch [zl,zx,tMe,(.fn (ch [tMe]) (ch [.bool]))]),(ch [(.sl tI)]),0,zkd⟩
theorem zGx:Sq zvI:=ml9 (d:=false) (S:=fun K=>zoT (zk5 K)) Tryz.func69 (by kernel_rfl) (fun K=>tr1 (T:=zoT) (zCv K K) fun (x0,x1,x2,x3,())=>by kernel_rfl) rfl
def zf3:(za × ((List (List Int)) × (Int × (Int × Unit))))→Option (Bool × Unit):=fun (x0,x1,x2,x3,()) =>
 Option.bind (zdJ (x0,x1,())) fun q0=>bif q0.1 then Option.bind (zdU (x2,((List.length x0.2.2.1):Int),())) fun q1=>bif q1.1 then Option.bind (zdU (x3,((List.length x0.1):Int),())) fun q2=>bif q2.1 then inR x2 ((List.length x0.2.2.1):Int) (inR x3 ((List.length x0.1):Int) (bif decide ((ix zfi x0.2.2.1 x2).2.2.1 ≥ (ix zA x0.1 x3).1) then Option.bind (yR (x0,x3,())) fun q3=>Option.bind (qo (q3.1,some fun z=>zbt (z.1,some x1,some x2,()),())) fun q4=>bif q4.1 then some (false,()) else some (true,()) else some (false,()))) else some (false,()) else some (false,()) else some (false,())
abbrev zp7:Fun:=⟨233,(ch [zl,(.sl (.sl tI)),tI,tI]),(ch [.bool]),0,zf3⟩
theorem zAI:Sq zp7:=ms9 (d:=false) (K:=0) Tryz.func233 (by kernel_rfl) (funext fun (x0,x1,x2,x3,())=>by kernel_rfl)
abbrev zcH:Type:=(List Int) × Int × za × zo × List Int
abbrev zy3:zcH→St:=fun (v1,v8,o0,o1,o2)=>St.mk [(1,.dat (.sl tI) v1),(3,.bp 0 []),(5,.bp 1 []),(7,.ow 2),(8,.dat tI v8)] [.bx (.dat zl o0) false,.bx (.dat zn o1) false,.row tI o2 false]
def zcI (k0:zcH→Option ((List Int) × Unit)):zcH→Option ((List Int) × Unit):=fun (v1,v8,o0,o1,o2) =>
 bif decide (v8 < ((List.length v1):Int)) then inR v8 ((List.length v1):Int) (Option.bind (zkc (o0,ix (0:Int) v1 v8,o1,())) fun q0=>bif q0.1 then inR v8 ((List.length v1):Int) (bif decide (List.length o2 + List.length (zf (List.replicate 1 (0:Int)) 0 (ix (0:Int) v1 v8)) ≤ lim) then k0 (v1,wI (v8 + 1),o0,o1,o2 ++ zf (List.replicate 1 (0:Int)) 0 (ix (0:Int) v1 v8)) else none) else k0 (v1,wI (v8 + 1),o0,o1,o2)) else some (o2,())
abbrev zoe (K:Nat):zcH→Option ((List Int) × Unit):=zk zcI K
theorem zy4 (K:Nat):∀ n,evV Es9 K Tryz.f34 0 (ch [(.sl tI)]) [1,1,0,1,0] [] zy3 n = zk zcI n:=zt fun n0 (v1,v8,o0,o1,o2)=>by kernel_rfl
def zk6 (L0:zcH→Option ((List Int) × Unit)):(za × ((List Int) × (zo × Unit)))→Option ((List Int) × Unit):=fun (x0,x1,x2,()) =>
 L0 (x1,0,x0,x2,[])
def jh:(za × (List Int) × zo × Unit)→Option ((List Int) × Unit):=zk6 (zoe K0)
abbrev zr0:Fun:=⟨34,(ch [zl,(.sl tI),zn]),(ch [(.sl tI)]),0,jh⟩
theorem zCw:Sq zr0:=ml9 (d:=false) (S:=fun K=>zk6 (zoe K)) Tryz.func34 (by kernel_rfl) (fun K=>tr1 (T:=zk6) (zy4 K K) fun (x0,x1,x2,())=>by kernel_rfl) rfl
abbrev L10:List Fun:=zrZ :: zvH :: zvI :: zp7 :: zr0 :: L9
theorem h10:Sds Tryz.prog E0 L10:=⟨zCt,zGw,zGx,zAI,zCw,h9⟩
theorem zMy {d:Bool} {F:Fun} {f:Go.Func} {K:Nat} (hf:Tryz.prog.funcs[F.id]? = some f) (ho:jC f = true) (h:evF (En E0 d L10) K f F.md F.a F.r = F.spec):Sd Tryz.prog E0 F:=mkS h10 hf ho h
theorem zM9 {d:Bool} {F:Fun} {f:Go.Func} {S:Nat→F.a.I→Option F.r.I} (hf:Tryz.prog.funcs[F.id]? = some f) (ho:jC f = true) (h:∀ K,evF (En E0 d L10) K f F.md F.a F.r = S K) (e:S K0 = F.spec):Sd Tryz.prog E0 F:=mkS h10 hf ho ((h K0).trans e)
abbrev zNa:Env:=En E0 true L10
def ji:(za × (zd × (pMe × Unit)))→Option (Bool × Unit):=fun (x0,x1,x2,()) =>
 Option.bind (zeD (x0,x1,())) fun q0=>bif q0.1 then bif decide (x2.1 ≥ 0) then bif decide (x2.1 < ((List.length x0.2.1):Int)) then inR x2.1 ((List.length x0.2.1):Int) (bif x2.2.1 == ix (0:Int) x0.2.1 x2.1 then bif decide (x2.2.2.1 ≥ 0) then bif decide (x2.2.2.1 < ((List.length x0.2.2.1):Int)) then some (true,()) else some (false,()) else some (false,()) else some (false,())) else some (false,()) else some (false,()) else some (false,())
abbrev ztX:Fun:=⟨28,(ch [zl,zx,tMe]),(ch [.bool]),0,ji⟩
theorem zEJ:Sq ztX:=zMy (d:=false) (K:=0) Tryz.func28 (by kernel_rfl) (funext fun (x0,x1,x2,())=>by kernel_rfl)
def zc1:(za × (zd × (zd × (zo × Unit))))→Option (Bool × Unit):=fun (x0,x1,x2,x3,()) =>
 Option.bind (zc0 (x0,x1,x3,())) fun q0=>Option.bind (zc0 (x0,x2,x3,())) fun q1=>bif q0.2.1 == 0 then bif q1.2.1 == 0 then Option.bind (ziD (q0.1,q1.1,())) fun q2=>bif q2.1 then some (true,()) else some (false,()) else some (false,()) else some (false,())
abbrev zvJ:Fun:=⟨33,(ch [zl,zx,zx,zn]),(ch [.bool]),0,zc1⟩
theorem zGy:Sq zvJ:=zMy (d:=false) (K:=0) Tryz.func33 (by kernel_rfl) (funext fun (x0,x1,x2,x3,())=>by kernel_rfl)
abbrev zfC:Type:=Int × Int × Int × (List (List Int)) × Int × Int × List (List Int) × Nat
abbrev zEK:zfC→St:=fun (v4,v14,v15,v92,v93,v94,o0,c0)=>St.mk [(4,.dat tI v4),(14,.dat tI v14),(15,.dat tI v15),(17,.ow 0),(92,.dat (.sl (.sl tI)) v92),(93,.dat tI v93),(94,.dat tI v94)] [.drow (.sl tI) o0 c0]
def zfD (k0:zfC→Option ((List (List Int)) × (Int × Unit))):zfC→Option ((List (List Int)) × (Int × Unit)):=fun (v4,v14,v15,v92,v93,v94,o0,c0) =>
 bif decide (v94 < v93) then inR v94 ((List.length v92):Int) (Option.bind (yL (List.getD v92 (Int.toNat v94) ([]:List Int),())) fun q8=>bif decide (List.length o0 + List.length [q8.1] ≤ lim) then bif decide (c0 = List.length o0) then k0 (v4,v14,v15,v92,v93,wI (v94 + 1),o0 ++ [q8.1],c0 + (0 + 1)) else none else none) else inR v14 ((List.length o0):Int) (bif decide (c0 ≤ Int.toNat v14) then inR v4 ((List.length (List.getD o0 (Int.toNat v14) ([]:List Int))):Int) none else inR v4 ((List.length (List.getD o0 (Int.toNat v14) ([]:List Int))):Int) (some (List.set o0 (Int.toNat v14) (List.set (List.getD o0 (Int.toNat v14) ([]:List Int)) (Int.toNat v4) v15),0,())))
abbrev ziQ (K:Nat):zfC→Option ((List (List Int)) × (Int × Unit)):=zk zfD K
theorem zEL (K:Nat):∀ n,evV zNa K Tryz.f127 0 (ch [(.sl (.sl tI)),tI]) [1,1,1,1,1,1,1,1,0,1,0] [] zEK n = zk zfD n:=zt fun n0 (v4,v14,v15,v92,v93,v94,o0,c0)=>by kernel_rfl
def zlI (L0:zfC→Option ((List (List Int)) × (Int × Unit))):(za × ((List (List Int)) × (Int × (Int × (Int × ((Option ((Int × (Bool × Unit))→Option (Int × (Int × Unit)))) × Unit))))))→Option ((List (List Int)) × (Int × Unit)):=fun (x0,x1,x2,x3,x4,x5,()) =>
 Option.bind (zdJ (x0,x1,())) fun q0=>bif q0.1 then Option.bind (zdU (x2,((List.length x0.1):Int),())) fun q1=>bif q1.1 then Option.bind (zdU (x3,((List.length x0.2.2.1):Int),())) fun q2=>bif q2.1 then Option.bind (zdU (x4,((List.length x0.2.2.1):Int),())) fun q3=>bif q3.1 then Option.bind (ze7 (x0,x2,())) fun q4=>bif decide (q4.1 < 0) then some ([],17,()) else Option.bind (zf3 (x0,x1,x3,x2,())) fun q5=>bif q5.1 then inR q4.1 ((List.length x1):Int) (inR x3 ((List.length (List.getD x1 (Int.toNat q4.1) ([]:List Int))):Int) (bif List.getD (List.getD x1 (Int.toNat q4.1) ([]:List Int)) (Int.toNat x3) (0:Int) != 2 then some ([],5,()) else inR q4.1 ((List.length x1):Int) (inR x4 ((List.length (List.getD x1 (Int.toNat q4.1) ([]:List Int))):Int) (inR q4.1 ((List.length x0.2.2.2.1):Int) (bif (ix zD x0.2.2.2.1 q4.1).2.1 == x4 then Option.bind x5 fun q6=>Option.bind (q6 (List.getD (List.getD x1 (Int.toNat q4.1) ([]:List Int)) (Int.toNat x4) (0:Int),true,())) fun q7=>bif q7.2.1 != 0 then some ([],q7.2.1,()) else L0 (x4,q4.1,q7.1,x1,((List.length x1):Int),0,[],0) else Option.bind x5 fun q9=>Option.bind (q9 (List.getD (List.getD x1 (Int.toNat q4.1) ([]:List Int)) (Int.toNat x4) (0:Int),false,())) fun q10=>bif q10.2.1 != 0 then some ([],q10.2.1,()) else L0 (x4,q4.1,q10.1,x1,((List.length x1):Int),0,[],0)))))) else some ([],5,()) else some ([],1,()) else some ([],1,()) else some ([],1,()) else some ([],1,())
def zf4:(za × ((List (List Int)) × (Int × (Int × (Int × ((Option ((Int × Bool × Unit)→Option (Int × Int × Unit))) × Unit))))))→Option ((List (List Int)) × Int × Unit):=zlI (ziQ K0)
abbrev zy5:Fun:=⟨127,(ch [zl,(.sl (.sl tI)),tI,tI,tI,(.fn (ch [tI,.bool]) (ch [tI,tI]))]),(ch [(.sl (.sl tI)),tI]),0,zf4⟩
theorem zIm:Sq zy5:=zM9 (d:=true) (S:=fun K=>zlI (ziQ K)) Tryz.func127 (by kernel_rfl) (fun K=>tr1 (T:=zlI) (zEL K K) fun (x0,x1,x2,x3,x4,x5,())=>by kernel_rfl) rfl
abbrev L11:List Fun:=ztX :: zvJ :: zy5 :: L10
theorem h11:Sds Tryz.prog E0 L11:=⟨zEJ,zGy,zIm,h10⟩
theorem zoU {d:Bool} {F:Fun} {f:Go.Func} {K:Nat} (hf:Tryz.prog.funcs[F.id]? = some f) (ho:jC f = true) (h:evF (En E0 d L11) K f F.md F.a F.r = F.spec):Sd Tryz.prog E0 F:=mkS h11 hf ho h
def y5:(za × (zd × (pMe × (Int × (Int × (ByteArray × Unit))))))→Option (zd × (Int × Unit)):=fun (x0,x1,x2,x3,x4,x5,()) =>
 Option.bind (ji (x0,x1,x2,())) fun q0=>bif q0.1 then bif decide (x3 < 0) then some ((0,[],[],[],[],[],()),1,()) else bif decide (x3 ≥ ((List.length x0.1):Int)) then some ((0,[],[],[],[],[],()),1,()) else bif decide (x4 < 0) then some ((0,[],[],[],[],[],()),1,()) else bif decide (x4 ≥ ((List.length x0.2.2.1):Int)) then some ((0,[],[],[],[],[],()),1,()) else Option.bind (zeK (x0,x2.2.1,x3,())) fun q1=>bif q1.1 then inR x3 ((List.length x1.2.1):Int) (Option.bind (zlF ((ix zg x1.2.1 x3).2.2.2.1,((ze zu).1,x2.2.1,x2.2.2.1,x4,x5,(ze zu).2.2.2.2.2),())) fun q2=>Option.bind (qR (x1,())) fun q3=>bif q2.2.2.1 == 0 then inR x3 ((List.length q3.1.2.1):Int) (some ((u1 q3.1 (List.set q3.1.2.1 (Int.toNat x3) (u3 (ix zg q3.1.2.1 x3) q2.1))),0,())) else bif q2.2.2.1 == 2 then some ((0,[],[],[],[],[],()),q2.2.2.1,()) else bif x3 == x2.2.1 then some ((0,[],[],[],[],[],()),q2.2.2.1,()) else some (q3.1,0,())) else some ((0,[],[],[],[],[],()),5,()) else some ((0,[],[],[],[],[],()),1,())
abbrev zvK:Fun:=⟨8,(ch [zl,zx,tMe,tI,tI,.str]),(ch [zx,tI]),0,y5⟩
theorem zGz:Sq zvK:=zoU (d:=true) (K:=0) Tryz.func8 (by kernel_rfl) (funext fun (x0,x1,x2,x3,x4,x5,())=>by kernel_rfl)
def vm:(za × (zd × (pMe × Unit)))→Option ((List Int) × (Int × Unit)):=fun (x0,x1,x2,()) =>
 Option.bind (ji (x0,x1,x2,())) fun q0=>bif q0.1 then Option.bind (zdt (x1,x2,())) fun q1=>Option.bind (zkG (q1.1,x2.2.2.1,())) fun q2=>some (q2.1,0,()) else some ([],1,())
abbrev ztY:Fun:=⟨14,(ch [zl,zx,tMe]),(ch [(.sl tI),tI]),0,vm⟩
theorem zEM:Sq ztY:=zoU (d:=false) (K:=0) Tryz.func14 (by kernel_rfl) (funext fun (x0,x1,x2,())=>by kernel_rfl)
def vo:(za × (zd × (pMe × (Int × Unit))))→Option (zm × (Int × Unit)):=fun (x0,x1,x2,x3,()) =>
 Option.bind (ji (x0,x1,x2,())) fun q0=>bif q0.1 then Option.bind (zdt (x1,x2,())) fun q1=>Option.bind (ziI (q1.1,x3,x2.2.2.1,())) fun q2=>some q2 else some ((false,0,0,0,ByteArray.mk #[],()),1,())
abbrev zr1:Fun:=⟨12,(ch [zl,zx,tMe,tI]),(ch [zu,tI]),0,vo⟩
theorem zCx:Sq zr1:=zoU (d:=false) (K:=0) Tryz.func12 (by kernel_rfl) (funext fun (x0,x1,x2,x3,())=>by kernel_rfl)
def za6:(za × (zd × (pMe × (Int × Unit))))→Option (zd × (Int × Unit)):=fun (x0,x1,x2,x3,()) =>
 Option.bind (ji (x0,x1,x2,())) fun q0=>bif q0.1 then Option.bind (zdt (x1,x2,())) fun q1=>Option.bind (zka (q1.1,x3,x2.2.2.1,())) fun q2=>bif q2.2.1 != 0 then some ((0,[],[],[],[],[],()),q2.2.1,()) else Option.bind (qR (x1,())) fun q3=>inR x2.2.1 ((List.length q3.1.2.1):Int) (some ((u1 q3.1 (List.set q3.1.2.1 (Int.toNat x2.2.1) (u3 (ix zg q3.1.2.1 x2.2.1) q2.1))),0,())) else some ((0,[],[],[],[],[],()),1,())
abbrev zvL:Fun:=⟨10,(ch [zl,zx,tMe,tI]),(ch [zx,tI]),0,za6⟩
theorem zGA:Sq zvL:=zoU (d:=true) (K:=0) Tryz.func10 (by kernel_rfl) (funext fun (x0,x1,x2,x3,())=>by kernel_rfl)
def zaW:(za × (zd × (pMe × (ByteArray × Unit))))→Option ((List Int) × (Int × Unit)):=fun (x0,x1,x2,x3,()) =>
 Option.bind (ji (x0,x1,x2,())) fun q0=>bif q0.1 then Option.bind (zcZ (x3,())) fun q1=>bif q1.1 then Option.bind (zkd (x0,x1,x2,some fun z=>zfw (z.1,some (some fun z_1=>vi (z_1.1,some x1,())),some x2,()),())) fun q2=>some (q2.1,0,()) else some ([],2,()) else some ([],1,())
abbrev zy6:Fun:=⟨20,(ch [zl,zx,tMe,.str]),(ch [(.sl tI),tI]),0,zaW⟩
theorem zIn:Sq zy6:=zoU (d:=false) (K:=0) Tryz.func20 (by kernel_rfl) (funext fun (x0,x1,x2,x3,())=>by kernel_rfl)
def yh:(za × (zd × (pMe × (Int × (ByteArray × Unit)))))→Option ((List Int) × (Int × Unit)):=fun (x0,x1,x2,x3,x4,()) =>
 Option.bind (ji (x0,x1,x2,())) fun q0=>bif q0.1 then Option.bind (zdu (x0,x3,())) fun q1=>bif q1.1 then Option.bind (yR (x0,x2.2.1,())) fun q2=>Option.bind (jq (q2.1,x3,())) fun q3=>bif q3.1 then Option.bind (zcZ (x4,())) fun q4=>bif q4.1 then Option.bind (zkd (x0,x1,x2,some zjF,())) fun q5=>some (q5.1,0,()) else some ([],2,()) else some ([],5,()) else some ([],1,()) else some ([],1,())
abbrev ztZ:Fun:=⟨22,(ch [zl,zx,tMe,tI,.str]),(ch [(.sl tI),tI]),0,yh⟩
theorem zEN:Sq ztZ:=zoU (d:=false) (K:=0) Tryz.func22 (by kernel_rfl) (funext fun (x0,x1,x2,x3,x4,())=>by kernel_rfl)
def zg6:(za × ((List (List Int)) × (Int × (Int × (Int × Unit)))))→Option ((List (List Int)) × (Int × Unit)):=fun (x0,x1,x2,x3,x4,()) =>
 Option.bind (zf4 (x0,x1,x2,x3,x4,some znQ,())) fun q0=>some q0
abbrev zr2:Fun:=⟨77,(ch [zl,(.sl (.sl tI)),tI,tI,tI]),(ch [(.sl (.sl tI)),tI]),0,zg6⟩
theorem zCy:Sq zr2:=zoU (d:=false) (K:=0) Tryz.func77 (by kernel_rfl) (funext fun (x0,x1,x2,x3,x4,())=>by kernel_rfl)
def ziR:(za × ((List (List Int)) × (Int × (Int × (Int × Unit)))))→Option ((List (List Int)) × (Int × Unit)):=fun (x0,x1,x2,x3,x4,()) =>
 Option.bind (zf4 (x0,x1,x2,x3,x4,some zpE,())) fun q0=>some q0
abbrev zt0:Fun:=⟨78,(ch [zl,(.sl (.sl tI)),tI,tI,tI]),(ch [(.sl (.sl tI)),tI]),0,ziR⟩
theorem zEO:Sq zt0:=zoU (d:=false) (K:=0) Tryz.func78 (by kernel_rfl) (funext fun (x0,x1,x2,x3,x4,())=>by kernel_rfl)
def ziS:(za × ((List (List Int)) × (Int × (Int × (Int × Unit)))))→Option ((List (List Int)) × (Int × Unit)):=fun (x0,x1,x2,x3,x4,()) =>
 Option.bind (zf4 (x0,x1,x2,x3,x4,some zpG,())) fun q0=>some q0
abbrev zt1:Fun:=⟨79,(ch [zl,(.sl (.sl tI)),tI,tI,tI]),(ch [(.sl (.sl tI)),tI]),0,ziS⟩
theorem zEP:Sq zt1:=zoU (d:=false) (K:=0) Tryz.func79 (by kernel_rfl) (funext fun (x0,x1,x2,x3,x4,())=>by kernel_rfl)
def vN:(za × (zd × (pMe × (Int × Unit))))→Option ((List Int) × (Int × Unit)):=fun (x0,x1,x2,x3,()) =>
 Option.bind (ji (x0,x1,x2,())) fun q0=>bif q0.1 then Option.bind (zdu (x0,x3,())) fun q1=>bif q1.1 then Option.bind (zf2 (x0,x3,())) fun q2=>Option.bind (zeK (x0,q2.1,x2.2.1,())) fun q3=>bif q3.1 then inR x3 ((List.length x1.2.2.1):Int) (Option.bind (yL (List.getD x1.2.2.1 (Int.toNat x3) ([]:List Int),())) fun q4=>some (q4.1,0,())) else some ([],5,()) else some ([],1,()) else some ([],1,())
abbrev zp8:Fun:=⟨26,(ch [zl,zx,tMe,tI]),(ch [(.sl tI),tI]),0,vN⟩
theorem zAJ:Sq zp8:=zoU (d:=false) (K:=0) Tryz.func26 (by kernel_rfl) (funext fun (x0,x1,x2,x3,())=>by kernel_rfl)
end
end Go.Proofs.YtkcakhbkoeimdaaGreatDoor
end
section
namespace Go.Proofs.YtkcakhbkoeimdaaGreatDoor
open Go.Ev
noncomputable section
abbrev L12:List Fun:=zvK :: ztY :: zr1 :: zvL :: zy6 :: ztZ :: zr2 :: zt0 :: zt1 :: zp8 :: L11
theorem h12:Sds Tryz.prog E0 L12:=⟨zGz,zEM,zCx,zGA,zIn,zEN,zCy,zEO,zEP,zAJ,h11⟩
theorem zNb {d:Bool} {F:Fun} {f:Go.Func} {K:Nat} (hf:Tryz.prog.funcs[F.id]? = some f) (ho:jC f = true) (h:evF (En E0 d L12) K f F.md F.a F.r = F.spec):Sd Tryz.prog E0 F:=mkS h12 hf ho h
def zdM:(za × (zd × (pMe × (Int × (Int × Unit)))))→Option (zd × (Int × Unit)):=fun (x0,x1,x2,x3,x4,()) =>
 Option.bind (ji (x0,x1,x2,())) fun q0=>bif q0.1 then bif x3 == 28 then Option.bind (zg6 (x0,x1.2.2.1,x2.2.1,x2.2.2.1,x4,())) fun q1=>bif q1.2.1 != 0 then some ((0,[],[],[],[],[],()),q1.2.1,()) else Option.bind (qR (x1,())) fun q2=>some ((u2 q2.1 q1.1),0,()) else bif x3 == 29 then Option.bind (ziR (x0,x1.2.2.1,x2.2.1,x2.2.2.1,x4,())) fun q3=>bif q3.2.1 != 0 then some ((0,[],[],[],[],[],()),q3.2.1,()) else Option.bind (qR (x1,())) fun q4=>some ((u2 q4.1 q3.1),0,()) else bif x3 == 30 then Option.bind (ziS (x0,x1.2.2.1,x2.2.1,x2.2.2.1,x4,())) fun q5=>bif q5.2.1 != 0 then some ((0,[],[],[],[],[],()),q5.2.1,()) else Option.bind (qR (x1,())) fun q6=>some ((u2 q6.1 q5.1),0,()) else some ((0,[],[],[],[],[],()),1,()) else some ((0,[],[],[],[],[],()),1,())
abbrev zt2:Fun:=⟨24,(ch [zl,zx,tMe,tI,tI]),(ch [zx,tI]),0,zdM⟩
theorem zEQ:Sq zt2:=zNb (d:=true) (K:=0) Tryz.func24 (by kernel_rfl) (funext fun (x0,x1,x2,x3,x4,())=>by kernel_rfl)
abbrev L13:List Fun:=zt2 :: L12
theorem h13:Sds Tryz.prog E0 L13:=⟨zEQ,h12⟩
theorem zMz {d:Bool} {F:Fun} {f:Go.Func} {K:Nat} (hf:Tryz.prog.funcs[F.id]? = some f) (ho:jC f = true) (h:evF (En E0 d L13) K f F.md F.a F.r = F.spec):Sd Tryz.prog E0 F:=mkS h13 hf ho h
def jP:Unit→Option (Bool × Unit):=fun () =>
 Option.bind (zrD ()) fun q0=>Option.bind (zgN (q0.1,())) fun q1=>bif q1.2.1 != 0 then some (false,()) else bif ((List.length q1.1.2.2.2.2.2.1):Int) != 3 then some (false,()) else bif decide (1 < ((List.length q1.1.2.2.2.2.2.1):Int)) then bif decide (2 < ((List.length (List.set q1.1.2.2.2.2.2.1 (Int.toNat 1) 0)):Int)) then Option.bind (y5 (q0.1,(u5 q1.1 (List.set (List.set q1.1.2.2.2.2.2.1 (Int.toNat 1) 0) (Int.toNat 2) 0)),(0,(ze tMe).2),2,0,ByteArray.mk #[104,105],())) fun q2=>Option.bind (y5 (q0.1,(u5 q1.1 (List.set (List.set q1.1.2.2.2.2.2.1 (Int.toNat 1) 0) (Int.toNat 2) 0)),(2,2,(ze tMe).2.2),0,0,ByteArray.mk #[104,105],())) fun q3=>Option.bind (vm (q0.1,q2.1,(2,2,(ze tMe).2.2),())) fun q4=>Option.bind (vo (q0.1,q2.1,(2,2,(ze tMe).2.2),0,())) fun q5=>Option.bind (za6 (q0.1,q2.1,(2,2,(ze tMe).2.2),0,())) fun q6=>Option.bind (zaW (q0.1,(u5 q1.1 (List.set (List.set q1.1.2.2.2.2.2.1 (Int.toNat 1) 0) (Int.toNat 2) 0)),(0,(ze tMe).2),ByteArray.mk #[104,105],())) fun q7=>Option.bind (zaW (q0.1,(u5 q1.1 (List.set (List.set q1.1.2.2.2.2.2.1 (Int.toNat 1) 0) (Int.toNat 2) 0)),(0,(ze tMe).2),ByteArray.mk #[32],())) fun q8=>Option.bind (yh (q0.1,(u5 q1.1 (List.set (List.set q1.1.2.2.2.2.2.1 (Int.toNat 1) 0) (Int.toNat 2) 0)),(1,1,(ze tMe).2.2),0,ByteArray.mk #[104,105],())) fun q9=>Option.bind (yh (q0.1,(u5 q1.1 (List.set (List.set q1.1.2.2.2.2.2.1 (Int.toNat 1) 0) (Int.toNat 2) 0)),(0,(ze tMe).2),0,ByteArray.mk #[104,105],())) fun q10=>Option.bind (zdM (q0.1,(u5 q1.1 (List.set (List.set q1.1.2.2.2.2.2.1 (Int.toNat 1) 0) (Int.toNat 2) 0)),(1,1,(ze tMe).2.2),28,1,())) fun q11=>Option.bind (vN (q0.1,q11.1,(2,2,(ze tMe).2.2),0,())) fun q12=>bif q2.2.1 != 0 then some (false,()) else bif q4.2.1 != 0 then some (false,()) else bif q6.2.1 != 0 then some (false,()) else bif q7.2.1 != 0 then some (false,()) else bif q9.2.1 != 0 then some (false,()) else bif q11.2.1 != 0 then some (false,()) else bif q12.2.1 != 0 then some (false,()) else bif ((List.length q12.1):Int) != 2 then some (false,()) else bif ((List.length q6.1.2.1):Int) != 3 then some (false,()) else bif q3.2.1 == 5 then bif ((List.length q4.1):Int) == 1 then bif ByteArray.toList q5.1.2.2.2.2.1 == ByteArray.toList (ByteArray.mk #[104,105]) then bif q5.2.1 == 0 then bif decide (2 < ((List.length q6.1.2.1):Int)) then bif decide (0 < ((List.length (ix zg q6.1.2.1 2).2.2.2.1):Int)) then bif (List.getD (ix zg q6.1.2.1 2).2.2.2.1 (Int.toNat 0) (ze zu)).1 then some (false,()) else Option.bind (qF (q7.1,zf (zf (List.replicate 2 (0:Int)) 0 1) 1 2,())) fun q13=>bif q13.1 then bif q8.2.1 == 2 then Option.bind (qF (q9.1,zf (List.replicate 1 (0:Int)) 0 2,())) fun q14=>bif q14.1 then bif q10.2.1 == 5 then bif decide (1 < ((List.length q12.1):Int)) then bif ix (0:Int) q12.1 1 == 1 then some (true,()) else some (false,()) else none else some (false,()) else some (false,()) else some (false,()) else some (false,()) else none else none else some (false,()) else some (false,()) else some (false,()) else some (false,()) else none else none
abbrev zr3:Fun:=⟨18,.unit,(ch [.bool]),0,jP⟩
theorem zCz:Sq zr3:=zMz (d:=true) (K:=0) Tryz.func18 (by kernel_rfl) (funext fun ()=>by kernel_rfl)
def ziT:(za × (zd × (pMe × (vq × Unit))))→Option (zd × (Int × Unit)):=fun (x0,x1,x2,x3,()) =>
 bif decide (x3.2.2.2.1 ≥ 28) then bif decide (x3.2.2.2.1 ≤ 30) then Option.bind (zdM (x0,x1,x2,x3.2.2.2.1,x3.2.1,())) fun q0=>some q0 else bif x3.2.2.2.1 == 1 then Option.bind (za6 (x0,x1,x2,x3.2.2.1,())) fun q1=>some q1 else Option.bind (y5 (x0,x1,x2,x3.1,x3.2.1,x3.2.2.2.2.1,())) fun q2=>some q2 else bif x3.2.2.2.1 == 1 then Option.bind (za6 (x0,x1,x2,x3.2.2.1,())) fun q3=>some q3 else Option.bind (y5 (x0,x1,x2,x3.1,x3.2.1,x3.2.2.2.2.1,())) fun q4=>some q4
abbrev zy7:Fun:=⟨29,(ch [zl,zx,tMe,jI]),(ch [zx,tI]),0,ziT⟩
theorem zIo:Sq zy7:=zMz (d:=false) (K:=0) Tryz.func29 (by kernel_rfl) (funext fun (x0,x1,x2,x3,())=>by kernel_rfl)
abbrev L14:List Fun:=zr3 :: zy7 :: L13
theorem h14:Sds Tryz.prog E0 L14:=⟨zCz,zIo,h13⟩
theorem zNc {d:Bool} {F:Fun} {f:Go.Func} {K:Nat} (hf:Tryz.prog.funcs[F.id]? = some f) (ho:jC f = true) (h:evF (En E0 d L14) K f F.md F.a F.r = F.spec):Sd Tryz.prog E0 F:=mkS h14 hf ho h
def P_law31_TalkAlike:(za × (zd × (zd × (pMe × (vq × (zo × Unit))))))→Option (Bool × Unit):=fun (x0,x1,x2,x3,x4,x5,()) =>
 Option.bind (ji (x0,x1,x3,())) fun q0=>bif q0.1 then Option.bind (zeD (x0,x2,())) fun q1=>bif q1.1 then inR x3.2.1 ((List.length x0.1):Int) (Option.bind (y3 (ix zA x0.1 x3.2.1,x5,())) fun q2=>bif q2.1 then Option.bind (zc1 (x0,x1,x2,x5,())) fun q3=>bif q3.1 then Option.bind (ziT (x0,x1,x3,x4,())) fun q4=>Option.bind (ziT (x0,x2,x3,x4,())) fun q5=>bif q4.2.1 != q5.2.1 then some (false,()) else bif q4.2.1 == 0 then Option.bind (zc1 (x0,q4.1,q5.1,x5,())) fun q6=>bif q6.1 then Option.bind (vm (x0,x1,x3,())) fun q7=>Option.bind (vm (x0,x2,x3,())) fun q8=>Option.bind (vo (x0,x1,x3,x4.2.2.1,())) fun q9=>Option.bind (vo (x0,x2,x3,x4.2.2.1,())) fun q10=>Option.bind (zaW (x0,x1,x3,x4.2.2.2.2.1,())) fun q11=>Option.bind (zaW (x0,x2,x3,x4.2.2.2.2.1,())) fun q12=>Option.bind (yh (x0,x1,x3,x4.2.2.1,x4.2.2.2.2.1,())) fun q13=>Option.bind (yh (x0,x2,x3,x4.2.2.1,x4.2.2.2.2.1,())) fun q14=>Option.bind (vN (x0,x1,x3,x4.2.2.1,())) fun q15=>Option.bind (vN (x0,x2,x3,x4.2.2.1,())) fun q16=>bif q7.2.1 != q8.2.1 then some (false,()) else bif q9.2.1 != q10.2.1 then some (false,()) else bif q11.2.1 != q12.2.1 then some (false,()) else bif q13.2.1 != q14.2.1 then some (false,()) else bif q15.2.1 != q16.2.1 then some (false,()) else bif !eqI zu q9.1 q10.1 then some (false,()) else Option.bind (qF (q7.1,q8.1,())) fun q17=>bif q17.1 then Option.bind (qF (q15.1,q16.1,())) fun q18=>bif q18.1 then Option.bind (jP ()) fun q19=>bif q19.1 then Option.bind (jh (x0,q11.1,x5,())) fun q20=>Option.bind (jh (x0,q12.1,x5,())) fun q21=>Option.bind (qF (q20.1,q21.1,())) fun q22=>bif q22.1 then Option.bind (jh (x0,q13.1,x5,())) fun q23=>Option.bind (jh (x0,q14.1,x5,())) fun q24=>Option.bind (qF (q23.1,q24.1,())) fun q25=>bif q25.1 then some (true,()) else some (false,()) else some (false,()) else some (false,()) else some (false,()) else some (false,()) else some (false,()) else Option.bind (vm (x0,x1,x3,())) fun q26=>Option.bind (vm (x0,x2,x3,())) fun q27=>Option.bind (vo (x0,x1,x3,x4.2.2.1,())) fun q28=>Option.bind (vo (x0,x2,x3,x4.2.2.1,())) fun q29=>Option.bind (zaW (x0,x1,x3,x4.2.2.2.2.1,())) fun q30=>Option.bind (zaW (x0,x2,x3,x4.2.2.2.2.1,())) fun q31=>Option.bind (yh (x0,x1,x3,x4.2.2.1,x4.2.2.2.2.1,())) fun q32=>Option.bind (yh (x0,x2,x3,x4.2.2.1,x4.2.2.2.2.1,())) fun q33=>Option.bind (vN (x0,x1,x3,x4.2.2.1,())) fun q34=>Option.bind (vN (x0,x2,x3,x4.2.2.1,())) fun q35=>bif q26.2.1 != q27.2.1 then some (false,()) else bif q28.2.1 != q29.2.1 then some (false,()) else bif q30.2.1 != q31.2.1 then some (false,()) else bif q32.2.1 != q33.2.1 then some (false,()) else bif q34.2.1 != q35.2.1 then some (false,()) else bif !eqI zu q28.1 q29.1 then some (false,()) else Option.bind (qF (q26.1,q27.1,())) fun q36=>bif q36.1 then Option.bind (qF (q34.1,q35.1,())) fun q37=>bif q37.1 then Option.bind (jP ()) fun q38=>bif q38.1 then Option.bind (jh (x0,q30.1,x5,())) fun q39=>Option.bind (jh (x0,q31.1,x5,())) fun q40=>Option.bind (qF (q39.1,q40.1,())) fun q41=>bif q41.1 then Option.bind (jh (x0,q32.1,x5,())) fun q42=>Option.bind (jh (x0,q33.1,x5,())) fun q43=>Option.bind (qF (q42.1,q43.1,())) fun q44=>bif q44.1 then some (true,()) else some (false,()) else some (false,()) else some (false,()) else some (false,()) else some (false,()) else Option.bind (jP ()) fun q45=>bif q45.1 then some (true,()) else some (false,()) else Option.bind (jP ()) fun q46=>bif q46.1 then some (true,()) else some (false,())) else Option.bind (jP ()) fun q47=>bif q47.1 then some (true,()) else some (false,()) else Option.bind (jP ()) fun q48=>bif q48.1 then some (true,()) else some (false,())
abbrev zu9:Fun:=⟨6,(ch [zl,zx,zx,tMe,jI,zn]),(ch [.bool]),0,P_law31_TalkAlike⟩
theorem s_law31_TalkAlike:Sq zu9:=zNc (d:=false) (K:=0) Tryz.func6 (by kernel_rfl) (funext fun (x0,x1,x2,x3,x4,x5,())=>by kernel_rfl)
end
end Go.Proofs.YtkcakhbkoeimdaaGreatDoor
end
section
namespace Go.Proofs.YtkcakhbkoeimdaaGreatDoor
open Go.Ev
theorem zy8 {l:List Int} {g:Int × Unit→Option (Bool × Unit)} {p:Int→Bool} (hl:l.length ≤ Go.maxLen) (hp:∀ x ∈ l,g (x,()) = some (p x,())):vz (l,some g,()) = some (qu p l 0,()):=qx (τ:=tI) (B:=zaP) (fun _ _ _ _ _=>rfl) hl hp
theorem zaj {l:List Int} {g:Int × Unit→Option (Bool × Unit)} {p:Int→Bool} (hl:l.length ≤ Go.maxLen) (hp:∀ x ∈ l,g (x,()) = some (p x,())):qo (l,some g,()) = some (l.any p,()):=qr (τ:=tI) (f:=vz) (zy8 hl hp)
theorem zva {l:List zo} {g:zo × Unit→Option (Bool × Unit)} {p:zo→Bool} (hl:l.length ≤ Go.maxLen) (hp:∀ x ∈ l,g (x,()) = some (p x,())):zaO (l,some g,()) = some (qu p l 0,()):=qx (τ:=zn) (B:=zcP) (fun _ _ _ _ _=>rfl) hl hp
theorem ziU {l:List zo} {g:zo × Unit→Option (Bool × Unit)} {p:zo→Bool} (hl:l.length ≤ Go.maxLen) (hp:∀ x ∈ l,g (x,()) = some (p x,())):yu (l,some g,()) = some (l.any p,()):=qr (τ:=zn) (f:=zaO) (zva hl hp)
theorem zsy {l:List qO} {g:qO × Unit→Option (Bool × Unit)} {p:qO→Bool} (hl:l.length ≤ Go.maxLen) (hp:∀ x ∈ l,g (x,()) = some (p x,())):y0 (l,some g,()) = some (qu p l 0,()):=qx (τ:=qN) (B:=zbk) (fun _ _ _ _ _=>rfl) hl hp
theorem zoV {l:List qO} {g:qO × Unit→Option (Bool × Unit)} {p:qO→Bool} (hl:l.length ≤ Go.maxLen) (hp:∀ x ∈ l,g (x,()) = some (p x,())):zaV (l,some g,()) = some (l.any p,()):=qr (τ:=qN) (f:=y0) (zsy hl hp)
theorem zvb {l:List zi} {g:zi × Unit→Option (Bool × Unit)} {p:zi→Bool} (hl:l.length ≤ Go.maxLen) (hp:∀ x ∈ l,g (x,()) = some (p x,())):zaQ (l,some g,()) = some (qu p l 0,()):=qx (τ:=zp) (B:=zcR) (fun _ _ _ _ _=>rfl) hl hp
theorem zq6 {l:List zi} {g:zi × Unit→Option (Bool × Unit)} {p:zi→Bool} (hl:l.length ≤ Go.maxLen) (hp:∀ x ∈ l,g (x,()) = some (p x,())):jV (l,some g,()) = some (l.any p,()):=qr (τ:=zp) (f:=zaQ) (zvb hl hp)
theorem zw3 {l:List ja} {g:ja × Unit→Option (Bool × Unit)} {p:ja→Bool} (hl:l.length ≤ Go.maxLen) (hp:∀ x ∈ l,g (x,()) = some (p x,())):zbM (l,some g,()) = some (qu p l 0,()):=qx (τ:=qn) (B:=zdp) (fun _ _ _ _ _=>rfl) hl hp
theorem zsz {l:List ja} {g:ja × Unit→Option (Bool × Unit)} {p:ja→Bool} (hl:l.length ≤ Go.maxLen) (hp:∀ x ∈ l,g (x,()) = some (p x,())):zcY (l,some g,()) = some (l.any p,()):=qr (τ:=qn) (f:=zbM) (zw3 hl hp)
theorem zw4 {l:List qb} {g:qb × Unit→Option (Bool × Unit)} {p:qb→Bool} (hl:l.length ≤ Go.maxLen) (hp:∀ x ∈ l,g (x,()) = some (p x,())):zbN (l,some g,()) = some (qu p l 0,()):=qx (τ:=zZ) (B:=zdr) (fun _ _ _ _ _=>rfl) hl hp
theorem zjn {l:List qb} {g:qb × Unit→Option (Bool × Unit)} {p:qb→Bool} (hl:l.length ≤ Go.maxLen) (hp:∀ x ∈ l,g (x,()) = some (p x,())):jm (l,some g,()) = some (l.any p,()):=qr (τ:=zZ) (f:=zbN) (zw4 hl hp)
theorem zmQ {l:List zm} {g:zm × Unit→Option (Bool × Unit)} {p:zm→Bool} (hl:l.length ≤ Go.maxLen) (hp:∀ x ∈ l,g (x,()) = some (p x,())):yC (l,some g,()) = some (qu p l 0,()):=qx (τ:=zu) (B:=zds) (fun _ _ _ _ _=>rfl) hl hp
theorem zjo {l:List zm} {g:zm × Unit→Option (Bool × Unit)} {p:zm→Bool} (hl:l.length ≤ Go.maxLen) (hp:∀ x ∈ l,g (x,()) = some (p x,())):jo (l,some g,()) = some (l.any p,()):=qr (τ:=zu) (f:=yC) (zmQ hl hp)
theorem zvc {l:List zw} {g:zw × Unit→Option (Bool × Unit)} {p:zw→Bool} (hl:l.length ≤ Go.maxLen) (hp:∀ x ∈ l,g (x,()) = some (p x,())):zaR (l,some g,()) = some (qu p l 0,()):=qx (τ:=zz) (B:=zcU) (fun _ _ _ _ _=>rfl) hl hp
theorem ziV {l:List zw} {g:zw × Unit→Option (Bool × Unit)} {p:zw→Bool} (hl:l.length ≤ Go.maxLen) (hp:∀ x ∈ l,g (x,()) = some (p x,())):qZ (l,some g,()) = some (l.any p,()):=qr (τ:=zz) (f:=zaR) (zvc hl hp)
theorem zvd {l:List zr} {g:zr × Unit→Option (Bool × Unit)} {p:zr→Bool} (hl:l.length ≤ Go.maxLen) (hp:∀ x ∈ l,g (x,()) = some (p x,())):zaS (l,some g,()) = some (qu p l 0,()):=qx (τ:=zq) (B:=zcV) (fun _ _ _ _ _=>rfl) hl hp
theorem zq7 {l:List zr} {g:zr × Unit→Option (Bool × Unit)} {p:zr→Bool} (hl:l.length ≤ Go.maxLen) (hp:∀ x ∈ l,g (x,()) = some (p x,())):jW (l,some g,()) = some (l.any p,()):=qr (τ:=zq) (f:=zaS) (zvd hl hp)
theorem zve {l:List zH} {g:zH × Unit→Option (Bool × Unit)} {p:zH→Bool} (hl:l.length ≤ Go.maxLen) (hp:∀ x ∈ l,g (x,()) = some (p x,())):zaT (l,some g,()) = some (qu p l 0,()):=qx (τ:=zy) (B:=zcW) (fun _ _ _ _ _=>rfl) hl hp
theorem zq8 {l:List zH} {g:zH × Unit→Option (Bool × Unit)} {p:zH→Bool} (hl:l.length ≤ Go.maxLen) (hp:∀ x ∈ l,g (x,()) = some (p x,())):jX (l,some g,()) = some (l.any p,()):=qr (τ:=zy) (f:=zaT) (zve hl hp)
theorem zmR {l:List qg} {g:qg × Unit→Option (Bool × Unit)} {p:qg→Bool} (hl:l.length ≤ Go.maxLen) (hp:∀ x ∈ l,g (x,()) = some (p x,())):yB (l,some g,()) = some (qu p l 0,()):=qx (τ:=z4) (B:=zdq) (fun _ _ _ _ _=>rfl) hl hp
theorem zsA {l:List qg} {g:qg × Unit→Option (Bool × Unit)} {p:qg→Bool} (hl:l.length ≤ Go.maxLen) (hp:∀ x ∈ l,g (x,()) = some (p x,())):vl (l,some g,()) = some (l.any p,()):=qr (τ:=z4) (f:=yB) (zmR hl hp)
theorem zy9 {l:List j9} {g:j9 × Unit→Option (Bool × Unit)} {p:j9→Bool} (hl:l.length ≤ Go.maxLen) (hp:∀ x ∈ l,g (x,()) = some (p x,())):zcg (l,some g,()) = some (qu p l 0,()):=qx (τ:=zR) (B:=zeb) (fun _ _ _ _ _=>rfl) hl hp
theorem zt3 {l:List j9} {g:j9 × Unit→Option (Bool × Unit)} {p:j9→Bool} (hl:l.length ≤ Go.maxLen) (hp:∀ x ∈ l,g (x,()) = some (p x,())):vJ (l,some g,()) = some (l.any p,()):=qr (τ:=zR) (f:=zcg) (zy9 hl hp)
theorem zw5 {l:List Int} {g:Int × Unit→Option (Bool × Unit)} {p:Int→Bool} (hl:l.length ≤ Go.maxLen) (hp:∀ x ∈ l,g (x,()) = some (p x,())):zbK (l,some g,()) = some (qu p l 0,()):=qx (τ:=(Ty.int .u8)) (B:=zdm) (fun _ _ _ _ _=>rfl) hl hp
theorem zsB {l:List Int} {g:Int × Unit→Option (Bool × Unit)} {p:Int→Bool} (hl:l.length ≤ Go.maxLen) (hp:∀ x ∈ l,g (x,()) = some (p x,())):vk (l,some g,()) = some (l.any p,()):=qr (τ:=(Ty.int .u8)) (f:=zbK) (zw5 hl hp)
theorem zGB {l:List zi} {g:zi × Unit→Option (Bool × Unit)} {p:zi→Bool} (hl:l.length ≤ Go.maxLen) (hp:∀ x ∈ l,g (x,()) = some (p x,())):zgn (l,some g,()) = some (l.all p,()):=by
 have h:jV (l,some fun z=>zbL (z.1,some (some g),()),()) = some (l.any fun x=>!p x,()):=zq6 hl fun x hx=>by
  show Option.bind (g (x,())) (fun q=>bif q.1 then some (false,()) else some (true,())) = _
  rw [hp x hx]; cases p x <;> rfl
 show Option.bind (jV (l,some fun z=>zbL (z.1,some (some g),()),())) (fun q=>bif q.1 then some (false,()) else some (true,())) = _
 rw [h,← j5]; cases l.any fun x=>!p x <;> rfl
theorem zGC {l:List zr} {g:zr × Unit→Option (Bool × Unit)} {p:zr→Bool} (hl:l.length ≤ Go.maxLen) (hp:∀ x ∈ l,g (x,()) = some (p x,())):zgo (l,some g,()) = some (l.all p,()):=by
 have h:jW (l,some fun z=>zbO (z.1,some (some g),()),()) = some (l.any fun x=>!p x,()):=zq7 hl fun x hx=>by
  show Option.bind (g (x,())) (fun q=>bif q.1 then some (false,()) else some (true,())) = _
  rw [hp x hx]; cases p x <;> rfl
 show Option.bind (jW (l,some fun z=>zbO (z.1,some (some g),()),())) (fun q=>bif q.1 then some (false,()) else some (true,())) = _
 rw [h,← j5]; cases l.any fun x=>!p x <;> rfl
theorem zGD {l:List zH} {g:zH × Unit→Option (Bool × Unit)} {p:zH→Bool} (hl:l.length ≤ Go.maxLen) (hp:∀ x ∈ l,g (x,()) = some (p x,())):zdb (l,some g,()) = some (l.all p,()):=by
 have h:jX (l,some fun z=>zbP (z.1,some (some g),()),()) = some (l.any fun x=>!p x,()):=zq8 hl fun x hx=>by
  show Option.bind (g (x,())) (fun q=>bif q.1 then some (false,()) else some (true,())) = _
  rw [hp x hx]; cases p x <;> rfl
 show Option.bind (jX (l,some fun z=>zbP (z.1,some (some g),()),())) (fun q=>bif q.1 then some (false,()) else some (true,())) = _
 rw [h,← j5]; cases l.any fun x=>!p x <;> rfl
theorem zJ2 {l:List Int} {g:Int × Unit→Option (Bool × Unit)} {p:Int→Bool} (hl:l.length ≤ Go.maxLen) (hp:∀ x ∈ l,g (x,()) = some (p x,())):zar (l,some g,()) = some (l.all p,()):=by
 have h:qo (l,some fun z=>zc9 (z.1,some (some g),()),()) = some (l.any fun x=>!p x,()):=zaj hl fun x hx=>by
  show Option.bind (g (x,())) (fun q=>bif q.1 then some (false,()) else some (true,())) = _
  rw [hp x hx]; cases p x <;> rfl
 show Option.bind (qo (l,some fun z=>zc9 (z.1,some (some g),()),())) (fun q=>bif q.1 then some (false,()) else some (true,())) = _
 rw [h,← j5]; cases l.any fun x=>!p x <;> rfl
theorem zIp {l:List qg} {g:qg × Unit→Option (Bool × Unit)} {p:qg→Bool} (hl:l.length ≤ Go.maxLen) (hp:∀ x ∈ l,g (x,()) = some (p x,())):zhq (l,some g,()) = some (l.all p,()):=by
 have h:vl (l,some fun z=>zcd (z.1,some (some g),()),()) = some (l.any fun x=>!p x,()):=zsA hl fun x hx=>by
  show Option.bind (g (x,())) (fun q=>bif q.1 then some (false,()) else some (true,())) = _
  rw [hp x hx]; cases p x <;> rfl
 show Option.bind (vl (l,some fun z=>zcd (z.1,some (some g),()),())) (fun q=>bif q.1 then some (false,()) else some (true,())) = _
 rw [h,← j5]; cases l.any fun x=>!p x <;> rfl
theorem zza {l:List qb} {g:qb × Unit→Option (Bool × Unit)} {p:qb→Bool} (hl:l.length ≤ Go.maxLen) (hp:∀ x ∈ l,g (x,()) = some (p x,())):yO (l,some g,()) = some (l.all p,()):=by
 have h:jm (l,some fun z=>zcf (z.1,some (some g),()),()) = some (l.any fun x=>!p x,()):=zjn hl fun x hx=>by
  show Option.bind (g (x,())) (fun q=>bif q.1 then some (false,()) else some (true,())) = _
  rw [hp x hx]; cases p x <;> rfl
 show Option.bind (jm (l,some fun z=>zcf (z.1,some (some g),()),())) (fun q=>bif q.1 then some (false,()) else some (true,())) = _
 rw [h,← j5]; cases l.any fun x=>!p x <;> rfl
theorem zJ3 {l:List j9} {g:j9 × Unit→Option (Bool × Unit)} {p:j9→Bool} (hl:l.length ≤ Go.maxLen) (hp:∀ x ∈ l,g (x,()) = some (p x,())):ziC (l,some g,()) = some (l.all p,()):=by
 have h:vJ (l,some fun z=>zda (z.1,some (some g),()),()) = some (l.any fun x=>!p x,()):=zt3 hl fun x hx=>by
  show Option.bind (g (x,())) (fun q=>bif q.1 then some (false,()) else some (true,())) = _
  rw [hp x hx]; cases p x <;> rfl
 show Option.bind (vJ (l,some fun z=>zda (z.1,some (some g),()),())) (fun q=>bif q.1 then some (false,()) else some (true,())) = _
 rw [h,← j5]; cases l.any fun x=>!p x <;> rfl
theorem zIq {l:List zm} {g:zm × Unit→Option (Bool × Unit)} {p:zm→Bool} (hl:l.length ≤ Go.maxLen) (hp:∀ x ∈ l,g (x,()) = some (p x,())):yP (l,some g,()) = some (l.all p,()):=by
 have h:jo (l,some fun z=>zch (z.1,some (some g),()),()) = some (l.any fun x=>!p x,()):=zjo hl fun x hx=>by
  show Option.bind (g (x,())) (fun q=>bif q.1 then some (false,()) else some (true,())) = _
  rw [hp x hx]; cases p x <;> rfl
 show Option.bind (jo (l,some fun z=>zch (z.1,some (some g),()),())) (fun q=>bif q.1 then some (false,()) else some (true,())) = _
 rw [h,← j5]; cases l.any fun x=>!p x <;> rfl
theorem zGE {l:List zw} {g:zw × Unit→Option (Bool × Unit)} {p:zw→Bool} (hl:l.length ≤ Go.maxLen) (hp:∀ x ∈ l,g (x,()) = some (p x,())):qI (l,some g,()) = some (l.all p,()):=by
 have h:qZ (l,some fun z=>zbQ (z.1,some (some g),()),()) = some (l.any fun x=>!p x,()):=ziV hl fun x hx=>by
  show Option.bind (g (x,())) (fun q=>bif q.1 then some (false,()) else some (true,())) = _
  rw [hp x hx]; cases p x <;> rfl
 show Option.bind (qZ (l,some fun z=>zbQ (z.1,some (some g),()),())) (fun q=>bif q.1 then some (false,()) else some (true,())) = _
 rw [h,← j5]; cases l.any fun x=>!p x <;> rfl
theorem zvM {a b:List Int} (hl:a.length ≤ Go.maxLen):zba (a,b,()) = some (eqL tI a b,()):=za5 (τ:=tI) (B:=zhj) (fun _ _ _ _ _=>rfl) hl
theorem zCA {a b:List zr} (hl:a.length ≤ Go.maxLen):zhl (a,b,()) = some (eqL zq a b,()):=za5 (τ:=zq) (B:=zfu) (fun _ _ _ _ _=>rfl) hl
theorem zCB {a b:List zH} (hl:a.length ≤ Go.maxLen):zhn (a,b,()) = some (eqL zy a b,()):=za5 (τ:=zy) (B:=zfv) (fun _ _ _ _ _=>rfl) hl
theorem zER {a b:List ja} (hl:a.length ≤ Go.maxLen):zin (a,b,()) = some (eqL qn a b,()):=za5 (τ:=qn) (B:=zgj) (fun _ _ _ _ _=>rfl) hl
theorem zES {a b:List qg} (hl:a.length ≤ Go.maxLen):ziq (a,b,()) = some (eqL z4 a b,()):=za5 (τ:=z4) (B:=zgk) (fun _ _ _ _ _=>rfl) hl
theorem zET {a b:List qb} (hl:a.length ≤ Go.maxLen):zis (a,b,()) = some (eqL zZ a b,()):=za5 (τ:=zZ) (B:=zgl) (fun _ _ _ _ _=>rfl) hl
theorem zEU {a b:List zm} (hl:a.length ≤ Go.maxLen):ziu (a,b,()) = some (eqL zu a b,()):=za5 (τ:=zu) (B:=zgm) (fun _ _ _ _ _=>rfl) hl
theorem zCC {a b:List zw} (hl:a.length ≤ Go.maxLen):zhh (a,b,()) = some (eqL zz a b,()):=za5 (τ:=zz) (B:=zft) (fun _ _ _ _ _=>rfl) hl
theorem zIr {a b:List (List Int)} (hl:a.length ≤ Go.maxLen):zkW (a,b,()) = some (eqL (Ty.arr 4 tU) a b,()):=za5 (τ:=(Ty.arr 4 tU)) (B:=ziv) (fun _ _ _ _ _=>rfl) hl
theorem zGF {a b:List j9} (hl:a.length ≤ Go.maxLen):zjB (a,b,()) = some (eqL zR a b,()):=za5 (τ:=zR) (B:=zhi) (fun _ _ _ _ _=>rfl) hl
theorem zr4 {l:List zr} (hl:l.length * 80 ≤ 140737488355328):zbo (l,()) = some (l,()):=yo (τ:=zq) hl rfl
theorem zCD {l:List zr} (hl:l.length ≤ lim):zbo (l,()) = some (l,()):=zr4 (by unfold lim at hl; omega)
theorem zCE {l:List zH} (hl:l.length * 80 ≤ 140737488355328):zhe (l,()) = some (l,()):=yo (τ:=zy) hl rfl
theorem zoW {l:List Int} (hl:l.length * 8 ≤ 140737488355328):yL (l,()) = some (l,()):=yo (τ:=tI) hl rfl
theorem zvN {l:List Int} (hl:l.length ≤ lim):yL (l,()) = some (l,()):=zoW (by unfold lim at hl; omega)
theorem zEV {l:List (List Int)} (hl:l.length * 24 ≤ 140737488355328):zih (l,()) = some (l,()):=yo (τ:=(Ty.sl tI)) hl rfl
theorem zCF {l:List zi} (hl:l.length * 232 ≤ 140737488355328):zhf (l,()) = some (l,()):=yo (τ:=zp) hl rfl
theorem zEW {l:List ja} (hl:l.length * 24 ≤ 140737488355328):zii (l,()) = some (l,()):=yo (τ:=qn) hl rfl
theorem zEX {l:List qg} (hl:l.length * 48 ≤ 140737488355328):zij (l,()) = some (l,()):=yo (τ:=z4) hl rfl
theorem zEY {l:List qb} (hl:l.length * 56 ≤ 140737488355328):zik (l,()) = some (l,()):=yo (τ:=zZ) hl rfl
theorem zt4 {l:List zm} (hl:l.length * 48 ≤ 140737488355328):zap (l,()) = some (l,()):=yo (τ:=zu) hl rfl
theorem zt5 {l:List zm} (hl:l.length ≤ lim):zap (l,()) = some (l,()):=zt4 (by unfold lim at hl; omega)
theorem zr5 {l:List zw} (hl:l.length * 72 ≤ 140737488355328):zbn (l,()) = some (l,()):=yo (τ:=zz) hl rfl
theorem zr6 {l:List zw} (hl:l.length ≤ lim):zbn (l,()) = some (l,()):=zr5 (by unfold lim at hl; omega)
theorem zIs {l:List (List Int)} (hl:l.length * 32 ≤ 140737488355328):zkU (l,()) = some (l,()):=yo (τ:=(Ty.arr 4 tU)) hl rfl
theorem zGG {l:List j9} (hl:l.length * 16 ≤ 140737488355328):zjz (l,()) = some (l,()):=yo (τ:=zR) hl rfl
end Go.Proofs.YtkcakhbkoeimdaaGreatDoor
end
section
namespace Go.Proofs.YtkcakhbkoeimdaaGreatDoor
open Go.Ev
theorem zuz:∃ m,K0 = m + 8:=⟨Go.maxLen - 6,by unfold K0 Go.maxLen; omega⟩
def qf (x a b:Int):Bool:=decide (a ≤ x ∧ x ≤ b)
theorem zc2 (x a b:Int):ql (x,a,b,()) = some (qf x a b,()):=by
 simp only [ql,qf]; grind
def yS (a:zo):Bool:=qf a.1 0 3
theorem zg7 (a:zo):zbW (a,()) = some (yS a,()):=by
 simp only [zbW,yS,qf]; grind
theorem zIt (a:zo):zeh (a,()) = some (!yS a,()):=by
 simp only [zeh,zg7,Option.bind_some]; grind
def zk7 (x y:Int):Int:=bif decide (x < y) then -1 else bif decide (y < x) then 1 else 0
theorem zGH (x:Int):zao (x,()) = some (false,()):=by
 simp only [zao]; grind
theorem zAK (x:Int):vy (x,()) = some (false,()):=by
 simp only [vy]; grind
theorem zr7 (x y:Int):zaG (x,y,()) = some (zk7 x y,()):=by
 simp only [zaG,zGH,Option.bind_some,zk7]; grind
theorem zmS (x y:Int):yc (x,y,()) = some (zk7 x y,()):=by
 simp only [yc,zAK,Option.bind_some,zk7]; grind
def orV (a b:Int):Int:=bif a != 0 then a else b
theorem zMA (a b:Int):zdl ([a,b],()) = some (orV a b,()):=by
 show zk qU K0 (0,[a,b],2,0) = _
 obtain ⟨m,hm⟩:=zuz
 rw [hm]
 show qU (qU (qU (zk qU (m + 5)))) (0,[a,b],2,0) = _
 have h:qU (qU (qU (zk qU (m + 5)))) (0,[a,b],2,0) = bif a != 0 then some (a,()) else bif b != 0 then some (b,()) else some (0,()):=by kernel_rfl
 rw [h]; unfold orV; grind
def zw6 (a b:zo):Int:=orV (zk7 a.1 b.1) (zk7 a.2.1 b.2.1)
theorem zGI (a b:zo):zj4 (a,b,()) = some (zw6 a b,()):=by
 simp only [zj4,zr7,zmS,Option.bind_some]
 show Option.bind (zdl ([zk7 a.1 b.1,zk7 a.2.1 b.2.1],())) _ = _
 rw [zMA]; rfl
theorem zJ4 (a b:zo):eqI zn a b = ((a.1:Int) == b.1 && (a.2.1:Int) == b.2.1):=by
 show cond ((a.1:Int) == b.1) (cond ((a.2.1:Int) == b.2.1) true false) false = _
 cases ((a.1:Int) == b.1) <;> cases ((a.2.1:Int) == b.2.1) <;> rfl
def zf5 (l:List zo):Bool:=qf (l.length:Int) 1 8 && (eqI zn (l.getD 0 (ze zn)) (ze zn) && (l.all yS && qi (fun i=>decide (zw6 (l.getD (i - 1) (ze zn)) (l.getD i (ze zn)) < 0)) 1 (l.length - 1)))
theorem zK7 {α:Type} {d:α} {l:List α}:ix d l 0 = l.getD 0 d:=rfl
theorem zK8 (r:za):vM (r,()) = some (zf5 r.1,()):=by
 simp only [vM,zfY,zc2,Option.bind_some]
 by_cases hw:qf (List.length r.1:Int) 1 8 = true
 ·have hb:1 ≤ List.length r.1 ∧ List.length r.1 ≤ 8:=by unfold qf at hw; grind
  have hl:List.length r.1 ≤ Go.maxLen:=by unfold Go.maxLen; omega
  have hloop:zht K0 (1,r) = bif qi (fun i=>decide (zw6 (List.getD r.1 (i - 1) (ze zn)) (List.getD r.1 i (ze zn)) < 0)) 1 (List.length r.1 - 1) then some (true,()) else some (false,()) :=
   yY (i0:=1) hl hb.1 (fun i=>(i,r)) (fun k i h1 h2=>by
    simp only [zen]
    rw [ltT h2,zpb h1 (by omega),zC (by omega),zC h2,qe,Int.toNat_natCast,zGI]
    simp only [cond_true,Option.bind_some]; grind) (fun k=>by simp only [zen]; rw [ltF]; rfl)
  rw [ziU (p:=fun a=>!yS a) hl fun x _=>zIt x,hloop,zK7]
  have:=j5 (l:=r.1) (p:=yS)
  unfold zf5
  simp only [Option.bind_some]
  grind
 ·unfold zf5; grind
end Go.Proofs.YtkcakhbkoeimdaaGreatDoor
end
section
namespace Go.Proofs.YtkcakhbkoeimdaaGreatDoor
open Go.Ev
def small (c:Int):Bool:=decide (97 ≤ c ∧ c ≤ 122)
def zC6 (c:Int):Bool:=decide (48 ≤ c ∧ c ≤ 57)
theorem zHl (c:Int):zfl (c,()) = some (small c,()):=by
 simp only [zfl,small]; grind
theorem zLU (c:Int):zh5 (c,()) = some (zC6 c,()):=by
 simp only [zh5,zC6]; grind
def zC7 (c:Int):Bool:=small c || zC6 c
theorem zMB (c:Int):zfS (c,()) = some (zC7 c,()):=by
 simp only [zfS,zHl,zLU,Option.bind_some,zC7]; grind
def zfE (s:ByteArray):List Int:=List.map (fun b:UInt8=>(b.toNat:Int)) s.data.toList
def chr (s:ByteArray) (i:Nat):Int:=(((s.data.toList).getD i 0).toNat:Int)
theorem zk8 (s:ByteArray):(zfE s).length = s.size:=by unfold zfE; rw [List.length_map]; rfl
theorem zp9 (s:ByteArray):s.data.toList.length = s.size:=rfl
theorem zzb (s:ByteArray) (p:Int→Bool):(zfE s).all p = qi (fun i=>p (chr s i)) 0 s.size:=by
 rw [Bool.eq_iff_iff,qE,List.all_eq_true]
 have key:∀ i,i < s.size→(zfE s)[i]? = some (chr s i):=fun i hi=>by
  unfold zfE chr
  rw [List.getElem?_map,List.getElem?_eq_getElem (by rw [zp9]; exact hi)]
  simp [List.getD,zp9,hi]
 constructor
 ·intro h j _ hj
  exact h _ (List.mem_of_getElem? (key j (by omega)))
 ·intro h x hx
  obtain ⟨i,hi,rfl⟩:=List.mem_iff_getElem.1 hx
  rw [zk8] at hi
  have:=key i hi
  rw [List.getElem?_eq_getElem (by rw [zk8]; exact hi)] at this
  rw [Option.some.inj this]
  exact h i (by omega) (by omega)
theorem zzc {s:ByteArray} {g:Int × Unit→Option (Bool × Unit)} {p:Int→Bool} (hl:s.size ≤ Go.maxLen) (hp:∀ c,g (c,()) = some (p c,())):zlC (s,some g,()) = some ((zfE s).all p,()):=by
 have h:vk (zfE s,some fun z=>zh4 (z.1,some (some g),()),()) = some ((zfE s).any fun x=>!p x,()):=zsB (by rw [zk8]; exact hl) fun x hx=>by
  show Option.bind (g (x,())) (fun q=>bif q.1 then some (false,()) else some (true,())) = _
  rw [hp x]; cases p x <;> rfl
 show Option.bind (vk (zfE s,some fun z=>zh4 (z.1,some (some g),()),())) (fun q=>bif q.1 then some (false,()) else some (true,())) = _
 rw [h,← j5]; cases (zfE s).any fun x=>!p x <;> rfl
def zq9 (s:ByteArray):Bool:=decide (1 ≤ s.size) && (decide (s.size ≤ 12) && qi (fun i=>small (chr s i) || (decide (i ≠ 0) && zC6 (chr s i))) 0 s.size)
theorem zK9 (s:ByteArray):zq9 s = (decide (1 ≤ s.size) && (decide (s.size ≤ 12) && (small (chr s 0) && (zfE s).all zC7))):=by
 rw [zzb,zq9,Bool.eq_iff_iff]
 simp only [Bool.and_eq_true,decide_eq_true_eq,qE,zC7]
 constructor
 ·rintro ⟨h1,h2,h3⟩
  have:=h3 0 (by omega) (by omega)
  refine ⟨h1,h2,by grind,fun j h4 h5=>?_⟩
  have:=h3 j h4 h5
  grind
 ·rintro ⟨h1,h2,h3,h4⟩
  refine ⟨h1,h2,fun j h5 h6=>?_⟩
  have:=h4 j h5 h6
  by_cases e:j = 0
  ·subst e; grind
  ·grind
theorem zmT (s:ByteArray):zbC (s,()) = some (zq9 s,()):=by
 rw [zL]
 simp only [zbC]
 rw [zK9]
 by_cases h1:s.size < 1
 ·grind
 by_cases h2:s.size > 12
 ·grind
 rw [zzc (by unfold Go.maxLen; omega) zMB]
 have hc:((UInt8.toNat (List.getD s.data.toList (Int.toNat 0) 0):Nat):Int) = chr s 0:=rfl
 rw [hc,zHl]
 simp only [Option.bind_some]
 grind
def zkI (a:qO):Bool:=zq9 a.1 && (zq9 a.2.1 && qf a.2.2.1 0 3)
theorem zEZ (a:qO):zcu (a,()) = some (!zkI a,()):=by
 simp only [zcu,zmT,zc2,Option.bind_some,zkI]; grind
theorem y9 {α:Type} (d x:α):zf (List.replicate 1 d) 0 x = [x]:=rfl
theorem zbF {n:Nat} (h:n ≤ 1000000):decide (n ≤ lim) = true:=decide_eq_true (by unfold lim; omega)
theorem zGJ (r:za) (h:r.2.2.1.length ≤ 1000):zgg (r,()) = some (r.2.2.1.map (·.1),()):=by
 have hl:r.2.2.1.length ≤ Go.maxLen:=by unfold Go.maxLen; omega
 have:=jS (B:=yA) (α:=List ByteArray) (len:=r.2.2.1.length) hl (fun i o=>(r.2.2.1,(r.2.2.1.length:Int),i,o)) (fun i o=>some (o ++ (r.2.2.1.drop i).map (·.1),())) (fun i o=>o.length ≤ i) (fun k i s hi hI hk=>by
  simp only [yA]
  rw [ltT hi,zC hi,qe,y9,zbF (by simp; omega)]
  simp only [cond_true]
  rw [hk _ (by simp; omega),zab zfi hi]
  simp) (fun k s _=>by
  simp only [yA]
  rw [ltF,List.drop_of_length_le (Nat.le_refl _)]
  simp) [] (Nat.le_refl _)
 exact this
def zmU:List ByteArray→Bool
 | []=>true
 | x :: l=>!(l.any fun y=>eqI .str x y) && zmU l
theorem zuA (x y:ByteArray):eqI .str x y = (x.toList == y.toList):=rfl
theorem zJ5 (o:List (ByteArray × Int)) (x z:ByteArray) (v:Int):zaM .str (yJ .str o x v) z = (zaM .str o z || eqI .str z x):=by
 induction o with
 | nil=>simp only [yJ,zaM]; cases eqI .str z x <;> rfl
 | cons e o ih =>
  simp only [yJ,zaM]
  cases h:eqI .str x e.1 with
  | true =>
   simp only [cond_true,zaM]
   have:eqI .str z e.1 = eqI .str z x:=by rw [zuA] at *; rw [zuA]; have:=eq_of_beq h; rw [this]
   cases h2:eqI .str z e.1 with
   | true=>rfl
   | false=>rw [← this,h2]; simp
  | false =>
   simp only [cond_false,zaM,ih]
   cases eqI .str z e.1 <;> rfl
theorem zE0 (o:List (ByteArray × Int)) (x:ByteArray) (v:Int):(yJ .str o x v).length = o.length + (bif zaM .str o x then 0 else 1):=by
 induction o with
 | nil=>rfl
 | cons e o ih =>
  simp only [yJ,zaM]
  cases h:eqI .str x e.1 with
  | true=>simp only [cond_true,List.length_cons,Nat.add_zero]
  | false =>
   simp only [cond_false,List.length_cons,ih]
   generalize (bif zaM .str o x then 0 else 1) = n
   omega
def zra:List ByteArray→List (ByteArray × Int)→Nat
 | [],o=>o.length
 | x :: l,o=>zra l (yJ .str o x (wI (zcM .str (0:Int) o x + 1)))
theorem zHm:∀ (l:List ByteArray) (o:List (ByteArray × Int)),zra l o ≤ o.length + l.length
 | [],o=>Nat.le_refl _
 | x :: l,o=>by
  have h:=zHm l (yJ .str o x (wI (zcM .str (0:Int) o x + 1)))
  rw [zE0] at h
  simp only [zra,List.length_cons]
  cases hm:zaM .str o x <;> (rw [hm] at h; simp only [cond_true,cond_false] at h; omega)
theorem zHn:∀ (l:List ByteArray) (o:List (ByteArray × Int)),(zra l o == o.length + l.length) = (zmU l && l.all fun x=>!zaM .str o x)
 | [],o=>by simp [zra,zmU]
 | x :: l,o=>by
  have h:=zHm l (yJ .str o x (wI (zcM .str (0:Int) o x + 1)))
  have ih:=zHn l (yJ .str o x (wI (zcM .str (0:Int) o x + 1)))
  rw [zE0] at h ih
  simp only [zra,List.length_cons,zmU,List.all_cons]
  cases hm:zaM .str o x with
  | true =>
   rw [hm] at h
   simp only [cond_true] at h
   have:(zra l (yJ .str o x (wI (zcM .str (0:Int) o x + 1))) == o.length + (l.length + 1)) = false:=by
    simp only [beq_eq_false_iff_ne]; omega
   rw [this]
   simp
  | false =>
   rw [hm] at ih
   simp only [cond_false] at ih
   rw [show o.length + (l.length + 1) = o.length + 1 + l.length by omega,ih]
   simp only [zJ5,Bool.not_or,Bool.not_false,Bool.true_and]
   have:(l.all fun z=>!zaM .str o z && !eqI .str z x) = ((l.all fun z=>!zaM .str o z) && !(l.any fun y=>eqI .str x y)):=by
    rw [Bool.eq_iff_iff]
    simp only [List.all_eq_true,Bool.and_eq_true,Bool.not_eq_true',List.any_eq_false,Bool.not_eq_true]
    have hs:∀ z,eqI .str z x = eqI .str x z:=fun z=>by rw [zuA,zuA]; exact Bool.beq_comm
    grind
   rw [this]
   cases zmU l <;> cases (l.all fun z=>!zaM .str o z) <;> cases (l.any fun y=>eqI .str x y) <;> rfl
theorem zJ6 (m n:Nat):(((m:Nat):Int) == ((n:Nat):Int)) = (m == n):=by
 rw [Bool.eq_iff_iff]; simp only [beq_iff_eq]; omega
theorem zLV (l:List ByteArray) (h:l.length ≤ 1000):zl7 (l,()) = some (zmU l,()):=by
 have:=zsZ (B:=zdo) (l:=l) (α:=List (ByteArray × Int)) (ze .str) (fun i o=>(l,l,(l.length:Int),i,o)) (fun rest o=>some (zra rest o == l.length,())) (by unfold Go.maxLen; omega) (fun k i x rest s hi hx _ hr hk=>by
  simp only [zdo]
  rw [ltT hi,zC hi,Int.toNat_natCast,hx]
  simp only [cond_true]
  exact hk _) (fun k s=>by
  simp only [zdo]
  rw [ltF]
  simp only [cond_false,zra]
  rw [zJ6]
  cases s.length == l.length <;> rfl) []
 refine this.trans ?_
 have h2:=zHn l []
 simp only [List.length_nil,Nat.zero_add] at h2
 rw [h2]
 simp [zaM]
def zhN (l:List qO):Bool:=qf (l.length:Int) 1 8 && (l.all zkI && zmU (l.map (·.1)))
theorem zIu (r:za):jL (r,()) = some (zhN r.2.2.1,()):=by
 rw [zL]
 simp only [jL,zc2,Option.bind_some]
 unfold zhN
 by_cases hw:qf (List.length r.2.2.1:Int) 1 8 = true
 ·have hb:1 ≤ List.length r.2.2.1 ∧ List.length r.2.2.1 ≤ 8:=by unfold qf at hw; grind
  rw [zoV (p:=fun a=>!zkI a) (by unfold Go.maxLen; omega) fun x _=>zEZ x,zGJ r (by omega)]
  simp only [Option.bind_some]
  rw [zLV _ (by simp; omega)]
  simp only [Option.bind_some]
  have:=j5 (l:=r.2.2.1) (p:=zkI)
  grind
 ·grind
def zkJ (r:za):Bool:=qf (r.2.1.length:Int) 1 8 && r.2.1.all fun i=>decide (0 ≤ i) && decide (i < (r.1.length:Int))
theorem zLW (r:za) (h:r.1.length ≤ 1000):yq (r,()) = some (zkJ r,()):=by
 rw [zL]
 simp only [yq,zc2,Option.bind_some]
 unfold zkJ
 by_cases hw:qf (List.length r.2.1:Int) 1 8 = true
 ·have hb:1 ≤ List.length r.2.1 ∧ List.length r.2.1 ≤ 8:=by unfold qf at hw; grind
  have hq:∀ x:Int,(fun z:Int × Unit=>zcj (z.1,some r,())) (x,()) = some (!(decide (0 ≤ x) && decide (x < (r.1.length:Int))),()):=fun x=>by
   show zcj _ = _
   simp only [zcj,zc2,Option.bind_some]
   have:wI (((List.length r.1:Nat):Int) - 1) = (r.1.length:Int) - 1:=by
    unfold wI
    exact IntWalk.i64_in _ (by omega)
   rw [this]
   unfold qf
   grind
  rw [zaj (by unfold Go.maxLen; omega) fun x _=>hq x]
  simp only [Option.bind_some]
  have:=j5 (l:=r.2.1) (p:=fun i=>decide (0 ≤ i) && decide (i < (r.1.length:Int)))
  grind
 ·grind
def zuB (r:za):Bool:=qf r.2.2.2.2.2.1 0 24 && (qf r.2.2.2.2.2.2.1 0 48 && (qf r.2.2.2.2.2.2.2.1 1 4 && qf r.2.2.2.2.2.2.2.2.1 1 16))
theorem zMC (r:za):zag (r,()) = some (zuB r,()):=by
 simp only [zag,zc2,Option.bind_some,zuB]; grind
def zhO (q:zcb):Bool:=qf q.1 0 12 && (qf q.2.1 0 12 && (qf q.2.2.1 0 12 && (qf q.2.2.2.1 0 12 && qf q.2.2.2.2.1 0 12)))
def zrb:Int→List zcb→Bool
 | _,[]=>true
 | left,q :: l=>zhO q && (decide (q.2.2.2.2.2.1 ≤ left) && zrb (wU (left - q.2.2.2.2.2.1)) l)
theorem zIv (x:Int):zei (x,()) = some (!qf x 0 12,()):=by
 simp only [zei,zc2,Option.bind_some]; grind
def zjK (n:Nat) (l:List zcb):Bool:=decide (l.length = n) && (decide (0 < l.length) && (decide (1 ≤ (l.getD 0 va).1) && zrb 4611686018427387904 l))
theorem zLa (r:za) (h:1 ≤ r.1.length ∧ r.1.length ≤ 1000):vL (r,()) = some (zjK r.1.length r.2.2.2.2.1,()):=by
 rw [zL]
 simp only [vL,zfV]
 unfold zjK
 by_cases hn:r.2.2.2.2.1.length = r.1.length
 ·have hl:r.2.2.2.2.1.length ≤ Go.maxLen:=by unfold Go.maxLen; omega
  have hloop:zhp K0 (4611686018427387904,r.2.2.2.2.1,(r.2.2.2.2.1.length:Int),0) = some (zrb 4611686018427387904 r.2.2.2.2.1,()) :=
   zsZ (l:=r.2.2.2.2.1) (α:=Int) va (fun i s=>(s,r.2.2.2.2.1,(r.2.2.2.2.1.length:Int),i)) (fun rest s=>some (zrb s rest,())) hl (fun k i x rest s hi hx _ hr hk=>by
    simp only [zel]
    rw [ltT hi,zC hi]
    simp only [qe,hx,cond_true]
    have hnum:zh6 (x,()) = some ([x.1,x.2.1,x.2.2.1,x.2.2.2.1,x.2.2.2.2.1],()):=rfl
    rw [hnum]
    simp only [Option.bind_some]
    rw [zaj (p:=fun n=>!qf n 0 12) (l:=[x.1,x.2.1,x.2.2.1,x.2.2.2.1,x.2.2.2.2.1]) (by unfold Go.maxLen; simp) fun n _=>zIv n]
    simp only [Option.bind_some,hk,zrb,zhO,List.any_cons,List.any_nil]
    grind) (fun k s=>by simp only [zel]; rw [ltF]; rfl) _
  rw [hloop,zK7]
  have h1:(((List.length r.2.2.2.2.1:Nat):Int) != ((List.length r.1:Nat):Int)) = false:=by rw [znw]; simp [hn]
  rw [h1]
  grind
 ·have h1:(((List.length r.2.2.2.2.1:Nat):Int) != ((List.length r.1:Nat):Int)) = true:=by rw [znw]; simp [hn]
  rw [h1]
  grind
end Go.Proofs.YtkcakhbkoeimdaaGreatDoor
end
section
namespace Go.Proofs.YtkcakhbkoeimdaaGreatDoor
open Go.Ev
def zrc (b:Int):Int:=((2 ^ b.toNat:Nat):Int)
def jM (b:Int):Bool:=decide (0 ≤ b) && decide (b < 64)
theorem zMD {b:Int} (h:jM b = true):Go.IntKind.wrap .u64 (1 * 2 ^ (min (Int.toNat b) (Go.IntKind.bits .u64))) = zrc b:=by
 unfold jM at h
 simp only [Bool.and_eq_true,decide_eq_true_eq] at h
 obtain ⟨n,rfl⟩:=Int.eq_ofNat_of_zero_le h.1
 have hn:n < 64:=by omega
 unfold zrc
 rw [Int.toNat_natCast]
 have hm:min n (Go.IntKind.bits .u64) = n:=Nat.min_eq_left (by show n ≤ 64; omega)
 rw [hm]
 have:∀ n:Fin 64,Go.IntKind.wrap .u64 (1 * 2 ^ n.val) = ((2 ^ n.val:Nat):Int):=by decide +kernel
 exact this ⟨n,hn⟩
theorem zIw {n:Int} (h:0 ≤ n ∧ n < 18446744073709551616):Go.IntKind.wrap .u64 n = n:=by
  show n % ((2 ^ 64:Nat):Int) = n
  exact Int.emod_eq_of_lt h.1 (by have:((2 ^ 64:Nat):Int) = 18446744073709551616:=by decide
                                  omega)
def zak (c:Int) (b:Nat):Bool:=c.toNat.testBit b
def zf6 (a b:Int):Int:=Go.IntKind.wrap .u64 (BitVec.toNat (BitVec.ofInt (Go.IntKind.bits .u64) a &&& ~~~BitVec.ofInt (Go.IntKind.bits .u64) b):Int)
def orI (a b:Int):Int:=Go.IntKind.wrap .u64 (BitVec.toNat (BitVec.ofInt (Go.IntKind.bits .u64) a ||| BitVec.ofInt (Go.IntKind.bits .u64) b):Int)
def zlJ:Int→List zN→Int
 | a,[]=>a
 | a,g :: gs=>zlJ (orI a (zrc g.1)) gs
theorem zkK (n:Nat):BitVec.ofInt (Go.IntKind.bits .u64) (n:Int) = BitVec.ofNat 64 n:=by
 show BitVec.ofInt 64 (n:Int) = BitVec.ofNat 64 n
 apply BitVec.eq_of_toNat_eq
 rw [BitVec.toNat_ofInt,BitVec.toNat_ofNat]
 omega
theorem zLA (x:BitVec 64):Go.IntKind.wrap .u64 (x.toNat:Int) = (x.toNat:Int):=by
 have:=x.isLt
 exact zIw (by omega)
theorem zLX (a b:Nat) (ha:a < 2 ^ 64) (hb:b < 2 ^ 64):orI (a:Int) (b:Int) = ((a ||| b:Nat):Int):=by
 unfold orI
 rw [zkK,zkK]
 show Go.IntKind.wrap .u64 ((BitVec.ofNat 64 a ||| BitVec.ofNat 64 b).toNat:Int) = _
 rw [zLA,BitVec.toNat_or,BitVec.toNat_ofNat,BitVec.toNat_ofNat,Nat.mod_eq_of_lt ha,Nat.mod_eq_of_lt hb]
theorem zvO (c m:Nat) (hc:c < 2 ^ 64) (hm:m < 2 ^ 64):(zf6 (c:Int) (m:Int) != 0) = !((List.range' 0 64).all fun i=>!c.testBit i || m.testBit i):=by
 unfold zf6
 rw [zkK,zkK]
 show (Go.IntKind.wrap .u64 ((BitVec.ofNat 64 c &&& ~~~BitVec.ofNat 64 m).toNat:Int) != 0) = _
 rw [zLA]
 have hbit:∀ i,i < 64→(BitVec.ofNat 64 c &&& ~~~BitVec.ofNat 64 m).getLsbD i = (c.testBit i && !m.testBit i):=by
  intro i hi
  rw [BitVec.getLsbD_and,BitVec.getLsbD_not,BitVec.getLsbD_ofNat,BitVec.getLsbD_ofNat]
  simp [hi]
 by_cases h:((List.range' 0 64).all fun i=>!c.testBit i || m.testBit i) = true
 ·rw [h]
  have h0:(BitVec.ofNat 64 c &&& ~~~BitVec.ofNat 64 m) = 0#64:=by
   apply BitVec.eq_of_getLsbD_eq
   intro i hi
   rw [hbit i hi]
   have:=List.all_eq_true.1 h i (by simp [List.mem_range'_1]; omega)
   revert this
   cases c.testBit i <;> cases m.testBit i <;> simp
  rw [h0]
  rfl
 ·have h':=h
  simp only [Bool.not_eq_true] at h'
  rw [h']
  have:(BitVec.ofNat 64 c &&& ~~~BitVec.ofNat 64 m).toNat ≠ 0:=by
   intro h0
   apply h
   rw [List.all_eq_true]
   intro i hi
   simp only [List.mem_range'_1] at hi
   have hb:=hbit i (by omega)
   have e0:(BitVec.ofNat 64 c &&& ~~~BitVec.ofNat 64 m) = 0#64:=BitVec.eq_of_toNat_eq (by rw [h0]; rfl)
   rw [e0] at hb
   revert hb
   cases c.testBit i <;> cases m.testBit i <;> simp
  rw [Bool.not_false,bne_iff_ne]
  omega
theorem zLb {b:Int} (h:jM b = true):∃ n:Nat,b = n ∧ n < 64 ∧ zrc b = ((2 ^ n:Nat):Int):=by
 unfold jM at h
 simp only [Bool.and_eq_true,decide_eq_true_eq] at h
 obtain ⟨n,rfl⟩:=Int.eq_ofNat_of_zero_le h.1
 exact ⟨n,rfl,by omega,rfl⟩
theorem zzd:∀ (l:List zN) (m:Nat),m < 2 ^ 64→(∀ g ∈ l,jM g.1 = true)→∃ k:Nat,zlJ (m:Int) l = (k:Int) ∧ k < 2 ^ 64 ∧ ∀ i:Nat,k.testBit i = (m.testBit i || l.any fun g=>g.1 == (i:Int))
 | [],m,hm,_=>⟨m,rfl,hm,fun i=>by simp⟩
 | g :: l,m,hm,h=>by
  obtain ⟨n,hn,hn64,hv⟩:=zLb (h g (by simp))
  have hp:2 ^ n < 2 ^ 64:=Nat.pow_lt_pow_right (by omega) hn64
  obtain ⟨k,hk,hk64,hb⟩:=zzd l (m ||| 2 ^ n) (Nat.or_lt_two_pow hm hp) fun g hg=>h g (by simp [hg])
  refine ⟨k,?_,hk64,fun i=>?_⟩
  ·simp only [zlJ]
   rw [hv,zLX m (2 ^ n) hm hp]
   exact hk
  ·rw [hb i,Nat.testBit_or,Nat.testBit_two_pow,List.any_cons,hn,Bool.or_assoc]
   congr 2
   by_cases e:n = i
   ·subst e; simp
   ·rw [decide_eq_false e]
    symm
    simp only [beq_eq_false_iff_ne,ne_eq]
    omega
def zIx (l:List zN) (c:Int) (i k:Nat):Bool:=(List.range' i k).all fun b=>!zak c b || l.any fun g=>g.1 == (b:Int)
def zE1 (labels:List zo) (l:List zN):Bool:=labels.all fun a=>zIx l a.2.1 0 64
def zrd (l:List zo):Prop:=∀ a ∈ l,0 ≤ a.2.1 ∧ a.2.1 < 18446744073709551616
theorem zME (labels:List zo) (l:List zN) (hl:zrd labels) (h:∀ g ∈ l,jM g.1 = true):(labels.any fun a=>zf6 a.2.1 (zlJ 0 l) != 0) = !zE1 labels l:=by
 obtain ⟨k,hk,hk64,hb⟩:=zzd l 0 (by decide) h
 have hk':zlJ 0 l = (k:Int):=hk
 rw [hk']
 unfold zE1
 have key:∀ ls:List zo,zrd ls→(ls.any fun a=>zf6 a.2.1 (k:Int) != 0) = !(ls.all fun a=>zIx l a.2.1 0 64):=by
  intro ls
  induction ls with
  | nil=>intro _; rfl
  | cons a ls ih =>
   intro ha
   have h1:=ha a (by simp)
   rw [List.any_cons,List.all_cons,ih fun b hb=>ha b (by simp [hb]),Bool.not_and]
   congr 1
   obtain ⟨c,hc⟩:=Int.eq_ofNat_of_zero_le h1.1
   rw [hc,zvO c k (by omega) hk64]
   congr 1
   unfold zIx
   congr 1
   funext i
   rw [hb i]
   unfold zak
   simp
 exact key labels hl
def j4 (b:Int):zo:=(0,zrc b,())
theorem ziW (b:Int):zbl (b,()) = some (bif jM b then (j4 b,0,()) else ((0,0,()),1,())):=by
 simp only [zbl]
 cases h:jM b with
 | true =>
  have hs:wU (1 * 2 ^ min (Int.toNat b) (Go.IntKind.bits .u64)) = zrc b:=zMD h
  rw [hs]
  simp only [jM,Bool.and_eq_true,decide_eq_true_eq] at h
  simp only [j4]
  grind
 | false =>
  simp only [jM,Bool.and_eq_false_iff,decide_eq_false_iff_not] at h
  grind
theorem zIy (a:zo) (c:Int):zhd (a,some c,()) = some (zf6 a.2.1 c != 0,()):=by
 rw [zL]; rfl
theorem zw7 {σ α:Type} {B:(σ→Option (Int × Unit))→σ→Option (Int × Unit)} {l:List α} (d:α) {p:α→Bool} (st:Int→σ) (hl:l.length ≤ Go.maxLen)
 (hin:∀ k (i:Nat) x,i < l.length→l.getD i d = x→x ∈ l→B k (st i) = bif p x then some ((i:Int),()) else k (st (wI (i + 1)))) (hout:∀ k,B k (st l.length) = some (-1,())):zk B K0 (st 0) = some (qu p l 0,()):=by
 have:=jS (α:=Unit) (B:=B) hl (fun i _=>st i) (fun i _=>some (qu p (l.drop i) i,())) (fun _ _=>True) (fun k i s hi _ h=>?_) (fun k s _=>?_) () trivial
 ·simpa using this
 ·rw [hin k i _ hi rfl (zU hi),h () trivial,zab d hi]
  simp only [qu]
  cases p (l.getD i d) <;> rfl
 ·rw [hout,List.drop_of_length_le (Nat.le_refl _)]; rfl
theorem zw8 {l:List zo} {a:zo} (hl:l.length ≤ Go.maxLen):zbR (l,a,()) = some (l.any fun y=>eqI zn a y,()):=by
 have h:zbm (l,a,()) = some (qu (fun y=>eqI zn a y) l 0,()) :=
  zw7 (B:=qX) (l:=l) zA (fun i=>(l,(l.length:Int),i,a)) hl (fun k i x hi hx _=>by
   simp only [qX]
   rw [ltT hi,zC hi,qe,hx]; rfl) (fun k=>by simp only [qX]; rw [ltF]; rfl)
 rw [zL]
 simp only [zbR,h,Option.bind_some]
 rw [zqN (p:=fun y=>eqI zn a y) l 0 (Int.le_refl 0)]
theorem zBA {α:Type} {p:α→Bool}:∀ (xs:List α) (i:Int),0 ≤ i→decide (qu p xs i < 0) = !xs.any p
 | [],_,_=>rfl
 | x :: xs,i,h=>by
  have ih:=zBA (p:=p) xs (i + 1) (by omega)
  simp only [qu,List.any_cons]
  by_cases hp:p x = true
  ·simp [hp]; omega
  ·simp only [Bool.not_eq_true] at hp
   simpa [hp] using ih
def zAL (labels:List zo) (n:Nat) (last:Int) (g:zN):Bool:=jM g.1 && (decide (last < g.1) && (qf g.2.1 0 ((n:Int) - 1) && labels.any fun y=>eqI zn (j4 g.1) y))
def zdN (labels:List zo) (n:Nat):Int→List zN→Bool
 | _,[]=>true
 | last,g :: gs=>zAL labels n last g && zdN labels n g.1 gs
def zjL (labels:List zo) (n:Nat) (l:List zN):Bool:=decide (l.length ≤ 8) && (zdN labels n (-1) l && zE1 labels l)
theorem zof {labels:List zo} {m:Nat}:∀ (l:List zN) (last:Int),zdN labels m last l = true→∀ g ∈ l,jM g.1 = true
 | [],_,_,g,hg=>by cases hg
 | a :: l,last,h,g,hg=>by
  simp only [zdN,zAL,Bool.and_eq_true] at h
  rcases List.mem_cons.1 hg with rfl | hg
  ·exact h.1.1
  ·exact zof l a.1 h.2 g hg
theorem zLc (r:za) (h1:r.1.length ≤ Go.maxLen) (h2:r.2.2.1.length ≤ 1000000) (h3:r.2.2.2.1.length ≤ Go.maxLen) (hL:zrd r.1):vK (r,()) = some (zjL r.1 r.2.2.1.length r.2.2.2.1,()):=by
 have hloop:vK (r,()) = some (zdN r.1 r.2.2.1.length (-1) r.2.2.2.1 && (decide (r.2.2.2.1.length ≤ 8) && !(r.1.any fun a=>zf6 a.2.1 (zlJ 0 r.2.2.2.1) != 0)),()) :=
  zsZ (B := zbx) (l:=r.2.2.2.1) (α:=Int × Int) zD (fun i s=>(s.1,r.2.2.2.1,(r.2.2.2.1.length:Int),i,r,s.2))
   (fun rest s=>some (zdN r.1 r.2.2.1.length s.1 rest && (decide (r.2.2.2.1.length ≤ 8) && !(r.1.any fun a=>zf6 a.2.1 (zlJ s.2 rest) != 0)),())) h3 (fun k i x rest s hi hx _ hr hk=>by
    simp only [zbx]
    have hw:wI (((List.length r.2.2.1:Nat):Int) - 1) = (r.2.2.1.length:Int) - 1:=by
     unfold wI
     exact IntWalk.i64_in _ (by omega)
    rw [ltT hi,zC hi,hw]
    simp only [qe,hx,cond_true,ziW,Option.bind_some,zdN,zAL,zlJ]
    cases hb:jM x.1 with
    | false=>rfl
    | true =>
     simp only [cond_true,zc2,Option.bind_some,Bool.true_and,zw8 h1]
     have hk':=hk (x.1,orI s.2 (zrc x.1))
     have e:decide (s.1 < x.1) = !decide ((x.1:Int) ≤ s.1):=by grind
     rw [e]
     cases decide ((x.1:Int) ≤ s.1) with
     | true=>rfl
     | false =>
      cases qf x.2.1 0 ((r.2.2.1.length:Int) - 1) with
      | false=>rfl
      | true =>
       cases (r.1.any fun y=>eqI zn (j4 x.1) y) with
       | false=>rfl
       | true=>exact hk') (fun k s=>by
    simp only [zbx]
    rw [ltF]
    simp only [cond_false,zdN,zlJ,Bool.true_and]
    rw [ziU (p:=fun a=>zf6 a.2.1 s.2 != 0) h1 fun x _=>zIy x s.2,Option.bind_some]
    grind) (-1,0)
 rw [hloop]
 unfold zjL
 cases hr:zdN r.1 r.2.2.1.length (-1) r.2.2.2.1 with
 | false=>simp
 | true =>
  rw [zME r.1 r.2.2.2.1 hL (zof _ _ hr)]
  simp
theorem zIz {labels:List zo} {n:Nat}:∀ {l:List zN} {last:Int},zdN labels n last l = qi (fun i=>zAL labels n (if i = 0 then last else (l.getD (i - 1) zD).1) (l.getD i zD)) 0 l.length:=by
 intro l
 induction l with
 | nil=>intro last; rfl
 | cons a l ih =>
  intro last
  simp only [zdN,List.length_cons,qi,ih]
  rw [Bool.eq_iff_iff]
  simp only [Bool.and_eq_true,qE]
  constructor
  ·rintro ⟨h1,h2⟩
   refine ⟨h1,fun j h3 h4=>?_⟩
   obtain ⟨i,rfl⟩:∃ i,j = i + 1:=⟨j - 1,by omega⟩
   have:=h2 i (by omega) (by omega)
   rw [if_neg (by omega)]
   by_cases e:i = 0
   ·subst e; simpa using this
   ·rw [if_neg e] at this
    obtain ⟨m,rfl⟩:∃ m,i = m + 1:=⟨i - 1,by omega⟩
    exact this
  ·rintro ⟨h1,h2⟩
   refine ⟨h1,fun j h3 h4=>?_⟩
   have:=h2 (j + 1) (by omega) (by omega)
   rw [if_neg (by omega)] at this
   by_cases e:j = 0
   ·subst e; simpa using this
   ·rw [if_neg e]
    obtain ⟨m,rfl⟩:∃ m,j = m + 1:=⟨j - 1,by omega⟩
    exact this
def zG (r:za):Bool:=zf5 r.1 && (zkJ r && (zhN r.2.2.1 && (zjL r.1 r.2.2.1.length r.2.2.2.1 && (zjK r.1.length r.2.2.2.2.1 && zuB r))))
structure zO (r:za):Prop where
 labels:zrd r.1
 guilds:r.2.2.2.1.length ≤ Go.maxLen
 quotas:r.2.2.2.2.1.length ≤ Go.maxLen
theorem yr (r:za) (h:zO r):jO (r,()) = some (zG r,()):=by
 rw [zL]
 show zk ze4 K0 (6,0,r,[some vM,some yq,some jL,some vK,some vL,some zag]) = _
 obtain ⟨m,hm⟩:=zuz
 have hu:zk ze4 (m + 8) (6,0,r,[some vM,some yq,some jL,some vK,some vL,some zag]) =
  Option.bind (vM (r,())) fun q=>bif q.1 then Option.bind (yq (r,())) fun q=>bif q.1 then Option.bind (jL (r,())) fun q=>bif q.1 then Option.bind (vK (r,())) fun q=>bif q.1 then Option.bind (vL (r,())) fun q=>bif q.1 then Option.bind (zag (r,())) fun q=>bif q.1 then some (true,()) else some (false,()) else some (false,()) else some (false,()) else some (false,()) else some (false,()) else some (false,()):=by kernel_rfl
 rw [hm,hu,zK8]
 unfold zG
 simp only [Option.bind_some]
 cases h1:zf5 r.1 with
 | false=>rfl
 | true =>
  have hb:1 ≤ r.1.length ∧ r.1.length ≤ 8:=by unfold zf5 qf at h1; grind
  rw [zLW r (by omega),zIu]
  simp only [Option.bind_some,cond_true]
  cases zkJ r with
  | false=>rfl
  | true =>
   cases h2:zhN r.2.2.1 with
   | false=>rfl
   | true =>
    have hc:r.2.2.1.length ≤ 8:=by unfold zhN qf at h2; grind
    rw [zLc r (by unfold Go.maxLen; omega) (by omega) h.guilds h.labels,zLa r (by omega),zMC]
    simp only [Option.bind_some]
    grind
end Go.Proofs.YtkcakhbkoeimdaaGreatDoor
end
section
namespace Go.Proofs.YtkcakhbkoeimdaaGreatDoor
open Go.Ev
def qW (x:Int):Bool:=decide (0 ≤ x ∧ x ≤ 127)
theorem zIA (x:Int):zd6 (x,()) = some (qW x,()):=by simp only [zd6,qW]; grind
theorem zBB (x:Int):zhI (x,()) = some (qW x,()):=by simp only [zhI,qW]; grind
def zuC (x:j9):Bool:=qW x.1 && qW x.2.1
theorem zLY (x:j9):zfn (x,()) = some (zuC x,()):=by simp only [zfn,zuC,qW]; grind
def zIB (x:Int):Bool:=decide (0 ≤ x ∧ x ≤ 5)
theorem zLZ (x:Int):zh8 (x,()) = some (zIB x,()):=by simp only [zh8,zIB]; grind
def zze (s:ByteArray):Bool:=ByteArray.toList s == ByteArray.toList (ByteArray.mk #[])
def zqa (x:ja):Bool:=bif x.1 then zq9 x.2.1 else zze x.2.1
theorem zJ7 (x:ja):zfZ (x,()) = some (!zqa x,()):=by
 rw [zL]
 simp only [zfZ,zmT,Option.bind_some,zqa,zze]
 grind
theorem zE2 {l:List ja} (hl:l.length ≤ Go.maxLen):ziK (l,()) = some (l.all zqa,()):=by
 rw [zL]
 simp only [ziK]
 rw [zsz (p:=fun x=>!zqa x) hl fun x _=>zJ7 x,Option.bind_some,← j5]
 cases l.any fun x=>!zqa x <;> rfl
theorem zL0 (a b:j9):eqI zR a b = ((a.1:Int) == b.1 && (a.2.1:Int) == b.2.1):=by
 show cond ((a.1:Int) == b.1) (cond ((a.2.1:Int) == b.2.1) true false) false = _
 cases ((a.1:Int) == b.1) <;> cases ((a.2.1:Int) == b.2.1) <;> rfl
def zzf (x:qg):Bool:=bif x.1 then zuC x.2.1 && (zuC x.2.2.1 && zIB x.2.2.2.1) else eqI z4 x (ze z4)
theorem zE3 (x:qg):ziy (x,()) = some (!zzf x,()):=by
 rw [zL]
 simp only [ziy,zLY,zLZ,Option.bind_some,zzf]
 grind
def zjM (a b:qg):Bool:=a.1 && (eqI zR a.2.1 b.2.1 && (a.2.2.2.1:Int) == b.2.2.2.1)
theorem zAM (x:qg) (r:j9) (d:Int):zfQ (x,some r,some d,()) = some (x.1 && (eqI zR x.2.1 r && (x.2.2.2.1:Int) == d),()):=by
 rw [zL]
 simp only [zfQ,Option.bind_some]
 grind
theorem zL1 {α:Type} {d:α} {p:α→Bool}:∀ (l:List α) (i:Nat) (a:Int),i < l.length→p (l.getD i d) = true→((qu p l a) == a + (i:Int)) = qi (fun j=>!p (l.getD j d)) 0 i:=by
 intro l
 induction l with
 | nil=>intro i a h; simp at h
 | cons x l ih =>
  intro i a h hp
  cases i with
  | zero =>
   have hx:p x = true:=hp
   simp only [qu,hx,cond_true,qi]
   simp
  | succ i =>
   have h':i < l.length:=by simpa using h
   have hp':p (l.getD i d) = true:=hp
   have:=ih i (a + 1) h' hp'
   have e:a + 1 + (i:Int) = a + ((i + 1:Nat):Int):=by omega
   rw [e] at this
   simp only [qu]
   rw [Bool.eq_iff_iff,qE]
   rw [Bool.eq_iff_iff,qE] at this
   cases hx:p x with
   | true =>
    simp only [cond_true]
    constructor
    ·intro h1
     have:=eq_of_beq h1
     omega
    ·intro h1
     have h2:(!p x) = true:=h1 0 (by omega) (by omega)
     rw [hx] at h2; cases h2
   | false =>
    simp only [cond_false]
    rw [this]
    constructor
    ·intro h1 j _ h2
     cases j with
     | zero=>show (!p x) = true; rw [hx]; rfl
     | succ j=>exact h1 j (by omega) (by omega)
    ·intro h1 j _ h2
     exact h1 (j + 1) (by omega) (by omega)
def zJ8 (l:List qg):Bool:=qi (fun i=>zzf (l.getD i vU) && bif (l.getD i vU).1 then qi (fun j=>!zjM (l.getD j vU) (l.getD i vU)) 0 i else true) 0 (l.length - 0)
theorem zE4 {l:List qg} (hl:l.length ≤ Go.maxLen):zmC (l,()) = some (zJ8 l,()):=by
 rw [zL]
 exact yY (B:=zdz) (i0:=0) hl (Nat.zero_le _) (fun i=>(l,l,(l.length:Int),i)) (fun k i h1 h2=>by
  simp only [zdz]
  rw [ltT h2,zC h2]
  simp only [qe,zE3,Option.bind_some,cond_true]
  cases he:zzf (l.getD i vU) with
  | false=>rfl
  | true =>
   cases hs:(l.getD i vU).1 with
   | false=>rfl
   | true =>
    have hi:ziz (l,(l.getD i vU).2.1,(l.getD i vU).2.2.2.1,()) = some (qu (fun x=>zjM x (l.getD i vU)) l 0,()):=by
     simp only [ziz]
     rw [zmR (p:=fun x=>zjM x (l.getD i vU)) hl fun x _=>zAM x _ _]
     rfl
    have hp:zjM (l.getD i vU) (l.getD i vU) = true:=by
     unfold zjM; rw [zL0,hs]; simp
    have:=zL1 (d:=vU) (p:=fun x=>zjM x (l.getD i vU)) l i 0 h2 hp
    rw [Int.zero_add] at this
    rw [hi,← this]
    simp only [Option.bind_some,Bool.not_true,cond_false,cond_true,Bool.true_and,bne]
    cases (qu (fun x=>zjM x (l.getD i vU)) l 0 == (i:Int)) <;> rfl) (fun k=>by simp only [zdz]; rw [ltF]; rfl)
def zw9 (k n:Int) (r:j9):Bool:=((k == 1 || k == 3) && (qW n && eqI zR r (ze zR))) || (k == 2 && (n == 0 && zuC r))
def ziX (x:qb):Bool:=bif x.1 then zq9 x.2.1 && zw9 x.2.2.1 x.2.2.2.1 x.2.2.2.2.1 else eqI zZ x (ze zZ)
theorem zE5 (x:zuy):zck (x,()) = some (zw9 x.1 x.2.1 x.2.2.1,()):=by
 rw [zL]
 simp only [zck,zIA,Option.bind_some,zw9,zuC]
 grind
theorem zCG (x:qb):zg1 (x,()) = some (!ziX x,()):=by
 rw [zL]
 have h:zqU (x,()) = some ((x.2.2.1,x.2.2.2.1,x.2.2.2.2.1,()),()):=rfl
 simp only [zg1,zmT,Option.bind_some,ziX,h,zE5]
 grind
theorem zCH {l:List qb} (hl:l.length ≤ Go.maxLen):zg3 (l,()) = some (l.all ziX,()):=by
 rw [zL]
 simp only [zg3]
 rw [zjn (p:=fun x=>!ziX x) hl fun x _=>zCG x,Option.bind_some,← j5]
 cases l.any fun x=>!ziX x <;> rfl
def zE6 (c:Int):Bool:=decide (32 ≤ c ∧ c ≤ 126)
theorem zL2 (c:Int):zh9 (c,()) = some (zE6 c,()):=by simp only [zh9,zE6]; grind
def zaX (s:ByteArray):Bool:=decide (1 ≤ s.size ∧ s.size ≤ 40) && ((chr s 0 != 32 && chr s (s.size - 1) != 32) && qi (fun i=>zE6 (chr s i)) 0 s.size)
theorem zzg (a b:ByteArray) (h:a.size < b.size):(ByteArray.toList a == ByteArray.toList b) = false:=by
 rw [beq_eq_false_iff_ne]
 intro e
 rw [Go.ByteArray.toList_eq,Go.ByteArray.toList_eq] at e
 have:=congrArg List.length e
 rw [zp9,zp9] at this
 omega
theorem zMW (s:ByteArray):∀ (n:Nat) (t:ByteArray),t.size ≤ n→∀ fuel,n < fuel→∃ r,zk zQ fuel (t,32) = some (r,()) ∧ r.size ≤ t.size ∧ (chr t 0 ≠ 32→r = t) ∧ (1 ≤ t.size→chr t 0 = 32→r.size < t.size):=by
 intro n
 induction n with
 | zero =>
  intro t ht fuel hf
  obtain ⟨f,rfl⟩:∃ f,fuel = f + 1:=⟨fuel - 1,by omega⟩
  refine ⟨t,?_,Nat.le_refl _,fun _=>rfl,fun h=>by omega⟩
  show zQ _ (t,32) = _
  simp only [zQ]
  rw [decide_eq_false (by omega)]; rfl
 | succ n ih =>
  intro t ht fuel hf
  obtain ⟨f,rfl⟩:∃ f,fuel = f + 1:=⟨fuel - 1,by omega⟩
  by_cases h0:t.size = 0
  ·refine ⟨t,?_,Nat.le_refl _,fun _=>rfl,fun h=>by omega⟩
   show zQ _ (t,32) = _
   simp only [zQ]
   rw [decide_eq_false (by omega)]; rfl
  have hc:((UInt8.toNat (List.getD t.data.toList (Int.toNat 0) 0):Nat):Int) = chr t 0:=rfl
  by_cases h32:chr t 0 = 32
  ·have hsz:(ByteArray.extract t (Int.toNat 1) t.size).size = t.size - 1:=by
    rw [ByteArray.size_extract]
    show min t.size t.size - 1 = _
    omega
   obtain ⟨r,h1,h2,-⟩:=ih (ByteArray.extract t (Int.toNat 1) t.size) (by rw [hsz]; omega) f (by omega)
   refine ⟨r,?_,by omega,fun h=>absurd h32 h,fun _ _=>by omega⟩
   show zQ (zk zQ f) (t,32) = _
   simp only [zQ]
   rw [hc,h32,h1]
   grind
  ·refine ⟨t,?_,Nat.le_refl _,fun _=>rfl,fun _ h=>absurd h h32⟩
   show zQ (zk zQ f) (t,32) = _
   simp only [zQ]
   rw [hc,decide_eq_true (by omega),decide_eq_true (by omega)]
   grind
theorem zMX:∀ (n:Nat) (t:ByteArray),t.size ≤ n→n ≤ 100→∀ fuel,n < fuel→∃ r,zk zM fuel (t,32) = some (r,()) ∧ r.size ≤ t.size ∧ (chr t (t.size - 1) ≠ 32→r = t) ∧ (1 ≤ t.size→chr t (t.size - 1) = 32→r.size < t.size):=by
 intro n
 induction n with
 | zero =>
  intro t ht _ fuel hf
  obtain ⟨f,rfl⟩:∃ f,fuel = f + 1:=⟨fuel - 1,by omega⟩
  refine ⟨t,?_,Nat.le_refl _,fun _=>rfl,fun h=>by omega⟩
  show zM _ (t,32) = _
  simp only [zM]
  rw [decide_eq_false (by omega)]; rfl
 | succ n ih =>
  intro t ht hn fuel hf
  obtain ⟨f,rfl⟩:∃ f,fuel = f + 1:=⟨fuel - 1,by omega⟩
  by_cases h0:t.size = 0
  ·refine ⟨t,?_,Nat.le_refl _,fun _=>rfl,fun h=>by omega⟩
   show zM _ (t,32) = _
   simp only [zM]
   rw [decide_eq_false (by omega)]; rfl
  have hw:wI ((t.size:Int) - 1) = ((t.size - 1:Nat):Int):=zpb (by omega) (by unfold Go.maxLen; omega)
  have hc:((UInt8.toNat (List.getD t.data.toList (Int.toNat ((t.size - 1:Nat):Int)) 0):Nat):Int) = chr t (t.size - 1):=by rw [Int.toNat_natCast]; rfl
  by_cases h32:chr t (t.size - 1) = 32
  ·have hsz:(ByteArray.extract t 0 (Int.toNat ((t.size - 1:Nat):Int))).size = t.size - 1:=by
    rw [ByteArray.size_extract,Int.toNat_natCast]
    omega
   obtain ⟨r,h1,h2,-⟩:=ih (ByteArray.extract t 0 (Int.toNat ((t.size - 1:Nat):Int))) (by rw [hsz]; omega) (by omega) f (by omega)
   refine ⟨r,?_,by omega,fun h=>absurd h32 h,fun _ _=>by omega⟩
   show zM (zk zM f) (t,32) = _
   simp only [zM]
   rw [hw,hc,h32,h1,zC (by omega)]
   grind
  ·refine ⟨t,?_,Nat.le_refl _,fun _=>rfl,fun _ h=>absurd h h32⟩
   show zM (zk zM f) (t,32) = _
   simp only [zM]
   rw [hw,hc,zC (by omega),decide_eq_true (by omega)]
   grind
theorem zMF (s:ByteArray) (h:1 ≤ s.size ∧ s.size ≤ 40):∃ r,zfT (s,ByteArray.mk #[32],()) = some (r,()) ∧ (ByteArray.toList r == ByteArray.toList s) = (chr s 0 != 32 && chr s (s.size - 1) != 32):=by
 obtain ⟨r,h1,h2,h3,h4⟩:=zMX s.size s (Nat.le_refl _) (by omega) K0 (zC5 (by unfold Go.maxLen; omega))
 obtain ⟨r',h5,h6,h7,h8⟩:=zMW s r.size r (Nat.le_refl _) K0 (zC5 (by unfold Go.maxLen; omega))
 refine ⟨r',?_,?_⟩
 ·simp only [zfT]
  have e0:(ByteArray.toList s == ByteArray.toList (ByteArray.mk #[])) = false:=by
   cases he:zze s with
   | false=>exact he
   | true =>
    unfold zze at he
    have:=eq_of_beq he
    rw [Go.ByteArray.toList_eq,Go.ByteArray.toList_eq] at this
    have h2:s.size = 0:=by
     rw [← zp9,this]; rfl
    omega
  have e1:(ByteArray.toList (ByteArray.mk #[32]) == ByteArray.toList (ByteArray.mk #[])) = false:=by
   rw [Go.ByteArray.toList_eq,Go.ByteArray.toList_eq]; rfl
  have p1:zbU (s,32,()) = some (r,()):=h1
  have p2:zcT (r,32,()) = some (r',()):=h5
  have z1:((ByteArray.size (ByteArray.mk #[32]):Nat):Int) = 1:=rfl
  have z2:((UInt8.toNat (List.getD (Array.toList (ByteArray.data (ByteArray.mk #[32]))) (Int.toNat 0) 0):Nat):Int) = 32:=rfl
  rw [e0,e1,z1,z2,p1,Option.bind_some,p2]
  rfl
 ·by_cases hl:chr s (s.size - 1) = 32
  ·have:=h4 h.1 hl
   rw [zzg r' s (by omega),hl]; simp
  ·obtain rfl:=h3 hl
   by_cases hf:chr r 0 = 32
   ·have:=h8 h.1 hf
    rw [zzg r' r (by omega),hf]; simp
   ·rw [h7 hf]
    simp [hf,hl]
theorem zke (s:ByteArray):zcZ (s,()) = some (zaX s,()):=by
 rw [zL]
 simp only [zcZ]
 unfold zaX
 by_cases hb:1 ≤ s.size ∧ s.size ≤ 40
 ·obtain ⟨r,h1,h2⟩:=zMF s hb
  rw [zzc (by unfold Go.maxLen; omega) zL2,h1,zzb,← h2]
  simp only [Option.bind_some]
  grind
 ·grind
def zcJ (x:zm):Bool:=bif x.1 then (qW x.2.1 && (qW x.2.2.1 && qW x.2.2.2.1)) && zaX x.2.2.2.2.1 else eqI zu x (ze zu)
theorem zE7 (x:zm):ziJ (x,()) = some (!zcJ x,()):=by
 rw [zL]
 simp only [ziJ,zbb,zBB,zke,Option.bind_some,zcJ]
 grind
theorem zmV {l:List zm} (hl:l.length ≤ Go.maxLen):zdE (l,()) = some (l.all zcJ,()):=by
 rw [zL]
 simp only [zdE]
 rw [zjo (p:=fun x=>!zcJ x) hl fun x _=>zE7 x,Option.bind_some,← j5]
 cases l.any fun x=>!zcJ x <;> rfl
end Go.Proofs.YtkcakhbkoeimdaaGreatDoor
end
section
namespace Go.Proofs.YtkcakhbkoeimdaaGreatDoor
open Go.Ev
abbrev M62:Int:=4611686018427387904
abbrev U64:Int:=18446744073709551616
def yi (x:Int):Bool:=decide (0 ≤ x ∧ x ≤ 3)
theorem zbG (x:Int):jg (x,()) = some (yi x,()):=by simp only [jg,yi]; grind
def zIC (a b:Int):Int × Int × Unit:=bif decide (a + b > M62) then (0,7,()) else (a + b,0,())
theorem zGK {a b:Int} (ha:0 ≤ a) (hb:0 ≤ b ∧ b < U64):zj2 (a,b,()) = some (zIC a b):=by
 simp only [zj2,extA,extB,zIC,cond_true]
 have h0:0 ≤ (a + b) / 18446744073709551616:=by omega
 have h1:((a + b) / 18446744073709551616 != 0) = decide (18446744073709551616 ≤ a + b):=by
  rw [Bool.eq_iff_iff]; simp only [bne_iff_ne,ne_eq,decide_eq_true_eq]; omega
 have h2:a + b < 18446744073709551616→(a + b) % 18446744073709551616 = a + b:=fun h=>by omega
 unfold M62 at *
 unfold U64 at *
 grind
def zE8 (a b:Int):Int × Int × Unit:=bif decide (a * b > M62) then (0,7,()) else (a * b,0,())
theorem zMY (a b:Nat) (ha:a < 18446744073709551616) (hb:b < 18446744073709551616):zc8 ((a:Int),(b:Int),()) = some ((((a * b) / 18446744073709551616:Nat):Int),(((a * b) % 18446744073709551616:Nat):Int),()):=by
 have e32:((2:Int) ^ min (Int.toNat 32) (Go.IntKind.bits .u64)) = 4294967296:=rfl
 have hand:∀ x:Nat,x < 18446744073709551616→wU (BitVec.toNat (BitVec.ofInt (Go.IntKind.bits .u64) (x:Int) &&& BitVec.ofInt (Go.IntKind.bits .u64) 4294967295):Int) = ((x % 4294967296:Nat):Int):=fun x hx=>by
  have h1:BitVec.ofInt (Go.IntKind.bits .u64) 4294967295 = BitVec.ofNat 64 4294967295:=rfl
  rw [zkK,h1]
  have h2:(BitVec.ofNat 64 x &&& BitVec.ofNat 64 4294967295).toNat = x % 4294967296:=by
   rw [BitVec.toNat_and,BitVec.toNat_ofNat,BitVec.toNat_ofNat,Nat.mod_eq_of_lt (show x < 2 ^ 64 by omega)]
   exact Nat.and_two_pow_sub_one_eq_mod x 32
  have h3:((BitVec.ofNat 64 x &&& BitVec.ofNat 64 4294967295:BitVec (Go.IntKind.bits .u64)).toNat:Int) = ((x % 4294967296:Nat):Int):=congrArg _ h2
  exact (congrArg wU h3).trans (zIw (by omega))
 have hdiv:∀ x:Nat,Int.fdiv (x:Int) 4294967296 = ((x / 4294967296:Nat):Int):=fun x=>by
  rw [Int.fdiv_eq_ediv_of_nonneg _ (by omega)]; rfl
 have hw:∀ x:Nat,x < 18446744073709551616→wU (x:Int) = (x:Int):=fun x hx=>zIw (by omega)
 have hmod:wU ((a:Int) * (b:Int)) = (((a * b) % 18446744073709551616:Nat):Int):=by
  rw [show ((a:Int) * (b:Int)) = ((a * b:Nat):Int) by simp]
  show ((a * b:Nat):Int) % ((2 ^ 64:Nat):Int) = _
  rfl
 simp only [zc8,e32]
 have ha1:a / 4294967296 ≤ 4294967295:=by omega
 have ha0:a % 4294967296 ≤ 4294967295:=by omega
 have hb1:b / 4294967296 ≤ 4294967295:=by omega
 have hb0:b % 4294967296 ≤ 4294967295:=by omega
 have hp:=Nat.mul_le_mul ha1 hb1
 have hq:=Nat.mul_le_mul ha1 hb0
 have hr:=Nat.mul_le_mul ha0 hb1
 have hs:=Nat.mul_le_mul ha0 hb0
 have hab:a * b = (a / 4294967296 * (b / 4294967296)) * 18446744073709551616 + (a / 4294967296 * (b % 4294967296) + a % 4294967296 * (b / 4294967296)) * 4294967296 + a % 4294967296 * (b % 4294967296):=by
  conv=>lhs; rw [← Nat.div_add_mod a 4294967296,← Nat.div_add_mod b 4294967296]
  grind
 rw [hmod,hab,hand a ha,hand b hb,hdiv a,hdiv b]
 generalize a / 4294967296 = a1 at *
 generalize a % 4294967296 = a0 at *
 generalize b / 4294967296 = b1 at *
 generalize b % 4294967296 = b0 at *
 simp only [← Int.natCast_mul]
 generalize a1 * b1 = p at *
 generalize a1 * b0 = q at *
 generalize a0 * b1 = r at *
 generalize a0 * b0 = s at *
 rw [hw p (by omega),hw q (by omega),hw r (by omega),hw s (by omega),hdiv s]
 simp only [← Int.natCast_add]
 rw [hw (q + s / 4294967296) (by omega),hdiv (q + s / 4294967296),hand _ (by omega)]
 simp only [← Int.natCast_add]
 rw [hw (p + (q + s / 4294967296) / 4294967296) (by omega),hw ((q + s / 4294967296) % 4294967296 + r) (by omega),hdiv]
 simp only [← Int.natCast_add]
 rw [hw _ (by omega)]
 have:p + (q + s / 4294967296) / 4294967296 + ((q + s / 4294967296) % 4294967296 + r) / 4294967296 = (p * 18446744073709551616 + (q + r) * 4294967296 + s) / 18446744073709551616:=by omega
 rw [this]
theorem zE9 {a b:Int} (ha:0 ≤ a ∧ a < U64) (hb:0 ≤ b ∧ b < U64):zfx (a,b,()) = some (zE8 a b):=by
 obtain ⟨m,rfl⟩:=Int.eq_ofNat_of_zero_le ha.1
 obtain ⟨n,rfl⟩:=Int.eq_ofNat_of_zero_le hb.1
 unfold U64 at *
 simp only [zfx]
 rw [zMY m n (by omega) (by omega),Option.bind_some]
 unfold zE8 M62
 have e:((m:Int) * (n:Int)) = ((m * n:Nat):Int):=by simp
 rw [e]
 generalize m * n = p
 by_cases h:p < 18446744073709551616
 ·have h1:p / 18446744073709551616 = 0:=by omega
  have h2:p % 18446744073709551616 = p:=by omega
  simp only [h1,h2]
  grind
 ·have h1:(((p / 18446744073709551616:Nat):Int) != 0) = true:=by simp only [bne_iff_ne,ne_eq]; omega
  simp only [h1]
  grind
def zmW:Int→List Int→Int × Int × Unit
 | a,[]=>(a,0,())
 | a,x :: l=>bif decide (a + x > M62) then (0,7,()) else zmW (a + x) l
theorem zaY {σ α β ρ:Type} {B:(σ→Option ρ)→σ→Option ρ} {l:List β} (d:β) (I:Nat→α→Prop) (st:Int→α→σ) (G:List β→α→Option ρ) (hl:l.length ≤ Go.maxLen)
 (hin:∀ k (i:Nat) x rest s,i < l.length→I i s→l.getD i d = x→x ∈ l→l.drop (i + 1) = rest→(∀ s',I (i + 1) s'→k (st (wI (i + 1)) s') = G rest s')→B k (st i s) = G (x :: rest) s) (hout:∀ k s,I l.length s→B k (st l.length s) = G [] s) (s:α) (h0:I 0 s):zk B K0 (st 0 s) = G l s:=by
 have:=jS (B:=B) hl st (fun i s=>G (l.drop i) s) I (fun k i s hi hI h=>?_) (fun k s hI=>?_) s h0
 ·simpa using this
 ·rw [zab d hi]
  exact hin k i _ _ s hi hI rfl (zU hi) rfl fun s' hI'=>h s' hI'
 ·rw [hout _ _ hI,List.drop_of_length_le (Nat.le_refl _)]
theorem zlK {l:List Int} (hl:l.length ≤ Go.maxLen) (h:∀ x ∈ l,0 ≤ x ∧ x < U64):zfU (l,()) = some (zmW 0 l) :=
 zaY (B:=zfz) (l:=l) (α:=Int) (0:Int) (fun _ s=>0 ≤ s) (fun i s=>(s,l,(l.length:Int),i)) (fun rest s=>some (zmW s rest)) hl (fun k i x rest s hi hI hx hm hr hk=>by
  simp only [zfz]
  have hxx:=h x hm
  rw [ltT hi,zC hi,qe,hx,zGK hI hxx]
  simp only [cond_true,Option.bind_some,zIC,zmW]
  by_cases hb:s + x > M62
  ·rw [decide_eq_true hb]; rfl
  ·rw [decide_eq_false hb]
   exact hk (s + x) (by omega)) (fun k s _=>by simp only [zfz]; rw [ltF]; rfl) 0 (Int.le_refl 0)
def jb (a b:zo):Bool:=decide (a.1 ≤ b.1) && (List.range' 0 64).all fun i=>!zak a.2.1 i || zak b.2.1 i
def zbH (a:zo):Prop:=0 ≤ a.2.1 ∧ a.2.1 < U64
theorem zeL {a b:zo} (ha:zbH a) (hb:zbH b):y3 (a,b,()) = some (jb a b,()):=by
 rw [zL]
 simp only [y3]
 unfold jb
 unfold zbH U64 at *
 obtain ⟨m,hm⟩:=Int.eq_ofNat_of_zero_le ha.1
 obtain ⟨n,hn⟩:=Int.eq_ofNat_of_zero_le hb.1
 have h1:=zvO m n (by omega) (by omega)
 unfold zf6 at h1
 have h2:(wU (BitVec.toNat (BitVec.ofInt (Go.IntKind.bits .u64) (a.2.1:Int) &&& ~~~BitVec.ofInt (Go.IntKind.bits .u64) (b.2.1:Int)):Int) == 0) = (List.range' 0 64).all fun i=>!zak a.2.1 i || zak b.2.1 i:=by
  rw [hm,hn]
  have h3:∀ z:Int,(z != 0) = !(z == 0):=fun z=>rfl
  rw [h3] at h1
  have h4:=congrArg (!·) h1
  simp only [Bool.not_not] at h4
  exact h4
 rw [h2]
 grind
theorem zzh (x:Int):zfR (x,()) = some (qW x,()):=by simp only [zfR,qW]; grind
def zzi (x:zly):Bool:=yi x.1 && (decide (x.2.1 ≤ M62) && decide (-1 ≤ x.2.2.1 ∧ x.2.2.1 ≤ 127))
theorem zGL (x:zly):zgJ (x,()) = some (zzi x,()):=by
 rw [zL]
 simp only [zgJ,zbG,zzh,Option.bind_some,zzi,qW]
 unfold M62
 grind
def zC8 (x:zly):Bool:=(x.2.1:Int) == 0 && (x.2.2.1:Int) == -1
theorem zFa (x:zly):zfp (x,()) = some (zC8 x,()):=by
 rw [zL]
 simp only [zfp,zC8]
 have h:eqI zd2 x (x.1,(ze zd2).2.1,-1,(ze zd2).2.2.2) = ((x.2.1:Int) == 0 && (x.2.2.1:Int) == -1):=by
  show cond ((x.1:Int) == x.1) (cond ((x.2.1:Int) == 0) (cond ((x.2.2.1:Int) == -1) true false) false) false = _
  rw [beq_self_eq_true]
  cases ((x.2.1:Int) == 0) <;> cases ((x.2.2.1:Int) == -1) <;> rfl
 rw [h]
def zxa (x:zw):Bool:=(qW x.2.1 && (qW x.2.2.1 && (x.2.1:Int) != x.2.2.1)) && ((zzi x.2.2.2.1 && zzi x.2.2.2.2.1) && !(zC8 x.2.2.2.1 && zC8 x.2.2.2.2.1))
def zuD (x:zw):Prop:=(0 ≤ x.2.2.2.1.2.1 ∧ x.2.2.2.1.2.1 < U64) ∧ (0 ≤ x.2.2.2.2.1.2.1 ∧ x.2.2.2.2.1.2.1 < U64)
theorem zGM (x:zw):zj5 (x,()) = some (zxa x,()):=by
 rw [zL]
 simp only [zj5,zzh,zGL,zFa,Option.bind_some,zxa]
 grind
def zlS (x:zw):Bool:=bif x.1 then zxa x else eqI zz x (ze zz)
theorem zzj (x:zw):ze3 (x,()) = some (!zlS x,()):=by
 rw [zL]
 simp only [ze3,zGM,Option.bind_some,zlS]
 grind
theorem zCI {l:List zw} (hl:l.length ≤ Go.maxLen):zg2 (l,()) = some (l.all zlS,()):=by
 rw [zL]
 simp only [zg2]
 rw [ziV (p:=fun x=>!zlS x) hl fun x _=>zzj x,Option.bind_some,← j5]
 cases l.any fun x=>!zlS x <;> rfl
end Go.Proofs.YtkcakhbkoeimdaaGreatDoor
end
section
namespace Go.Proofs.YtkcakhbkoeimdaaGreatDoor
open Go.Ev
theorem zjN {α:Type} {p:α→Bool} {x:α} {l:List α}:(x :: l).filter p = bif p x then x :: l.filter p else l.filter p:=by
 rw [List.filter_cons]; cases p x <;> rfl
def z9 {α:Type} (p:α→Bool):Nat→List α→List Int
 | _,[]=>[]
 | i,x :: l=>bif p x then (i:Int) :: z9 p (i + 1) l else z9 p (i + 1) l
theorem zf7 {α:Type} {p:α→Bool}:∀ (l:List α) (i:Nat),(z9 p i l).length ≤ l.length
 | [],_=>Nat.le_refl _
 | x :: l,i=>by
  have:=zf7 (p:=p) l (i + 1)
  simp only [z9,List.length_cons]
  cases p x <;> simp <;> omega
theorem ziY {α:Type} {p:α→Bool}:∀ (l:List α) (i:Nat),∀ z ∈ z9 p i l,∃ j:Nat,z = (j:Int) ∧ i ≤ j ∧ j < i + l.length
 | [],i,z,h=>by cases h
 | x :: l,i,z,h=>by
  simp only [z9] at h
  have ih:=ziY (p:=p) l (i + 1)
  cases hp:p x with
  | true =>
   rw [hp,cond_true] at h
   rcases List.mem_cons.1 h with rfl | h
   ·exact ⟨i,rfl,Nat.le_refl _,by simp⟩
   ·obtain ⟨j,h1,h2,h3⟩:=ih z h
    exact ⟨j,h1,by omega,by simp; omega⟩
  | false =>
   rw [hp,cond_false] at h
   obtain ⟨j,h1,h2,h3⟩:=ih z h
   exact ⟨j,h1,by omega,by simp; omega⟩
theorem zk9 {α β:Type} {p q:α→Bool} {g:α→β} (d:α) (L:List α):∀ (l:List α) (i:Nat),(∀ j,j < l.length→L.getD (i + j) d = l.getD j d)→((z9 p i l).filter fun z=>q (L.getD z.toNat d)).map (fun z=>g (L.getD z.toNat d)) = (l.filter fun x=>p x && q x).map g
 | [],_,_=>rfl
 | x :: l,i,h=>by
  have ih:=zk9 (p:=p) (q:=q) (g:=g) d L l (i + 1) fun j hj=>by
   have:=h (j + 1) (by simp; omega)
   rw [show i + 1 + j = i + (j + 1) by omega,this]; rfl
  have h0:L.getD i d = x:=h 0 (by simp)
  simp only [z9,zjN]
  cases hp:p x with
  | false=>simp only [cond_false,Bool.false_and]; exact ih
  | true =>
   simp only [cond_true,Bool.true_and,zjN,Int.toNat_natCast,h0]
   cases hq:q x with
   | false=>exact ih
   | true=>simp only [cond_true,List.map_cons,Int.toNat_natCast,h0,ih]
theorem zt6 {l:List zw} {g:zw × Unit→Option (Bool × Unit)}:zec (some (l,some g,()),()) = some (true,()):=rfl
theorem zvP {l:List zw} {g:zw × Unit→Option (Bool × Unit)} {p:zw→Bool} (hg:∀ x,g (x,()) = some (p x,())) {i:Nat} (hi:i < l.length):yd (some (l,some g,()),(i:Int),()) = some (p (l.getD i qT),()):=by
 rw [zL]
 simp only [yd,zt6,Option.bind_some,cond_true]
 rw [decide_eq_true (by omega),ltT hi,zC hi,qe,hg]
 simp only [cond_true,Option.bind_some]
theorem zr8 {l:List zw} {g:zw × Unit→Option (Bool × Unit)} {p:zw→Bool} (hl:l.length ≤ lim) (hg:∀ x,g (x,()) = some (p x,())):zdc (some (l,some g,()),()) = some (z9 p 0 l,()):=by
 have hl':l.length ≤ Go.maxLen:=by unfold lim at hl; unfold Go.maxLen; omega
 have:=jS (B:=yG) (α:=List Int) hl' (fun i o=>(some (l,some g,()),(l.length:Int),i,o)) (fun i o=>some (o ++ z9 p i (l.drop i),())) (fun i o=>o.length ≤ i) (fun k i o hi hI hk=>by
  simp only [yG]
  rw [ltT hi,zvP hg hi,y9,zab qT hi]
  simp only [cond_true,Option.bind_some,z9]
  rw [decide_eq_true (by simp; omega)]
  cases hp:p (l.getD i qT) with
  | false =>
   simp only [cond_false]
   exact hk o (by omega)
  | true =>
   simp only [cond_true]
   rw [hk _ (by simp; omega)]
   simp) (fun k o _=>by
  simp only [yG]
  rw [ltF,List.drop_of_length_le (Nat.le_refl _)]
  simp [z9]) [] (Nat.le_refl _)
 refine Eq.trans ?_ (this.trans ?_)
 ·rfl
 ·simp
theorem zFb {l:List zr} {g:zr × Unit→Option (Bool × Unit)}:zed (some (l,some g,()),()) = some (true,()):=rfl
theorem zGN {l:List zr} {g:zr × Unit→Option (Bool × Unit)} {p:zr→Bool} (hg:∀ x,g (x,()) = some (p x,())) {i:Nat} (hi:i < l.length):ze2 (some (l,some g,()),(i:Int),()) = some (p (l.getD i qt),()):=by
 rw [zL]
 simp only [ze2,zFb,Option.bind_some,cond_true]
 rw [decide_eq_true (by omega),ltT hi,zC hi,qe,hg]
 simp only [cond_true,Option.bind_some]
theorem zCJ {l:List zr} {g:zr × Unit→Option (Bool × Unit)} {p:zr→Bool} (hl:l.length ≤ lim) (hg:∀ x,g (x,()) = some (p x,())):zgr (some (l,some g,()),()) = some (z9 p 0 l,()):=by
 have hl':l.length ≤ Go.maxLen:=by unfold lim at hl; unfold Go.maxLen; omega
 have:=jS (B:=yI) (α:=List Int) hl' (fun i o=>(some (l,some g,()),(l.length:Int),i,o)) (fun i o=>some (o ++ z9 p i (l.drop i),())) (fun i o=>o.length ≤ i) (fun k i o hi hI hk=>by
  simp only [yI]
  rw [ltT hi,zGN hg hi,y9,zab qt hi]
  simp only [cond_true,Option.bind_some,z9]
  rw [decide_eq_true (by simp; omega)]
  cases hp:p (l.getD i qt) with
  | false =>
   simp only [cond_false]
   exact hk o (by omega)
  | true =>
   simp only [cond_true]
   rw [hk _ (by simp; omega)]
   simp) (fun k o _=>by
  simp only [yI]
  rw [ltF,List.drop_of_length_le (Nat.le_refl _)]
  simp [z9]) [] (Nat.le_refl _)
 refine Eq.trans ?_ (this.trans ?_)
 ·rfl
 ·simp
def zog (l:List zw) (c:Int):Int × Int × Unit:=bif yi c then zmW 0 ((l.filter fun x=>x.1 && (x.2.2.2.1.1:Int) == c).map fun x=>x.2.2.2.1.2.1) else (0,1,())
theorem zGO (l:List zw) (hl:l.length ≤ lim):zj6 (l,()) = some (some (l,some zgV,()),()):=by
 simp only [zj6,yM,zr6 hl,Option.bind_some]
 rfl
theorem zCK (x:zw):zgV (x,()) = some (x.1,()):=by
 rw [zL]; rfl
theorem zFc {l:List zw} (hl:l.length ≤ lim) (h:∀ x ∈ l,zuD x) (c:Int):ziG (l,c,()) = some (zog l c):=by
 have hl':l.length ≤ Go.maxLen:=by unfold lim at hl; unfold Go.maxLen; omega
 simp only [ziG,ziF,zbG,Option.bind_some]
 unfold zog
 cases hc:yi c with
 | false=>rfl
 | true =>
  simp only [cond_true]
  rw [zGO l hl,Option.bind_some,zr8 hl zCK,Option.bind_some]
  have hsl:=zf7 (p:=fun x:zw=>x.1) l 0
  have hsm:=ziY (p:=fun x:zw=>x.1) l 0
  have hloop:=zaY (B:=zdB) (l:=z9 (fun x:zw=>x.1) 0 l) (α:=List Int) (0:Int) (fun i o=>o.length ≤ i ∧ ∀ x ∈ o,0 ≤ x ∧ x < U64) (fun i o=>(l,c,z9 (fun x:zw=>x.1) 0 l,((z9 (fun x:zw=>x.1) 0 l).length:Int),i,o))
   (fun rest o=>some (zmW 0 (o ++ (rest.filter fun z=>((l.getD z.toNat qT).2.2.2.1.1:Int) == c).map fun z=>(l.getD z.toNat qT).2.2.2.1.2.1))) (by omega) (fun k i x rest o hi hI hx hm hr hk=>by
    simp only [zdB]
    obtain ⟨j,rfl,-,hj⟩:=hsm x hm
    rw [ltT hi,zC hi,qe,hx,zC (by omega),zC (by omega),Int.toNat_natCast,y9]
    have hxx:=(h (l.getD j qT) (zU (by omega))).1
    simp only [cond_true,zjN,Int.toNat_natCast]
    rw [decide_eq_true (by simp; omega)]
    simp only [cond_true]
    cases hq:((l.getD j qT).2.2.2.1.1:Int) == c with
    | false =>
     exact hk o ⟨by omega,hI.2⟩
    | true =>
     simp only [cond_true,List.map_cons,Int.toNat_natCast]
     refine (hk _ ⟨by simp; omega,fun x hx=>?_⟩).trans ?_
     ·rcases List.mem_append.1 hx with hx | hx
      ·exact hI.2 x hx
      ·rcases List.mem_singleton.1 hx with rfl
       exact hxx
     ·rw [List.append_assoc]; rfl) (fun k o hI=>by
    simp only [zdB]
    rw [ltF]
    simp only [cond_false]
    rw [zlK (by omega) hI.2,List.filter_nil,List.map_nil,List.append_nil]
    rfl) [] ⟨Nat.le_refl _,fun x hx=>by cases hx⟩
  refine hloop.trans ?_
  rw [List.nil_append,zk9 (q:=fun x:zw=>(x.2.2.2.1.1:Int) == c) (g:=fun x:zw=>x.2.2.2.1.2.1) qT l l 0 fun j _=>by rw [Nat.zero_add]]
end Go.Proofs.YtkcakhbkoeimdaaGreatDoor
end
section
namespace Go.Proofs.YtkcakhbkoeimdaaGreatDoor
open Go.Ev
def zAN (x:Int):Bool:=decide (0 ≤ x ∧ x ≤ 2)
theorem zAO (x:Int):za9 (x,()) = some (!zAN x,()):=by simp only [za9,zAN]; grind
def zqb (r:za) (i:Nat) (row:List Int):Bool:=decide (row.length = r.2.2.1.length) && (row.all zAN && row.getD (Int.toNat (r.2.2.2.1.getD i zD).2.1) (0:Int) == 2)
def vn (r:za) (l:List (List Int)):Bool:=decide (l.length = r.2.2.2.1.length) && qi (fun i=>zqb r i (l.getD i [])) 0 (l.length - 0)
structure zhP (r:za):Prop where
 labels:1 ≤ r.1.length ∧ r.1.length ≤ 8
 lines:1 ≤ r.2.1.length ∧ r.2.1.length ≤ 8
 accounts:1 ≤ r.2.2.1.length ∧ r.2.2.1.length ≤ 8
 guilds:r.2.2.2.1.length ≤ 8
 quotas:r.2.2.2.2.1.length = r.1.length
 heads:∀ i,i < r.2.2.2.1.length→0 ≤ (r.2.2.2.1.getD i zD).2.1 ∧ (r.2.2.2.1.getD i zD).2.1 < (r.2.2.1.length:Int)
theorem qj {r:za} (h:zG r = true):zhP r:=by
 simp only [zG,Bool.and_eq_true] at h
 obtain ⟨h1,h2,h3,h4,h5,-⟩:=h
 simp only [zf5,zkJ,zhN,zjL,zjK,qf,Bool.and_eq_true,decide_eq_true_eq,zIz,qE] at h1 h2 h3 h4 h5
 refine ⟨by omega,by omega,by omega,h4.1,by omega,fun i hi=>?_⟩
 have:=h4.2.1 i (by omega) (by omega)
 simp only [zAL,qf,Bool.and_eq_true,decide_eq_true_eq] at this
 omega
theorem ixR {n:Nat} {x:Int} {ρ:Type} {y:Option ρ} (h:0 ≤ x ∧ x < (n:Int)):inR x (n:Int) y = y:=zJU h.1 h.2
theorem zmX {r:za} (hr:zO r) (l:List (List Int)):zdJ (r,l,()) = some (zG r && vn r l,()):=by
 rw [zL]
 simp only [zdJ,ziO,yr r hr,Option.bind_some]
 cases hb:zG r with
 | false=>rfl
 | true =>
  have ok:=qj hb
  rw [znw]
  unfold vn
  by_cases hn:l.length = r.2.2.2.1.length
  ·have hg:=ok.guilds
   have hloop:zjJ K0 (some za9,l,(l.length:Int),0,r) = bif qi (fun i=>zqb r i (l.getD i [])) 0 (l.length - 0) then some (true,()) else some (false,()) :=
    yY (i0:=0) (n:=l.length) (by unfold Go.maxLen; omega) (Nat.zero_le _) (fun i=>(some za9,l,(l.length:Int),i,r)) (fun k i h1 h2=>by
     simp only [zf0]
     rw [ltT h2,zC h2,Int.toNat_natCast,znw]
     unfold zqb
     by_cases hm:(l.getD i []).length = r.2.2.1.length
     ·have ha:=ok.accounts
      have hh:=ok.heads i (by omega)
      rw [zaj (p:=fun x=>!zAN x) (l:=l.getD i []) (by unfold Go.maxLen; omega) fun x _=>zAO x,zC (by omega),qe,ixR (by rw [hm]; exact hh)]
      have:=j5 (l:=l.getD i []) (p:=zAN)
      simp only [Option.bind_some,cond_true]
      grind
     ·grind) (fun k=>by simp only [zf0]; rw [ltF]; rfl)
   rw [hloop]
   grind
  ·grind
theorem zJ9 (x:Int):zkt (x,()) = some (qW x,()):=by simp only [zkt,qW]; grind
theorem zID (x:Int):zd8 (x,()) = some (qW x,()):=by simp only [zd8,qW]; grind
def zre (k a b:Int):Int × Int × Unit:=bif (k != 1 && k != 2) || (a == 0 || b == 0) then (0,1,()) else bif decide (a * b > M62) then (0,7,()) else bif k == 2 then (a,0,()) else (a * b,0,())
theorem zvQ {k a b:Int} (ha:0 ≤ a ∧ a < U64) (hb:0 ≤ b ∧ b < U64):zgM (k,a,b,()) = some (zre k a b):=by
 simp only [zgM,zE9 ha hb,Option.bind_some,zE8,zre]
 generalize a * b = p
 cases h:decide (p > M62) <;> simp only [cond_true,cond_false] <;> grind
def ze9 (x:Int):Prop:=0 ≤ x ∧ x < U64
structure zlT (x:zr):Prop where
 amount:ze9 x.2.2.2.2.2.2.1
 price:ze9 x.2.2.2.2.2.2.2.1
 held:ze9 x.2.2.2.2.2.2.2.2.1
def zrf (x:zr):Bool:=((zre x.2.2.2.1 x.2.2.2.2.2.2.2.1 x.2.2.2.2.2.2.1).2.1 == 0 && (zre x.2.2.2.1 x.2.2.2.2.2.2.2.1 x.2.2.2.2.2.2.1).1 == x.2.2.2.2.2.2.2.2.1) && ((qW x.2.1 && qW x.2.2.1) && ((yi x.2.2.2.2.1 && yi x.2.2.2.2.2.1) && ((x.2.2.2.2.1:Int) != x.2.2.2.2.2.1 && decide (0 ≤ x.2.2.2.2.2.2.2.2.2.1))))
theorem zIE {x:zr} (h:zlT x):zlE (x,()) = some (zrf x,()):=by
 rw [zL]
 simp only [zlE,zvQ h.price h.amount,zJ9,zbG,Option.bind_some,zrf]
 generalize zre x.2.2.2.1 x.2.2.2.2.2.2.2.1 x.2.2.2.2.2.2.1 = n
 grind
def zAP (x:zr):Bool:=bif x.1 then zrf x else eqI zq x (ze zq)
def zxb (l:List zr):List Int:=(l.filter fun x=>x.1).map fun x=>x.2.2.2.2.2.2.2.2.2.1
def zFd:List Int→List (Int × Int)→Nat
 | [],o=>o.length
 | x :: l,o=>zFd l (yJ tI o x (wI (zcM tI (0:Int) o x + 1)))
def zuE (l:List zr):Bool:=l.all zAP && zFd (zxb l) [] == (zxb l).length
theorem zFe {l:List zr} (hl:l.length ≤ 1000000) (h:∀ x ∈ l,zlT x):zmM (l,()) = some (zuE l,()):=by
 have hloop:=zaY (B:=zdD) (l:=l) (α:=Nat × List (Int × Int)) qt (fun i s=>s.1 ≤ i) (fun i s=>((s.1:Int),l,(l.length:Int),i,s.2))
  (fun rest s=>some (rest.all zAP && zFd (zxb rest) s.2 == s.1 + (zxb rest).length,())) (by unfold Go.maxLen; omega) (fun k i x rest s hi hI hx hm hr hk=>by
   obtain ⟨n,o⟩:=s
   simp only [zdD]
   have hn:n ≤ i:=hI
   have hw:wI ((n:Int) + 1) = ((n + 1:Nat):Int):=by
    unfold wI
    rw [IntWalk.i64_in _ (by omega)]; rfl
   rw [ltT hi,zC hi]
   simp only [qe,hx,cond_true,zIE (h x hm),Option.bind_some,hw,zxb,zjN,List.all_cons,zAP]
   cases hlive:x.1 with
   | false =>
    simp only [cond_false]
    have:=hk (n,o) (by show n ≤ i + 1; omega)
    cases eqI zq x (ze zq) with
    | false=>rfl
    | true=>exact this
   | true =>
    simp only [cond_true,List.map_cons,zFd,List.length_cons]
    have:=hk (n + 1,yJ tI o x.2.2.2.2.2.2.2.2.2.1 (wI (zcM tI (0:Int) o x.2.2.2.2.2.2.2.2.2.1 + 1))) (by show n + 1 ≤ i + 1; omega)
    cases zrf x with
    | false=>rfl
    | true =>
     refine this.trans ?_
     simp only [zxb,Bool.true_and]
     rw [show n + 1 + (List.map (fun x:zr=>x.2.2.2.2.2.2.2.2.2.1) (List.filter (fun x=>x.1) rest)).length = n + ((List.map (fun x:zr=>x.2.2.2.2.2.2.2.2.2.1) (List.filter (fun x=>x.1) rest)).length + 1) by omega]) (fun k s _=>by
   obtain ⟨n,o⟩:=s
   simp only [zdD]
   rw [ltF]
   simp only [cond_false,zxb,List.filter_nil,List.map_nil,zFd,List.length_nil,List.all_nil,Bool.true_and,Nat.add_zero]
   rw [zJ6]
   cases o.length == n <;> rfl) (0,[]) (Nat.le_refl _)
 refine hloop.trans ?_
 unfold zuE
 rw [Nat.zero_add]
structure zuF (x:zH):Prop where
 amount:ze9 x.2.2.2.2.2.2.2.1
 price:ze9 x.2.2.2.2.2.2.2.2.1
def zlU (x:zH):Bool:=(decide (x.1 ≤ M62) && (qW x.2.1 && (qW x.2.2.1 && (qW x.2.2.2.1 && qW x.2.2.2.2.2.2.2.2.2.1)))) && bif (x.2.2.2.2.1:Int) == 3 then ((x.2.2.2.2.2.1:Int) == 0 && (x.2.2.2.2.2.2.1:Int) == 0) && ((x.2.2.2.2.2.2.2.1:Int) == 0 && (x.2.2.2.2.2.2.2.2.1:Int) == 0)
 else ((zre x.2.2.2.2.1 x.2.2.2.2.2.2.2.1 x.2.2.2.2.2.2.2.2.1).2.1 == 0 && (x.2.2.2.2.2.2.2.2.2.1:Int) == 0) && ((x.2.2.2.2.2.1:Int) != x.2.2.2.2.2.2.1 && (yi x.2.2.2.2.2.1 && yi x.2.2.2.2.2.2.1))
theorem zKa (x:zH):eqI zy x (x.1,x.2.1,x.2.2.1,x.2.2.2.1,x.2.2.2.2.1,(ze zy).2.2.2.2.2.1,(ze zy).2.2.2.2.2.2.1,(ze zy).2.2.2.2.2.2.2.1,(ze zy).2.2.2.2.2.2.2.2.1,x.2.2.2.2.2.2.2.2.2.1,(ze zy).2.2.2.2.2.2.2.2.2.2) = (((x.2.2.2.2.2.1:Int) == 0 && (x.2.2.2.2.2.2.1:Int) == 0) && ((x.2.2.2.2.2.2.2.1:Int) == 0 && (x.2.2.2.2.2.2.2.2.1:Int) == 0)):=by
 show cond ((x.1:Int) == x.1) (cond ((x.2.1:Int) == x.2.1) (cond ((x.2.2.1:Int) == x.2.2.1) (cond ((x.2.2.2.1:Int) == x.2.2.2.1) (cond ((x.2.2.2.2.1:Int) == x.2.2.2.2.1) (cond ((x.2.2.2.2.2.1:Int) == 0) (cond ((x.2.2.2.2.2.2.1:Int) == 0) (cond ((x.2.2.2.2.2.2.2.1:Int) == 0) (cond ((x.2.2.2.2.2.2.2.2.1:Int) == 0) (cond ((x.2.2.2.2.2.2.2.2.2.1:Int) == x.2.2.2.2.2.2.2.2.2.1) true false) false) false) false) false) false) false) false) false) false = _
 simp only [beq_self_eq_true,cond_true]
 cases ((x.2.2.2.2.2.1:Int) == 0) <;> cases ((x.2.2.2.2.2.2.1:Int) == 0) <;> cases ((x.2.2.2.2.2.2.2.1:Int) == 0) <;> cases ((x.2.2.2.2.2.2.2.2.1:Int) == 0) <;> rfl
theorem zGP {x:zH} (h:zuF x):zj7 (x,()) = some (zlU x,()):=by
 rw [zL]
 simp only [zj7,zvQ h.amount h.price,zID,zbG,Option.bind_some,zlU]
 rw [zKa x]
 generalize zre x.2.2.2.2.1 x.2.2.2.2.2.2.2.1 x.2.2.2.2.2.2.2.2.1 = n
 unfold M62
 grind
def zKb (a b:zH):Int:=orV (zk7 a.1 b.1) (zk7 a.2.1 b.2.1)
theorem zCL (a b:zH):zg0 (a,b,()) = some (zKb a b,()):=by
 simp only [zg0,zr7,zmS,Option.bind_some]
 show Option.bind (zdl ([zk7 a.1 b.1,zk7 a.2.1 b.2.1],())) _ = _
 rw [zMA]; rfl
def zmY (l:List zH):Bool:=qi (fun i=>zlU (l.getD i zh1) && (decide (i = 0) || !decide (zKb (l.getD (i - 1) zh1) (l.getD i zh1) ≥ 0))) 0 (l.length - 0)
theorem zCM {l:List zH} (hl:l.length ≤ Go.maxLen) (h:∀ x ∈ l,zuF x):zk0 (l,()) = some (zmY l,()):=by
 rw [zL]
 exact yY (B:=zcw) (i0:=0) hl (Nat.zero_le _) (fun i=>(l,l,(l.length:Int),i)) (fun k i h1 h2=>by
  simp only [zcw]
  rw [ltT h2,zC h2,qe,zGP (h _ (zU h2))]
  by_cases h0:i = 0
  ·subst h0
   simp only [cond_true,Option.bind_some]
   grind
  ·rw [zpb (by omega) (by omega),zC (by omega),Int.toNat_natCast,zCL]
   simp only [cond_true,Option.bind_some]
   grind) (fun k=>by simp only [zcw]; rw [ltF]; rfl)
end Go.Proofs.YtkcakhbkoeimdaaGreatDoor
end
section
namespace Go.Proofs.YtkcakhbkoeimdaaGreatDoor
open Go.Ev
def zrg (a:List Int):Prop:=∀ x ∈ a,ze9 x
theorem zmZ {a:List Int} (h:zrg a) (i:Nat):ze9 (a.getD i 0):=by
 by_cases hi:i < a.length
 ·exact h _ (zU hi)
 ·rw [List.getD_eq_getElem?_getD,List.getElem?_eq_none (by omega)]
  unfold ze9 U64; decide
structure zlV (x:zi):Prop where
 trades:∀ t ∈ x.2.2.2.2.1,zuD t
 purses:∀ a ∈ x.2.2.2.2.2.1,zrg a
 made:zrg x.2.2.2.2.2.2.2.1
 spent:zrg x.2.2.2.2.2.2.2.2.1
structure qH (s:zd):Prop where
 shelves:∀ x ∈ s.2.1,zlV x
 orders:∀ x ∈ s.2.2.2.1,zlT x
 entries:∀ x ∈ s.2.2.2.2.1,zuF x
def zfF (r:za) (x:zi) (q:zcb):Bool:=((decide ((x.1.length:Int) = q.1) && decide ((x.2.1.length:Int) = q.2.1)) && (decide ((x.2.2.1.length:Int) = q.2.2.1) && decide ((x.2.2.2.1.length:Int) = q.2.2.2.1))) && (decide ((x.2.2.2.2.1.length:Int) = q.2.2.2.2.1) && (decide (x.2.2.2.2.2.1.length = r.2.2.1.length) && decide (x.2.2.2.2.2.2.1.length = r.2.2.1.length)))
def ziZ (r:za) (s:zd):Bool:=(decide (s.2.1.length = r.1.length) && (decide ((s.2.2.2.1.length:Int) = r.2.2.2.2.2.1) && decide ((s.2.2.2.2.1.length:Int) ≤ r.2.2.2.2.2.2.1))) && ((decide (s.2.2.2.2.2.1.length = r.2.1.length) && decide (s.1 ≤ M62)) && qi (fun i=>zfF r (s.2.1.getD i zg) (r.2.2.2.2.1.getD i va)) 0 (s.2.1.length - 0))
theorem neI (a b:Int):(a != b) = !decide (a = b):=by
 rw [Bool.eq_iff_iff]; simp
theorem zCN {r:za} (hr:zO r) (s:zd):zbZ ((r,s,()),()) = some (zG r && ziZ r s,()):=by
 rw [zL]
 simp only [zbZ,zg4,yr r hr,Option.bind_some]
 cases hb:zG r with
 | false=>rfl
 | true =>
  have ok:=qj hb
  have ok1:=ok.labels
  have ok2:=ok.quotas
  rw [znw,znw]
  unfold ziZ M62
  by_cases hn:s.2.1.length = r.1.length
  ·have hloop:ziN K0 ((r.2.2.1.length:Int),s.2.1,(s.2.1.length:Int),0,(r,s,())) = bif qi (fun i=>zfF r (s.2.1.getD i zg) (r.2.2.2.2.1.getD i va)) 0 (s.2.1.length - 0) then some (true,()) else some (false,()) :=
    yY (i0:=0) (n:=s.2.1.length) (by unfold Go.maxLen; omega) (Nat.zero_le _) (fun i=>((r.2.2.1.length:Int),s.2.1,(s.2.1.length:Int),i,(r,s,()))) (fun k i h1 h2=>by
     simp only [ze6]
     rw [ltT h2,zC h2,zC (by omega)]
     simp only [qe,neI,cond_true,zfF]
     generalize s.2.1.getD i zg = x
     generalize r.2.2.2.2.1.getD i va = q
     generalize k _ = kk
     grind (splits:=30)) (fun k=>by simp only [ze6]; rw [ltF]; rfl)
   rw [hloop]
   grind
  ·grind
structure zhQ (r:za) (s:zd):Prop where
 shelves:s.2.1.length = r.1.length
 orders:s.2.2.2.1.length ≤ 24
 entries:s.2.2.2.2.1.length ≤ 48
 people:s.2.2.2.2.2.1.length = r.2.1.length
 shelf:∀ x ∈ s.2.1,x.1.length ≤ 12 ∧ x.2.1.length ≤ 12 ∧ x.2.2.1.length ≤ 12 ∧ x.2.2.2.1.length ≤ 12 ∧ x.2.2.2.2.1.length ≤ 12 ∧ x.2.2.2.2.2.1.length = r.2.2.1.length ∧ x.2.2.2.2.2.2.1.length = r.2.2.1.length
theorem zxc:∀ (l:List zcb) (n:Int),zrb n l = true→∀ q ∈ l,zhO q = true
 | [],_,_,q,h=>by cases h
 | a :: l,n,h,q,hq=>by
  simp only [zrb,Bool.and_eq_true] at h
  rcases List.mem_cons.1 hq with rfl | hq
  ·exact h.1
  ·exact zxc l _ h.2.2 q hq
theorem vO {r:za} {s:zd} (hb:zG r = true) (h:ziZ r s = true):zhQ r s:=by
 have ok:=qj hb
 simp only [zG,Bool.and_eq_true] at hb
 obtain ⟨-,-,-,-,h5,h6⟩:=hb
 simp only [zjK,zuB,qf,Bool.and_eq_true,decide_eq_true_eq] at h5 h6
 simp only [ziZ,Bool.and_eq_true,decide_eq_true_eq,qE] at h
 obtain ⟨⟨h7,h8,h9⟩,⟨h10,-⟩,h11⟩:=h
 refine ⟨h7,by omega,by omega,h10,fun x hx=>?_⟩
 obtain ⟨i,hi,rfl⟩:=List.mem_iff_getElem.1 hx
 have h12:=h11 i (by omega) (by omega)
 have e:s.2.1.getD i zg = s.2.1[i]:=by simp [List.getD,hi]
 rw [e] at h12
 have hq:=zxc _ _ h5.2.2.2 (r.2.2.2.2.1.getD i va) (zU (by have:=ok.quotas; omega))
 simp only [zhO,qf,Bool.and_eq_true,decide_eq_true_eq] at hq
 simp only [zfF,Bool.and_eq_true,decide_eq_true_eq] at h12
 omega
def jB (x:zi):Bool:=(x.1.all zqa) && (zJ8 x.2.1 && (x.2.2.1.all ziX && (x.2.2.2.1.all zcJ && x.2.2.2.2.1.all zlS)))
theorem zzk {x:zi} (h:x.1.length ≤ 12 ∧ x.2.1.length ≤ 12 ∧ x.2.2.1.length ≤ 12 ∧ x.2.2.2.1.length ≤ 12 ∧ x.2.2.2.2.1.length ≤ 12):ze5 (x,()) = some (jB x,()):=by
 rw [zL]
 have hm:12 ≤ Go.maxLen:=by unfold Go.maxLen; omega
 simp only [ze5]
 rw [zE2 (by omega),zE4 (by omega),zCH (by omega),zmV (by omega),zCI (by omega)]
 simp only [Option.bind_some,jB]
 grind
theorem zCO {r:za} {s:zd} (ok:zhP r) (sz:zhQ r s):zb0 ((r,s,()),()) = some (s.2.1.all jB,()):=by
 rw [zL]
 simp only [zb0]
 have h1:=ok.labels
 have h2:=sz.shelves
 rw [zGB (p:=jB) (by unfold Go.maxLen; omega) fun x hx=>zzk (by have:=sz.shelf x hx; omega)]
 simp only [Option.bind_some]
def qy (r:za) (x:Int):Bool:=decide (0 ≤ x ∧ x < (r.2.2.1.length:Int))
def qc (r:za) (x:Int):Bool:=decide (0 ≤ x ∧ x < (r.1.length:Int))
theorem zav (r:za) (s:zd) (x:Int):qM ((r,s,()),x,()) = some (qy r x,()):=by simp only [qM,qy]; grind
theorem zr9 (r:za) (s:zd) (x:Int):zbX ((r,s,()),x,()) = some (qc r x,()):=by simp only [zbX,qc]; grind
def zm0 (s:zd) (x:j9):Bool:=decide (0 ≤ x.1 ∧ x.1 < (s.2.1.length:Int)) && (decide (0 ≤ x.2.1 ∧ x.2.1 < ((s.2.1.getD x.1.toNat zg).1.length:Int)) && ((s.2.1.getD x.1.toNat zg).1.getD x.2.1.toNat zuw).1)
theorem zsa (s:zd) (x:j9):zet (s,x,()) = some (zm0 s x,()):=by
 rw [zL]
 simp only [zet,zm0,ix]
 by_cases h1:0 ≤ x.1 ∧ x.1 < (s.2.1.length:Int)
 ·rw [ixR h1,ixR h1]
  by_cases h2:0 ≤ x.2.1 ∧ x.2.1 < ((s.2.1.getD x.1.toNat zg).1.length:Int)
  ·rw [ixR h2]
   grind
  ·grind
 ·grind
def zjO (r:za) (s:zd) (x:zr):Bool:=!x.1 || (qc r x.2.1 && (qy r x.2.2.1 && decide (x.2.2.2.2.2.2.2.2.2.1 < (s.2.2.2.2.1.length:Int))))
def zjP (r:za) (s:zd) (x:zH):Bool:=decide (x.2.1 < (r.2.1.length:Int)) && ((x.2.2.1:Int) == r.2.1.getD x.2.1.toNat 0 && (qy r x.2.2.2.1 && decide (x.1 ≤ s.1)))
def zqc (r:za) (x:Int):Bool:=x == -1 || qy r x
theorem zIF (r:za) (s:zd) (x:zr):zej (x,some (r,s,()),()) = some (zjO r s x,()):=by
 rw [zL]
 simp only [zej,zav,zr9,Option.bind_some,zjO]
 grind
theorem zIG (r:za) (s:zd) {x:zH} (h:zlU x = true):zbu (x,some (r,s,()),()) = some (zjP r s x,()):=by
 rw [zL]
 simp only [zbu,zav,Option.bind_some,zjP,ix]
 have:0 ≤ x.2.1:=by unfold zlU qW at h; grind
 by_cases h1:x.2.1 < (r.2.1.length:Int)
 ·rw [ixR ⟨this,h1⟩]
  grind
 ·grind
theorem zIH (r:za) (s:zd) (x:Int):vt (x,some (r,s,()),()) = some (zqc r x,()):=by
 rw [zL]
 simp only [vt,zav,Option.bind_some,zqc]
 grind
def zb2 (r:za) (s:zd):Bool:=vn r s.2.2.1 && (zuE s.2.2.2.1 && (zmY s.2.2.2.2.1 && (zm0 s (ze zR) && (s.2.2.2.1.all (zjO r s) && (s.2.2.2.2.1.all (zjP r s) && s.2.2.2.2.2.1.all (zqc r))))))
theorem zFf {l:List zH} (h:zmY l = true):∀ x ∈ l,zlU x = true:=by
 intro x hx
 simp only [zmY,qE,Bool.and_eq_true] at h
 obtain ⟨i,hi,rfl⟩:=List.mem_iff_getElem.1 hx
 have e:l.getD i zh1 = l[i]:=by simp [List.getD,hi]
 rw [← e]
 exact (h i (by omega) (by omega)).1
theorem zAQ {r:za} {s:zd} (hr:zO r) (hb:zG r = true) (hs:qH s) (sz:zhQ r s):zbe ((r,s,()),()) = some (zb2 r s,()):=by
 rw [zL]
 have ok:=qj hb
 have h1:=ok.lines
 have h2:=sz.orders
 have h3:=sz.entries
 have h4:=sz.people
 have hm:48 ≤ Go.maxLen:=by unfold Go.maxLen; omega
 simp only [zbe,zmX hr,hb,Bool.true_and,Option.bind_some]
 unfold zb2
 cases vn r s.2.2.1 with
 | false=>rfl
 | true =>
  rw [zFe (by omega) hs.orders,zCM (by omega) hs.entries,zsa]
  simp only [Option.bind_some,cond_true]
  cases zuE s.2.2.2.1 with
  | false=>rfl
  | true =>
   cases he:zmY s.2.2.2.2.1 with
   | false=>rfl
   | true =>
    rw [zGC (p:=zjO r s) (by omega) fun x _=>zIF r s x,zGD (p:=zjP r s) (by omega) fun x hx=>zIG r s (zFf he x hx),zJ2 (p:=zqc r) (by omega) fun x _=>zIH r s x]
    simp only [Option.bind_some,cond_true]
    grind
end Go.Proofs.YtkcakhbkoeimdaaGreatDoor
end
section
namespace Go.Proofs.YtkcakhbkoeimdaaGreatDoor
open Go.Ev
def zep (r:za) (a b:Int):Bool:=qc r a && (qc r b && jb (r.1.getD a.toNat zA) (r.1.getD b.toNat zA))
theorem zm1 {r:za} (hr:zO r) (a:Int) (h:qc r a = true):zbH (r.1.getD a.toNat zA):=by
 simp only [qc,decide_eq_true_eq] at h
 exact hr.labels _ (zU (by omega))
theorem zvR {r:za} (hr:zO r) (s:zd) (a b:Int):zgK ((r,s,()),a,b,()) = some (zep r a b,()):=by
 rw [zL]
 simp only [zgK,zr9,Option.bind_some,zep,ix]
 cases ha:qc r a with
 | false=>rfl
 | true =>
  cases hb:qc r b with
  | false=>rfl
  | true =>
   rw [zeL (zm1 hr a ha) (zm1 hr b hb)]
   simp only [qc,decide_eq_true_eq] at ha hb
   rw [ixR ha,ixR hb]
   simp only [Option.bind_some]
   grind
def zgO (r:za) (s:zd) (i:Int) (x:j9):Bool:=zm0 s x && zep r x.1 i
theorem zi0 {r:za} (hr:zO r) (s:zd) (i:Int) (x:j9):ye (x,some (r,s,()),some i,()) = some (zgO r s i x,()):=by
 rw [zL]
 simp only [ye,zsa,zvR hr,Option.bind_some,zgO]
 grind
def zfG (r:za) (s:zd) (i:Int) (x:qg):Bool:=!x.1 || (zgO r s i x.2.1 && zgO r s i x.2.2.1)
def zdV (r:za) (s:zd) (i:Int) (x:qb):Bool:=(x.2.2.1:Int) != 2 || zgO r s i x.2.2.2.2.1
def zqd (r:za) (s:zd) (i:Int) (x:zi):Bool:=x.2.1.all (zfG r s i) && (x.2.2.1.all (zdV r s i) && x.2.2.2.2.2.2.1.all (zgO r s i))
theorem zKc {r:za} (hr:zO r) (s:zd) (i:Int) (x:qg):ze0 (x,some (some fun z=>ye (z.1,some (r,s,()),some i,())),()) = some (zfG r s i x,()):=by
 rw [zL]
 simp only [ze0,zi0 hr,Option.bind_some,zfG]
 grind
theorem zKd {r:za} (hr:zO r) (s:zd) (i:Int) (x:qb):zce (x,some (some fun z=>ye (z.1,some (r,s,()),some i,())),()) = some (zdV r s i x,()):=by
 rw [zL]
 simp only [zce,zi0 hr,Option.bind_some,zdV]
 grind
theorem zCP {r:za} {s:zd} (hr:zO r) (ok:zhP r) (sz:zhQ r s):zev ((r,s,()),()) = some (qi (fun i=>zqd r s (i:Int) (s.2.1.getD i zg)) 0 (s.2.1.length - 0),()):=by
 rw [zL]
 have h1:=ok.labels
 have h2:=sz.shelves
 have h3:=ok.accounts
 exact yY (B:=zcy) (i0:=0) (n:=s.2.1.length) (by unfold Go.maxLen; omega) (Nat.zero_le _) (fun i=>(s.2.1,(s.2.1.length:Int),i,(r,s,()))) (fun k i _ h=>by
  have hm:12 ≤ Go.maxLen:=by unfold Go.maxLen; omega
  have hz:=sz.shelf _ (zU (d:=zg) h)
  simp only [zcy]
  have hbelow:zkX ((r,s,()),(i:Int),()) = some (some fun z=>ye (z.1,some (r,s,()),some (i:Int),()),()):=rfl
  rw [ltT h,zC h,qe,hbelow,Option.bind_some,zIp (p:=zfG r s i) (by omega) fun x _=>zKc hr s i x,zza (p:=zdV r s i) (by omega) fun x _=>zKd hr s i x,zJ3 (p:=zgO r s i) (by omega) fun x _=>zi0 hr s i x]
  simp only [Option.bind_some,cond_true]
  unfold zqd
  grind) (fun k=>by simp only [zcy]; rw [ltF]; rfl)
theorem zGQ {σ ρ:Type} {B:(σ→Option ρ)→σ→Option ρ} {i0 n:Nat} (hn:n ≤ Go.maxLen) (h0:i0 ≤ n) {p:Nat→Bool} {fin bad:Option ρ} (st:Int→σ)
 (hin:∀ k (i:Nat),i0 ≤ i→i < n→B k (st i) = bif p i then k (st (wI (i + 1))) else bad) (hout:∀ k,B k (st n) = fin) (K:Nat) (hK:n - i0 < K):zk B K (st i0) = bif qi p i0 (n - i0) then fin else bad:=by
 have key:∀ (m i fuel:Nat),i0 ≤ i→i + m = n→m < fuel→zk B fuel (st i) = bif qi p i m then fin else bad:=by
  intro m
  induction m with
  | zero =>
   intro i fuel _ h1 h2
   obtain ⟨f,rfl⟩:∃ f,fuel = f + 1:=⟨fuel - 1,by omega⟩
   obtain rfl:i = n:=by omega
   exact hout _
  | succ m ih =>
   intro i fuel h1 h2 h3
   obtain ⟨f,rfl⟩:∃ f,fuel = f + 1:=⟨fuel - 1,by omega⟩
   show B (zk B f) (st i) = _
   rw [hin _ i h1 (by omega),wI,zx2 (len:=n) (by omega) hn,show ((i:Int) + 1) = ((i + 1:Nat):Int) by omega,ih (i + 1) f (by omega) (by omega) (by omega)]
   simp only [qi]
   cases p i <;> rfl
 exact key (n - i0) i0 K (Nat.le_refl _) (by omega) hK
def zqe (r:za) (x:qb):Bool:=(x.2.2.1:Int) != 1 || qy r x.2.2.2.1
def zjQ (r:za) (i:Int) (x:zm):Bool:=!x.1 || (zep r x.2.1 i && (qy r x.2.2.1 && qy r x.2.2.2.1))
def zrh (r:za) (x:zw):Bool:=!x.1 || (qy r x.2.1 && qy r x.2.2.1)
def zdO (r:za) (i:Int) (x:zi):Bool:=x.2.2.1.all (zqe r) && (x.2.2.2.1.all (zjQ r i) && x.2.2.2.2.1.all (zrh r))
theorem zII (r:za) (s:zd) (x:qb):zbv (x,some (r,s,()),()) = some (zqe r x,()):=by
 rw [zL]
 simp only [zbv,zav,Option.bind_some,zqe]
 grind
theorem zIJ {r:za} (hr:zO r) (s:zd) (i:Int) (x:zm):vu (x,some (r,s,()),some i,()) = some (zjQ r i x,()):=by
 rw [zL]
 simp only [vu,zav,zvR hr,Option.bind_some,zjQ]
 grind
theorem zIK (r:za) (s:zd) (x:zw):qG (x,some (r,s,()),()) = some (zrh r x,()):=by
 rw [zL]
 simp only [qG,zav,Option.bind_some,zrh]
 grind
theorem zAR {r:za} {s:zd} (hr:zO r) (ok:zhP r) (sz:zhQ r s):zbc ((r,s,()),()) = some (qi (fun i=>zdO r (i:Int) (s.2.1.getD i zg)) 0 s.2.1.length,()):=by
 rw [zL]
 have h1:=ok.labels
 have h2:=sz.shelves
 have hm:12 ≤ Go.maxLen:=by unfold Go.maxLen; omega
 have step:∀ k (i:Nat),i < s.2.1.length→qP k (s.2.1,(s.2.1.length:Int),(i:Int),(r,s,())) = bif zdO r (i:Int) (s.2.1.getD i zg) then k (s.2.1,(s.2.1.length:Int),wI ((i:Int) + 1),(r,s,())) else some (false,()):=fun k i h=>by
  have hz:=sz.shelf _ (zU (d:=zg) h)
  simp only [qP]
  rw [ltT h,zC h,qe,zza (p:=zqe r) (by omega) fun x _=>zII r s x,zIq (p:=zjQ r i) (by omega) fun x _=>zIJ hr s i x,zGE (p:=zrh r) (by omega) fun x _=>zIK r s x]
  simp only [Option.bind_some,cond_true]
  unfold zdO
  grind
 have hend:∀ k,qP k (s.2.1,(s.2.1.length:Int),(s.2.1.length:Int),(r,s,())) = some (true,()):=fun k=>by simp only [qP]; rw [ltF]; rfl
 have first:zbc ((r,s,()),()) = zx3 (qP) (qP) K0 (s.2.1,(s.2.1.length:Int),((0:Nat):Int),(r,s,())):=rfl
 have hw:wI (((0:Nat):Int) + 1) = ((1:Nat):Int):=rfl
 obtain ⟨m,hK⟩:=zuz
 have hf:∀ (B0 B1:(vv→Option (Bool × Unit))→vv→Option (Bool × Unit)) (x:vv),zx3 B0 B1 K0 x = B0 (zk B1 (m + 7)) x:=fun B0 B1 x=>by rw [hK]; rfl
 have rest:=zGQ (B:=qP) (i0:=1) (n:=s.2.1.length) (by unfold Go.maxLen; omega) (by omega) (p:=fun i=>zdO r (i:Int) (s.2.1.getD i zg)) (fun i=>(s.2.1,(s.2.1.length:Int),i,(r,s,()))) (fun k i _ h=>step k i h) hend (m + 7) (by unfold K0 Go.maxLen at hK; omega)
 rw [hf] at first
 rw [first,step _ 0 (by omega),hw]
 refine (congrArg (fun z=>bif zdO r ((0:Nat):Int) (s.2.1.getD 0 zg) then z else some (false,())) rest).trans ?_
 obtain ⟨n,hn⟩:∃ n,s.2.1.length = n + 1:=⟨s.2.1.length - 1,by omega⟩
 rw [hn]
 simp only [qi,Nat.add_sub_cancel]
 cases zdO r ((0:Nat):Int) (s.2.1.getD 0 zg) <;> rfl
theorem zFg {l:List zw} {g:zw × Unit→Option (Bool × Unit)} {p:zw→Bool} (hg:∀ x,g (x,()) = some (p x,())) (z:Int):yd (some (l,some g,()),z,()) = some (decide (0 ≤ z ∧ z < (l.length:Int)) && p (l.getD z.toNat qT),()):=by
 by_cases h:0 ≤ z ∧ z < (l.length:Int)
 ·obtain ⟨n,rfl⟩:=Int.eq_ofNat_of_zero_le h.1
  rw [zvP hg (by omega),decide_eq_true h,Bool.true_and,Int.toNat_natCast]
 ·rw [decide_eq_false h,Bool.false_and]
  simp only [yd,zt6,Option.bind_some,cond_true]
  grind
theorem zzl {α:Type} {p:α→Bool} (d:α) (L:List α) (q:Int→Bool):∀ (l:List α) (i:Nat),(∀ j,j < l.length→L.getD (i + j) d = l.getD j d)→(z9 p i l).all q = qi (fun j=>!p (L.getD j d) || q (j:Int)) i l.length
 | [],_,_=>rfl
 | x :: l,i,h=>by
  have ih:=zzl (p:=p) d L q l (i + 1) fun j hj=>by
   have:=h (j + 1) (by simp; omega)
   rw [show i + 1 + j = i + (j + 1) by omega,this]; rfl
  have h0:L.getD i d = x:=h 0 (by simp)
  simp only [z9,List.length_cons,qi,h0]
  rw [← ih]
  cases p x <;> simp
def zri (x:zi) (j:Nat) (t:qb):Bool:=(t.2.2.1:Int) != 3 || (decide (0 ≤ t.2.2.2.1 ∧ t.2.2.2.1 < (x.2.2.2.2.1.length:Int)) && ((x.2.2.2.2.1.getD (Int.toNat t.2.2.2.1) qT).1 && ((x.2.2.2.2.1.getD (Int.toNat t.2.2.2.1) qT).2.2.2.1.2.2.1:Int) == (j:Int)))
def zhR (x:zi) (j:Int) (t:zw):Bool:=(decide (t.2.2.2.1.2.2.1 < (x.2.2.1.length:Int)) && decide (t.2.2.2.2.1.2.2.1 < (x.2.2.1.length:Int))) && (decide (t.2.2.2.1.2.2.1 < 0) || (((x.2.2.1.getD (Int.toNat t.2.2.2.1.2.2.1) zd1).2.2.1:Int) == 3 && ((x.2.2.1.getD (Int.toNat t.2.2.2.1.2.2.1) zd1).2.2.2.1:Int) == j))
def zm2 (x:zi):Bool:=qi (fun j=>zri x j (x.2.2.1.getD j zd1)) 0 (x.2.2.1.length - 0) && qi (fun j=>!(x.2.2.2.2.1.getD j qT).1 || zhR x (j:Int) (x.2.2.2.2.1.getD j qT)) 0 x.2.2.2.2.1.length
theorem zoh (x:zw):vY (x,()) = some (x.1,()):=by
 rw [zL]; rfl
theorem zCQ {r:za} {s:zd} (ok:zhP r) (sz:zhQ r s):zeu ((r,s,()),()) = some (qi (fun i=>zm2 (s.2.1.getD i zg)) 0 (s.2.1.length - 0),()):=by
 rw [zL]
 have h1:=ok.labels
 have h2:=sz.shelves
 have hm:12 ≤ Go.maxLen:=by unfold Go.maxLen; omega
 have hlm:12 ≤ lim:=by unfold lim; omega
 have l2:∀ k0 (i:Nat) (x:zi),x.2.2.2.2.1.length ≤ 12→zcs K0 k0 (s.2.1,(s.2.1.length:Int),(i:Int),z9 (fun t:zw=>t.1) 0 x.2.2.2.2.1,((z9 (fun t:zw=>t.1) 0 x.2.2.2.2.1).length:Int),0,x) = bif qi (fun j=>!(x.2.2.2.2.1.getD j qT).1 || zhR x (j:Int) (x.2.2.2.2.1.getD j qT)) 0 x.2.2.2.2.1.length then k0 (s.2.1,(s.2.1.length:Int),wI ((i:Int) + 1)) else some (false,()):=fun k0 i x hx=>by
  have hsl:=zf7 (p:=fun t:zw=>t.1) x.2.2.2.2.1 0
  have hsm:=ziY (p:=fun t:zw=>t.1) x.2.2.2.2.1 0
  have:=zwg (B:=fun k2=>zcr k0 k2) (l:=z9 (fun t:zw=>t.1) 0 x.2.2.2.2.1) (0:Int) (p:=fun z=>zhR x z (x.2.2.2.2.1.getD z.toNat qT)) (fin:=k0 (s.2.1,(s.2.1.length:Int),wI ((i:Int) + 1))) (bad:=some (false,())) (fun j=>(s.2.1,(s.2.1.length:Int),(i:Int),z9 (fun t:zw=>t.1) 0 x.2.2.2.2.1,((z9 (fun t:zw=>t.1) 0 x.2.2.2.2.1).length:Int),j,x)) (by omega) (fun k j z hj hz hmem=>by
   obtain ⟨n,rfl,-,hn⟩:=hsm z hmem
   simp only [zcr]
   rw [ltT hj,zC hj,qe,hz,zC (by omega),zC (by omega),Int.toNat_natCast]
   simp only [cond_true,zhR,neI]
   by_cases ha:(x.2.2.2.2.1.getD n qT).2.2.2.1.2.2.1 < (x.2.2.1.length:Int)
   ·by_cases hb:0 ≤ (x.2.2.2.2.1.getD n qT).2.2.2.1.2.2.1
    ·rw [ixR ⟨hb,ha⟩,ixR ⟨hb,ha⟩]
     grind
    ·grind
   ·grind) (fun k=>by simp only [zcr]; rw [ltF]; rfl)
  refine this.trans ?_
  rw [zzl (p:=fun t:zw=>t.1) qT x.2.2.2.2.1 (fun z=>zhR x z (x.2.2.2.2.1.getD z.toNat qT)) x.2.2.2.2.1 0 fun j _=>by rw [Nat.zero_add]]
  simp only [Int.toNat_natCast]
 have l1:∀ k0 (i:Nat) (x:zi),x.2.2.1.length ≤ 12→x.2.2.2.2.1.length ≤ 12→zct K0 k0 (some (x.2.2.2.2.1,some vY,()),s.2.1,(s.2.1.length:Int),(i:Int),x.2.2.1,(x.2.2.1.length:Int),0,x) = bif zm2 x then k0 (s.2.1,(s.2.1.length:Int),wI ((i:Int) + 1)) else some (false,()):=fun k0 i x hx hx2=>by
  have:=yY (B:=fun k1=>zat (zcs K0 k0) k0 k1) (i0:=0) (n:=x.2.2.1.length) (p:=fun j=>zri x j (x.2.2.1.getD j zd1)) (fin:=bif qi (fun j=>!(x.2.2.2.2.1.getD j qT).1 || zhR x (j:Int) (x.2.2.2.2.1.getD j qT)) 0 x.2.2.2.2.1.length then k0 (s.2.1,(s.2.1.length:Int),wI ((i:Int) + 1)) else some (false,())) (bad:=some (false,())) (by omega) (Nat.zero_le _) (fun j=>(some (x.2.2.2.2.1,some vY,()),s.2.1,(s.2.1.length:Int),(i:Int),x.2.2.1,(x.2.2.1.length:Int),j,x)) (fun k j _ hj=>by
   simp only [zat]
   rw [ltT hj,zC hj,qe,zFg zoh]
   simp only [cond_true,Option.bind_some,zri,neI]
   by_cases ha:0 ≤ (x.2.2.1.getD j zd1).2.2.2.1 ∧ (x.2.2.1.getD j zd1).2.2.2.1 < (x.2.2.2.2.1.length:Int)
   ·rw [ixR ha]
    grind
   ·grind) (fun k=>by
   simp only [zat]
   rw [ltF,zr8 (by omega) zoh,Option.bind_some]
   exact l2 k0 i x hx2)
  refine this.trans ?_
  unfold zm2
  cases qi (fun j=>zri x j (x.2.2.1.getD j zd1)) 0 (x.2.2.1.length - 0) <;> rfl
 exact yY (B:=fun k0=>zau (zct K0 k0) k0) (i0:=0) (n:=s.2.1.length) (by omega) (Nat.zero_le _) (fun i=>(s.2.1,(s.2.1.length:Int),i)) (fun k i _ h=>by
  have hz:=sz.shelf _ (zU (d:=zg) h)
  simp only [zau]
  have hq:yM ((s.2.1.getD i zg).2.2.2.2.1,some vY,()) = some (some ((s.2.1.getD i zg).2.2.2.2.1,some vY,()),()):=by
   simp only [yM,zr6 (show (s.2.1.getD i zg).2.2.2.2.1.length ≤ lim by omega),Option.bind_some]
   rfl
  rw [ltT h,zC h,qe,hq,Option.bind_some]
  exact l1 k i _ (by omega) (by omega)) (fun k=>by simp only [zau]; rw [ltF]; rfl)
end Go.Proofs.YtkcakhbkoeimdaaGreatDoor
end
section
namespace Go.Proofs.YtkcakhbkoeimdaaGreatDoor
open Go.Ev
def zi1 (r:za) (s:zd) (i:Int) (x:zi):Bool:=zqd r s i x && (zdO r i x && zm2 x)
theorem zLd {α:Type} {d:α} {l:List α} {p:α→Bool}:l.all p = true ↔ ∀ j,j < l.length→p (l.getD j d) = true:=by
 rw [List.all_eq_true]
 constructor
 ·exact fun h j hj=>h _ (zU hj)
 ·intro h x hx
  obtain ⟨i,hi,rfl⟩:=List.mem_iff_getElem.1 hx
  have:=h i hi
  simpa [List.getD,hi] using this
end Go.Proofs.YtkcakhbkoeimdaaGreatDoor
end
section
namespace Go.Proofs.YtkcakhbkoeimdaaGreatDoor
open Go.Ev
def qz:List Int→Int
 | []=>0
 | x :: l=>x + qz l
theorem zxd:∀ (l m:List Int),qz (l ++ m) = qz l + qz m
 | [],m=>by simp [qz]
 | x :: l,m=>by simp only [List.cons_append,qz,zxd l m]; omega
theorem zrj:∀ {l:List Int},(∀ x ∈ l,0 ≤ x)→0 ≤ qz l
 | [],_=>Int.le_refl 0
 | x :: l,h=>by
  have h1:=h x (by simp)
  have h2:=zrj (l:=l) fun y hy=>h y (by simp [hy])
  simp only [qz]; omega
theorem zdP {α:Type} {g:α→Int} {l:List α} (h:∀ x ∈ l,0 ≤ g x):0 ≤ qz (l.map g):=zrj fun x hx=>by
 obtain ⟨y,hy,rfl⟩:=List.mem_map.1 hx
 exact h y hy
def zoX (n:Int):Int × Int × Unit:=bif decide (n > M62) then (0,7,()) else (n,0,())
theorem zjR {n:Int} (h:n > M62):zoX n = (0,7,()):=by unfold zoX; rw [decide_eq_true h]; rfl
theorem zqf {n:Int} (h:n ≤ M62):zoX n = (n,0,()):=by unfold zoX; rw [decide_eq_false (by omega)]; rfl
theorem zm3:∀ (l:List Int) (a:Int),a ≤ M62→(∀ x ∈ l,0 ≤ x)→zmW a l = zoX (a + qz l)
 | [],a,h,_=>by simp only [zmW,qz,Int.add_zero]; exact (zqf h).symm
 | x :: l,a,h,hp=>by
  have h2:=zrj (l:=l) fun y hy=>hp y (by simp [hy])
  simp only [zmW,qz]
  by_cases hb:a + x > M62
  ·rw [decide_eq_true hb,zjR (by omega)]; rfl
  ·rw [decide_eq_false hb,cond_false,zm3 l (a + x) (by omega) fun y hy=>hp y (by simp [hy])]
   congr 1; omega
theorem zoY {α:Type} (p:α→Bool) (g:α→Int):∀ l:List α,qz ((l.filter p).map g) = qz (l.map fun x=>bif p x then g x else 0)
 | []=>rfl
 | x :: l=>by
  have ih:=zoY p g l
  rw [zjN]
  simp only [List.map_cons,qz]
  cases hp:p x with
  | true=>simp only [cond_true,List.map_cons,qz,ih]
  | false=>simp only [cond_false,ih]; omega
def zm4 (x:zr):Int:=bif (x.2.2.2.1:Int) == 2 then x.2.2.2.2.1 else x.2.2.2.2.2.1
theorem zLe (x:zr):zgU (x,()) = some (zm4 x,()):=by
 simp only [zgU,zm4]; grind
def zeq (c:Int) (x:zr):Int:=bif x.1 && zm4 x == c then x.2.2.2.2.2.2.2.2.1 else 0
def zxe (l:List zr) (c:Int):Int × Int × Unit:=bif yi c then zoX (qz (l.map (zeq c))) else (0,1,())
theorem zIL (l:List zr) (hl:l.length ≤ lim):zlD (l,()) = some (some (l,some zie,()),()):=by
 simp only [zlD,zho,zCD hl,Option.bind_some]
 rfl
theorem zFh (x:zr):zie (x,()) = some (x.1,()):=by
 rw [zL]; rfl
theorem zGR {l:List zr} (hl:l.length ≤ lim) (h:∀ x ∈ l,zlT x) (c:Int):zj9 (l,c,()) = some (zxe l c):=by
 have hl':l.length ≤ Go.maxLen:=by unfold lim at hl; unfold Go.maxLen; omega
 simp only [zj9,zj8,zbG,Option.bind_some]
 unfold zxe
 cases hc:yi c with
 | false=>rfl
 | true =>
  have hslots:ziE (l,()) = some (z9 (fun x:zr=>x.1) 0 l,()):=by
   simp only [ziE]
   rw [zIL l hl,Option.bind_some,zCJ hl zFh,Option.bind_some]
  simp only [cond_true]
  rw [hslots,Option.bind_some]
  have hsl:=zf7 (p:=fun x:zr=>x.1) l 0
  have hsm:=ziY (p:=fun x:zr=>x.1) l 0
  have hloop:=zaY (B:=zex) (l:=z9 (fun x:zr=>x.1) 0 l) (α:=List Int) (0:Int) (fun i o=>o.length ≤ i ∧ ∀ x ∈ o,0 ≤ x ∧ x < U64) (fun i o=>(l,c,z9 (fun x:zr=>x.1) 0 l,((z9 (fun x:zr=>x.1) 0 l).length:Int),i,o))
   (fun rest o=>some (zmW 0 (o ++ (rest.filter fun z=>zm4 (l.getD z.toNat qt) == c).map fun z=>(l.getD z.toNat qt).2.2.2.2.2.2.2.2.1))) (by omega) (fun k i x rest o hi hI hx hm hr hk=>by
    simp only [zex]
    obtain ⟨j,rfl,-,hj⟩:=hsm x hm
    rw [ltT hi,zC hi,qe,hx,zC (by omega),zC (by omega),Int.toNat_natCast,y9,zLe]
    have hxx:=(h (l.getD j qt) (zU (by omega))).held
    simp only [cond_true,zjN,Int.toNat_natCast,Option.bind_some]
    rw [decide_eq_true (by simp; omega)]
    simp only [cond_true]
    cases hq:zm4 (l.getD j qt) == c with
    | false =>
     exact hk o ⟨by omega,hI.2⟩
    | true =>
     simp only [cond_true,List.map_cons,Int.toNat_natCast]
     refine (hk _ ⟨by simp; omega,fun x hx=>?_⟩).trans ?_
     ·rcases List.mem_append.1 hx with hx | hx
      ·exact hI.2 x hx
      ·rcases List.mem_singleton.1 hx with rfl
       exact hxx
     ·rw [List.append_assoc]; rfl) (fun k o hI=>by
    simp only [zex]
    rw [ltF]
    simp only [cond_false]
    rw [zlK (by omega) hI.2,List.filter_nil,List.map_nil,List.append_nil]
    rfl) [] ⟨Nat.le_refl _,fun x hx=>by cases hx⟩
  refine hloop.trans ?_
  rw [List.nil_append,zk9 (q:=fun x:zr=>zm4 x == c) (g:=fun x:zr=>x.2.2.2.2.2.2.2.2.1) qt l l 0 fun j _=>by rw [Nat.zero_add]]
  rw [zm3 _ 0 (by unfold M62; omega) fun x hx=>?_,zoY,Int.zero_add]
  ·rfl
  ·obtain ⟨y,hy,rfl⟩:=List.mem_map.1 hx
   exact (h y (List.mem_filter.1 hy).1).held.1
theorem zCR {x:zr} (h:zlT x) (c:Int):ze9 (zeq c x):=by
 unfold zeq
 cases x.1 && zm4 x == c with
 | true=>exact h.held
 | false=>exact (⟨Int.le_refl 0,by unfold U64; decide⟩:ze9 0)
def zf8 (c:Int) (x:zw):Int:=bif x.1 && (x.2.2.2.1.1:Int) == c then x.2.2.2.1.2.1 else 0
theorem zFi {l:List zw} (h:∀ x ∈ l,zuD x) {c:Int} (hc:yi c = true):zog l c = zoX (qz (l.map (zf8 c))):=by
 unfold zog
 rw [hc,cond_true,zm3 _ 0 (by unfold M62; omega) fun x hx=>?_,zoY,Int.zero_add]
 ·rfl
 ·obtain ⟨y,hy,rfl⟩:=List.mem_map.1 hx
  exact (h y (List.mem_filter.1 hy).1).1.1
theorem zCS {x:zw} (h:zuD x) (c:Int):ze9 (zf8 c x):=by
 unfold zf8
 cases x.1 && (x.2.2.2.1.1:Int) == c with
 | true=>exact h.1
 | false=>exact (⟨Int.le_refl 0,by unfold U64; decide⟩:ze9 0)
def zoi (c:Int) (a:List Int):Int:=a.getD c.toNat 0
def za7 (c:Int) (x:zi):Int:=qz (x.2.2.2.2.1.map (zf8 c)) + qz (x.2.2.2.2.2.1.map (zoi c))
theorem zzm {x:zi} (h:zlV x) (c:Int):0 ≤ qz (x.2.2.2.2.1.map (zf8 c)):=zdP fun y hy=>(zCS (h.trades y hy) c).1
theorem zzn {x:zi} (h:zlV x) (c:Int):0 ≤ qz (x.2.2.2.2.2.1.map (zoi c)):=zdP fun y hy=>(zmZ (h.purses y hy) _).1
theorem zsb {x:zi} (h:zlV x) (c:Int):0 ≤ za7 c x:=by
 have:=zzm h c
 have:=zzn h c
 unfold za7; omega
def zoj (s:zd) (c:Int):Int × Int × Unit:=bif yi c then zoX (qz (s.2.2.2.1.map (zeq c)) + qz (s.2.1.map (za7 c))) else (0,1,())
def wts:List zi→Nat
 | []=>0
 | x :: l=>1 + x.2.2.2.2.2.1.length + wts l
structure zC9 (s:zd):Prop where
 shelves:s.2.1.length ≤ 2000000
 orders:s.2.2.2.1.length ≤ 2000000
 shelf:∀ x ∈ s.2.1,x.2.2.2.2.1.length ≤ 2000000 ∧ x.2.2.2.2.2.1.length ≤ 2000000
 all:wts s.2.1 ≤ 2000000
theorem zLf {l:List zi} {i:Nat} {x:zi} {rest:List zi} (hi:i < l.length) (hx:l.getD i zg = x) (hr:l.drop (i + 1) = rest):wts (l.drop i) = 1 + x.2.2.2.2.2.1.length + wts rest:=by
 rw [zab zg hi,hx,hr]; rfl
theorem zKe {n:Nat}:∀ {l:List zi},(∀ x ∈ l,x.2.2.2.2.2.1.length ≤ n)→wts l ≤ l.length * (n + 1)
 | [],_=>Nat.zero_le _
 | x :: l,h=>by
  have h1:=h x (by simp)
  have h2:=zKe (l:=l) fun y hy=>h y (by simp [hy])
  simp only [wts,List.length_cons,Nat.add_mul]
  omega
theorem zBC {c:Int} (hc:yi c = true):0 ≤ c ∧ c < ((4:Nat):Int):=by
 simp only [yi,decide_eq_true_eq] at hc; omega
theorem zFj {s:zd} (hs:qH s) (sh:zC9 s) (c:Int):ziM (s,c,()) = some (zoj s c):=by
 have hlm:10000000 ≤ lim:=by unfold lim; omega
 have hmm:10000000 ≤ Go.maxLen:=by unfold Go.maxLen; omega
 have hsh:=sh.shelves
 have hso:=sh.orders
 simp only [ziM,ziL,zbG,Option.bind_some]
 rw [zGR (by omega) hs.orders]
 unfold zoj zxe
 cases hc:yi c with
 | false=>rfl
 | true =>
  have hcin:=zBC hc
  simp only [cond_true,Option.bind_some]
  have hbook:0 ≤ qz (s.2.2.2.1.map (zeq c)):=zdP fun y hy=>(zCR (hs.orders y hy) c).1
  have hall:0 ≤ qz (s.2.1.map (za7 c)):=zdP fun y hy=>zsb (hs.shelves y hy) c
  have inner:∀ k0 (i:Nat) (x:zi) (o:List Int),x.2.2.2.2.2.1.length ≤ 2000000→o.length ≤ 2000001→zdH K0 k0 (c,s.2.1,(s.2.1.length:Int),(i:Int),x.2.2.2.2.2.1,(x.2.2.2.2.2.1.length:Int),0,o) = k0 (c,s.2.1,(s.2.1.length:Int),wI ((i:Int) + 1),o ++ x.2.2.2.2.2.1.map (zoi c)):=fun k0 i x o hx ho =>
   zaY (B:=fun k1=>zdG k0 k1) (l:=x.2.2.2.2.2.1) (α:=List Int) (ze (Ty.arr 4 tU)) (fun j o'=>o'.length ≤ 2000001 + j) (fun j o'=>(c,s.2.1,(s.2.1.length:Int),(i:Int),x.2.2.2.2.2.1,(x.2.2.2.2.2.1.length:Int),j,o')) (fun rest o'=>k0 (c,s.2.1,(s.2.1.length:Int),wI ((i:Int) + 1),o' ++ rest.map (zoi c))) (by omega) (fun k j a rest o' hj hI ha hm hr hk=>by
    simp only [zdG]
    have h4:((4:Int)) = ((4:Nat):Int):=rfl
    rw [ltT hj,zC hj,Int.toNat_natCast,ha,y9,decide_eq_true (by simp; omega)]
    simp only [cond_true]
    refine Eq.trans (ixR hcin) ?_
    refine (hk _ (by simp; omega)).trans ?_
    rw [List.append_assoc]; rfl) (fun k o' _=>by
    simp only [zdG]; rw [ltF]
    simp only [cond_false,List.map_nil,List.append_nil]) o ho
  by_cases hb:qz (s.2.2.2.1.map (zeq c)) > M62
  ·rw [zjR hb,zjR (by omega)]; rfl
  ·rw [zqf (by omega)]
   have hloop:=zaY (B:=fun k0=>zbd (zdH K0 k0) k0) (l:=s.2.1) (α:=List Int) zg (fun i o=>o.length + wts (s.2.1.drop i) ≤ 2000001 ∧ ∀ x ∈ o,0 ≤ x ∧ x < U64) (fun i o=>(c,s.2.1,(s.2.1.length:Int),i,o)) (fun rest o=>some (zoX (qz o + qz (rest.map (za7 c))))) (by omega) (fun k i x rest o hi hI hx hm hr hk=>by
    simp only [zbd]
    have hin:=hs.shelves x hm
    have hlen:=sh.shelf x hm
    have hw:=zLf hi hx hr
    have hw2:=hI.1
    rw [hw] at hw2
    have h1:=zzm hin c
    have h2:=zzn hin c
    have ho:0 ≤ qz o:=zrj fun y hy=>(hI.2 y hy).1
    have hrest:0 ≤ qz (rest.map (za7 c)):=zdP fun y hy=>zsb (hs.shelves y (by rw [← hr] at hy; exact List.mem_of_mem_drop hy)) c
    rw [ltT hi,zC hi,qe,hx,zFc (by omega) hin.trades,zFi hin.trades hc]
    simp only [cond_true,Option.bind_some,List.map_cons,qz,za7]
    by_cases hb:qz (x.2.2.2.2.1.map (zf8 c)) > M62
    ·rw [zjR hb,zjR (by omega)]; rfl
    ·rw [zqf (by omega),y9,inner k i x _ (by omega) (by simp; omega)]
     rw [decide_eq_true (by simp; omega)]
     simp only [bne_self_eq_false,cond_true,cond_false]
     refine (hk _ ⟨by rw [hr]; simp; omega,fun y hy=>?_⟩).trans ?_
     ·rcases List.mem_append.1 hy with hy | hy
      ·rcases List.mem_append.1 hy with hy | hy
       ·exact hI.2 y hy
       ·rcases List.mem_singleton.1 hy with rfl
        unfold M62 at hb; unfold U64; omega
      ·obtain ⟨a,ha,rfl⟩:=List.mem_map.1 hy
       exact zmZ (hin.purses a ha) _
     ·rw [zxd,zxd]
      simp only [qz]
      congr 2; omega) (fun k o hI=>by
    simp only [zbd]
    rw [ltF]
    simp only [cond_false]
    rw [zlK (by omega) hI.2,zm3 o 0 (by unfold M62; omega) fun y hy=>(hI.2 y hy).1]
    simp only [List.map_nil,qz,Int.add_zero,Int.zero_add]
    rfl) [qz (s.2.2.2.1.map (zeq c))] ⟨by have:=sh.all; simp; omega,fun y hy=>by
     rcases List.mem_singleton.1 hy with rfl
     unfold M62 at hb; unfold U64; omega⟩
   refine hloop.trans ?_
   simp only [qz,Int.add_zero]
end Go.Proofs.YtkcakhbkoeimdaaGreatDoor
end
section
namespace Go.Proofs.YtkcakhbkoeimdaaGreatDoor
open Go.Ev
def zFk (a b:Int):Int × Int × Unit:=bif decide (a < b) then (0,6,()) else (a - b,0,())
theorem zFl {a b:Int} (ha:0 ≤ a ∧ a ≤ M62) (hb:0 ≤ b ∧ b ≤ M62):zif (a,b,()) = some (zFk a b):=by
 simp only [zif,extA,extB,zFk,cond_false]
 unfold M62 at *
 have h2:b ≤ a→(a - b) % 18446744073709551616 = a - b:=fun h=>by omega
 grind
def zrk (f:zi→List Int) (s:zd) (c:Int):Int:=qz (s.2.1.map fun x=>zoi c (f x))
theorem zFm {f:zi→List Int} {s:zd} (h:∀ x ∈ s.2.1,zrg (f x)) (c:Int):0 ≤ zrk f s c:=zdP fun y hy=>(zmZ (h y hy) _).1
theorem zFn {s:zd} (sh:zC9 s) {f:zi→List Int} {g:zi × Unit→Option (List Int × Unit)} (hg:∀ x,g (x,()) = some (f x,())) (h:∀ x ∈ s.2.1,zrg (f x)) {c:Int} (hc:yi c = true):zfW (s,c,some g,()) = some (zoX (zrk f s c)):=by
 have hlm:10000000 ≤ lim:=by unfold lim; omega
 have hmm:10000000 ≤ Go.maxLen:=by unfold Go.maxLen; omega
 have hsh:=sh.shelves
 have hcin:=zBC hc
 have hloop:=zaY (B:=zbA) (l:=s.2.1) (α:=List Int) zg (fun i o=>o.length ≤ i ∧ ∀ x ∈ o,0 ≤ x ∧ x < U64) (fun i o=>(c,some g,s.2.1,(s.2.1.length:Int),i,o)) (fun rest o=>some (zmW 0 (o ++ rest.map fun x=>zoi c (f x)))) (by omega) (fun k i x rest o hi hI hx hm hr hk=>by
  simp only [zbA]
  rw [ltT hi,zC hi,qe,hx]
  simp only [cond_true,Option.bind_some]
  rw [hg]
  simp only [Option.bind_some]
  refine Eq.trans (ixR hcin) ?_
  rw [y9,decide_eq_true (by simp; omega)]
  simp only [cond_true]
  refine (hk _ ⟨by simp; omega,fun y hy=>?_⟩).trans ?_
  ·rcases List.mem_append.1 hy with hy | hy
   ·exact hI.2 y hy
   ·rcases List.mem_singleton.1 hy with rfl
    exact zmZ (h x hm) _
  ·rw [List.append_assoc]; rfl) (fun k o hI=>by
  simp only [zbA]
  rw [ltF]
  simp only [cond_false]
  rw [zlK (by omega) hI.2,List.map_nil,List.append_nil]
  rfl) [] ⟨Nat.le_refl _,fun x hx=>by cases hx⟩
 refine Eq.trans ?_ (hloop.trans ?_)
 ·rfl
 ·rw [List.nil_append,zm3 _ 0 (by unfold M62; omega) fun y hy=>?_,Int.zero_add]
  ·rfl
  ·obtain ⟨z,hz,rfl⟩:=List.mem_map.1 hy
   exact (zmZ (h z hz) _).1
def zok (s:zd) (c:Int):Int × Int × Unit:=bif yi c then bif decide (zrk (fun x=>x.2.2.2.2.2.2.2.1) s c > M62) then (0,7,()) else bif decide (zrk (fun x=>x.2.2.2.2.2.2.2.2.1) s c > M62) then (0,7,()) else zFk (zrk (fun x=>x.2.2.2.2.2.2.2.1) s c) (zrk (fun x=>x.2.2.2.2.2.2.2.2.1) s c) else (0,1,())
theorem zFo {s:zd} (hs:qH s) (sh:zC9 s) (c:Int):ziH (s,c,()) = some (zok s c):=by
 simp only [ziH,zbG,Option.bind_some]
 unfold zok
 cases hc:yi c with
 | false=>rfl
 | true =>
  have p1:=zFm (f:=fun x=>x.2.2.2.2.2.2.2.1) (fun x hx=>(hs.shelves x hx).made) c
  have p2:=zFm (f:=fun x=>x.2.2.2.2.2.2.2.2.1) (fun x hx=>(hs.shelves x hx).spent) c
  rw [zFn sh (f:=fun x=>x.2.2.2.2.2.2.2.1) (g:=zjx) (fun x=>rfl) (fun x hx=>(hs.shelves x hx).made) hc,zFn sh (f:=fun x=>x.2.2.2.2.2.2.2.2.1) (g:=zjy) (fun x=>rfl) (fun x hx=>(hs.shelves x hx).spent) hc]
  simp only [cond_true,Option.bind_some]
  generalize zrk (fun x=>x.2.2.2.2.2.2.2.1) s c = a at *
  generalize zrk (fun x=>x.2.2.2.2.2.2.2.2.1) s c = b at *
  by_cases h1:a > M62
  ·rw [zjR h1,decide_eq_true h1]; rfl
  ·rw [zqf (by omega),decide_eq_false h1]
   by_cases h2:b > M62
   ·rw [zjR h2,decide_eq_true h2]; rfl
   ·rw [zqf (by omega),decide_eq_false h2]
    simp only [bne_self_eq_false,cond_false]
    rw [zFl (by omega) (by omega)]; rfl
end Go.Proofs.YtkcakhbkoeimdaaGreatDoor
end
section
namespace Go.Proofs.YtkcakhbkoeimdaaGreatDoor
open Go.Ev
def zol (r:za) (s:zd) (c i:Nat):Bool:=!decide (((s.2.1.getD i zg).2.2.2.2.2.2.2.1.getD c 0:Int) > (r.2.2.2.2.1.getD i va).2.2.2.2.2.1)
def zi2 (s:zd) (c:Int):Bool:=(zoj s c).2.1 == 0 && ((zok s c).2.1 == 0 && (zoj s c).1 == (zok s c).1)
def zS (r:za) (s:zd):Bool:=zG r && (ziZ r s && (zb2 r s && (qi (fun i=>(jB (s.2.1.getD i zg) && zi1 r s i (s.2.1.getD i zg)) && qi (fun c=>zol r s c i) 0 (4 - 0)) 0 (s.2.1.length - 0) && qi (fun c=>zi2 s (c:Int)) 0 (4 - 0))))
theorem zMG {r:za} {s:zd} (ok:zhP r) (sz:zhQ r s):zC9 s:=by
 have h1:=sz.shelves
 have h2:=ok.labels
 have h3:=ok.accounts
 have h4:=sz.orders
 have h5:=zKe (n:=8) (l:=s.2.1) fun x hx=>by
  have:=sz.shelf x hx
  omega
 refine ⟨by omega,by omega,fun x hx=>?_,by omega⟩
 have:=sz.shelf x hx
 omega
theorem zCT {r:za} {s:zd} (ok:zhP r) (hs:qH s) (sz:zhQ r s):zey ((r,s,()),()) = some (qi (fun c=>qi (fun i=>zol r s c i) 0 (s.2.1.length - 0) && zi2 s (c:Int)) 0 (4 - 0),()):=by
 rw [zL]
 have hmm:1000000 ≤ Go.maxLen:=by unfold Go.maxLen; omega
 have sh:=zMG ok sz
 have hsh:s.2.1.length ≤ 8:=by rw [sz.shelves]; exact ok.labels.2
 have h2:=sz.shelves
 have h3:=ok.quotas
 have inner:∀ k0 (c:Nat),c < 4→zcD K0 k0 ((c:Int),(c:Int),s.2.1,(s.2.1.length:Int),0,(r,s,())) = bif qi (fun i=>zol r s c i) 0 (s.2.1.length - 0) then bif zi2 s (c:Int) then k0 (wI ((c:Int) + 1),(r,s,())) else some (false,()) else some (false,()):=fun k0 c hc =>
  yY (B:=fun k1=>zcC k0 k1) (i0:=0) (n:=s.2.1.length) (by omega) (Nat.zero_le _) (fun i=>((c:Int),(c:Int),s.2.1,(s.2.1.length:Int),i,(r,s,()))) (fun k i _ hi=>by
   simp only [zcC]
   rw [ltT hi,zC hi,qe,Int.toNat_natCast]
   simp only [cond_true]
   refine Eq.trans (zC (n:=4) hc) ?_
   rw [zC (by omega),qe]
   unfold zol
   grind) (fun k=>by
   simp only [zcC]
   rw [ltF,zFj hs sh,zFo hs sh]
   simp only [Option.bind_some,cond_false,zi2]
   generalize zoj s (c:Int) = h
   generalize zok s (c:Int) = m
   grind)
 exact yY (B:=fun k0=>zcE (zcD K0 k0) k0) (i0:=0) (n:=4) (by omega) (Nat.zero_le _) (fun c=>(c,(r,s,()))) (fun k c _ hc=>by
  simp only [zcE]
  rw [decide_eq_true (by omega),cond_true]
  refine (inner k c hc).trans ?_
  cases qi (fun i=>zol r s c i) 0 (s.2.1.length - 0) <;> rfl) (fun k=>rfl)
def zFp (r:za) (s:zd):Bool:=zG r && (ziZ r s && (s.2.1.all jB && (zb2 r s && (qi (fun i=>zqd r s (i:Int) (s.2.1.getD i zg)) 0 (s.2.1.length - 0) && (qi (fun i=>zdO r (i:Int) (s.2.1.getD i zg)) 0 s.2.1.length && (qi (fun i=>zm2 (s.2.1.getD i zg)) 0 (s.2.1.length - 0) && qi (fun c=>qi (fun i=>zol r s c i) 0 (s.2.1.length - 0) && zi2 s (c:Int)) 0 (4 - 0)))))))
theorem zKf (r:za) (s:zd):zFp r s = zS r s:=by
 rw [Bool.eq_iff_iff]
 unfold zFp zS zi1
 simp only [Bool.and_eq_true,qE,@zLd zi zg]
 constructor
 ·rintro ⟨h1,h2,h3,h4,h5,h6,h7,h8⟩
  exact ⟨h1,h2,h4,fun i hi1 hi=>⟨⟨h3 i (by omega),h5 i hi1 hi,h6 i hi1 (by omega),h7 i hi1 hi⟩,fun c hc1 hc=>(h8 c hc1 hc).1 i hi1 hi⟩,fun c hc1 hc=>(h8 c hc1 hc).2⟩
 ·rintro ⟨h1,h2,h4,h5,h6⟩
  exact ⟨h1,h2,fun i hi=>(h5 i (by omega) (by omega)).1.1,h4,fun i h7 h8=>(h5 i h7 h8).1.2.1,fun i h7 h8=>(h5 i h7 (by omega)).1.2.2.1,fun i h7 h8=>(h5 i h7 h8).1.2.2.2,fun c h7 h8=>⟨fun i h9 h10=>(h5 i h9 h10).2 c h7 h8,h6 c h7 h8⟩⟩
theorem zsc {r:za} {s:zd} (hr:zO r) (hs:qH s):zeD (r,s,()) = some (zS r s,()):=by
 rw [← zKf,zL]
 obtain ⟨m,hm⟩:=zuz
 have first:zeD (r,s,()) = zk ze8 K0 (true,7,0,[some fun z=>zbZ ((r,s,()),()),some fun z=>zb0 ((r,s,()),()),some fun z=>zbe ((r,s,()),()),some fun z=>zev ((r,s,()),()),some fun z=>zbc ((r,s,()),()),some fun z=>zeu ((r,s,()),()),some fun z=>zey ((r,s,()),())]):=rfl
 have hu:∀ (f1 f2 f3 f4 f5 f6 f7:Option (Bool × Unit)),zk ze8 (m + 8) (true,7,0,[some fun z=>f1,some fun z=>f2,some fun z=>f3,some fun z=>f4,some fun z=>f5,some fun z=>f6,some fun z=>f7]) =
  Option.bind f1 fun q=>bif q.1 then Option.bind f2 fun q=>bif q.1 then Option.bind f3 fun q=>bif q.1 then Option.bind f4 fun q=>bif q.1 then Option.bind f5 fun q=>bif q.1 then Option.bind f6 fun q=>bif q.1 then Option.bind f7 fun q=>bif q.1 then some (true,()) else some (false,()) else some (false,()) else some (false,()) else some (false,()) else some (false,()) else some (false,()) else some (false,()):=fun f1 f2 f3 f4 f5 f6 f7=>by kernel_rfl
 rw [first,hm,hu,zCN hr s,Option.bind_some]
 unfold zFp
 cases hb:zG r with
 | false=>rfl
 | true =>
  cases hz:ziZ r s with
  | false=>rfl
  | true =>
   have ok:=qj hb
   have sz:=vO hb hz
   rw [zCO ok sz,zAQ hr hb hs sz,zCP hr ok sz,zAR hr ok sz,zCQ ok sz,zCT ok hs sz]
   simp only [Option.bind_some,Bool.true_and,cond_true]
   generalize s.2.1.all jB = c1
   generalize zb2 r s = c2
   generalize qi (fun i=>zqd r s (i:Int) (s.2.1.getD i zg)) 0 (s.2.1.length - 0) = c3
   generalize qi (fun i=>zdO r (i:Int) (s.2.1.getD i zg)) 0 s.2.1.length = c4
   generalize qi (fun i=>zm2 (s.2.1.getD i zg)) 0 (s.2.1.length - 0) = c5
   generalize qi (fun c=>qi (fun i=>zol r s c i) 0 (s.2.1.length - 0) && zi2 s (c:Int)) 0 (4 - 0) = c6
   cases c1 <;> cases c2 <;> cases c3 <;> cases c4 <;> cases c5 <;> cases c6 <;> rfl
def jD (r:za) (x:pMe):Bool:=decide (0 ≤ x.1 ∧ x.1 < (r.2.1.length:Int)) && ((x.2.1:Int) == r.2.1.getD x.1.toNat 0 && qy r x.2.2.1)
theorem yj {r:za} {s:zd} (hr:zO r) (hs:qH s) (x:pMe):ji (r,s,x,()) = some (zS r s && jD r x,()):=by
 rw [zL]
 simp only [ji,zsc hr hs,Option.bind_some,jD,ix,qy]
 cases zS r s with
 | false=>rfl
 | true =>
  by_cases h:0 ≤ x.1 ∧ x.1 < (r.2.1.length:Int)
  ·rw [ixR h]; grind
  ·grind
end Go.Proofs.YtkcakhbkoeimdaaGreatDoor
end
section
namespace Go.Proofs.YtkcakhbkoeimdaaGreatDoor
open Go.Ev
theorem zi3 {r:za} (hr:zO r) (i:Int):yg (r,i,()) = some (zG r && qc r i,()):=by
 rw [zL]
 simp only [yg,yr r hr,Option.bind_some]
 cases hb:zG r with
 | false=>rfl
 | true =>
  have hl:=(qj hb).labels
  have hw:wI ((r.1.length:Int) - 1) = (r.1.length:Int) - 1:=by
   have:=zpb (i:=r.1.length) (by omega) (by unfold Go.maxLen; omega)
   rw [this]; omega
  rw [hw,zc2]
  simp only [Option.bind_some,cond_true,Bool.true_and,qf,qc]
  grind
theorem zoZ {r:za} (hr:zO r) (hb:zG r = true) (a b:Int):zeK (r,a,b,()) = some (zep r a b,()):=by
 rw [zL]
 simp only [zeK,zi3 hr,hb,Bool.true_and,Option.bind_some,zep,ix]
 cases ha:qc r a with
 | false=>rfl
 | true =>
  cases hbb:qc r b with
  | false=>rfl
  | true =>
   have h1:=zm1 hr a ha
   have h2:=zm1 hr b hbb
   simp only [qc,decide_eq_true_eq] at ha hbb
   rw [ixR ha,ixR hbb,zeL h1 h2]
   simp only [Option.bind_some]
   generalize jb (r.1.getD a.toNat zA) (r.1.getD b.toNat zA) = u
   cases u <;> rfl
def eqW {α:Type} (p:α→α→Bool) (a b:List α):Bool:=decide (a.length = b.length) && (List.zip a b).all fun q=>p q.1 q.2
theorem zxf {α σ:Type} {B:(σ→Option (Bool × Unit))→σ→Option (Bool × Unit)} {a b:List α} (d:α) (p:α→α→Bool) (st:Int→σ) (hl:a.length ≤ Go.maxLen) (hab:a.length = b.length)
 (hin:∀ k (i:Nat),i < a.length→B k (st i) = bif p (a.getD i d) (b.getD i d) then k (st (wI (i + 1))) else some (false,())) {fin:Bool} (hout:∀ k,B k (st a.length) = some (fin,())) :
 zk B K0 (st 0) = some (eqW p a b && fin,()):=by
 have hz:(List.zip a b).length = a.length:=by rw [List.length_zip]; omega
 have hx:∀ i,i < a.length→(List.zip a b).getD i (d,d) = (a.getD i d,b.getD i d):=fun i hi=>zqO a b i hi (by omega)
 have:=zwg (B:=B) (l:=List.zip a b) (d,d) (p:=fun q=>p q.1 q.2) (fin:=some (fin,())) (bad:=some (false,())) st (by rw [hz]; exact hl) (fun k i x hi hx' _=>?_) (fun k=>?_)
 ·rw [this]
  unfold eqW
  rw [decide_eq_true hab]
  cases (List.zip a b).all fun q=>p q.1 q.2 <;> rfl
 ·rw [hz] at hi
  rw [hx i hi] at hx'
  subst hx'
  exact hin k i hi
 ·rw [hz]; exact hout k
theorem zMH {α ρ:Type} (a b:List α) (p:α→α→Bool) (x:Option ρ) (y:Option ρ):(bif ((List.length a:Int) != (List.length b:Int)) then y else x) = bif decide (a.length = b.length) then x else y:=by
 rw [znw]; cases decide (a.length = b.length) <;> rfl
theorem zMI {α:Type} {p:α→α→Bool} {a b:List α} (h:¬ a.length = b.length):eqW p a b = false:=by unfold eqW; rw [decide_eq_false h]; rfl
theorem zt7 {α:Type} {p:α→α→Bool} {a b:List α} {x:Option (Bool × Unit)} (h:a.length = b.length→x = some (eqW p a b,())):(bif ((List.length a:Int) != (List.length b:Int)) then some (false,()) else x) = some (eqW p a b,()):=by
 rw [zMH a b p]
 by_cases hl:a.length = b.length
 ·rw [decide_eq_true hl,h hl]; rfl
 ·rw [decide_eq_false hl,zMI hl]; rfl
theorem zNd {p:Bool} {ρ:Type} (x y:ρ):(bif !p then y else x) = bif p then x else y:=by cases p <;> rfl
end Go.Proofs.YtkcakhbkoeimdaaGreatDoor
end
