import Derived.Test.YtkcakhbkoeimdaaGreatDoorMcd
set_option linter.unusedVariables false
set_option linter.unusedSimpArgs false
section
namespace Go.Proofs.YtkcakhbkoeimdaaGreatDoor
open Go.Ev
noncomputable section
def yh:((List zr) × ((Option ((zr × Unit)→Option (Bool × Unit))) × Unit))→Option (Bool × Unit):=fun (x0,x1,()) =>
 Option.bind (zaw (x0,x1,())) fun q0=>bif decide (q0.1 ≥ 0) then some (true,()) else some (false,())
abbrev zfM:Fun:=⟨300,(ch [(.sl zp),(.fn (ch [zp]) (ch [.bool]))]),(ch [.bool]),0,yh⟩
theorem zmC:Sq zfM:=ms1 (d:=false) (K:=0) Tryz.func300 (by kernel_rfl) (funext fun (x0,x1,())=>by kernel_rfl)
def zao:(Int × (Int × Unit))→Option (Int × Unit):=fun (x0,x1,()) =>
 Option.bind (y3 (x0,())) fun q0=>bif q0.1 then Option.bind (y3 (x1,())) fun q1=>bif q1.1 then some (0,()) else some ((-1),()) else Option.bind (y3 (x1,())) fun q2=>bif q2.1 then some (1,()) else bif decide (x0 < x1) then some ((-1),()) else bif decide (x0 > x1) then some (1,()) else some (0,())
abbrev zkI:Fun:=⟨342,(ch [tI,tI]),(ch [tI]),0,zao⟩
theorem zun:Sq zkI:=ms1 (d:=false) (K:=0) Tryz.func342 (by kernel_rfl) (funext fun (x0,x1,())=>by kernel_rfl)
def vU:(Int × (Int × Unit))→Option (Int × Unit):=fun (x0,x1,()) =>
 Option.bind (vt (x0,())) fun q0=>bif q0.1 then Option.bind (vt (x1,())) fun q1=>bif q1.1 then some (0,()) else some ((-1),()) else Option.bind (vt (x1,())) fun q2=>bif q2.1 then some (1,()) else bif decide (x0 < x1) then some ((-1),()) else bif decide (x0 > x1) then some (1,()) else some (0,())
abbrev zh4:Fun:=⟨341,(ch [tU,tU]),(ch [tI]),0,vU⟩
theorem zqt:Sq zh4:=ms1 (d:=false) (K:=0) Tryz.func341 (by kernel_rfl) (funext fun (x0,x1,())=>by kernel_rfl)
def zbY:(Int × ((Option za) × Unit))→Option (Bool × Unit):=fun (x0,x1,()) =>
 Option.bind x1 fun q0=>Option.bind (qg (x0,0,wI (((List.length q0.1):Int) - 1),())) fun q1=>bif q1.1 then some (false,()) else some (true,())
abbrev znl:Fun:=⟨302,(ch [tI,(.ptr zm)]),(ch [.bool]),0,zbY⟩
theorem zxO:Sq znl:=ms1 (d:=false) (K:=0) Tryz.func302 (by kernel_rfl) (funext fun (x0,x1,())=>by kernel_rfl)
def qm:((List Int) × ((Option ((Int × Unit)→Option (Bool × Unit))) × Unit))→Option (Bool × Unit):=fun (x0,x1,()) =>
 Option.bind (vu (x0,x1,())) fun q0=>bif decide (q0.1 ≥ 0) then some (true,()) else some (false,())
abbrev zhk:Fun:=⟨249,(ch [(.sl tI),(.fn (ch [tI]) (ch [.bool]))]),(ch [.bool]),0,qm⟩
theorem zo9:Sq zhk:=ms1 (d:=false) (K:=0) Tryz.func249 (by kernel_rfl) (funext fun (x0,x1,())=>by kernel_rfl)
def vf:((List Int) × ((Option ((Int × Unit)→Option (Bool × Unit))) × Unit))→Option (Bool × Unit):=fun (x0,x1,()) =>
 Option.bind (zbo (x0,x1,())) fun q0=>bif decide (q0.1 ≥ 0) then some (true,()) else some (false,())
abbrev zgh:Fun:=⟨221,(ch [(.sl (.int .u8)),(.fn (ch [(.int .u8)]) (ch [.bool]))]),(ch [.bool]),0,vf⟩
theorem zog:Sq zgh:=ms1 (d:=false) (K:=0) Tryz.func221 (by kernel_rfl) (funext fun (x0,x1,())=>by kernel_rfl)
def zfv:(Int × Unit)→Option (Bool × Unit):=fun (x0,()) =>
 Option.bind (zeX (x0,())) fun q0=>bif q0.1 then some (true,()) else Option.bind (zhD (x0,())) fun q1=>bif q1.1 then some (true,()) else some (false,())
abbrev zpa:Fun:=⟨324,(ch [(.int .u8)]),(ch [.bool]),0,zfv⟩
theorem zzB:Sq zpa:=ms1 (d:=false) (K:=0) Tryz.func324 (by kernel_rfl) (funext fun (x0,())=>by kernel_rfl)
def zaD:((List qN) × ((Option ((qN × Unit)→Option (Bool × Unit))) × Unit))→Option (Bool × Unit):=fun (x0,x1,()) =>
 Option.bind (yL (x0,x1,())) fun q0=>bif decide (q0.1 ≥ 0) then some (true,()) else some (false,())
abbrev zeD:Fun:=⟨304,(ch [(.sl qM),(.fn (ch [qM]) (ch [.bool]))]),(ch [.bool]),0,zaD⟩
theorem zkZ:Sq zeD:=ms1 (d:=false) (K:=0) Tryz.func304 (by kernel_rfl) (funext fun (x0,x1,())=>by kernel_rfl)
def zbv:((List zr) × (zr × Unit))→Option (Bool × Unit):=fun (x0,x1,()) =>
 Option.bind (zdH (x0,x1,())) fun q0=>bif decide (q0.1 ≥ 0) then some (true,()) else some (false,())
abbrev ziN:Fun:=⟨307,(ch [(.sl zp),zp]),(ch [.bool]),0,zbv⟩
theorem zrW:Sq ziN:=ms1 (d:=false) (K:=0) Tryz.func307 (by kernel_rfl) (funext fun (x0,x1,())=>by kernel_rfl)
def zdV:(Int × Unit)→Option (Bool × Unit):=fun (x0,()) =>
 Option.bind (qg (x0,0,12,())) fun q0=>bif q0.1 then some (false,()) else some (true,())
abbrev zlT:Fun:=⟨309,(ch [tI]),(ch [.bool]),0,zdV⟩
theorem zvY:Sq zlT:=ms1 (d:=false) (K:=0) Tryz.func309 (by kernel_rfl) (funext fun (x0,())=>by kernel_rfl)
def yV:(za × Unit)→Option (Bool × Unit):=fun (x0,()) =>
 Option.bind (qg (x0.2.2.2.2.2.1,0,24,())) fun q0=>bif q0.1 then Option.bind (qg (x0.2.2.2.2.2.2.1,0,48,())) fun q1=>bif q1.1 then Option.bind (qg (x0.2.2.2.2.2.2.2.1,1,4,())) fun q2=>bif q2.1 then Option.bind (qg (x0.2.2.2.2.2.2.2.2.1,1,16,())) fun q3=>bif q3.1 then some (true,()) else some (false,()) else some (false,()) else some (false,()) else some (false,())
abbrev zs3:Fun:=⟨219,(ch [zm]),(ch [.bool]),0,yV⟩
theorem zDB:Sq zs3:=ms1 (d:=false) (K:=0) Tryz.func219 (by kernel_rfl) (funext fun (x0,())=>by kernel_rfl)
def jO:((List zi) × ((Option ((zi × Unit)→Option (Bool × Unit))) × Unit))→Option (Bool × Unit):=fun (x0,x1,()) =>
 Option.bind (zay (x0,x1,())) fun q0=>bif decide (q0.1 ≥ 0) then some (true,()) else some (false,())
abbrev zfN:Fun:=⟨236,(ch [(.sl zn),(.fn (ch [zn]) (ch [.bool]))]),(ch [.bool]),0,jO⟩
theorem zmD:Sq zfN:=ms1 (d:=false) (K:=0) Tryz.func236 (by kernel_rfl) (funext fun (x0,x1,())=>by kernel_rfl)
def zcD:((List qZ) × ((Option ((qZ × Unit)→Option (Bool × Unit))) × Unit))→Option (Bool × Unit):=fun (x0,x1,()) =>
 Option.bind (zbq (x0,x1,())) fun q0=>bif decide (q0.1 ≥ 0) then some (true,()) else some (false,())
abbrev zgi:Fun:=⟨238,(ch [(.sl qk),(.fn (ch [qk]) (ch [.bool]))]),(ch [.bool]),0,zcD⟩
theorem zoh:Sq zgi:=ms1 (d:=false) (K:=0) Tryz.func238 (by kernel_rfl) (funext fun (x0,x1,())=>by kernel_rfl)
def zh5:(qe × Unit)→Option (Bool × Unit):=fun (x0,()) =>
 bif x0.1 then Option.bind (zeZ (x0.2.1,())) fun q0=>bif q0.1 then Option.bind (zeZ (x0.2.2.1,())) fun q1=>bif q1.1 then Option.bind (zhG (x0.2.2.2.1,())) fun q2=>bif q2.1 then some (false,()) else some (true,()) else some (true,()) else some (true,()) else bif !eqI z3 x0 (ze z3) then some (true,()) else some (false,())
abbrev zs4:Fun:=⟨241,(ch [z3]),(ch [.bool]),0,zh5⟩
theorem zDC:Sq zs4:=ms1 (d:=false) (K:=0) Tryz.func241 (by kernel_rfl) (funext fun (x0,())=>by kernel_rfl)
def zh6:((List qe) × (zN × (Int × Unit)))→Option (Int × Unit):=fun (x0,x1,x2,()) =>
 Option.bind (ym (x0,some fun z=>zft (z.1,some x1,some x2,()),())) fun q0=>some (q0.1,())
abbrev zs5:Fun:=⟨242,(ch [(.sl z3),zR,tI]),(ch [tI]),0,zh6⟩
theorem zDD:Sq zs5:=ms1 (d:=false) (K:=0) Tryz.func242 (by kernel_rfl) (funext fun (x0,x1,x2,())=>by kernel_rfl)
def ji:((List qc) × ((Option ((qc × Unit)→Option (Bool × Unit))) × Unit))→Option (Bool × Unit):=fun (x0,x1,()) =>
 Option.bind (zbr (x0,x1,())) fun q0=>bif decide (q0.1 ≥ 0) then some (true,()) else some (false,())
abbrev zgj:Fun:=⟨243,(ch [(.sl zX),(.fn (ch [zX]) (ch [.bool]))]),(ch [.bool]),0,ji⟩
theorem zoi:Sq zgj:=ms1 (d:=false) (K:=0) Tryz.func243 (by kernel_rfl) (funext fun (x0,x1,())=>by kernel_rfl)
def zbZ:(ztX × Unit)→Option (Bool × Unit):=fun (x0,()) =>
 bif x0.1 == 1 then Option.bind (zdJ (x0.2.1,())) fun q0=>bif q0.1 then bif eqI zR x0.2.2.1 (ze zR) then some (true,()) else some (false,()) else some (false,()) else bif x0.1 == 3 then Option.bind (zdJ (x0.2.1,())) fun q1=>bif q1.1 then bif eqI zR x0.2.2.1 (ze zR) then some (true,()) else some (false,()) else some (false,()) else bif x0.1 == 2 then bif x0.2.1 == 0 then Option.bind (zdJ (x0.2.2.1.1,())) fun q2=>bif q2.1 then Option.bind (zdJ (x0.2.2.1.2.1,())) fun q3=>bif q3.1 then some (true,()) else some (false,()) else some (false,()) else some (false,()) else some (false,())
abbrev zj3:Fun:=⟨332,(ch [ztW]),(ch [.bool]),0,zbZ⟩
theorem zs6:Sq zj3:=ms1 (d:=false) (K:=0) Tryz.func332 (by kernel_rfl) (funext fun (x0,())=>by kernel_rfl)
def jk:((List zw) × ((Option ((zw × Unit)→Option (Bool × Unit))) × Unit))→Option (Bool × Unit):=fun (x0,x1,()) =>
 Option.bind (yn (x0,x1,())) fun q0=>bif decide (q0.1 ≥ 0) then some (true,()) else some (false,())
abbrev zgk:Fun:=⟨188,(ch [(.sl zy),(.fn (ch [zy]) (ch [.bool]))]),(ch [.bool]),0,jk⟩
theorem zoj:Sq zgk:=ms1 (d:=false) (K:=0) Tryz.func188 (by kernel_rfl) (funext fun (x0,x1,())=>by kernel_rfl)
def zaQ:(zw × Unit)→Option (Bool × Unit):=fun (x0,()) =>
 Option.bind (zhh (x0.2.1,())) fun q0=>bif q0.1 then Option.bind (zhh (x0.2.2.1,())) fun q1=>bif q1.1 then Option.bind (zhh (x0.2.2.2.1,())) fun q2=>bif q2.1 then some (true,()) else some (false,()) else some (false,()) else some (false,())
abbrev zpb:Fun:=⟨94,(ch [zy]),(ch [.bool]),0,zaQ⟩
theorem zzC:Sq zpb:=ms1 (d:=false) (K:=0) Tryz.func94 (by kernel_rfl) (funext fun (x0,())=>by kernel_rfl)
def zfw:(ByteArray × (ByteArray × Unit))→Option (ByteArray × Unit):=fun (x0,x1,()) =>
 bif ByteArray.toList x0 == ByteArray.toList (ByteArray.mk #[]) then some (x0,()) else bif ByteArray.toList x1 == ByteArray.toList (ByteArray.mk #[]) then some (x0,()) else bif (↑(ByteArray.size x1):Int) == 1 then bif decide (0 < (↑(ByteArray.size x1):Int)) then bif decide ((↑(UInt8.toNat (List.getD (Array.toList (ByteArray.data x1)) (Int.toNat 0) 0)):Int) < 128) then bif decide (0 < (↑(ByteArray.size x1):Int)) then Option.bind (zby (x0,(↑(UInt8.toNat (List.getD (Array.toList (ByteArray.data x1)) (Int.toNat 0) 0)):Int),())) fun q0=>bif decide (0 < (↑(ByteArray.size x1):Int)) then Option.bind (zcx (q0.1,(↑(UInt8.toNat (List.getD (Array.toList (ByteArray.data x1)) (Int.toNat 0) 0)):Int),())) fun q1=>some (q1.1,()) else none else none else none else none else none
abbrev zpc:Fun:=⟨123,(ch [.str,.str]),(ch [.str]),0,zfw⟩
theorem zzD:Sq zpc:=ms1 (d:=false) (K:=0) Tryz.func123 (by kernel_rfl) (funext fun (x0,x1,())=>by kernel_rfl)
def qX:((List zv) × ((Option ((zv × Unit)→Option (Bool × Unit))) × Unit))→Option (Bool × Unit):=fun (x0,x1,()) =>
 Option.bind (zaz (x0,x1,())) fun q0=>bif decide (q0.1 ≥ 0) then some (true,()) else some (false,())
abbrev zfO:Fun:=⟨245,(ch [(.sl zA),(.fn (ch [zA]) (ch [.bool]))]),(ch [.bool]),0,qX⟩
theorem zmE:Sq zfO:=ms1 (d:=false) (K:=0) Tryz.func245 (by kernel_rfl) (funext fun (x0,x1,())=>by kernel_rfl)
def zgl:(zkW × Unit)→Option (Bool × Unit):=fun (x0,()) =>
 Option.bind (je (x0.1,())) fun q0=>bif q0.1 then bif decide (x0.2.1 ≤ 4611686018427387904) then bif x0.2.2.1 == -1 then some (true,()) else Option.bind (zfu (x0.2.2.1,())) fun q1=>bif q1.1 then some (true,()) else some (false,()) else some (false,()) else some (false,())
abbrev zuT:Fun:=⟨335,(ch [zdE]),(ch [.bool]),0,zgl⟩
theorem zFt:Sq zuT:=ms1 (d:=false) (K:=0) Tryz.func335 (by kernel_rfl) (funext fun (x0,())=>by kernel_rfl)
def ze9:(Int × (Int × Unit))→Option (Int × (Int × Unit)):=fun (x0,x1,()) =>
 Option.bind (zcM (x0,x1,())) fun q0=>bif q0.1 != 0 then some (0,7,()) else bif decide (q0.2.1 > 4611686018427387904) then some (0,7,()) else some (q0.2.1,0,())
abbrev zs7:Fun:=⟨362,(ch [tU,tU]),(ch [tU,tI]),0,ze9⟩
theorem zDE:Sq zs7:=ms1 (d:=false) (K:=0) Tryz.func362 (by kernel_rfl) (funext fun (x0,x1,())=>by kernel_rfl)
def zdW:(zq × ((Option qJ) × Unit))→Option (Bool × Unit):=fun (x0,x1,()) =>
 bif x0.1 then Option.bind x1 fun q0=>Option.bind (zbA (q0,x0.2.1,())) fun q1=>bif q1.1 then Option.bind x1 fun q2=>Option.bind (qK (q2,x0.2.2.1,())) fun q3=>bif q3.1 then Option.bind x1 fun q4=>bif decide (x0.2.2.2.2.2.2.2.2.2.1 < ((List.length q4.2.1.2.2.2.2.1):Int)) then some (true,()) else some (false,()) else some (false,()) else some (false,()) else some (true,())
abbrev zlU:Fun:=⟨149,(ch [zo,(.ptr qf)]),(ch [.bool]),0,zdW⟩
theorem zvZ:Sq zlU:=ms1 (d:=false) (K:=0) Tryz.func149 (by kernel_rfl) (funext fun (x0,x1,())=>by kernel_rfl)
def jP:((List zq) × ((Option ((zq × Unit)→Option (Bool × Unit))) × Unit))→Option (Bool × Unit):=fun (x0,x1,()) =>
 Option.bind (zaA (x0,x1,())) fun q0=>bif decide (q0.1 ≥ 0) then some (true,()) else some (false,())
abbrev zfP:Fun:=⟨253,(ch [(.sl zo),(.fn (ch [zo]) (ch [.bool]))]),(ch [.bool]),0,jP⟩
theorem zmF:Sq zfP:=ms1 (d:=false) (K:=0) Tryz.func253 (by kernel_rfl) (funext fun (x0,x1,())=>by kernel_rfl)
def za8:(zG × ((Option qJ) × Unit))→Option (Bool × Unit):=fun (x0,x1,()) =>
 Option.bind x1 fun q0=>bif decide (x0.2.1 < ((List.length q0.1.2.1):Int)) then Option.bind x1 fun q1=>inR x0.2.1 ((List.length q1.1.2.1):Int) (bif x0.2.2.1 == ix (0:Int) q1.1.2.1 x0.2.1 then Option.bind x1 fun q2=>Option.bind (qK (q2,x0.2.2.2.1,())) fun q3=>bif q3.1 then Option.bind x1 fun q4=>bif decide (x0.1 ≤ q4.2.1.1) then some (true,()) else some (false,()) else some (false,()) else some (false,())) else some (false,())
abbrev zlV:Fun:=⟨153,(ch [zx,(.ptr qf)]),(ch [.bool]),0,za8⟩
theorem zv0:Sq zlV:=ms1 (d:=false) (K:=0) Tryz.func153 (by kernel_rfl) (funext fun (x0,x1,())=>by kernel_rfl)
def jQ:((List zG) × ((Option ((zG × Unit)→Option (Bool × Unit))) × Unit))→Option (Bool × Unit):=fun (x0,x1,()) =>
 Option.bind (zaB (x0,x1,())) fun q0=>bif decide (q0.1 ≥ 0) then some (true,()) else some (false,())
abbrev zfQ:Fun:=⟨255,(ch [(.sl zx),(.fn (ch [zx]) (ch [.bool]))]),(ch [.bool]),0,jQ⟩
theorem zmG:Sq zfQ:=ms1 (d:=false) (K:=0) Tryz.func255 (by kernel_rfl) (funext fun (x0,x1,())=>by kernel_rfl)
def vm:(Int × ((Option qJ) × Unit))→Option (Bool × Unit):=fun (x0,x1,()) =>
 bif x0 == -1 then some (true,()) else Option.bind x1 fun q0=>Option.bind (qK (q0,x0,())) fun q1=>bif q1.1 then some (true,()) else some (false,())
abbrev zlW:Fun:=⟨155,(ch [tI,(.ptr qf)]),(ch [.bool]),0,vm⟩
theorem zv1:Sq zlW:=ms1 (d:=false) (K:=0) Tryz.func155 (by kernel_rfl) (funext fun (x0,x1,())=>by kernel_rfl)
def zgm:(qJ × (Int × (Int × Unit)))→Option (Bool × Unit):=fun (x0,x1,x2,()) =>
 Option.bind (zbA (x0,x1,())) fun q0=>bif q0.1 then Option.bind (zbA (x0,x2,())) fun q1=>bif q1.1 then inR x1 ((List.length x0.1.1):Int) (inR x2 ((List.length x0.1.1):Int) (Option.bind (va (ix zC x0.1.1 x1,ix zC x0.1.1 x2,())) fun q2=>bif q2.1 then some (true,()) else some (false,()))) else some (false,()) else some (false,())
abbrev zuU:Fun:=⟨165,(ch [qf,tI,tI]),(ch [.bool]),0,zgm⟩
theorem zFu:Sq zuU:=ms1 (d:=false) (K:=0) Tryz.func165 (by kernel_rfl) (funext fun (x0,x1,x2,())=>by kernel_rfl)
def vg:((List qe) × ((Option ((qe × Unit)→Option (Bool × Unit))) × Unit))→Option (Bool × Unit):=fun (x0,x1,()) =>
 Option.bind (ym (x0,x1,())) fun q0=>bif decide (q0.1 ≥ 0) then some (true,()) else some (false,())
abbrev zgn:Fun:=⟨259,(ch [(.sl z3),(.fn (ch [z3]) (ch [.bool]))]),(ch [.bool]),0,vg⟩
theorem zok:Sq zgn:=ms1 (d:=false) (K:=0) Tryz.func259 (by kernel_rfl) (funext fun (x0,x1,())=>by kernel_rfl)
def vE:((List zN) × ((Option ((zN × Unit)→Option (Bool × Unit))) × Unit))→Option (Bool × Unit):=fun (x0,x1,()) =>
 Option.bind (zbV (x0,x1,())) fun q0=>bif decide (q0.1 ≥ 0) then some (true,()) else some (false,())
abbrev zhl:Fun:=⟨262,(ch [(.sl zR),(.fn (ch [zR]) (ch [.bool]))]),(ch [.bool]),0,vE⟩
theorem zpd:Sq zhl:=ms1 (d:=false) (K:=0) Tryz.func262 (by kernel_rfl) (funext fun (x0,x1,())=>by kernel_rfl)
def za9:(qc × ((Option qJ) × Unit))→Option (Bool × Unit):=fun (x0,x1,()) =>
 bif x0.2.2.1 != 1 then some (true,()) else Option.bind x1 fun q0=>Option.bind (qK (q0,x0.2.2.2.1,())) fun q1=>bif q1.1 then some (true,()) else some (false,())
abbrev zlX:Fun:=⟨162,(ch [zX,(.ptr qf)]),(ch [.bool]),0,za9⟩
theorem zv2:Sq zlX:=ms1 (d:=false) (K:=0) Tryz.func162 (by kernel_rfl) (funext fun (x0,x1,())=>by kernel_rfl)
def qE:(zv × ((Option qJ) × Unit))→Option (Bool × Unit):=fun (x0,x1,()) =>
 bif x0.1 then Option.bind x1 fun q0=>Option.bind (qK (q0,x0.2.1,())) fun q1=>bif q1.1 then Option.bind x1 fun q2=>Option.bind (qK (q2,x0.2.2.1,())) fun q3=>bif q3.1 then some (true,()) else some (false,()) else some (false,()) else some (true,())
abbrev zlY:Fun:=⟨167,(ch [zA,(.ptr qf)]),(ch [.bool]),0,qE⟩
theorem zv3:Sq zlY:=ms1 (d:=false) (K:=0) Tryz.func167 (by kernel_rfl) (funext fun (x0,x1,())=>by kernel_rfl)
def yB:((List zv) × ((Option ((zv × Unit)→Option (Bool × Unit))) × Unit))→Option ((Option zbR) × Unit):=fun (x0,x1,()) =>
 bif Option.isNone x1 then some (none,()) else Option.bind (za1 (x0,())) fun q0=>some (some (q0.1,x1,()),())
abbrev zlZ:Fun:=⟨168,(ch [(.sl zA),(.fn (ch [zA]) (ch [.bool]))]),(ch [(.ptr vO)]),0,yB⟩
theorem zv4:Sq zlZ:=ms1 (d:=false) (K:=0) Tryz.func168 (by kernel_rfl) (funext fun (x0,x1,())=>by kernel_rfl)
def vV:((Option zbR) × (Int × Unit))→Option (Bool × Unit):=fun (x0,x1,()) =>
 Option.bind (zdP (x0,())) fun q0=>bif q0.1 then bif decide (x1 ≥ 0) then Option.bind x0 fun q1=>bif decide (x1 < ((List.length q1.1):Int)) then Option.bind x0 fun q2=>Option.bind x0 fun q3=>inR x1 ((List.length q3.1):Int) (Option.bind q2.2.1 fun q4=>Option.bind (q4 (ix qS q3.1 x1,())) fun q5=>bif q5.1 then some (true,()) else some (false,())) else some (false,()) else some (false,()) else some (false,())
abbrev znm:Fun:=⟨170,(ch [(.ptr vO),tI]),(ch [.bool]),0,vV⟩
theorem zxP:Sq znm:=ms1 (d:=false) (K:=0) Tryz.func170 (by kernel_rfl) (funext fun (x0,x1,())=>by kernel_rfl)
def zgZ:((List zq) × ((Option ((zq × Unit)→Option (Bool × Unit))) × Unit))→Option ((Option zdF) × Unit):=fun (x0,x1,()) =>
 bif Option.isNone x1 then some (none,()) else Option.bind (za2 (x0,())) fun q0=>some (some (q0.1,x1,()),())
abbrev zl0:Fun:=⟨375,(ch [(.sl zo),(.fn (ch [zo]) (ch [.bool]))]),(ch [(.ptr yK)]),0,zgZ⟩
theorem zv5:Sq zl0:=ms1 (d:=false) (K:=0) Tryz.func375 (by kernel_rfl) (funext fun (x0,x1,())=>by kernel_rfl)
def zeE:((Option zdF) × (Int × Unit))→Option (Bool × Unit):=fun (x0,x1,()) =>
 Option.bind (zdQ (x0,())) fun q0=>bif q0.1 then bif decide (x1 ≥ 0) then Option.bind x0 fun q1=>bif decide (x1 < ((List.length q1.1):Int)) then Option.bind x0 fun q2=>Option.bind x0 fun q3=>inR x1 ((List.length q3.1):Int) (Option.bind q2.2.1 fun q4=>Option.bind (q4 (ix qs q3.1 x1,())) fun q5=>bif q5.1 then some (true,()) else some (false,())) else some (false,()) else some (false,()) else some (false,())
abbrev znn:Fun:=⟨378,(ch [(.ptr yK),tI]),(ch [.bool]),0,zeE⟩
theorem zxQ:Sq znn:=ms1 (d:=false) (K:=0) Tryz.func378 (by kernel_rfl) (funext fun (x0,x1,())=>by kernel_rfl)
abbrev zfa:Type:=Int × (List Int) × Int × Int
abbrev zDF:zfa→St:=fun (v4,v9,v10,v11)=>St.mk [(4,.dat tU v4),(9,.dat (.sl tU) v9),(10,.dat tI v10),(11,.dat tI v11)] []
def zfb (k0:zfa→Option (Int × (Int × Unit))):zfa→Option (Int × (Int × Unit)):=fun (v4,v9,v10,v11) =>
 bif decide (v11 < v10) then inR v11 ((List.length v9):Int) (Option.bind (zjq (v4,ix (0:Int) v9 v11,())) fun q0=>bif q0.2.1 != 0 then some (0,q0.2.1,()) else k0 (q0.1,v9,v10,wI (v11 + 1))) else some (v4,0,())
abbrev zs8 (K:Nat):zfa→Option (Int × (Int × Unit)):=zl zfb K
theorem zDG (K:Nat):∀ n,evV Es1 K Tryz.f270 0 (ch [tU,tI]) [1,1,0,1,0] [] zDF n = zl zfb n:=zt fun n0 (v4,v9,v10,v11)=>by kernel_rfl
def zqu (L0:zfa→Option (Int × (Int × Unit))):((List Int) × Unit)→Option (Int × (Int × Unit)):=fun (x0,()) =>
 L0 (0,x0,((List.length x0):Int),0)
def zfx:((List Int) × Unit)→Option (Int × Int × Unit):=zqu (zs8 K0)
abbrev zxR:Fun:=⟨270,(ch [(.sl tU)]),(ch [tU,tI]),0,zfx⟩
theorem zHm:Sq zxR:=ml1 (d:=false) (S:=fun K=>zqu (zs8 K)) Tryz.func270 (by kernel_rfl) (fun K=>tr1 (T:=zqu) (zDG K K) fun (x0,())=>by kernel_rfl) rfl
def zap:(zN × ((Option za) × ((Option Int) × Unit)))→Option (Bool × Unit):=fun (x0,x1,x2,()) =>
 Option.bind (za0 (x0.1,())) fun q0=>Option.bind x1 fun q1=>Option.bind x2 fun q2=>inR q2 ((List.length q1.1):Int) (bif eqI zp q0.1 (ix zC q1.1 q2) then some (true,()) else some (false,()))
abbrev zkJ:Fun:=⟨319,(ch [jc,(.ptr zm),(.ptr tI)]),(ch [.bool]),0,zap⟩
theorem zuo:Sq zkJ:=ms1 (d:=false) (K:=0) Tryz.func319 (by kernel_rfl) (funext fun (x0,x1,x2,())=>by kernel_rfl)
def jm:((List Int) × (Int × Unit))→Option (Bool × Unit):=fun (x0,x1,()) =>
 Option.bind (zi3 (x0,x1,())) fun q0=>bif decide (q0.1 ≥ 0) then some (true,()) else some (false,())
abbrev zkK:Fun:=⟨73,(ch [(.sl tI),tI]),(ch [.bool]),0,jm⟩
theorem zup:Sq zkK:=ms1 (d:=false) (K:=0) Tryz.func73 (by kernel_rfl) (funext fun (x0,x1,())=>by kernel_rfl)
abbrev zb0:Type:=Int × Int × Int × Int × List zi × Nat × List (List Int) × Nat × List zq × List zG × List Int × List zi × Nat × List (List Int) × Nat × List zq × List zG × List Int
abbrev zno:zb0→St:=fun (v44,v45,o0_0,o1_0,o2,c2,o3,c3,o4,o5,o6,o7,c7,o8,c8,o9,o10,o11)=>St.mk [(1,.bp 0 []),(2,.bp 1 []),(43,.ow 2),(44,.dat tI v44),(45,.dat tI v45)] [.bx (.fld (.pair tU (.pair (.sl zn) (.pair (.sl (.sl tI)) (.pair (.sl zo) (.pair (.sl zx) (.pair (.sl tI) .unit)))))) [.dat tU o0_0,.ow 2,.ow 3,.ow 4,.ow 5,.ow 6]) false,.bx (.fld (.pair tU (.pair (.sl zn) (.pair (.sl (.sl tI)) (.pair (.sl zo) (.pair (.sl zx) (.pair (.sl tI) .unit)))))) [.dat tU o1_0,.ow 7,.ow 8,.ow 9,.ow 10,.ow 11]) false,.drow zn o2 c2,.drow (.sl tI) o3 c3,.row zo o4 false,.row zx o5 false,.row tI o6 false,.drow zn o7 c7,.drow (.sl tI) o8 c8,.row zo o9 false,.row zx o10 false,.row tI o11 false]
abbrev zb1:Type:=Int × Int × Int × (List zi) × Int × List (List Int) × Nat × List zq × List zG × List Int × List zi × Nat × List (List Int) × Nat × List zq × List zG × List Int
abbrev zxS:zb1→St:=fun (v25,v26,o0_0,o0_1,o1_0,o2,c2,o3,o4,o5,o6,c6,o7,c7,o8,o9,o10)=>St.mk [(1,.bp 0 []),(2,.bp 1 []),(24,.ow 2),(25,.dat tI v25),(26,.dat tI v26)] [.bx (.fld (.pair tU (.pair (.sl zn) (.pair (.sl (.sl tI)) (.pair (.sl zo) (.pair (.sl zx) (.pair (.sl tI) .unit)))))) [.dat tU o0_0,.dat (.sl zn) o0_1,.ow 2,.ow 3,.ow 4,.ow 5]) false,.bx (.fld (.pair tU (.pair (.sl zn) (.pair (.sl (.sl tI)) (.pair (.sl zo) (.pair (.sl zx) (.pair (.sl tI) .unit)))))) [.dat tU o1_0,.ow 6,.ow 7,.ow 8,.ow 9,.ow 10]) false,.drow (.sl tI) o2 c2,.row zo o3 false,.row zx o4 false,.row tI o5 false,.drow zn o6 c6,.drow (.sl tI) o7 c7,.row zo o8 false,.row zx o9 false,.row tI o10 false]
def zb2 (k1:zb0→Option (zd × Unit)):zb0→Option (zd × Unit):=fun (v44,v45,o0_0,o1_0,o2,c2,o3,c3,o4,o5,o6,o7,c7,o8,c8,o9,o10,o11) =>
 bif decide (v45 < v44) then inR v45 ((List.length o2):Int) (bif decide (c2 ≤ Int.toNat v45) then Option.bind (zhQ ((ix zg o2 v45).1,())) fun q6=>Option.bind (zhR ((ix zg o2 v45).2.1,())) fun q7=>Option.bind (zhS ((ix zg o2 v45).2.2.1,())) fun q8=>Option.bind (y4 ((ix zg o2 v45).2.2.2.1,())) fun q9=>Option.bind (za1 ((ix zg o2 v45).2.2.2.2.1,())) fun q10=>Option.bind (zki ((ix zg o2 v45).2.2.2.2.2.1,())) fun q11=>Option.bind (zi4 ((ix zg o2 v45).2.2.2.2.2.2.1,())) fun q12=>inR v45 ((List.length o2):Int) (bif decide (Int.toNat v45 = c2) then k1 (v44,wI (v45 + 1),o0_0,o1_0,List.set o2 (Int.toNat v45) (q6.1,q7.1,q8.1,q9.1,q10.1,q11.1,q12.1,(ix zg o2 v45).2.2.2.2.2.2.2.1,(ix zg o2 v45).2.2.2.2.2.2.2.2.1,()),c2 + 1,o3,c3,o4,o5,o6,o7,c7,o8,c8,o9,o10,o11) else none) else none) else bif decide (c2 = List.length o2) then bif decide (c3 = List.length o3) then some ((o0_0,o2,o3,o4,o5,o6,()),()) else none else none
abbrev zb3 (K:Nat):zb0→Option (zd × Unit):=zl zb2 K
theorem zxT (K:Nat):∀ n,evV Ed1 K Tryz.f7 3 (ch [zz]) [1,1,1,1,1,0,1,0] [] zno n = zl zb2 n:=zt fun n1 (v44,v45,o0_0,o1_0,o2,c2,o3,c3,o4,o5,o6,o7,c7,o8,c8,o9,o10,o11)=>by kernel_rfl
def y6 (L1:zb0→Option (zd × Unit)) (k0:zb1→Option (zd × Unit)):zb1→Option (zd × Unit):=fun (v25,v26,o0_0,o0_1,o1_0,o2,c2,o3,o4,o5,o6,c6,o7,c7,o8,o9,o10) =>
 bif decide (v26 < v25) then inR v26 ((List.length o2):Int) (bif decide (c2 ≤ Int.toNat v26) then Option.bind (yA (List.getD o2 (Int.toNat v26) ([]:List Int),())) fun q4=>inR v26 ((List.length o2):Int) (bif decide (Int.toNat v26 = c2) then k0 (v25,wI (v26 + 1),o0_0,o0_1,o1_0,List.set o2 (Int.toNat v26) q4.1,c2 + 1,o3,o4,o5,o6,c6,o7,c7,o8,o9,o10) else none) else none) else Option.bind (zgQ (o0_1,())) fun q5=>L1 (((List.length q5.1):Int),0,o0_0,o1_0,q5.1,0,o2,c2,o3,o4,o5,o6,c6,o7,c7,o8,o9,o10)
abbrev zh7 (K:Nat):zb1→Option (zd × Unit):=zl (fun k0=>y6 (zb3 K) k0) K
theorem zxU (K:Nat):∀ n,evV Ed1 K Tryz.f7 3 (ch [zz]) [1,1,1,0,1,0] [] zxS n = zl (fun k0=>y6 (zb3 K) k0) n:=zhb (B:=fun L1 k0=>y6 L1 k0) (V1:=fun n0=>evV Ed1 K Tryz.f7 3 (ch [zz]) [1,1,1,1,1,0,1,0] [] zno K) (W1:=fun k0=>(zb3 K)) (fun n0=>zxT K K) fun n0 (v25,v26,o0_0,o0_1,o1_0,o2,c2,o3,o4,o5,o6,c6,o7,c7,o8,o9,o10)=>by kernel_rfl
def zgB (L0:zb1→Option (zd × Unit)):(zd × Unit)→Option (zd × Unit):=fun (x0,()) =>
 Option.bind (za2 (x0.2.2.2.1,())) fun q0=>Option.bind (zgP (x0.2.2.2.2.1,())) fun q1=>Option.bind (yA (x0.2.2.2.2.2.1,())) fun q2=>Option.bind (zhP (x0.2.2.1,())) fun q3=>L0 (((List.length q3.1):Int),0,x0.1,x0.2.1,0,q3.1,0,q0.1,q1.1,q2.1,[],0,[],0,[],[],[])
def qQ:(zd × Unit)→Option (zd × Unit):=zgB (zh7 K0)
abbrev zq7:Fun:=⟨7,(ch [zz]),(ch [zz]),3,qQ⟩
theorem zBj:Sq zq7:=ml1 (d:=true) (S:=fun K=>zgB (zh7 K)) Tryz.func7 (by kernel_rfl) (fun K=>tr1 (T:=zgB) (zxU K K) fun (x0,())=>by kernel_rfl) rfl
def zh8:((List zw) × ((Option ((zw × Unit)→Option (Bool × Unit))) × Unit))→Option ((Option yd) × Unit):=fun (x0,x1,()) =>
 bif Option.isNone x1 then some (none,()) else Option.bind (y4 (x0,())) fun q0=>some (some (q0.1,x1,()),())
abbrev znp:Fun:=⟨191,(ch [(.sl zy),(.fn (ch [zy]) (ch [.bool]))]),(ch [(.ptr jT)]),0,zh8⟩
theorem zxV:Sq znp:=ms1 (d:=false) (K:=0) Tryz.func191 (by kernel_rfl) (funext fun (x0,x1,())=>by kernel_rfl)
def zda:((Option yd) × (Int × Unit))→Option (Bool × Unit):=fun (x0,x1,()) =>
 Option.bind (y5 (x0,())) fun q0=>bif q0.1 then bif decide (x1 ≥ 0) then Option.bind x0 fun q1=>bif decide (x1 < ((List.length q1.1):Int)) then Option.bind x0 fun q2=>Option.bind x0 fun q3=>inR x1 ((List.length q3.1):Int) (Option.bind q2.2.1 fun q4=>Option.bind (q4 (ix zcL q3.1 x1,())) fun q5=>bif q5.1 then some (true,()) else some (false,())) else some (false,()) else some (false,()) else some (false,())
abbrev zpe:Fun:=⟨102,(ch [(.ptr jT),tI]),(ch [.bool]),0,zda⟩
theorem zzE:Sq zpe:=ms1 (d:=false) (K:=0) Tryz.func102 (by kernel_rfl) (funext fun (x0,x1,())=>by kernel_rfl)
def zdb:((Option yd) × (Int × (zw × Unit)))→Option ((List zw) × (Int × Unit)):=fun (x0,x1,x2,()) =>
 Option.bind (y5 (x0,())) fun q0=>bif q0.1 then bif decide (x1 < 0) then some ([],1,()) else Option.bind x0 fun q1=>bif decide (x1 ≥ ((List.length q1.1):Int)) then some ([],1,()) else Option.bind x0 fun q2=>Option.bind (y4 (q2.1,())) fun q3=>inR x1 ((List.length q3.1):Int) (some (List.set q3.1 (Int.toNat x1) x2,0,())) else some ([],11,())
abbrev zpf:Fun:=⟨101,(ch [(.ptr jT),tI,zy]),(ch [(.sl zy),tI]),0,zdb⟩
theorem zzF:Sq zpf:=ms1 (d:=false) (K:=0) Tryz.func101 (by kernel_rfl) (funext fun (x0,x1,x2,())=>by kernel_rfl)
def zdX:((Option yd) × Unit)→Option (Int × (Int × Unit)):=fun (x0,()) =>
 Option.bind (y5 (x0,())) fun q0=>bif q0.1 then Option.bind x0 fun q1=>Option.bind (yn (q1.1,some fun z=>zjX (z.1,some x0,()),())) fun q2=>bif decide (q2.1 < 0) then some (0,8,()) else some (q2.1,0,()) else some (0,11,())
abbrev zl1:Fun:=⟨193,(ch [(.ptr jT)]),(ch [tI,tI]),0,zdX⟩
theorem zv6:Sq zl1:=ms1 (d:=false) (K:=0) Tryz.func193 (by kernel_rfl) (funext fun (x0,())=>by kernel_rfl)
def zbB:(Int × ((Option za) × ((Option zr) × Unit)))→Option (Bool × Unit):=fun (x0,x1,x2,()) =>
 Option.bind x1 fun q0=>inR x0 ((List.length q0.1):Int) (Option.bind x2 fun q1=>Option.bind (va (ix zC q0.1 x0,q1,())) fun q2=>bif q2.1 then some (true,()) else some (false,()))
abbrev zq8:Fun:=⟨175,(ch [tI,(.ptr zm),(.ptr zp)]),(ch [.bool]),0,zbB⟩
theorem zBk:Sq zq8:=ms1 (d:=false) (K:=0) Tryz.func175 (by kernel_rfl) (funext fun (x0,x1,x2,())=>by kernel_rfl)
def zgC:(Int × ((Option za) × ((Option zr) × Unit)))→Option (Bool × Unit):=fun (x0,x1,x2,()) =>
 Option.bind x1 fun q0=>inR x0 ((List.length q0.2.2.2.1):Int) (Option.bind (za0 ((ix zJ q0.2.2.2.1 x0).1,())) fun q1=>Option.bind x2 fun q2=>Option.bind (va (q1.1,q2,())) fun q3=>bif q3.1 then some (true,()) else some (false,()))
abbrev zq9:Fun:=⟨176,(ch [tI,(.ptr zm),(.ptr zp)]),(ch [.bool]),0,zgC⟩
theorem zBl:Sq zq9:=ms1 (d:=false) (K:=0) Tryz.func176 (by kernel_rfl) (funext fun (x0,x1,x2,())=>by kernel_rfl)
def yb:(zi × (zi × Unit))→Option (Bool × Unit):=fun (x0,x1,()) =>
 Option.bind (zhW (x0.1,x1.1,())) fun q0=>bif q0.1 then Option.bind (zhY (x0.2.1,x1.2.1,())) fun q1=>bif q1.1 then Option.bind (zh0 (x0.2.2.1,x1.2.2.1,())) fun q2=>bif q2.1 then Option.bind (zh2 (x0.2.2.2.1,x1.2.2.2.1,())) fun q3=>bif q3.1 then Option.bind (zgS (x0.2.2.2.2.1,x1.2.2.2.2.1,())) fun q4=>bif q4.1 then Option.bind (zkk (x0.2.2.2.2.2.1,x1.2.2.2.2.2.1,())) fun q5=>bif q5.1 then Option.bind (zi7 (x0.2.2.2.2.2.2.1,x1.2.2.2.2.2.2.1,())) fun q6=>bif q6.1 then bif eqI (.arr 4 tU) x0.2.2.2.2.2.2.2.1 x1.2.2.2.2.2.2.2.1 then bif eqI (.arr 4 tU) x0.2.2.2.2.2.2.2.2.1 x1.2.2.2.2.2.2.2.2.1 then some (true,()) else some (false,()) else some (false,()) else some (false,()) else some (false,()) else some (false,()) else some (false,()) else some (false,()) else some (false,()) else some (false,())
abbrev zkL:Fun:=⟨182,(ch [zn,zn]),(ch [.bool]),0,yb⟩
theorem zuq:Sq zkL:=ms1 (d:=false) (K:=0) Tryz.func182 (by kernel_rfl) (funext fun (x0,x1,())=>by kernel_rfl)
abbrev L2:List Fun:=zlS :: zfM :: zkI :: zh4 :: znl :: zhk :: zgh :: zpa :: zeD :: ziN :: zlT :: zs3 :: zfN :: zgi :: zs4 :: zs5 :: zgj :: zj3 :: zgk :: zpb :: zpc :: zfO :: zuT :: zs7 :: zlU :: zfP :: zlV :: zfQ :: zlW :: zuU :: zgn :: zhl :: zlX :: zlY :: zlZ :: znm :: zl0 :: znn :: zxR :: zkJ :: zkK :: zq7 :: znp :: zpe :: zpf :: zl1 :: zq8 :: zq9 :: zkL :: L1
theorem h2:Sds Tryz.prog E0 L2:=⟨zvX,zmC,zun,zqt,zxO,zo9,zog,zzB,zkZ,zrW,zvY,zDB,zmD,zoh,zDC,zDD,zoi,zs6,zoj,zzC,zzD,zmE,zFt,zDE,zvZ,zmF,zv0,zmG,zv1,zFu,zok,zpd,zv2,zv3,zv4,zxP,zv5,zxQ,zHm,zuo,zup,zBj,zxV,zzE,zzF,zv6,zBk,zBl,zuq,h1⟩
theorem ms2 {d:Bool} {F:Fun} {f:Go.Func} {K:Nat} (hf:Tryz.prog.funcs[F.id]? = some f) (ho:jz f = true) (h:evF (En E0 d L2) K f F.md F.a F.r = F.spec):Sd Tryz.prog E0 F:=mkS h2 hf ho h
theorem ml2 {d:Bool} {F:Fun} {f:Go.Func} {S:Nat→F.a.I→Option F.r.I} (hf:Tryz.prog.funcs[F.id]? = some f) (ho:jz f = true) (h:∀ K,evF (En E0 d L2) K f F.md F.a F.r = S K) (e:S K0 = F.spec):Sd Tryz.prog E0 F:=mkS h2 hf ho ((h K0).trans e)
abbrev Es2:Env:=En E0 false L2
def zjs:(zr × (zr × Unit))→Option (Int × Unit):=fun (x0,x1,()) =>
 Option.bind (zao (x0.1,x1.1,())) fun q0=>Option.bind (vU (x0.2.1,x1.2.1,())) fun q1=>Option.bind (zcZ (zf (zf (List.replicate 2 (0:Int)) 0 q0.1) 1 q1.1,())) fun q2=>some (q2.1,())
abbrev zuV:Fun:=⟨301,(ch [zp,zp]),(ch [tI]),0,zjs⟩
theorem zFv:Sq zuV:=ms2 (d:=false) (K:=0) Tryz.func301 (by kernel_rfl) (funext fun (x0,x1,())=>by kernel_rfl)
def ye:(za × Unit)→Option (Bool × Unit):=fun (x0,()) =>
 Option.bind (qg (((List.length x0.2.1):Int),1,8,())) fun q0=>bif q0.1 then Option.bind (qm (x0.2.1,some fun z=>zbY (z.1,some x0,()),())) fun q1=>bif q1.1 then some (false,()) else some (true,()) else some (false,())
abbrev zra:Fun:=⟨215,(ch [zm]),(ch [.bool]),0,ye⟩
theorem zBm:Sq zra:=ms2 (d:=false) (K:=0) Tryz.func215 (by kernel_rfl) (funext fun (x0,())=>by kernel_rfl)
def zk0:(ByteArray × ((Option ((Int × Unit)→Option (Bool × Unit))) × Unit))→Option (Bool × Unit):=fun (x0,x1,()) =>
 Option.bind (vf (List.map (fun b=>(↑(UInt8.toNat b):Int)) (Array.toList (ByteArray.data x0)),some fun z=>zhC (z.1,some x1,()),())) fun q0=>bif q0.1 then some (false,()) else some (true,())
abbrev zxW:Fun:=⟨121,(ch [.str,(.fn (ch [(.int .u8)]) (ch [.bool]))]),(ch [.bool]),0,zk0⟩
theorem zHn:Sq zxW:=ms2 (d:=false) (K:=0) Tryz.func121 (by kernel_rfl) (funext fun (x0,x1,())=>by kernel_rfl)
abbrev zba:Type:=Int × (List zN) × Int × Int × za × Int
abbrev zv7:zba→St:=fun (v4,v11,v12,v13,o0,o1)=>St.mk [(1,.bp 0 []),(3,.bp 1 []),(4,.dat tI v4),(11,.dat (.sl jc) v11),(12,.dat tI v12),(13,.dat tI v13)] [.bx (.dat zm o0) false,.bx (.dat tU o1) false]
def zbb (k0:zba→Option (Bool × Unit)):zba→Option (Bool × Unit):=fun (v4,v11,v12,v13,o0,o1) =>
 bif decide (v13 < v12) then inR v13 ((List.length v11):Int) (Option.bind (za0 ((ix zJ v11 v13).1,())) fun q0=>bif q0.2.1 != 0 then some (false,()) else bif decide ((ix zJ v11 v13).1 ≤ v4) then some (false,()) else Option.bind (qg ((ix zJ v11 v13).2.1,0,wI (((List.length o0.2.2.1):Int) - 1),())) fun q1=>bif q1.1 then Option.bind (zbv (o0.1,q0.1,())) fun q2=>bif q2.1 then k0 ((ix zJ v11 v13).1,v11,v12,wI (v13 + 1),o0,wU (↑(BitVec.toNat (BitVec.ofInt (IntKind.bits IntKind.u64) o1 ||| BitVec.ofInt (IntKind.bits IntKind.u64) q0.1.2.1)):Int)) else some (false,()) else some (false,())) else bif decide (((List.length o0.2.2.2.1):Int) ≤ 8) then Option.bind (yh (o0.1,some fun z=>zgO (z.1,some o1,()),())) fun q3=>bif q3.1 then some (false,()) else some (true,()) else some (false,())
abbrev zl2 (K:Nat):zba→Option (Bool × Unit):=zl zbb K
theorem zv8 (K:Nat):∀ n,evV Es2 K Tryz.f217 0 (ch [.bool]) [1,1,1,0,1,0] [] zv7 n = zl zbb n:=zt fun n0 (v4,v11,v12,v13,o0,o1)=>by kernel_rfl
def zi9 (L0:zba→Option (Bool × Unit)):(za × Unit)→Option (Bool × Unit):=fun (x0,()) =>
 L0 ((-1),x0.2.2.2.1,((List.length x0.2.2.2.1):Int),0,x0,0)
def vF:(za × Unit)→Option (Bool × Unit):=zi9 (zl2 K0)
abbrev zpg:Fun:=⟨217,(ch [zm]),(ch [.bool]),0,vF⟩
theorem zzG:Sq zpg:=ml2 (d:=false) (S:=fun K=>zi9 (zl2 K)) Tryz.func217 (by kernel_rfl) (fun K=>tr1 (T:=zi9) (zv8 K K) fun (x0,())=>by kernel_rfl) rfl
abbrev zbc:Type:=Int × (List zbQ) × Int × Int
abbrev zv9:zbc→St:=fun (v3,v23,v24,v25)=>St.mk [(3,.dat tU v3),(23,.dat (.sl zcX) v23),(24,.dat tI v24),(25,.dat tI v25)] []
def zdY (k0:zbc→Option (Bool × Unit)):zbc→Option (Bool × Unit):=fun (v3,v23,v24,v25) =>
 bif decide (v25 < v24) then inR v25 ((List.length v23):Int) (bif decide ((ix j4 v23 v25).2.2.2.2.2.1 > v3) then some (false,()) else Option.bind (zhE (ix j4 v23 v25,())) fun q0=>Option.bind (qm (q0.1,some zdV,())) fun q1=>bif q1.1 then some (false,()) else k0 (wU (v3 - (ix j4 v23 v25).2.2.2.2.2.1),v23,v24,wI (v25 + 1))) else some (true,())
abbrev zg0 (K:Nat):zbc→Option (Bool × Unit):=zl zdY K
theorem zwa (K:Nat):∀ n,evV Es2 K Tryz.f218 0 (ch [.bool]) [1,1,1,0,1,0] [] zv9 n = zl zdY n:=zt fun n0 (v3,v23,v24,v25)=>by kernel_rfl
def zfy (L0:zbc→Option (Bool × Unit)):(za × Unit)→Option (Bool × Unit):=fun (x0,()) =>
 bif ((List.length x0.2.2.2.2.1):Int) != ((List.length x0.1):Int) then some (false,()) else bif decide (0 < ((List.length x0.2.2.2.2.1):Int)) then bif decide ((ix j4 x0.2.2.2.2.1 0).1 < 1) then some (false,()) else L0 (4611686018427387904,x0.2.2.2.2.1,((List.length x0.2.2.2.2.1):Int),0) else none
def vG:(za × Unit)→Option (Bool × Unit):=zfy (zg0 K0)
abbrev zph:Fun:=⟨218,(ch [zm]),(ch [.bool]),0,vG⟩
theorem zzH:Sq zph:=ml2 (d:=false) (S:=fun K=>zfy (zg0 K)) Tryz.func218 (by kernel_rfl) (fun K=>tr1 (T:=zfy) (zwa K K) fun (x0,())=>by kernel_rfl) rfl
def zfZ:((List zi) × ((Option ((zi × Unit)→Option (Bool × Unit))) × Unit))→Option (Bool × Unit):=fun (x0,x1,()) =>
 Option.bind (jO (x0,some fun z=>zbp (z.1,some x1,()),())) fun q0=>bif q0.1 then some (false,()) else some (true,())
abbrev zkM:Fun:=⟨138,(ch [(.sl zn),(.fn (ch [zn]) (ch [.bool]))]),(ch [.bool]),0,zfZ⟩
theorem zur:Sq zkM:=ms2 (d:=false) (K:=0) Tryz.func138 (by kernel_rfl) (funext fun (x0,x1,())=>by kernel_rfl)
abbrev zdc:Type:=(List qe) × (List qe) × Int × Int
abbrev zzI:zdc→St:=fun (v0,v5,v6,v7)=>St.mk [(0,.dat (.sl z3) v0),(5,.dat (.sl z3) v5),(6,.dat tI v6),(7,.dat tI v7)] []
def zdd (k0:zdc→Option (Bool × Unit)):zdc→Option (Bool × Unit):=fun (v0,v5,v6,v7) =>
 bif decide (v7 < v6) then inR v7 ((List.length v5):Int) (Option.bind (zh5 (ix vN v5 v7,())) fun q0=>bif q0.1 then some (false,()) else bif (ix vN v5 v7).1 then Option.bind (zh6 (v0,(ix vN v5 v7).2.1,(ix vN v5 v7).2.2.2.1,())) fun q1=>bif q1.1 != v7 then some (false,()) else k0 (v0,v5,v6,wI (v7 + 1)) else k0 (v0,v5,v6,wI (v7 + 1))) else some (true,())
abbrev zpi (K:Nat):zdc→Option (Bool × Unit):=zl zdd K
theorem zzJ (K:Nat):∀ n,evV Es2 K Tryz.f141 0 (ch [.bool]) [1,0,1,0] [] zzI n = zl zdd n:=zt fun n0 (v0,v5,v6,v7)=>by kernel_rfl
def zl3 (L0:zdc→Option (Bool × Unit)):((List qe) × Unit)→Option (Bool × Unit):=fun (x0,()) =>
 L0 (x0,x0,((List.length x0):Int),0)
def zl4:((List qe) × Unit)→Option (Bool × Unit):=zl3 (zpi K0)
abbrev zs9:Fun:=⟨141,(ch [(.sl z3)]),(ch [.bool]),0,zl4⟩
theorem zDH:Sq zs9:=ml2 (d:=false) (S:=fun K=>zl3 (zpi K)) Tryz.func141 (by kernel_rfl) (fun K=>tr1 (T:=zl3) (zzJ K K) fun (x0,())=>by kernel_rfl) rfl
def zjt:(zv × Unit)→Option (Bool × Unit):=fun (x0,()) =>
 Option.bind (zfu (x0.2.1,())) fun q0=>bif q0.1 then Option.bind (zfu (x0.2.2.1,())) fun q1=>bif q1.1 then bif x0.2.1 != x0.2.2.1 then Option.bind (zgl (x0.2.2.2.1,())) fun q2=>bif q2.1 then Option.bind (zgl (x0.2.2.2.2.1,())) fun q3=>bif q3.1 then Option.bind (ze1 (x0.2.2.2.1,())) fun q4=>bif q4.1 then Option.bind (ze1 (x0.2.2.2.2.1,())) fun q5=>bif q5.1 then some (false,()) else some (true,()) else some (true,()) else some (false,()) else some (false,()) else some (false,()) else some (false,()) else some (false,())
abbrev zuW:Fun:=⟨247,(ch [zA]),(ch [.bool]),0,zjt⟩
theorem zFw:Sq zuW:=ms2 (d:=false) (K:=0) Tryz.func247 (by kernel_rfl) (funext fun (x0,())=>by kernel_rfl)
def zgo:(Int × (Int × (Int × Unit)))→Option (Int × (Int × Unit)):=fun (x0,x1,x2,()) =>
 bif x0 != 1 then bif x0 != 2 then some (0,1,()) else bif x1 == 0 then some (0,1,()) else bif x2 == 0 then some (0,1,()) else Option.bind (ze9 (x1,x2,())) fun q0=>bif q0.2.1 != 0 then some (0,q0.2.1,()) else bif x0 == 2 then some (x1,0,()) else some (q0.1,0,()) else bif x1 == 0 then some (0,1,()) else bif x2 == 0 then some (0,1,()) else Option.bind (ze9 (x1,x2,())) fun q1=>bif q1.2.1 != 0 then some (0,q1.2.1,()) else bif x0 == 2 then some (x1,0,()) else some (q1.1,0,())
abbrev zuX:Fun:=⟨337,(ch [tI,tU,tU]),(ch [tU,tI]),0,zgo⟩
theorem zFx:Sq zuX:=ms2 (d:=false) (K:=0) Tryz.func337 (by kernel_rfl) (funext fun (x0,x1,x2,())=>by kernel_rfl)
def zgD:(zG × (zG × Unit))→Option (Int × Unit):=fun (x0,x1,()) =>
 Option.bind (vU (x0.1,x1.1,())) fun q0=>Option.bind (zao (x0.2.1,x1.2.1,())) fun q1=>Option.bind (zcZ (zf (zf (List.replicate 2 (0:Int)) 0 q0.1) 1 q1.1,())) fun q2=>some (q2.1,())
abbrev zrb:Fun:=⟨252,(ch [zx,zx]),(ch [tI]),0,zgD⟩
theorem zBn:Sq zrb:=ms2 (d:=false) (K:=0) Tryz.func252 (by kernel_rfl) (funext fun (x0,x1,())=>by kernel_rfl)
def zf0:((List zq) × ((Option ((zq × Unit)→Option (Bool × Unit))) × Unit))→Option (Bool × Unit):=fun (x0,x1,()) =>
 Option.bind (jP (x0,some fun z=>zbs (z.1,some x1,()),())) fun q0=>bif q0.1 then some (false,()) else some (true,())
abbrev zkN:Fun:=⟨148,(ch [(.sl zo),(.fn (ch [zo]) (ch [.bool]))]),(ch [.bool]),0,zf0⟩
theorem zus:Sq zkN:=ms2 (d:=false) (K:=0) Tryz.func148 (by kernel_rfl) (funext fun (x0,x1,())=>by kernel_rfl)
def zcP:((List zG) × ((Option ((zG × Unit)→Option (Bool × Unit))) × Unit))→Option (Bool × Unit):=fun (x0,x1,()) =>
 Option.bind (jQ (x0,some fun z=>zbt (z.1,some x1,()),())) fun q0=>bif q0.1 then some (false,()) else some (true,())
abbrev zkO:Fun:=⟨152,(ch [(.sl zx),(.fn (ch [zx]) (ch [.bool]))]),(ch [.bool]),0,zcP⟩
theorem zut:Sq zkO:=ms2 (d:=false) (K:=0) Tryz.func152 (by kernel_rfl) (funext fun (x0,x1,())=>by kernel_rfl)
def y7:((List Int) × ((Option ((Int × Unit)→Option (Bool × Unit))) × Unit))→Option (Bool × Unit):=fun (x0,x1,()) =>
 Option.bind (qm (x0,some fun z=>zcN (z.1,some x1,()),())) fun q0=>bif q0.1 then some (false,()) else some (true,())
abbrev znq:Fun:=⟨154,(ch [(.sl tI),(.fn (ch [tI]) (ch [.bool]))]),(ch [.bool]),0,y7⟩
theorem zxX:Sq znq:=ms2 (d:=false) (K:=0) Tryz.func154 (by kernel_rfl) (funext fun (x0,x1,())=>by kernel_rfl)
def vW:(zN × ((Option qJ) × ((Option Int) × Unit)))→Option (Bool × Unit):=fun (x0,x1,x2,()) =>
 Option.bind x1 fun q0=>Option.bind (zd6 (q0.2.1,x0,())) fun q1=>bif q1.1 then Option.bind x1 fun q2=>Option.bind x2 fun q3=>Option.bind (zgm (q2,x0.1,q3,())) fun q4=>bif q4.1 then some (true,()) else some (false,()) else some (false,())
abbrev znr:Fun:=⟨258,(ch [zR,(.ptr qf),(.ptr tI)]),(ch [.bool]),0,vW⟩
theorem zxY:Sq znr:=ms2 (d:=false) (K:=0) Tryz.func258 (by kernel_rfl) (funext fun (x0,x1,x2,())=>by kernel_rfl)
def zg1:((List qe) × ((Option ((qe × Unit)→Option (Bool × Unit))) × Unit))→Option (Bool × Unit):=fun (x0,x1,()) =>
 Option.bind (vg (x0,some fun z=>zbS (z.1,some x1,()),())) fun q0=>bif q0.1 then some (false,()) else some (true,())
abbrev zl5:Fun:=⟨157,(ch [(.sl z3),(.fn (ch [z3]) (ch [.bool]))]),(ch [.bool]),0,zg1⟩
theorem zwb:Sq zl5:=ms2 (d:=false) (K:=0) Tryz.func157 (by kernel_rfl) (funext fun (x0,x1,())=>by kernel_rfl)
def yC:((List qc) × ((Option ((qc × Unit)→Option (Bool × Unit))) × Unit))→Option (Bool × Unit):=fun (x0,x1,()) =>
 Option.bind (ji (x0,some fun z=>zbU (z.1,some x1,()),())) fun q0=>bif q0.1 then some (false,()) else some (true,())
abbrev zl6:Fun:=⟨159,(ch [(.sl zX),(.fn (ch [zX]) (ch [.bool]))]),(ch [.bool]),0,yC⟩
theorem zwc:Sq zl6:=ms2 (d:=false) (K:=0) Tryz.func159 (by kernel_rfl) (funext fun (x0,x1,())=>by kernel_rfl)
def zh9:((List zN) × ((Option ((zN × Unit)→Option (Bool × Unit))) × Unit))→Option (Bool × Unit):=fun (x0,x1,()) =>
 Option.bind (vE (x0,some fun z=>zcO (z.1,some x1,()),())) fun q0=>bif q0.1 then some (false,()) else some (true,())
abbrev zns:Fun:=⟨161,(ch [(.sl zR),(.fn (ch [zR]) (ch [.bool]))]),(ch [.bool]),0,zh9⟩
theorem zxZ:Sq zns:=ms2 (d:=false) (K:=0) Tryz.func161 (by kernel_rfl) (funext fun (x0,x1,())=>by kernel_rfl)
def vn:(zw × ((Option qJ) × ((Option Int) × Unit)))→Option (Bool × Unit):=fun (x0,x1,x2,()) =>
 bif x0.1 then Option.bind x1 fun q0=>Option.bind x2 fun q1=>Option.bind (zgm (q0,x0.2.1,q1,())) fun q2=>bif q2.1 then Option.bind x1 fun q3=>Option.bind (qK (q3,x0.2.2.1,())) fun q4=>bif q4.1 then Option.bind x1 fun q5=>Option.bind (qK (q5,x0.2.2.2.1,())) fun q6=>bif q6.1 then some (true,()) else some (false,()) else some (false,()) else some (false,()) else some (true,())
abbrev zl7:Fun:=⟨164,(ch [zy,(.ptr qf),(.ptr tI)]),(ch [.bool]),0,vn⟩
theorem zwd:Sq zl7:=ms2 (d:=false) (K:=0) Tryz.func164 (by kernel_rfl) (funext fun (x0,x1,x2,())=>by kernel_rfl)
def yD:((List zw) × ((Option ((zw × Unit)→Option (Bool × Unit))) × Unit))→Option (Bool × Unit):=fun (x0,x1,()) =>
 Option.bind (jk (x0,some fun z=>zbW (z.1,some x1,()),())) fun q0=>bif q0.1 then some (false,()) else some (true,())
abbrev zl8:Fun:=⟨163,(ch [(.sl zy),(.fn (ch [zy]) (ch [.bool]))]),(ch [.bool]),0,yD⟩
theorem zwe:Sq zl8:=ms2 (d:=false) (K:=0) Tryz.func163 (by kernel_rfl) (funext fun (x0,x1,())=>by kernel_rfl)
def qF:((List zv) × ((Option ((zv × Unit)→Option (Bool × Unit))) × Unit))→Option (Bool × Unit):=fun (x0,x1,()) =>
 Option.bind (qX (x0,some fun z=>zbu (z.1,some x1,()),())) fun q0=>bif q0.1 then some (false,()) else some (true,())
abbrev zkP:Fun:=⟨166,(ch [(.sl zA),(.fn (ch [zA]) (ch [.bool]))]),(ch [.bool]),0,qF⟩
theorem zuu:Sq zkP:=ms2 (d:=false) (K:=0) Tryz.func166 (by kernel_rfl) (funext fun (x0,x1,())=>by kernel_rfl)
abbrev yq:Type:=(Option zbR) × Int × Int × List Int
abbrev zrX:yq→St:=fun (v0,v12,v13,o0)=>St.mk [(0,.dat (.ptr vO) v0),(3,.ow 0),(12,.dat tI v12),(13,.dat tI v13)] [.row tI o0 false]
def yr (k0:yq→Option ((List Int) × Unit)):yq→Option ((List Int) × Unit):=fun (v0,v12,v13,o0) =>
 bif decide (v13 < v12) then Option.bind (vV (v0,v13,())) fun q2=>bif q2.1 then bif decide (List.length o0 + List.length (zf (List.replicate 1 (0:Int)) 0 v13) ≤ lim) then k0 (v0,v12,wI (v13 + 1),o0 ++ zf (List.replicate 1 (0:Int)) 0 v13) else none else k0 (v0,v12,wI (v13 + 1),o0) else some (o0,())
abbrev ziO (K:Nat):yq→Option ((List Int) × Unit):=zl yr K
theorem zrY (K:Nat):∀ n,evV Es2 K Tryz.f171 0 (ch [(.sl tI)]) [1,1,1,0,1,0] [] zrX n = zl yr n:=zt fun n0 (v0,v12,v13,o0)=>by kernel_rfl
def zf1 (L0:yq→Option ((List Int) × Unit)):((Option zbR) × Unit)→Option ((List Int) × Unit):=fun (x0,()) =>
 Option.bind (zdP (x0,())) fun q0=>bif q0.1 then Option.bind x0 fun q1=>L0 (x0,((List.length q1.1):Int),0,[]) else some ([],())
def zcQ:((Option zbR) × Unit)→Option ((List Int) × Unit):=zf1 (ziO K0)
abbrev zkQ:Fun:=⟨171,(ch [(.ptr vO)]),(ch [(.sl tI)]),0,zcQ⟩
theorem zuv:Sq zkQ:=ml2 (d:=false) (S:=fun K=>zf1 (ziO K)) Tryz.func171 (by kernel_rfl) (fun K=>tr1 (T:=zf1) (zrY K K) fun (x0,())=>by kernel_rfl) rfl
def zk1:((List zq) × Unit)→Option ((Option zdF) × Unit):=fun (x0,()) =>
 Option.bind (zgZ (x0,some zhM,())) fun q0=>some (q0.1,())
abbrev zx0:Fun:=⟨365,(ch [(.sl zo)]),(ch [(.ptr yK)]),0,zk1⟩
theorem zHo:Sq zx0:=ms2 (d:=false) (K:=0) Tryz.func365 (by kernel_rfl) (funext fun (x0,())=>by kernel_rfl)
end
end Go.Proofs.YtkcakhbkoeimdaaGreatDoor
end
section
namespace Go.Proofs.YtkcakhbkoeimdaaGreatDoor
open Go.Ev
noncomputable section
abbrev yt:Type:=(Option zdF) × Int × Int × List Int
abbrev zrZ:yt→St:=fun (v0,v12,v13,o0)=>St.mk [(0,.dat (.ptr yK) v0),(3,.ow 0),(12,.dat tI v12),(13,.dat tI v13)] [.row tI o0 false]
def yu (k0:yt→Option ((List Int) × Unit)):yt→Option ((List Int) × Unit):=fun (v0,v12,v13,o0) =>
 bif decide (v13 < v12) then Option.bind (zeE (v0,v13,())) fun q2=>bif q2.1 then bif decide (List.length o0 + List.length (zf (List.replicate 1 (0:Int)) 0 v13) ≤ lim) then k0 (v0,v12,wI (v13 + 1),o0 ++ zf (List.replicate 1 (0:Int)) 0 v13) else none else k0 (v0,v12,wI (v13 + 1),o0) else some (o0,())
abbrev ziP (K:Nat):yt→Option ((List Int) × Unit):=zl yu K
theorem zr0 (K:Nat):∀ n,evV Es2 K Tryz.f366 0 (ch [(.sl tI)]) [1,1,1,0,1,0] [] zrZ n = zl yu n:=zt fun n0 (v0,v12,v13,o0)=>by kernel_rfl
def zf2 (L0:yt→Option ((List Int) × Unit)):((Option zdF) × Unit)→Option ((List Int) × Unit):=fun (x0,()) =>
 Option.bind (zdQ (x0,())) fun q0=>bif q0.1 then Option.bind x0 fun q1=>L0 (x0,((List.length q1.1):Int),0,[]) else some ([],())
def zf3:((Option zdF) × Unit)→Option ((List Int) × Unit):=zf2 (ziP K0)
abbrev zkR:Fun:=⟨366,(ch [(.ptr yK)]),(ch [(.sl tI)]),0,zf3⟩
theorem zuw:Sq zkR:=ml2 (d:=false) (S:=fun K=>zf2 (ziP K)) Tryz.func366 (by kernel_rfl) (fun K=>tr1 (T:=zf2) (zr0 K K) fun (x0,())=>by kernel_rfl) rfl
def zju:((List zv) × Unit)→Option ((Option zbR) × Unit):=fun (x0,()) =>
 Option.bind (yB (x0,some zgy,())) fun q0=>some (q0.1,())
abbrev zuY:Fun:=⟨348,(ch [(.sl zA)]),(ch [(.ptr vO)]),0,zju⟩
theorem zFy:Sq zuY:=ms2 (d:=false) (K:=0) Tryz.func348 (by kernel_rfl) (funext fun (x0,())=>by kernel_rfl)
abbrev zbd:Type:=Int × (Option ((zi × Unit)→Option ((List Int) × Unit))) × (List zi) × Int × Int × List Int
abbrev zwf:zbd→St:=fun (v1,v2,v12,v13,v14,o0)=>St.mk [(1,.dat tI v1),(2,.dat (.fn (.pair zn .unit) (.pair (.arr 4 tU) .unit)) v2),(8,.ow 0),(12,.dat (.sl zn) v12),(13,.dat tI v13),(14,.dat tI v14)] [.row tU o0 false]
def zbe (k0:zbd→Option (Int × (Int × Unit))):zbd→Option (Int × (Int × Unit)):=fun (v1,v2,v12,v13,v14,o0) =>
 bif decide (v14 < v13) then inR v14 ((List.length v12):Int) (Option.bind v2 fun q0=>Option.bind (q0 (ix zg v12 v14,())) fun q1=>inR v1 (↑4:Int) (bif decide (List.length o0 + List.length (zf (List.replicate 1 (0:Int)) 0 (ix (0:Int) q1.1 v1)) ≤ lim) then k0 (v1,v2,v12,v13,wI (v14 + 1),o0 ++ zf (List.replicate 1 (0:Int)) 0 (ix (0:Int) q1.1 v1)) else none)) else Option.bind (zfx (o0,())) fun q2=>some (q2.1,q2.2.1,())
abbrev zl9 (K:Nat):zbd→Option (Int × (Int × Unit)):=zl zbe K
theorem zwg (K:Nat):∀ n,evV Es2 K Tryz.f271 0 (ch [tU,tI]) [1,1,0,1,0] [] zwf n = zl zbe n:=zt fun n0 (v1,v2,v12,v13,v14,o0)=>by kernel_rfl
def zja (L0:zbd→Option (Int × (Int × Unit))):(zd × (Int × ((Option ((zi × Unit)→Option ((List Int) × Unit))) × Unit)))→Option (Int × (Int × Unit)):=fun (x0,x1,x2,()) =>
 L0 (x1,x2,x0.2.1,((List.length x0.2.1):Int),0,[])
def zfz:(zd × (Int × ((Option ((zi × Unit)→Option ((List Int) × Unit))) × Unit)))→Option (Int × Int × Unit):=zja (zl9 K0)
abbrev zpj:Fun:=⟨271,(ch [zz,tI,(.fn (ch [zn]) (ch [(.arr 4 tU)]))]),(ch [tU,tI]),0,zfz⟩
theorem zzK:Sq zpj:=ml2 (d:=false) (S:=fun K=>zja (zl9 K)) Tryz.func271 (by kernel_rfl) (fun K=>tr1 (T:=zja) (zwg K K) fun (x0,x1,x2,())=>by kernel_rfl) rfl
def zdZ:((List zw) × Unit)→Option ((Option yd) × Unit):=fun (x0,()) =>
 Option.bind (zh8 (x0,some qU,())) fun q0=>some (q0.1,())
abbrev zx1:Fun:=⟨95,(ch [(.sl zy)]),(ch [(.ptr jT)]),0,zdZ⟩
theorem zHp:Sq zx1:=ms2 (d:=false) (K:=0) Tryz.func95 (by kernel_rfl) (funext fun (x0,())=>by kernel_rfl)
def zfA:((Option yd) × (zw × Unit))→Option ((List zw) × (Int × (Int × Unit))):=fun (x0,x1,()) =>
 Option.bind (zdX (x0,())) fun q0=>bif q0.2.1 != 0 then some ([],0,q0.2.1,()) else Option.bind (zdb (x0,q0.1,x1,())) fun q1=>some (q1.1,q0.1,q1.2.1,())
abbrev zpk:Fun:=⟨96,(ch [(.ptr jT),zy]),(ch [(.sl zy),tI,tI]),0,zfA⟩
theorem zzL:Sq zpk:=ms2 (d:=false) (K:=0) Tryz.func96 (by kernel_rfl) (funext fun (x0,x1,())=>by kernel_rfl)
abbrev yW:Type:=(Option yd) × Int × Int × List Int
abbrev zta:yW→St:=fun (v0,v12,v13,o0)=>St.mk [(0,.dat (.ptr jT) v0),(3,.ow 0),(12,.dat tI v12),(13,.dat tI v13)] [.row tI o0 false]
def zj4 (k0:yW→Option ((List Int) × Unit)):yW→Option ((List Int) × Unit):=fun (v0,v12,v13,o0) =>
 bif decide (v13 < v12) then Option.bind (zda (v0,v13,())) fun q2=>bif q2.1 then bif decide (List.length o0 + List.length (zf (List.replicate 1 (0:Int)) 0 v13) ≤ lim) then k0 (v0,v12,wI (v13 + 1),o0 ++ zf (List.replicate 1 (0:Int)) 0 v13) else none else k0 (v0,v12,wI (v13 + 1),o0) else some (o0,())
abbrev zj5 (K:Nat):yW→Option ((List Int) × Unit):=zl zj4 K
theorem ztb (K:Nat):∀ n,evV Es2 K Tryz.f105 1 (ch [(.sl tI)]) [1,1,1,0,1,0] [] zta n = zl zj4 n:=zt fun n0 (v0,v12,v13,o0)=>by kernel_rfl
def zg2 (L0:yW→Option ((List Int) × Unit)):((Option yd) × Unit)→Option ((List Int) × Unit):=fun (x0,()) =>
 Option.bind (y5 (x0,())) fun q0=>bif q0.1 then Option.bind x0 fun q1=>L0 (x0,((List.length q1.1):Int),0,[]) else some ([],())
def zma:((Option yd) × Unit)→Option ((List Int) × Unit):=zg2 (zj5 K0)
abbrev zmb:Fun:=⟨105,(ch [(.ptr jT)]),(ch [(.sl tI)]),1,zma⟩
theorem zwh:Sq zmb:=ml2 (d:=false) (S:=fun K=>zg2 (zj5 K)) Tryz.func105 (by kernel_rfl) (fun K=>tr1 (T:=zg2) (ztb K K) fun (x0,())=>by kernel_rfl) rfl
def zia:(zd × (zd × Unit))→Option (Bool × Unit):=fun (x0,x1,()) =>
 bif x0.1 == x1.1 then Option.bind (zdT (x0.2.1,x1.2.1,some yb,())) fun q0=>bif q0.1 then Option.bind (zey (x0.2.2.1,x1.2.2.1,some zaP,())) fun q1=>bif q1.1 then Option.bind (zgW (x0.2.2.2.1,x1.2.2.2.1,())) fun q2=>bif q2.1 then Option.bind (zgY (x0.2.2.2.2.1,x1.2.2.2.2.1,())) fun q3=>bif q3.1 then Option.bind (zaP (x0.2.2.2.2.2.1,x1.2.2.2.2.2.1,())) fun q4=>bif q4.1 then some (true,()) else some (false,()) else some (false,()) else some (false,()) else some (false,()) else some (false,()) else some (false,())
abbrev ztc:Fun:=⟨90,(ch [zz,zz]),(ch [.bool]),0,zia⟩
theorem zDI:Sq ztc:=ms2 (d:=false) (K:=0) Tryz.func90 (by kernel_rfl) (funext fun (x0,x1,())=>by kernel_rfl)
abbrev L3:List Fun:=zuV :: zra :: zxW :: zpg :: zph :: zkM :: zs9 :: zuW :: zuX :: zrb :: zkN :: zkO :: znq :: znr :: zl5 :: zl6 :: zns :: zl7 :: zl8 :: zkP :: zkQ :: zx0 :: zkR :: zuY :: zpj :: zx1 :: zpk :: zmb :: ztc :: L2
theorem h3:Sds Tryz.prog E0 L3:=⟨zFv,zBm,zHn,zzG,zzH,zur,zDH,zFw,zFx,zBn,zus,zut,zxX,zxY,zwb,zwc,zxZ,zwd,zwe,zuu,zuv,zHo,zuw,zFy,zzK,zHp,zzL,zwh,zDI,h2⟩
theorem ms3 {d:Bool} {F:Fun} {f:Go.Func} {K:Nat} (hf:Tryz.prog.funcs[F.id]? = some f) (ho:jz f = true) (h:evF (En E0 d L3) K f F.md F.a F.r = F.spec):Sd Tryz.prog E0 F:=mkS h3 hf ho h
theorem ml3 {d:Bool} {F:Fun} {f:Go.Func} {S:Nat→F.a.I→Option F.r.I} (hf:Tryz.prog.funcs[F.id]? = some f) (ho:jz f = true) (h:∀ K,evF (En E0 d L3) K f F.md F.a F.r = S K) (e:S K0 = F.spec):Sd Tryz.prog E0 F:=mkS h3 hf ho ((h K0).trans e)
abbrev Es3:Env:=En E0 false L3
abbrev zbf:Type:=Int × za
abbrev zwi:zbf→St:=fun (v4,o0)=>St.mk [(1,.bp 0 []),(4,.dat tI v4)] [.bx (.dat zm o0) false]
def zd0 (k0:zbf→Option (Bool × Unit)):zbf→Option (Bool × Unit):=fun (v4,o0) =>
 bif decide (v4 < ((List.length o0.1):Int)) then inR (wI (v4 - 1)) ((List.length o0.1):Int) (inR v4 ((List.length o0.1):Int) (Option.bind (zjs (List.getD o0.1 (Int.toNat (wI (v4 - 1))) (ze zp),ix zC o0.1 v4,())) fun q2=>bif decide (q2.1 ≥ 0) then some (false,()) else k0 (wI (v4 + 1),o0))) else some (true,())
abbrev zg3 (K:Nat):zbf→Option (Bool × Unit):=zl zd0 K
theorem zwj (K:Nat):∀ n,evV Es3 K Tryz.f214 0 (ch [.bool]) [1,1,1,0,1,0] [] zwi n = zl zd0 n:=zt fun n0 (v4,o0)=>by kernel_rfl
def zfB (L0:zbf→Option (Bool × Unit)):(za × Unit)→Option (Bool × Unit):=fun (x0,()) =>
 Option.bind (qg (((List.length x0.1):Int),1,8,())) fun q0=>bif q0.1 then bif decide (0 < ((List.length x0.1):Int)) then bif !eqI zp (ix zC x0.1 0) (ze zp) then some (false,()) else Option.bind (yh (x0.1,some zdU,())) fun q1=>bif q1.1 then some (false,()) else L0 (1,x0) else none else some (false,())
def vH:(za × Unit)→Option (Bool × Unit):=zfB (zg3 K0)
abbrev zpl:Fun:=⟨214,(ch [zm]),(ch [.bool]),0,vH⟩
theorem zzM:Sq zpl:=ml3 (d:=false) (S:=fun K=>zfB (zg3 K)) Tryz.func214 (by kernel_rfl) (fun K=>tr1 (T:=zfB) (zwj K K) fun (x0,())=>by kernel_rfl) rfl
def zbg:(ByteArray × Unit)→Option (Bool × Unit):=fun (x0,()) =>
 bif decide ((↑(ByteArray.size x0):Int) < 1) then some (false,()) else bif decide ((↑(ByteArray.size x0):Int) > 12) then some (false,()) else bif decide (0 < (↑(ByteArray.size x0):Int)) then Option.bind (zeX ((↑(UInt8.toNat (List.getD (Array.toList (ByteArray.data x0)) (Int.toNat 0) 0)):Int),())) fun q0=>bif q0.1 then Option.bind (zk0 (x0,some zfv,())) fun q1=>bif q1.1 then some (true,()) else some (false,()) else some (false,()) else none
abbrev ztd:Fun:=⟨240,(ch [.str]),(ch [.bool]),0,zbg⟩
theorem zDJ:Sq ztd:=ms3 (d:=false) (K:=0) Tryz.func240 (by kernel_rfl) (funext fun (x0,())=>by kernel_rfl)
def zcE:(ByteArray × Unit)→Option (Bool × Unit):=fun (x0,()) =>
 bif decide ((↑(ByteArray.size x0):Int) ≥ 1) then bif decide ((↑(ByteArray.size x0):Int) ≤ 40) then Option.bind (zk0 (x0,some zhH,())) fun q0=>bif q0.1 then Option.bind (zfw (x0,ByteArray.mk #[32],())) fun q1=>bif ByteArray.toList q1.1 == ByteArray.toList x0 then some (true,()) else some (false,()) else some (false,()) else some (false,()) else some (false,())
abbrev zuZ:Fun:=⟨67,(ch [.str]),(ch [.bool]),0,zcE⟩
theorem zFz:Sq zuZ:=ms3 (d:=false) (K:=0) Tryz.func67 (by kernel_rfl) (funext fun (x0,())=>by kernel_rfl)
def zeF:(zv × Unit)→Option (Bool × Unit):=fun (x0,()) =>
 bif x0.1 then Option.bind (zjt (x0,())) fun q0=>bif q0.1 then some (false,()) else some (true,()) else bif !eqI zA x0 (ze zA) then some (true,()) else some (false,())
abbrev znt:Fun:=⟨246,(ch [zA]),(ch [.bool]),0,zeF⟩
theorem zx2:Sq znt:=ms3 (d:=false) (K:=0) Tryz.func246 (by kernel_rfl) (funext fun (x0,())=>by kernel_rfl)
def zk2:(zq × Unit)→Option (Bool × Unit):=fun (x0,()) =>
 Option.bind (zgo (x0.2.2.2.1,x0.2.2.2.2.2.2.2.1,x0.2.2.2.2.2.2.1,())) fun q0=>bif q0.2.1 == 0 then bif q0.1 == x0.2.2.2.2.2.2.2.2.1 then Option.bind (zjS (x0.2.1,())) fun q1=>bif q1.1 then Option.bind (zjS (x0.2.2.1,())) fun q2=>bif q2.1 then Option.bind (je (x0.2.2.2.2.1,())) fun q3=>bif q3.1 then Option.bind (je (x0.2.2.2.2.2.1,())) fun q4=>bif q4.1 then bif x0.2.2.2.2.1 != x0.2.2.2.2.2.1 then bif decide (x0.2.2.2.2.2.2.2.2.2.1 ≥ 0) then some (true,()) else some (false,()) else some (false,()) else some (false,()) else some (false,()) else some (false,()) else some (false,()) else some (false,()) else some (false,())
abbrev zx3:Fun:=⟨250,(ch [zo]),(ch [.bool]),0,zk2⟩
theorem zHq:Sq zx3:=ms3 (d:=false) (K:=0) Tryz.func250 (by kernel_rfl) (funext fun (x0,())=>by kernel_rfl)
def zjv:(zG × Unit)→Option (Bool × Unit):=fun (x0,()) =>
 bif decide (x0.1 > 4611686018427387904) then some (false,()) else Option.bind (zdL (x0.2.1,())) fun q0=>bif q0.1 then Option.bind (zdL (x0.2.2.1,())) fun q1=>bif q1.1 then Option.bind (zdL (x0.2.2.2.1,())) fun q2=>bif q2.1 then Option.bind (zdL (x0.2.2.2.2.2.2.2.2.2.1,())) fun q3=>bif q3.1 then bif x0.2.2.2.2.1 == 3 then bif eqI zx x0 (x0.1,x0.2.1,x0.2.2.1,x0.2.2.2.1,x0.2.2.2.2.1,(ze zx).2.2.2.2.2.1,(ze zx).2.2.2.2.2.2.1,(ze zx).2.2.2.2.2.2.2.1,(ze zx).2.2.2.2.2.2.2.2.1,x0.2.2.2.2.2.2.2.2.2.1,(ze zx).2.2.2.2.2.2.2.2.2.2) then some (true,()) else some (false,()) else Option.bind (zgo (x0.2.2.2.2.1,x0.2.2.2.2.2.2.2.1,x0.2.2.2.2.2.2.2.2.1,())) fun q4=>bif q4.2.1 == 0 then bif x0.2.2.2.2.2.2.2.2.2.1 == 0 then bif x0.2.2.2.2.2.1 != x0.2.2.2.2.2.2.1 then Option.bind (je (x0.2.2.2.2.2.1,())) fun q5=>bif q5.1 then Option.bind (je (x0.2.2.2.2.2.2.1,())) fun q6=>bif q6.1 then some (true,()) else some (false,()) else some (false,()) else some (false,()) else some (false,()) else some (false,()) else some (false,()) else some (false,()) else some (false,()) else some (false,())
abbrev zu0:Fun:=⟨251,(ch [zx]),(ch [.bool]),0,zjv⟩
theorem zFA:Sq zu0:=ms3 (d:=false) (K:=0) Tryz.func251 (by kernel_rfl) (funext fun (x0,())=>by kernel_rfl)
def zkl:(qJ × (Int × Unit))→Option ((Option ((zN × Unit)→Option (Bool × Unit))) × Unit):=fun (x0,x1,()) =>
 some (some fun z=>vW (z.1,some x0,some x1,()),())
abbrev zrc:Fun:=⟨156,(ch [qf,tI]),(ch [(.fn (ch [zR]) (ch [.bool]))]),0,zkl⟩
theorem zBo:Sq zrc:=ms3 (d:=false) (K:=0) Tryz.func156 (by kernel_rfl) (funext fun (x0,x1,())=>by kernel_rfl)
abbrev vo:Type:=(List zi) × Int × Int × qJ
abbrev zwk:vo→St:=fun (v10,v11,v12,o0)=>St.mk [(1,.bp 0 []),(10,.dat (.sl zn) v10),(11,.dat tI v11),(12,.dat tI v12)] [.bx (.dat qf o0) true]
abbrev zd1:Type:=(List zi) × Int × Int × qJ
abbrev zwl:zd1→St:=fun (v10,v11,v12,o0)=>St.mk [(1,.bp 0 []),(10,.dat (.sl zn) v10),(11,.dat tI v11),(12,.dat tI v12)] [.bx (.dat qf o0) false]
def qO (k1:vo→Option (Bool × Unit)):vo→Option (Bool × Unit):=fun (v10,v11,v12,o0) =>
 bif decide (v12 < v11) then inR v12 ((List.length v10):Int) (Option.bind (yC ((ix zg v10 v12).2.2.1,some fun z=>za9 (z.1,some o0,()),())) fun q3=>bif q3.1 then Option.bind (yD ((ix zg v10 v12).2.2.2.1,some fun z=>vn (z.1,some o0,some v12,()),())) fun q4=>bif q4.1 then Option.bind (qF ((ix zg v10 v12).2.2.2.2.1,some fun z=>qE (z.1,some o0,()),())) fun q5=>bif q5.1 then k1 (v10,v11,wI (v12 + 1),o0) else some (false,()) else Option.bind (qF ((ix zg v10 v12).2.2.2.2.1,some fun z=>qE (z.1,some o0,()),())) fun q6=>bif q6.1 then some (false,()) else some (false,()) else Option.bind (yD ((ix zg v10 v12).2.2.2.1,some fun z=>vn (z.1,some o0,some v12,()),())) fun q7=>bif q7.1 then Option.bind (qF ((ix zg v10 v12).2.2.2.2.1,some fun z=>qE (z.1,some o0,()),())) fun q8=>bif q8.1 then some (false,()) else some (false,()) else Option.bind (qF ((ix zg v10 v12).2.2.2.2.1,some fun z=>qE (z.1,some o0,()),())) fun q9=>bif q9.1 then some (false,()) else some (false,())) else some (true,())
theorem zwm (K:Nat):∀ n,evV Es3 K Tryz.f86 0 (ch [.bool]) [1,0,1,0] [] zwk n = zl qO n:=zt fun n1 (v10,v11,v12,o0)=>by kernel_rfl
def zmc (k1:vo→Option (Bool × Unit)):zd1→Option (Bool × Unit):=fun (v10,v11,v12,o0) =>
 bif decide (v12 < v11) then inR v12 ((List.length v10):Int) (Option.bind (yC ((ix zg v10 v12).2.2.1,some fun z=>za9 (z.1,some o0,()),())) fun q0=>bif q0.1 then Option.bind (yD ((ix zg v10 v12).2.2.2.1,some fun z=>vn (z.1,some o0,some v12,()),())) fun q1=>bif q1.1 then Option.bind (qF ((ix zg v10 v12).2.2.2.2.1,some fun z=>qE (z.1,some o0,()),())) fun q2=>bif q2.1 then k1 (v10,v11,wI (v12 + 1),o0) else some (false,()) else Option.bind (qF ((ix zg v10 v12).2.2.2.2.1,some fun z=>qE (z.1,some o0,()),())) fun q10=>bif q10.1 then some (false,()) else some (false,()) else Option.bind (yD ((ix zg v10 v12).2.2.2.1,some fun z=>vn (z.1,some o0,some v12,()),())) fun q11=>bif q11.1 then Option.bind (qF ((ix zg v10 v12).2.2.2.2.1,some fun z=>qE (z.1,some o0,()),())) fun q12=>bif q12.1 then some (false,()) else some (false,()) else Option.bind (qF ((ix zg v10 v12).2.2.2.2.1,some fun z=>qE (z.1,some o0,()),())) fun q13=>bif q13.1 then some (false,()) else some (false,())) else some (true,())
abbrev zmd (K:Nat):zd1→Option (Bool × Unit):=zxp zmc qO K
theorem zwn (K:Nat):∀ n,evV Es3 K Tryz.f86 0 (ch [.bool]) [1,0,1,0] [] zwl n = zxp zmc qO n:=zIW (zwm K) fun n0 (v10,v11,v12,o0)=>by kernel_rfl
def zjb (L0:zd1→Option (Bool × Unit)):(qJ × Unit)→Option (Bool × Unit):=fun (x0,()) =>
 L0 (x0.2.1.2.1,((List.length x0.2.1.2.1):Int),0,x0)
def zaR:(qJ × Unit)→Option (Bool × Unit):=zjb (zmd K0)
abbrev zpm:Fun:=⟨86,(ch [qf]),(ch [.bool]),0,zaR⟩
theorem zzN:Sq zpm:=ml3 (d:=false) (S:=fun K=>zjb (zmd K)) Tryz.func86 (by kernel_rfl) (fun K=>tr1 (T:=zjb) (zwn K K) fun (x0,())=>by kernel_rfl) rfl
abbrev zb4:Type:=(List zi) × Int × Int × (List Int) × Int × Int × zi
abbrev znu:zb4→St:=fun (v14,v15,v16,v55,v56,v57,o0)=>St.mk [(4,.bp 0 []),(14,.dat (.sl zn) v14),(15,.dat tI v15),(16,.dat tI v16),(55,.dat (.sl tI) v55),(56,.dat tI v56),(57,.dat tI v57)] [.bx (.dat zn o0) false]
abbrev zb5:Type:=(Option zbR) × (List zi) × Int × Int × (List qc) × Int × Int × zi
abbrev znv:zb5→St:=fun (v5,v14,v15,v16,v24,v25,v26,o0)=>St.mk [(4,.bp 0 []),(5,.dat (.ptr vO) v5),(14,.dat (.sl zn) v14),(15,.dat tI v15),(16,.dat tI v16),(24,.dat (.sl zX) v24),(25,.dat tI v25),(26,.dat tI v26)] [.bx (.dat zn o0) false]
abbrev jx:Type:=(List zi) × Int × Int
abbrev y8:jx→St:=fun (v14,v15,v16)=>St.mk [(14,.dat (.sl zn) v14),(15,.dat tI v15),(16,.dat tI v16)] []
def zb6 (k0:jx→Option (Bool × Unit)) (k2:zb4→Option (Bool × Unit)):zb4→Option (Bool × Unit):=fun (v14,v15,v16,v55,v56,v57,o0) =>
 bif decide (v57 < v56) then inR v57 ((List.length v55):Int) (inR (ix (0:Int) v55 v57) ((List.length o0.2.2.2.2.1):Int) (inR (ix (0:Int) v55 v57) ((List.length o0.2.2.2.2.1):Int) (bif decide ((List.getD o0.2.2.2.2.1 (Int.toNat (ix (0:Int) v55 v57)) (ze zA)).2.2.2.1.2.2.1 ≥ ((List.length o0.2.2.1):Int)) then some (false,()) else bif decide ((List.getD o0.2.2.2.2.1 (Int.toNat (ix (0:Int) v55 v57)) (ze zA)).2.2.2.2.1.2.2.1 ≥ ((List.length o0.2.2.1):Int)) then some (false,()) else bif decide ((List.getD o0.2.2.2.2.1 (Int.toNat (ix (0:Int) v55 v57)) (ze zA)).2.2.2.1.2.2.1 ≥ 0) then inR (List.getD o0.2.2.2.2.1 (Int.toNat (ix (0:Int) v55 v57)) (ze zA)).2.2.2.1.2.2.1 ((List.length o0.2.2.1):Int) (bif (List.getD o0.2.2.1 (Int.toNat (List.getD o0.2.2.2.2.1 (Int.toNat (ix (0:Int) v55 v57)) (ze zA)).2.2.2.1.2.2.1) (ze zX)).2.2.1 != 3 then some (false,()) else inR (List.getD o0.2.2.2.2.1 (Int.toNat (ix (0:Int) v55 v57)) (ze zA)).2.2.2.1.2.2.1 ((List.length o0.2.2.1):Int) (bif (List.getD o0.2.2.1 (Int.toNat (List.getD o0.2.2.2.2.1 (Int.toNat (ix (0:Int) v55 v57)) (ze zA)).2.2.2.1.2.2.1) (ze zX)).2.2.2.1 != ix (0:Int) v55 v57 then some (false,()) else k2 (v14,v15,v16,v55,v56,wI (v57 + 1),o0))) else k2 (v14,v15,v16,v55,v56,wI (v57 + 1),o0)))) else k0 (v14,v15,wI (v16 + 1))
abbrev zb7 (K:Nat) (k0:jx→Option (Bool × Unit)):zb4→Option (Bool × Unit):=zl (fun k2=>zb6 k0 k2) K
theorem zx4 (K:Nat) (n0:Nat):∀ n,evV Es3 K Tryz.f87 0 (ch [.bool]) [1,0,1,0,0,1,1,0,0,1,1,1,1,0] [n0] znu n = zl (fun k2=>zb6 (evV Es3 K Tryz.f87 0 (ch [.bool]) [1,0,1,0] [] y8 n0) k2) n:=zt fun n2 (v14,v15,v16,v55,v56,v57,o0)=>by kernel_rfl
def y9 (L2:zb4→Option (Bool × Unit)) (k0:jx→Option (Bool × Unit)) (k1:zb5→Option (Bool × Unit)):zb5→Option (Bool × Unit):=fun (v5,v14,v15,v16,v24,v25,v26,o0) =>
 bif decide (v26 < v25) then inR v26 ((List.length v24):Int) (bif (ix zdD v24 v26).2.2.1 == 3 then Option.bind (vV (v5,(ix zdD v24 v26).2.2.2.1,())) fun q1=>bif q1.1 then inR (ix zdD v24 v26).2.2.2.1 ((List.length o0.2.2.2.2.1):Int) (bif (List.getD o0.2.2.2.2.1 (Int.toNat (ix zdD v24 v26).2.2.2.1) (ze zA)).2.2.2.1.2.2.1 != v26 then some (false,()) else k1 (v5,v14,v15,v16,v24,v25,wI (v26 + 1),o0)) else some (false,()) else k1 (v5,v14,v15,v16,v24,v25,wI (v26 + 1),o0)) else Option.bind (zcQ (v5,())) fun q2=>L2 (v14,v15,v16,q2.1,((List.length q2.1):Int),0,o0)
abbrev zb8 (K:Nat) (k0:jx→Option (Bool × Unit)):zb5→Option (Bool × Unit):=zl (fun k1=>y9 (zb7 K k0) k0 k1) K
theorem zx5 (K:Nat) (n0:Nat):∀ n,evV Es3 K Tryz.f87 0 (ch [.bool]) [1,0,1,0,0,1,1,0,0,1,1,0,1,0] [n0] znv n = zl (fun k1=>y9 (zb7 K (evV Es3 K Tryz.f87 0 (ch [.bool]) [1,0,1,0] [] y8 n0)) (evV Es3 K Tryz.f87 0 (ch [.bool]) [1,0,1,0] [] y8 n0) k1) n:=zhb (B:=fun L2 k1=>y9 L2 (evV Es3 K Tryz.f87 0 (ch [.bool]) [1,0,1,0] [] y8 n0) k1) (V1:=fun n1=>evV Es3 K Tryz.f87 0 (ch [.bool]) [1,0,1,0,0,1,1,0,0,1,1,1,1,0] [n0] znu K) (W1:=fun k1=>(zb7 K (evV Es3 K Tryz.f87 0 (ch [.bool]) [1,0,1,0] [] y8 n0))) (fun n1=>zx4 K n0 K) fun n1 (v5,v14,v15,v16,v24,v25,v26,o0)=>by kernel_rfl
def zaa (L1:zb5→Option (Bool × Unit)) (k0:jx→Option (Bool × Unit)):jx→Option (Bool × Unit):=fun (v14,v15,v16) =>
 bif decide (v16 < v15) then inR v16 ((List.length v14):Int) (Option.bind (yB ((ix zg v14 v16).2.2.2.2.1,some vR,())) fun q0=>L1 (q0.1,v14,v15,v16,(ix zg v14 v16).2.2.1,((List.length (ix zg v14 v16).2.2.1):Int),0,ix zg v14 v16)) else some (true,())
abbrev znw (K:Nat):jx→Option (Bool × Unit):=zl (fun k0=>zaa (zb8 K k0) k0) K
theorem zx6 (K:Nat):∀ n,evV Es3 K Tryz.f87 0 (ch [.bool]) [1,0,1,0] [] y8 n = zl (fun k0=>zaa (zb8 K k0) k0) n:=zhb (B:=fun L1 k0=>zaa L1 k0) (V1:=fun n0=>evV Es3 K Tryz.f87 0 (ch [.bool]) [1,0,1,0,0,1,1,0,0,1,1,0,1,0] [n0] znv K) (W1:=fun k0=>(zb8 K k0)) (fun n0=>zx5 K n0 K) fun n0 (v14,v15,v16)=>by kernel_rfl
def zkm (L0:jx→Option (Bool × Unit)):(qJ × Unit)→Option (Bool × Unit):=fun (x0,()) =>
 L0 (x0.2.1.2.1,((List.length x0.2.1.2.1):Int),0)
def zd7:(qJ × Unit)→Option (Bool × Unit):=zkm (znw K0)
abbrev zrd:Fun:=⟨87,(ch [qf]),(ch [.bool]),0,zd7⟩
theorem zBp:Sq zrd:=ml3 (d:=false) (S:=fun K=>zkm (znw K)) Tryz.func87 (by kernel_rfl) (fun K=>tr1 (T:=zkm) (zx6 K K) fun (x0,())=>by kernel_rfl) rfl
def zib:((List zq) × Unit)→Option ((List Int) × Unit):=fun (x0,()) =>
 Option.bind (zk1 (x0,())) fun q0=>Option.bind (zf3 (q0.1,())) fun q1=>some (q1.1,())
abbrev zte:Fun:=⟨346,(ch [(.sl zo)]),(ch [(.sl tI)]),0,zib⟩
theorem zDK:Sq zte:=ms3 (d:=false) (K:=0) Tryz.func346 (by kernel_rfl) (funext fun (x0,())=>by kernel_rfl)
abbrev zde:Type:=(List zv) × Int × (List Int) × Int × Int × List Int
abbrev zzO:zde→St:=fun (v0,v1,v14,v15,v16,o0)=>St.mk [(0,.dat (.sl zA) v0),(1,.dat tI v1),(6,.ow 0),(14,.dat (.sl tI) v14),(15,.dat tI v15),(16,.dat tI v16)] [.row tU o0 false]
def zdf (k0:zde→Option (Int × (Int × Unit))):zde→Option (Int × (Int × Unit)):=fun (v0,v1,v14,v15,v16,o0) =>
 bif decide (v16 < v15) then inR v16 ((List.length v14):Int) (inR (ix (0:Int) v14 v16) ((List.length v0):Int) (bif (List.getD v0 (Int.toNat (ix (0:Int) v14 v16)) (ze zA)).2.2.2.1.1 == v1 then inR (ix (0:Int) v14 v16) ((List.length v0):Int) (bif decide (List.length o0 + List.length (zf (List.replicate 1 (0:Int)) 0 (List.getD v0 (Int.toNat (ix (0:Int) v14 v16)) (ze zA)).2.2.2.1.2.1) ≤ lim) then k0 (v0,v1,v14,v15,wI (v16 + 1),o0 ++ zf (List.replicate 1 (0:Int)) 0 (List.getD v0 (Int.toNat (ix (0:Int) v14 v16)) (ze zA)).2.2.2.1.2.1) else none) else k0 (v0,v1,v14,v15,wI (v16 + 1),o0))) else Option.bind (zfx (o0,())) fun q3=>some (q3.1,q3.2.1,())
abbrev zpn (K:Nat):zde→Option (Int × (Int × Unit)):=zl zdf K
theorem zzP (K:Nat):∀ n,evV Es3 K Tryz.f269 0 (ch [tU,tI]) [1,1,1,0,1,0] [] zzO n = zl zdf n:=zt fun n0 (v0,v1,v14,v15,v16,o0)=>by kernel_rfl
def zic (L0:zde→Option (Int × (Int × Unit))):((List zv) × (Int × Unit))→Option (Int × (Int × Unit)):=fun (x0,x1,()) =>
 Option.bind (je (x1,())) fun q0=>bif q0.1 then Option.bind (zju (x0,())) fun q1=>Option.bind (zcQ (q1.1,())) fun q2=>L0 (x0,x1,q2.1,((List.length q2.1):Int),0,[]) else some (0,1,())
def zid:((List zv) × Int × Unit)→Option (Int × Int × Unit):=zic (zpn K0)
abbrev ztf:Fun:=⟨269,(ch [(.sl zA),tI]),(ch [tU,tI]),0,zid⟩
theorem zDL:Sq ztf:=ml3 (d:=false) (S:=fun K=>zic (zpn K)) Tryz.func269 (by kernel_rfl) (fun K=>tr1 (T:=zic) (zzP K K) fun (x0,x1,())=>by kernel_rfl) rfl
def zie:(zd × (Int × Unit))→Option (Int × (Int × Unit)):=fun (x0,x1,()) =>
 Option.bind (je (x1,())) fun q0=>bif q0.1 then Option.bind (zfz (x0,x1,some zi0,())) fun q1=>bif q1.2.1 != 0 then some (0,q1.2.1,()) else Option.bind (zfz (x0,x1,some zi1,())) fun q2=>bif q2.2.1 != 0 then some (0,q2.2.1,()) else Option.bind (zhN (q1.1,q2.1,())) fun q3=>some (q3.1,q3.2.1,()) else some (0,1,())
abbrev ztg:Fun:=⟨173,(ch [zz,tI]),(ch [tU,tI]),0,zie⟩
theorem zDM:Sq ztg:=ms3 (d:=false) (K:=0) Tryz.func173 (by kernel_rfl) (funext fun (x0,x1,())=>by kernel_rfl)
def zif:((List zw) × (Int × (Int × Unit)))→Option (zw × (Int × Unit)):=fun (x0,x1,x2,()) =>
 Option.bind (zdZ (x0,())) fun q0=>Option.bind (zda (q0.1,x1,())) fun q1=>bif q1.1 then inR x1 ((List.length x0):Int) (bif (ix zcL x0 x1).2.2.2.1 != x2 then some ((false,0,0,0,ByteArray.mk #[],()),3,()) else inR x1 ((List.length x0):Int) (some (ix zcL x0 x1,0,()))) else some ((false,0,0,0,ByteArray.mk #[],()),3,())
abbrev zx7:Fun:=⟨56,(ch [(.sl zy),tI,tI]),(ch [zy,tI]),0,zif⟩
theorem zHr:Sq zx7:=ms3 (d:=false) (K:=0) Tryz.func56 (by kernel_rfl) (funext fun (x0,x1,x2,())=>by kernel_rfl)
theorem zJ8 {l:List Int} {g:Int × Unit→Option (Bool × Unit)} {p:Int→Bool} (hl:l.length ≤ Go.maxLen) (hp:∀ x ∈ l,g (x,()) = some (p x,())):vu (l,some g,()) = some (qB p l 0,()):=qw (τ:=tI) (B:=zax) (fun _ _ _ _ _=>rfl) hl hp
theorem zLD {G:FH} (hE:EnvOk Tryz.prog G E0):zCE Tryz.prog G 104 zxq:=zJ7 (specI:=vu) (zjQ G hE) fun xs p ha hl=>by
 refine ⟨_,zJ8 (p:=zkh p) (by unfold Go.maxLen; omega) fun x hx=>?_,zDd xs 0 |>.imp id fun ⟨k,h1,h2,h3,h4⟩=>⟨k,h1,(show qB (zkh p) xs 0 = _ from h2.trans (by omega)),h3,h4⟩⟩
 obtain ⟨⟨b,⟨⟩⟩,hy⟩:=Option.isSome_iff_exists.1 (ha x hx)
 unfold zkh
 rw [hy]
def zth:List zw × Int × Unit→Option (List Int × Unit):=fun (x0,x1,()) =>
 Option.bind (zdZ (x0,())) fun q0=>Option.bind (zma (q0.1,())) fun q1=>Option.bind (zLA (fun z=>zuQ (z.1,some x0,some x1,())) q1.1) fun ys=>some (ys,())
abbrev zAO:Fun:=⟨58,ch [.sl zy,tI],ch [.sl tI],0,zth⟩
theorem zI3 (K:Nat):evF ((En E0 false L3).del 104) K Tryz.f58 0 (ch [.sl zy,tI]) (ch [.sl tI]) = zth:=funext fun (x0,x1,())=>by kernel_rfl
theorem zI4:Sq zAO:=fun G hE=>zkd.mk zHg ((h3.env hE).del (zLD hE)) Tryz.func58 (by kernel_rfl) (by kernel_rfl) fun x y hy=>⟨0,by rw [zI3]; exact hy⟩
abbrev L4:List Fun:=zpl :: ztd :: zuZ :: znt :: zx3 :: zu0 :: zrc :: zpm :: zrd :: zte :: ztf :: ztg :: zx7 :: zAO :: L3
theorem h4:Sds Tryz.prog E0 L4:=⟨zzM,zDJ,zFz,zx2,zHq,zFA,zBo,zzN,zBp,zDK,zDL,zDM,zHr,zI4,h3⟩
theorem ms4 {d:Bool} {F:Fun} {f:Go.Func} {K:Nat} (hf:Tryz.prog.funcs[F.id]? = some f) (ho:jz f = true) (h:evF (En E0 d L4) K f F.md F.a F.r = F.spec):Sd Tryz.prog E0 F:=mkS h4 hf ho h
theorem ml4 {d:Bool} {F:Fun} {f:Go.Func} {S:Nat→F.a.I→Option F.r.I} (hf:Tryz.prog.funcs[F.id]? = some f) (ho:jz f = true) (h:∀ K,evF (En E0 d L4) K f F.md F.a F.r = S K) (e:S K0 = F.spec):Sd Tryz.prog E0 F:=mkS h4 hf ho ((h K0).trans e)
abbrev Es4:Env:=En E0 false L4
def zb9:(qN × Unit)→Option (Bool × Unit):=fun (x0,()) =>
 Option.bind (zbg (x0.1,())) fun q0=>bif q0.1 then Option.bind (zbg (x0.2.1,())) fun q1=>bif q1.1 then Option.bind (qg (x0.2.2.1,0,3,())) fun q2=>bif q2.1 then some (false,()) else some (true,()) else some (true,()) else some (true,())
abbrev zj6:Fun:=⟨303,(ch [qM]),(ch [.bool]),0,zb9⟩
theorem zti:Sq zj6:=ms4 (d:=false) (K:=0) Tryz.func303 (by kernel_rfl) (funext fun (x0,())=>by kernel_rfl)
def zfC:(qZ × Unit)→Option (Bool × Unit):=fun (x0,()) =>
 bif x0.1 then Option.bind (zbg (x0.2.1,())) fun q0=>bif q0.1 then bif x0.1 then some (false,()) else bif !ByteArray.toList x0.2.1 == ByteArray.toList (ByteArray.mk #[]) then some (true,()) else some (false,()) else some (true,()) else bif x0.1 then some (false,()) else bif !ByteArray.toList x0.2.1 == ByteArray.toList (ByteArray.mk #[]) then some (true,()) else some (false,())
abbrev zpo:Fun:=⟨239,(ch [qk]),(ch [.bool]),0,zfC⟩
theorem zzQ:Sq zpo:=ms4 (d:=false) (K:=0) Tryz.func239 (by kernel_rfl) (funext fun (x0,())=>by kernel_rfl)
def zgE:(qc × Unit)→Option (Bool × Unit):=fun (x0,()) =>
 bif x0.1 then Option.bind (zbg (x0.2.1,())) fun q0=>bif q0.1 then Option.bind (zqj (x0,())) fun q1=>Option.bind (zbZ (q1.1,())) fun q2=>bif q2.1 then some (false,()) else some (true,()) else some (true,()) else bif !eqI zX x0 (ze zX) then some (true,()) else some (false,())
abbrev zre:Fun:=⟨244,(ch [zX]),(ch [.bool]),0,zgE⟩
theorem zBq:Sq zre:=ms4 (d:=false) (K:=0) Tryz.func244 (by kernel_rfl) (funext fun (x0,())=>by kernel_rfl)
def zig:(zw × Unit)→Option (Bool × Unit):=fun (x0,()) =>
 bif x0.1 then Option.bind (zaQ (x0,())) fun q0=>bif q0.1 then Option.bind (zcE (x0.2.2.2.2.1,())) fun q1=>bif q1.1 then some (false,()) else some (true,()) else some (true,()) else bif !eqI zy x0 (ze zy) then some (true,()) else some (false,())
abbrev ztj:Fun:=⟨189,(ch [zy]),(ch [.bool]),0,zig⟩
theorem zDN:Sq ztj:=ms4 (d:=false) (K:=0) Tryz.func189 (by kernel_rfl) (funext fun (x0,())=>by kernel_rfl)
def zgF:((List zv) × Unit)→Option (Bool × Unit):=fun (x0,()) =>
 Option.bind (qX (x0,some zeF,())) fun q0=>bif q0.1 then some (false,()) else some (true,())
abbrev zrf:Fun:=⟨143,(ch [(.sl zA)]),(ch [.bool]),0,zgF⟩
theorem zBr:Sq zrf:=ms4 (d:=false) (K:=0) Tryz.func143 (by kernel_rfl) (funext fun (x0,())=>by kernel_rfl)
abbrev zdg:Type:=Int × (List zq) × Int × Int × List (Int × Int)
abbrev zzR:zdg→St:=fun (v4,v8,v9,v10,o0)=>St.mk [(3,.om 0),(4,.dat tI v4),(8,.dat (.sl zo) v8),(9,.dat tI v9),(10,.dat tI v10)] [.mp tI tI o0]
def zdh (k0:zdg→Option (Bool × Unit)):zdg→Option (Bool × Unit):=fun (v4,v8,v9,v10,o0) =>
 bif decide (v10 < v9) then inR v10 ((List.length v8):Int) (bif (ix qs v8 v10).1 then Option.bind (zk2 (ix qs v8 v10,())) fun q0=>bif q0.1 then bif (ix qs v8 v10).1 then bif (ix qs v8 v10).1 then k0 (wI (v4 + 1),v8,v9,wI (v10 + 1),yw tI o0 (ix qs v8 v10).2.2.2.2.2.2.2.2.2.1 (wI (zcq tI (0:Int) o0 (ix qs v8 v10).2.2.2.2.2.2.2.2.2.1 + 1))) else k0 (v4,v8,v9,wI (v10 + 1),o0) else bif !eqI zo (ix qs v8 v10) (ze zo) then some (false,()) else bif (ix qs v8 v10).1 then k0 (wI (v4 + 1),v8,v9,wI (v10 + 1),yw tI o0 (ix qs v8 v10).2.2.2.2.2.2.2.2.2.1 (wI (zcq tI (0:Int) o0 (ix qs v8 v10).2.2.2.2.2.2.2.2.2.1 + 1))) else k0 (v4,v8,v9,wI (v10 + 1),o0) else some (false,()) else bif (ix qs v8 v10).1 then bif (ix qs v8 v10).1 then k0 (wI (v4 + 1),v8,v9,wI (v10 + 1),yw tI o0 (ix qs v8 v10).2.2.2.2.2.2.2.2.2.1 (wI (zcq tI (0:Int) o0 (ix qs v8 v10).2.2.2.2.2.2.2.2.2.1 + 1))) else k0 (v4,v8,v9,wI (v10 + 1),o0) else bif !eqI zo (ix qs v8 v10) (ze zo) then some (false,()) else bif (ix qs v8 v10).1 then k0 (wI (v4 + 1),v8,v9,wI (v10 + 1),yw tI o0 (ix qs v8 v10).2.2.2.2.2.2.2.2.2.1 (wI (zcq tI (0:Int) o0 (ix qs v8 v10).2.2.2.2.2.2.2.2.2.1 + 1))) else k0 (v4,v8,v9,wI (v10 + 1),o0)) else bif ((List.length o0):Int) == v4 then some (true,()) else some (false,())
abbrev zpp (K:Nat):zdg→Option (Bool × Unit):=zl zdh K
theorem zzS (K:Nat):∀ n,evV Es4 K Tryz.f145 0 (ch [.bool]) [1,1,1,0,1,0] [] zzR n = zl zdh n:=zt fun n0 (v4,v8,v9,v10,o0)=>by kernel_rfl
def zme (L0:zdg→Option (Bool × Unit)):((List zq) × Unit)→Option (Bool × Unit):=fun (x0,()) =>
 L0 (0,x0,((List.length x0):Int),0,[])
def zmf:((List zq) × Unit)→Option (Bool × Unit):=zme (zpp K0)
abbrev ztk:Fun:=⟨145,(ch [(.sl zo)]),(ch [.bool]),0,zmf⟩
theorem zDO:Sq ztk:=ml4 (d:=false) (S:=fun K=>zme (zpp K)) Tryz.func145 (by kernel_rfl) (fun K=>tr1 (T:=zme) (zzS K K) fun (x0,())=>by kernel_rfl) rfl
abbrev zca:Type:=(List zG) × (List zG) × Int × Int
abbrev zx8:zca→St:=fun (v0,v5,v6,v7)=>St.mk [(0,.dat (.sl zx) v0),(5,.dat (.sl zx) v5),(6,.dat tI v6),(7,.dat tI v7)] []
def zcb (k0:zca→Option (Bool × Unit)):zca→Option (Bool × Unit):=fun (v0,v5,v6,v7) =>
 bif decide (v7 < v6) then inR v7 ((List.length v5):Int) (Option.bind (zjv (ix zhz v5 v7,())) fun q0=>bif q0.1 then bif decide (v7 > 0) then inR (wI (v7 - 1)) ((List.length v0):Int) (Option.bind (zgD (List.getD v0 (Int.toNat (wI (v7 - 1))) (ze zx),ix zhz v5 v7,())) fun q1=>bif decide (q1.1 ≥ 0) then some (false,()) else k0 (v0,v5,v6,wI (v7 + 1))) else k0 (v0,v5,v6,wI (v7 + 1)) else some (false,())) else some (true,())
abbrev znx (K:Nat):zca→Option (Bool × Unit):=zl zcb K
theorem zx9 (K:Nat):∀ n,evV Es4 K Tryz.f146 0 (ch [.bool]) [1,0,1,0] [] zx8 n = zl zcb n:=zt fun n0 (v0,v5,v6,v7)=>by kernel_rfl
def zkn (L0:zca→Option (Bool × Unit)):((List zG) × Unit)→Option (Bool × Unit):=fun (x0,()) =>
 L0 (x0,x0,((List.length x0):Int),0)
def zko:((List zG) × Unit)→Option (Bool × Unit):=zkn (znx K0)
abbrev zrg:Fun:=⟨146,(ch [(.sl zx)]),(ch [.bool]),0,zko⟩
theorem zBs:Sq zrg:=ml4 (d:=false) (S:=fun K=>zkn (znx K)) Tryz.func146 (by kernel_rfl) (fun K=>tr1 (T:=zkn) (zx9 K K) fun (x0,())=>by kernel_rfl) rfl
abbrev zcc:Type:=(List zi) × Int × Int × qJ
abbrev zya:zcc→St:=fun (v10,v11,v12,o0)=>St.mk [(1,.bp 0 []),(10,.dat (.sl zn) v10),(11,.dat tI v11),(12,.dat tI v12)] [.bx (.dat qf o0) false]
def zcd (k0:zcc→Option (Bool × Unit)):zcc→Option (Bool × Unit):=fun (v10,v11,v12,o0) =>
 bif decide (v12 < v11) then inR v12 ((List.length v10):Int) (Option.bind (zkl (o0,v12,())) fun q0=>Option.bind (zg1 ((ix zg v10 v12).2.1,some fun z=>zeC (z.1,some q0.1,()),())) fun q1=>bif q1.1 then Option.bind (yC ((ix zg v10 v12).2.2.1,some fun z=>zbT (z.1,some q0.1,()),())) fun q2=>bif q2.1 then Option.bind (zh9 ((ix zg v10 v12).2.2.2.2.2.2.1,q0.1,())) fun q3=>bif q3.1 then k0 (v10,v11,wI (v12 + 1),o0) else some (false,()) else some (false,()) else Option.bind (yC ((ix zg v10 v12).2.2.1,some fun z=>zbT (z.1,some q0.1,()),())) fun q4=>bif q4.1 then some (false,()) else some (false,())) else some (true,())
abbrev zny (K:Nat):zcc→Option (Bool × Unit):=zl zcd K
theorem zyb (K:Nat):∀ n,evV Es4 K Tryz.f85 0 (ch [.bool]) [1,0,1,0] [] zya n = zl zcd n:=zt fun n0 (v10,v11,v12,o0)=>by kernel_rfl
def zkp (L0:zcc→Option (Bool × Unit)):(qJ × Unit)→Option (Bool × Unit):=fun (x0,()) =>
 L0 (x0.2.1.2.1,((List.length x0.2.1.2.1):Int),0,x0)
def zd8:(qJ × Unit)→Option (Bool × Unit):=zkp (zny K0)
abbrev zrh:Fun:=⟨85,(ch [qf]),(ch [.bool]),0,zd8⟩
theorem zBt:Sq zrh:=ml4 (d:=false) (S:=fun K=>zkp (zny K)) Tryz.func85 (by kernel_rfl) (fun K=>tr1 (T:=zkp) (zyb K K) fun (x0,())=>by kernel_rfl) rfl
abbrev zd9:Type:=(List zq) × Int × (List Int) × Int × Int × List Int
abbrev zBu:zd9→St:=fun (v0,v1,v13,v14,v15,o0)=>St.mk [(0,.dat (.sl zo) v0),(1,.dat tI v1),(6,.ow 0),(13,.dat (.sl tI) v13),(14,.dat tI v14),(15,.dat tI v15)] [.row tU o0 false]
def zea (k0:zd9→Option (Int × (Int × Unit))):zd9→Option (Int × (Int × Unit)):=fun (v0,v1,v13,v14,v15,o0) =>
 bif decide (v15 < v14) then inR v15 ((List.length v13):Int) (inR (ix (0:Int) v13 v15) ((List.length v0):Int) (Option.bind (zgx (List.getD v0 (Int.toNat (ix (0:Int) v13 v15)) (ze zo),())) fun q2=>bif q2.1 == v1 then inR (ix (0:Int) v13 v15) ((List.length v0):Int) (bif decide (List.length o0 + List.length (zf (List.replicate 1 (0:Int)) 0 (List.getD v0 (Int.toNat (ix (0:Int) v13 v15)) (ze zo)).2.2.2.2.2.2.2.2.1) ≤ lim) then k0 (v0,v1,v13,v14,wI (v15 + 1),o0 ++ zf (List.replicate 1 (0:Int)) 0 (List.getD v0 (Int.toNat (ix (0:Int) v13 v15)) (ze zo)).2.2.2.2.2.2.2.2.1) else none) else k0 (v0,v1,v13,v14,wI (v15 + 1),o0))) else Option.bind (zfx (o0,())) fun q3=>some (q3.1,q3.2.1,())
abbrev zri (K:Nat):zd9→Option (Int × (Int × Unit)):=zl zea K
theorem zBv (K:Nat):∀ n,evV Es4 K Tryz.f268 0 (ch [tU,tI]) [1,1,1,0,1,0] [] zBu n = zl zea n:=zt fun n0 (v0,v1,v13,v14,v15,o0)=>by kernel_rfl
def zjw (L0:zd9→Option (Int × (Int × Unit))):((List zq) × (Int × Unit))→Option (Int × (Int × Unit)):=fun (x0,x1,()) =>
 Option.bind (je (x1,())) fun q0=>bif q0.1 then Option.bind (zib (x0,())) fun q1=>L0 (x0,x1,q1.1,((List.length q1.1):Int),0,[]) else some (0,1,())
def zjx:((List zq) × Int × Unit)→Option (Int × Int × Unit):=zjw (zri K0)
abbrev zu1:Fun:=⟨268,(ch [(.sl zo),tI]),(ch [tU,tI]),0,zjx⟩
theorem zFB:Sq zu1:=ml4 (d:=false) (S:=fun K=>zjw (zri K)) Tryz.func268 (by kernel_rfl) (fun K=>tr1 (T:=zjw) (zBv K K) fun (x0,x1,())=>by kernel_rfl) rfl
abbrev L5:List Fun:=zj6 :: zpo :: zre :: ztj :: zrf :: ztk :: zrg :: zrh :: zu1 :: L4
theorem h5:Sds Tryz.prog E0 L5:=⟨zti,zzQ,zBq,zDN,zBr,zDO,zBs,zBt,zFB,h4⟩
theorem ms5 {d:Bool} {F:Fun} {f:Go.Func} {K:Nat} (hf:Tryz.prog.funcs[F.id]? = some f) (ho:jz f = true) (h:evF (En E0 d L5) K f F.md F.a F.r = F.spec):Sd Tryz.prog E0 F:=mkS h5 hf ho h
theorem ml5 {d:Bool} {F:Fun} {f:Go.Func} {S:Nat→F.a.I→Option F.r.I} (hf:Tryz.prog.funcs[F.id]? = some f) (ho:jz f = true) (h:∀ K,evF (En E0 d L5) K f F.md F.a F.r = S K) (e:S K0 = F.spec):Sd Tryz.prog E0 F:=mkS h5 hf ho ((h K0).trans e)
abbrev Es5:Env:=En E0 false L5
def jH:(za × Unit)→Option (Bool × Unit):=fun (x0,()) =>
 Option.bind (qg (((List.length x0.2.2.1):Int),1,8,())) fun q0=>bif q0.1 then Option.bind (zaD (x0.2.2.1,some zb9,())) fun q1=>bif q1.1 then some (false,()) else Option.bind (zfS (x0,())) fun q2=>Option.bind (zly (q2.1,())) fun q3=>bif q3.1 then some (true,()) else some (false,()) else some (false,())
abbrev zmg:Fun:=⟨216,(ch [zm]),(ch [.bool]),0,jH⟩
theorem zwo:Sq zmg:=ms5 (d:=false) (K:=0) Tryz.func216 (by kernel_rfl) (funext fun (x0,())=>by kernel_rfl)
def zih:((List qZ) × Unit)→Option (Bool × Unit):=fun (x0,()) =>
 Option.bind (zcD (x0,some zfC,())) fun q0=>bif q0.1 then some (false,()) else some (true,())
abbrev ztl:Fun:=⟨140,(ch [(.sl qk)]),(ch [.bool]),0,zih⟩
theorem zDP:Sq ztl:=ms5 (d:=false) (K:=0) Tryz.func140 (by kernel_rfl) (funext fun (x0,())=>by kernel_rfl)
def zgG:((List qc) × Unit)→Option (Bool × Unit):=fun (x0,()) =>
 Option.bind (ji (x0,some zgE,())) fun q0=>bif q0.1 then some (false,()) else some (true,())
abbrev zrj:Fun:=⟨142,(ch [(.sl zX)]),(ch [.bool]),0,zgG⟩
theorem zBw:Sq zrj:=ms5 (d:=false) (K:=0) Tryz.func142 (by kernel_rfl) (funext fun (x0,())=>by kernel_rfl)
def zdi:((List zw) × Unit)→Option (Bool × Unit):=fun (x0,()) =>
 Option.bind (jk (x0,some zig,())) fun q0=>bif q0.1 then some (false,()) else some (true,())
abbrev ztm:Fun:=⟨93,(ch [(.sl zy)]),(ch [.bool]),0,zdi⟩
theorem zDQ:Sq ztm:=ms5 (d:=false) (K:=0) Tryz.func93 (by kernel_rfl) (funext fun (x0,())=>by kernel_rfl)
abbrev zdj:Type:=Int × (List zi) × Int × Int × (List (List Int)) × Int × Int × List Int
abbrev zpq:zdj→St:=fun (v1,v31,v32,v33,v52,v53,v54,o0)=>St.mk [(1,.dat tI v1),(8,.ow 0),(31,.dat (.sl zn) v31),(32,.dat tI v32),(33,.dat tI v33),(52,.dat (.sl (.arr 4 tU)) v52),(53,.dat tI v53),(54,.dat tI v54)] [.row tU o0 false]
abbrev yE:Type:=Int × (List zi) × Int × Int × List Int
abbrev zpr:yE→St:=fun (v1,v31,v32,v33,o0)=>St.mk [(1,.dat tI v1),(8,.ow 0),(31,.dat (.sl zn) v31),(32,.dat tI v32),(33,.dat tI v33)] [.row tU o0 false]
def zdk (k0:yE→Option (Int × (Int × Unit))) (k1:zdj→Option (Int × (Int × Unit))):zdj→Option (Int × (Int × Unit)):=fun (v1,v31,v32,v33,v52,v53,v54,o0) =>
 bif decide (v54 < v53) then inR v54 ((List.length v52):Int) (inR v1 (↑4:Int) (bif decide (List.length o0 + List.length (zf (List.replicate 1 (0:Int)) 0 (List.getD (List.getD v52 (Int.toNat v54) (ze (.arr 4 tU))) (Int.toNat v1) (0:Int))) ≤ lim) then k1 (v1,v31,v32,v33,v52,v53,wI (v54 + 1),o0 ++ zf (List.replicate 1 (0:Int)) 0 (List.getD (List.getD v52 (Int.toNat v54) (ze (.arr 4 tU))) (Int.toNat v1) (0:Int))) else none)) else k0 (v1,v31,v32,wI (v33 + 1),o0)
abbrev zdl (K:Nat) (k0:yE→Option (Int × (Int × Unit))):zdj→Option (Int × (Int × Unit)):=zl (fun k1=>zdk k0 k1) K
theorem zzT (K:Nat) (n0:Nat):∀ n,evV Es5 K Tryz.f172 0 (ch [tU,tI]) [1,1,1,1,1,0,1,0,0,1,1,0,0,1,1,1,1,1,0] [n0] zpq n = zl (fun k1=>zdk (evV Es5 K Tryz.f172 0 (ch [tU,tI]) [1,1,1,1,1,0,1,0] [] zpr n0) k1) n:=zt fun n1 (v1,v31,v32,v33,v52,v53,v54,o0)=>by kernel_rfl
def zaS (L1:zdj→Option (Int × (Int × Unit))) (k0:yE→Option (Int × (Int × Unit))):yE→Option (Int × (Int × Unit)):=fun (v1,v31,v32,v33,o0) =>
 bif decide (v33 < v32) then inR v33 ((List.length v31):Int) (Option.bind (zid ((ix zg v31 v33).2.2.2.2.1,v1,())) fun q2=>bif q2.2.1 != 0 then some (0,q2.2.1,()) else bif decide (List.length o0 + List.length (zf (List.replicate 1 (0:Int)) 0 q2.1) ≤ lim) then L1 (v1,v31,v32,v33,(ix zg v31 v33).2.2.2.2.2.1,((List.length (ix zg v31 v33).2.2.2.2.2.1):Int),0,o0 ++ zf (List.replicate 1 (0:Int)) 0 q2.1) else none) else Option.bind (zfx (o0,())) fun q3=>some (q3.1,q3.2.1,())
abbrev zps (K:Nat):yE→Option (Int × (Int × Unit)):=zl (fun k0=>zaS (zdl K k0) k0) K
theorem zzU (K:Nat):∀ n,evV Es5 K Tryz.f172 0 (ch [tU,tI]) [1,1,1,1,1,0,1,0] [] zpr n = zl (fun k0=>zaS (zdl K k0) k0) n:=zhb (B:=fun L1 k0=>zaS L1 k0) (V1:=fun n0=>evV Es5 K Tryz.f172 0 (ch [tU,tI]) [1,1,1,1,1,0,1,0,0,1,1,0,0,1,1,1,1,1,0] [n0] zpq K) (W1:=fun k0=>(zdl K k0)) (fun n0=>zzT K n0 K) fun n0 (v1,v31,v32,v33,o0)=>by kernel_rfl
def zii (L0:yE→Option (Int × (Int × Unit))):(zd × (Int × Unit))→Option (Int × (Int × Unit)):=fun (x0,x1,()) =>
 Option.bind (je (x1,())) fun q0=>bif q0.1 then Option.bind (zjx (x0.2.2.2.1,x1,())) fun q1=>bif q1.2.1 != 0 then some (0,q1.2.1,()) else L0 (x1,x0.2.1,((List.length x0.2.1):Int),0,[q1.1]) else some (0,1,())
def zij:(zd × Int × Unit)→Option (Int × Int × Unit):=zii (zps K0)
abbrev ztn:Fun:=⟨172,(ch [zz,tI]),(ch [tU,tI]),0,zij⟩
theorem zDR:Sq ztn:=ml5 (d:=false) (S:=fun K=>zii (zps K)) Tryz.func172 (by kernel_rfl) (fun K=>tr1 (T:=zii) (zzU K K) fun (x0,x1,())=>by kernel_rfl) rfl
abbrev L6:List Fun:=zmg :: ztl :: zrj :: ztm :: ztn :: L5
theorem h6:Sds Tryz.prog E0 L6:=⟨zwo,zDP,zBw,zDQ,zDR,h5⟩
theorem ms6 {d:Bool} {F:Fun} {f:Go.Func} {K:Nat} (hf:Tryz.prog.funcs[F.id]? = some f) (ho:jz f = true) (h:evF (En E0 d L6) K f F.md F.a F.r = F.spec):Sd Tryz.prog E0 F:=mkS h6 hf ho h
theorem ml6 {d:Bool} {F:Fun} {f:Go.Func} {S:Nat→F.a.I→Option F.r.I} (hf:Tryz.prog.funcs[F.id]? = some f) (ho:jz f = true) (h:∀ K,evF (En E0 d L6) K f F.md F.a F.r = S K) (e:S K0 = F.spec):Sd Tryz.prog E0 F:=mkS h6 hf ho ((h K0).trans e)
abbrev Es6:Env:=En E0 false L6
abbrev zce:Type:=Int × Int × za × List (Option ((za × Unit)→Option (Bool × Unit)))
abbrev zyc:zce→St:=fun (v6,v7,o0,o1)=>St.mk [(1,.bp 0 []),(5,.ow 1),(6,.dat tI v6),(7,.dat tI v7)] [.bx (.dat zm o0) false,.row (.fn (.pair zm .unit) (.pair .bool .unit)) o1 false]
def zeG (k0:zce→Option (Bool × Unit)):zce→Option (Bool × Unit):=fun (v6,v7,o0,o1) =>
 bif decide (v7 < v6) then inR v7 ((List.length o1):Int) (Option.bind (List.getD o1 (Int.toNat v7) (ze (.fn (.pair zm .unit) (.pair .bool .unit)))) fun q0=>Option.bind (q0 (o0,())) fun q1=>bif q1.1 then k0 (v6,wI (v7 + 1),o0,o1) else some (false,())) else some (true,())
abbrev znz (K:Nat):zce→Option (Bool × Unit):=zl zeG K
theorem zyd (K:Nat):∀ n,evV Es6 K Tryz.f113 0 (ch [.bool]) [1,0,1,0] [] zyc n = zl zeG n:=zt fun n0 (v6,v7,o0,o1)=>by kernel_rfl
def zkq (L0:zce→Option (Bool × Unit)):(za × Unit)→Option (Bool × Unit):=fun (x0,()) =>
 L0 (((List.length (zf (zf (zf (zf (zf (zf (List.replicate 6 (ze (.fn (.pair zm .unit) (.pair .bool .unit)))) 0 (some vH)) 1 (some ye)) 2 (some jH)) 3 (some vF)) 4 (some vG)) 5 (some yV))):Int),0,x0,[some vH,some ye,some jH,some vF,some vG,some yV])
def jJ:(za × Unit)→Option (Bool × Unit):=zkq (znz K0)
abbrev zrk:Fun:=⟨113,(ch [zm]),(ch [.bool]),0,jJ⟩
theorem zBx:Sq zrk:=ml6 (d:=false) (S:=fun K=>zkq (znz K)) Tryz.func113 (by kernel_rfl) (fun K=>tr1 (T:=zkq) (zyd K K) fun (x0,())=>by kernel_rfl) rfl
end
end Go.Proofs.YtkcakhbkoeimdaaGreatDoor
end
section
namespace Go.Proofs.YtkcakhbkoeimdaaGreatDoor
open Go.Ev
noncomputable section
def zeH:(zi × Unit)→Option (Bool × Unit):=fun (x0,()) =>
 Option.bind (zih (x0.1,())) fun q0=>bif q0.1 then Option.bind (zl4 (x0.2.1,())) fun q1=>bif q1.1 then Option.bind (zgG (x0.2.2.1,())) fun q2=>bif q2.1 then Option.bind (zdi (x0.2.2.2.1,())) fun q3=>bif q3.1 then Option.bind (zgF (x0.2.2.2.2.1,())) fun q4=>bif q4.1 then some (true,()) else some (false,()) else some (false,()) else some (false,()) else some (false,()) else some (false,())
abbrev znA:Fun:=⟨139,(ch [zn]),(ch [.bool]),0,zeH⟩
theorem zye:Sq znA:=ms6 (d:=false) (K:=0) Tryz.func139 (by kernel_rfl) (funext fun (x0,())=>by kernel_rfl)
abbrev zcf:Type:=Int × Int × (List zi) × Int × Int × qJ
abbrev znB:zcf→St:=fun (v3,v10,v15,v16,v17,o0)=>St.mk [(1,.bp 0 []),(3,.dat tI v3),(10,.dat tI v10),(15,.dat (.sl zn) v15),(16,.dat tI v16),(17,.dat tI v17)] [.bx (.dat qf o0) false]
abbrev vX:Type:=Int × qJ
abbrev znC:vX→St:=fun (v10,o0)=>St.mk [(1,.bp 0 []),(10,.dat tI v10)] [.bx (.dat qf o0) false]
def zcg (k0:vX→Option (Bool × Unit)) (k1:zcf→Option (Bool × Unit)):zcf→Option (Bool × Unit):=fun (v3,v10,v15,v16,v17,o0) =>
 bif decide (v17 < v16) then inR v17 ((List.length v15):Int) (inR v3 (↑4:Int) (inR v17 ((List.length o0.1.2.2.2.2.1):Int) (bif decide (List.getD (ix zg v15 v17).2.2.2.2.2.2.2.1 (Int.toNat v3) (0:Int) > (ix j4 o0.1.2.2.2.2.1 v17).2.2.2.2.2.1) then some (false,()) else k1 (v3,v10,v15,v16,wI (v17 + 1),o0)))) else Option.bind (zij (o0.2.1,v3,())) fun q0=>Option.bind (zie (o0.2.1,v3,())) fun q1=>bif q0.2.1 != 0 then some (false,()) else bif q1.2.1 != 0 then some (false,()) else bif q0.1 != q1.1 then some (false,()) else k0 (wI (v10 + 1),o0)
abbrev zch (K:Nat) (k0:vX→Option (Bool × Unit)):zcf→Option (Bool × Unit):=zl (fun k1=>zcg k0 k1) K
theorem zyf (K:Nat) (n0:Nat):∀ n,evV Es6 K Tryz.f88 0 (ch [.bool]) [1,0,1,0,0,1,1,0,0,1,0,1,0] [n0] znB n = zl (fun k1=>zcg (evV Es6 K Tryz.f88 0 (ch [.bool]) [1,0,1,0] [] znC n0) k1) n:=zt fun n1 (v3,v10,v15,v16,v17,o0)=>by kernel_rfl
def zci (L1:zcf→Option (Bool × Unit)) (k0:vX→Option (Bool × Unit)):vX→Option (Bool × Unit):=fun (v10,o0) =>
 bif decide (v10 < 4) then L1 (v10,v10,o0.2.1.2.1,((List.length o0.2.1.2.1):Int),0,o0) else some (true,())
abbrev znD (K:Nat):vX→Option (Bool × Unit):=zl (fun k0=>zci (zch K k0) k0) K
theorem zyg (K:Nat):∀ n,evV Es6 K Tryz.f88 0 (ch [.bool]) [1,0,1,0] [] znC n = zl (fun k0=>zci (zch K k0) k0) n:=zhb (B:=fun L1 k0=>zci L1 k0) (V1:=fun n0=>evV Es6 K Tryz.f88 0 (ch [.bool]) [1,0,1,0,0,1,1,0,0,1,0,1,0] [n0] znB K) (W1:=fun k0=>(zch K k0)) (fun n0=>zyf K n0 K) fun n0 (v10,o0)=>by kernel_rfl
def zkr (L0:vX→Option (Bool × Unit)):(qJ × Unit)→Option (Bool × Unit):=fun (x0,()) =>
 L0 (0,x0)
def zeb:(qJ × Unit)→Option (Bool × Unit):=zkr (znD K0)
abbrev zrl:Fun:=⟨88,(ch [qf]),(ch [.bool]),0,zeb⟩
theorem zBy:Sq zrl:=ml6 (d:=false) (S:=fun K=>zkr (znD K)) Tryz.func88 (by kernel_rfl) (fun K=>tr1 (T:=zkr) (zyg K K) fun (x0,())=>by kernel_rfl) rfl
def zjy:((List zw) × (Int × (Int × Unit)))→Option ((List zw) × (Int × Unit)):=fun (x0,x1,x2,()) =>
 Option.bind (zdi (x0,())) fun q0=>bif q0.1 then Option.bind (zif (x0,x1,x2,())) fun q1=>bif q1.2.1 != 0 then some ([],q1.2.1,()) else Option.bind (zdZ (x0,())) fun q2=>Option.bind (zdb (q2.1,x1,ze zy,())) fun q3=>some q3 else some ([],1,())
abbrev zu2:Fun:=⟨53,(ch [(.sl zy),tI,tI]),(ch [(.sl zy),tI]),0,zjy⟩
theorem zFC:Sq zu2:=ms6 (d:=false) (K:=0) Tryz.func53 (by kernel_rfl) (funext fun (x0,x1,x2,())=>by kernel_rfl)
def zk3:((List zw) × (zw × Unit))→Option ((List zw) × (Int × (Int × Unit))):=fun (x0,x1,()) =>
 Option.bind (zdi (x0,())) fun q0=>bif q0.1 then Option.bind (zaQ (x1,())) fun q1=>bif q1.1 then Option.bind (zcE (x1.2.2.2.2.1,())) fun q2=>bif q2.1 then Option.bind (zdZ (x0,())) fun q3=>Option.bind (zfA (q3.1,(true,x1.2),())) fun q4=>some q4 else some ([],0,2,()) else some ([],0,1,()) else some ([],0,1,())
abbrev zyh:Fun:=⟨48,(ch [(.sl zy),zy]),(ch [(.sl zy),tI,tI]),0,zk3⟩
theorem zHs:Sq zyh:=ms6 (d:=false) (K:=0) Tryz.func48 (by kernel_rfl) (funext fun (x0,x1,())=>by kernel_rfl)
abbrev L7:List Fun:=zrk :: znA :: zrl :: zu2 :: zyh :: L6
theorem h7:Sds Tryz.prog E0 L7:=⟨zBx,zye,zBy,zFC,zHs,h6⟩
theorem ms7 {d:Bool} {F:Fun} {f:Go.Func} {K:Nat} (hf:Tryz.prog.funcs[F.id]? = some f) (ho:jz f = true) (h:evF (En E0 d L7) K f F.md F.a F.r = F.spec):Sd Tryz.prog E0 F:=mkS h7 hf ho h
theorem ml7 {d:Bool} {F:Fun} {f:Go.Func} {S:Nat→F.a.I→Option F.r.I} (hf:Tryz.prog.funcs[F.id]? = some f) (ho:jz f = true) (h:∀ K,evF (En E0 d L7) K f F.md F.a F.r = S K) (e:S K0 = F.spec):Sd Tryz.prog E0 F:=mkS h7 hf ho ((h K0).trans e)
abbrev Es7:Env:=En E0 false L7
abbrev Ed7:Env:=En E0 true L7
abbrev zcj:Type:=Int × (List zi) × Int × Int × qJ
abbrev zyi:zcj→St:=fun (v3,v65,v66,v67,o0)=>St.mk [(1,.bp 0 []),(3,.dat tI v3),(65,.dat (.sl zn) v65),(66,.dat tI v66),(67,.dat tI v67)] [.bx (.dat qf o0) false]
def zeI (k0:zcj→Option (Bool × Unit)):zcj→Option (Bool × Unit):=fun (v3,v65,v66,v67,o0) =>
 bif decide (v67 < v66) then inR v67 ((List.length v65):Int) (inR v67 ((List.length o0.1.2.2.2.2.1):Int) (bif ((List.length (ix zg v65 v67).1):Int) != (ix j4 o0.1.2.2.2.2.1 v67).1 then some (false,()) else bif ((List.length (ix zg v65 v67).2.1):Int) != (ix j4 o0.1.2.2.2.2.1 v67).2.1 then some (false,()) else bif ((List.length (ix zg v65 v67).2.2.1):Int) != (ix j4 o0.1.2.2.2.2.1 v67).2.2.1 then some (false,()) else bif ((List.length (ix zg v65 v67).2.2.2.1):Int) != (ix j4 o0.1.2.2.2.2.1 v67).2.2.2.1 then some (false,()) else bif ((List.length (ix zg v65 v67).2.2.2.2.1):Int) != (ix j4 o0.1.2.2.2.2.1 v67).2.2.2.2.1 then some (false,()) else bif ((List.length (ix zg v65 v67).2.2.2.2.2.1):Int) != v3 then some (false,()) else bif ((List.length (ix zg v65 v67).2.2.2.2.2.2.1):Int) != v3 then some (false,()) else k0 (v3,v65,v66,wI (v67 + 1),o0))) else some (true,())
abbrev zik (K:Nat):zcj→Option (Bool × Unit):=zl zeI K
theorem zyj (K:Nat):∀ n,evV Es7 K Tryz.f82 0 (ch [.bool]) [1,1,1,0,1,0] [] zyi n = zl zeI n:=zt fun n0 (v3,v65,v66,v67,o0)=>by kernel_rfl
def zgH (L0:zcj→Option (Bool × Unit)):(qJ × Unit)→Option (Bool × Unit):=fun (x0,()) =>
 Option.bind (jJ (x0.1,())) fun q0=>bif q0.1 then bif ((List.length x0.2.1.2.1):Int) != ((List.length x0.1.1):Int) then some (false,()) else bif ((List.length x0.2.1.2.2.2.1):Int) != x0.1.2.2.2.2.2.1 then some (false,()) else bif decide (((List.length x0.2.1.2.2.2.2.1):Int) > x0.1.2.2.2.2.2.2.1) then some (false,()) else bif ((List.length x0.2.1.2.2.2.2.2.1):Int) != ((List.length x0.1.2.1):Int) then some (false,()) else bif decide (x0.2.1.1 > 4611686018427387904) then some (false,()) else L0 (((List.length x0.1.2.2.1):Int),x0.2.1.2.1,((List.length x0.2.1.2.1):Int),0,x0) else some (false,())
def zbC:(qJ × Unit)→Option (Bool × Unit):=zgH (zik K0)
abbrev zrm:Fun:=⟨82,(ch [qf]),(ch [.bool]),0,zbC⟩
theorem zBz:Sq zrm:=ml7 (d:=false) (S:=fun K=>zgH (zik K)) Tryz.func82 (by kernel_rfl) (fun K=>tr1 (T:=zgH) (zyj K K) fun (x0,())=>by kernel_rfl) rfl
def zbD:(qJ × Unit)→Option (Bool × Unit):=fun (x0,()) =>
 Option.bind (zfZ (x0.2.1.2.1,some zeH,())) fun q0=>bif q0.1 then some (true,()) else some (false,())
abbrev zrn:Fun:=⟨83,(ch [qf]),(ch [.bool]),0,zbD⟩
theorem zBA:Sq zrn:=ms7 (d:=false) (K:=0) Tryz.func83 (by kernel_rfl) (funext fun (x0,())=>by kernel_rfl)
abbrev zdm:Type:=(Option ((Int × Unit)→Option (Bool × Unit))) × (List (List Int)) × Int × Int × za
abbrev zzV:zdm→St:=fun (v5,v19,v20,v21,o0)=>St.mk [(2,.bp 0 []),(5,.dat (.fn (.pair tI .unit) (.pair .bool .unit)) v5),(19,.dat (.sl (.sl tI)) v19),(20,.dat tI v20),(21,.dat tI v21)] [.bx (.dat zm o0) false]
def zfD (k0:zdm→Option (Bool × Unit)):zdm→Option (Bool × Unit):=fun (v5,v19,v20,v21,o0) =>
 bif decide (v21 < v20) then inR v21 ((List.length v19):Int) (bif ((List.length (List.getD v19 (Int.toNat v21) ([]:List Int))):Int) != ((List.length o0.2.2.1):Int) then some (false,()) else Option.bind (qm (List.getD v19 (Int.toNat v21) ([]:List Int),v5,())) fun q1=>bif q1.1 then some (false,()) else inR v21 ((List.length o0.2.2.2.1):Int) (inR (ix zJ o0.2.2.2.1 v21).2.1 ((List.length (List.getD v19 (Int.toNat v21) ([]:List Int))):Int) (bif List.getD (List.getD v19 (Int.toNat v21) ([]:List Int)) (Int.toNat (ix zJ o0.2.2.2.1 v21).2.1) (0:Int) != 2 then some (false,()) else k0 (v5,v19,v20,wI (v21 + 1),o0)))) else some (true,())
abbrev zjc (K:Nat):zdm→Option (Bool × Unit):=zl zfD K
theorem zzW (K:Nat):∀ n,evV Es7 K Tryz.f144 0 (ch [.bool]) [1,1,1,0,1,0] [] zzV n = zl zfD n:=zt fun n0 (v5,v19,v20,v21,o0)=>by kernel_rfl
def zil (L0:zdm→Option (Bool × Unit)):(za × ((List (List Int)) × Unit))→Option (Bool × Unit):=fun (x0,x1,()) =>
 Option.bind (jJ (x0,())) fun q0=>bif q0.1 then bif ((List.length x1):Int) != ((List.length x0.2.2.2.1):Int) then some (false,()) else L0 (some zaO,x1,((List.length x1):Int),0,x0) else some (false,())
def zdn:(za × (List (List Int)) × Unit)→Option (Bool × Unit):=zil (zjc K0)
abbrev zto:Fun:=⟨144,(ch [zm,(.sl (.sl tI))]),(ch [.bool]),0,zdn⟩
theorem zDS:Sq zto:=ml7 (d:=false) (S:=fun K=>zil (zjc K)) Tryz.func144 (by kernel_rfl) (fun K=>tr1 (T:=zil) (zzW K K) fun (x0,x1,())=>by kernel_rfl) rfl
def vY:(za × (Int × Unit))→Option (Bool × Unit):=fun (x0,x1,()) =>
 Option.bind (jJ (x0,())) fun q0=>bif q0.1 then Option.bind (qg (x1,0,wI (((List.length x0.1):Int) - 1),())) fun q1=>bif q1.1 then some (true,()) else some (false,()) else some (false,())
abbrev znE:Fun:=⟨92,(ch [zm,tI]),(ch [.bool]),0,vY⟩
theorem zyk:Sq znE:=ms7 (d:=false) (K:=0) Tryz.func92 (by kernel_rfl) (funext fun (x0,x1,())=>by kernel_rfl)
abbrev zfc:Type:=(List zN) × Int × Int × za × List (List Int) × Nat
abbrev zDT:zfc→St:=fun (v11,v12,v13,o0,o1,c1)=>St.mk [(1,.bp 0 []),(3,.ow 1),(11,.dat (.sl jc) v11),(12,.dat tI v12),(13,.dat tI v13)] [.bx (.dat zm o0) false,.drow (.sl tI) o1 c1]
def zfd (k0:zfc→Option ((List (List Int)) × Unit)):zfc→Option ((List (List Int)) × Unit):=fun (v11,v12,v13,o0,o1,c1) =>
 bif decide (v13 < v12) then inR v13 ((List.length v11):Int) (bif decide (((List.length o0.2.2.1):Int) ≤ ((List.length o0.2.2.1):Int)) then bif decide (((List.length o0.2.2.1):Int) ≤ (↑lim:Int)) then inR (ix zJ v11 v13).2.1 ((List.length (List.replicate (Int.toNat ((List.length o0.2.2.1):Int)) (0:Int))):Int) (bif decide (List.length o1 + List.length [List.set (List.replicate (Int.toNat ((List.length o0.2.2.1):Int)) (0:Int)) (Int.toNat (ix zJ v11 v13).2.1) 2] ≤ lim) then bif decide (c1 = List.length o1) then k0 (v11,v12,wI (v13 + 1),o0,o1 ++ [List.set (List.replicate (Int.toNat ((List.length o0.2.2.1):Int)) (0:Int)) (Int.toNat (ix zJ v11 v13).2.1) 2],c1 + (0 + 1)) else none else none) else none else none) else bif decide (c1 = List.length o1) then some (o1,()) else none
abbrev ztp (K:Nat):zfc→Option ((List (List Int)) × Unit):=zl zfd K
theorem zDU (K:Nat):∀ n,evV Ed7 K Tryz.f114 4 (ch [(.sl (.sl tI))]) [1,1,1,0,1,0] [] zDT n = zl zfd n:=zt fun n0 (v11,v12,v13,o0,o1,c1)=>by kernel_rfl
def zk4 (L0:zfc→Option ((List (List Int)) × Unit)):(za × Unit)→Option ((List (List Int)) × Unit):=fun (x0,()) =>
 Option.bind (jJ (x0,())) fun q0=>bif q0.1 then L0 (x0.2.2.2.1,((List.length x0.2.2.2.1):Int),0,x0,[],0) else some ([],())
def zk5:(za × Unit)→Option ((List (List Int)) × Unit):=zk4 (ztp K0)
abbrev zyl:Fun:=⟨114,(ch [zm]),(ch [(.sl (.sl tI))]),4,zk5⟩
theorem zHt:Sq zyl:=ml7 (d:=true) (S:=fun K=>zk4 (ztp K)) Tryz.func114 (by kernel_rfl) (fun K=>tr1 (T:=zk4) (zDU K K) fun (x0,())=>by kernel_rfl) rfl
def zro:(za × (zr × Unit))→Option (Int × Unit):=fun (x0,x1,()) =>
 Option.bind (jJ (x0,())) fun q0=>bif q0.1 then Option.bind (zdH (x0.1,x1,())) fun q1=>some (q1.1,()) else some ((-1),())
abbrev zrp:Fun:=⟨137,(ch [zm,zp]),(ch [tI]),0,zro⟩
theorem zBB:Sq zrp:=ms7 (d:=false) (K:=0) Tryz.func137 (by kernel_rfl) (funext fun (x0,x1,())=>by kernel_rfl)
abbrev zdo:Type:=(List Int) × Int × Int × za × zr × List Int
abbrev zzX:zdo→St:=fun (v18,v19,v20,o0,o1,o2)=>St.mk [(2,.bp 0 []),(3,.bp 1 []),(5,.ow 2),(18,.dat (.sl tI) v18),(19,.dat tI v19),(20,.dat tI v20)] [.bx (.dat zm o0) false,.bx (.dat zp o1) false,.row tI o2 false]
def zdp (k0:zdo→Option ((List Int) × Unit)):zdo→Option ((List Int) × Unit):=fun (v18,v19,v20,o0,o1,o2) =>
 bif decide (v20 < v19) then inR v20 ((List.length v18):Int) (inR (ix (0:Int) v18 v20) ((List.length o0.1):Int) (Option.bind (va (List.getD o0.1 (Int.toNat (ix (0:Int) v18 v20)) (ze zp),o1,())) fun q2=>bif q2.1 then bif decide (List.length o2 + List.length (zf (List.replicate 1 (0:Int)) 0 v20) ≤ lim) then k0 (v18,v19,wI (v20 + 1),o0,o1,o2 ++ zf (List.replicate 1 (0:Int)) 0 v20) else none else k0 (v18,v19,wI (v20 + 1),o0,o1,o2))) else some (o2,())
abbrev zpt (K:Nat):zdo→Option ((List Int) × Unit):=zl zdp K
theorem zzY (K:Nat):∀ n,evV Es7 K Tryz.f187 0 (ch [(.sl tI)]) [1,1,1,0,1,0] [] zzX n = zl zdp n:=zt fun n0 (v18,v19,v20,o0,o1,o2)=>by kernel_rfl
def zmh (L0:zdo→Option ((List Int) × Unit)):(za × (zr × Unit))→Option ((List Int) × Unit):=fun (x0,x1,()) =>
 Option.bind (jJ (x0,())) fun q0=>bif q0.1 then Option.bind (vj (x1,())) fun q1=>bif q1.1 then L0 (x0.2.1,((List.length x0.2.1):Int),0,x0,x1,[]) else some ([],()) else some ([],())
def zim:(za × zr × Unit)→Option ((List Int) × Unit):=zmh (zpt K0)
abbrev ztq:Fun:=⟨187,(ch [zm,zp]),(ch [(.sl tI)]),0,zim⟩
theorem zDV:Sq ztq:=ml7 (d:=false) (S:=fun K=>zmh (zpt K)) Tryz.func187 (by kernel_rfl) (fun K=>tr1 (T:=zmh) (zzY K K) fun (x0,x1,())=>by kernel_rfl) rfl
abbrev L8:List Fun:=zrm :: zrn :: zto :: znE :: zyl :: zrp :: ztq :: L7
theorem h8:Sds Tryz.prog E0 L8:=⟨zBz,zBA,zDS,zyk,zHt,zBB,zDV,h7⟩
theorem ms8 {d:Bool} {F:Fun} {f:Go.Func} {K:Nat} (hf:Tryz.prog.funcs[F.id]? = some f) (ho:jz f = true) (h:evF (En E0 d L8) K f F.md F.a F.r = F.spec):Sd Tryz.prog E0 F:=mkS h8 hf ho h
theorem ml8 {d:Bool} {F:Fun} {f:Go.Func} {S:Nat→F.a.I→Option F.r.I} (hf:Tryz.prog.funcs[F.id]? = some f) (ho:jz f = true) (h:∀ K,evF (En E0 d L8) K f F.md F.a F.r = S K) (e:S K0 = F.spec):Sd Tryz.prog E0 F:=mkS h8 hf ho ((h K0).trans e)
abbrev Es8:Env:=En E0 false L8
abbrev Ed8:Env:=En E0 true L8
def zaT:(qJ × Unit)→Option (Bool × Unit):=fun (x0,()) =>
 Option.bind (zdn (x0.1,x0.2.1.2.2.1,())) fun q0=>bif q0.1 then Option.bind (zmf (x0.2.1.2.2.2.1,())) fun q1=>bif q1.1 then Option.bind (zko (x0.2.1.2.2.2.2.1,())) fun q2=>bif q2.1 then Option.bind (zd6 (x0.2.1,ze zR,())) fun q3=>bif q3.1 then Option.bind (zf0 (x0.2.1.2.2.2.1,some fun z=>zdW (z.1,some x0,()),())) fun q4=>bif q4.1 then Option.bind (zcP (x0.2.1.2.2.2.2.1,some fun z=>za8 (z.1,some x0,()),())) fun q5=>bif q5.1 then Option.bind (y7 (x0.2.1.2.2.2.2.2.1,some fun z=>vm (z.1,some x0,()),())) fun q6=>bif q6.1 then some (true,()) else some (false,()) else Option.bind (y7 (x0.2.1.2.2.2.2.2.1,some fun z=>vm (z.1,some x0,()),())) fun q7=>bif q7.1 then some (false,()) else some (false,()) else Option.bind (zcP (x0.2.1.2.2.2.2.1,some fun z=>za8 (z.1,some x0,()),())) fun q8=>bif q8.1 then Option.bind (y7 (x0.2.1.2.2.2.2.2.1,some fun z=>vm (z.1,some x0,()),())) fun q9=>bif q9.1 then some (false,()) else some (false,()) else Option.bind (y7 (x0.2.1.2.2.2.2.2.1,some fun z=>vm (z.1,some x0,()),())) fun q10=>bif q10.1 then some (false,()) else some (false,()) else some (false,()) else some (false,()) else some (false,()) else some (false,())
abbrev zpu:Fun:=⟨84,(ch [qf]),(ch [.bool]),0,zaT⟩
theorem zzZ:Sq zpu:=ms8 (d:=false) (K:=0) Tryz.func84 (by kernel_rfl) (funext fun (x0,())=>by kernel_rfl)
def zeJ:(za × (Int × Unit))→Option (Int × Unit):=fun (x0,x1,()) =>
 Option.bind (vY (x0,x1,())) fun q0=>bif q0.1 then Option.bind (zaC (x0.2.2.2.1,some fun z=>zap (z.1,some x0,some x1,()),())) fun q1=>some (q1.1,()) else some ((-1),())
abbrev znF:Fun:=⟨232,(ch [zm,tI]),(ch [tI]),0,zeJ⟩
theorem zym:Sq znF:=ms8 (d:=false) (K:=0) Tryz.func232 (by kernel_rfl) (funext fun (x0,x1,())=>by kernel_rfl)
abbrev zbh:Type:=Int × (List zN) × Int × Int × za × List Int
abbrev zwp:zbh→St:=fun (v1,v14,v15,v16,o0,o1)=>St.mk [(1,.dat tI v1),(2,.bp 0 []),(5,.ow 1),(14,.dat (.sl jc) v14),(15,.dat tI v15),(16,.dat tI v16)] [.bx (.dat zm o0) false,.row tI o1 false]
def zbi (k0:zbh→Option ((List Int) × Unit)):zbh→Option ((List Int) × Unit):=fun (v1,v14,v15,v16,o0,o1) =>
 bif decide (v16 < v15) then inR v16 ((List.length v14):Int) (inR v1 ((List.length o0.1):Int) (Option.bind (zeV (ix zC o0.1 v1,())) fun q1=>Option.bind (jm (q1.1,(ix zJ v14 v16).1,())) fun q2=>bif q2.1 then bif decide (List.length o1 + List.length (zf (List.replicate 1 (0:Int)) 0 v16) ≤ lim) then k0 (v1,v14,v15,wI (v16 + 1),o0,o1 ++ zf (List.replicate 1 (0:Int)) 0 v16) else none else k0 (v1,v14,v15,wI (v16 + 1),o0,o1))) else some (o1,())
abbrev zmi (K:Nat):zbh→Option ((List Int) × Unit):=zl zbi K
theorem zwq (K:Nat):∀ n,evV Es8 K Tryz.f74 0 (ch [(.sl tI)]) [1,1,1,0,1,0] [] zwp n = zl zbi n:=zt fun n0 (v1,v14,v15,v16,o0,o1)=>by kernel_rfl
def zfE (L0:zbh→Option ((List Int) × Unit)):(za × (Int × Unit))→Option ((List Int) × Unit):=fun (x0,x1,()) =>
 Option.bind (vY (x0,x1,())) fun q0=>bif q0.1 then L0 (x1,x0.2.2.2.1,((List.length x0.2.2.2.1):Int),0,x0,[]) else some ([],())
def yF:(za × Int × Unit)→Option ((List Int) × Unit):=zfE (zmi K0)
abbrev zpv:Fun:=⟨74,(ch [zm,tI]),(ch [(.sl tI)]),0,yF⟩
theorem zz0:Sq zpv:=ml8 (d:=false) (S:=fun K=>zfE (zmi K)) Tryz.func74 (by kernel_rfl) (fun K=>tr1 (T:=zfE) (zwq K K) fun (x0,x1,())=>by kernel_rfl) rfl
def zen:(za × (Int × (Int × Unit)))→Option (Bool × Unit):=fun (x0,x1,x2,()) =>
 Option.bind (vY (x0,x1,())) fun q0=>bif q0.1 then Option.bind (vY (x0,x2,())) fun q1=>bif q1.1 then inR x1 ((List.length x0.1):Int) (inR x2 ((List.length x0.1):Int) (Option.bind (va (ix zC x0.1 x1,ix zC x0.1 x2,())) fun q2=>bif q2.1 then some (true,()) else some (false,()))) else some (false,()) else some (false,())
abbrev zu3:Fun:=⟨47,(ch [zm,tI,tI]),(ch [.bool]),0,zen⟩
theorem zFD:Sq zu3:=ms8 (d:=false) (K:=0) Tryz.func47 (by kernel_rfl) (funext fun (x0,x1,x2,())=>by kernel_rfl)
abbrev zec:Type:=Int × Int × Int × Int × List zi × Nat × List (List Int) × Nat × List zq × List zG × List Int × List zi × Nat × List (List Int) × Nat × List zq × List zG × List Int
abbrev zrq:zec→St:=fun (v42,v43,o0_0,o1_0,o2,c2,o3,c3,o4,o5,o6,o7,c7,o8,c8,o9,o10,o11)=>St.mk [(2,.bp 0 []),(4,.bp 1 []),(42,.dat tI v42),(43,.dat tI v43)] [.bx (.fld (.pair tU (.pair (.sl zn) (.pair (.sl (.sl tI)) (.pair (.sl zo) (.pair (.sl zx) (.pair (.sl tI) .unit)))))) [.dat tU o0_0,.ow 2,.ow 3,.ow 4,.ow 5,.ow 6]) false,.bx (.fld (.pair tU (.pair (.sl zn) (.pair (.sl (.sl tI)) (.pair (.sl zo) (.pair (.sl zx) (.pair (.sl tI) .unit)))))) [.dat tU o1_0,.ow 7,.ow 8,.ow 9,.ow 10,.ow 11]) false,.drow zn o2 c2,.drow (.sl tI) o3 c3,.row zo o4 false,.row zx o5 false,.row tI o6 false,.drow zn o7 c7,.drow (.sl tI) o8 c8,.row zo o9 false,.row zx o10 false,.row tI o11 false]
abbrev zed:Type:=(List zbQ) × Int × Int × za × Int × Int × List zi × Nat × List (List Int) × Nat × List zq × List zG × List Int × List zi × Nat × List (List Int) × Nat × List zq × List zG × List Int
abbrev zBC:zed→St:=fun (v18,v19,v20,o0,o1_0,o2_0,o3,c3,o4,c4,o5,o6,o7,o8,c8,o9,c9,o10,o11,o12)=>St.mk [(1,.bp 0 []),(2,.bp 1 []),(4,.bp 2 []),(18,.dat (.sl zcX) v18),(19,.dat tI v19),(20,.dat tI v20)] [.bx (.dat zm o0) false,.bx (.fld (.pair tU (.pair (.sl zn) (.pair (.sl (.sl tI)) (.pair (.sl zo) (.pair (.sl zx) (.pair (.sl tI) .unit)))))) [.dat tU o1_0,.ow 3,.ow 4,.ow 5,.ow 6,.ow 7]) false,.bx (.fld (.pair tU (.pair (.sl zn) (.pair (.sl (.sl tI)) (.pair (.sl zo) (.pair (.sl zx) (.pair (.sl tI) .unit)))))) [.dat tU o2_0,.ow 8,.ow 9,.ow 10,.ow 11,.ow 12]) false,.drow zn o3 c3,.drow (.sl tI) o4 c4,.row zo o5 false,.row zx o6 false,.row tI o7 false,.drow zn o8 c8,.drow (.sl tI) o9 c9,.row zo o10 false,.row zx o11 false,.row tI o12 false]
def zee (k1:zec→Option (zd × (Int × Unit))):zec→Option (zd × (Int × Unit)):=fun (v42,v43,o0_0,o1_0,o2,c2,o3,c3,o4,o5,o6,o7,c7,o8,c8,o9,o10,o11) =>
 bif decide (v43 < v42) then bif decide (List.length o11 + List.length (zf (List.replicate 1 (0:Int)) 0 (-1)) ≤ lim) then k1 (v42,wI (v43 + 1),o0_0,o1_0,o2,c2,o3,c3,o4,o5,o6,o7,c7,o8,c8,o9,o10,o11 ++ zf (List.replicate 1 (0:Int)) 0 (-1)) else none else bif decide (c7 = List.length o7) then bif decide (c8 = List.length o8) then some ((o1_0,o7,o8,o9,o10,o11,()),0,()) else none else none
abbrev zef (K:Nat):zec→Option (zd × (Int × Unit)):=zl zee K
theorem zBD (K:Nat):∀ n,evV Ed8 K Tryz.f62 3 (ch [zz,tI]) [1,1,1,1,1,0,1,0] [] zrq n = zl zee n:=zt fun n1 (v42,v43,o0_0,o1_0,o2,c2,o3,c3,o4,o5,o6,o7,c7,o8,c8,o9,o10,o11)=>by kernel_rfl
def zbE (L1:zec→Option (zd × (Int × Unit))) (k0:zed→Option (zd × (Int × Unit))):zed→Option (zd × (Int × Unit)):=fun (v18,v19,v20,o0,o1_0,o2_0,o3,c3,o4,c4,o5,o6,o7,o8,c8,o9,c9,o10,o11,o12) =>
 bif decide (v20 < v19) then inR v20 ((List.length v18):Int) (Option.bind (zgz (o0,ix j4 v18 v20,())) fun q2=>bif decide (List.length o8 + List.length [(q2.1.1,q2.1.2.1,q2.1.2.2.1,q2.1.2.2.2.1,q2.1.2.2.2.2.1,q2.1.2.2.2.2.2.1,q2.1.2.2.2.2.2.2.1,q2.1.2.2.2.2.2.2.2.1,q2.1.2.2.2.2.2.2.2.2.1,())] ≤ lim) then bif decide (c8 = List.length o8) then k0 (v18,v19,wI (v20 + 1),o0,o1_0,o2_0,o3,c3,o4,c4,o5,o6,o7,o8 ++ [(q2.1.1,q2.1.2.1,q2.1.2.2.1,q2.1.2.2.2.1,q2.1.2.2.2.2.1,q2.1.2.2.2.2.2.1,q2.1.2.2.2.2.2.2.1,q2.1.2.2.2.2.2.2.2.1,q2.1.2.2.2.2.2.2.2.2.1,())],c8 + (0 + 1),o9,c9,o10,o11,o12) else none else none) else bif decide (0 < ((List.length o8):Int)) then bif decide (c8 ≤ Int.toNat 0) then bif decide (0 < ((List.length (ix zg o8 0).1):Int)) then none else none else bif decide (0 < ((List.length (ix zg o8 0).1):Int)) then L1 (((List.length o0.2.1):Int),0,o1_0,o2_0,o3,c3,o4,c4,o5,o6,o7,List.set o8 (Int.toNat 0) (List.set (ix zg o8 0).1 (Int.toNat 0) (true,ByteArray.mk #[112,108,97,122,97],(ze qk).2.2),(ix zg o8 0).2),c8,o9,c9,o10,o11,o12) else none else none
abbrev zrr (K:Nat):zed→Option (zd × (Int × Unit)):=zl (fun k0=>zbE (zef K) k0) K
theorem zBE (K:Nat):∀ n,evV Ed8 K Tryz.f62 3 (ch [zz,tI]) [1,1,1,0,1,0] [] zBC n = zl (fun k0=>zbE (zef K) k0) n:=zhb (B:=fun L1 k0=>zbE L1 k0) (V1:=fun n0=>evV Ed8 K Tryz.f62 3 (ch [zz,tI]) [1,1,1,1,1,0,1,0] [] zrq K) (W1:=fun k0=>(zef K)) (fun n0=>zBD K K) fun n0 (v18,v19,v20,o0,o1_0,o2_0,o3,c3,o4,c4,o5,o6,o7,o8,c8,o9,c9,o10,o11,o12)=>by kernel_rfl
def zjz (L0:zed→Option (zd × (Int × Unit))):(za × Unit)→Option (zd × (Int × Unit)):=fun (x0,()) =>
 Option.bind (jJ (x0,())) fun q0=>bif q0.1 then Option.bind (zk5 (x0,())) fun q1=>bif decide (0 ≤ x0.2.2.2.2.2.1) then bif decide (x0.2.2.2.2.2.1 ≤ x0.2.2.2.2.2.1) then bif decide (x0.2.2.2.2.2.1 ≤ (↑lim:Int)) then L0 (x0.2.2.2.2.1,((List.length x0.2.2.2.2.1):Int),0,x0,0,0,[],0,[],0,[],[],[],[],0,q1.1,List.length q1.1,List.replicate (Int.toNat x0.2.2.2.2.2.1) (ze zo),[],[]) else none else none else none else some ((0,[],[],[],[],[],()),1,())
def zgp:(za × Unit)→Option (zd × Int × Unit):=zjz (zrr K0)
abbrev zu4:Fun:=⟨62,(ch [zm]),(ch [zz,tI]),3,zgp⟩
theorem zFE:Sq zu4:=ml8 (d:=true) (S:=fun K=>zjz (zrr K)) Tryz.func62 (by kernel_rfl) (fun K=>tr1 (T:=zjz) (zBE K K) fun (x0,())=>by kernel_rfl) rfl
def zpw:(za × (Int × Unit))→Option (Int × Unit):=fun (x0,x1,()) =>
 Option.bind (jJ (x0,())) fun q0=>bif q0.1 then Option.bind (qg (x1,0,wI (((List.length x0.2.2.2.1):Int) - 1),())) fun q1=>bif q1.1 then inR x1 ((List.length x0.2.2.2.1):Int) (Option.bind (za0 ((ix zJ x0.2.2.2.1 x1).1,())) fun q2=>Option.bind (zro (x0,q2.1,())) fun q3=>some (q3.1,())) else some ((-1),()) else some ((-1),())
abbrev zpx:Fun:=⟨81,(ch [zm,tI]),(ch [tI]),0,zpw⟩
theorem zz1:Sq zpx:=ms8 (d:=false) (K:=0) Tryz.func81 (by kernel_rfl) (funext fun (x0,x1,())=>by kernel_rfl)
def zjA:(za × (Int × (zr × Unit)))→Option (Bool × Unit):=fun (x0,x1,x2,()) =>
 Option.bind (zim (x0,x2,())) fun q0=>Option.bind (jm (q0.1,x1,())) fun q1=>bif q1.1 then some (true,()) else some (false,())
abbrev zu5:Fun:=⟨91,(ch [zm,tI,zp]),(ch [.bool]),0,zjA⟩
theorem zFF:Sq zu5:=ms8 (d:=false) (K:=0) Tryz.func91 (by kernel_rfl) (funext fun (x0,x1,x2,())=>by kernel_rfl)
abbrev L9:List Fun:=zpu :: znF :: zpv :: zu3 :: zu4 :: zpx :: zu5 :: L8
theorem h9:Sds Tryz.prog E0 L9:=⟨zzZ,zym,zz0,zFD,zFE,zz1,zFF,h8⟩
theorem ms9 {d:Bool} {F:Fun} {f:Go.Func} {K:Nat} (hf:Tryz.prog.funcs[F.id]? = some f) (ho:jz f = true) (h:evF (En E0 d L9) K f F.md F.a F.r = F.spec):Sd Tryz.prog E0 F:=mkS h9 hf ho h
theorem ml9 {d:Bool} {F:Fun} {f:Go.Func} {S:Nat→F.a.I→Option F.r.I} (hf:Tryz.prog.funcs[F.id]? = some f) (ho:jz f = true) (h:∀ K,evF (En E0 d L9) K f F.md F.a F.r = S K) (e:S K0 = F.spec):Sd Tryz.prog E0 F:=mkS h9 hf ho ((h K0).trans e)
abbrev Es9:Env:=En E0 false L9
abbrev zck:Type:=Bool × Int × Int × List (Option (Unit→Option (Bool × Unit)))
abbrev zyn:zck→St:=fun (v6,v27,v28,o0)=>St.mk [(6,.dat .bool v6),(26,.ow 0),(27,.dat tI v27),(28,.dat tI v28)] [.row (.fn .unit (.pair .bool .unit)) o0 false]
def zeK (k0:zck→Option (Bool × Unit)):zck→Option (Bool × Unit):=fun (v6,v27,v28,o0) =>
 bif decide (v28 < v27) then inR v28 ((List.length o0):Int) (Option.bind (List.getD o0 (Int.toNat v28) (ze (.fn .unit (.pair .bool .unit)))) fun q0=>Option.bind (q0 ()) fun q1=>bif q1.1 then k0 (true,v27,wI (v28 + 1),o0) else some (false,())) else some (v6,())
abbrev znG (K:Nat):zck→Option (Bool × Unit):=zl zeK K
theorem zyo (K:Nat):∀ n,evV Es9 K Tryz.f30 0 (ch [.bool]) [1,0,1,1,1,0,1,0] [] zyn n = zl zeK n:=zt fun n0 (v6,v27,v28,o0)=>by kernel_rfl
def zks (L0:zck→Option (Bool × Unit)):(za × (zd × Unit))→Option (Bool × Unit):=fun (x0,x1,()) =>
 L0 (true,((List.length (zf (zf (zf (zf (zf (zf (zf (List.replicate 7 (ze (.fn .unit (.pair .bool .unit)))) 0 (some fun z=>zbC ((x0,x1,(ze qf).2.2),()))) 1 (some fun z=>zbD ((x0,x1,(ze qf).2.2),()))) 2 (some fun z=>zaT ((x0,x1,(ze qf).2.2),()))) 3 (some fun z=>zd8 ((x0,x1,(ze qf).2.2),()))) 4 (some fun z=>zaR ((x0,x1,(ze qf).2.2),()))) 5 (some fun z=>zd7 ((x0,x1,(ze qf).2.2),()))) 6 (some fun z=>zeb ((x0,x1,(ze qf).2.2),())))):Int),0,[some fun z=>zbC ((x0,x1,(ze qf).2.2),()),some fun z=>zbD ((x0,x1,(ze qf).2.2),()),some fun z=>zaT ((x0,x1,(ze qf).2.2),()),some fun z=>zd8 ((x0,x1,(ze qf).2.2),()),some fun z=>zaR ((x0,x1,(ze qf).2.2),()),some fun z=>zd7 ((x0,x1,(ze qf).2.2),()),some fun z=>zeb ((x0,x1,(ze qf).2.2),())])
def zeg:(za × zd × Unit)→Option (Bool × Unit):=zks (znG K0)
abbrev zrs:Fun:=⟨30,(ch [zm,zz]),(ch [.bool]),0,zeg⟩
theorem zBF:Sq zrs:=ml9 (d:=false) (S:=fun K=>zks (znG K)) Tryz.func30 (by kernel_rfl) (fun K=>tr1 (T:=zks) (zyo K K) fun (x0,x1,())=>by kernel_rfl) rfl
def zfF:(za × ((List (List Int)) × (Int × (Int × Unit))))→Option (Bool × Unit):=fun (x0,x1,x2,x3,()) =>
 Option.bind (zdn (x0,x1,())) fun q0=>bif q0.1 then Option.bind (zdw (x2,((List.length x0.2.2.1):Int),())) fun q1=>bif q1.1 then Option.bind (zdw (x3,((List.length x0.1):Int),())) fun q2=>bif q2.1 then inR x2 ((List.length x0.2.2.1):Int) (inR x3 ((List.length x0.1):Int) (bif decide ((ix zeU x0.2.2.1 x2).2.2.1 ≥ (ix zC x0.1 x3).1) then Option.bind (yF (x0,x3,())) fun q3=>Option.bind (qm (q3.1,some fun z=>za3 (z.1,some x1,some x2,()),())) fun q4=>bif q4.1 then some (false,()) else some (true,()) else some (false,()))) else some (false,()) else some (false,()) else some (false,())
abbrev zpy:Fun:=⟨233,(ch [zm,(.sl (.sl tI)),tI,tI]),(ch [.bool]),0,zfF⟩
theorem zz2:Sq zpy:=ms9 (d:=false) (K:=0) Tryz.func233 (by kernel_rfl) (funext fun (x0,x1,x2,x3,())=>by kernel_rfl)
abbrev zeh:Type:=(Option ((pMe × Unit)→Option (Bool × Unit))) × (List Int) × Int × Int × za × pMe × List Int
abbrev zBG:zeh→St:=fun (v3,v14,v15,v16,o0,o1,o2)=>St.mk [(3,.dat (.fn (.pair tMe .unit) (.pair .bool .unit)) v3),(4,.bp 0 []),(6,.bp 1 []),(9,.ow 2),(14,.dat (.sl tI) v14),(15,.dat tI v15),(16,.dat tI v16)] [.bx (.dat zm o0) false,.bx (.dat tMe o1) false,.row tI o2 false]
def zei (k0:zeh→Option ((List Int) × Unit)):zeh→Option ((List Int) × Unit):=fun (v3,v14,v15,v16,o0,o1,o2) =>
 bif decide (v16 < v15) then inR v16 ((List.length v14):Int) (inR v16 ((List.length o0.2.1):Int) (bif v16 == o1.1 then k0 (v3,v14,v15,wI (v16 + 1),o0,o1,o2) else bif decide (ix (0:Int) v14 v16 < 0) then k0 (v3,v14,v15,wI (v16 + 1),o0,o1,o2) else Option.bind (zen (o0,o1.2.1,ix (0:Int) o0.2.1 v16,())) fun q0=>bif q0.1 then Option.bind v3 fun q1=>Option.bind (q1 ((v16,ix (0:Int) o0.2.1 v16,ix (0:Int) v14 v16,(ze tMe).2.2.2),())) fun q2=>bif q2.1 then bif decide (List.length o2 + List.length (zf (List.replicate 1 (0:Int)) 0 v16) ≤ lim) then k0 (v3,v14,v15,wI (v16 + 1),o0,o1,o2 ++ zf (List.replicate 1 (0:Int)) 0 v16) else none else k0 (v3,v14,v15,wI (v16 + 1),o0,o1,o2) else k0 (v3,v14,v15,wI (v16 + 1),o0,o1,o2))) else some (o2,())
abbrev zkt (K:Nat):zeh→Option ((List Int) × Unit):=zl zei K
theorem zBH (K:Nat):∀ n,evV Es9 K Tryz.f69 0 (ch [(.sl tI)]) [1,0,1,1,0,1,0] [] zBG n = zl zei n:=zt fun n0 (v3,v14,v15,v16,o0,o1,o2)=>by kernel_rfl
def zol (L0:zeh→Option ((List Int) × Unit)):(za × (zd × (pMe × ((Option ((pMe × Unit)→Option (Bool × Unit))) × Unit))))→Option ((List Int) × Unit):=fun (x0,x1,x2,x3,()) =>
 L0 (x3,x1.2.2.2.2.2.1,((List.length x1.2.2.2.2.2.1):Int),0,x0,x2,[])
def zjB:(za × (zd × (pMe × ((Option ((pMe × Unit)→Option (Bool × Unit))) × Unit))))→Option ((List Int) × Unit):=zol (zkt K0)
abbrev zu6:Fun:=⟨69,(ch [zm,zz,tMe,(.fn (ch [tMe]) (ch [.bool]))]),(ch [(.sl tI)]),0,zjB⟩
theorem zFG:Sq zu6:=ml9 (d:=false) (S:=fun K=>zol (zkt K)) Tryz.func69 (by kernel_rfl) (fun K=>tr1 (T:=zol) (zBH K K) fun (x0,x1,x2,x3,())=>by kernel_rfl) rfl
def zgq:(za × (zd × (zr × Unit)))→Option (zd × (Int × Unit)):=fun (x0,x1,x2,()) =>
 Option.bind (zgp (x0,())) fun q0=>bif q0.2.1 != 0 then some ((0,[],[],[],[],[],()),1,()) else Option.bind (vj (x2,())) fun q1=>bif q1.1 then Option.bind (zjr (x0,x1,())) fun q2=>bif q2.1 then Option.bind (zew (x1.2.1,q0.1.2.1,some fun z=>zbB (z.1,some x0,some x2,()),())) fun q3=>Option.bind (ze5 (x1.2.2.1,q0.1.2.2.1,some fun z=>zgC (z.1,some x0,some x2,()),())) fun q4=>Option.bind (zfU (x1.2.2.2.2.2.1,q0.1.2.2.2.2.2.1,some fun z=>zgA (z.1,some (some fun z_1=>zbB (z_1.1,some x0,some x2,())),some x0,()),())) fun q5=>Option.bind (qQ ((x1.1,q3.1,q4.1,x1.2.2.2.1,x1.2.2.2.2.1,q5.1,x1.2.2.2.2.2.2),())) fun q6=>some (q6.1,0,()) else some ((0,[],[],[],[],[],()),1,()) else some ((0,[],[],[],[],[],()),1,())
abbrev zu7:Fun:=⟨89,(ch [zm,zz,zp]),(ch [zz,tI]),0,zgq⟩
theorem zFH:Sq zu7:=ms9 (d:=false) (K:=0) Tryz.func89 (by kernel_rfl) (funext fun (x0,x1,x2,())=>by kernel_rfl)
abbrev zcl:Type:=(List Int) × Int × za × zr × List Int
abbrev zyp:zcl→St:=fun (v1,v8,o0,o1,o2)=>St.mk [(1,.dat (.sl tI) v1),(3,.bp 0 []),(5,.bp 1 []),(7,.ow 2),(8,.dat tI v8)] [.bx (.dat zm o0) false,.bx (.dat zp o1) false,.row tI o2 false]
def zcm (k0:zcl→Option ((List Int) × Unit)):zcl→Option ((List Int) × Unit):=fun (v1,v8,o0,o1,o2) =>
 bif decide (v8 < ((List.length v1):Int)) then inR v8 ((List.length v1):Int) (Option.bind (zjA (o0,ix (0:Int) v1 v8,o1,())) fun q0=>bif q0.1 then inR v8 ((List.length v1):Int) (bif decide (List.length o2 + List.length (zf (List.replicate 1 (0:Int)) 0 (ix (0:Int) v1 v8)) ≤ lim) then k0 (v1,wI (v8 + 1),o0,o1,o2 ++ zf (List.replicate 1 (0:Int)) 0 (ix (0:Int) v1 v8)) else none) else k0 (v1,wI (v8 + 1),o0,o1,o2)) else some (o2,())
abbrev znH (K:Nat):zcl→Option ((List Int) × Unit):=zl zcm K
theorem zyq (K:Nat):∀ n,evV Es9 K Tryz.f34 0 (ch [(.sl tI)]) [1,1,0,1,0] [] zyp n = zl zcm n:=zt fun n0 (v1,v8,o0,o1,o2)=>by kernel_rfl
def zku (L0:zcl→Option ((List Int) × Unit)):(za × ((List Int) × (zr × Unit)))→Option ((List Int) × Unit):=fun (x0,x1,x2,()) =>
 L0 (x1,0,x0,x2,[])
def zj:(za × (List Int) × zr × Unit)→Option ((List Int) × Unit):=zku (znH K0)
abbrev zrt:Fun:=⟨34,(ch [zm,(.sl tI),zp]),(ch [(.sl tI)]),0,zj⟩
theorem zBI:Sq zrt:=ml9 (d:=false) (S:=fun K=>zku (znH K)) Tryz.func34 (by kernel_rfl) (fun K=>tr1 (T:=zku) (zyq K K) fun (x0,x1,x2,())=>by kernel_rfl) rfl
abbrev L10:List Fun:=zrs :: zpy :: zu6 :: zu7 :: zrt :: L9
theorem h10:Sds Tryz.prog E0 L10:=⟨zBF,zz2,zFG,zFH,zBI,h9⟩
theorem zLE {d:Bool} {F:Fun} {f:Go.Func} {K:Nat} (hf:Tryz.prog.funcs[F.id]? = some f) (ho:jz f = true) (h:evF (En E0 d L10) K f F.md F.a F.r = F.spec):Sd Tryz.prog E0 F:=mkS h10 hf ho h
theorem zMg {d:Bool} {F:Fun} {f:Go.Func} {S:Nat→F.a.I→Option F.r.I} (hf:Tryz.prog.funcs[F.id]? = some f) (ho:jz f = true) (h:∀ K,evF (En E0 d L10) K f F.md F.a F.r = S K) (e:S K0 = F.spec):Sd Tryz.prog E0 F:=mkS h10 hf ho ((h K0).trans e)
abbrev zMh:Env:=En E0 true L10
def jf:(za × (zd × (pMe × Unit)))→Option (Bool × Unit):=fun (x0,x1,x2,()) =>
 Option.bind (zeg (x0,x1,())) fun q0=>bif q0.1 then bif decide (x2.1 ≥ 0) then bif decide (x2.1 < ((List.length x0.2.1):Int)) then inR x2.1 ((List.length x0.2.1):Int) (bif x2.2.1 == ix (0:Int) x0.2.1 x2.1 then bif decide (x2.2.2.1 ≥ 0) then bif decide (x2.2.2.1 < ((List.length x0.2.2.1):Int)) then some (true,()) else some (false,()) else some (false,()) else some (false,())) else some (false,()) else some (false,()) else some (false,())
abbrev ztr:Fun:=⟨28,(ch [zm,zz,tMe]),(ch [.bool]),0,jf⟩
theorem zDW:Sq ztr:=zLE (d:=false) (K:=0) Tryz.func28 (by kernel_rfl) (funext fun (x0,x1,x2,())=>by kernel_rfl)
abbrev zfe:Type:=Int × Int × Int × (List (List Int)) × Int × Int × List (List Int) × Nat
abbrev zDX:zfe→St:=fun (v4,v14,v15,v92,v93,v94,o0,c0)=>St.mk [(4,.dat tI v4),(14,.dat tI v14),(15,.dat tI v15),(17,.ow 0),(92,.dat (.sl (.sl tI)) v92),(93,.dat tI v93),(94,.dat tI v94)] [.drow (.sl tI) o0 c0]
def zff (k0:zfe→Option ((List (List Int)) × (Int × Unit))):zfe→Option ((List (List Int)) × (Int × Unit)):=fun (v4,v14,v15,v92,v93,v94,o0,c0) =>
 bif decide (v94 < v93) then inR v94 ((List.length v92):Int) (Option.bind (yA (List.getD v92 (Int.toNat v94) ([]:List Int),())) fun q8=>bif decide (List.length o0 + List.length [q8.1] ≤ lim) then bif decide (c0 = List.length o0) then k0 (v4,v14,v15,v92,v93,wI (v94 + 1),o0 ++ [q8.1],c0 + (0 + 1)) else none else none) else inR v14 ((List.length o0):Int) (bif decide (c0 ≤ Int.toNat v14) then inR v4 ((List.length (List.getD o0 (Int.toNat v14) ([]:List Int))):Int) none else inR v4 ((List.length (List.getD o0 (Int.toNat v14) ([]:List Int))):Int) (some (List.set o0 (Int.toNat v14) (List.set (List.getD o0 (Int.toNat v14) ([]:List Int)) (Int.toNat v4) v15),0,())))
abbrev zin (K:Nat):zfe→Option ((List (List Int)) × (Int × Unit)):=zl zff K
theorem zDY (K:Nat):∀ n,evV zMh K Tryz.f127 0 (ch [(.sl (.sl tI)),tI]) [1,1,1,1,1,1,1,1,0,1,0] [] zDX n = zl zff n:=zt fun n0 (v4,v14,v15,v92,v93,v94,o0,c0)=>by kernel_rfl
def zk6 (L0:zfe→Option ((List (List Int)) × (Int × Unit))):(za × ((List (List Int)) × (Int × (Int × (Int × ((Option ((Int × (Bool × Unit))→Option (Int × (Int × Unit)))) × Unit))))))→Option ((List (List Int)) × (Int × Unit)):=fun (x0,x1,x2,x3,x4,x5,()) =>
 Option.bind (zdn (x0,x1,())) fun q0=>bif q0.1 then Option.bind (zdw (x2,((List.length x0.1):Int),())) fun q1=>bif q1.1 then Option.bind (zdw (x3,((List.length x0.2.2.1):Int),())) fun q2=>bif q2.1 then Option.bind (zdw (x4,((List.length x0.2.2.1):Int),())) fun q3=>bif q3.1 then Option.bind (zeJ (x0,x2,())) fun q4=>bif decide (q4.1 < 0) then some ([],17,()) else Option.bind (zfF (x0,x1,x3,x2,())) fun q5=>bif q5.1 then inR q4.1 ((List.length x1):Int) (inR x3 ((List.length (List.getD x1 (Int.toNat q4.1) ([]:List Int))):Int) (bif List.getD (List.getD x1 (Int.toNat q4.1) ([]:List Int)) (Int.toNat x3) (0:Int) != 2 then some ([],5,()) else inR q4.1 ((List.length x1):Int) (inR x4 ((List.length (List.getD x1 (Int.toNat q4.1) ([]:List Int))):Int) (inR q4.1 ((List.length x0.2.2.2.1):Int) (bif (ix zJ x0.2.2.2.1 q4.1).2.1 == x4 then Option.bind x5 fun q6=>Option.bind (q6 (List.getD (List.getD x1 (Int.toNat q4.1) ([]:List Int)) (Int.toNat x4) (0:Int),true,())) fun q7=>bif q7.2.1 != 0 then some ([],q7.2.1,()) else L0 (x4,q4.1,q7.1,x1,((List.length x1):Int),0,[],0) else Option.bind x5 fun q9=>Option.bind (q9 (List.getD (List.getD x1 (Int.toNat q4.1) ([]:List Int)) (Int.toNat x4) (0:Int),false,())) fun q10=>bif q10.2.1 != 0 then some ([],q10.2.1,()) else L0 (x4,q4.1,q10.1,x1,((List.length x1):Int),0,[],0)))))) else some ([],5,()) else some ([],1,()) else some ([],1,()) else some ([],1,()) else some ([],1,())
def zfG:(za × ((List (List Int)) × (Int × (Int × (Int × ((Option ((Int × Bool × Unit)→Option (Int × Int × Unit))) × Unit))))))→Option ((List (List Int)) × Int × Unit):=zk6 (zin K0)
abbrev zyr:Fun:=⟨127,(ch [zm,(.sl (.sl tI)),tI,tI,tI,(.fn (ch [tI,.bool]) (ch [tI,tI]))]),(ch [(.sl (.sl tI)),tI]),0,zfG⟩
theorem zHu:Sq zyr:=zMg (d:=true) (S:=fun K=>zk6 (zin K)) Tryz.func127 (by kernel_rfl) (fun K=>tr1 (T:=zk6) (zDY K K) fun (x0,x1,x2,x3,x4,x5,())=>by kernel_rfl) rfl
def qu:(za × (zd × (zd × (zr × Unit))))→Option (Bool × Unit):=fun (x0,x1,x2,x3,()) =>
 Option.bind (zgq (x0,x1,x3,())) fun q0=>Option.bind (zgq (x0,x2,x3,())) fun q1=>bif q0.2.1 == 0 then bif q1.2.1 == 0 then Option.bind (zia (q0.1,q1.1,())) fun q2=>bif q2.1 then some (true,()) else some (false,()) else some (false,()) else some (false,())
abbrev zu8:Fun:=⟨33,(ch [zm,zz,zz,zp]),(ch [.bool]),0,qu⟩
theorem zFI:Sq zu8:=zLE (d:=false) (K:=0) Tryz.func33 (by kernel_rfl) (funext fun (x0,x1,x2,x3,())=>by kernel_rfl)
abbrev L11:List Fun:=ztr :: zyr :: zu8 :: L10
theorem h11:Sds Tryz.prog E0 L11:=⟨zDW,zHu,zFI,h10⟩
theorem zom {d:Bool} {F:Fun} {f:Go.Func} {K:Nat} (hf:Tryz.prog.funcs[F.id]? = some f) (ho:jz f = true) (h:evF (En E0 d L11) K f F.md F.a F.r = F.spec):Sd Tryz.prog E0 F:=mkS h11 hf ho h
def zgI:(za × ((List (List Int)) × (Int × (Int × (Int × Unit)))))→Option ((List (List Int)) × (Int × Unit)):=fun (x0,x1,x2,x3,x4,()) =>
 Option.bind (zfG (x0,x1,x2,x3,x4,some zm8,())) fun q0=>some q0
abbrev zru:Fun:=⟨77,(ch [zm,(.sl (.sl tI)),tI,tI,tI]),(ch [(.sl (.sl tI)),tI]),0,zgI⟩
theorem zBJ:Sq zru:=zom (d:=false) (K:=0) Tryz.func77 (by kernel_rfl) (funext fun (x0,x1,x2,x3,x4,())=>by kernel_rfl)
def zio:(za × ((List (List Int)) × (Int × (Int × (Int × Unit)))))→Option ((List (List Int)) × (Int × Unit)):=fun (x0,x1,x2,x3,x4,()) =>
 Option.bind (zfG (x0,x1,x2,x3,x4,some zoU,())) fun q0=>some q0
abbrev zts:Fun:=⟨78,(ch [zm,(.sl (.sl tI)),tI,tI,tI]),(ch [(.sl (.sl tI)),tI]),0,zio⟩
theorem zDZ:Sq zts:=zom (d:=false) (K:=0) Tryz.func78 (by kernel_rfl) (funext fun (x0,x1,x2,x3,x4,())=>by kernel_rfl)
def ziq:(za × ((List (List Int)) × (Int × (Int × (Int × Unit)))))→Option ((List (List Int)) × (Int × Unit)):=fun (x0,x1,x2,x3,x4,()) =>
 Option.bind (zfG (x0,x1,x2,x3,x4,some zoW,())) fun q0=>some q0
abbrev ztt:Fun:=⟨79,(ch [zm,(.sl (.sl tI)),tI,tI,tI]),(ch [(.sl (.sl tI)),tI]),0,ziq⟩
theorem zD0:Sq ztt:=zom (d:=false) (K:=0) Tryz.func79 (by kernel_rfl) (funext fun (x0,x1,x2,x3,x4,())=>by kernel_rfl)
def zaL:(za × (zd × (pMe × (Int × Unit))))→Option (zd × (Int × Unit)):=fun (x0,x1,x2,x3,()) =>
 Option.bind (jf (x0,x1,x2,())) fun q0=>bif q0.1 then Option.bind (zc7 (x1,x2,())) fun q1=>Option.bind (zjy (q1.1,x3,x2.2.2.1,())) fun q2=>bif q2.2.1 != 0 then some ((0,[],[],[],[],[],()),q2.2.1,()) else Option.bind (qQ (x1,())) fun q3=>inR x2.2.1 ((List.length q3.1.2.1):Int) (some ((u1 q3.1 (List.set q3.1.2.1 (Int.toNat x2.2.1) (u3 (ix zg q3.1.2.1 x2.2.1) q2.1))),0,())) else some ((0,[],[],[],[],[],()),1,())
abbrev zu9:Fun:=⟨10,(ch [zm,zz,tMe,tI]),(ch [zz,tI]),0,zaL⟩
theorem zFJ:Sq zu9:=zom (d:=true) (K:=0) Tryz.func10 (by kernel_rfl) (funext fun (x0,x1,x2,x3,())=>by kernel_rfl)
def yM:(za × (zd × (pMe × (Int × (Int × (ByteArray × Unit))))))→Option (zd × (Int × Unit)):=fun (x0,x1,x2,x3,x4,x5,()) =>
 Option.bind (jf (x0,x1,x2,())) fun q0=>bif q0.1 then bif decide (x3 < 0) then some ((0,[],[],[],[],[],()),1,()) else bif decide (x3 ≥ ((List.length x0.1):Int)) then some ((0,[],[],[],[],[],()),1,()) else bif decide (x4 < 0) then some ((0,[],[],[],[],[],()),1,()) else bif decide (x4 ≥ ((List.length x0.2.2.1):Int)) then some ((0,[],[],[],[],[],()),1,()) else Option.bind (zen (x0,x2.2.1,x3,())) fun q1=>bif q1.1 then inR x3 ((List.length x1.2.1):Int) (Option.bind (zk3 ((ix zg x1.2.1 x3).2.2.2.1,((ze zy).1,x2.2.1,x2.2.2.1,x4,x5,(ze zy).2.2.2.2.2),())) fun q2=>Option.bind (qQ (x1,())) fun q3=>bif q2.2.2.1 == 0 then inR x3 ((List.length q3.1.2.1):Int) (some ((u1 q3.1 (List.set q3.1.2.1 (Int.toNat x3) (u3 (ix zg q3.1.2.1 x3) q2.1))),0,())) else bif q2.2.2.1 == 2 then some ((0,[],[],[],[],[],()),q2.2.2.1,()) else bif x3 == x2.2.1 then some ((0,[],[],[],[],[],()),q2.2.2.1,()) else some (q3.1,0,())) else some ((0,[],[],[],[],[],()),5,()) else some ((0,[],[],[],[],[],()),1,())
abbrev zva:Fun:=⟨8,(ch [zm,zz,tMe,tI,tI,.str]),(ch [zz,tI]),0,yM⟩
theorem zFK:Sq zva:=zom (d:=true) (K:=0) Tryz.func8 (by kernel_rfl) (funext fun (x0,x1,x2,x3,x4,x5,())=>by kernel_rfl)
def ztu:(za × (zd × (pMe × Unit)))→Option ((List Int) × (Int × Unit)):=fun (x0,x1,x2,()) =>
 Option.bind (jf (x0,x1,x2,())) fun q0=>bif q0.1 then Option.bind (zc7 (x1,x2,())) fun q1=>Option.bind (zth (q1.1,x2.2.2.1,())) fun q2=>some (q2.1,0,()) else some ([],1,())
abbrev ztv:Fun:=⟨14,(ch [zm,zz,tMe]),(ch [(.sl tI),tI]),0,ztu⟩
theorem zD1:Sq ztv:=zom (d:=false) (K:=0) Tryz.func14 (by kernel_rfl) (funext fun (x0,x1,x2,())=>by kernel_rfl)
def zrv:(za × (zd × (pMe × (Int × Unit))))→Option (zw × (Int × Unit)):=fun (x0,x1,x2,x3,()) =>
 Option.bind (jf (x0,x1,x2,())) fun q0=>bif q0.1 then Option.bind (zc7 (x1,x2,())) fun q1=>Option.bind (zif (q1.1,x3,x2.2.2.1,())) fun q2=>some q2 else some ((false,0,0,0,ByteArray.mk #[],()),1,())
abbrev zrw:Fun:=⟨12,(ch [zm,zz,tMe,tI]),(ch [zy,tI]),0,zrv⟩
theorem zBK:Sq zrw:=zom (d:=false) (K:=0) Tryz.func12 (by kernel_rfl) (funext fun (x0,x1,x2,x3,())=>by kernel_rfl)
def zcn:(za × (zd × (pMe × (ByteArray × Unit))))→Option ((List Int) × (Int × Unit)):=fun (x0,x1,x2,x3,()) =>
 Option.bind (jf (x0,x1,x2,())) fun q0=>bif q0.1 then Option.bind (zcE (x3,())) fun q1=>bif q1.1 then Option.bind (zjB (x0,x1,x2,some fun z=>ze3 (z.1,some (some fun z_1=>vc (z_1.1,some x1,())),some x2,()),())) fun q2=>some (q2.1,0,()) else some ([],2,()) else some ([],1,())
abbrev zys:Fun:=⟨20,(ch [zm,zz,tMe,.str]),(ch [(.sl tI),tI]),0,zcn⟩
theorem zHv:Sq zys:=zom (d:=false) (K:=0) Tryz.func20 (by kernel_rfl) (funext fun (x0,x1,x2,x3,())=>by kernel_rfl)
def yX:(za × (zd × (pMe × (Int × (ByteArray × Unit)))))→Option ((List Int) × (Int × Unit)):=fun (x0,x1,x2,x3,x4,()) =>
 Option.bind (jf (x0,x1,x2,())) fun q0=>bif q0.1 then Option.bind (zc8 (x0,x3,())) fun q1=>bif q1.1 then Option.bind (yF (x0,x2.2.1,())) fun q2=>Option.bind (jm (q2.1,x3,())) fun q3=>bif q3.1 then Option.bind (zcE (x4,())) fun q4=>bif q4.1 then Option.bind (zjB (x0,x1,x2,some zi5,())) fun q5=>some (q5.1,0,()) else some ([],2,()) else some ([],5,()) else some ([],1,()) else some ([],1,())
abbrev ztw:Fun:=⟨22,(ch [zm,zz,tMe,tI,.str]),(ch [(.sl tI),tI]),0,yX⟩
theorem zD2:Sq ztw:=zom (d:=false) (K:=0) Tryz.func22 (by kernel_rfl) (funext fun (x0,x1,x2,x3,x4,())=>by kernel_rfl)
def zpz:(za × (zd × (pMe × (Int × Unit))))→Option ((List Int) × (Int × Unit)):=fun (x0,x1,x2,x3,()) =>
 Option.bind (jf (x0,x1,x2,())) fun q0=>bif q0.1 then Option.bind (zc8 (x0,x3,())) fun q1=>bif q1.1 then Option.bind (zpw (x0,x3,())) fun q2=>Option.bind (zen (x0,q2.1,x2.2.1,())) fun q3=>bif q3.1 then inR x3 ((List.length x1.2.2.1):Int) (Option.bind (yA (List.getD x1.2.2.1 (Int.toNat x3) ([]:List Int),())) fun q4=>some (q4.1,0,())) else some ([],5,()) else some ([],1,()) else some ([],1,())
abbrev zpA:Fun:=⟨26,(ch [zm,zz,tMe,tI]),(ch [(.sl tI),tI]),0,zpz⟩
theorem zz3:Sq zpA:=zom (d:=false) (K:=0) Tryz.func26 (by kernel_rfl) (funext fun (x0,x1,x2,x3,())=>by kernel_rfl)
end
end Go.Proofs.YtkcakhbkoeimdaaGreatDoor
end
section
namespace Go.Proofs.YtkcakhbkoeimdaaGreatDoor
open Go.Ev
noncomputable section
abbrev L12:List Fun:=zru :: zts :: ztt :: zu9 :: zva :: ztv :: zrw :: zys :: ztw :: zpA :: L11
theorem h12:Sds Tryz.prog E0 L12:=⟨zBJ,zDZ,zD0,zFJ,zFK,zD1,zBK,zHv,zD2,zz3,h11⟩
theorem zMi {d:Bool} {F:Fun} {f:Go.Func} {K:Nat} (hf:Tryz.prog.funcs[F.id]? = some f) (ho:jz f = true) (h:evF (En E0 d L12) K f F.md F.a F.r = F.spec):Sd Tryz.prog E0 F:=mkS h12 hf ho h
def zdq:(za × (zd × (pMe × (Int × (Int × Unit)))))→Option (zd × (Int × Unit)):=fun (x0,x1,x2,x3,x4,()) =>
 Option.bind (jf (x0,x1,x2,())) fun q0=>bif q0.1 then bif x3 == 28 then Option.bind (zgI (x0,x1.2.2.1,x2.2.1,x2.2.2.1,x4,())) fun q1=>bif q1.2.1 != 0 then some ((0,[],[],[],[],[],()),q1.2.1,()) else Option.bind (qQ (x1,())) fun q2=>some ((u2 q2.1 q1.1),0,()) else bif x3 == 29 then Option.bind (zio (x0,x1.2.2.1,x2.2.1,x2.2.2.1,x4,())) fun q3=>bif q3.2.1 != 0 then some ((0,[],[],[],[],[],()),q3.2.1,()) else Option.bind (qQ (x1,())) fun q4=>some ((u2 q4.1 q3.1),0,()) else bif x3 == 30 then Option.bind (ziq (x0,x1.2.2.1,x2.2.1,x2.2.2.1,x4,())) fun q5=>bif q5.2.1 != 0 then some ((0,[],[],[],[],[],()),q5.2.1,()) else Option.bind (qQ (x1,())) fun q6=>some ((u2 q6.1 q5.1),0,()) else some ((0,[],[],[],[],[],()),1,()) else some ((0,[],[],[],[],[],()),1,())
abbrev ztx:Fun:=⟨24,(ch [zm,zz,tMe,tI,tI]),(ch [zz,tI]),0,zdq⟩
theorem zD3:Sq ztx:=zMi (d:=true) (K:=0) Tryz.func24 (by kernel_rfl) (funext fun (x0,x1,x2,x3,x4,())=>by kernel_rfl)
abbrev L13:List Fun:=ztx :: L12
theorem h13:Sds Tryz.prog E0 L13:=⟨zD3,h12⟩
theorem zLF {d:Bool} {F:Fun} {f:Go.Func} {K:Nat} (hf:Tryz.prog.funcs[F.id]? = some f) (ho:jz f = true) (h:evF (En E0 d L13) K f F.md F.a F.r = F.spec):Sd Tryz.prog E0 F:=mkS h13 hf ho h
def zir:(za × (zd × (pMe × (yz × Unit))))→Option (zd × (Int × Unit)):=fun (x0,x1,x2,x3,()) =>
 bif decide (x3.2.2.2.1 ≥ 28) then bif decide (x3.2.2.2.1 ≤ 30) then Option.bind (zdq (x0,x1,x2,x3.2.2.2.1,x3.2.1,())) fun q0=>some q0 else bif x3.2.2.2.1 == 1 then Option.bind (zaL (x0,x1,x2,x3.2.2.1,())) fun q1=>some q1 else Option.bind (yM (x0,x1,x2,x3.1,x3.2.1,x3.2.2.2.2.1,())) fun q2=>some q2 else bif x3.2.2.2.1 == 1 then Option.bind (zaL (x0,x1,x2,x3.2.2.1,())) fun q3=>some q3 else Option.bind (yM (x0,x1,x2,x3.1,x3.2.1,x3.2.2.2.2.1,())) fun q4=>some q4
abbrev zyt:Fun:=⟨29,(ch [zm,zz,tMe,jE]),(ch [zz,tI]),0,zir⟩
theorem zHw:Sq zyt:=zLF (d:=false) (K:=0) Tryz.func29 (by kernel_rfl) (funext fun (x0,x1,x2,x3,())=>by kernel_rfl)
def zQ:Unit→Option (Bool × Unit):=fun () =>
 Option.bind (zq2 ()) fun q0=>Option.bind (zgp (q0.1,())) fun q1=>bif q1.2.1 != 0 then some (false,()) else bif ((List.length q1.1.2.2.2.2.2.1):Int) != 3 then some (false,()) else bif decide (1 < ((List.length q1.1.2.2.2.2.2.1):Int)) then bif decide (2 < ((List.length (List.set q1.1.2.2.2.2.2.1 (Int.toNat 1) 0)):Int)) then Option.bind (yM (q0.1,(u5 q1.1 (List.set (List.set q1.1.2.2.2.2.2.1 (Int.toNat 1) 0) (Int.toNat 2) 0)),(0,(ze tMe).2),2,0,ByteArray.mk #[104,105],())) fun q2=>Option.bind (yM (q0.1,(u5 q1.1 (List.set (List.set q1.1.2.2.2.2.2.1 (Int.toNat 1) 0) (Int.toNat 2) 0)),(2,2,(ze tMe).2.2),0,0,ByteArray.mk #[104,105],())) fun q3=>Option.bind (ztu (q0.1,q2.1,(2,2,(ze tMe).2.2),())) fun q4=>Option.bind (zrv (q0.1,q2.1,(2,2,(ze tMe).2.2),0,())) fun q5=>Option.bind (zaL (q0.1,q2.1,(2,2,(ze tMe).2.2),0,())) fun q6=>Option.bind (zcn (q0.1,(u5 q1.1 (List.set (List.set q1.1.2.2.2.2.2.1 (Int.toNat 1) 0) (Int.toNat 2) 0)),(0,(ze tMe).2),ByteArray.mk #[104,105],())) fun q7=>Option.bind (zcn (q0.1,(u5 q1.1 (List.set (List.set q1.1.2.2.2.2.2.1 (Int.toNat 1) 0) (Int.toNat 2) 0)),(0,(ze tMe).2),ByteArray.mk #[32],())) fun q8=>Option.bind (yX (q0.1,(u5 q1.1 (List.set (List.set q1.1.2.2.2.2.2.1 (Int.toNat 1) 0) (Int.toNat 2) 0)),(1,1,(ze tMe).2.2),0,ByteArray.mk #[104,105],())) fun q9=>Option.bind (yX (q0.1,(u5 q1.1 (List.set (List.set q1.1.2.2.2.2.2.1 (Int.toNat 1) 0) (Int.toNat 2) 0)),(0,(ze tMe).2),0,ByteArray.mk #[104,105],())) fun q10=>Option.bind (zdq (q0.1,(u5 q1.1 (List.set (List.set q1.1.2.2.2.2.2.1 (Int.toNat 1) 0) (Int.toNat 2) 0)),(1,1,(ze tMe).2.2),28,1,())) fun q11=>Option.bind (zpz (q0.1,q11.1,(2,2,(ze tMe).2.2),0,())) fun q12=>bif q2.2.1 != 0 then some (false,()) else bif q4.2.1 != 0 then some (false,()) else bif q6.2.1 != 0 then some (false,()) else bif q7.2.1 != 0 then some (false,()) else bif q9.2.1 != 0 then some (false,()) else bif q11.2.1 != 0 then some (false,()) else bif q12.2.1 != 0 then some (false,()) else bif ((List.length q12.1):Int) != 2 then some (false,()) else bif ((List.length q6.1.2.1):Int) != 3 then some (false,()) else bif q3.2.1 == 5 then bif ((List.length q4.1):Int) == 1 then bif ByteArray.toList q5.1.2.2.2.2.1 == ByteArray.toList (ByteArray.mk #[104,105]) then bif q5.2.1 == 0 then bif decide (2 < ((List.length q6.1.2.1):Int)) then bif decide (0 < ((List.length (ix zg q6.1.2.1 2).2.2.2.1):Int)) then bif (List.getD (ix zg q6.1.2.1 2).2.2.2.1 (Int.toNat 0) (ze zy)).1 then some (false,()) else Option.bind (zlM (q7.1,zf (zf (List.replicate 2 (0:Int)) 0 1) 1 2,())) fun q13=>bif q13.1 then bif q8.2.1 == 2 then Option.bind (zlM (q9.1,zf (List.replicate 1 (0:Int)) 0 2,())) fun q14=>bif q14.1 then bif q10.2.1 == 5 then bif decide (1 < ((List.length q12.1):Int)) then bif ix (0:Int) q12.1 1 == 1 then some (true,()) else some (false,()) else none else some (false,()) else some (false,()) else some (false,()) else some (false,()) else none else none else some (false,()) else some (false,()) else some (false,()) else some (false,()) else none else none
abbrev zrx:Fun:=⟨18,.unit,(ch [.bool]),0,zQ⟩
theorem zBL:Sq zrx:=zLF (d:=true) (K:=0) Tryz.func18 (by kernel_rfl) (funext fun ()=>by kernel_rfl)
abbrev L14:List Fun:=zyt :: zrx :: L13
theorem h14:Sds Tryz.prog E0 L14:=⟨zHw,zBL,h13⟩
theorem zMj {d:Bool} {F:Fun} {f:Go.Func} {K:Nat} (hf:Tryz.prog.funcs[F.id]? = some f) (ho:jz f = true) (h:evF (En E0 d L14) K f F.md F.a F.r = F.spec):Sd Tryz.prog E0 F:=mkS h14 hf ho h
def P_law31_TalkRests:(za × (zd × (pMe × (yz × (zr × Unit)))))→Option (Bool × Unit):=fun (x0,x1,x2,x3,x4,()) =>
 Option.bind (jf (x0,x1,x2,())) fun q0=>bif q0.1 then Option.bind (zir (x0,x1,x2,x3,())) fun q1=>bif q1.2.1 == 0 then Option.bind (zeg (x0,q1.1,())) fun q2=>bif q2.1 then inR x2.2.1 ((List.length x0.1):Int) (Option.bind (va (ix zC x0.1 x2.2.1,x4,())) fun q3=>bif q3.1 then Option.bind (zQ ()) fun q4=>bif q4.1 then some (true,()) else some (false,()) else Option.bind (vj (x4,())) fun q5=>bif q5.1 then Option.bind (zcn (x0,x1,x2,x3.2.2.2.2.1,())) fun q6=>Option.bind (yX (x0,x1,x2,x3.2.2.1,x3.2.2.2.2.1,())) fun q7=>bif q6.2.1 != 0 then bif ((List.length q6.1):Int) != 0 then some (false,()) else bif q7.2.1 != 0 then bif ((List.length q7.1):Int) != 0 then some (false,()) else Option.bind (zQ ()) fun q8=>bif q8.1 then bif q1.2.1 != 0 then Option.bind (zj (x0,q6.1,x4,())) fun q9=>bif ((List.length q9.1):Int) == 0 then Option.bind (zj (x0,q7.1,x4,())) fun q10=>bif ((List.length q10.1):Int) == 0 then some (true,()) else some (false,()) else some (false,()) else Option.bind (qu (x0,x1,q1.1,x4,())) fun q11=>bif q11.1 then Option.bind (zj (x0,q6.1,x4,())) fun q12=>bif ((List.length q12.1):Int) == 0 then Option.bind (zj (x0,q7.1,x4,())) fun q13=>bif ((List.length q13.1):Int) == 0 then some (true,()) else some (false,()) else some (false,()) else some (false,()) else some (false,()) else Option.bind (zQ ()) fun q14=>bif q14.1 then bif q1.2.1 != 0 then Option.bind (zj (x0,q6.1,x4,())) fun q15=>bif ((List.length q15.1):Int) == 0 then Option.bind (zj (x0,q7.1,x4,())) fun q16=>bif ((List.length q16.1):Int) == 0 then some (true,()) else some (false,()) else some (false,()) else Option.bind (qu (x0,x1,q1.1,x4,())) fun q17=>bif q17.1 then Option.bind (zj (x0,q6.1,x4,())) fun q18=>bif ((List.length q18.1):Int) == 0 then Option.bind (zj (x0,q7.1,x4,())) fun q19=>bif ((List.length q19.1):Int) == 0 then some (true,()) else some (false,()) else some (false,()) else some (false,()) else some (false,()) else bif q7.2.1 != 0 then bif ((List.length q7.1):Int) != 0 then some (false,()) else Option.bind (zQ ()) fun q20=>bif q20.1 then bif q1.2.1 != 0 then Option.bind (zj (x0,q6.1,x4,())) fun q21=>bif ((List.length q21.1):Int) == 0 then Option.bind (zj (x0,q7.1,x4,())) fun q22=>bif ((List.length q22.1):Int) == 0 then some (true,()) else some (false,()) else some (false,()) else Option.bind (qu (x0,x1,q1.1,x4,())) fun q23=>bif q23.1 then Option.bind (zj (x0,q6.1,x4,())) fun q24=>bif ((List.length q24.1):Int) == 0 then Option.bind (zj (x0,q7.1,x4,())) fun q25=>bif ((List.length q25.1):Int) == 0 then some (true,()) else some (false,()) else some (false,()) else some (false,()) else some (false,()) else Option.bind (zQ ()) fun q26=>bif q26.1 then bif q1.2.1 != 0 then Option.bind (zj (x0,q6.1,x4,())) fun q27=>bif ((List.length q27.1):Int) == 0 then Option.bind (zj (x0,q7.1,x4,())) fun q28=>bif ((List.length q28.1):Int) == 0 then some (true,()) else some (false,()) else some (false,()) else Option.bind (qu (x0,x1,q1.1,x4,())) fun q29=>bif q29.1 then Option.bind (zj (x0,q6.1,x4,())) fun q30=>bif ((List.length q30.1):Int) == 0 then Option.bind (zj (x0,q7.1,x4,())) fun q31=>bif ((List.length q31.1):Int) == 0 then some (true,()) else some (false,()) else some (false,()) else some (false,()) else some (false,()) else Option.bind (zQ ()) fun q32=>bif q32.1 then some (true,()) else some (false,())) else some (false,()) else inR x2.2.1 ((List.length x0.1):Int) (Option.bind (va (ix zC x0.1 x2.2.1,x4,())) fun q33=>bif q33.1 then Option.bind (zQ ()) fun q34=>bif q34.1 then some (true,()) else some (false,()) else Option.bind (vj (x4,())) fun q35=>bif q35.1 then Option.bind (zcn (x0,x1,x2,x3.2.2.2.2.1,())) fun q36=>Option.bind (yX (x0,x1,x2,x3.2.2.1,x3.2.2.2.2.1,())) fun q37=>bif q36.2.1 != 0 then bif ((List.length q36.1):Int) != 0 then some (false,()) else bif q37.2.1 != 0 then bif ((List.length q37.1):Int) != 0 then some (false,()) else Option.bind (zQ ()) fun q38=>bif q38.1 then bif q1.2.1 != 0 then Option.bind (zj (x0,q36.1,x4,())) fun q39=>bif ((List.length q39.1):Int) == 0 then Option.bind (zj (x0,q37.1,x4,())) fun q40=>bif ((List.length q40.1):Int) == 0 then some (true,()) else some (false,()) else some (false,()) else Option.bind (qu (x0,x1,q1.1,x4,())) fun q41=>bif q41.1 then Option.bind (zj (x0,q36.1,x4,())) fun q42=>bif ((List.length q42.1):Int) == 0 then Option.bind (zj (x0,q37.1,x4,())) fun q43=>bif ((List.length q43.1):Int) == 0 then some (true,()) else some (false,()) else some (false,()) else some (false,()) else some (false,()) else Option.bind (zQ ()) fun q44=>bif q44.1 then bif q1.2.1 != 0 then Option.bind (zj (x0,q36.1,x4,())) fun q45=>bif ((List.length q45.1):Int) == 0 then Option.bind (zj (x0,q37.1,x4,())) fun q46=>bif ((List.length q46.1):Int) == 0 then some (true,()) else some (false,()) else some (false,()) else Option.bind (qu (x0,x1,q1.1,x4,())) fun q47=>bif q47.1 then Option.bind (zj (x0,q36.1,x4,())) fun q48=>bif ((List.length q48.1):Int) == 0 then Option.bind (zj (x0,q37.1,x4,())) fun q49=>bif ((List.length q49.1):Int) == 0 then some (true,()) else some (false,()) else some (false,()) else some (false,()) else some (false,()) else bif q37.2.1 != 0 then bif ((List.length q37.1):Int) != 0 then some (false,()) else Option.bind (zQ ()) fun q50=>bif q50.1 then bif q1.2.1 != 0 then Option.bind (zj (x0,q36.1,x4,())) fun q51=>bif ((List.length q51.1):Int) == 0 then Option.bind (zj (x0,q37.1,x4,())) fun q52=>bif ((List.length q52.1):Int) == 0 then some (true,()) else some (false,()) else some (false,()) else Option.bind (qu (x0,x1,q1.1,x4,())) fun q53=>bif q53.1 then Option.bind (zj (x0,q36.1,x4,())) fun q54=>bif ((List.length q54.1):Int) == 0 then Option.bind (zj (x0,q37.1,x4,())) fun q55=>bif ((List.length q55.1):Int) == 0 then some (true,()) else some (false,()) else some (false,()) else some (false,()) else some (false,()) else Option.bind (zQ ()) fun q56=>bif q56.1 then bif q1.2.1 != 0 then Option.bind (zj (x0,q36.1,x4,())) fun q57=>bif ((List.length q57.1):Int) == 0 then Option.bind (zj (x0,q37.1,x4,())) fun q58=>bif ((List.length q58.1):Int) == 0 then some (true,()) else some (false,()) else some (false,()) else Option.bind (qu (x0,x1,q1.1,x4,())) fun q59=>bif q59.1 then Option.bind (zj (x0,q36.1,x4,())) fun q60=>bif ((List.length q60.1):Int) == 0 then Option.bind (zj (x0,q37.1,x4,())) fun q61=>bif ((List.length q61.1):Int) == 0 then some (true,()) else some (false,()) else some (false,()) else some (false,()) else some (false,()) else Option.bind (zQ ()) fun q62=>bif q62.1 then some (true,()) else some (false,())) else Option.bind (zir (x0,x1,x2,x3,())) fun q63=>Option.bind (zQ ()) fun q64=>bif q64.1 then bif q63.2.1 == 1 then some (true,()) else some (false,()) else some (false,())
abbrev zux:Fun:=⟨5,(ch [zm,zz,tMe,jE,zp]),(ch [.bool]),0,P_law31_TalkRests⟩
theorem s_law31_TalkRests:Sq zux:=zMj (d:=false) (K:=0) Tryz.func5 (by kernel_rfl) (funext fun (x0,x1,x2,x3,x4,())=>by kernel_rfl)
end
end Go.Proofs.YtkcakhbkoeimdaaGreatDoor
end
section
namespace Go.Proofs.YtkcakhbkoeimdaaGreatDoor
open Go.Ev
theorem zyu {l:List Int} {g:Int × Unit→Option (Bool × Unit)} {p:Int→Bool} (hl:l.length ≤ Go.maxLen) (hp:∀ x ∈ l,g (x,()) = some (p x,())):vu (l,some g,()) = some (qB p l 0,()):=qw (τ:=tI) (B:=zax) (fun _ _ _ _ _=>rfl) hl hp
theorem yY {l:List Int} {g:Int × Unit→Option (Bool × Unit)} {p:Int→Bool} (hl:l.length ≤ Go.maxLen) (hp:∀ x ∈ l,g (x,()) = some (p x,())):qm (l,some g,()) = some (l.any p,()):=qo (τ:=tI) (f:=vu) (zyu hl hp)
theorem zuy {l:List zr} {g:zr × Unit→Option (Bool × Unit)} {p:zr→Bool} (hl:l.length ≤ Go.maxLen) (hp:∀ x ∈ l,g (x,()) = some (p x,())):zaw (l,some g,()) = some (qB p l 0,()):=qw (τ:=zp) (B:=zct) (fun _ _ _ _ _=>rfl) hl hp
theorem zis {l:List zr} {g:zr × Unit→Option (Bool × Unit)} {p:zr→Bool} (hl:l.length ≤ Go.maxLen) (hp:∀ x ∈ l,g (x,()) = some (p x,())):yh (l,some g,()) = some (l.any p,()):=qo (τ:=zp) (f:=zaw) (zuy hl hp)
theorem zr1 {l:List qN} {g:qN × Unit→Option (Bool × Unit)} {p:qN→Bool} (hl:l.length ≤ Go.maxLen) (hp:∀ x ∈ l,g (x,()) = some (p x,())):yL (l,some g,()) = some (qB p l 0,()):=qw (τ:=qM) (B:=zaZ) (fun _ _ _ _ _=>rfl) hl hp
theorem zon {l:List qN} {g:qN × Unit→Option (Bool × Unit)} {p:qN→Bool} (hl:l.length ≤ Go.maxLen) (hp:∀ x ∈ l,g (x,()) = some (p x,())):zaD (l,some g,()) = some (l.any p,()):=qo (τ:=qM) (f:=yL) (zr1 hl hp)
theorem zuz {l:List zi} {g:zi × Unit→Option (Bool × Unit)} {p:zi→Bool} (hl:l.length ≤ Go.maxLen) (hp:∀ x ∈ l,g (x,()) = some (p x,())):zay (l,some g,()) = some (qB p l 0,()):=qw (τ:=zn) (B:=zcv) (fun _ _ _ _ _=>rfl) hl hp
theorem zqv {l:List zi} {g:zi × Unit→Option (Bool × Unit)} {p:zi→Bool} (hl:l.length ≤ Go.maxLen) (hp:∀ x ∈ l,g (x,()) = some (p x,())):jO (l,some g,()) = some (l.any p,()):=qo (τ:=zn) (f:=zay) (zuz hl hp)
theorem zwr {l:List qZ} {g:qZ × Unit→Option (Bool × Unit)} {p:qZ→Bool} (hl:l.length ≤ Go.maxLen) (hp:∀ x ∈ l,g (x,()) = some (p x,())):zbq (l,some g,()) = some (qB p l 0,()):=qw (τ:=qk) (B:=zc3) (fun _ _ _ _ _=>rfl) hl hp
theorem zr2 {l:List qZ} {g:qZ × Unit→Option (Bool × Unit)} {p:qZ→Bool} (hl:l.length ≤ Go.maxLen) (hp:∀ x ∈ l,g (x,()) = some (p x,())):zcD (l,some g,()) = some (l.any p,()):=qo (τ:=qk) (f:=zbq) (zwr hl hp)
theorem zws {l:List qc} {g:qc × Unit→Option (Bool × Unit)} {p:qc→Bool} (hl:l.length ≤ Go.maxLen) (hp:∀ x ∈ l,g (x,()) = some (p x,())):zbr (l,some g,()) = some (qB p l 0,()):=qw (τ:=zX) (B:=zc5) (fun _ _ _ _ _=>rfl) hl hp
theorem ziQ {l:List qc} {g:qc × Unit→Option (Bool × Unit)} {p:qc→Bool} (hl:l.length ≤ Go.maxLen) (hp:∀ x ∈ l,g (x,()) = some (p x,())):ji (l,some g,()) = some (l.any p,()):=qo (τ:=zX) (f:=zbr) (zws hl hp)
theorem zmj {l:List zw} {g:zw × Unit→Option (Bool × Unit)} {p:zw→Bool} (hl:l.length ≤ Go.maxLen) (hp:∀ x ∈ l,g (x,()) = some (p x,())):yn (l,some g,()) = some (qB p l 0,()):=qw (τ:=zy) (B:=zc6) (fun _ _ _ _ _=>rfl) hl hp
theorem ziR {l:List zw} {g:zw × Unit→Option (Bool × Unit)} {p:zw→Bool} (hl:l.length ≤ Go.maxLen) (hp:∀ x ∈ l,g (x,()) = some (p x,())):jk (l,some g,()) = some (l.any p,()):=qo (τ:=zy) (f:=yn) (zmj hl hp)
theorem zuA {l:List zv} {g:zv × Unit→Option (Bool × Unit)} {p:zv→Bool} (hl:l.length ≤ Go.maxLen) (hp:∀ x ∈ l,g (x,()) = some (p x,())):zaz (l,some g,()) = some (qB p l 0,()):=qw (τ:=zA) (B:=zcy) (fun _ _ _ _ _=>rfl) hl hp
theorem zit {l:List zv} {g:zv × Unit→Option (Bool × Unit)} {p:zv→Bool} (hl:l.length ≤ Go.maxLen) (hp:∀ x ∈ l,g (x,()) = some (p x,())):qX (l,some g,()) = some (l.any p,()):=qo (τ:=zA) (f:=zaz) (zuA hl hp)
theorem zuB {l:List zq} {g:zq × Unit→Option (Bool × Unit)} {p:zq→Bool} (hl:l.length ≤ Go.maxLen) (hp:∀ x ∈ l,g (x,()) = some (p x,())):zaA (l,some g,()) = some (qB p l 0,()):=qw (τ:=zo) (B:=zcz) (fun _ _ _ _ _=>rfl) hl hp
theorem zqw {l:List zq} {g:zq × Unit→Option (Bool × Unit)} {p:zq→Bool} (hl:l.length ≤ Go.maxLen) (hp:∀ x ∈ l,g (x,()) = some (p x,())):jP (l,some g,()) = some (l.any p,()):=qo (τ:=zo) (f:=zaA) (zuB hl hp)
theorem zuC {l:List zG} {g:zG × Unit→Option (Bool × Unit)} {p:zG→Bool} (hl:l.length ≤ Go.maxLen) (hp:∀ x ∈ l,g (x,()) = some (p x,())):zaB (l,some g,()) = some (qB p l 0,()):=qw (τ:=zx) (B:=zcA) (fun _ _ _ _ _=>rfl) hl hp
theorem zqx {l:List zG} {g:zG × Unit→Option (Bool × Unit)} {p:zG→Bool} (hl:l.length ≤ Go.maxLen) (hp:∀ x ∈ l,g (x,()) = some (p x,())):jQ (l,some g,()) = some (l.any p,()):=qo (τ:=zx) (f:=zaB) (zuC hl hp)
theorem zmk {l:List qe} {g:qe × Unit→Option (Bool × Unit)} {p:qe→Bool} (hl:l.length ≤ Go.maxLen) (hp:∀ x ∈ l,g (x,()) = some (p x,())):ym (l,some g,()) = some (qB p l 0,()):=qw (τ:=z3) (B:=zc4) (fun _ _ _ _ _=>rfl) hl hp
theorem zr3 {l:List qe} {g:qe × Unit→Option (Bool × Unit)} {p:qe→Bool} (hl:l.length ≤ Go.maxLen) (hp:∀ x ∈ l,g (x,()) = some (p x,())):vg (l,some g,()) = some (l.any p,()):=qo (τ:=z3) (f:=ym) (zmk hl hp)
theorem zyv {l:List j3} {g:j3 × Unit→Option (Bool × Unit)} {p:j3→Bool} (hl:l.length ≤ Go.maxLen) (hp:∀ x ∈ l,g (x,()) = some (p x,())):zbV (l,some g,()) = some (qB p l 0,()):=qw (τ:=zR) (B:=zdO) (fun _ _ _ _ _=>rfl) hl hp
theorem zty {l:List j3} {g:j3 × Unit→Option (Bool × Unit)} {p:j3→Bool} (hl:l.length ≤ Go.maxLen) (hp:∀ x ∈ l,g (x,()) = some (p x,())):vE (l,some g,()) = some (l.any p,()):=qo (τ:=zR) (f:=zbV) (zyv hl hp)
theorem zwt {l:List Int} {g:Int × Unit→Option (Bool × Unit)} {p:Int→Bool} (hl:l.length ≤ Go.maxLen) (hp:∀ x ∈ l,g (x,()) = some (p x,())):zbo (l,some g,()) = some (qB p l 0,()):=qw (τ:=(Ty.int .u8)) (B:=zc0) (fun _ _ _ _ _=>rfl) hl hp
theorem zr4 {l:List Int} {g:Int × Unit→Option (Bool × Unit)} {p:Int→Bool} (hl:l.length ≤ Go.maxLen) (hp:∀ x ∈ l,g (x,()) = some (p x,())):vf (l,some g,()) = some (l.any p,()):=qo (τ:=(Ty.int .u8)) (f:=zbo) (zwt hl hp)
theorem zFL {l:List zi} {g:zi × Unit→Option (Bool × Unit)} {p:zi→Bool} (hl:l.length ≤ Go.maxLen) (hp:∀ x ∈ l,g (x,()) = some (p x,())):zfZ (l,some g,()) = some (l.all p,()):=by
 have h:jO (l,some fun z=>zbp (z.1,some (some g),()),()) = some (l.any fun x=>!p x,()):=zqv hl fun x hx=>by
  show Option.bind (g (x,())) (fun q=>bif q.1 then some (false,()) else some (true,())) = _
  rw [hp x hx]; cases p x <;> rfl
 show Option.bind (jO (l,some fun z=>zbp (z.1,some (some g),()),())) (fun q=>bif q.1 then some (false,()) else some (true,())) = _
 rw [h,← jV]; cases l.any fun x=>!p x <;> rfl
theorem zFM {l:List zq} {g:zq × Unit→Option (Bool × Unit)} {p:zq→Bool} (hl:l.length ≤ Go.maxLen) (hp:∀ x ∈ l,g (x,()) = some (p x,())):zf0 (l,some g,()) = some (l.all p,()):=by
 have h:jP (l,some fun z=>zbs (z.1,some (some g),()),()) = some (l.any fun x=>!p x,()):=zqw hl fun x hx=>by
  show Option.bind (g (x,())) (fun q=>bif q.1 then some (false,()) else some (true,())) = _
  rw [hp x hx]; cases p x <;> rfl
 show Option.bind (jP (l,some fun z=>zbs (z.1,some (some g),()),())) (fun q=>bif q.1 then some (false,()) else some (true,())) = _
 rw [h,← jV]; cases l.any fun x=>!p x <;> rfl
theorem zFN {l:List zG} {g:zG × Unit→Option (Bool × Unit)} {p:zG→Bool} (hl:l.length ≤ Go.maxLen) (hp:∀ x ∈ l,g (x,()) = some (p x,())):zcP (l,some g,()) = some (l.all p,()):=by
 have h:jQ (l,some fun z=>zbt (z.1,some (some g),()),()) = some (l.any fun x=>!p x,()):=zqx hl fun x hx=>by
  show Option.bind (g (x,())) (fun q=>bif q.1 then some (false,()) else some (true,())) = _
  rw [hp x hx]; cases p x <;> rfl
 show Option.bind (jQ (l,some fun z=>zbt (z.1,some (some g),()),())) (fun q=>bif q.1 then some (false,()) else some (true,())) = _
 rw [h,← jV]; cases l.any fun x=>!p x <;> rfl
theorem zI5 {l:List Int} {g:Int × Unit→Option (Bool × Unit)} {p:Int→Bool} (hl:l.length ≤ Go.maxLen) (hp:∀ x ∈ l,g (x,()) = some (p x,())):y7 (l,some g,()) = some (l.all p,()):=by
 have h:qm (l,some fun z=>zcN (z.1,some (some g),()),()) = some (l.any fun x=>!p x,()):=yY hl fun x hx=>by
  show Option.bind (g (x,())) (fun q=>bif q.1 then some (false,()) else some (true,())) = _
  rw [hp x hx]; cases p x <;> rfl
 show Option.bind (qm (l,some fun z=>zcN (z.1,some (some g),()),())) (fun q=>bif q.1 then some (false,()) else some (true,())) = _
 rw [h,← jV]; cases l.any fun x=>!p x <;> rfl
theorem zHx {l:List qe} {g:qe × Unit→Option (Bool × Unit)} {p:qe→Bool} (hl:l.length ≤ Go.maxLen) (hp:∀ x ∈ l,g (x,()) = some (p x,())):zg1 (l,some g,()) = some (l.all p,()):=by
 have h:vg (l,some fun z=>zbS (z.1,some (some g),()),()) = some (l.any fun x=>!p x,()):=zr3 hl fun x hx=>by
  show Option.bind (g (x,())) (fun q=>bif q.1 then some (false,()) else some (true,())) = _
  rw [hp x hx]; cases p x <;> rfl
 show Option.bind (vg (l,some fun z=>zbS (z.1,some (some g),()),())) (fun q=>bif q.1 then some (false,()) else some (true,())) = _
 rw [h,← jV]; cases l.any fun x=>!p x <;> rfl
theorem zyw {l:List qc} {g:qc × Unit→Option (Bool × Unit)} {p:qc→Bool} (hl:l.length ≤ Go.maxLen) (hp:∀ x ∈ l,g (x,()) = some (p x,())):yC (l,some g,()) = some (l.all p,()):=by
 have h:ji (l,some fun z=>zbU (z.1,some (some g),()),()) = some (l.any fun x=>!p x,()):=ziQ hl fun x hx=>by
  show Option.bind (g (x,())) (fun q=>bif q.1 then some (false,()) else some (true,())) = _
  rw [hp x hx]; cases p x <;> rfl
 show Option.bind (ji (l,some fun z=>zbU (z.1,some (some g),()),())) (fun q=>bif q.1 then some (false,()) else some (true,())) = _
 rw [h,← jV]; cases l.any fun x=>!p x <;> rfl
theorem zI6 {l:List j3} {g:j3 × Unit→Option (Bool × Unit)} {p:j3→Bool} (hl:l.length ≤ Go.maxLen) (hp:∀ x ∈ l,g (x,()) = some (p x,())):zh9 (l,some g,()) = some (l.all p,()):=by
 have h:vE (l,some fun z=>zcO (z.1,some (some g),()),()) = some (l.any fun x=>!p x,()):=zty hl fun x hx=>by
  show Option.bind (g (x,())) (fun q=>bif q.1 then some (false,()) else some (true,())) = _
  rw [hp x hx]; cases p x <;> rfl
 show Option.bind (vE (l,some fun z=>zcO (z.1,some (some g),()),())) (fun q=>bif q.1 then some (false,()) else some (true,())) = _
 rw [h,← jV]; cases l.any fun x=>!p x <;> rfl
theorem zHy {l:List zw} {g:zw × Unit→Option (Bool × Unit)} {p:zw→Bool} (hl:l.length ≤ Go.maxLen) (hp:∀ x ∈ l,g (x,()) = some (p x,())):yD (l,some g,()) = some (l.all p,()):=by
 have h:jk (l,some fun z=>zbW (z.1,some (some g),()),()) = some (l.any fun x=>!p x,()):=ziR hl fun x hx=>by
  show Option.bind (g (x,())) (fun q=>bif q.1 then some (false,()) else some (true,())) = _
  rw [hp x hx]; cases p x <;> rfl
 show Option.bind (jk (l,some fun z=>zbW (z.1,some (some g),()),())) (fun q=>bif q.1 then some (false,()) else some (true,())) = _
 rw [h,← jV]; cases l.any fun x=>!p x <;> rfl
theorem zFO {l:List zv} {g:zv × Unit→Option (Bool × Unit)} {p:zv→Bool} (hl:l.length ≤ Go.maxLen) (hp:∀ x ∈ l,g (x,()) = some (p x,())):qF (l,some g,()) = some (l.all p,()):=by
 have h:qX (l,some fun z=>zbu (z.1,some (some g),()),()) = some (l.any fun x=>!p x,()):=zit hl fun x hx=>by
  show Option.bind (g (x,())) (fun q=>bif q.1 then some (false,()) else some (true,())) = _
  rw [hp x hx]; cases p x <;> rfl
 show Option.bind (qX (l,some fun z=>zbu (z.1,some (some g),()),())) (fun q=>bif q.1 then some (false,()) else some (true,())) = _
 rw [h,← jV]; cases l.any fun x=>!p x <;> rfl
theorem zvb {a b:List Int} (hl:a.length ≤ Go.maxLen):zaP (a,b,()) = some (eqL tI a b,()):=zaK (τ:=tI) (B:=zgU) (fun _ _ _ _ _=>rfl) hl
theorem zBM {a b:List zq} (hl:a.length ≤ Go.maxLen):zgW (a,b,()) = some (eqL zo a b,()):=zaK (τ:=zo) (B:=ze7) (fun _ _ _ _ _=>rfl) hl
theorem zBN {a b:List zG} (hl:a.length ≤ Go.maxLen):zgY (a,b,()) = some (eqL zx a b,()):=zaK (τ:=zx) (B:=ze8) (fun _ _ _ _ _=>rfl) hl
theorem zD4 {a b:List qZ} (hl:a.length ≤ Go.maxLen):zhW (a,b,()) = some (eqL qk a b,()):=zaK (τ:=qk) (B:=zfV) (fun _ _ _ _ _=>rfl) hl
theorem zD5 {a b:List qe} (hl:a.length ≤ Go.maxLen):zhY (a,b,()) = some (eqL z3 a b,()):=zaK (τ:=z3) (B:=zfW) (fun _ _ _ _ _=>rfl) hl
theorem zD6 {a b:List qc} (hl:a.length ≤ Go.maxLen):zh0 (a,b,()) = some (eqL zX a b,()):=zaK (τ:=zX) (B:=zfX) (fun _ _ _ _ _=>rfl) hl
theorem zD7 {a b:List zw} (hl:a.length ≤ Go.maxLen):zh2 (a,b,()) = some (eqL zy a b,()):=zaK (τ:=zy) (B:=zfY) (fun _ _ _ _ _=>rfl) hl
theorem zBO {a b:List zv} (hl:a.length ≤ Go.maxLen):zgS (a,b,()) = some (eqL zA a b,()):=zaK (τ:=zA) (B:=ze6) (fun _ _ _ _ _=>rfl) hl
theorem zHz {a b:List (List Int)} (hl:a.length ≤ Go.maxLen):zkk (a,b,()) = some (eqL (Ty.arr 4 tU) a b,()):=zaK (τ:=(Ty.arr 4 tU)) (B:=zh3) (fun _ _ _ _ _=>rfl) hl
theorem zFP {a b:List j3} (hl:a.length ≤ Go.maxLen):zi7 (a,b,()) = some (eqL zR a b,()):=zaK (τ:=zR) (B:=zgT) (fun _ _ _ _ _=>rfl) hl
theorem zry {l:List zq} (hl:l.length * 80 ≤ 140737488355328):za2 (l,()) = some (l,()):=yc (τ:=zo) hl rfl
theorem zBP {l:List zq} (hl:l.length ≤ lim):za2 (l,()) = some (l,()):=zry (by unfold lim at hl; omega)
theorem zBQ {l:List zG} (hl:l.length * 80 ≤ 140737488355328):zgP (l,()) = some (l,()):=yc (τ:=zx) hl rfl
theorem zoo {l:List Int} (hl:l.length * 8 ≤ 140737488355328):yA (l,()) = some (l,()):=yc (τ:=tI) hl rfl
theorem zFQ {l:List Int} (hl:l.length ≤ lim):yA (l,()) = some (l,()):=zoo (by unfold lim at hl; omega)
theorem zD8 {l:List (List Int)} (hl:l.length * 24 ≤ 140737488355328):zhP (l,()) = some (l,()):=yc (τ:=(Ty.sl tI)) hl rfl
theorem zBR {l:List zi} (hl:l.length * 232 ≤ 140737488355328):zgQ (l,()) = some (l,()):=yc (τ:=zn) hl rfl
theorem zD9 {l:List qZ} (hl:l.length * 24 ≤ 140737488355328):zhQ (l,()) = some (l,()):=yc (τ:=qk) hl rfl
theorem zEa {l:List qe} (hl:l.length * 48 ≤ 140737488355328):zhR (l,()) = some (l,()):=yc (τ:=z3) hl rfl
theorem zEb {l:List qc} (hl:l.length * 56 ≤ 140737488355328):zhS (l,()) = some (l,()):=yc (τ:=zX) hl rfl
theorem ztz {l:List zw} (hl:l.length * 48 ≤ 140737488355328):y4 (l,()) = some (l,()):=yc (τ:=zy) hl rfl
theorem ztA {l:List zw} (hl:l.length ≤ lim):y4 (l,()) = some (l,()):=ztz (by unfold lim at hl; omega)
theorem zrz {l:List zv} (hl:l.length * 72 ≤ 140737488355328):za1 (l,()) = some (l,()):=yc (τ:=zA) hl rfl
theorem zrA {l:List zv} (hl:l.length ≤ lim):za1 (l,()) = some (l,()):=zrz (by unfold lim at hl; omega)
theorem zHA {l:List (List Int)} (hl:l.length * 32 ≤ 140737488355328):zki (l,()) = some (l,()):=yc (τ:=(Ty.arr 4 tU)) hl rfl
theorem zFR {l:List j3} (hl:l.length * 16 ≤ 140737488355328):zi4 (l,()) = some (l,()):=yc (τ:=zR) hl rfl
end Go.Proofs.YtkcakhbkoeimdaaGreatDoor
end
section
namespace Go.Proofs.YtkcakhbkoeimdaaGreatDoor
open Go.Ev
theorem ztY:∃ m,K0 = m + 8:=⟨Go.maxLen - 6,by unfold K0 Go.maxLen; omega⟩
def ql (x a b:Int):Bool:=decide (a ≤ x ∧ x ≤ b)
theorem zd2 (x a b:Int):qg (x,a,b,()) = some (ql x a b,()):=by
 simp only [qg,ql]; grind
def zbF (a:zr):Bool:=ql a.1 0 3
theorem zgJ (a:zr):vj (a,()) = some (zbF a,()):=by
 simp only [vj,zbF,ql]; grind
theorem zHB (a:zr):zdU (a,()) = some (!zbF a,()):=by
 simp only [zdU,zgJ,Option.bind_some]; grind
def zkv (x y:Int):Int:=bif decide (x < y) then -1 else bif decide (y < x) then 1 else 0
theorem zFS (x:Int):y3 (x,()) = some (false,()):=by
 simp only [y3]; grind
theorem zz4 (x:Int):vt (x,()) = some (false,()):=by
 simp only [vt]; grind
theorem zrB (x y:Int):zao (x,y,()) = some (zkv x y,()):=by
 simp only [zao,zFS,Option.bind_some,zkv]; grind
theorem zml (x y:Int):vU (x,y,()) = some (zkv x y,()):=by
 simp only [vU,zz4,Option.bind_some,zkv]; grind
def orV (a b:Int):Int:=bif a != 0 then a else b
theorem zLG (a b:Int):zcZ ([a,b],()) = some (orV a b,()):=by
 show zl qT K0 (0,[a,b],2,0) = _
 obtain ⟨m,hm⟩:=ztY
 rw [hm]
 show qT (qT (qT (zl qT (m + 5)))) (0,[a,b],2,0) = _
 have h:qT (qT (qT (zl qT (m + 5)))) (0,[a,b],2,0) = bif a != 0 then some (a,()) else bif b != 0 then some (b,()) else some (0,()):=by kernel_rfl
 rw [h]; unfold orV; grind
def zwu (a b:zr):Int:=orV (zkv a.1 b.1) (zkv a.2.1 b.2.1)
theorem zFT (a b:zr):zjs (a,b,()) = some (zwu a b,()):=by
 simp only [zjs,zrB,zml,Option.bind_some]
 show Option.bind (zcZ ([zkv a.1 b.1,zkv a.2.1 b.2.1],())) _ = _
 rw [zLG]; rfl
theorem zI7 (a b:zr):eqI zp a b = ((a.1:Int) == b.1 && (a.2.1:Int) == b.2.1):=by
 show cond ((a.1:Int) == b.1) (cond ((a.2.1:Int) == b.2.1) true false) false = _
 cases ((a.1:Int) == b.1) <;> cases ((a.2.1:Int) == b.2.1) <;> rfl
def zhm (l:List zr):Bool:=ql (l.length:Int) 1 8 && (eqI zp (l.getD 0 (ze zp)) (ze zp) && (l.all zbF && qh (fun i=>decide (zwu (l.getD (i - 1) (ze zp)) (l.getD i (ze zp)) < 0)) 1 (l.length - 1)))
theorem zJ9 {α:Type} {d:α} {l:List α}:ix d l 0 = l.getD 0 d:=rfl
theorem zKa (r:za):vH (r,()) = some (zhm r.1,()):=by
 simp only [vH,zfB,zd2,Option.bind_some]
 by_cases hw:ql (List.length r.1:Int) 1 8 = true
 ·have hb:1 ≤ List.length r.1 ∧ List.length r.1 ≤ 8:=by unfold ql at hw; grind
  have hl:List.length r.1 ≤ Go.maxLen:=by unfold Go.maxLen; omega
  have hloop:zg3 K0 (1,r) = bif qh (fun i=>decide (zwu (List.getD r.1 (i - 1) (ze zp)) (List.getD r.1 i (ze zp)) < 0)) 1 (List.length r.1 - 1) then some (true,()) else some (false,()) :=
   yJ (i0:=1) hl hb.1 (fun i=>(i,r)) (fun k i h1 h2=>by
    simp only [zd0]
    rw [ltT h2,ztU h1 (by omega),zD (by omega),zD h2,qj,Int.toNat_natCast,zFT]
    simp only [cond_true,Option.bind_some]; grind) (fun k=>by simp only [zd0]; rw [ltF]; rfl)
  rw [zis (p:=fun a=>!zbF a) hl fun x _=>zHB x,hloop,zJ9]
  have:=jV (l:=r.1) (p:=zbF)
  unfold zhm
  simp only [Option.bind_some]
  grind
 ·unfold zhm; grind
end Go.Proofs.YtkcakhbkoeimdaaGreatDoor
end
section
namespace Go.Proofs.YtkcakhbkoeimdaaGreatDoor
open Go.Ev
def small (c:Int):Bool:=decide (97 ≤ c ∧ c ≤ 122)
def zCg (c:Int):Bool:=decide (48 ≤ c ∧ c ≤ 57)
theorem zGu (c:Int):zeX (c,()) = some (small c,()):=by
 simp only [zeX,small]; grind
theorem zKZ (c:Int):zhD (c,()) = some (zCg c,()):=by
 simp only [zhD,zCg]; grind
def zCh (c:Int):Bool:=small c || zCg c
theorem zLH (c:Int):zfv (c,()) = some (zCh c,()):=by
 simp only [zfv,zGu,zKZ,Option.bind_some,zCh]; grind
def zfg (s:ByteArray):List Int:=List.map (fun b:UInt8=>(b.toNat:Int)) s.data.toList
def chr (s:ByteArray) (i:Nat):Int:=(((s.data.toList).getD i 0).toNat:Int)
theorem zkw (s:ByteArray):(zfg s).length = s.size:=by unfold zfg; rw [List.length_map]; rfl
theorem zpB (s:ByteArray):s.data.toList.length = s.size:=rfl
theorem zyx (s:ByteArray) (p:Int→Bool):(zfg s).all p = qh (fun i=>p (chr s i)) 0 s.size:=by
 rw [Bool.eq_iff_iff,qL,List.all_eq_true]
 have key:∀ i,i < s.size→(zfg s)[i]? = some (chr s i):=fun i hi=>by
  unfold zfg chr
  rw [List.getElem?_map,List.getElem?_eq_getElem (by rw [zpB]; exact hi)]
  simp [List.getD,zpB,hi]
 constructor
 ·intro h j _ hj
  exact h _ (List.mem_of_getElem? (key j (by omega)))
 ·intro h x hx
  obtain ⟨i,hi,rfl⟩:=List.mem_iff_getElem.1 hx
  rw [zkw] at hi
  have:=key i hi
  rw [List.getElem?_eq_getElem (by rw [zkw]; exact hi)] at this
  rw [Option.some.inj this]
  exact h i (by omega) (by omega)
theorem zyy {s:ByteArray} {g:Int × Unit→Option (Bool × Unit)} {p:Int→Bool} (hl:s.size ≤ Go.maxLen) (hp:∀ c,g (c,()) = some (p c,())):zk0 (s,some g,()) = some ((zfg s).all p,()):=by
 have h:vf (zfg s,some fun z=>zhC (z.1,some (some g),()),()) = some ((zfg s).any fun x=>!p x,()):=zr4 (by rw [zkw]; exact hl) fun x hx=>by
  show Option.bind (g (x,())) (fun q=>bif q.1 then some (false,()) else some (true,())) = _
  rw [hp x]; cases p x <;> rfl
 show Option.bind (vf (zfg s,some fun z=>zhC (z.1,some (some g),()),())) (fun q=>bif q.1 then some (false,()) else some (true,())) = _
 rw [h,← jV]; cases (zfg s).any fun x=>!p x <;> rfl
def zqy (s:ByteArray):Bool:=decide (1 ≤ s.size) && (decide (s.size ≤ 12) && qh (fun i=>small (chr s i) || (decide (i ≠ 0) && zCg (chr s i))) 0 s.size)
theorem zKb (s:ByteArray):zqy s = (decide (1 ≤ s.size) && (decide (s.size ≤ 12) && (small (chr s 0) && (zfg s).all zCh))):=by
 rw [zyx,zqy,Bool.eq_iff_iff]
 simp only [Bool.and_eq_true,decide_eq_true_eq,qL,zCh]
 constructor
 ·rintro ⟨h1,h2,h3⟩
  have:=h3 0 (by omega) (by omega)
  refine ⟨h1,h2,by grind,fun j h4 h5=>?_⟩
  have:=h3 j h4 h5
  grind
 ·rintro ⟨h1,h2,h3,h4⟩
  refine ⟨h1,h2,fun j h5 h6=>?_⟩
  have:=h4 j h5 h6
  by_cases e:j = 0
  ·subst e; grind
  ·grind
theorem zmm (s:ByteArray):zbg (s,()) = some (zqy s,()):=by
 rw [zM]
 simp only [zbg]
 rw [zKb]
 by_cases h1:s.size < 1
 ·grind
 by_cases h2:s.size > 12
 ·grind
 rw [zyy (by unfold Go.maxLen; omega) zLH]
 have hc:((UInt8.toNat (List.getD s.data.toList (Int.toNat 0) 0):Nat):Int) = chr s 0:=rfl
 rw [hc,zGu]
 simp only [Option.bind_some]
 grind
def zj7 (a:qN):Bool:=zqy a.1 && (zqy a.2.1 && ql a.2.2.1 0 3)
theorem zEc (a:qN):zb9 (a,()) = some (!zj7 a,()):=by
 simp only [zb9,zmm,zd2,Option.bind_some,zj7]; grind
theorem zai {α:Type} (d x:α):zf (List.replicate 1 d) 0 x = [x]:=rfl
theorem zbj {n:Nat} (h:n ≤ 1000000):decide (n ≤ lim) = true:=decide_eq_true (by unfold lim; omega)
theorem zFU (r:za) (h:r.2.2.1.length ≤ 1000):zfS (r,()) = some (r.2.2.1.map (·.1),()):=by
 have hl:r.2.2.1.length ≤ Go.maxLen:=by unfold Go.maxLen; omega
 have:=jU (B:=yl) (α:=List ByteArray) (len:=r.2.2.1.length) hl (fun i o=>(r.2.2.1,(r.2.2.1.length:Int),i,o)) (fun i o=>some (o ++ (r.2.2.1.drop i).map (·.1),())) (fun i o=>o.length ≤ i) (fun k i s hi hI hk=>by
  simp only [yl]
  rw [ltT hi,zD hi,qj,zai,zbj (by simp; omega)]
  simp only [cond_true]
  rw [hk _ (by simp; omega),zaJ zeU hi]
  simp) (fun k s _=>by
  simp only [yl]
  rw [ltF,List.drop_of_length_le (Nat.le_refl _)]
  simp) [] (Nat.le_refl _)
 exact this
def zmn:List ByteArray→Bool
 | []=>true
 | x :: l=>!(l.any fun y=>eqI .str x y) && zmn l
theorem ztZ (x y:ByteArray):eqI .str x y = (x.toList == y.toList):=rfl
theorem zI8 (o:List (ByteArray × Int)) (x z:ByteArray) (v:Int):zau .str (yw .str o x v) z = (zau .str o z || eqI .str z x):=by
 induction o with
 | nil=>simp only [yw,zau]; cases eqI .str z x <;> rfl
 | cons e o ih =>
  simp only [yw,zau]
  cases h:eqI .str x e.1 with
  | true =>
   simp only [cond_true,zau]
   have:eqI .str z e.1 = eqI .str z x:=by rw [ztZ] at *; rw [ztZ]; have:=eq_of_beq h; rw [this]
   cases h2:eqI .str z e.1 with
   | true=>rfl
   | false=>rw [← this,h2]; simp
  | false =>
   simp only [cond_false,zau,ih]
   cases eqI .str z e.1 <;> rfl
theorem zEd (o:List (ByteArray × Int)) (x:ByteArray) (v:Int):(yw .str o x v).length = o.length + (bif zau .str o x then 0 else 1):=by
 induction o with
 | nil=>rfl
 | cons e o ih =>
  simp only [yw,zau]
  cases h:eqI .str x e.1 with
  | true=>simp only [cond_true,List.length_cons,Nat.add_zero]
  | false =>
   simp only [cond_false,List.length_cons,ih]
   generalize (bif zau .str o x then 0 else 1) = n
   omega
def zqz:List ByteArray→List (ByteArray × Int)→Nat
 | [],o=>o.length
 | x :: l,o=>zqz l (yw .str o x (wI (zcq .str (0:Int) o x + 1)))
theorem zGv:∀ (l:List ByteArray) (o:List (ByteArray × Int)),zqz l o ≤ o.length + l.length
 | [],o=>Nat.le_refl _
 | x :: l,o=>by
  have h:=zGv l (yw .str o x (wI (zcq .str (0:Int) o x + 1)))
  rw [zEd] at h
  simp only [zqz,List.length_cons]
  cases hm:zau .str o x <;> (rw [hm] at h; simp only [cond_true,cond_false] at h; omega)
theorem zGw:∀ (l:List ByteArray) (o:List (ByteArray × Int)),(zqz l o == o.length + l.length) = (zmn l && l.all fun x=>!zau .str o x)
 | [],o=>by simp [zqz,zmn]
 | x :: l,o=>by
  have h:=zGv l (yw .str o x (wI (zcq .str (0:Int) o x + 1)))
  have ih:=zGw l (yw .str o x (wI (zcq .str (0:Int) o x + 1)))
  rw [zEd] at h ih
  simp only [zqz,List.length_cons,zmn,List.all_cons]
  cases hm:zau .str o x with
  | true =>
   rw [hm] at h
   simp only [cond_true] at h
   have:(zqz l (yw .str o x (wI (zcq .str (0:Int) o x + 1))) == o.length + (l.length + 1)) = false:=by
    simp only [beq_eq_false_iff_ne]; omega
   rw [this]
   simp
  | false =>
   rw [hm] at ih
   simp only [cond_false] at ih
   rw [show o.length + (l.length + 1) = o.length + 1 + l.length by omega,ih]
   simp only [zI8,Bool.not_or,Bool.not_false,Bool.true_and]
   have:(l.all fun z=>!zau .str o z && !eqI .str z x) = ((l.all fun z=>!zau .str o z) && !(l.any fun y=>eqI .str x y)):=by
    rw [Bool.eq_iff_iff]
    simp only [List.all_eq_true,Bool.and_eq_true,Bool.not_eq_true',List.any_eq_false,Bool.not_eq_true]
    have hs:∀ z,eqI .str z x = eqI .str x z:=fun z=>by rw [ztZ,ztZ]; exact Bool.beq_comm
    grind
   rw [this]
   cases zmn l <;> cases (l.all fun z=>!zau .str o z) <;> cases (l.any fun y=>eqI .str x y) <;> rfl
theorem zI9 (m n:Nat):(((m:Nat):Int) == ((n:Nat):Int)) = (m == n):=by
 rw [Bool.eq_iff_iff]; simp only [beq_iff_eq]; omega
theorem zK0 (l:List ByteArray) (h:l.length ≤ 1000):zly (l,()) = some (zmn l,()):=by
 have:=zss (B:=zc2) (l:=l) (α:=List (ByteArray × Int)) (ze .str) (fun i o=>(l,l,(l.length:Int),i,o)) (fun rest o=>some (zqz rest o == l.length,())) (by unfold Go.maxLen; omega) (fun k i x rest s hi hx _ hr hk=>by
  simp only [zc2]
  rw [ltT hi,zD hi,Int.toNat_natCast,hx]
  simp only [cond_true]
  exact hk _) (fun k s=>by
  simp only [zc2]
  rw [ltF]
  simp only [cond_false,zqz]
  rw [zI9]
  cases s.length == l.length <;> rfl) []
 refine this.trans ?_
 have h2:=zGw l []
 simp only [List.length_nil,Nat.zero_add] at h2
 rw [h2]
 simp [zau]
def zhn (l:List qN):Bool:=ql (l.length:Int) 1 8 && (l.all zj7 && zmn (l.map (·.1)))
theorem zHC (r:za):jH (r,()) = some (zhn r.2.2.1,()):=by
 rw [zM]
 simp only [jH,zd2,Option.bind_some]
 unfold zhn
 by_cases hw:ql (List.length r.2.2.1:Int) 1 8 = true
 ·have hb:1 ≤ List.length r.2.2.1 ∧ List.length r.2.2.1 ≤ 8:=by unfold ql at hw; grind
  rw [zon (p:=fun a=>!zj7 a) (by unfold Go.maxLen; omega) fun x _=>zEc x,zFU r (by omega)]
  simp only [Option.bind_some]
  rw [zK0 _ (by simp; omega)]
  simp only [Option.bind_some]
  have:=jV (l:=r.2.2.1) (p:=zj7)
  grind
 ·grind
def zj8 (r:za):Bool:=ql (r.2.1.length:Int) 1 8 && r.2.1.all fun i=>decide (0 ≤ i) && decide (i < (r.1.length:Int))
theorem zK1 (r:za) (h:r.1.length ≤ 1000):ye (r,()) = some (zj8 r,()):=by
 rw [zM]
 simp only [ye,zd2,Option.bind_some]
 unfold zj8
 by_cases hw:ql (List.length r.2.1:Int) 1 8 = true
 ·have hb:1 ≤ List.length r.2.1 ∧ List.length r.2.1 ≤ 8:=by unfold ql at hw; grind
  have hq:∀ x:Int,(fun z:Int × Unit=>zbY (z.1,some r,())) (x,()) = some (!(decide (0 ≤ x) && decide (x < (r.1.length:Int))),()):=fun x=>by
   show zbY _ = _
   simp only [zbY,zd2,Option.bind_some]
   have:wI (((List.length r.1:Nat):Int) - 1) = (r.1.length:Int) - 1:=by
    unfold wI
    exact IntWalk.i64_in _ (by omega)
   rw [this]
   unfold ql
   grind
  rw [yY (by unfold Go.maxLen; omega) fun x _=>hq x]
  simp only [Option.bind_some]
  have:=jV (l:=r.2.1) (p:=fun i=>decide (0 ≤ i) && decide (i < (r.1.length:Int)))
  grind
 ·grind
def zt0 (r:za):Bool:=ql r.2.2.2.2.2.1 0 24 && (ql r.2.2.2.2.2.2.1 0 48 && (ql r.2.2.2.2.2.2.2.1 1 4 && ql r.2.2.2.2.2.2.2.2.1 1 16))
theorem zLI (r:za):yV (r,()) = some (zt0 r,()):=by
 simp only [yV,zd2,Option.bind_some,zt0]; grind
def zho (q:zbQ):Bool:=ql q.1 0 12 && (ql q.2.1 0 12 && (ql q.2.2.1 0 12 && (ql q.2.2.2.1 0 12 && ql q.2.2.2.2.1 0 12)))
def zqA:Int→List zbQ→Bool
 | _,[]=>true
 | left,q :: l=>zho q && (decide (q.2.2.2.2.2.1 ≤ left) && zqA (wU (left - q.2.2.2.2.2.1)) l)
theorem zHD (x:Int):zdV (x,()) = some (!ql x 0 12,()):=by
 simp only [zdV,zd2,Option.bind_some]; grind
def zjd (n:Nat) (l:List zbQ):Bool:=decide (l.length = n) && (decide (0 < l.length) && (decide (1 ≤ (l.getD 0 j4).1) && zqA 4611686018427387904 l))
theorem zKc (r:za) (h:1 ≤ r.1.length ∧ r.1.length ≤ 1000):vG (r,()) = some (zjd r.1.length r.2.2.2.2.1,()):=by
 rw [zM]
 simp only [vG,zfy]
 unfold zjd
 by_cases hn:r.2.2.2.2.1.length = r.1.length
 ·have hl:r.2.2.2.2.1.length ≤ Go.maxLen:=by unfold Go.maxLen; omega
  have hloop:zg0 K0 (4611686018427387904,r.2.2.2.2.1,(r.2.2.2.2.1.length:Int),0) = some (zqA 4611686018427387904 r.2.2.2.2.1,()) :=
   zss (l:=r.2.2.2.2.1) (α:=Int) j4 (fun i s=>(s,r.2.2.2.2.1,(r.2.2.2.2.1.length:Int),i)) (fun rest s=>some (zqA s rest,())) hl (fun k i x rest s hi hx _ hr hk=>by
    simp only [zdY]
    rw [ltT hi,zD hi]
    simp only [qj,hx,cond_true]
    have hnum:zhE (x,()) = some ([x.1,x.2.1,x.2.2.1,x.2.2.2.1,x.2.2.2.2.1],()):=rfl
    rw [hnum]
    simp only [Option.bind_some]
    rw [yY (p:=fun n=>!ql n 0 12) (l:=[x.1,x.2.1,x.2.2.1,x.2.2.2.1,x.2.2.2.2.1]) (by unfold Go.maxLen; simp) fun n _=>zHD n]
    simp only [Option.bind_some,hk,zqA,zho,List.any_cons,List.any_nil]
    grind) (fun k s=>by simp only [zdY]; rw [ltF]; rfl) _
  rw [hloop,zJ9]
  have h1:(((List.length r.2.2.2.2.1:Nat):Int) != ((List.length r.1:Nat):Int)) = false:=by rw [zmZ]; simp [hn]
  rw [h1]
  grind
 ·have h1:(((List.length r.2.2.2.2.1:Nat):Int) != ((List.length r.1:Nat):Int)) = true:=by rw [zmZ]; simp [hn]
  rw [h1]
  grind
end Go.Proofs.YtkcakhbkoeimdaaGreatDoor
end
section
namespace Go.Proofs.YtkcakhbkoeimdaaGreatDoor
open Go.Ev
def zwv (b:Int):Int:=((2 ^ b.toNat:Nat):Int)
def vh (b:Int):Bool:=decide (0 ≤ b) && decide (b < 64)
theorem zLJ {b:Int} (h:vh b = true):Go.IntKind.wrap .u64 (1 * 2 ^ (min (Int.toNat b) (Go.IntKind.bits .u64))) = zwv b:=by
 unfold vh at h
 simp only [Bool.and_eq_true,decide_eq_true_eq] at h
 obtain ⟨n,rfl⟩:=Int.eq_ofNat_of_zero_le h.1
 have hn:n < 64:=by omega
 unfold zwv
 rw [Int.toNat_natCast]
 have hm:min n (Go.IntKind.bits .u64) = n:=Nat.min_eq_left (by show n ≤ 64; omega)
 rw [hm]
 have:∀ n:Fin 64,Go.IntKind.wrap .u64 (1 * 2 ^ n.val) = ((2 ^ n.val:Nat):Int):=by decide +kernel
 exact this ⟨n,hn⟩
theorem zHE {n:Int} (h:0 ≤ n ∧ n < 18446744073709551616):Go.IntKind.wrap .u64 n = n:=by
  show n % ((2 ^ 64:Nat):Int) = n
  exact Int.emod_eq_of_lt h.1 (by have:((2 ^ 64:Nat):Int) = 18446744073709551616:=by decide
                                  omega)
def zcF (c:Int) (b:Nat):Bool:=c.toNat.testBit b
def zfH (a b:Int):Int:=Go.IntKind.wrap .u64 (BitVec.toNat (BitVec.ofInt (Go.IntKind.bits .u64) a &&& ~~~BitVec.ofInt (Go.IntKind.bits .u64) b):Int)
def orI (a b:Int):Int:=Go.IntKind.wrap .u64 (BitVec.toNat (BitVec.ofInt (Go.IntKind.bits .u64) a ||| BitVec.ofInt (Go.IntKind.bits .u64) b):Int)
def zk7:Int→List zN→Int
 | a,[]=>a
 | a,g :: gs=>zk7 (orI a (zwv g.1)) gs
theorem zj9 (n:Nat):BitVec.ofInt (Go.IntKind.bits .u64) (n:Int) = BitVec.ofNat 64 n:=by
 show BitVec.ofInt 64 (n:Int) = BitVec.ofNat 64 n
 apply BitVec.eq_of_toNat_eq
 rw [BitVec.toNat_ofInt,BitVec.toNat_ofNat]
 omega
theorem zKF (x:BitVec 64):Go.IntKind.wrap .u64 (x.toNat:Int) = (x.toNat:Int):=by
 have:=x.isLt
 exact zHE (by omega)
theorem zK2 (a b:Nat) (ha:a < 2 ^ 64) (hb:b < 2 ^ 64):orI (a:Int) (b:Int) = ((a ||| b:Nat):Int):=by
 unfold orI
 rw [zj9,zj9]
 show Go.IntKind.wrap .u64 ((BitVec.ofNat 64 a ||| BitVec.ofNat 64 b).toNat:Int) = _
 rw [zKF,BitVec.toNat_or,BitVec.toNat_ofNat,BitVec.toNat_ofNat,Nat.mod_eq_of_lt ha,Nat.mod_eq_of_lt hb]
theorem zvc (c m:Nat) (hc:c < 2 ^ 64) (hm:m < 2 ^ 64):(zfH (c:Int) (m:Int) != 0) = !((List.range' 0 64).all fun i=>!c.testBit i || m.testBit i):=by
 unfold zfH
 rw [zj9,zj9]
 show (Go.IntKind.wrap .u64 ((BitVec.ofNat 64 c &&& ~~~BitVec.ofNat 64 m).toNat:Int) != 0) = _
 rw [zKF]
 have hbit:∀ i,i < 64→(BitVec.ofNat 64 c &&& ~~~BitVec.ofNat 64 m).getLsbD i = (c.testBit i && !m.testBit i):=by
  intro i hi
  rw [BitVec.getLsbD_and,BitVec.getLsbD_not,BitVec.getLsbD_ofNat,BitVec.getLsbD_ofNat]
  simp [hi]
 by_cases h:((List.range' 0 64).all fun i=>!c.testBit i || m.testBit i) = true
 ·rw [h]
  have h0:(BitVec.ofNat 64 c &&& ~~~BitVec.ofNat 64 m) = 0#64:=by
   apply BitVec.eq_of_getLsbD_eq
   intro i hi
   rw [hbit i hi]
   have:=List.all_eq_true.1 h i (by simp [List.mem_range'_1]; omega)
   revert this
   cases c.testBit i <;> cases m.testBit i <;> simp
  rw [h0]
  rfl
 ·have h':=h
  simp only [Bool.not_eq_true] at h'
  rw [h']
  have:(BitVec.ofNat 64 c &&& ~~~BitVec.ofNat 64 m).toNat ≠ 0:=by
   intro h0
   apply h
   rw [List.all_eq_true]
   intro i hi
   simp only [List.mem_range'_1] at hi
   have hb:=hbit i (by omega)
   have e0:(BitVec.ofNat 64 c &&& ~~~BitVec.ofNat 64 m) = 0#64:=BitVec.eq_of_toNat_eq (by rw [h0]; rfl)
   rw [e0] at hb
   revert hb
   cases c.testBit i <;> cases m.testBit i <;> simp
  rw [Bool.not_false,bne_iff_ne]
  omega
theorem zKd {b:Int} (h:vh b = true):∃ n:Nat,b = n ∧ n < 64 ∧ zwv b = ((2 ^ n:Nat):Int):=by
 unfold vh at h
 simp only [Bool.and_eq_true,decide_eq_true_eq] at h
 obtain ⟨n,rfl⟩:=Int.eq_ofNat_of_zero_le h.1
 exact ⟨n,rfl,by omega,rfl⟩
theorem zyz:∀ (l:List zN) (m:Nat),m < 2 ^ 64→(∀ g ∈ l,vh g.1 = true)→∃ k:Nat,zk7 (m:Int) l = (k:Int) ∧ k < 2 ^ 64 ∧ ∀ i:Nat,k.testBit i = (m.testBit i || l.any fun g=>g.1 == (i:Int))
 | [],m,hm,_=>⟨m,rfl,hm,fun i=>by simp⟩
 | g :: l,m,hm,h=>by
  obtain ⟨n,hn,hn64,hv⟩:=zKd (h g (by simp))
  have hp:2 ^ n < 2 ^ 64:=Nat.pow_lt_pow_right (by omega) hn64
  obtain ⟨k,hk,hk64,hb⟩:=zyz l (m ||| 2 ^ n) (Nat.or_lt_two_pow hm hp) fun g hg=>h g (by simp [hg])
  refine ⟨k,?_,hk64,fun i=>?_⟩
  ·simp only [zk7]
   rw [hv,zK2 m (2 ^ n) hm hp]
   exact hk
  ·rw [hb i,Nat.testBit_or,Nat.testBit_two_pow,List.any_cons,hn,Bool.or_assoc]
   congr 2
   by_cases e:n = i
   ·subst e; simp
   ·rw [decide_eq_false e]
    symm
    simp only [beq_eq_false_iff_ne,ne_eq]
    omega
def zHF (l:List zN) (c:Int) (i k:Nat):Bool:=(List.range' i k).all fun b=>!zcF c b || l.any fun g=>g.1 == (b:Int)
def zEe (labels:List zr) (l:List zN):Bool:=labels.all fun a=>zHF l a.2.1 0 64
def zqB (l:List zr):Prop:=∀ a ∈ l,0 ≤ a.2.1 ∧ a.2.1 < 18446744073709551616
theorem zLK (labels:List zr) (l:List zN) (hl:zqB labels) (h:∀ g ∈ l,vh g.1 = true):(labels.any fun a=>zfH a.2.1 (zk7 0 l) != 0) = !zEe labels l:=by
 obtain ⟨k,hk,hk64,hb⟩:=zyz l 0 (by decide) h
 have hk':zk7 0 l = (k:Int):=hk
 rw [hk']
 unfold zEe
 have key:∀ ls:List zr,zqB ls→(ls.any fun a=>zfH a.2.1 (k:Int) != 0) = !(ls.all fun a=>zHF l a.2.1 0 64):=by
  intro ls
  induction ls with
  | nil=>intro _; rfl
  | cons a ls ih =>
   intro ha
   have h1:=ha a (by simp)
   rw [List.any_cons,List.all_cons,ih fun b hb=>ha b (by simp [hb]),Bool.not_and]
   congr 1
   obtain ⟨c,hc⟩:=Int.eq_ofNat_of_zero_le h1.1
   rw [hc,zvc c k (by omega) hk64]
   congr 1
   unfold zHF
   congr 1
   funext i
   rw [hb i]
   unfold zcF
   simp
 exact key labels hl
def zcR (b:Int):zr:=(0,zwv b,())
theorem zmo (b:Int):za0 (b,()) = some (bif vh b then (zcR b,0,()) else ((0,0,()),1,())):=by
 simp only [za0]
 cases h:vh b with
 | true =>
  have hs:wU (1 * 2 ^ min (Int.toNat b) (Go.IntKind.bits .u64)) = zwv b:=zLJ h
  rw [hs]
  simp only [vh,Bool.and_eq_true,decide_eq_true_eq] at h
  simp only [zcR]
  grind
 | false =>
  simp only [vh,Bool.and_eq_false_iff,decide_eq_false_iff_not] at h
  grind
theorem zHG (a:zr) (c:Int):zgO (a,some c,()) = some (zfH a.2.1 c != 0,()):=by
 rw [zM]; rfl
theorem zEf {σ α:Type} {B:(σ→Option (Int × Unit))→σ→Option (Int × Unit)} {l:List α} (d:α) {p:α→Bool} (st:Int→σ) (hl:l.length ≤ Go.maxLen)
 (hin:∀ k (i:Nat) x,i < l.length→l.getD i d = x→x ∈ l→B k (st i) = bif p x then some ((i:Int),()) else k (st (wI (i + 1)))) (hout:∀ k,B k (st l.length) = some (-1,())):zl B K0 (st 0) = some (qB p l 0,()):=by
 have:=jU (α:=Unit) (B:=B) hl (fun i _=>st i) (fun i _=>some (qB p (l.drop i) i,())) (fun _ _=>True) (fun k i s hi _ h=>?_) (fun k s _=>?_) () trivial
 ·simpa using this
 ·rw [hin k i _ hi rfl (qa hi),h () trivial,zaJ d hi]
  simp only [qB]
  cases p (l.getD i d) <;> rfl
 ·rw [hout,List.drop_of_length_le (Nat.le_refl _)]; rfl
theorem zww {l:List zr} {a:zr} (hl:l.length ≤ Go.maxLen):zbv (l,a,()) = some (l.any fun y=>eqI zp a y,()):=by
 have h:zdH (l,a,()) = some (qB (fun y=>eqI zp a y) l 0,()) :=
  zEf (B:=yR) (l:=l) zC (fun i=>(l,(l.length:Int),i,a)) hl (fun k i x hi hx _=>by
   simp only [yR]
   rw [ltT hi,zD hi,qj,hx]; rfl) (fun k=>by simp only [yR]; rw [ltF]; rfl)
 rw [zM]
 simp only [zbv,h,Option.bind_some]
 rw [zqd (p:=fun y=>eqI zp a y) l 0 (Int.le_refl 0)]
def zEg (labels:List zr) (n:Nat) (last:Int) (g:zN):Bool:=vh g.1 && (decide (last < g.1) && (ql g.2.1 0 ((n:Int) - 1) && labels.any fun y=>eqI zp (zcR g.1) y))
def zfh (labels:List zr) (n:Nat):Int→List zN→Bool
 | _,[]=>true
 | last,g :: gs=>zEg labels n last g && zfh labels n g.1 gs
def zlg (labels:List zr) (n:Nat) (l:List zN):Bool:=decide (l.length ≤ 8) && (zfh labels n (-1) l && zEe labels l)
theorem znI {labels:List zr} {m:Nat}:∀ (l:List zN) (last:Int),zfh labels m last l = true→∀ g ∈ l,vh g.1 = true
 | [],_,_,g,hg=>by cases hg
 | a :: l,last,h,g,hg=>by
  simp only [zfh,zEg,Bool.and_eq_true] at h
  rcases List.mem_cons.1 hg with rfl | hg
  ·exact h.1.1
  ·exact znI l a.1 h.2 g hg
theorem zKe (r:za) (h1:r.1.length ≤ Go.maxLen) (h2:r.2.2.1.length ≤ 1000000) (h3:r.2.2.2.1.length ≤ Go.maxLen) (hL:zqB r.1):vF (r,()) = some (zlg r.1 r.2.2.1.length r.2.2.2.1,()):=by
 have hloop:vF (r,()) = some (zfh r.1 r.2.2.1.length (-1) r.2.2.2.1 && (decide (r.2.2.2.1.length ≤ 8) && !(r.1.any fun a=>zfH a.2.1 (zk7 0 r.2.2.2.1) != 0)),()) :=
  zss (B := zbb) (l:=r.2.2.2.1) (α:=Int × Int) zJ (fun i s=>(s.1,r.2.2.2.1,(r.2.2.2.1.length:Int),i,r,s.2))
   (fun rest s=>some (zfh r.1 r.2.2.1.length s.1 rest && (decide (r.2.2.2.1.length ≤ 8) && !(r.1.any fun a=>zfH a.2.1 (zk7 s.2 rest) != 0)),())) h3 (fun k i x rest s hi hx _ hr hk=>by
    simp only [zbb]
    have hw:wI (((List.length r.2.2.1:Nat):Int) - 1) = (r.2.2.1.length:Int) - 1:=by
     unfold wI
     exact IntWalk.i64_in _ (by omega)
    rw [ltT hi,zD hi,hw]
    simp only [qj,hx,cond_true,zmo,Option.bind_some,zfh,zEg,zk7]
    cases hb:vh x.1 with
    | false=>rfl
    | true =>
     simp only [cond_true,zd2,Option.bind_some,Bool.true_and,zww h1]
     have hk':=hk (x.1,orI s.2 (zwv x.1))
     have e:decide (s.1 < x.1) = !decide ((x.1:Int) ≤ s.1):=by grind
     rw [e]
     cases decide ((x.1:Int) ≤ s.1) with
     | true=>rfl
     | false =>
      cases ql x.2.1 0 ((r.2.2.1.length:Int) - 1) with
      | false=>rfl
      | true =>
       cases (r.1.any fun y=>eqI zp (zcR x.1) y) with
       | false=>rfl
       | true=>exact hk') (fun k s=>by
    simp only [zbb]
    rw [ltF]
    simp only [cond_false,zfh,zk7,Bool.true_and]
    rw [zis (p:=fun a=>zfH a.2.1 s.2 != 0) h1 fun x _=>zHG x s.2,Option.bind_some]
    grind) (-1,0)
 rw [hloop]
 unfold zlg
 cases hr:zfh r.1 r.2.2.1.length (-1) r.2.2.2.1 with
 | false=>simp
 | true =>
  rw [zLK r.1 r.2.2.2.1 hL (znI _ _ hr)]
  simp
theorem zHH {labels:List zr} {n:Nat}:∀ {l:List zN} {last:Int},zfh labels n last l = qh (fun i=>zEg labels n (if i = 0 then last else (l.getD (i - 1) zJ).1) (l.getD i zJ)) 0 l.length:=by
 intro l
 induction l with
 | nil=>intro last; rfl
 | cons a l ih =>
  intro last
  simp only [zfh,List.length_cons,qh,ih]
  rw [Bool.eq_iff_iff]
  simp only [Bool.and_eq_true,qL]
  constructor
  ·rintro ⟨h1,h2⟩
   refine ⟨h1,fun j h3 h4=>?_⟩
   obtain ⟨i,rfl⟩:∃ i,j = i + 1:=⟨j - 1,by omega⟩
   have:=h2 i (by omega) (by omega)
   rw [if_neg (by omega)]
   by_cases e:i = 0
   ·subst e; simpa using this
   ·rw [if_neg e] at this
    obtain ⟨m,rfl⟩:∃ m,i = m + 1:=⟨i - 1,by omega⟩
    exact this
  ·rintro ⟨h1,h2⟩
   refine ⟨h1,fun j h3 h4=>?_⟩
   have:=h2 (j + 1) (by omega) (by omega)
   rw [if_neg (by omega)] at this
   by_cases e:j = 0
   ·subst e; simpa using this
   ·rw [if_neg e]
    obtain ⟨m,rfl⟩:∃ m,j = m + 1:=⟨j - 1,by omega⟩
    exact this
def zL (r:za):Bool:=zhm r.1 && (zj8 r && (zhn r.2.2.1 && (zlg r.1 r.2.2.1.length r.2.2.2.1 && (zjd r.1.length r.2.2.2.2.1 && zt0 r))))
structure zU (r:za):Prop where
 labels:zqB r.1
 guilds:r.2.2.2.1.length ≤ Go.maxLen
 quotas:r.2.2.2.2.1.length ≤ Go.maxLen
theorem zbG (r:za) (h:zU r):jJ (r,()) = some (zL r,()):=by
 rw [zM]
 show zl zeG K0 (6,0,r,[some vH,some ye,some jH,some vF,some vG,some yV]) = _
 obtain ⟨m,hm⟩:=ztY
 have hu:zl zeG (m + 8) (6,0,r,[some vH,some ye,some jH,some vF,some vG,some yV]) =
  Option.bind (vH (r,())) fun q=>bif q.1 then Option.bind (ye (r,())) fun q=>bif q.1 then Option.bind (jH (r,())) fun q=>bif q.1 then Option.bind (vF (r,())) fun q=>bif q.1 then Option.bind (vG (r,())) fun q=>bif q.1 then Option.bind (yV (r,())) fun q=>bif q.1 then some (true,()) else some (false,()) else some (false,()) else some (false,()) else some (false,()) else some (false,()) else some (false,()):=by kernel_rfl
 rw [hm,hu,zKa]
 unfold zL
 simp only [Option.bind_some]
 cases h1:zhm r.1 with
 | false=>rfl
 | true =>
  have hb:1 ≤ r.1.length ∧ r.1.length ≤ 8:=by unfold zhm ql at h1; grind
  rw [zK1 r (by omega),zHC]
  simp only [Option.bind_some,cond_true]
  cases zj8 r with
  | false=>rfl
  | true =>
   cases h2:zhn r.2.2.1 with
   | false=>rfl
   | true =>
    have hc:r.2.2.1.length ≤ 8:=by unfold zhn ql at h2; grind
    rw [zKe r (by unfold Go.maxLen; omega) (by omega) h.guilds h.labels,zKc r (by omega),zLI]
    simp only [Option.bind_some]
    grind
end Go.Proofs.YtkcakhbkoeimdaaGreatDoor
end
section
namespace Go.Proofs.YtkcakhbkoeimdaaGreatDoor
open Go.Ev
def qV (x:Int):Bool:=decide (0 ≤ x ∧ x ≤ 127)
theorem zHI (x:Int):zdJ (x,()) = some (qV x,()):=by simp only [zdJ,qV]; grind
theorem zAP (x:Int):zhh (x,()) = some (qV x,()):=by simp only [zhh,qV]; grind
def zt1 (x:j3):Bool:=qV x.1 && qV x.2.1
theorem zK3 (x:j3):zeZ (x,()) = some (zt1 x,()):=by simp only [zeZ,zt1,qV]; grind
def zHJ (x:Int):Bool:=decide (0 ≤ x ∧ x ≤ 5)
theorem zK4 (x:Int):zhG (x,()) = some (zHJ x,()):=by simp only [zhG,zHJ]; grind
def zyA (s:ByteArray):Bool:=ByteArray.toList s == ByteArray.toList (ByteArray.mk #[])
def zpC (x:qZ):Bool:=bif x.1 then zqy x.2.1 else zyA x.2.1
theorem zJa (x:qZ):zfC (x,()) = some (!zpC x,()):=by
 rw [zM]
 simp only [zfC,zmm,Option.bind_some,zpC,zyA]
 grind
theorem zEh {l:List qZ} (hl:l.length ≤ Go.maxLen):zih (l,()) = some (l.all zpC,()):=by
 rw [zM]
 simp only [zih]
 rw [zr2 (p:=fun x=>!zpC x) hl fun x _=>zJa x,Option.bind_some,← jV]
 cases l.any fun x=>!zpC x <;> rfl
theorem zK5 (a b:j3):eqI zR a b = ((a.1:Int) == b.1 && (a.2.1:Int) == b.2.1):=by
 show cond ((a.1:Int) == b.1) (cond ((a.2.1:Int) == b.2.1) true false) false = _
 cases ((a.1:Int) == b.1) <;> cases ((a.2.1:Int) == b.2.1) <;> rfl
def zyB (x:qe):Bool:=bif x.1 then zt1 x.2.1 && (zt1 x.2.2.1 && zHJ x.2.2.2.1) else eqI z3 x (ze z3)
theorem zEi (x:qe):zh5 (x,()) = some (!zyB x,()):=by
 rw [zM]
 simp only [zh5,zK3,zK4,Option.bind_some,zyB]
 grind
def zje (a b:qe):Bool:=a.1 && (eqI zR a.2.1 b.2.1 && (a.2.2.2.1:Int) == b.2.2.2.1)
theorem zz5 (x:qe) (r:j3) (d:Int):zft (x,some r,some d,()) = some (x.1 && (eqI zR x.2.1 r && (x.2.2.2.1:Int) == d),()):=by
 rw [zM]
 simp only [zft,Option.bind_some]
 grind
theorem zK6 {α:Type} {d:α} {p:α→Bool}:∀ (l:List α) (i:Nat) (a:Int),i < l.length→p (l.getD i d) = true→((qB p l a) == a + (i:Int)) = qh (fun j=>!p (l.getD j d)) 0 i:=by
 intro l
 induction l with
 | nil=>intro i a h; simp at h
 | cons x l ih =>
  intro i a h hp
  cases i with
  | zero =>
   have hx:p x = true:=hp
   simp only [qB,hx,cond_true,qh]
   simp
  | succ i =>
   have h':i < l.length:=by simpa using h
   have hp':p (l.getD i d) = true:=hp
   have:=ih i (a + 1) h' hp'
   have e:a + 1 + (i:Int) = a + ((i + 1:Nat):Int):=by omega
   rw [e] at this
   simp only [qB]
   rw [Bool.eq_iff_iff,qL]
   rw [Bool.eq_iff_iff,qL] at this
   cases hx:p x with
   | true =>
    simp only [cond_true]
    constructor
    ·intro h1
     have:=eq_of_beq h1
     omega
    ·intro h1
     have h2:(!p x) = true:=h1 0 (by omega) (by omega)
     rw [hx] at h2; cases h2
   | false =>
    simp only [cond_false]
    rw [this]
    constructor
    ·intro h1 j _ h2
     cases j with
     | zero=>show (!p x) = true; rw [hx]; rfl
     | succ j=>exact h1 j (by omega) (by omega)
    ·intro h1 j _ h2
     exact h1 (j + 1) (by omega) (by omega)
def zJb (l:List qe):Bool:=qh (fun i=>zyB (l.getD i vN) && bif (l.getD i vN).1 then qh (fun j=>!zje (l.getD j vN) (l.getD i vN)) 0 i else true) 0 (l.length - 0)
theorem zEj {l:List qe} (hl:l.length ≤ Go.maxLen):zl4 (l,()) = some (zJb l,()):=by
 rw [zM]
 exact yJ (B:=zdd) (i0:=0) hl (Nat.zero_le _) (fun i=>(l,l,(l.length:Int),i)) (fun k i h1 h2=>by
  simp only [zdd]
  rw [ltT h2,zD h2]
  simp only [qj,zEi,Option.bind_some,cond_true]
  cases he:zyB (l.getD i vN) with
  | false=>rfl
  | true =>
   cases hs:(l.getD i vN).1 with
   | false=>rfl
   | true =>
    have hi:zh6 (l,(l.getD i vN).2.1,(l.getD i vN).2.2.2.1,()) = some (qB (fun x=>zje x (l.getD i vN)) l 0,()):=by
     simp only [zh6]
     rw [zmk (p:=fun x=>zje x (l.getD i vN)) hl fun x _=>zz5 x _ _]
     rfl
    have hp:zje (l.getD i vN) (l.getD i vN) = true:=by
     unfold zje; rw [zK5,hs]; simp
    have:=zK6 (d:=vN) (p:=fun x=>zje x (l.getD i vN)) l i 0 h2 hp
    rw [Int.zero_add] at this
    rw [hi,← this]
    simp only [Option.bind_some,Bool.not_true,cond_false,cond_true,Bool.true_and,bne]
    cases (qB (fun x=>zje x (l.getD i vN)) l 0 == (i:Int)) <;> rfl) (fun k=>by simp only [zdd]; rw [ltF]; rfl)
def zwx (k n:Int) (r:j3):Bool:=((k == 1 || k == 3) && (qV n && eqI zR r (ze zR))) || (k == 2 && (n == 0 && zt1 r))
def ziu (x:qc):Bool:=bif x.1 then zqy x.2.1 && zwx x.2.2.1 x.2.2.2.1 x.2.2.2.2.1 else eqI zX x (ze zX)
theorem zEk (x:ztX):zbZ (x,()) = some (zwx x.1 x.2.1 x.2.2.1,()):=by
 rw [zM]
 simp only [zbZ,zHI,Option.bind_some,zwx,zt1]
 grind
theorem zBS (x:qc):zgE (x,()) = some (!ziu x,()):=by
 rw [zM]
 have h:zqj (x,()) = some ((x.2.2.1,x.2.2.2.1,x.2.2.2.2.1,()),()):=rfl
 simp only [zgE,zmm,Option.bind_some,ziu,h,zEk]
 grind
theorem zBT {l:List qc} (hl:l.length ≤ Go.maxLen):zgG (l,()) = some (l.all ziu,()):=by
 rw [zM]
 simp only [zgG]
 rw [ziQ (p:=fun x=>!ziu x) hl fun x _=>zBS x,Option.bind_some,← jV]
 cases l.any fun x=>!ziu x <;> rfl
def zEl (c:Int):Bool:=decide (32 ≤ c ∧ c ≤ 126)
theorem zK7 (c:Int):zhH (c,()) = some (zEl c,()):=by simp only [zhH,zEl]; grind
def zab (s:ByteArray):Bool:=decide (1 ≤ s.size ∧ s.size ≤ 40) && ((chr s 0 != 32 && chr s (s.size - 1) != 32) && qh (fun i=>zEl (chr s i)) 0 s.size)
theorem zyC (a b:ByteArray) (h:a.size < b.size):(ByteArray.toList a == ByteArray.toList b) = false:=by
 rw [beq_eq_false_iff_ne]
 intro e
 rw [Go.ByteArray.toList_eq,Go.ByteArray.toList_eq] at e
 have:=congrArg List.length e
 rw [zpB,zpB] at this
 omega
theorem zL3 (s:ByteArray):∀ (n:Nat) (t:ByteArray),t.size ≤ n→∀ fuel,n < fuel→∃ r,zl zP fuel (t,32) = some (r,()) ∧ r.size ≤ t.size ∧ (chr t 0 ≠ 32→r = t) ∧ (1 ≤ t.size→chr t 0 = 32→r.size < t.size):=by
 intro n
 induction n with
 | zero =>
  intro t ht fuel hf
  obtain ⟨f,rfl⟩:∃ f,fuel = f + 1:=⟨fuel - 1,by omega⟩
  refine ⟨t,?_,Nat.le_refl _,fun _=>rfl,fun h=>by omega⟩
  show zP _ (t,32) = _
  simp only [zP]
  rw [decide_eq_false (by omega)]; rfl
 | succ n ih =>
  intro t ht fuel hf
  obtain ⟨f,rfl⟩:∃ f,fuel = f + 1:=⟨fuel - 1,by omega⟩
  by_cases h0:t.size = 0
  ·refine ⟨t,?_,Nat.le_refl _,fun _=>rfl,fun h=>by omega⟩
   show zP _ (t,32) = _
   simp only [zP]
   rw [decide_eq_false (by omega)]; rfl
  have hc:((UInt8.toNat (List.getD t.data.toList (Int.toNat 0) 0):Nat):Int) = chr t 0:=rfl
  by_cases h32:chr t 0 = 32
  ·have hsz:(ByteArray.extract t (Int.toNat 1) t.size).size = t.size - 1:=by
    rw [ByteArray.size_extract]
    show min t.size t.size - 1 = _
    omega
   obtain ⟨r,h1,h2,-⟩:=ih (ByteArray.extract t (Int.toNat 1) t.size) (by rw [hsz]; omega) f (by omega)
   refine ⟨r,?_,by omega,fun h=>absurd h32 h,fun _ _=>by omega⟩
   show zP (zl zP f) (t,32) = _
   simp only [zP]
   rw [hc,h32,h1]
   grind
  ·refine ⟨t,?_,Nat.le_refl _,fun _=>rfl,fun _ h=>absurd h h32⟩
   show zP (zl zP f) (t,32) = _
   simp only [zP]
   rw [hc,decide_eq_true (by omega),decide_eq_true (by omega)]
   grind
theorem zL4:∀ (n:Nat) (t:ByteArray),t.size ≤ n→n ≤ 100→∀ fuel,n < fuel→∃ r,zl zK fuel (t,32) = some (r,()) ∧ r.size ≤ t.size ∧ (chr t (t.size - 1) ≠ 32→r = t) ∧ (1 ≤ t.size→chr t (t.size - 1) = 32→r.size < t.size):=by
 intro n
 induction n with
 | zero =>
  intro t ht _ fuel hf
  obtain ⟨f,rfl⟩:∃ f,fuel = f + 1:=⟨fuel - 1,by omega⟩
  refine ⟨t,?_,Nat.le_refl _,fun _=>rfl,fun h=>by omega⟩
  show zK _ (t,32) = _
  simp only [zK]
  rw [decide_eq_false (by omega)]; rfl
 | succ n ih =>
  intro t ht hn fuel hf
  obtain ⟨f,rfl⟩:∃ f,fuel = f + 1:=⟨fuel - 1,by omega⟩
  by_cases h0:t.size = 0
  ·refine ⟨t,?_,Nat.le_refl _,fun _=>rfl,fun h=>by omega⟩
   show zK _ (t,32) = _
   simp only [zK]
   rw [decide_eq_false (by omega)]; rfl
  have hw:wI ((t.size:Int) - 1) = ((t.size - 1:Nat):Int):=ztU (by omega) (by unfold Go.maxLen; omega)
  have hc:((UInt8.toNat (List.getD t.data.toList (Int.toNat ((t.size - 1:Nat):Int)) 0):Nat):Int) = chr t (t.size - 1):=by rw [Int.toNat_natCast]; rfl
  by_cases h32:chr t (t.size - 1) = 32
  ·have hsz:(ByteArray.extract t 0 (Int.toNat ((t.size - 1:Nat):Int))).size = t.size - 1:=by
    rw [ByteArray.size_extract,Int.toNat_natCast]
    omega
   obtain ⟨r,h1,h2,-⟩:=ih (ByteArray.extract t 0 (Int.toNat ((t.size - 1:Nat):Int))) (by rw [hsz]; omega) (by omega) f (by omega)
   refine ⟨r,?_,by omega,fun h=>absurd h32 h,fun _ _=>by omega⟩
   show zK (zl zK f) (t,32) = _
   simp only [zK]
   rw [hw,hc,h32,h1,zD (by omega)]
   grind
  ·refine ⟨t,?_,Nat.le_refl _,fun _=>rfl,fun _ h=>absurd h h32⟩
   show zK (zl zK f) (t,32) = _
   simp only [zK]
   rw [hw,hc,zD (by omega),decide_eq_true (by omega)]
   grind
theorem zLL (s:ByteArray) (h:1 ≤ s.size ∧ s.size ≤ 40):∃ r,zfw (s,ByteArray.mk #[32],()) = some (r,()) ∧ (ByteArray.toList r == ByteArray.toList s) = (chr s 0 != 32 && chr s (s.size - 1) != 32):=by
 obtain ⟨r,h1,h2,h3,h4⟩:=zL4 s.size s (Nat.le_refl _) (by omega) K0 (zCf (by unfold Go.maxLen; omega))
 obtain ⟨r',h5,h6,h7,h8⟩:=zL3 s r.size r (Nat.le_refl _) K0 (zCf (by unfold Go.maxLen; omega))
 refine ⟨r',?_,?_⟩
 ·simp only [zfw]
  have e0:(ByteArray.toList s == ByteArray.toList (ByteArray.mk #[])) = false:=by
   cases he:zyA s with
   | false=>exact he
   | true =>
    unfold zyA at he
    have:=eq_of_beq he
    rw [Go.ByteArray.toList_eq,Go.ByteArray.toList_eq] at this
    have h2:s.size = 0:=by
     rw [← zpB,this]; rfl
    omega
  have e1:(ByteArray.toList (ByteArray.mk #[32]) == ByteArray.toList (ByteArray.mk #[])) = false:=by
   rw [Go.ByteArray.toList_eq,Go.ByteArray.toList_eq]; rfl
  have p1:zby (s,32,()) = some (r,()):=h1
  have p2:zcx (r,32,()) = some (r',()):=h5
  have z1:((ByteArray.size (ByteArray.mk #[32]):Nat):Int) = 1:=rfl
  have z2:((UInt8.toNat (List.getD (Array.toList (ByteArray.data (ByteArray.mk #[32]))) (Int.toNat 0) 0):Nat):Int) = 32:=rfl
  rw [e0,e1,z1,z2,p1,Option.bind_some,p2]
  rfl
 ·by_cases hl:chr s (s.size - 1) = 32
  ·have:=h4 h.1 hl
   rw [zyC r' s (by omega),hl]; simp
  ·obtain rfl:=h3 hl
   by_cases hf:chr r 0 = 32
   ·have:=h8 h.1 hf
    rw [zyC r' r (by omega),hf]; simp
   ·rw [h7 hf]
    simp [hf,hl]
theorem zjC (s:ByteArray):zcE (s,()) = some (zab s,()):=by
 rw [zM]
 simp only [zcE]
 unfold zab
 by_cases hb:1 ≤ s.size ∧ s.size ≤ 40
 ·obtain ⟨r,h1,h2⟩:=zLL s hb
  rw [zyy (by unfold Go.maxLen; omega) zK7,h1,zyx,← h2]
  simp only [Option.bind_some]
  grind
 ·grind
def zco (x:zw):Bool:=bif x.1 then (qV x.2.1 && (qV x.2.2.1 && qV x.2.2.2.1)) && zab x.2.2.2.2.1 else eqI zy x (ze zy)
theorem zEm (x:zw):zig (x,()) = some (!zco x,()):=by
 rw [zM]
 simp only [zig,zaQ,zAP,zjC,Option.bind_some,zco]
 grind
theorem zmp {l:List zw} (hl:l.length ≤ Go.maxLen):zdi (l,()) = some (l.all zco,()):=by
 rw [zM]
 simp only [zdi]
 rw [ziR (p:=fun x=>!zco x) hl fun x _=>zEm x,Option.bind_some,← jV]
 cases l.any fun x=>!zco x <;> rfl
end Go.Proofs.YtkcakhbkoeimdaaGreatDoor
end
section
namespace Go.Proofs.YtkcakhbkoeimdaaGreatDoor
open Go.Ev
abbrev M62:Int:=4611686018427387904
abbrev U64:Int:=18446744073709551616
def vZ (x:Int):Bool:=decide (0 ≤ x ∧ x ≤ 3)
theorem zbk (x:Int):je (x,()) = some (vZ x,()):=by simp only [je,vZ]; grind
def zHK (a b:Int):Int × Int × Unit:=bif decide (a + b > M62) then (0,7,()) else (a + b,0,())
theorem zFV {a b:Int} (ha:0 ≤ a) (hb:0 ≤ b ∧ b < U64):zjq (a,b,()) = some (zHK a b):=by
 simp only [zjq,extA,extB,zHK,cond_true]
 have h0:0 ≤ (a + b) / 18446744073709551616:=by omega
 have h1:((a + b) / 18446744073709551616 != 0) = decide (18446744073709551616 ≤ a + b):=by
  rw [Bool.eq_iff_iff]; simp only [bne_iff_ne,ne_eq,decide_eq_true_eq]; omega
 have h2:a + b < 18446744073709551616→(a + b) % 18446744073709551616 = a + b:=fun h=>by omega
 unfold M62 at *
 unfold U64 at *
 grind
def zEn (a b:Int):Int × Int × Unit:=bif decide (a * b > M62) then (0,7,()) else (a * b,0,())
theorem zL5 (a b:Nat) (ha:a < 18446744073709551616) (hb:b < 18446744073709551616):zcM ((a:Int),(b:Int),()) = some ((((a * b) / 18446744073709551616:Nat):Int),(((a * b) % 18446744073709551616:Nat):Int),()):=by
 have e32:((2:Int) ^ min (Int.toNat 32) (Go.IntKind.bits .u64)) = 4294967296:=rfl
 have hand:∀ x:Nat,x < 18446744073709551616→wU (BitVec.toNat (BitVec.ofInt (Go.IntKind.bits .u64) (x:Int) &&& BitVec.ofInt (Go.IntKind.bits .u64) 4294967295):Int) = ((x % 4294967296:Nat):Int):=fun x hx=>by
  have h1:BitVec.ofInt (Go.IntKind.bits .u64) 4294967295 = BitVec.ofNat 64 4294967295:=rfl
  rw [zj9,h1]
  have h2:(BitVec.ofNat 64 x &&& BitVec.ofNat 64 4294967295).toNat = x % 4294967296:=by
   rw [BitVec.toNat_and,BitVec.toNat_ofNat,BitVec.toNat_ofNat,Nat.mod_eq_of_lt (show x < 2 ^ 64 by omega)]
   exact Nat.and_two_pow_sub_one_eq_mod x 32
  have h3:((BitVec.ofNat 64 x &&& BitVec.ofNat 64 4294967295:BitVec (Go.IntKind.bits .u64)).toNat:Int) = ((x % 4294967296:Nat):Int):=congrArg _ h2
  exact (congrArg wU h3).trans (zHE (by omega))
 have hdiv:∀ x:Nat,Int.fdiv (x:Int) 4294967296 = ((x / 4294967296:Nat):Int):=fun x=>by
  rw [Int.fdiv_eq_ediv_of_nonneg _ (by omega)]; rfl
 have hw:∀ x:Nat,x < 18446744073709551616→wU (x:Int) = (x:Int):=fun x hx=>zHE (by omega)
 have hmod:wU ((a:Int) * (b:Int)) = (((a * b) % 18446744073709551616:Nat):Int):=by
  rw [show ((a:Int) * (b:Int)) = ((a * b:Nat):Int) by simp]
  show ((a * b:Nat):Int) % ((2 ^ 64:Nat):Int) = _
  rfl
 simp only [zcM,e32]
 have ha1:a / 4294967296 ≤ 4294967295:=by omega
 have ha0:a % 4294967296 ≤ 4294967295:=by omega
 have hb1:b / 4294967296 ≤ 4294967295:=by omega
 have hb0:b % 4294967296 ≤ 4294967295:=by omega
 have hp:=Nat.mul_le_mul ha1 hb1
 have hq:=Nat.mul_le_mul ha1 hb0
 have hr:=Nat.mul_le_mul ha0 hb1
 have hs:=Nat.mul_le_mul ha0 hb0
 have hab:a * b = (a / 4294967296 * (b / 4294967296)) * 18446744073709551616 + (a / 4294967296 * (b % 4294967296) + a % 4294967296 * (b / 4294967296)) * 4294967296 + a % 4294967296 * (b % 4294967296):=by
  conv=>lhs; rw [← Nat.div_add_mod a 4294967296,← Nat.div_add_mod b 4294967296]
  grind
 rw [hmod,hab,hand a ha,hand b hb,hdiv a,hdiv b]
 generalize a / 4294967296 = a1 at *
 generalize a % 4294967296 = a0 at *
 generalize b / 4294967296 = b1 at *
 generalize b % 4294967296 = b0 at *
 simp only [← Int.natCast_mul]
 generalize a1 * b1 = p at *
 generalize a1 * b0 = q at *
 generalize a0 * b1 = r at *
 generalize a0 * b0 = s at *
 rw [hw p (by omega),hw q (by omega),hw r (by omega),hw s (by omega),hdiv s]
 simp only [← Int.natCast_add]
 rw [hw (q + s / 4294967296) (by omega),hdiv (q + s / 4294967296),hand _ (by omega)]
 simp only [← Int.natCast_add]
 rw [hw (p + (q + s / 4294967296) / 4294967296) (by omega),hw ((q + s / 4294967296) % 4294967296 + r) (by omega),hdiv]
 simp only [← Int.natCast_add]
 rw [hw _ (by omega)]
 have:p + (q + s / 4294967296) / 4294967296 + ((q + s / 4294967296) % 4294967296 + r) / 4294967296 = (p * 18446744073709551616 + (q + r) * 4294967296 + s) / 18446744073709551616:=by omega
 rw [this]
theorem zEo {a b:Int} (ha:0 ≤ a ∧ a < U64) (hb:0 ≤ b ∧ b < U64):ze9 (a,b,()) = some (zEn a b):=by
 obtain ⟨m,rfl⟩:=Int.eq_ofNat_of_zero_le ha.1
 obtain ⟨n,rfl⟩:=Int.eq_ofNat_of_zero_le hb.1
 unfold U64 at *
 simp only [ze9]
 rw [zL5 m n (by omega) (by omega),Option.bind_some]
 unfold zEn M62
 have e:((m:Int) * (n:Int)) = ((m * n:Nat):Int):=by simp
 rw [e]
 generalize m * n = p
 by_cases h:p < 18446744073709551616
 ·have h1:p / 18446744073709551616 = 0:=by omega
  have h2:p % 18446744073709551616 = p:=by omega
  simp only [h1,h2]
  grind
 ·have h1:(((p / 18446744073709551616:Nat):Int) != 0) = true:=by simp only [bne_iff_ne,ne_eq]; omega
  simp only [h1]
  grind
def zmq:Int→List Int→Int × Int × Unit
 | a,[]=>(a,0,())
 | a,x :: l=>bif decide (a + x > M62) then (0,7,()) else zmq (a + x) l
theorem zaE {σ α β ρ:Type} {B:(σ→Option ρ)→σ→Option ρ} {l:List β} (d:β) (I:Nat→α→Prop) (st:Int→α→σ) (G:List β→α→Option ρ) (hl:l.length ≤ Go.maxLen)
 (hin:∀ k (i:Nat) x rest s,i < l.length→I i s→l.getD i d = x→x ∈ l→l.drop (i + 1) = rest→(∀ s',I (i + 1) s'→k (st (wI (i + 1)) s') = G rest s')→B k (st i s) = G (x :: rest) s) (hout:∀ k s,I l.length s→B k (st l.length s) = G [] s) (s:α) (h0:I 0 s):zl B K0 (st 0 s) = G l s:=by
 have:=jU (B:=B) hl st (fun i s=>G (l.drop i) s) I (fun k i s hi hI h=>?_) (fun k s hI=>?_) s h0
 ·simpa using this
 ·rw [zaJ d hi]
  exact hin k i _ _ s hi hI rfl (qa hi) rfl fun s' hI'=>h s' hI'
 ·rw [hout _ _ hI,List.drop_of_length_le (Nat.le_refl _)]
theorem zk8 {l:List Int} (hl:l.length ≤ Go.maxLen) (h:∀ x ∈ l,0 ≤ x ∧ x < U64):zfx (l,()) = some (zmq 0 l) :=
 zaE (B:=zfb) (l:=l) (α:=Int) (0:Int) (fun _ s=>0 ≤ s) (fun i s=>(s,l,(l.length:Int),i)) (fun rest s=>some (zmq s rest)) hl (fun k i x rest s hi hI hx hm hr hk=>by
  simp only [zfb]
  have hxx:=h x hm
  rw [ltT hi,zD hi,qj,hx,zFV hI hxx]
  simp only [cond_true,Option.bind_some,zHK,zmq]
  by_cases hb:s + x > M62
  ·rw [decide_eq_true hb]; rfl
  ·rw [decide_eq_false hb]
   exact hk (s + x) (by omega)) (fun k s _=>by simp only [zfb]; rw [ltF]; rfl) 0 (Int.le_refl 0)
def jg (a b:zr):Bool:=decide (a.1 ≤ b.1) && (List.range' 0 64).all fun i=>!zcF a.2.1 i || zcF b.2.1 i
def zbl (a:zr):Prop:=0 ≤ a.2.1 ∧ a.2.1 < U64
theorem zeo {a b:zr} (ha:zbl a) (hb:zbl b):va (a,b,()) = some (jg a b,()):=by
 rw [zM]
 simp only [va]
 unfold jg
 unfold zbl U64 at *
 obtain ⟨m,hm⟩:=Int.eq_ofNat_of_zero_le ha.1
 obtain ⟨n,hn⟩:=Int.eq_ofNat_of_zero_le hb.1
 have h1:=zvc m n (by omega) (by omega)
 unfold zfH at h1
 have h2:(wU (BitVec.toNat (BitVec.ofInt (Go.IntKind.bits .u64) (a.2.1:Int) &&& ~~~BitVec.ofInt (Go.IntKind.bits .u64) (b.2.1:Int)):Int) == 0) = (List.range' 0 64).all fun i=>!zcF a.2.1 i || zcF b.2.1 i:=by
  rw [hm,hn]
  have h3:∀ z:Int,(z != 0) = !(z == 0):=fun z=>rfl
  rw [h3] at h1
  have h4:=congrArg (!·) h1
  simp only [Bool.not_not] at h4
  exact h4
 rw [h2]
 grind
theorem zyD (x:Int):zfu (x,()) = some (qV x,()):=by simp only [zfu,qV]; grind
def zyE (x:zkW):Bool:=vZ x.1 && (decide (x.2.1 ≤ M62) && decide (-1 ≤ x.2.2.1 ∧ x.2.2.1 ≤ 127))
theorem zFW (x:zkW):zgl (x,()) = some (zyE x,()):=by
 rw [zM]
 simp only [zgl,zbk,zyD,Option.bind_some,zyE,qV]
 unfold M62
 grind
def zCi (x:zkW):Bool:=(x.2.1:Int) == 0 && (x.2.2.1:Int) == -1
theorem zEp (x:zkW):ze1 (x,()) = some (zCi x,()):=by
 rw [zM]
 simp only [ze1,zCi]
 have h:eqI zdE x (x.1,(ze zdE).2.1,-1,(ze zdE).2.2.2) = ((x.2.1:Int) == 0 && (x.2.2.1:Int) == -1):=by
  show cond ((x.1:Int) == x.1) (cond ((x.2.1:Int) == 0) (cond ((x.2.2.1:Int) == -1) true false) false) false = _
  rw [beq_self_eq_true]
  cases ((x.2.1:Int) == 0) <;> cases ((x.2.2.1:Int) == -1) <;> rfl
 rw [h]
def zwy (x:zv):Bool:=(qV x.2.1 && (qV x.2.2.1 && (x.2.1:Int) != x.2.2.1)) && ((zyE x.2.2.2.1 && zyE x.2.2.2.2.1) && !(zCi x.2.2.2.1 && zCi x.2.2.2.2.1))
def zt2 (x:zv):Prop:=(0 ≤ x.2.2.2.1.2.1 ∧ x.2.2.2.1.2.1 < U64) ∧ (0 ≤ x.2.2.2.2.1.2.1 ∧ x.2.2.2.2.1.2.1 < U64)
theorem zFX (x:zv):zjt (x,()) = some (zwy x,()):=by
 rw [zM]
 simp only [zjt,zyD,zFW,zEp,Option.bind_some,zwy]
 grind
def zlh (x:zv):Bool:=bif x.1 then zwy x else eqI zA x (ze zA)
theorem zyF (x:zv):zeF (x,()) = some (!zlh x,()):=by
 rw [zM]
 simp only [zeF,zFX,Option.bind_some,zlh]
 grind
theorem zBU {l:List zv} (hl:l.length ≤ Go.maxLen):zgF (l,()) = some (l.all zlh,()):=by
 rw [zM]
 simp only [zgF]
 rw [zit (p:=fun x=>!zlh x) hl fun x _=>zyF x,Option.bind_some,← jV]
 cases l.any fun x=>!zlh x <;> rfl
end Go.Proofs.YtkcakhbkoeimdaaGreatDoor
end
section
namespace Go.Proofs.YtkcakhbkoeimdaaGreatDoor
open Go.Ev
theorem zli {α:Type} {p:α→Bool} {x:α} {l:List α}:(x :: l).filter p = bif p x then x :: l.filter p else l.filter p:=by
 rw [List.filter_cons]; cases p x <;> rfl
def qG {α:Type} (p:α→Bool):Nat→List α→List Int
 | _,[]=>[]
 | i,x :: l=>bif p x then (i:Int) :: qG p (i + 1) l else qG p (i + 1) l
theorem zk9 {α:Type} {p:α→Bool}:∀ (l:List α) (i:Nat),(qG p i l).length ≤ l.length
 | [],_=>Nat.le_refl _
 | x :: l,i=>by
  have:=zk9 (p:=p) l (i + 1)
  simp only [qG,List.length_cons]
  cases p x <;> simp <;> omega
theorem zla {α:Type} {p:α→Bool}:∀ (l:List α) (i:Nat),∀ z ∈ qG p i l,∃ j:Nat,z = (j:Int) ∧ i ≤ j ∧ j < i + l.length
 | [],i,z,h=>by cases h
 | x :: l,i,z,h=>by
  simp only [qG] at h
  have ih:=zla (p:=p) l (i + 1)
  cases hp:p x with
  | true =>
   rw [hp,cond_true] at h
   rcases List.mem_cons.1 h with rfl | h
   ·exact ⟨i,rfl,Nat.le_refl _,by simp⟩
   ·obtain ⟨j,h1,h2,h3⟩:=ih z h
    exact ⟨j,h1,by omega,by simp; omega⟩
  | false =>
   rw [hp,cond_false] at h
   obtain ⟨j,h1,h2,h3⟩:=ih z h
   exact ⟨j,h1,by omega,by simp; omega⟩
theorem zkx {α β:Type} {p q:α→Bool} {g:α→β} (d:α) (L:List α):∀ (l:List α) (i:Nat),(∀ j,j < l.length→L.getD (i + j) d = l.getD j d)→((qG p i l).filter fun z=>q (L.getD z.toNat d)).map (fun z=>g (L.getD z.toNat d)) = (l.filter fun x=>p x && q x).map g
 | [],_,_=>rfl
 | x :: l,i,h=>by
  have ih:=zkx (p:=p) (q:=q) (g:=g) d L l (i + 1) fun j hj=>by
   have:=h (j + 1) (by simp; omega)
   rw [show i + 1 + j = i + (j + 1) by omega,this]; rfl
  have h0:L.getD i d = x:=h 0 (by simp)
  simp only [qG,zli]
  cases hp:p x with
  | false=>simp only [cond_false,Bool.false_and]; exact ih
  | true =>
   simp only [cond_true,Bool.true_and,zli,Int.toNat_natCast,h0]
   cases hq:q x with
   | false=>exact ih
   | true=>simp only [cond_true,List.map_cons,Int.toNat_natCast,h0,ih]
theorem ztB {l:List zv} {g:zv × Unit→Option (Bool × Unit)}:zdP (some (l,some g,()),()) = some (true,()):=rfl
theorem zvd {l:List zv} {g:zv × Unit→Option (Bool × Unit)} {p:zv→Bool} (hg:∀ x,g (x,()) = some (p x,())) {i:Nat} (hi:i < l.length):vV (some (l,some g,()),(i:Int),()) = some (p (l.getD i qS),()):=by
 rw [zM]
 simp only [vV,ztB,Option.bind_some,cond_true]
 rw [decide_eq_true (by omega),ltT hi,zD hi,qj,hg]
 simp only [cond_true,Option.bind_some]
theorem zrC {l:List zv} {g:zv × Unit→Option (Bool × Unit)} {p:zv→Bool} (hl:l.length ≤ lim) (hg:∀ x,g (x,()) = some (p x,())):zcQ (some (l,some g,()),()) = some (qG p 0 l,()):=by
 have hl':l.length ≤ Go.maxLen:=by unfold lim at hl; unfold Go.maxLen; omega
 have:=jU (B:=yr) (α:=List Int) hl' (fun i o=>(some (l,some g,()),(l.length:Int),i,o)) (fun i o=>some (o ++ qG p i (l.drop i),())) (fun i o=>o.length ≤ i) (fun k i o hi hI hk=>by
  simp only [yr]
  rw [ltT hi,zvd hg hi,zai,zaJ qS hi]
  simp only [cond_true,Option.bind_some,qG]
  rw [decide_eq_true (by simp; omega)]
  cases hp:p (l.getD i qS) with
  | false =>
   simp only [cond_false]
   exact hk o (by omega)
  | true =>
   simp only [cond_true]
   rw [hk _ (by simp; omega)]
   simp) (fun k o _=>by
  simp only [yr]
  rw [ltF,List.drop_of_length_le (Nat.le_refl _)]
  simp [qG]) [] (Nat.le_refl _)
 refine Eq.trans ?_ (this.trans ?_)
 ·rfl
 ·simp
theorem zEq {l:List zq} {g:zq × Unit→Option (Bool × Unit)}:zdQ (some (l,some g,()),()) = some (true,()):=rfl
theorem zFY {l:List zq} {g:zq × Unit→Option (Bool × Unit)} {p:zq→Bool} (hg:∀ x,g (x,()) = some (p x,())) {i:Nat} (hi:i < l.length):zeE (some (l,some g,()),(i:Int),()) = some (p (l.getD i qs),()):=by
 rw [zM]
 simp only [zeE,zEq,Option.bind_some,cond_true]
 rw [decide_eq_true (by omega),ltT hi,zD hi,qj,hg]
 simp only [cond_true,Option.bind_some]
theorem zBV {l:List zq} {g:zq × Unit→Option (Bool × Unit)} {p:zq→Bool} (hl:l.length ≤ lim) (hg:∀ x,g (x,()) = some (p x,())):zf3 (some (l,some g,()),()) = some (qG p 0 l,()):=by
 have hl':l.length ≤ Go.maxLen:=by unfold lim at hl; unfold Go.maxLen; omega
 have:=jU (B:=yu) (α:=List Int) hl' (fun i o=>(some (l,some g,()),(l.length:Int),i,o)) (fun i o=>some (o ++ qG p i (l.drop i),())) (fun i o=>o.length ≤ i) (fun k i o hi hI hk=>by
  simp only [yu]
  rw [ltT hi,zFY hg hi,zai,zaJ qs hi]
  simp only [cond_true,Option.bind_some,qG]
  rw [decide_eq_true (by simp; omega)]
  cases hp:p (l.getD i qs) with
  | false =>
   simp only [cond_false]
   exact hk o (by omega)
  | true =>
   simp only [cond_true]
   rw [hk _ (by simp; omega)]
   simp) (fun k o _=>by
  simp only [yu]
  rw [ltF,List.drop_of_length_le (Nat.le_refl _)]
  simp [qG]) [] (Nat.le_refl _)
 refine Eq.trans ?_ (this.trans ?_)
 ·rfl
 ·simp
def znJ (l:List zv) (c:Int):Int × Int × Unit:=bif vZ c then zmq 0 ((l.filter fun x=>x.1 && (x.2.2.2.1.1:Int) == c).map fun x=>x.2.2.2.1.2.1) else (0,1,())
theorem zFZ (l:List zv) (hl:l.length ≤ lim):zju (l,()) = some (some (l,some zgy,()),()):=by
 simp only [zju,yB,zrA hl,Option.bind_some]
 rfl
theorem zBW (x:zv):zgy (x,()) = some (x.1,()):=by
 rw [zM]; rfl
theorem zEr {l:List zv} (hl:l.length ≤ lim) (h:∀ x ∈ l,zt2 x) (c:Int):zid (l,c,()) = some (znJ l c):=by
 have hl':l.length ≤ Go.maxLen:=by unfold lim at hl; unfold Go.maxLen; omega
 simp only [zid,zic,zbk,Option.bind_some]
 unfold znJ
 cases hc:vZ c with
 | false=>rfl
 | true =>
  simp only [cond_true]
  rw [zFZ l hl,Option.bind_some,zrC hl zBW,Option.bind_some]
  have hsl:=zk9 (p:=fun x:zv=>x.1) l 0
  have hsm:=zla (p:=fun x:zv=>x.1) l 0
  have hloop:=zaE (B:=zdf) (l:=qG (fun x:zv=>x.1) 0 l) (α:=List Int) (0:Int) (fun i o=>o.length ≤ i ∧ ∀ x ∈ o,0 ≤ x ∧ x < U64) (fun i o=>(l,c,qG (fun x:zv=>x.1) 0 l,((qG (fun x:zv=>x.1) 0 l).length:Int),i,o))
   (fun rest o=>some (zmq 0 (o ++ (rest.filter fun z=>((l.getD z.toNat qS).2.2.2.1.1:Int) == c).map fun z=>(l.getD z.toNat qS).2.2.2.1.2.1))) (by omega) (fun k i x rest o hi hI hx hm hr hk=>by
    simp only [zdf]
    obtain ⟨j,rfl,-,hj⟩:=hsm x hm
    rw [ltT hi,zD hi,qj,hx,zD (by omega),zD (by omega),Int.toNat_natCast,zai]
    have hxx:=(h (l.getD j qS) (qa (by omega))).1
    simp only [cond_true,zli,Int.toNat_natCast]
    rw [decide_eq_true (by simp; omega)]
    simp only [cond_true]
    cases hq:((l.getD j qS).2.2.2.1.1:Int) == c with
    | false =>
     exact hk o ⟨by omega,hI.2⟩
    | true =>
     simp only [cond_true,List.map_cons,Int.toNat_natCast]
     refine (hk _ ⟨by simp; omega,fun x hx=>?_⟩).trans ?_
     ·rcases List.mem_append.1 hx with hx | hx
      ·exact hI.2 x hx
      ·rcases List.mem_singleton.1 hx with rfl
       exact hxx
     ·rw [List.append_assoc]; rfl) (fun k o hI=>by
    simp only [zdf]
    rw [ltF]
    simp only [cond_false]
    rw [zk8 (by omega) hI.2,List.filter_nil,List.map_nil,List.append_nil]
    rfl) [] ⟨Nat.le_refl _,fun x hx=>by cases hx⟩
  refine hloop.trans ?_
  rw [List.nil_append,zkx (q:=fun x:zv=>(x.2.2.2.1.1:Int) == c) (g:=fun x:zv=>x.2.2.2.1.2.1) qS l l 0 fun j _=>by rw [Nat.zero_add]]
end Go.Proofs.YtkcakhbkoeimdaaGreatDoor
end
section
namespace Go.Proofs.YtkcakhbkoeimdaaGreatDoor
open Go.Ev
def zz6 (x:Int):Bool:=decide (0 ≤ x ∧ x ≤ 2)
theorem zz7 (x:Int):zaO (x,()) = some (!zz6 x,()):=by simp only [zaO,zz6]; grind
def zpD (r:za) (i:Nat) (row:List Int):Bool:=decide (row.length = r.2.2.1.length) && (row.all zz6 && row.getD (Int.toNat (r.2.2.2.1.getD i zJ).2.1) (0:Int) == 2)
def vi (r:za) (l:List (List Int)):Bool:=decide (l.length = r.2.2.2.1.length) && qh (fun i=>zpD r i (l.getD i [])) 0 (l.length - 0)
structure zhp (r:za):Prop where
 labels:1 ≤ r.1.length ∧ r.1.length ≤ 8
 lines:1 ≤ r.2.1.length ∧ r.2.1.length ≤ 8
 accounts:1 ≤ r.2.2.1.length ∧ r.2.2.1.length ≤ 8
 guilds:r.2.2.2.1.length ≤ 8
 quotas:r.2.2.2.2.1.length = r.1.length
 heads:∀ i,i < r.2.2.2.1.length→0 ≤ (r.2.2.2.1.getD i zJ).2.1 ∧ (r.2.2.2.1.getD i zJ).2.1 < (r.2.2.1.length:Int)
theorem qt {r:za} (h:zL r = true):zhp r:=by
 simp only [zL,Bool.and_eq_true] at h
 obtain ⟨h1,h2,h3,h4,h5,-⟩:=h
 simp only [zhm,zj8,zhn,zlg,zjd,ql,Bool.and_eq_true,decide_eq_true_eq,zHH,qL] at h1 h2 h3 h4 h5
 refine ⟨by omega,by omega,by omega,h4.1,by omega,fun i hi=>?_⟩
 have:=h4.2.1 i (by omega) (by omega)
 simp only [zEg,ql,Bool.and_eq_true,decide_eq_true_eq] at this
 omega
theorem ixR {n:Nat} {x:Int} {ρ:Type} {y:Option ρ} (h:0 ≤ x ∧ x < (n:Int)):inR x (n:Int) y = y:=zIX h.1 h.2
theorem zmr {r:za} (hr:zU r) (l:List (List Int)):zdn (r,l,()) = some (zL r && vi r l,()):=by
 rw [zM]
 simp only [zdn,zil,zbG r hr,Option.bind_some]
 cases hb:zL r with
 | false=>rfl
 | true =>
  have ok:=qt hb
  rw [zmZ]
  unfold vi
  by_cases hn:l.length = r.2.2.2.1.length
  ·have hg:=ok.guilds
   have hloop:zjc K0 (some zaO,l,(l.length:Int),0,r) = bif qh (fun i=>zpD r i (l.getD i [])) 0 (l.length - 0) then some (true,()) else some (false,()) :=
    yJ (i0:=0) (n:=l.length) (by unfold Go.maxLen; omega) (Nat.zero_le _) (fun i=>(some zaO,l,(l.length:Int),i,r)) (fun k i h1 h2=>by
     simp only [zfD]
     rw [ltT h2,zD h2,Int.toNat_natCast,zmZ]
     unfold zpD
     by_cases hm:(l.getD i []).length = r.2.2.1.length
     ·have ha:=ok.accounts
      have hh:=ok.heads i (by omega)
      rw [yY (p:=fun x=>!zz6 x) (l:=l.getD i []) (by unfold Go.maxLen; omega) fun x _=>zz7 x,zD (by omega),qj,ixR (by rw [hm]; exact hh)]
      have:=jV (l:=l.getD i []) (p:=zz6)
      simp only [Option.bind_some,cond_true]
      grind
     ·grind) (fun k=>by simp only [zfD]; rw [ltF]; rfl)
   rw [hloop]
   grind
  ·grind
theorem zJc (x:Int):zjS (x,()) = some (qV x,()):=by simp only [zjS,qV]; grind
theorem zHL (x:Int):zdL (x,()) = some (qV x,()):=by simp only [zdL,qV]; grind
def zqC (k a b:Int):Int × Int × Unit:=bif (k != 1 && k != 2) || (a == 0 || b == 0) then (0,1,()) else bif decide (a * b > M62) then (0,7,()) else bif k == 2 then (a,0,()) else (a * b,0,())
theorem zve {k a b:Int} (ha:0 ≤ a ∧ a < U64) (hb:0 ≤ b ∧ b < U64):zgo (k,a,b,()) = some (zqC k a b):=by
 simp only [zgo,zEo ha hb,Option.bind_some,zEn,zqC]
 generalize a * b = p
 cases h:decide (p > M62) <;> simp only [cond_true,cond_false] <;> grind
def zeL (x:Int):Prop:=0 ≤ x ∧ x < U64
structure zlj (x:zq):Prop where
 amount:zeL x.2.2.2.2.2.2.1
 price:zeL x.2.2.2.2.2.2.2.1
 held:zeL x.2.2.2.2.2.2.2.2.1
def zqD (x:zq):Bool:=((zqC x.2.2.2.1 x.2.2.2.2.2.2.2.1 x.2.2.2.2.2.2.1).2.1 == 0 && (zqC x.2.2.2.1 x.2.2.2.2.2.2.2.1 x.2.2.2.2.2.2.1).1 == x.2.2.2.2.2.2.2.2.1) && ((qV x.2.1 && qV x.2.2.1) && ((vZ x.2.2.2.2.1 && vZ x.2.2.2.2.2.1) && ((x.2.2.2.2.1:Int) != x.2.2.2.2.2.1 && decide (0 ≤ x.2.2.2.2.2.2.2.2.2.1))))
theorem zHM {x:zq} (h:zlj x):zk2 (x,()) = some (zqD x,()):=by
 rw [zM]
 simp only [zk2,zve h.price h.amount,zJc,zbk,Option.bind_some,zqD]
 generalize zqC x.2.2.2.1 x.2.2.2.2.2.2.2.1 x.2.2.2.2.2.2.1 = n
 grind
def zz8 (x:zq):Bool:=bif x.1 then zqD x else eqI zo x (ze zo)
def zwz (l:List zq):List Int:=(l.filter fun x=>x.1).map fun x=>x.2.2.2.2.2.2.2.2.2.1
def zEs:List Int→List (Int × Int)→Nat
 | [],o=>o.length
 | x :: l,o=>zEs l (yw tI o x (wI (zcq tI (0:Int) o x + 1)))
def zt3 (l:List zq):Bool:=l.all zz8 && zEs (zwz l) [] == (zwz l).length
theorem zEt {l:List zq} (hl:l.length ≤ 1000000) (h:∀ x ∈ l,zlj x):zmf (l,()) = some (zt3 l,()):=by
 have hloop:=zaE (B:=zdh) (l:=l) (α:=Nat × List (Int × Int)) qs (fun i s=>s.1 ≤ i) (fun i s=>((s.1:Int),l,(l.length:Int),i,s.2))
  (fun rest s=>some (rest.all zz8 && zEs (zwz rest) s.2 == s.1 + (zwz rest).length,())) (by unfold Go.maxLen; omega) (fun k i x rest s hi hI hx hm hr hk=>by
   obtain ⟨n,o⟩:=s
   simp only [zdh]
   have hn:n ≤ i:=hI
   have hw:wI ((n:Int) + 1) = ((n + 1:Nat):Int):=by
    unfold wI
    rw [IntWalk.i64_in _ (by omega)]; rfl
   rw [ltT hi,zD hi]
   simp only [qj,hx,cond_true,zHM (h x hm),Option.bind_some,hw,zwz,zli,List.all_cons,zz8]
   cases hlive:x.1 with
   | false =>
    simp only [cond_false]
    have:=hk (n,o) (by show n ≤ i + 1; omega)
    cases eqI zo x (ze zo) with
    | false=>rfl
    | true=>exact this
   | true =>
    simp only [cond_true,List.map_cons,zEs,List.length_cons]
    have:=hk (n + 1,yw tI o x.2.2.2.2.2.2.2.2.2.1 (wI (zcq tI (0:Int) o x.2.2.2.2.2.2.2.2.2.1 + 1))) (by show n + 1 ≤ i + 1; omega)
    cases zqD x with
    | false=>rfl
    | true =>
     refine this.trans ?_
     simp only [zwz,Bool.true_and]
     rw [show n + 1 + (List.map (fun x:zq=>x.2.2.2.2.2.2.2.2.2.1) (List.filter (fun x=>x.1) rest)).length = n + ((List.map (fun x:zq=>x.2.2.2.2.2.2.2.2.2.1) (List.filter (fun x=>x.1) rest)).length + 1) by omega]) (fun k s _=>by
   obtain ⟨n,o⟩:=s
   simp only [zdh]
   rw [ltF]
   simp only [cond_false,zwz,List.filter_nil,List.map_nil,zEs,List.length_nil,List.all_nil,Bool.true_and,Nat.add_zero]
   rw [zI9]
   cases o.length == n <;> rfl) (0,[]) (Nat.le_refl _)
 refine hloop.trans ?_
 unfold zt3
 rw [Nat.zero_add]
structure zt4 (x:zG):Prop where
 amount:zeL x.2.2.2.2.2.2.2.1
 price:zeL x.2.2.2.2.2.2.2.2.1
def zlk (x:zG):Bool:=(decide (x.1 ≤ M62) && (qV x.2.1 && (qV x.2.2.1 && (qV x.2.2.2.1 && qV x.2.2.2.2.2.2.2.2.2.1)))) && bif (x.2.2.2.2.1:Int) == 3 then ((x.2.2.2.2.2.1:Int) == 0 && (x.2.2.2.2.2.2.1:Int) == 0) && ((x.2.2.2.2.2.2.2.1:Int) == 0 && (x.2.2.2.2.2.2.2.2.1:Int) == 0)
 else ((zqC x.2.2.2.2.1 x.2.2.2.2.2.2.2.1 x.2.2.2.2.2.2.2.2.1).2.1 == 0 && (x.2.2.2.2.2.2.2.2.2.1:Int) == 0) && ((x.2.2.2.2.2.1:Int) != x.2.2.2.2.2.2.1 && (vZ x.2.2.2.2.2.1 && vZ x.2.2.2.2.2.2.1))
theorem zJd (x:zG):eqI zx x (x.1,x.2.1,x.2.2.1,x.2.2.2.1,x.2.2.2.2.1,(ze zx).2.2.2.2.2.1,(ze zx).2.2.2.2.2.2.1,(ze zx).2.2.2.2.2.2.2.1,(ze zx).2.2.2.2.2.2.2.2.1,x.2.2.2.2.2.2.2.2.2.1,(ze zx).2.2.2.2.2.2.2.2.2.2) = (((x.2.2.2.2.2.1:Int) == 0 && (x.2.2.2.2.2.2.1:Int) == 0) && ((x.2.2.2.2.2.2.2.1:Int) == 0 && (x.2.2.2.2.2.2.2.2.1:Int) == 0)):=by
 show cond ((x.1:Int) == x.1) (cond ((x.2.1:Int) == x.2.1) (cond ((x.2.2.1:Int) == x.2.2.1) (cond ((x.2.2.2.1:Int) == x.2.2.2.1) (cond ((x.2.2.2.2.1:Int) == x.2.2.2.2.1) (cond ((x.2.2.2.2.2.1:Int) == 0) (cond ((x.2.2.2.2.2.2.1:Int) == 0) (cond ((x.2.2.2.2.2.2.2.1:Int) == 0) (cond ((x.2.2.2.2.2.2.2.2.1:Int) == 0) (cond ((x.2.2.2.2.2.2.2.2.2.1:Int) == x.2.2.2.2.2.2.2.2.2.1) true false) false) false) false) false) false) false) false) false) false = _
 simp only [beq_self_eq_true,cond_true]
 cases ((x.2.2.2.2.2.1:Int) == 0) <;> cases ((x.2.2.2.2.2.2.1:Int) == 0) <;> cases ((x.2.2.2.2.2.2.2.1:Int) == 0) <;> cases ((x.2.2.2.2.2.2.2.2.1:Int) == 0) <;> rfl
theorem zF0 {x:zG} (h:zt4 x):zjv (x,()) = some (zlk x,()):=by
 rw [zM]
 simp only [zjv,zve h.amount h.price,zHL,zbk,Option.bind_some,zlk]
 rw [zJd x]
 generalize zqC x.2.2.2.2.1 x.2.2.2.2.2.2.2.1 x.2.2.2.2.2.2.2.2.1 = n
 unfold M62
 grind
def zJe (a b:zG):Int:=orV (zkv a.1 b.1) (zkv a.2.1 b.2.1)
theorem zBX (a b:zG):zgD (a,b,()) = some (zJe a b,()):=by
 simp only [zgD,zrB,zml,Option.bind_some]
 show Option.bind (zcZ ([zkv a.1 b.1,zkv a.2.1 b.2.1],())) _ = _
 rw [zLG]; rfl
def zms (l:List zG):Bool:=qh (fun i=>zlk (l.getD i zhz) && (decide (i = 0) || !decide (zJe (l.getD (i - 1) zhz) (l.getD i zhz) ≥ 0))) 0 (l.length - 0)
theorem zBY {l:List zG} (hl:l.length ≤ Go.maxLen) (h:∀ x ∈ l,zt4 x):zko (l,()) = some (zms l,()):=by
 rw [zM]
 exact yJ (B:=zcb) (i0:=0) hl (Nat.zero_le _) (fun i=>(l,l,(l.length:Int),i)) (fun k i h1 h2=>by
  simp only [zcb]
  rw [ltT h2,zD h2,qj,zF0 (h _ (qa h2))]
  by_cases h0:i = 0
  ·subst h0
   simp only [cond_true,Option.bind_some]
   grind
  ·rw [ztU (by omega) (by omega),zD (by omega),Int.toNat_natCast,zBX]
   simp only [cond_true,Option.bind_some]
   grind) (fun k=>by simp only [zcb]; rw [ltF]; rfl)
end Go.Proofs.YtkcakhbkoeimdaaGreatDoor
end
section
namespace Go.Proofs.YtkcakhbkoeimdaaGreatDoor
open Go.Ev
def zqE (a:List Int):Prop:=∀ x ∈ a,zeL x
theorem zmt {a:List Int} (h:zqE a) (i:Nat):zeL (a.getD i 0):=by
 by_cases hi:i < a.length
 ·exact h _ (qa hi)
 ·rw [List.getD_eq_getElem?_getD,List.getElem?_eq_none (by omega)]
  unfold zeL U64; decide
structure zll (x:zi):Prop where
 trades:∀ t ∈ x.2.2.2.2.1,zt2 t
 purses:∀ a ∈ x.2.2.2.2.2.1,zqE a
 made:zqE x.2.2.2.2.2.2.2.1
 spent:zqE x.2.2.2.2.2.2.2.2.1
structure qY (s:zd):Prop where
 shelves:∀ x ∈ s.2.1,zll x
 orders:∀ x ∈ s.2.2.2.1,zlj x
 entries:∀ x ∈ s.2.2.2.2.1,zt4 x
def zfi (r:za) (x:zi) (q:zbQ):Bool:=((decide ((x.1.length:Int) = q.1) && decide ((x.2.1.length:Int) = q.2.1)) && (decide ((x.2.2.1.length:Int) = q.2.2.1) && decide ((x.2.2.2.1.length:Int) = q.2.2.2.1))) && (decide ((x.2.2.2.2.1.length:Int) = q.2.2.2.2.1) && (decide (x.2.2.2.2.2.1.length = r.2.2.1.length) && decide (x.2.2.2.2.2.2.1.length = r.2.2.1.length)))
def ziv (r:za) (s:zd):Bool:=(decide (s.2.1.length = r.1.length) && (decide ((s.2.2.2.1.length:Int) = r.2.2.2.2.2.1) && decide ((s.2.2.2.2.1.length:Int) ≤ r.2.2.2.2.2.2.1))) && ((decide (s.2.2.2.2.2.1.length = r.2.1.length) && decide (s.1 ≤ M62)) && qh (fun i=>zfi r (s.2.1.getD i zg) (r.2.2.2.2.1.getD i j4)) 0 (s.2.1.length - 0))
theorem neI (a b:Int):(a != b) = !decide (a = b):=by
 rw [Bool.eq_iff_iff]; simp
theorem zBZ {r:za} (hr:zU r) (s:zd):zbC ((r,s,()),()) = some (zL r && ziv r s,()):=by
 rw [zM]
 simp only [zbC,zgH,zbG r hr,Option.bind_some]
 cases hb:zL r with
 | false=>rfl
 | true =>
  have ok:=qt hb
  have ok1:=ok.labels
  have ok2:=ok.quotas
  rw [zmZ,zmZ]
  unfold ziv M62
  by_cases hn:s.2.1.length = r.1.length
  ·have hloop:zik K0 ((r.2.2.1.length:Int),s.2.1,(s.2.1.length:Int),0,(r,s,())) = bif qh (fun i=>zfi r (s.2.1.getD i zg) (r.2.2.2.2.1.getD i j4)) 0 (s.2.1.length - 0) then some (true,()) else some (false,()) :=
    yJ (i0:=0) (n:=s.2.1.length) (by unfold Go.maxLen; omega) (Nat.zero_le _) (fun i=>((r.2.2.1.length:Int),s.2.1,(s.2.1.length:Int),i,(r,s,()))) (fun k i h1 h2=>by
     simp only [zeI]
     rw [ltT h2,zD h2,zD (by omega)]
     simp only [qj,neI,cond_true,zfi]
     generalize s.2.1.getD i zg = x
     generalize r.2.2.2.2.1.getD i j4 = q
     generalize k _ = kk
     grind (splits:=30)) (fun k=>by simp only [zeI]; rw [ltF]; rfl)
   rw [hloop]
   grind
  ·grind
structure zhq (r:za) (s:zd):Prop where
 shelves:s.2.1.length = r.1.length
 orders:s.2.2.2.1.length ≤ 24
 entries:s.2.2.2.2.1.length ≤ 48
 people:s.2.2.2.2.2.1.length = r.2.1.length
 shelf:∀ x ∈ s.2.1,x.1.length ≤ 12 ∧ x.2.1.length ≤ 12 ∧ x.2.2.1.length ≤ 12 ∧ x.2.2.2.1.length ≤ 12 ∧ x.2.2.2.2.1.length ≤ 12 ∧ x.2.2.2.2.2.1.length = r.2.2.1.length ∧ x.2.2.2.2.2.2.1.length = r.2.2.1.length
theorem zwA:∀ (l:List zbQ) (n:Int),zqA n l = true→∀ q ∈ l,zho q = true
 | [],_,_,q,h=>by cases h
 | a :: l,n,h,q,hq=>by
  simp only [zqA,Bool.and_eq_true] at h
  rcases List.mem_cons.1 hq with rfl | hq
  ·exact h.1
  ·exact zwA l _ h.2.2 q hq
theorem yf {r:za} {s:zd} (hb:zL r = true) (h:ziv r s = true):zhq r s:=by
 have ok:=qt hb
 simp only [zL,Bool.and_eq_true] at hb
 obtain ⟨-,-,-,-,h5,h6⟩:=hb
 simp only [zjd,zt0,ql,Bool.and_eq_true,decide_eq_true_eq] at h5 h6
 simp only [ziv,Bool.and_eq_true,decide_eq_true_eq,qL] at h
 obtain ⟨⟨h7,h8,h9⟩,⟨h10,-⟩,h11⟩:=h
 refine ⟨h7,by omega,by omega,h10,fun x hx=>?_⟩
 obtain ⟨i,hi,rfl⟩:=List.mem_iff_getElem.1 hx
 have h12:=h11 i (by omega) (by omega)
 have e:s.2.1.getD i zg = s.2.1[i]:=by simp [List.getD,hi]
 rw [e] at h12
 have hq:=zwA _ _ h5.2.2.2 (r.2.2.2.2.1.getD i j4) (qa (by have:=ok.quotas; omega))
 simp only [zho,ql,Bool.and_eq_true,decide_eq_true_eq] at hq
 simp only [zfi,Bool.and_eq_true,decide_eq_true_eq] at h12
 omega
def jy (x:zi):Bool:=(x.1.all zpC) && (zJb x.2.1 && (x.2.2.1.all ziu && (x.2.2.2.1.all zco && x.2.2.2.2.1.all zlh)))
theorem zyG {x:zi} (h:x.1.length ≤ 12 ∧ x.2.1.length ≤ 12 ∧ x.2.2.1.length ≤ 12 ∧ x.2.2.2.1.length ≤ 12 ∧ x.2.2.2.2.1.length ≤ 12):zeH (x,()) = some (jy x,()):=by
 rw [zM]
 have hm:12 ≤ Go.maxLen:=by unfold Go.maxLen; omega
 simp only [zeH]
 rw [zEh (by omega),zEj (by omega),zBT (by omega),zmp (by omega),zBU (by omega)]
 simp only [Option.bind_some,jy]
 grind
theorem zB0 {r:za} {s:zd} (ok:zhp r) (sz:zhq r s):zbD ((r,s,()),()) = some (s.2.1.all jy,()):=by
 rw [zM]
 simp only [zbD]
 have h1:=ok.labels
 have h2:=sz.shelves
 rw [zFL (p:=jy) (by unfold Go.maxLen; omega) fun x hx=>zyG (by have:=sz.shelf x hx; omega)]
 simp only [Option.bind_some]
def qC (r:za) (x:Int):Bool:=decide (0 ≤ x ∧ x < (r.2.2.1.length:Int))
def qp (r:za) (x:Int):Bool:=decide (0 ≤ x ∧ x < (r.1.length:Int))
theorem zac (r:za) (s:zd) (x:Int):qK ((r,s,()),x,()) = some (qC r x,()):=by simp only [qK,qC]; grind
theorem zrD (r:za) (s:zd) (x:Int):zbA ((r,s,()),x,()) = some (qp r x,()):=by simp only [zbA,qp]; grind
def zmu (s:zd) (x:j3):Bool:=decide (0 ≤ x.1 ∧ x.1 < (s.2.1.length:Int)) && (decide (0 ≤ x.2.1 ∧ x.2.1 < ((s.2.1.getD x.1.toNat zg).1.length:Int)) && ((s.2.1.getD x.1.toNat zg).1.getD x.2.1.toNat ztV).1)
theorem zrE (s:zd) (x:j3):zd6 (s,x,()) = some (zmu s x,()):=by
 rw [zM]
 simp only [zd6,zmu,ix]
 by_cases h1:0 ≤ x.1 ∧ x.1 < (s.2.1.length:Int)
 ·rw [ixR h1,ixR h1]
  by_cases h2:0 ≤ x.2.1 ∧ x.2.1 < ((s.2.1.getD x.1.toNat zg).1.length:Int)
  ·rw [ixR h2]
   grind
  ·grind
 ·grind
def zjf (r:za) (s:zd) (x:zq):Bool:=!x.1 || (qp r x.2.1 && (qC r x.2.2.1 && decide (x.2.2.2.2.2.2.2.2.2.1 < (s.2.2.2.2.1.length:Int))))
def zjg (r:za) (s:zd) (x:zG):Bool:=decide (x.2.1 < (r.2.1.length:Int)) && ((x.2.2.1:Int) == r.2.1.getD x.2.1.toNat 0 && (qC r x.2.2.2.1 && decide (x.1 ≤ s.1)))
def zpE (r:za) (x:Int):Bool:=x == -1 || qC r x
theorem zHN (r:za) (s:zd) (x:zq):zdW (x,some (r,s,()),()) = some (zjf r s x,()):=by
 rw [zM]
 simp only [zdW,zac,zrD,Option.bind_some,zjf]
 grind
theorem zHO (r:za) (s:zd) {x:zG} (h:zlk x = true):za8 (x,some (r,s,()),()) = some (zjg r s x,()):=by
 rw [zM]
 simp only [za8,zac,Option.bind_some,zjg,ix]
 have:0 ≤ x.2.1:=by unfold zlk qV at h; grind
 by_cases h1:x.2.1 < (r.2.1.length:Int)
 ·rw [ixR ⟨this,h1⟩]
  grind
 ·grind
theorem zHP (r:za) (s:zd) (x:Int):vm (x,some (r,s,()),()) = some (zpE r x,()):=by
 rw [zM]
 simp only [vm,zac,Option.bind_some,zpE]
 grind
def zbH (r:za) (s:zd):Bool:=vi r s.2.2.1 && (zt3 s.2.2.2.1 && (zms s.2.2.2.2.1 && (zmu s (ze zR) && (s.2.2.2.1.all (zjf r s) && (s.2.2.2.2.1.all (zjg r s) && s.2.2.2.2.2.1.all (zpE r))))))
theorem zEu {l:List zG} (h:zms l = true):∀ x ∈ l,zlk x = true:=by
 intro x hx
 simp only [zms,qL,Bool.and_eq_true] at h
 obtain ⟨i,hi,rfl⟩:=List.mem_iff_getElem.1 hx
 have e:l.getD i zhz = l[i]:=by simp [List.getD,hi]
 rw [← e]
 exact (h i (by omega) (by omega)).1
theorem zz9 {r:za} {s:zd} (hr:zU r) (hb:zL r = true) (hs:qY s) (sz:zhq r s):zaT ((r,s,()),()) = some (zbH r s,()):=by
 rw [zM]
 have ok:=qt hb
 have h1:=ok.lines
 have h2:=sz.orders
 have h3:=sz.entries
 have h4:=sz.people
 have hm:48 ≤ Go.maxLen:=by unfold Go.maxLen; omega
 simp only [zaT,zmr hr,hb,Bool.true_and,Option.bind_some]
 unfold zbH
 cases vi r s.2.2.1 with
 | false=>rfl
 | true =>
  rw [zEt (by omega) hs.orders,zBY (by omega) hs.entries,zrE]
  simp only [Option.bind_some,cond_true]
  cases zt3 s.2.2.2.1 with
  | false=>rfl
  | true =>
   cases he:zms s.2.2.2.2.1 with
   | false=>rfl
   | true =>
    rw [zFM (p:=zjf r s) (by omega) fun x _=>zHN r s x,zFN (p:=zjg r s) (by omega) fun x hx=>zHO r s (zEu he x hx),zI5 (p:=zpE r) (by omega) fun x _=>zHP r s x]
    simp only [Option.bind_some,cond_true]
    grind
end Go.Proofs.YtkcakhbkoeimdaaGreatDoor
end
section
namespace Go.Proofs.YtkcakhbkoeimdaaGreatDoor
open Go.Ev
def zf4 (r:za) (a b:Int):Bool:=qp r a && (qp r b && jg (r.1.getD a.toNat zC) (r.1.getD b.toNat zC))
theorem zmv {r:za} (hr:zU r) (a:Int) (h:qp r a = true):zbl (r.1.getD a.toNat zC):=by
 simp only [qp,decide_eq_true_eq] at h
 exact hr.labels _ (qa (by omega))
theorem zvf {r:za} (hr:zU r) (s:zd) (a b:Int):zgm ((r,s,()),a,b,()) = some (zf4 r a b,()):=by
 rw [zM]
 simp only [zgm,zrD,Option.bind_some,zf4,ix]
 cases ha:qp r a with
 | false=>rfl
 | true =>
  cases hb:qp r b with
  | false=>rfl
  | true =>
   rw [zeo (zmv hr a ha) (zmv hr b hb)]
   simp only [qp,decide_eq_true_eq] at ha hb
   rw [ixR ha,ixR hb]
   simp only [Option.bind_some]
   grind
def zgr (r:za) (s:zd) (i:Int) (x:j3):Bool:=zmu s x && zf4 r x.1 i
theorem ziw {r:za} (hr:zU r) (s:zd) (i:Int) (x:j3):vW (x,some (r,s,()),some i,()) = some (zgr r s i x,()):=by
 rw [zM]
 simp only [vW,zrE,zvf hr,Option.bind_some,zgr]
 grind
def zfj (r:za) (s:zd) (i:Int) (x:qe):Bool:=!x.1 || (zgr r s i x.2.1 && zgr r s i x.2.2.1)
def zdx (r:za) (s:zd) (i:Int) (x:qc):Bool:=(x.2.2.1:Int) != 2 || zgr r s i x.2.2.2.2.1
def zpF (r:za) (s:zd) (i:Int) (x:zi):Bool:=x.2.1.all (zfj r s i) && (x.2.2.1.all (zdx r s i) && x.2.2.2.2.2.2.1.all (zgr r s i))
theorem zJf {r:za} (hr:zU r) (s:zd) (i:Int) (x:qe):zeC (x,some (some fun z=>vW (z.1,some (r,s,()),some i,())),()) = some (zfj r s i x,()):=by
 rw [zM]
 simp only [zeC,ziw hr,Option.bind_some,zfj]
 grind
theorem zJg {r:za} (hr:zU r) (s:zd) (i:Int) (x:qc):zbT (x,some (some fun z=>vW (z.1,some (r,s,()),some i,())),()) = some (zdx r s i x,()):=by
 rw [zM]
 simp only [zbT,ziw hr,Option.bind_some,zdx]
 grind
theorem zB1 {r:za} {s:zd} (hr:zU r) (ok:zhp r) (sz:zhq r s):zd8 ((r,s,()),()) = some (qh (fun i=>zpF r s (i:Int) (s.2.1.getD i zg)) 0 (s.2.1.length - 0),()):=by
 rw [zM]
 have h1:=ok.labels
 have h2:=sz.shelves
 have h3:=ok.accounts
 exact yJ (B:=zcd) (i0:=0) (n:=s.2.1.length) (by unfold Go.maxLen; omega) (Nat.zero_le _) (fun i=>(s.2.1,(s.2.1.length:Int),i,(r,s,()))) (fun k i _ h=>by
  have hm:12 ≤ Go.maxLen:=by unfold Go.maxLen; omega
  have hz:=sz.shelf _ (qa (d:=zg) h)
  simp only [zcd]
  have hbelow:zkl ((r,s,()),(i:Int),()) = some (some fun z=>vW (z.1,some (r,s,()),some (i:Int),()),()):=rfl
  rw [ltT h,zD h,qj,hbelow,Option.bind_some,zHx (p:=zfj r s i) (by omega) fun x _=>zJf hr s i x,zyw (p:=zdx r s i) (by omega) fun x _=>zJg hr s i x,zI6 (p:=zgr r s i) (by omega) fun x _=>ziw hr s i x]
  simp only [Option.bind_some,cond_true]
  unfold zpF
  grind) (fun k=>by simp only [zcd]; rw [ltF]; rfl)
theorem zF1 {σ ρ:Type} {B:(σ→Option ρ)→σ→Option ρ} {i0 n:Nat} (hn:n ≤ Go.maxLen) (h0:i0 ≤ n) {p:Nat→Bool} {fin bad:Option ρ} (st:Int→σ)
 (hin:∀ k (i:Nat),i0 ≤ i→i < n→B k (st i) = bif p i then k (st (wI (i + 1))) else bad) (hout:∀ k,B k (st n) = fin) (K:Nat) (hK:n - i0 < K):zl B K (st i0) = bif qh p i0 (n - i0) then fin else bad:=by
 have key:∀ (m i fuel:Nat),i0 ≤ i→i + m = n→m < fuel→zl B fuel (st i) = bif qh p i m then fin else bad:=by
  intro m
  induction m with
  | zero =>
   intro i fuel _ h1 h2
   obtain ⟨f,rfl⟩:∃ f,fuel = f + 1:=⟨fuel - 1,by omega⟩
   obtain rfl:i = n:=by omega
   exact hout _
  | succ m ih =>
   intro i fuel h1 h2 h3
   obtain ⟨f,rfl⟩:∃ f,fuel = f + 1:=⟨fuel - 1,by omega⟩
   show B (zl B f) (st i) = _
   rw [hin _ i h1 (by omega),wI,zxo (len:=n) (by omega) hn,show ((i:Int) + 1) = ((i + 1:Nat):Int) by omega,ih (i + 1) f (by omega) (by omega) (by omega)]
   simp only [qh]
   cases p i <;> rfl
 exact key (n - i0) i0 K (Nat.le_refl _) (by omega) hK
def zpG (r:za) (x:qc):Bool:=(x.2.2.1:Int) != 1 || qC r x.2.2.2.1
def zjh (r:za) (i:Int) (x:zw):Bool:=!x.1 || (zf4 r x.2.1 i && (qC r x.2.2.1 && qC r x.2.2.2.1))
def zqF (r:za) (x:zv):Bool:=!x.1 || (qC r x.2.1 && qC r x.2.2.1)
def zdr (r:za) (i:Int) (x:zi):Bool:=x.2.2.1.all (zpG r) && (x.2.2.2.1.all (zjh r i) && x.2.2.2.2.1.all (zqF r))
theorem zHQ (r:za) (s:zd) (x:qc):za9 (x,some (r,s,()),()) = some (zpG r x,()):=by
 rw [zM]
 simp only [za9,zac,Option.bind_some,zpG]
 grind
theorem zHR {r:za} (hr:zU r) (s:zd) (i:Int) (x:zw):vn (x,some (r,s,()),some i,()) = some (zjh r i x,()):=by
 rw [zM]
 simp only [vn,zac,zvf hr,Option.bind_some,zjh]
 grind
theorem zHS (r:za) (s:zd) (x:zv):qE (x,some (r,s,()),()) = some (zqF r x,()):=by
 rw [zM]
 simp only [qE,zac,Option.bind_some,zqF]
 grind
theorem zAa {r:za} {s:zd} (hr:zU r) (ok:zhp r) (sz:zhq r s):zaR ((r,s,()),()) = some (qh (fun i=>zdr r (i:Int) (s.2.1.getD i zg)) 0 s.2.1.length,()):=by
 rw [zM]
 have h1:=ok.labels
 have h2:=sz.shelves
 have hm:12 ≤ Go.maxLen:=by unfold Go.maxLen; omega
 have step:∀ k (i:Nat),i < s.2.1.length→qO k (s.2.1,(s.2.1.length:Int),(i:Int),(r,s,())) = bif zdr r (i:Int) (s.2.1.getD i zg) then k (s.2.1,(s.2.1.length:Int),wI ((i:Int) + 1),(r,s,())) else some (false,()):=fun k i h=>by
  have hz:=sz.shelf _ (qa (d:=zg) h)
  simp only [qO]
  rw [ltT h,zD h,qj,zyw (p:=zpG r) (by omega) fun x _=>zHQ r s x,zHy (p:=zjh r i) (by omega) fun x _=>zHR hr s i x,zFO (p:=zqF r) (by omega) fun x _=>zHS r s x]
  simp only [Option.bind_some,cond_true]
  unfold zdr
  grind
 have hend:∀ k,qO k (s.2.1,(s.2.1.length:Int),(s.2.1.length:Int),(r,s,())) = some (true,()):=fun k=>by simp only [qO]; rw [ltF]; rfl
 have first:zaR ((r,s,()),()) = zxp (qO) (qO) K0 (s.2.1,(s.2.1.length:Int),((0:Nat):Int),(r,s,())):=rfl
 have hw:wI (((0:Nat):Int) + 1) = ((1:Nat):Int):=rfl
 obtain ⟨m,hK⟩:=ztY
 have hf:∀ (B0 B1:(vo→Option (Bool × Unit))→vo→Option (Bool × Unit)) (x:vo),zxp B0 B1 K0 x = B0 (zl B1 (m + 7)) x:=fun B0 B1 x=>by rw [hK]; rfl
 have rest:=zF1 (B:=qO) (i0:=1) (n:=s.2.1.length) (by unfold Go.maxLen; omega) (by omega) (p:=fun i=>zdr r (i:Int) (s.2.1.getD i zg)) (fun i=>(s.2.1,(s.2.1.length:Int),i,(r,s,()))) (fun k i _ h=>step k i h) hend (m + 7) (by unfold K0 Go.maxLen at hK; omega)
 rw [hf] at first
 rw [first,step _ 0 (by omega),hw]
 refine (congrArg (fun z=>bif zdr r ((0:Nat):Int) (s.2.1.getD 0 zg) then z else some (false,())) rest).trans ?_
 obtain ⟨n,hn⟩:∃ n,s.2.1.length = n + 1:=⟨s.2.1.length - 1,by omega⟩
 rw [hn]
 simp only [qh,Nat.add_sub_cancel]
 cases zdr r ((0:Nat):Int) (s.2.1.getD 0 zg) <;> rfl
theorem zEv {l:List zv} {g:zv × Unit→Option (Bool × Unit)} {p:zv→Bool} (hg:∀ x,g (x,()) = some (p x,())) (z:Int):vV (some (l,some g,()),z,()) = some (decide (0 ≤ z ∧ z < (l.length:Int)) && p (l.getD z.toNat qS),()):=by
 by_cases h:0 ≤ z ∧ z < (l.length:Int)
 ·obtain ⟨n,rfl⟩:=Int.eq_ofNat_of_zero_le h.1
  rw [zvd hg (by omega),decide_eq_true h,Bool.true_and,Int.toNat_natCast]
 ·rw [decide_eq_false h,Bool.false_and]
  simp only [vV,ztB,Option.bind_some,cond_true]
  grind
theorem zyH {α:Type} {p:α→Bool} (d:α) (L:List α) (q:Int→Bool):∀ (l:List α) (i:Nat),(∀ j,j < l.length→L.getD (i + j) d = l.getD j d)→(qG p i l).all q = qh (fun j=>!p (L.getD j d) || q (j:Int)) i l.length
 | [],_,_=>rfl
 | x :: l,i,h=>by
  have ih:=zyH (p:=p) d L q l (i + 1) fun j hj=>by
   have:=h (j + 1) (by simp; omega)
   rw [show i + 1 + j = i + (j + 1) by omega,this]; rfl
  have h0:L.getD i d = x:=h 0 (by simp)
  simp only [qG,List.length_cons,qh,h0]
  rw [← ih]
  cases p x <;> simp
def zqG (x:zi) (j:Nat) (t:qc):Bool:=(t.2.2.1:Int) != 3 || (decide (0 ≤ t.2.2.2.1 ∧ t.2.2.2.1 < (x.2.2.2.2.1.length:Int)) && ((x.2.2.2.2.1.getD (Int.toNat t.2.2.2.1) qS).1 && ((x.2.2.2.2.1.getD (Int.toNat t.2.2.2.1) qS).2.2.2.1.2.2.1:Int) == (j:Int)))
def zhr (x:zi) (j:Int) (t:zv):Bool:=(decide (t.2.2.2.1.2.2.1 < (x.2.2.1.length:Int)) && decide (t.2.2.2.2.1.2.2.1 < (x.2.2.1.length:Int))) && (decide (t.2.2.2.1.2.2.1 < 0) || (((x.2.2.1.getD (Int.toNat t.2.2.2.1.2.2.1) zdD).2.2.1:Int) == 3 && ((x.2.2.1.getD (Int.toNat t.2.2.2.1.2.2.1) zdD).2.2.2.1:Int) == j))
def zmw (x:zi):Bool:=qh (fun j=>zqG x j (x.2.2.1.getD j zdD)) 0 (x.2.2.1.length - 0) && qh (fun j=>!(x.2.2.2.2.1.getD j qS).1 || zhr x (j:Int) (x.2.2.2.2.1.getD j qS)) 0 x.2.2.2.2.1.length
theorem znK (x:zv):vR (x,()) = some (x.1,()):=by
 rw [zM]; rfl
theorem zB2 {r:za} {s:zd} (ok:zhp r) (sz:zhq r s):zd7 ((r,s,()),()) = some (qh (fun i=>zmw (s.2.1.getD i zg)) 0 (s.2.1.length - 0),()):=by
 rw [zM]
 have h1:=ok.labels
 have h2:=sz.shelves
 have hm:12 ≤ Go.maxLen:=by unfold Go.maxLen; omega
 have hlm:12 ≤ lim:=by unfold lim; omega
 have l2:∀ k0 (i:Nat) (x:zi),x.2.2.2.2.1.length ≤ 12→zb7 K0 k0 (s.2.1,(s.2.1.length:Int),(i:Int),qG (fun t:zv=>t.1) 0 x.2.2.2.2.1,((qG (fun t:zv=>t.1) 0 x.2.2.2.2.1).length:Int),0,x) = bif qh (fun j=>!(x.2.2.2.2.1.getD j qS).1 || zhr x (j:Int) (x.2.2.2.2.1.getD j qS)) 0 x.2.2.2.2.1.length then k0 (s.2.1,(s.2.1.length:Int),wI ((i:Int) + 1)) else some (false,()):=fun k0 i x hx=>by
  have hsl:=zk9 (p:=fun t:zv=>t.1) x.2.2.2.2.1 0
  have hsm:=zla (p:=fun t:zv=>t.1) x.2.2.2.2.1 0
  have:=zvD (B:=fun k2=>zb6 k0 k2) (l:=qG (fun t:zv=>t.1) 0 x.2.2.2.2.1) (0:Int) (p:=fun z=>zhr x z (x.2.2.2.2.1.getD z.toNat qS)) (fin:=k0 (s.2.1,(s.2.1.length:Int),wI ((i:Int) + 1))) (bad:=some (false,())) (fun j=>(s.2.1,(s.2.1.length:Int),(i:Int),qG (fun t:zv=>t.1) 0 x.2.2.2.2.1,((qG (fun t:zv=>t.1) 0 x.2.2.2.2.1).length:Int),j,x)) (by omega) (fun k j z hj hz hmem=>by
   obtain ⟨n,rfl,-,hn⟩:=hsm z hmem
   simp only [zb6]
   rw [ltT hj,zD hj,qj,hz,zD (by omega),zD (by omega),Int.toNat_natCast]
   simp only [cond_true,zhr,neI]
   by_cases ha:(x.2.2.2.2.1.getD n qS).2.2.2.1.2.2.1 < (x.2.2.1.length:Int)
   ·by_cases hb:0 ≤ (x.2.2.2.2.1.getD n qS).2.2.2.1.2.2.1
    ·rw [ixR ⟨hb,ha⟩,ixR ⟨hb,ha⟩]
     grind
    ·grind
   ·grind) (fun k=>by simp only [zb6]; rw [ltF]; rfl)
  refine this.trans ?_
  rw [zyH (p:=fun t:zv=>t.1) qS x.2.2.2.2.1 (fun z=>zhr x z (x.2.2.2.2.1.getD z.toNat qS)) x.2.2.2.2.1 0 fun j _=>by rw [Nat.zero_add]]
  simp only [Int.toNat_natCast]
 have l1:∀ k0 (i:Nat) (x:zi),x.2.2.1.length ≤ 12→x.2.2.2.2.1.length ≤ 12→zb8 K0 k0 (some (x.2.2.2.2.1,some vR,()),s.2.1,(s.2.1.length:Int),(i:Int),x.2.2.1,(x.2.2.1.length:Int),0,x) = bif zmw x then k0 (s.2.1,(s.2.1.length:Int),wI ((i:Int) + 1)) else some (false,()):=fun k0 i x hx hx2=>by
  have:=yJ (B:=fun k1=>y9 (zb7 K0 k0) k0 k1) (i0:=0) (n:=x.2.2.1.length) (p:=fun j=>zqG x j (x.2.2.1.getD j zdD)) (fin:=bif qh (fun j=>!(x.2.2.2.2.1.getD j qS).1 || zhr x (j:Int) (x.2.2.2.2.1.getD j qS)) 0 x.2.2.2.2.1.length then k0 (s.2.1,(s.2.1.length:Int),wI ((i:Int) + 1)) else some (false,())) (bad:=some (false,())) (by omega) (Nat.zero_le _) (fun j=>(some (x.2.2.2.2.1,some vR,()),s.2.1,(s.2.1.length:Int),(i:Int),x.2.2.1,(x.2.2.1.length:Int),j,x)) (fun k j _ hj=>by
   simp only [y9]
   rw [ltT hj,zD hj,qj,zEv znK]
   simp only [cond_true,Option.bind_some,zqG,neI]
   by_cases ha:0 ≤ (x.2.2.1.getD j zdD).2.2.2.1 ∧ (x.2.2.1.getD j zdD).2.2.2.1 < (x.2.2.2.2.1.length:Int)
   ·rw [ixR ha]
    grind
   ·grind) (fun k=>by
   simp only [y9]
   rw [ltF,zrC (by omega) znK,Option.bind_some]
   exact l2 k0 i x hx2)
  refine this.trans ?_
  unfold zmw
  cases qh (fun j=>zqG x j (x.2.2.1.getD j zdD)) 0 (x.2.2.1.length - 0) <;> rfl
 exact yJ (B:=fun k0=>zaa (zb8 K0 k0) k0) (i0:=0) (n:=s.2.1.length) (by omega) (Nat.zero_le _) (fun i=>(s.2.1,(s.2.1.length:Int),i)) (fun k i _ h=>by
  have hz:=sz.shelf _ (qa (d:=zg) h)
  simp only [zaa]
  have hq:yB ((s.2.1.getD i zg).2.2.2.2.1,some vR,()) = some (some ((s.2.1.getD i zg).2.2.2.2.1,some vR,()),()):=by
   simp only [yB,zrA (show (s.2.1.getD i zg).2.2.2.2.1.length ≤ lim by omega),Option.bind_some]
   rfl
  rw [ltT h,zD h,qj,hq,Option.bind_some]
  exact l1 k i _ (by omega) (by omega)) (fun k=>by simp only [zaa]; rw [ltF]; rfl)
end Go.Proofs.YtkcakhbkoeimdaaGreatDoor
end
section
namespace Go.Proofs.YtkcakhbkoeimdaaGreatDoor
open Go.Ev
def zix (r:za) (s:zd) (i:Int) (x:zi):Bool:=zpF r s i x && (zdr r i x && zmw x)
theorem zKf {α:Type} {d:α} {l:List α} {p:α→Bool}:l.all p = true ↔ ∀ j,j < l.length→p (l.getD j d) = true:=by
 rw [List.all_eq_true]
 constructor
 ·exact fun h j hj=>h _ (qa hj)
 ·intro h x hx
  obtain ⟨i,hi,rfl⟩:=List.mem_iff_getElem.1 hx
  have:=h i hi
  simpa [List.getD,hi] using this
end Go.Proofs.YtkcakhbkoeimdaaGreatDoor
end
section
namespace Go.Proofs.YtkcakhbkoeimdaaGreatDoor
open Go.Ev
def qx:List Int→Int
 | []=>0
 | x :: l=>x + qx l
theorem zwB:∀ (l m:List Int),qx (l ++ m) = qx l + qx m
 | [],m=>by simp [qx]
 | x :: l,m=>by simp only [List.cons_append,qx,zwB l m]; omega
theorem zqH:∀ {l:List Int},(∀ x ∈ l,0 ≤ x)→0 ≤ qx l
 | [],_=>Int.le_refl 0
 | x :: l,h=>by
  have h1:=h x (by simp)
  have h2:=zqH (l:=l) fun y hy=>h y (by simp [hy])
  simp only [qx]; omega
theorem zds {α:Type} {g:α→Int} {l:List α} (h:∀ x ∈ l,0 ≤ g x):0 ≤ qx (l.map g):=zqH fun x hx=>by
 obtain ⟨y,hy,rfl⟩:=List.mem_map.1 hx
 exact h y hy
def zop (n:Int):Int × Int × Unit:=bif decide (n > M62) then (0,7,()) else (n,0,())
theorem zji {n:Int} (h:n > M62):zop n = (0,7,()):=by unfold zop; rw [decide_eq_true h]; rfl
theorem zpH {n:Int} (h:n ≤ M62):zop n = (n,0,()):=by unfold zop; rw [decide_eq_false (by omega)]; rfl
theorem zmx:∀ (l:List Int) (a:Int),a ≤ M62→(∀ x ∈ l,0 ≤ x)→zmq a l = zop (a + qx l)
 | [],a,h,_=>by simp only [zmq,qx,Int.add_zero]; exact (zpH h).symm
 | x :: l,a,h,hp=>by
  have h2:=zqH (l:=l) fun y hy=>hp y (by simp [hy])
  simp only [zmq,qx]
  by_cases hb:a + x > M62
  ·rw [decide_eq_true hb,zji (by omega)]; rfl
  ·rw [decide_eq_false hb,cond_false,zmx l (a + x) (by omega) fun y hy=>hp y (by simp [hy])]
   congr 1; omega
theorem zoq {α:Type} (p:α→Bool) (g:α→Int):∀ l:List α,qx ((l.filter p).map g) = qx (l.map fun x=>bif p x then g x else 0)
 | []=>rfl
 | x :: l=>by
  have ih:=zoq p g l
  rw [zli]
  simp only [List.map_cons,qx]
  cases hp:p x with
  | true=>simp only [cond_true,List.map_cons,qx,ih]
  | false=>simp only [cond_false,ih]; omega
def zmy (x:zq):Int:=bif (x.2.2.2.1:Int) == 2 then x.2.2.2.2.1 else x.2.2.2.2.2.1
theorem zKg (x:zq):zgx (x,()) = some (zmy x,()):=by
 simp only [zgx,zmy]; grind
def zd3 (c:Int) (x:zq):Int:=bif x.1 && zmy x == c then x.2.2.2.2.2.2.2.2.1 else 0
def zwC (l:List zq) (c:Int):Int × Int × Unit:=bif vZ c then zop (qx (l.map (zd3 c))) else (0,1,())
theorem zHT (l:List zq) (hl:l.length ≤ lim):zk1 (l,()) = some (some (l,some zhM,()),()):=by
 simp only [zk1,zgZ,zBP hl,Option.bind_some]
 rfl
theorem zEw (x:zq):zhM (x,()) = some (x.1,()):=by
 rw [zM]; rfl
theorem zF2 {l:List zq} (hl:l.length ≤ lim) (h:∀ x ∈ l,zlj x) (c:Int):zjx (l,c,()) = some (zwC l c):=by
 have hl':l.length ≤ Go.maxLen:=by unfold lim at hl; unfold Go.maxLen; omega
 simp only [zjx,zjw,zbk,Option.bind_some]
 unfold zwC
 cases hc:vZ c with
 | false=>rfl
 | true =>
  have hslots:zib (l,()) = some (qG (fun x:zq=>x.1) 0 l,()):=by
   simp only [zib]
   rw [zHT l hl,Option.bind_some,zBV hl zEw,Option.bind_some]
  simp only [cond_true]
  rw [hslots,Option.bind_some]
  have hsl:=zk9 (p:=fun x:zq=>x.1) l 0
  have hsm:=zla (p:=fun x:zq=>x.1) l 0
  have hloop:=zaE (B:=zea) (l:=qG (fun x:zq=>x.1) 0 l) (α:=List Int) (0:Int) (fun i o=>o.length ≤ i ∧ ∀ x ∈ o,0 ≤ x ∧ x < U64) (fun i o=>(l,c,qG (fun x:zq=>x.1) 0 l,((qG (fun x:zq=>x.1) 0 l).length:Int),i,o))
   (fun rest o=>some (zmq 0 (o ++ (rest.filter fun z=>zmy (l.getD z.toNat qs) == c).map fun z=>(l.getD z.toNat qs).2.2.2.2.2.2.2.2.1))) (by omega) (fun k i x rest o hi hI hx hm hr hk=>by
    simp only [zea]
    obtain ⟨j,rfl,-,hj⟩:=hsm x hm
    rw [ltT hi,zD hi,qj,hx,zD (by omega),zD (by omega),Int.toNat_natCast,zai,zKg]
    have hxx:=(h (l.getD j qs) (qa (by omega))).held
    simp only [cond_true,zli,Int.toNat_natCast,Option.bind_some]
    rw [decide_eq_true (by simp; omega)]
    simp only [cond_true]
    cases hq:zmy (l.getD j qs) == c with
    | false =>
     exact hk o ⟨by omega,hI.2⟩
    | true =>
     simp only [cond_true,List.map_cons,Int.toNat_natCast]
     refine (hk _ ⟨by simp; omega,fun x hx=>?_⟩).trans ?_
     ·rcases List.mem_append.1 hx with hx | hx
      ·exact hI.2 x hx
      ·rcases List.mem_singleton.1 hx with rfl
       exact hxx
     ·rw [List.append_assoc]; rfl) (fun k o hI=>by
    simp only [zea]
    rw [ltF]
    simp only [cond_false]
    rw [zk8 (by omega) hI.2,List.filter_nil,List.map_nil,List.append_nil]
    rfl) [] ⟨Nat.le_refl _,fun x hx=>by cases hx⟩
  refine hloop.trans ?_
  rw [List.nil_append,zkx (q:=fun x:zq=>zmy x == c) (g:=fun x:zq=>x.2.2.2.2.2.2.2.2.1) qs l l 0 fun j _=>by rw [Nat.zero_add]]
  rw [zmx _ 0 (by unfold M62; omega) fun x hx=>?_,zoq,Int.zero_add]
  ·rfl
  ·obtain ⟨y,hy,rfl⟩:=List.mem_map.1 hx
   exact (h y (List.mem_filter.1 hy).1).held.1
theorem zB3 {x:zq} (h:zlj x) (c:Int):zeL (zd3 c x):=by
 unfold zd3
 cases x.1 && zmy x == c with
 | true=>exact h.held
 | false=>exact (⟨Int.le_refl 0,by unfold U64; decide⟩:zeL 0)
def zfI (c:Int) (x:zv):Int:=bif x.1 && (x.2.2.2.1.1:Int) == c then x.2.2.2.1.2.1 else 0
theorem zEx {l:List zv} (h:∀ x ∈ l,zt2 x) {c:Int} (hc:vZ c = true):znJ l c = zop (qx (l.map (zfI c))):=by
 unfold znJ
 rw [hc,cond_true,zmx _ 0 (by unfold M62; omega) fun x hx=>?_,zoq,Int.zero_add]
 ·rfl
 ·obtain ⟨y,hy,rfl⟩:=List.mem_map.1 hx
  exact (h y (List.mem_filter.1 hy).1).1.1
theorem zB4 {x:zv} (h:zt2 x) (c:Int):zeL (zfI c x):=by
 unfold zfI
 cases x.1 && (x.2.2.2.1.1:Int) == c with
 | true=>exact h.1
 | false=>exact (⟨Int.le_refl 0,by unfold U64; decide⟩:zeL 0)
def znL (c:Int) (a:List Int):Int:=a.getD c.toNat 0
def zaM (c:Int) (x:zi):Int:=qx (x.2.2.2.2.1.map (zfI c)) + qx (x.2.2.2.2.2.1.map (znL c))
theorem zyI {x:zi} (h:zll x) (c:Int):0 ≤ qx (x.2.2.2.2.1.map (zfI c)):=zds fun y hy=>(zB4 (h.trades y hy) c).1
theorem zyJ {x:zi} (h:zll x) (c:Int):0 ≤ qx (x.2.2.2.2.2.1.map (znL c)):=zds fun y hy=>(zmt (h.purses y hy) _).1
theorem zrF {x:zi} (h:zll x) (c:Int):0 ≤ zaM c x:=by
 have:=zyI h c
 have:=zyJ h c
 unfold zaM; omega
def znM (s:zd) (c:Int):Int × Int × Unit:=bif vZ c then zop (qx (s.2.2.2.1.map (zd3 c)) + qx (s.2.1.map (zaM c))) else (0,1,())
def wts:List zi→Nat
 | []=>0
 | x :: l=>1 + x.2.2.2.2.2.1.length + wts l
structure zCj (s:zd):Prop where
 shelves:s.2.1.length ≤ 2000000
 orders:s.2.2.2.1.length ≤ 2000000
 shelf:∀ x ∈ s.2.1,x.2.2.2.2.1.length ≤ 2000000 ∧ x.2.2.2.2.2.1.length ≤ 2000000
 all:wts s.2.1 ≤ 2000000
theorem zKh {l:List zi} {i:Nat} {x:zi} {rest:List zi} (hi:i < l.length) (hx:l.getD i zg = x) (hr:l.drop (i + 1) = rest):wts (l.drop i) = 1 + x.2.2.2.2.2.1.length + wts rest:=by
 rw [zaJ zg hi,hx,hr]; rfl
theorem zJh {n:Nat}:∀ {l:List zi},(∀ x ∈ l,x.2.2.2.2.2.1.length ≤ n)→wts l ≤ l.length * (n + 1)
 | [],_=>Nat.zero_le _
 | x :: l,h=>by
  have h1:=h x (by simp)
  have h2:=zJh (l:=l) fun y hy=>h y (by simp [hy])
  simp only [wts,List.length_cons,Nat.add_mul]
  omega
theorem zAQ {c:Int} (hc:vZ c = true):0 ≤ c ∧ c < ((4:Nat):Int):=by
 simp only [vZ,decide_eq_true_eq] at hc; omega
theorem zEy {s:zd} (hs:qY s) (sh:zCj s) (c:Int):zij (s,c,()) = some (znM s c):=by
 have hlm:10000000 ≤ lim:=by unfold lim; omega
 have hmm:10000000 ≤ Go.maxLen:=by unfold Go.maxLen; omega
 have hsh:=sh.shelves
 have hso:=sh.orders
 simp only [zij,zii,zbk,Option.bind_some]
 rw [zF2 (by omega) hs.orders]
 unfold znM zwC
 cases hc:vZ c with
 | false=>rfl
 | true =>
  have hcin:=zAQ hc
  simp only [cond_true,Option.bind_some]
  have hbook:0 ≤ qx (s.2.2.2.1.map (zd3 c)):=zds fun y hy=>(zB3 (hs.orders y hy) c).1
  have hall:0 ≤ qx (s.2.1.map (zaM c)):=zds fun y hy=>zrF (hs.shelves y hy) c
  have inner:∀ k0 (i:Nat) (x:zi) (o:List Int),x.2.2.2.2.2.1.length ≤ 2000000→o.length ≤ 2000001→zdl K0 k0 (c,s.2.1,(s.2.1.length:Int),(i:Int),x.2.2.2.2.2.1,(x.2.2.2.2.2.1.length:Int),0,o) = k0 (c,s.2.1,(s.2.1.length:Int),wI ((i:Int) + 1),o ++ x.2.2.2.2.2.1.map (znL c)):=fun k0 i x o hx ho =>
   zaE (B:=fun k1=>zdk k0 k1) (l:=x.2.2.2.2.2.1) (α:=List Int) (ze (Ty.arr 4 tU)) (fun j o'=>o'.length ≤ 2000001 + j) (fun j o'=>(c,s.2.1,(s.2.1.length:Int),(i:Int),x.2.2.2.2.2.1,(x.2.2.2.2.2.1.length:Int),j,o')) (fun rest o'=>k0 (c,s.2.1,(s.2.1.length:Int),wI ((i:Int) + 1),o' ++ rest.map (znL c))) (by omega) (fun k j a rest o' hj hI ha hm hr hk=>by
    simp only [zdk]
    have h4:((4:Int)) = ((4:Nat):Int):=rfl
    rw [ltT hj,zD hj,Int.toNat_natCast,ha,zai,decide_eq_true (by simp; omega)]
    simp only [cond_true]
    refine Eq.trans (ixR hcin) ?_
    refine (hk _ (by simp; omega)).trans ?_
    rw [List.append_assoc]; rfl) (fun k o' _=>by
    simp only [zdk]; rw [ltF]
    simp only [cond_false,List.map_nil,List.append_nil]) o ho
  by_cases hb:qx (s.2.2.2.1.map (zd3 c)) > M62
  ·rw [zji hb,zji (by omega)]; rfl
  ·rw [zpH (by omega)]
   have hloop:=zaE (B:=fun k0=>zaS (zdl K0 k0) k0) (l:=s.2.1) (α:=List Int) zg (fun i o=>o.length + wts (s.2.1.drop i) ≤ 2000001 ∧ ∀ x ∈ o,0 ≤ x ∧ x < U64) (fun i o=>(c,s.2.1,(s.2.1.length:Int),i,o)) (fun rest o=>some (zop (qx o + qx (rest.map (zaM c))))) (by omega) (fun k i x rest o hi hI hx hm hr hk=>by
    simp only [zaS]
    have hin:=hs.shelves x hm
    have hlen:=sh.shelf x hm
    have hw:=zKh hi hx hr
    have hw2:=hI.1
    rw [hw] at hw2
    have h1:=zyI hin c
    have h2:=zyJ hin c
    have ho:0 ≤ qx o:=zqH fun y hy=>(hI.2 y hy).1
    have hrest:0 ≤ qx (rest.map (zaM c)):=zds fun y hy=>zrF (hs.shelves y (by rw [← hr] at hy; exact List.mem_of_mem_drop hy)) c
    rw [ltT hi,zD hi,qj,hx,zEr (by omega) hin.trades,zEx hin.trades hc]
    simp only [cond_true,Option.bind_some,List.map_cons,qx,zaM]
    by_cases hb:qx (x.2.2.2.2.1.map (zfI c)) > M62
    ·rw [zji hb,zji (by omega)]; rfl
    ·rw [zpH (by omega),zai,inner k i x _ (by omega) (by simp; omega)]
     rw [decide_eq_true (by simp; omega)]
     simp only [bne_self_eq_false,cond_true,cond_false]
     refine (hk _ ⟨by rw [hr]; simp; omega,fun y hy=>?_⟩).trans ?_
     ·rcases List.mem_append.1 hy with hy | hy
      ·rcases List.mem_append.1 hy with hy | hy
       ·exact hI.2 y hy
       ·rcases List.mem_singleton.1 hy with rfl
        unfold M62 at hb; unfold U64; omega
      ·obtain ⟨a,ha,rfl⟩:=List.mem_map.1 hy
       exact zmt (hin.purses a ha) _
     ·rw [zwB,zwB]
      simp only [qx]
      congr 2; omega) (fun k o hI=>by
    simp only [zaS]
    rw [ltF]
    simp only [cond_false]
    rw [zk8 (by omega) hI.2,zmx o 0 (by unfold M62; omega) fun y hy=>(hI.2 y hy).1]
    simp only [List.map_nil,qx,Int.add_zero,Int.zero_add]
    rfl) [qx (s.2.2.2.1.map (zd3 c))] ⟨by have:=sh.all; simp; omega,fun y hy=>by
     rcases List.mem_singleton.1 hy with rfl
     unfold M62 at hb; unfold U64; omega⟩
   refine hloop.trans ?_
   simp only [qx,Int.add_zero]
end Go.Proofs.YtkcakhbkoeimdaaGreatDoor
end
section
namespace Go.Proofs.YtkcakhbkoeimdaaGreatDoor
open Go.Ev
def zEz (a b:Int):Int × Int × Unit:=bif decide (a < b) then (0,6,()) else (a - b,0,())
theorem zEA {a b:Int} (ha:0 ≤ a ∧ a ≤ M62) (hb:0 ≤ b ∧ b ≤ M62):zhN (a,b,()) = some (zEz a b):=by
 simp only [zhN,extA,extB,zEz,cond_false]
 unfold M62 at *
 have h2:b ≤ a→(a - b) % 18446744073709551616 = a - b:=fun h=>by omega
 grind
def zqI (f:zi→List Int) (s:zd) (c:Int):Int:=qx (s.2.1.map fun x=>znL c (f x))
theorem zEB {f:zi→List Int} {s:zd} (h:∀ x ∈ s.2.1,zqE (f x)) (c:Int):0 ≤ zqI f s c:=zds fun y hy=>(zmt (h y hy) _).1
theorem zEC {s:zd} (sh:zCj s) {f:zi→List Int} {g:zi × Unit→Option (List Int × Unit)} (hg:∀ x,g (x,()) = some (f x,())) (h:∀ x ∈ s.2.1,zqE (f x)) {c:Int} (hc:vZ c = true):zfz (s,c,some g,()) = some (zop (zqI f s c)):=by
 have hlm:10000000 ≤ lim:=by unfold lim; omega
 have hmm:10000000 ≤ Go.maxLen:=by unfold Go.maxLen; omega
 have hsh:=sh.shelves
 have hcin:=zAQ hc
 have hloop:=zaE (B:=zbe) (l:=s.2.1) (α:=List Int) zg (fun i o=>o.length ≤ i ∧ ∀ x ∈ o,0 ≤ x ∧ x < U64) (fun i o=>(c,some g,s.2.1,(s.2.1.length:Int),i,o)) (fun rest o=>some (zmq 0 (o ++ rest.map fun x=>znL c (f x)))) (by omega) (fun k i x rest o hi hI hx hm hr hk=>by
  simp only [zbe]
  rw [ltT hi,zD hi,qj,hx]
  simp only [cond_true,Option.bind_some]
  rw [hg]
  simp only [Option.bind_some]
  refine Eq.trans (ixR hcin) ?_
  rw [zai,decide_eq_true (by simp; omega)]
  simp only [cond_true]
  refine (hk _ ⟨by simp; omega,fun y hy=>?_⟩).trans ?_
  ·rcases List.mem_append.1 hy with hy | hy
   ·exact hI.2 y hy
   ·rcases List.mem_singleton.1 hy with rfl
    exact zmt (h x hm) _
  ·rw [List.append_assoc]; rfl) (fun k o hI=>by
  simp only [zbe]
  rw [ltF]
  simp only [cond_false]
  rw [zk8 (by omega) hI.2,List.map_nil,List.append_nil]
  rfl) [] ⟨Nat.le_refl _,fun x hx=>by cases hx⟩
 refine Eq.trans ?_ (hloop.trans ?_)
 ·rfl
 ·rw [List.nil_append,zmx _ 0 (by unfold M62; omega) fun y hy=>?_,Int.zero_add]
  ·rfl
  ·obtain ⟨z,hz,rfl⟩:=List.mem_map.1 hy
   exact (zmt (h z hz) _).1
def znN (s:zd) (c:Int):Int × Int × Unit:=bif vZ c then bif decide (zqI (fun x=>x.2.2.2.2.2.2.2.1) s c > M62) then (0,7,()) else bif decide (zqI (fun x=>x.2.2.2.2.2.2.2.2.1) s c > M62) then (0,7,()) else zEz (zqI (fun x=>x.2.2.2.2.2.2.2.1) s c) (zqI (fun x=>x.2.2.2.2.2.2.2.2.1) s c) else (0,1,())
theorem zED {s:zd} (hs:qY s) (sh:zCj s) (c:Int):zie (s,c,()) = some (znN s c):=by
 simp only [zie,zbk,Option.bind_some]
 unfold znN
 cases hc:vZ c with
 | false=>rfl
 | true =>
  have p1:=zEB (f:=fun x=>x.2.2.2.2.2.2.2.1) (fun x hx=>(hs.shelves x hx).made) c
  have p2:=zEB (f:=fun x=>x.2.2.2.2.2.2.2.2.1) (fun x hx=>(hs.shelves x hx).spent) c
  rw [zEC sh (f:=fun x=>x.2.2.2.2.2.2.2.1) (g:=zi0) (fun x=>rfl) (fun x hx=>(hs.shelves x hx).made) hc,zEC sh (f:=fun x=>x.2.2.2.2.2.2.2.2.1) (g:=zi1) (fun x=>rfl) (fun x hx=>(hs.shelves x hx).spent) hc]
  simp only [cond_true,Option.bind_some]
  generalize zqI (fun x=>x.2.2.2.2.2.2.2.1) s c = a at *
  generalize zqI (fun x=>x.2.2.2.2.2.2.2.2.1) s c = b at *
  by_cases h1:a > M62
  ·rw [zji h1,decide_eq_true h1]; rfl
  ·rw [zpH (by omega),decide_eq_false h1]
   by_cases h2:b > M62
   ·rw [zji h2,decide_eq_true h2]; rfl
   ·rw [zpH (by omega),decide_eq_false h2]
    simp only [bne_self_eq_false,cond_false]
    rw [zEA (by omega) (by omega)]; rfl
end Go.Proofs.YtkcakhbkoeimdaaGreatDoor
end
section
namespace Go.Proofs.YtkcakhbkoeimdaaGreatDoor
open Go.Ev
def znO (r:za) (s:zd) (c i:Nat):Bool:=!decide (((s.2.1.getD i zg).2.2.2.2.2.2.2.1.getD c 0:Int) > (r.2.2.2.2.1.getD i j4).2.2.2.2.2.1)
def ziy (s:zd) (c:Int):Bool:=(znM s c).2.1 == 0 && ((znN s c).2.1 == 0 && (znM s c).1 == (znN s c).1)
def zY (r:za) (s:zd):Bool:=zL r && (ziv r s && (zbH r s && (qh (fun i=>(jy (s.2.1.getD i zg) && zix r s i (s.2.1.getD i zg)) && qh (fun c=>znO r s c i) 0 (4 - 0)) 0 (s.2.1.length - 0) && qh (fun c=>ziy s (c:Int)) 0 (4 - 0))))
theorem zLM {r:za} {s:zd} (ok:zhp r) (sz:zhq r s):zCj s:=by
 have h1:=sz.shelves
 have h2:=ok.labels
 have h3:=ok.accounts
 have h4:=sz.orders
 have h5:=zJh (n:=8) (l:=s.2.1) fun x hx=>by
  have:=sz.shelf x hx
  omega
 refine ⟨by omega,by omega,fun x hx=>?_,by omega⟩
 have:=sz.shelf x hx
 omega
theorem zB5 {r:za} {s:zd} (ok:zhp r) (hs:qY s) (sz:zhq r s):zeb ((r,s,()),()) = some (qh (fun c=>qh (fun i=>znO r s c i) 0 (s.2.1.length - 0) && ziy s (c:Int)) 0 (4 - 0),()):=by
 rw [zM]
 have hmm:1000000 ≤ Go.maxLen:=by unfold Go.maxLen; omega
 have sh:=zLM ok sz
 have hsh:s.2.1.length ≤ 8:=by rw [sz.shelves]; exact ok.labels.2
 have h2:=sz.shelves
 have h3:=ok.quotas
 have inner:∀ k0 (c:Nat),c < 4→zch K0 k0 ((c:Int),(c:Int),s.2.1,(s.2.1.length:Int),0,(r,s,())) = bif qh (fun i=>znO r s c i) 0 (s.2.1.length - 0) then bif ziy s (c:Int) then k0 (wI ((c:Int) + 1),(r,s,())) else some (false,()) else some (false,()):=fun k0 c hc =>
  yJ (B:=fun k1=>zcg k0 k1) (i0:=0) (n:=s.2.1.length) (by omega) (Nat.zero_le _) (fun i=>((c:Int),(c:Int),s.2.1,(s.2.1.length:Int),i,(r,s,()))) (fun k i _ hi=>by
   simp only [zcg]
   rw [ltT hi,zD hi,qj,Int.toNat_natCast]
   simp only [cond_true]
   refine Eq.trans (zD (n:=4) hc) ?_
   rw [zD (by omega),qj]
   unfold znO
   grind) (fun k=>by
   simp only [zcg]
   rw [ltF,zEy hs sh,zED hs sh]
   simp only [Option.bind_some,cond_false,ziy]
   generalize znM s (c:Int) = h
   generalize znN s (c:Int) = m
   grind)
 exact yJ (B:=fun k0=>zci (zch K0 k0) k0) (i0:=0) (n:=4) (by omega) (Nat.zero_le _) (fun c=>(c,(r,s,()))) (fun k c _ hc=>by
  simp only [zci]
  rw [decide_eq_true (by omega),cond_true]
  refine (inner k c hc).trans ?_
  cases qh (fun i=>znO r s c i) 0 (s.2.1.length - 0) <;> rfl) (fun k=>rfl)
def zEE (r:za) (s:zd):Bool:=zL r && (ziv r s && (s.2.1.all jy && (zbH r s && (qh (fun i=>zpF r s (i:Int) (s.2.1.getD i zg)) 0 (s.2.1.length - 0) && (qh (fun i=>zdr r (i:Int) (s.2.1.getD i zg)) 0 s.2.1.length && (qh (fun i=>zmw (s.2.1.getD i zg)) 0 (s.2.1.length - 0) && qh (fun c=>qh (fun i=>znO r s c i) 0 (s.2.1.length - 0) && ziy s (c:Int)) 0 (4 - 0)))))))
theorem zJi (r:za) (s:zd):zEE r s = zY r s:=by
 rw [Bool.eq_iff_iff]
 unfold zEE zY zix
 simp only [Bool.and_eq_true,qL,@zKf zi zg]
 constructor
 ·rintro ⟨h1,h2,h3,h4,h5,h6,h7,h8⟩
  exact ⟨h1,h2,h4,fun i hi1 hi=>⟨⟨h3 i (by omega),h5 i hi1 hi,h6 i hi1 (by omega),h7 i hi1 hi⟩,fun c hc1 hc=>(h8 c hc1 hc).1 i hi1 hi⟩,fun c hc1 hc=>(h8 c hc1 hc).2⟩
 ·rintro ⟨h1,h2,h4,h5,h6⟩
  exact ⟨h1,h2,fun i hi=>(h5 i (by omega) (by omega)).1.1,h4,fun i h7 h8=>(h5 i h7 h8).1.2.1,fun i h7 h8=>(h5 i h7 (by omega)).1.2.2.1,fun i h7 h8=>(h5 i h7 h8).1.2.2.2,fun c h7 h8=>⟨fun i h9 h10=>(h5 i h9 h10).2 c h7 h8,h6 c h7 h8⟩⟩
theorem zrG {r:za} {s:zd} (hr:zU r) (hs:qY s):zeg (r,s,()) = some (zY r s,()):=by
 rw [← zJi,zM]
 obtain ⟨m,hm⟩:=ztY
 have first:zeg (r,s,()) = zl zeK K0 (true,7,0,[some fun z=>zbC ((r,s,()),()),some fun z=>zbD ((r,s,()),()),some fun z=>zaT ((r,s,()),()),some fun z=>zd8 ((r,s,()),()),some fun z=>zaR ((r,s,()),()),some fun z=>zd7 ((r,s,()),()),some fun z=>zeb ((r,s,()),())]):=rfl
 have hu:∀ (f1 f2 f3 f4 f5 f6 f7:Option (Bool × Unit)),zl zeK (m + 8) (true,7,0,[some fun z=>f1,some fun z=>f2,some fun z=>f3,some fun z=>f4,some fun z=>f5,some fun z=>f6,some fun z=>f7]) =
  Option.bind f1 fun q=>bif q.1 then Option.bind f2 fun q=>bif q.1 then Option.bind f3 fun q=>bif q.1 then Option.bind f4 fun q=>bif q.1 then Option.bind f5 fun q=>bif q.1 then Option.bind f6 fun q=>bif q.1 then Option.bind f7 fun q=>bif q.1 then some (true,()) else some (false,()) else some (false,()) else some (false,()) else some (false,()) else some (false,()) else some (false,()) else some (false,()):=fun f1 f2 f3 f4 f5 f6 f7=>by kernel_rfl
 rw [first,hm,hu,zBZ hr s,Option.bind_some]
 unfold zEE
 cases hb:zL r with
 | false=>rfl
 | true =>
  cases hz:ziv r s with
  | false=>rfl
  | true =>
   have ok:=qt hb
   have sz:=yf hb hz
   rw [zB0 ok sz,zz9 hr hb hs sz,zB1 hr ok sz,zAa hr ok sz,zB2 ok sz,zB5 ok hs sz]
   simp only [Option.bind_some,Bool.true_and,cond_true]
   generalize s.2.1.all jy = c1
   generalize zbH r s = c2
   generalize qh (fun i=>zpF r s (i:Int) (s.2.1.getD i zg)) 0 (s.2.1.length - 0) = c3
   generalize qh (fun i=>zdr r (i:Int) (s.2.1.getD i zg)) 0 s.2.1.length = c4
   generalize qh (fun i=>zmw (s.2.1.getD i zg)) 0 (s.2.1.length - 0) = c5
   generalize qh (fun c=>qh (fun i=>znO r s c i) 0 (s.2.1.length - 0) && ziy s (c:Int)) 0 (4 - 0) = c6
   cases c1 <;> cases c2 <;> cases c3 <;> cases c4 <;> cases c5 <;> cases c6 <;> rfl
def vk (r:za) (x:pMe):Bool:=decide (0 ≤ x.1 ∧ x.1 < (r.2.1.length:Int)) && ((x.2.1:Int) == r.2.1.getD x.1.toNat 0 && qC r x.2.2.1)
theorem zdt {r:za} {s:zd} (hr:zU r) (hs:qY s) (x:pMe):jf (r,s,x,()) = some (zY r s && vk r x,()):=by
 rw [zM]
 simp only [jf,zrG hr hs,Option.bind_some,vk,ix,qC]
 cases zY r s with
 | false=>rfl
 | true =>
  by_cases h:0 ≤ x.1 ∧ x.1 < (r.2.1.length:Int)
  ·rw [ixR h]; grind
  ·grind
end Go.Proofs.YtkcakhbkoeimdaaGreatDoor
end
