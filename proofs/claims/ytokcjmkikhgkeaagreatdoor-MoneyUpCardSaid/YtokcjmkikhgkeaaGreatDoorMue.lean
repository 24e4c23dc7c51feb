import Derived.Test.YtokcjmkikhgkeaaGreatDoorMud
set_option linter.unusedVariables false
set_option linter.unusedSimpArgs false
section
namespace Go.Proofs.YtokcjmkikhgkeaaGreatDoor
open Go.Ev
noncomputable section
abbrev zdN:Type:=(List qi) × (List qi) × Int × Int
abbrev zzW:zdN→St:=fun (v0,v5,v6,v7)=>St.mk [(0,.dat (.sl qb) v0),(5,.dat (.sl qb) v5),(6,.dat tI v6),(7,.dat tI v7)] []
def zdO (k0:zdN→Option (Bool × Unit)):zdN→Option (Bool × Unit):=fun (v0,v5,v6,v7) =>
  bif decide (v7 < v6) then inR v7 ((List.length v5):Int) (Option.bind (ziP (ix qg v5 v7,())) fun q0=>bif q0.1 then some (false,()) else bif (ix qg v5 v7).1 then Option.bind (ziQ (v0,(ix qg v5 v7).2.1,(ix qg v5 v7).2.2.2.1,())) fun q1=>bif q1.1 != v7 then some (false,()) else k0 (v0,v5,v6,wI (v7 + 1)) else k0 (v0,v5,v6,wI (v7 + 1))) else some (true,())
abbrev zpU (K:Nat):zdN→Option (Bool × Unit):=zg zdO K
theorem zzX (K:Nat):∀ n,evV Es2 K Tryz.f85 0 (ch [.bool]) [1,0,1,0] [] zzW n = zg zdO n:=zo fun n0 (v0,v5,v6,v7)=>by kernel_rfl
def zmR (L0:zdN→Option (Bool × Unit)):((List qi) × Unit)→Option (Bool × Unit):=fun (x0,()) =>
  L0 (x0,x0,((List.length x0):Int),0)
def zmS:((List qi) × Unit)→Option (Bool × Unit):=zmR (zpU K0)
abbrev ztv:Fun:=⟨85,(ch [(.sl qb)]),(ch [.bool]),0,zmS⟩
theorem zD8:Sq ztv:=ml2 (d:=false) (S:=fun K=>zmR (zpU K)) Tryz.func85 (by kernel_rfl) (fun K=>tr1 (T:=zmR) (zzX K K) fun (x0,())=>by kernel_rfl) rfl
def zkr:(zt × Unit)→Option (Bool × Unit):=fun (x0,()) =>
  Option.bind (zf8 (x0.2.1,())) fun q0=>bif q0.1 then Option.bind (zf8 (x0.2.2.1,())) fun q1=>bif q1.1 then bif x0.2.1 != x0.2.2.1 then Option.bind (zg5 (x0.2.2.2.1,())) fun q2=>bif q2.1 then Option.bind (zg5 (x0.2.2.2.2.1,())) fun q3=>bif q3.1 then Option.bind (zfG (x0.2.2.2.1,())) fun q4=>bif q4.1 then Option.bind (zfG (x0.2.2.2.2.1,())) fun q5=>bif q5.1 then some (false,()) else some (true,()) else some (true,()) else some (false,()) else some (false,()) else some (false,()) else some (false,()) else some (false,())
abbrev zu9:Fun:=⟨189,(ch [zz]),(ch [.bool]),0,zkr⟩
theorem zFN:Sq zu9:=ms2 (d:=false) (K:=0) Tryz.func189 (by kernel_rfl) (funext fun (x0,())=>by kernel_rfl)
def zg8:(Int × (Int × (Int × Unit)))→Option (Int × (Int × Unit)):=fun (x0,x1,x2,()) =>
  bif x0 != 1 then bif x0 != 2 then some (0,1,()) else bif x1 == 0 then some (0,1,()) else bif x2 == 0 then some (0,1,()) else Option.bind (zfJ (x1,x2,())) fun q0=>bif q0.2.1 != 0 then some (0,q0.2.1,()) else bif x0 == 2 then some (x1,0,()) else some (q0.1,0,()) else bif x1 == 0 then some (0,1,()) else bif x2 == 0 then some (0,1,()) else Option.bind (zfJ (x1,x2,())) fun q1=>bif q1.2.1 != 0 then some (0,q1.2.1,()) else bif x0 == 2 then some (x1,0,()) else some (q1.1,0,())
abbrev zva:Fun:=⟨263,(ch [tI,tU,tU]),(ch [tU,tI]),0,zg8⟩
theorem zFO:Sq zva:=ms2 (d:=false) (K:=0) Tryz.func263 (by kernel_rfl) (funext fun (x0,x1,x2,())=>by kernel_rfl)
def zhu:(zI × (zI × Unit))→Option (Int × Unit):=fun (x0,x1,()) =>
  Option.bind (vK (x0.1,x1.1,())) fun q0=>Option.bind (zai (x0.2.1,x1.2.1,())) fun q1=>Option.bind (zdx (zi (zi (List.replicate 2 (0:Int)) 0 q0.1) 1 q1.1,())) fun q2=>some (q2.1,())
abbrev zrD:Fun:=⟨194,(ch [zy,zy]),(ch [tI]),0,zhu⟩
theorem zBJ:Sq zrD:=ms2 (d:=false) (K:=0) Tryz.func194 (by kernel_rfl) (funext fun (x0,x1,())=>by kernel_rfl)
def zgJ:((List zn) × ((Option ((zn × Unit)→Option (Bool × Unit))) × Unit))→Option (Bool × Unit):=fun (x0,x1,()) =>
  Option.bind (jU (x0,some fun z=>zbg (z.1,some x1,()),())) fun q0=>bif q0.1 then some (false,()) else some (true,())
abbrev zlK:Fun:=⟨93,(ch [(.sl zr),(.fn (ch [zr]) (ch [.bool]))]),(ch [.bool]),0,zgJ⟩
theorem zuv:Sq zlK:=ms2 (d:=false) (K:=0) Tryz.func93 (by kernel_rfl) (funext fun (x0,x1,())=>by kernel_rfl)
def zdp:((List zI) × ((Option ((zI × Unit)→Option (Bool × Unit))) × Unit))→Option (Bool × Unit):=fun (x0,x1,()) =>
  Option.bind (jV (x0,some fun z=>zbh (z.1,some x1,()),())) fun q0=>bif q0.1 then some (false,()) else some (true,())
abbrev zlL:Fun:=⟨97,(ch [(.sl zy),(.fn (ch [zy]) (ch [.bool]))]),(ch [.bool]),0,zdp⟩
theorem zuw:Sq zlL:=ms2 (d:=false) (K:=0) Tryz.func97 (by kernel_rfl) (funext fun (x0,x1,())=>by kernel_rfl)
def yX:((List Int) × ((Option ((Int × Unit)→Option (Bool × Unit))) × Unit))→Option (Bool × Unit):=fun (x0,x1,()) =>
  Option.bind (qK (x0,some fun z=>zdn (z.1,some x1,()),())) fun q0=>bif q0.1 then some (false,()) else some (true,())
abbrev zn0:Fun:=⟨99,(ch [(.sl tI),(.fn (ch [tI]) (ch [.bool]))]),(ch [.bool]),0,yX⟩
theorem zx5:Sq zn0:=ms2 (d:=false) (K:=0) Tryz.func99 (by kernel_rfl) (funext fun (x0,x1,())=>by kernel_rfl)
def vN:(z7 × ((Option qT) × ((Option Int) × Unit)))→Option (Bool × Unit):=fun (x0,x1,x2,()) =>
  Option.bind x1 fun q0=>Option.bind (zeD (q0.2.1,x0,())) fun q1=>bif q1.1 then Option.bind x1 fun q2=>Option.bind x2 fun q3=>Option.bind (zg6 (q2,x0.1,q3,())) fun q4=>bif q4.1 then some (true,()) else some (false,()) else some (false,())
abbrev zn1:Fun:=⟨200,(ch [zY,(.ptr qk),(.ptr tI)]),(ch [.bool]),0,vN⟩
theorem zx6:Sq zn1:=ms2 (d:=false) (K:=0) Tryz.func200 (by kernel_rfl) (funext fun (x0,x1,x2,())=>by kernel_rfl)
def zhV:((List qi) × ((Option ((qi × Unit)→Option (Bool × Unit))) × Unit))→Option (Bool × Unit):=fun (x0,x1,()) =>
  Option.bind (vg (x0,some fun z=>zbJ (z.1,some x1,()),())) fun q0=>bif q0.1 then some (false,()) else some (true,())
abbrev zmT:Fun:=⟨102,(ch [(.sl qb),(.fn (ch [qb]) (ch [.bool]))]),(ch [.bool]),0,zhV⟩
theorem zwk:Sq zmT:=ms2 (d:=false) (K:=0) Tryz.func102 (by kernel_rfl) (funext fun (x0,x1,())=>by kernel_rfl)
def yB:((List qj) × ((Option ((qj × Unit)→Option (Bool × Unit))) × Unit))→Option (Bool × Unit):=fun (x0,x1,()) =>
  Option.bind (jo (x0,some fun z=>zbL (z.1,some x1,()),())) fun q0=>bif q0.1 then some (false,()) else some (true,())
abbrev zmU:Fun:=⟨104,(ch [(.sl zL),(.fn (ch [zL]) (ch [.bool]))]),(ch [.bool]),0,yB⟩
theorem zwl:Sq zmU:=ms2 (d:=false) (K:=0) Tryz.func104 (by kernel_rfl) (funext fun (x0,x1,())=>by kernel_rfl)
def zi2:((List z7) × ((Option ((z7 × Unit)→Option (Bool × Unit))) × Unit))→Option (Bool × Unit):=fun (x0,x1,()) =>
  Option.bind (vw (x0,some fun z=>zdo (z.1,some x1,()),())) fun q0=>bif q0.1 then some (false,()) else some (true,())
abbrev zn2:Fun:=⟨106,(ch [(.sl zY),(.fn (ch [zY]) (ch [.bool]))]),(ch [.bool]),0,zi2⟩
theorem zx7:Sq zn2:=ms2 (d:=false) (K:=0) Tryz.func106 (by kernel_rfl) (funext fun (x0,x1,())=>by kernel_rfl)
def vk:(qw × ((Option qT) × ((Option Int) × Unit)))→Option (Bool × Unit):=fun (x0,x1,x2,()) =>
  bif x0.1 then Option.bind x1 fun q0=>Option.bind x2 fun q1=>Option.bind (zg6 (q0,x0.2.1,q1,())) fun q2=>bif q2.1 then Option.bind x1 fun q3=>Option.bind (qV (q3,x0.2.2.1,())) fun q4=>bif q4.1 then Option.bind x1 fun q5=>Option.bind (qV (q5,x0.2.2.2.1,())) fun q6=>bif q6.1 then some (true,()) else some (false,()) else some (false,()) else some (false,()) else some (true,())
abbrev zmV:Fun:=⟨109,(ch [qh,(.ptr qk),(.ptr tI)]),(ch [.bool]),0,vk⟩
theorem zwm:Sq zmV:=ms2 (d:=false) (K:=0) Tryz.func109 (by kernel_rfl) (funext fun (x0,x1,x2,())=>by kernel_rfl)
def yC:((List qw) × ((Option ((qw × Unit)→Option (Bool × Unit))) × Unit))→Option (Bool × Unit):=fun (x0,x1,()) =>
  Option.bind (jp (x0,some fun z=>zbN (z.1,some x1,()),())) fun q0=>bif q0.1 then some (false,()) else some (true,())
abbrev zmW:Fun:=⟨108,(ch [(.sl qh),(.fn (ch [qh]) (ch [.bool]))]),(ch [.bool]),0,yC⟩
theorem zwn:Sq zmW:=ms2 (d:=false) (K:=0) Tryz.func108 (by kernel_rfl) (funext fun (x0,x1,())=>by kernel_rfl)
def qM:((List zt) × ((Option ((zt × Unit)→Option (Bool × Unit))) × Unit))→Option (Bool × Unit):=fun (x0,x1,()) =>
  Option.bind (jc (x0,some fun z=>zbi (z.1,some x1,()),())) fun q0=>bif q0.1 then some (false,()) else some (true,())
abbrev zlM:Fun:=⟨111,(ch [(.sl zz),(.fn (ch [zz]) (ch [.bool]))]),(ch [.bool]),0,qM⟩
theorem zux:Sq zlM:=ms2 (d:=false) (K:=0) Tryz.func111 (by kernel_rfl) (funext fun (x0,x1,())=>by kernel_rfl)
abbrev yo:Type:=(Option zbH) × Int × Int × List Int
abbrev zsq:yo→St:=fun (v0,v12,v13,o0)=>St.mk [(0,.dat (.ptr vF) v0),(3,.ow 0),(12,.dat tI v12),(13,.dat tI v13)] [.row tI o0 false]
def yp (k0:yo→Option ((List Int) × Unit)):yo→Option ((List Int) × Unit):=fun (v0,v12,v13,o0) =>
  bif decide (v13 < v12) then Option.bind (vL (v0,v13,())) fun q2=>bif q2.1 then bif decide (List.length o0 + List.length (zi (List.replicate 1 (0:Int)) 0 v13) ≤ lim) then k0 (v0,v12,wI (v13 + 1),o0 ++ zi (List.replicate 1 (0:Int)) 0 v13) else none else k0 (v0,v12,wI (v13 + 1),o0) else some (o0,())
abbrev zjK (K:Nat):yo→Option ((List Int) × Unit):=zg yp K
theorem zsr (K:Nat):∀ n,evV Es2 K Tryz.f116 0 (ch [(.sl tI)]) [1,1,1,0,1,0] [] zsq n = zg yp n:=zo fun n0 (v0,v12,v13,o0)=>by kernel_rfl
def zgK (L0:yo→Option ((List Int) × Unit)):((Option zbH) × Unit)→Option ((List Int) × Unit):=fun (x0,()) =>
  Option.bind (zeo (x0,())) fun q0=>bif q0.1 then Option.bind x0 fun q1=>L0 (x0,((List.length q1.1):Int),0,[]) else some ([],())
def zdq:((Option zbH) × Unit)→Option ((List Int) × Unit):=zgK (zjK K0)
abbrev zlN:Fun:=⟨116,(ch [(.ptr vF)]),(ch [(.sl tI)]),0,zdq⟩
theorem zuy:Sq zlN:=ml2 (d:=false) (S:=fun K=>zgK (zjK K)) Tryz.func116 (by kernel_rfl) (fun K=>tr1 (T:=zgK) (zsr K K) fun (x0,())=>by kernel_rfl) rfl
def zlZ:((List zn) × Unit)→Option ((Option zed) × Unit):=fun (x0,()) =>
  Option.bind (zhP (x0,some ziG,())) fun q0=>some (q0.1,())
abbrev zx8:Fun:=⟨212,(ch [(.sl zr)]),(ch [(.ptr yH)]),0,zlZ⟩
theorem zHJ:Sq zx8:=ms2 (d:=false) (K:=0) Tryz.func212 (by kernel_rfl) (funext fun (x0,())=>by kernel_rfl)
abbrev yq:Type:=(Option zed) × Int × Int × List Int
abbrev zss:yq→St:=fun (v0,v12,v13,o0)=>St.mk [(0,.dat (.ptr yH) v0),(3,.ow 0),(12,.dat tI v12),(13,.dat tI v13)] [.row tI o0 false]
def yr (k0:yq→Option ((List Int) × Unit)):yq→Option ((List Int) × Unit):=fun (v0,v12,v13,o0) =>
  bif decide (v13 < v12) then Option.bind (zfj (v0,v13,())) fun q2=>bif q2.1 then bif decide (List.length o0 + List.length (zi (List.replicate 1 (0:Int)) 0 v13) ≤ lim) then k0 (v0,v12,wI (v13 + 1),o0 ++ zi (List.replicate 1 (0:Int)) 0 v13) else none else k0 (v0,v12,wI (v13 + 1),o0) else some (o0,())
abbrev zjL (K:Nat):yq→Option ((List Int) × Unit):=zg yr K
theorem zst (K:Nat):∀ n,evV Es2 K Tryz.f213 0 (ch [(.sl tI)]) [1,1,1,0,1,0] [] zss n = zg yr n:=zo fun n0 (v0,v12,v13,o0)=>by kernel_rfl
def zgL (L0:yq→Option ((List Int) × Unit)):((Option zed) × Unit)→Option ((List Int) × Unit):=fun (x0,()) =>
  Option.bind (zeq (x0,())) fun q0=>bif q0.1 then Option.bind x0 fun q1=>L0 (x0,((List.length q1.1):Int),0,[]) else some ([],())
def zgM:((Option zed) × Unit)→Option ((List Int) × Unit):=zgL (zjL K0)
abbrev zlO:Fun:=⟨213,(ch [(.ptr yH)]),(ch [(.sl tI)]),0,zgM⟩
theorem zuz:Sq zlO:=ml2 (d:=false) (S:=fun K=>zgL (zjL K)) Tryz.func213 (by kernel_rfl) (fun K=>tr1 (T:=zgL) (zst K K) fun (x0,())=>by kernel_rfl) rfl
def zks:((List zt) × Unit)→Option ((Option zbH) × Unit):=fun (x0,()) =>
  Option.bind (yx (x0,some zhl,())) fun q0=>some (q0.1,())
abbrev zvb:Fun:=⟨120,(ch [(.sl zz)]),(ch [(.ptr vF)]),0,zks⟩
theorem zFP:Sq zvb:=ms2 (d:=false) (K:=0) Tryz.func120 (by kernel_rfl) (funext fun (x0,())=>by kernel_rfl)
abbrev za0:Type:=Int × (Option ((zk × Unit)→Option ((List Int) × Unit))) × (List zk) × Int × Int × List Int
abbrev zwo:za0→St:=fun (v1,v2,v12,v13,v14,o0)=>St.mk [(1,.dat tI v1),(2,.dat (.fn (.pair zm .unit) (.pair (.arr 4 tU) .unit)) v2),(8,.ow 0),(12,.dat (.sl zm) v12),(13,.dat tI v13),(14,.dat tI v14)] [.row tU o0 false]
def za1 (k0:za0→Option (Int × (Int × Unit))):za0→Option (Int × (Int × Unit)):=fun (v1,v2,v12,v13,v14,o0) =>
  bif decide (v14 < v13) then inR v14 ((List.length v12):Int) (Option.bind v2 fun q0=>Option.bind (q0 (ix za v12 v14,())) fun q1=>inR v1 (↑4:Int) (bif decide (List.length o0 + List.length (zi (List.replicate 1 (0:Int)) 0 (ix (0:Int) q1.1 v1)) ≤ lim) then k0 (v1,v2,v12,v13,wI (v14 + 1),o0 ++ zi (List.replicate 1 (0:Int)) 0 (ix (0:Int) q1.1 v1)) else none)) else Option.bind (zgd (o0,())) fun q2=>some (q2.1,q2.2.1,())
abbrev zmX (K:Nat):za0→Option (Int × (Int × Unit)):=zg za1 K
theorem zwp (K:Nat):∀ n,evV Es2 K Tryz.f209 0 (ch [tU,tI]) [1,1,0,1,0] [] zwo n = zg za1 n:=zo fun n0 (v1,v2,v12,v13,v14,o0)=>by kernel_rfl
def zj3 (L0:za0→Option (Int × (Int × Unit))):(ze × (Int × ((Option ((zk × Unit)→Option ((List Int) × Unit))) × Unit)))→Option (Int × (Int × Unit)):=fun (x0,x1,x2,()) =>
  L0 (x1,x2,x0.2.1,((List.length x0.2.1):Int),0,[])
def zgk:(ze × (Int × ((Option ((zk × Unit)→Option ((List Int) × Unit))) × Unit)))→Option (Int × Int × Unit):=zj3 (zmX K0)
abbrev zpV:Fun:=⟨209,(ch [zq,tI,(.fn (ch [zm]) (ch [(.arr 4 tU)]))]),(ch [tU,tI]),0,zgk⟩
theorem zzY:Sq zpV:=ml2 (d:=false) (S:=fun K=>zj3 (zmX K)) Tryz.func209 (by kernel_rfl) (fun K=>tr1 (T:=zj3) (zwp K K) fun (x0,x1,x2,())=>by kernel_rfl) rfl
def zdd:((List Int) × (Int × (Int × Unit)))→Option ((List Int) × (Int × Unit)):=fun (x0,x1,x2,()) =>
  Option.bind (zeK (x0,x1,x2,some zaO,())) fun q0=>some (q0.1,q0.2.1,())
abbrev zvc:Fun:=⟨52,(ch [(.arr 4 tU),tI,tU]),(ch [(.arr 4 tU),tI]),0,zdd⟩
theorem zFQ:Sq zvc:=ms2 (d:=false) (K:=0) Tryz.func52 (by kernel_rfl) (funext fun (x0,x1,x2,())=>by kernel_rfl)
def zde:((List Int) × (Int × (Int × Unit)))→Option ((List Int) × (Int × Unit)):=fun (x0,x1,x2,()) =>
  Option.bind (zeK (x0,x1,x2,some ze1,())) fun q0=>some (q0.1,q0.2.1,())
abbrev zvd:Fun:=⟨54,(ch [(.arr 4 tU),tI,tU]),(ch [(.arr 4 tU),tI]),0,zde⟩
theorem zFR:Sq zvd:=ms2 (d:=false) (K:=0) Tryz.func54 (by kernel_rfl) (funext fun (x0,x1,x2,())=>by kernel_rfl)
abbrev zb7:Type:=Int × zf
abbrev zx9:zb7→St:=fun (v3,o0)=>St.mk [(1,.bp 0 []),(3,.dat tI v3)] [.bx (.dat zu o0) false]
def zfk (k0:zb7→Option (Bool × Unit)):zb7→Option (Bool × Unit):=fun (v3,o0) =>
  bif decide (v3 < ((List.length o0.2.1):Int)) then inR v3 ((List.length o0.2.1):Int) (bif decide (ix (0:Int) o0.2.1 v3 < 0) then some (false,()) else inR v3 ((List.length o0.2.1):Int) (bif decide (ix (0:Int) o0.2.1 v3 ≥ ((List.length o0.1):Int)) then some (false,()) else k0 (wI (v3 + 1),o0))) else bif ((List.length o0.2.2.2.2.1):Int) != ((List.length o0.1):Int) then some (false,()) else Option.bind (zj0 (o0.2.2.2.2.1,())) fun q3=>bif q3.1 then bif decide (o0.2.2.2.2.2.1 ≥ 0) then bif decide (o0.2.2.2.2.2.1 ≤ 24) then bif decide (o0.2.2.2.2.2.2.1 ≥ 0) then bif decide (o0.2.2.2.2.2.2.1 ≤ 48) then bif decide (o0.2.2.2.2.2.2.2.1 ≥ 1) then bif decide (o0.2.2.2.2.2.2.2.1 ≤ 4) then bif decide (o0.2.2.2.2.2.2.2.2.1 ≥ 1) then bif decide (o0.2.2.2.2.2.2.2.2.1 ≤ 16) then some (true,()) else some (false,()) else some (false,()) else some (false,()) else some (false,()) else some (false,()) else some (false,()) else some (false,()) else some (false,()) else some (false,())
abbrev zi3 (K:Nat):zb7→Option (Bool × Unit):=zg zfk K
theorem zya (K:Nat):∀ n,evV Es2 K Tryz.f28 0 (ch [.bool]) [1,1,0,1,0] [] zx9 n = zg zfk n:=zo fun n0 (v3,o0)=>by kernel_rfl
def zhv (L0:zb7→Option (Bool × Unit)):(zf × Unit)→Option (Bool × Unit):=fun (x0,()) =>
  Option.bind (zgf (x0.1,())) fun q0=>bif q0.1 then bif decide (((List.length x0.2.1):Int) < 1) then some (false,()) else bif decide (((List.length x0.2.1):Int) > 8) then some (false,()) else Option.bind (zew (x0.2.2.1,())) fun q1=>bif q1.1 then Option.bind (zgh (x0.2.2.2.1,x0.1,((List.length x0.2.2.1):Int),())) fun q2=>bif q2.1 then L0 (0,x0) else some (false,()) else some (false,()) else some (false,())
def zeN:(zf × Unit)→Option (Bool × Unit):=zhv (zi3 K0)
abbrev zrE:Fun:=⟨28,(ch [zu]),(ch [.bool]),0,zeN⟩
theorem zBK:Sq zrE:=ml2 (d:=false) (S:=fun K=>zhv (zi3 K)) Tryz.func28 (by kernel_rfl) (fun K=>tr1 (T:=zhv) (zya K K) fun (x0,())=>by kernel_rfl) rfl
def zg9:(zn × Unit)→Option (Bool × Unit):=fun (x0,()) =>
  Option.bind (zfN (x0.2.2.2.1,x0.2.2.2.2.2.2.2.1,x0.2.2.2.2.2.2.1,())) fun q0=>bif decide (x0.2.2.2.2.1 ≥ 0) then bif decide (x0.2.2.2.2.1 < 4) then bif decide (x0.2.2.2.2.2.1 ≥ 0) then bif decide (x0.2.2.2.2.2.1 < 4) then bif x0.2.2.2.2.1 != x0.2.2.2.2.2.1 then bif q0.2.1 == 0 then bif x0.2.2.2.2.2.2.2.2.1 == q0.1 then Option.bind (zgZ (x0.2.1,())) fun q1=>bif q1.1 then Option.bind (zgZ (x0.2.2.1,())) fun q2=>bif q2.1 then bif decide (x0.2.2.2.2.2.2.2.2.2.1 ≥ 0) then some (true,()) else some (false,()) else some (false,()) else some (false,()) else some (false,()) else some (false,()) else bif q0.2.1 == 0 then bif x0.2.2.2.2.2.2.2.2.1 == q0.1 then some (false,()) else some (false,()) else some (false,()) else bif q0.2.1 == 0 then bif x0.2.2.2.2.2.2.2.2.1 == q0.1 then some (false,()) else some (false,()) else some (false,()) else bif q0.2.1 == 0 then bif x0.2.2.2.2.2.2.2.2.1 == q0.1 then some (false,()) else some (false,()) else some (false,()) else bif q0.2.1 == 0 then bif x0.2.2.2.2.2.2.2.2.1 == q0.1 then some (false,()) else some (false,()) else some (false,()) else bif q0.2.1 == 0 then bif x0.2.2.2.2.2.2.2.2.1 == q0.1 then some (false,()) else some (false,()) else some (false,())
abbrev zve:Fun:=⟨165,(ch [zr]),(ch [.bool]),0,zg9⟩
theorem zFS:Sq zve:=ms2 (d:=false) (K:=0) Tryz.func165 (by kernel_rfl) (funext fun (x0,())=>by kernel_rfl)
def zkt:(zI × Unit)→Option (Bool × Unit):=fun (x0,()) =>
  bif decide (x0.1 > 4611686018427387904) then some (false,()) else Option.bind (zdb (x0.2.1,())) fun q0=>bif q0.1 then Option.bind (zdb (x0.2.2.1,())) fun q1=>bif q1.1 then Option.bind (zdb (x0.2.2.2.1,())) fun q2=>bif q2.1 then bif x0.2.2.2.2.1 == 3 then Option.bind (zdb (x0.2.2.2.2.2.2.2.2.2.1,())) fun q3=>bif q3.1 then bif x0.2.2.2.2.2.1 == 0 then bif x0.2.2.2.2.2.2.1 == 0 then bif x0.2.2.2.2.2.2.2.1 == 0 then bif x0.2.2.2.2.2.2.2.2.1 == 0 then some (true,()) else some (false,()) else some (false,()) else some (false,()) else some (false,()) else some (false,()) else Option.bind (zfN (x0.2.2.2.2.1,x0.2.2.2.2.2.2.2.1,x0.2.2.2.2.2.2.2.2.1,())) fun q4=>bif q4.2.1 == 0 then bif x0.2.2.2.2.2.2.2.2.2.1 == 0 then bif decide (x0.2.2.2.2.2.1 ≥ 0) then bif decide (x0.2.2.2.2.2.1 < 4) then bif decide (x0.2.2.2.2.2.2.1 ≥ 0) then bif decide (x0.2.2.2.2.2.2.1 < 4) then bif x0.2.2.2.2.2.1 != x0.2.2.2.2.2.2.1 then some (true,()) else some (false,()) else some (false,()) else some (false,()) else some (false,()) else some (false,()) else some (false,()) else some (false,()) else some (false,()) else some (false,()) else some (false,())
abbrev zvf:Fun:=⟨167,(ch [zy]),(ch [.bool]),0,zkt⟩
theorem zFT:Sq zvf:=ms2 (d:=false) (K:=0) Tryz.func167 (by kernel_rfl) (funext fun (x0,())=>by kernel_rfl)
abbrev zb8:Type:=(List qw) × Int
abbrev zyb:zb8→St:=fun (v0,v3)=>St.mk [(0,.dat (.sl qh) v0),(3,.dat tI v3)] []
def zb9 (k0:zb8→Option (Bool × Unit)):zb8→Option (Bool × Unit):=fun (v0,v3) =>
  bif decide (v3 < ((List.length v0):Int)) then inR v3 ((List.length v0):Int) (bif (ix zdk v0 v3).1 then Option.bind (ze3 ((ix zdk v0 v3).2.1,())) fun q0=>bif q0.1 then Option.bind (ze3 ((ix zdk v0 v3).2.2.1,())) fun q1=>bif q1.1 then Option.bind (ze3 ((ix zdk v0 v3).2.2.2.1,())) fun q2=>bif q2.1 then Option.bind (ziT ((ix zdk v0 v3).2.2.2.2.1,())) fun q3=>bif q3.1 then bif (ix zdk v0 v3).1 then k0 (v0,wI (v3 + 1)) else bif !eqI qh (ix zdk v0 v3) (zb qh) then some (false,()) else k0 (v0,wI (v3 + 1)) else some (false,()) else some (false,()) else some (false,()) else some (false,()) else bif (ix zdk v0 v3).1 then k0 (v0,wI (v3 + 1)) else bif !eqI qh (ix zdk v0 v3) (zb qh) then some (false,()) else k0 (v0,wI (v3 + 1))) else some (true,())
abbrev zn3 (K:Nat):zb8→Option (Bool × Unit):=zg zb9 K
theorem zyc (K:Nat):∀ n,evV Es2 K Tryz.f72 0 (ch [.bool]) [1,0,1,0] [] zyb n = zg zb9 n:=zo fun n0 (v0,v3)=>by kernel_rfl
def zld (L0:zb8→Option (Bool × Unit)):((List qw) × Unit)→Option (Bool × Unit):=fun (x0,()) =>
  L0 (x0,0)
def zle:((List qw) × Unit)→Option (Bool × Unit):=zld (zn3 K0)
abbrev zrF:Fun:=⟨72,(ch [(.sl qh)]),(ch [.bool]),0,zle⟩
theorem zBL:Sq zrF:=ml2 (d:=false) (S:=fun K=>zld (zn3 K)) Tryz.func72 (by kernel_rfl) (fun K=>tr1 (T:=zld) (zyc K K) fun (x0,())=>by kernel_rfl) rfl
abbrev zca:Type:=(List zt) × Int
abbrev zyd:zca→St:=fun (v0,v3)=>St.mk [(0,.dat (.sl zz) v0),(3,.dat tI v3)] []
def zcb (k0:zca→Option (Bool × Unit)):zca→Option (Bool × Unit):=fun (v0,v3) =>
  bif decide (v3 < ((List.length v0):Int)) then inR v3 ((List.length v0):Int) (bif (ix zV v0 v3).1 then inR v3 ((List.length v0):Int) (Option.bind (ziU (ix zV v0 v3,())) fun q0=>bif q0.1 then inR v3 ((List.length v0):Int) (bif (ix zV v0 v3).1 then k0 (v0,wI (v3 + 1)) else inR v3 ((List.length v0):Int) (bif !eqI zz (ix zV v0 v3) (zb zz) then some (false,()) else k0 (v0,wI (v3 + 1)))) else some (false,())) else inR v3 ((List.length v0):Int) (bif (ix zV v0 v3).1 then k0 (v0,wI (v3 + 1)) else inR v3 ((List.length v0):Int) (bif !eqI zz (ix zV v0 v3) (zb zz) then some (false,()) else k0 (v0,wI (v3 + 1))))) else some (true,())
abbrev zn4 (K:Nat):zca→Option (Bool × Unit):=zg zcb K
theorem zye (K:Nat):∀ n,evV Es2 K Tryz.f73 0 (ch [.bool]) [1,0,1,0] [] zyd n = zg zcb n:=zo fun n0 (v0,v3)=>by kernel_rfl
def zlf (L0:zca→Option (Bool × Unit)):((List zt) × Unit)→Option (Bool × Unit):=fun (x0,()) =>
  L0 (x0,0)
def zlg:((List zt) × Unit)→Option (Bool × Unit):=zlf (zn4 K0)
abbrev zrG:Fun:=⟨73,(ch [(.sl zz)]),(ch [.bool]),0,zlg⟩
theorem zBM:Sq zrG:=ml2 (d:=false) (S:=fun K=>zlf (zn4 K)) Tryz.func73 (by kernel_rfl) (fun K=>tr1 (T:=zlf) (zye K K) fun (x0,())=>by kernel_rfl) rfl
def zha:(zf × (Int × (Int × Unit)))→Option (Bool × Unit):=fun (x0,x1,x2,()) =>
  bif decide (x1 ≥ 0) then bif decide (x2 ≥ 0) then bif decide (x1 < ((List.length x0.1):Int)) then bif decide (x2 < ((List.length x0.1):Int)) then inR x1 ((List.length x0.1):Int) (inR x2 ((List.length x0.1):Int) (Option.bind (zo4 (ix qN x0.1 x1,ix qN x0.1 x2,())) fun q0=>bif q0.1 then some (true,()) else some (false,()))) else some (false,()) else some (false,()) else some (false,()) else some (false,())
abbrev zvg:Fun:=⟨77,(ch [zu,tI,tI]),(ch [.bool]),0,zha⟩
theorem zFU:Sq zvg:=ms2 (d:=false) (K:=0) Tryz.func77 (by kernel_rfl) (funext fun (x0,x1,x2,())=>by kernel_rfl)
abbrev zdP:Type:=Int × Int × Int × Int × ze
abbrev zpW:zdP→St:=fun (v1,v6,v8,v11,o0)=>St.mk [(1,.dat tI v1),(2,.bp 0 []),(6,.dat tU v6),(8,.dat tI v8),(11,.dat tI v11)] [.bx (.dat zq o0) false]
abbrev yD:Type:=Int × Int × Int × ze
abbrev zpX:yD→St:=fun (v1,v6,v8,o0)=>St.mk [(1,.dat tI v1),(2,.bp 0 []),(6,.dat tU v6),(8,.dat tI v8)] [.bx (.dat zq o0) false]
def zdQ (k0:yD→Option (Int × (Int × Unit))) (k1:zdP→Option (Int × (Int × Unit))):zdP→Option (Int × (Int × Unit)):=fun (v1,v6,v8,v11,o0) =>
  inR v8 ((List.length o0.2.1):Int) (bif decide (v11 < ((List.length (ix za o0.2.1 v8).2.2.2.2.2.1):Int)) then inR v8 ((List.length o0.2.1):Int) (inR v11 ((List.length (ix za o0.2.1 v8).2.2.2.2.2.1):Int) (inR v1 (↑4:Int) (Option.bind (vJ (v6,List.getD (List.getD (ix za o0.2.1 v8).2.2.2.2.2.1 (Int.toNat v11) (zb (.arr 4 tU))) (Int.toNat v1) (0:Int),())) fun q3=>bif q3.2.1 != 0 then some (0,q3.2.1,()) else k1 (v1,q3.1,v8,wI (v11 + 1),o0)))) else k0 (v1,v6,wI (v8 + 1),o0))
abbrev zdR (K:Nat) (k0:yD→Option (Int × (Int × Unit))):zdP→Option (Int × (Int × Unit)):=zg (fun k1=>zdQ k0 k1) K
theorem zzZ (K:Nat) (n0:Nat):∀ n,evV Es2 K Tryz.f32 0 (ch [tU,tI]) [1,1,1,0,1,0,0,1,0,0,1,1,1,1,1,0] [n0] zpW n = zg (fun k1=>zdQ (evV Es2 K Tryz.f32 0 (ch [tU,tI]) [1,1,1,0,1,0] [] zpX n0) k1) n:=zo fun n1 (v1,v6,v8,v11,o0)=>by kernel_rfl
def zaF (L1:zdP→Option (Int × (Int × Unit))) (k0:yD→Option (Int × (Int × Unit))):yD→Option (Int × (Int × Unit)):=fun (v1,v6,v8,o0) =>
  bif decide (v8 < ((List.length o0.2.1):Int)) then inR v8 ((List.length o0.2.1):Int) (Option.bind (ziZ ((ix za o0.2.1 v8).2.2.2.2.1,v1,())) fun q1=>bif q1.2.1 != 0 then some (0,q1.2.1,()) else Option.bind (vJ (v6,q1.1,())) fun q2=>bif q2.2.1 != 0 then some (0,q2.2.1,()) else L1 (v1,q2.1,v8,0,o0)) else some (v6,0,())
abbrev zpY (K:Nat):yD→Option (Int × (Int × Unit)):=zg (fun k0=>zaF (zdR K k0) k0) K
theorem zz0 (K:Nat):∀ n,evV Es2 K Tryz.f32 0 (ch [tU,tI]) [1,1,1,0,1,0] [] zpX n = zg (fun k0=>zaF (zdR K k0) k0) n:=qJ (B:=fun L1 k0=>zaF L1 k0) (V1:=fun n0=>evV Es2 K Tryz.f32 0 (ch [tU,tI]) [1,1,1,0,1,0,0,1,0,0,1,1,1,1,1,0] [n0] zpW K) (W1:=fun k0=>(zdR K k0)) (fun n0=>zzZ K n0 K) fun n0 (v1,v6,v8,o0)=>by kernel_rfl
def zi4 (L0:yD→Option (Int × (Int × Unit))):(ze × (Int × Unit))→Option (Int × (Int × Unit)):=fun (x0,x1,()) =>
  Option.bind (ziX (x0.2.2.2.1,x1,())) fun q0=>bif q0.2.1 != 0 then some (0,q0.2.1,()) else L0 (x1,q0.1,0,x0)
def zi5:(ze × Int × Unit)→Option (Int × Int × Unit):=zi4 (zpY K0)
abbrev ztw:Fun:=⟨32,(ch [zq,tI]),(ch [tU,tI]),0,zi5⟩
theorem zD9:Sq ztw:=ml2 (d:=false) (S:=fun K=>zi4 (zpY K)) Tryz.func32 (by kernel_rfl) (fun K=>tr1 (T:=zi4) (zz0 K K) fun (x0,x1,())=>by kernel_rfl) rfl
abbrev L3:List Fun:=zu8 :: zrC :: zx4 :: zpS :: zpT :: zlJ :: ztv :: zu9 :: zva :: zrD :: zlK :: zlL :: zn0 :: zn1 :: zmT :: zmU :: zn2 :: zmV :: zmW :: zlM :: zlN :: zx8 :: zlO :: zvb :: zpV :: zvc :: zvd :: zrE :: zve :: zvf :: zrF :: zrG :: zvg :: ztw :: L2
theorem h3:Sds Tryz.prog E0 L3:=⟨zFM,zBI,zHI,zzU,zzV,zuu,zD8,zFN,zFO,zBJ,zuv,zuw,zx5,zx6,zwk,zwl,zx7,zwm,zwn,zux,zuy,zHJ,zuz,zFP,zzY,zFQ,zFR,zBK,zFS,zFT,zBL,zBM,zFU,zD9,h2⟩
theorem ms3 {d:Bool} {F:Fun} {f:Go.Func} {K:Nat} (hf:Tryz.prog.funcs[F.id]? = some f) (ho:jY f = true) (h:evF (En E0 d L3) K f F.md F.a F.r = F.spec):Sd Tryz.prog E0 F:=mkS h3 hf ho h
theorem ml3 {d:Bool} {F:Fun} {f:Go.Func} {S:Nat→F.a.I→Option F.r.I} (hf:Tryz.prog.funcs[F.id]? = some f) (ho:jY f = true) (h:∀ K,evF (En E0 d L3) K f F.md F.a F.r = S K) (e:S K0 = F.spec):Sd Tryz.prog E0 F:=mkS h3 hf ho ((h K0).trans e)
abbrev Es3:Env:=En E0 false L3
abbrev za2:Type:=Int × zf
abbrev zwq:za2→St:=fun (v4,o0)=>St.mk [(1,.bp 0 []),(4,.dat tI v4)] [.bx (.dat zu o0) false]
def zez (k0:za2→Option (Bool × Unit)):za2→Option (Bool × Unit):=fun (v4,o0) =>
  bif decide (v4 < ((List.length o0.1):Int)) then inR (wI (v4 - 1)) ((List.length o0.1):Int) (inR v4 ((List.length o0.1):Int) (Option.bind (zkq (List.getD o0.1 (Int.toNat (wI (v4 - 1))) (zb zl),ix qN o0.1 v4,())) fun q2=>bif decide (q2.1 ≥ 0) then some (false,()) else k0 (wI (v4 + 1),o0))) else some (true,())
abbrev zhW (K:Nat):za2→Option (Bool × Unit):=zg zez K
theorem zwr (K:Nat):∀ n,evV Es3 K Tryz.f151 0 (ch [.bool]) [1,1,1,0,1,0] [] zwq n = zg zez n:=zo fun n0 (v4,o0)=>by kernel_rfl
def zgl (L0:za2→Option (Bool × Unit)):(zf × Unit)→Option (Bool × Unit):=fun (x0,()) =>
  Option.bind (qn (((List.length x0.1):Int),1,8,())) fun q0=>bif q0.1 then bif decide (0 < ((List.length x0.1):Int)) then bif !eqI zl (ix qN x0.1 0) (zb zl) then some (false,()) else Option.bind (yh (x0.1,some zer,())) fun q1=>bif q1.1 then some (false,()) else L0 (1,x0) else none else some (false,())
def vz:(zf × Unit)→Option (Bool × Unit):=zgl (zhW K0)
abbrev zpZ:Fun:=⟨151,(ch [zu]),(ch [.bool]),0,vz⟩
theorem zz1:Sq zpZ:=ml3 (d:=false) (S:=fun K=>zgl (zhW K)) Tryz.func151 (by kernel_rfl) (fun K=>tr1 (T:=zgl) (zwr K K) fun (x0,())=>by kernel_rfl) rfl
def za3:(ByteArray × Unit)→Option (Bool × Unit):=fun (x0,()) =>
  bif decide ((↑(ByteArray.size x0):Int) < 1) then some (false,()) else bif decide ((↑(ByteArray.size x0):Int) > 12) then some (false,()) else bif decide (0 < (↑(ByteArray.size x0):Int)) then Option.bind (zfC ((↑(UInt8.toNat (List.getD (Array.toList (ByteArray.data x0)) (Int.toNat 0) 0)):Int),())) fun q0=>bif q0.1 then Option.bind (zlY (x0,some zgb,())) fun q1=>bif q1.1 then some (true,()) else some (false,()) else some (false,()) else none
abbrev ztx:Fun:=⟨180,(ch [.str]),(ch [.bool]),0,za3⟩
theorem zEa:Sq ztx:=ms3 (d:=false) (K:=0) Tryz.func180 (by kernel_rfl) (funext fun (x0,())=>by kernel_rfl)
def zku:(ByteArray × Unit)→Option (Bool × Unit):=fun (x0,()) =>
  bif decide ((↑(ByteArray.size x0):Int) ≥ 1) then bif decide ((↑(ByteArray.size x0):Int) ≤ 40) then Option.bind (zlY (x0,some ziB,())) fun q0=>bif q0.1 then Option.bind (zgc (x0,ByteArray.mk #[32],())) fun q1=>bif ByteArray.toList q1.1 == ByteArray.toList x0 then some (true,()) else some (false,()) else some (false,()) else some (false,()) else some (false,())
abbrev zvh:Fun:=⟨257,(ch [.str]),(ch [.bool]),0,zku⟩
theorem zFV:Sq zvh:=ms3 (d:=false) (K:=0) Tryz.func257 (by kernel_rfl) (funext fun (x0,())=>by kernel_rfl)
def zfl:(zt × Unit)→Option (Bool × Unit):=fun (x0,()) =>
  bif x0.1 then Option.bind (zkr (x0,())) fun q0=>bif q0.1 then some (false,()) else some (true,()) else bif !eqI zz x0 (zb zz) then some (true,()) else some (false,())
abbrev zn5:Fun:=⟨188,(ch [zz]),(ch [.bool]),0,zfl⟩
theorem zyf:Sq zn5:=ms3 (d:=false) (K:=0) Tryz.func188 (by kernel_rfl) (funext fun (x0,())=>by kernel_rfl)
def zl0:(zn × Unit)→Option (Bool × Unit):=fun (x0,()) =>
  Option.bind (zg8 (x0.2.2.2.1,x0.2.2.2.2.2.2.2.1,x0.2.2.2.2.2.2.1,())) fun q0=>bif q0.2.1 == 0 then bif q0.1 == x0.2.2.2.2.2.2.2.2.1 then Option.bind (zkM (x0.2.1,())) fun q1=>bif q1.1 then Option.bind (zkM (x0.2.2.1,())) fun q2=>bif q2.1 then Option.bind (qU (x0.2.2.2.2.1,())) fun q3=>bif q3.1 then Option.bind (qU (x0.2.2.2.2.2.1,())) fun q4=>bif q4.1 then bif x0.2.2.2.2.1 != x0.2.2.2.2.2.1 then bif decide (x0.2.2.2.2.2.2.2.2.2.1 ≥ 0) then some (true,()) else some (false,()) else some (false,()) else some (false,()) else some (false,()) else some (false,()) else some (false,()) else some (false,()) else some (false,())
abbrev zyg:Fun:=⟨192,(ch [zr]),(ch [.bool]),0,zl0⟩
theorem zHK:Sq zyg:=ms3 (d:=false) (K:=0) Tryz.func192 (by kernel_rfl) (funext fun (x0,())=>by kernel_rfl)
def zkv:(zI × Unit)→Option (Bool × Unit):=fun (x0,()) =>
  bif decide (x0.1 > 4611686018427387904) then some (false,()) else Option.bind (zej (x0.2.1,())) fun q0=>bif q0.1 then Option.bind (zej (x0.2.2.1,())) fun q1=>bif q1.1 then Option.bind (zej (x0.2.2.2.1,())) fun q2=>bif q2.1 then Option.bind (zej (x0.2.2.2.2.2.2.2.2.2.1,())) fun q3=>bif q3.1 then bif x0.2.2.2.2.1 == 3 then bif eqI zy x0 (x0.1,x0.2.1,x0.2.2.1,x0.2.2.2.1,x0.2.2.2.2.1,(zb zy).2.2.2.2.2.1,(zb zy).2.2.2.2.2.2.1,(zb zy).2.2.2.2.2.2.2.1,(zb zy).2.2.2.2.2.2.2.2.1,x0.2.2.2.2.2.2.2.2.2.1,(zb zy).2.2.2.2.2.2.2.2.2.2) then some (true,()) else some (false,()) else Option.bind (zg8 (x0.2.2.2.2.1,x0.2.2.2.2.2.2.2.1,x0.2.2.2.2.2.2.2.2.1,())) fun q4=>bif q4.2.1 == 0 then bif x0.2.2.2.2.2.2.2.2.2.1 == 0 then bif x0.2.2.2.2.2.1 != x0.2.2.2.2.2.2.1 then Option.bind (qU (x0.2.2.2.2.2.1,())) fun q5=>bif q5.1 then Option.bind (qU (x0.2.2.2.2.2.2.1,())) fun q6=>bif q6.1 then some (true,()) else some (false,()) else some (false,()) else some (false,()) else some (false,()) else some (false,()) else some (false,()) else some (false,()) else some (false,()) else some (false,())
abbrev zvi:Fun:=⟨193,(ch [zy]),(ch [.bool]),0,zkv⟩
theorem zFW:Sq zvi:=ms3 (d:=false) (K:=0) Tryz.func193 (by kernel_rfl) (funext fun (x0,())=>by kernel_rfl)
def zlh:(qT × (Int × Unit))→Option ((Option ((z7 × Unit)→Option (Bool × Unit))) × Unit):=fun (x0,x1,()) =>
  some (some fun z=>vN (z.1,some x0,some x1,()),())
abbrev zrH:Fun:=⟨101,(ch [qk,tI]),(ch [(.fn (ch [zY]) (ch [.bool]))]),0,zlh⟩
theorem zBN:Sq zrH:=ms3 (d:=false) (K:=0) Tryz.func101 (by kernel_rfl) (funext fun (x0,x1,())=>by kernel_rfl)
abbrev vl:Type:=(List zk) × Int × Int × qT
abbrev zws:vl→St:=fun (v10,v11,v12,o0)=>St.mk [(1,.bp 0 []),(10,.dat (.sl zm) v10),(11,.dat tI v11),(12,.dat tI v12)] [.bx (.dat qk o0) true]
abbrev zeA:Type:=(List zk) × Int × Int × qT
abbrev zwt:zeA→St:=fun (v10,v11,v12,o0)=>St.mk [(1,.bp 0 []),(10,.dat (.sl zm) v10),(11,.dat tI v11),(12,.dat tI v12)] [.bx (.dat qk o0) false]
def qY (k1:vl→Option (Bool × Unit)):vl→Option (Bool × Unit):=fun (v10,v11,v12,o0) =>
  bif decide (v12 < v11) then inR v12 ((List.length v10):Int) (Option.bind (yB ((ix za v10 v12).2.2.1,some fun z=>zaQ (z.1,some o0,()),())) fun q3=>bif q3.1 then Option.bind (yC ((ix za v10 v12).2.2.2.1,some fun z=>vk (z.1,some o0,some v12,()),())) fun q4=>bif q4.1 then Option.bind (qM ((ix za v10 v12).2.2.2.2.1,some fun z=>qH (z.1,some o0,()),())) fun q5=>bif q5.1 then k1 (v10,v11,wI (v12 + 1),o0) else some (false,()) else Option.bind (qM ((ix za v10 v12).2.2.2.2.1,some fun z=>qH (z.1,some o0,()),())) fun q6=>bif q6.1 then some (false,()) else some (false,()) else Option.bind (yC ((ix za v10 v12).2.2.2.1,some fun z=>vk (z.1,some o0,some v12,()),())) fun q7=>bif q7.1 then Option.bind (qM ((ix za v10 v12).2.2.2.2.1,some fun z=>qH (z.1,some o0,()),())) fun q8=>bif q8.1 then some (false,()) else some (false,()) else Option.bind (qM ((ix za v10 v12).2.2.2.2.1,some fun z=>qH (z.1,some o0,()),())) fun q9=>bif q9.1 then some (false,()) else some (false,())) else some (true,())
theorem zwu (K:Nat):∀ n,evV Es3 K Tryz.f38 0 (ch [.bool]) [1,0,1,0] [] zws n = zg qY n:=zo fun n1 (v10,v11,v12,o0)=>by kernel_rfl
def zmY (k1:vl→Option (Bool × Unit)):zeA→Option (Bool × Unit):=fun (v10,v11,v12,o0) =>
  bif decide (v12 < v11) then inR v12 ((List.length v10):Int) (Option.bind (yB ((ix za v10 v12).2.2.1,some fun z=>zaQ (z.1,some o0,()),())) fun q0=>bif q0.1 then Option.bind (yC ((ix za v10 v12).2.2.2.1,some fun z=>vk (z.1,some o0,some v12,()),())) fun q1=>bif q1.1 then Option.bind (qM ((ix za v10 v12).2.2.2.2.1,some fun z=>qH (z.1,some o0,()),())) fun q2=>bif q2.1 then k1 (v10,v11,wI (v12 + 1),o0) else some (false,()) else Option.bind (qM ((ix za v10 v12).2.2.2.2.1,some fun z=>qH (z.1,some o0,()),())) fun q10=>bif q10.1 then some (false,()) else some (false,()) else Option.bind (yC ((ix za v10 v12).2.2.2.1,some fun z=>vk (z.1,some o0,some v12,()),())) fun q11=>bif q11.1 then Option.bind (qM ((ix za v10 v12).2.2.2.2.1,some fun z=>qH (z.1,some o0,()),())) fun q12=>bif q12.1 then some (false,()) else some (false,()) else Option.bind (qM ((ix za v10 v12).2.2.2.2.1,some fun z=>qH (z.1,some o0,()),())) fun q13=>bif q13.1 then some (false,()) else some (false,())) else some (true,())
abbrev zmZ (K:Nat):zeA→Option (Bool × Unit):=zxv zmY qY K
theorem zwv (K:Nat):∀ n,evV Es3 K Tryz.f38 0 (ch [.bool]) [1,0,1,0] [] zwt n = zxv zmY qY n:=zI5 (zwu K) fun n0 (v10,v11,v12,o0)=>by kernel_rfl
def zj4 (L0:zeA→Option (Bool × Unit)):(qT × Unit)→Option (Bool × Unit):=fun (x0,()) =>
  L0 (x0.2.1.2.1,((List.length x0.2.1.2.1):Int),0,x0)
def zaG:(qT × Unit)→Option (Bool × Unit):=zj4 (zmZ K0)
abbrev zp0:Fun:=⟨38,(ch [qk]),(ch [.bool]),0,zaG⟩
theorem zz2:Sq zp0:=ml3 (d:=false) (S:=fun K=>zj4 (zmZ K)) Tryz.func38 (by kernel_rfl) (fun K=>tr1 (T:=zj4) (zwv K K) fun (x0,())=>by kernel_rfl) rfl
abbrev zcc:Type:=(List zk) × Int × Int × (List Int) × Int × Int × zk
abbrev zn6:zcc→St:=fun (v14,v15,v16,v55,v56,v57,o0)=>St.mk [(4,.bp 0 []),(14,.dat (.sl zm) v14),(15,.dat tI v15),(16,.dat tI v16),(55,.dat (.sl tI) v55),(56,.dat tI v56),(57,.dat tI v57)] [.bx (.dat zm o0) false]
abbrev zcd:Type:=(Option zbH) × (List zk) × Int × Int × (List qj) × Int × Int × zk
abbrev zn7:zcd→St:=fun (v5,v14,v15,v16,v24,v25,v26,o0)=>St.mk [(4,.bp 0 []),(5,.dat (.ptr vF) v5),(14,.dat (.sl zm) v14),(15,.dat tI v15),(16,.dat tI v16),(24,.dat (.sl zL) v24),(25,.dat tI v25),(26,.dat tI v26)] [.bx (.dat zm o0) false]
abbrev jA:Type:=(List zk) × Int × Int
abbrev yY:jA→St:=fun (v14,v15,v16)=>St.mk [(14,.dat (.sl zm) v14),(15,.dat tI v15),(16,.dat tI v16)] []
def zce (k0:jA→Option (Bool × Unit)) (k2:zcc→Option (Bool × Unit)):zcc→Option (Bool × Unit):=fun (v14,v15,v16,v55,v56,v57,o0) =>
  bif decide (v57 < v56) then inR v57 ((List.length v55):Int) (inR (ix (0:Int) v55 v57) ((List.length o0.2.2.2.2.1):Int) (inR (ix (0:Int) v55 v57) ((List.length o0.2.2.2.2.1):Int) (bif decide ((List.getD o0.2.2.2.2.1 (Int.toNat (ix (0:Int) v55 v57)) (zb zz)).2.2.2.1.2.2.1 ≥ ((List.length o0.2.2.1):Int)) then some (false,()) else bif decide ((List.getD o0.2.2.2.2.1 (Int.toNat (ix (0:Int) v55 v57)) (zb zz)).2.2.2.2.1.2.2.1 ≥ ((List.length o0.2.2.1):Int)) then some (false,()) else bif decide ((List.getD o0.2.2.2.2.1 (Int.toNat (ix (0:Int) v55 v57)) (zb zz)).2.2.2.1.2.2.1 ≥ 0) then inR (List.getD o0.2.2.2.2.1 (Int.toNat (ix (0:Int) v55 v57)) (zb zz)).2.2.2.1.2.2.1 ((List.length o0.2.2.1):Int) (bif (List.getD o0.2.2.1 (Int.toNat (List.getD o0.2.2.2.2.1 (Int.toNat (ix (0:Int) v55 v57)) (zb zz)).2.2.2.1.2.2.1) (zb zL)).2.2.1 != 3 then some (false,()) else inR (List.getD o0.2.2.2.2.1 (Int.toNat (ix (0:Int) v55 v57)) (zb zz)).2.2.2.1.2.2.1 ((List.length o0.2.2.1):Int) (bif (List.getD o0.2.2.1 (Int.toNat (List.getD o0.2.2.2.2.1 (Int.toNat (ix (0:Int) v55 v57)) (zb zz)).2.2.2.1.2.2.1) (zb zL)).2.2.2.1 != ix (0:Int) v55 v57 then some (false,()) else k2 (v14,v15,v16,v55,v56,wI (v57 + 1),o0))) else k2 (v14,v15,v16,v55,v56,wI (v57 + 1),o0)))) else k0 (v14,v15,wI (v16 + 1))
abbrev zcf (K:Nat) (k0:jA→Option (Bool × Unit)):zcc→Option (Bool × Unit):=zg (fun k2=>zce k0 k2) K
theorem zyh (K:Nat) (n0:Nat):∀ n,evV Es3 K Tryz.f39 0 (ch [.bool]) [1,0,1,0,0,1,1,0,0,1,1,1,1,0] [n0] zn6 n = zg (fun k2=>zce (evV Es3 K Tryz.f39 0 (ch [.bool]) [1,0,1,0] [] yY n0) k2) n:=zo fun n2 (v14,v15,v16,v55,v56,v57,o0)=>by kernel_rfl
def yZ (L2:zcc→Option (Bool × Unit)) (k0:jA→Option (Bool × Unit)) (k1:zcd→Option (Bool × Unit)):zcd→Option (Bool × Unit):=fun (v5,v14,v15,v16,v24,v25,v26,o0) =>
  bif decide (v26 < v25) then inR v26 ((List.length v24):Int) (bif (ix zB v24 v26).2.2.1 == 3 then Option.bind (vL (v5,(ix zB v24 v26).2.2.2.1,())) fun q1=>bif q1.1 then inR (ix zB v24 v26).2.2.2.1 ((List.length o0.2.2.2.2.1):Int) (bif (List.getD o0.2.2.2.2.1 (Int.toNat (ix zB v24 v26).2.2.2.1) (zb zz)).2.2.2.1.2.2.1 != v26 then some (false,()) else k1 (v5,v14,v15,v16,v24,v25,wI (v26 + 1),o0)) else some (false,()) else k1 (v5,v14,v15,v16,v24,v25,wI (v26 + 1),o0)) else Option.bind (zdq (v5,())) fun q2=>L2 (v14,v15,v16,q2.1,((List.length q2.1):Int),0,o0)
abbrev zcg (K:Nat) (k0:jA→Option (Bool × Unit)):zcd→Option (Bool × Unit):=zg (fun k1=>yZ (zcf K k0) k0 k1) K
theorem zyi (K:Nat) (n0:Nat):∀ n,evV Es3 K Tryz.f39 0 (ch [.bool]) [1,0,1,0,0,1,1,0,0,1,1,0,1,0] [n0] zn7 n = zg (fun k1=>yZ (zcf K (evV Es3 K Tryz.f39 0 (ch [.bool]) [1,0,1,0] [] yY n0)) (evV Es3 K Tryz.f39 0 (ch [.bool]) [1,0,1,0] [] yY n0) k1) n:=qJ (B:=fun L2 k1=>yZ L2 (evV Es3 K Tryz.f39 0 (ch [.bool]) [1,0,1,0] [] yY n0) k1) (V1:=fun n1=>evV Es3 K Tryz.f39 0 (ch [.bool]) [1,0,1,0,0,1,1,0,0,1,1,1,1,0] [n0] zn6 K) (W1:=fun k1=>(zcf K (evV Es3 K Tryz.f39 0 (ch [.bool]) [1,0,1,0] [] yY n0))) (fun n1=>zyh K n0 K) fun n1 (v5,v14,v15,v16,v24,v25,v26,o0)=>by kernel_rfl
def y0 (L1:zcd→Option (Bool × Unit)) (k0:jA→Option (Bool × Unit)):jA→Option (Bool × Unit):=fun (v14,v15,v16) =>
  bif decide (v16 < v15) then inR v16 ((List.length v14):Int) (Option.bind (yx ((ix za v14 v16).2.2.2.2.1,some vI,())) fun q0=>L1 (q0.1,v14,v15,v16,(ix za v14 v16).2.2.1,((List.length (ix za v14 v16).2.2.1):Int),0,ix za v14 v16)) else some (true,())
abbrev zn8 (K:Nat):jA→Option (Bool × Unit):=zg (fun k0=>y0 (zcg K k0) k0) K
theorem zyj (K:Nat):∀ n,evV Es3 K Tryz.f39 0 (ch [.bool]) [1,0,1,0] [] yY n = zg (fun k0=>y0 (zcg K k0) k0) n:=qJ (B:=fun L1 k0=>y0 L1 k0) (V1:=fun n0=>evV Es3 K Tryz.f39 0 (ch [.bool]) [1,0,1,0,0,1,1,0,0,1,1,0,1,0] [n0] zn7 K) (W1:=fun k0=>(zcg K k0)) (fun n0=>zyi K n0 K) fun n0 (v14,v15,v16)=>by kernel_rfl
def zli (L0:jA→Option (Bool × Unit)):(qT × Unit)→Option (Bool × Unit):=fun (x0,()) =>
  L0 (x0.2.1.2.1,((List.length x0.2.1.2.1):Int),0)
def zeO:(qT × Unit)→Option (Bool × Unit):=zli (zn8 K0)
abbrev zrI:Fun:=⟨39,(ch [qk]),(ch [.bool]),0,zeO⟩
theorem zBO:Sq zrI:=ml3 (d:=false) (S:=fun K=>zli (zn8 K)) Tryz.func39 (by kernel_rfl) (fun K=>tr1 (T:=zli) (zyj K K) fun (x0,())=>by kernel_rfl) rfl
def zi6:((List zn) × Unit)→Option ((List Int) × Unit):=fun (x0,()) =>
  Option.bind (zlZ (x0,())) fun q0=>Option.bind (zgM (q0.1,())) fun q1=>some (q1.1,())
abbrev zty:Fun:=⟨118,(ch [(.sl zr)]),(ch [(.sl tI)]),0,zi6⟩
theorem zEb:Sq zty:=ms3 (d:=false) (K:=0) Tryz.func118 (by kernel_rfl) (funext fun (x0,())=>by kernel_rfl)
abbrev zdS:Type:=(List zt) × Int × (List Int) × Int × Int × List Int
abbrev zz3:zdS→St:=fun (v0,v1,v14,v15,v16,o0)=>St.mk [(0,.dat (.sl zz) v0),(1,.dat tI v1),(6,.ow 0),(14,.dat (.sl tI) v14),(15,.dat tI v15),(16,.dat tI v16)] [.row tU o0 false]
def zdT (k0:zdS→Option (Int × (Int × Unit))):zdS→Option (Int × (Int × Unit)):=fun (v0,v1,v14,v15,v16,o0) =>
  bif decide (v16 < v15) then inR v16 ((List.length v14):Int) (inR (ix (0:Int) v14 v16) ((List.length v0):Int) (bif (List.getD v0 (Int.toNat (ix (0:Int) v14 v16)) (zb zz)).2.2.2.1.1 == v1 then inR (ix (0:Int) v14 v16) ((List.length v0):Int) (bif decide (List.length o0 + List.length (zi (List.replicate 1 (0:Int)) 0 (List.getD v0 (Int.toNat (ix (0:Int) v14 v16)) (zb zz)).2.2.2.1.2.1) ≤ lim) then k0 (v0,v1,v14,v15,wI (v16 + 1),o0 ++ zi (List.replicate 1 (0:Int)) 0 (List.getD v0 (Int.toNat (ix (0:Int) v14 v16)) (zb zz)).2.2.2.1.2.1) else none) else k0 (v0,v1,v14,v15,wI (v16 + 1),o0))) else Option.bind (zgd (o0,())) fun q3=>some (q3.1,q3.2.1,())
abbrev zp1 (K:Nat):zdS→Option (Int × (Int × Unit)):=zg zdT K
theorem zz4 (K:Nat):∀ n,evV Es3 K Tryz.f43 0 (ch [tU,tI]) [1,1,1,0,1,0] [] zz3 n = zg zdT n:=zo fun n0 (v0,v1,v14,v15,v16,o0)=>by kernel_rfl
def zi7 (L0:zdS→Option (Int × (Int × Unit))):((List zt) × (Int × Unit))→Option (Int × (Int × Unit)):=fun (x0,x1,()) =>
  Option.bind (qU (x1,())) fun q0=>bif q0.1 then Option.bind (zks (x0,())) fun q1=>Option.bind (zdq (q1.1,())) fun q2=>L0 (x0,x1,q2.1,((List.length q2.1):Int),0,[]) else some (0,1,())
def zi8:((List zt) × Int × Unit)→Option (Int × Int × Unit):=zi7 (zp1 K0)
abbrev ztz:Fun:=⟨43,(ch [(.sl zz),tI]),(ch [tU,tI]),0,zi8⟩
theorem zEc:Sq ztz:=ml3 (d:=false) (S:=fun K=>zi7 (zp1 K)) Tryz.func43 (by kernel_rfl) (fun K=>tr1 (T:=zi7) (zz4 K K) fun (x0,x1,())=>by kernel_rfl) rfl
def zi9:(ze × (Int × Unit))→Option (Int × (Int × Unit)):=fun (x0,x1,()) =>
  Option.bind (qU (x1,())) fun q0=>bif q0.1 then Option.bind (zgk (x0,x1,some zjV,())) fun q1=>bif q1.2.1 != 0 then some (0,q1.2.1,()) else Option.bind (zgk (x0,x1,some zjW,())) fun q2=>bif q2.2.1 != 0 then some (0,q2.2.1,()) else Option.bind (zaO (q1.1,q2.1,())) fun q3=>some (q3.1,q3.2.1,()) else some (0,1,())
abbrev ztA:Fun:=⟨117,(ch [zq,tI]),(ch [tU,tI]),0,zi9⟩
theorem zEd:Sq ztA:=ms3 (d:=false) (K:=0) Tryz.func117 (by kernel_rfl) (funext fun (x0,x1,())=>by kernel_rfl)
abbrev zch:Type:=(List (List Int)) × Int × Int × zf
abbrev zn9:zch→St:=fun (v1,v5,v6,o0)=>St.mk [(1,.dat (.sl (.sl tI)) v1),(2,.bp 0 []),(5,.dat tI v5),(6,.dat tI v6)] [.bx (.dat zu o0) false]
abbrev vO:Type:=(List (List Int)) × Int × zf
abbrev zoa:vO→St:=fun (v1,v5,o0)=>St.mk [(1,.dat (.sl (.sl tI)) v1),(2,.bp 0 []),(5,.dat tI v5)] [.bx (.dat zu o0) false]
def zfm (k0:vO→Option (Bool × Unit)) (k1:zch→Option (Bool × Unit)):zch→Option (Bool × Unit):=fun (v1,v5,v6,o0) =>
  inR v5 ((List.length v1):Int) (bif decide (v6 < ((List.length (List.getD v1 (Int.toNat v5) ([]:List Int))):Int)) then inR v5 ((List.length v1):Int) (inR v6 ((List.length (List.getD v1 (Int.toNat v5) ([]:List Int))):Int) (bif decide (List.getD (List.getD v1 (Int.toNat v5) ([]:List Int)) (Int.toNat v6) (0:Int) < 0) then some (false,()) else inR v5 ((List.length v1):Int) (inR v6 ((List.length (List.getD v1 (Int.toNat v5) ([]:List Int))):Int) (bif decide (List.getD (List.getD v1 (Int.toNat v5) ([]:List Int)) (Int.toNat v6) (0:Int) > 2) then some (false,()) else k1 (v1,v5,wI (v6 + 1),o0))))) else k0 (v1,wI (v5 + 1),o0))
abbrev zfn (K:Nat) (k0:vO→Option (Bool × Unit)):zch→Option (Bool × Unit):=zg (fun k1=>zfm k0 k1) K
theorem zyk (K:Nat) (n0:Nat):∀ n,evV Es3 K Tryz.f64 0 (ch [.bool]) [1,1,0,1,0,0,1,0,0,1,1,0] [n0] zn9 n = zg (fun k1=>zfm (evV Es3 K Tryz.f64 0 (ch [.bool]) [1,1,0,1,0] [] zoa n0) k1) n:=zo fun n1 (v1,v5,v6,o0)=>by kernel_rfl
def zci (L1:zch→Option (Bool × Unit)) (k0:vO→Option (Bool × Unit)):vO→Option (Bool × Unit):=fun (v1,v5,o0) =>
  bif decide (v5 < ((List.length v1):Int)) then inR v5 ((List.length v1):Int) (bif ((List.length (List.getD v1 (Int.toNat v5) ([]:List Int))):Int) != ((List.length o0.2.2.1):Int) then some (false,()) else inR v5 ((List.length v1):Int) (inR v5 ((List.length o0.2.2.2.1):Int) (inR (ix qz o0.2.2.2.1 v5).2.1 ((List.length (List.getD v1 (Int.toNat v5) ([]:List Int))):Int) (bif List.getD (List.getD v1 (Int.toNat v5) ([]:List Int)) (Int.toNat (ix qz o0.2.2.2.1 v5).2.1) (0:Int) != 2 then some (false,()) else L1 (v1,v5,0,o0))))) else some (true,())
abbrev zja (K:Nat):vO→Option (Bool × Unit):=zg (fun k0=>zci (zfn K k0) k0) K
theorem zyl (K:Nat):∀ n,evV Es3 K Tryz.f64 0 (ch [.bool]) [1,1,0,1,0] [] zoa n = zg (fun k0=>zci (zfn K k0) k0) n:=qJ (B:=fun L1 k0=>zci L1 k0) (V1:=fun n0=>evV Es3 K Tryz.f64 0 (ch [.bool]) [1,1,0,1,0,0,1,0,0,1,1,0] [n0] zn9 K) (W1:=fun k0=>(zfn K k0)) (fun n0=>zyk K n0 K) fun n0 (v1,v5,o0)=>by kernel_rfl
def zhw (L0:vO→Option (Bool × Unit)):(zf × ((List (List Int)) × Unit))→Option (Bool × Unit):=fun (x0,x1,()) =>
  Option.bind (zeN (x0,())) fun q0=>bif q0.1 then bif ((List.length x1):Int) != ((List.length x0.2.2.2.1):Int) then some (false,()) else L0 (x1,0,x0) else some (false,())
def zhx:(zf × (List (List Int)) × Unit)→Option (Bool × Unit):=zhw (zja K0)
abbrev zrJ:Fun:=⟨64,(ch [zu,(.sl (.sl tI))]),(ch [.bool]),0,zhx⟩
theorem zBP:Sq zrJ:=ml3 (d:=false) (S:=fun K=>zhw (zja K)) Tryz.func64 (by kernel_rfl) (fun K=>tr1 (T:=zhw) (zyl K K) fun (x0,x1,())=>by kernel_rfl) rfl
end
end Go.Proofs.YtokcjmkikhgkeaaGreatDoor
end
section
namespace Go.Proofs.YtokcjmkikhgkeaaGreatDoor
open Go.Ev
noncomputable section
abbrev zcj:Type:=(List zn) × Int
abbrev zym:zcj→St:=fun (v0,v3)=>St.mk [(0,.dat (.sl zr) v0),(3,.dat tI v3)] []
def zck (k0:zcj→Option (Bool × Unit)):zcj→Option (Bool × Unit):=fun (v0,v3) =>
  bif decide (v3 < ((List.length v0):Int)) then inR v3 ((List.length v0):Int) (bif (ix zH v0 v3).1 then inR v3 ((List.length v0):Int) (bif (ix zH v0 v3).1 then inR v3 ((List.length v0):Int) (Option.bind (zg9 (ix zH v0 v3,())) fun q0=>bif q0.1 then inR v3 ((List.length v0):Int) (Option.bind (zko (v0,v3,(ix zH v0 v3).2.2.2.2.2.2.2.2.2.1,())) fun q1=>bif q1.1 then some (false,()) else k0 (v0,wI (v3 + 1))) else some (false,())) else k0 (v0,wI (v3 + 1))) else inR v3 ((List.length v0):Int) (bif !eqI zr (ix zH v0 v3) (zb zr) then some (false,()) else inR v3 ((List.length v0):Int) (bif (ix zH v0 v3).1 then inR v3 ((List.length v0):Int) (Option.bind (zg9 (ix zH v0 v3,())) fun q2=>bif q2.1 then inR v3 ((List.length v0):Int) (Option.bind (zko (v0,v3,(ix zH v0 v3).2.2.2.2.2.2.2.2.2.1,())) fun q3=>bif q3.1 then some (false,()) else k0 (v0,wI (v3 + 1))) else some (false,())) else k0 (v0,wI (v3 + 1))))) else some (true,())
abbrev zob (K:Nat):zcj→Option (Bool × Unit):=zg zck K
theorem zyn (K:Nat):∀ n,evV Es3 K Tryz.f65 0 (ch [.bool]) [1,0,1,0] [] zym n = zg zck n:=zo fun n0 (v0,v3)=>by kernel_rfl
def zlj (L0:zcj→Option (Bool × Unit)):((List zn) × Unit)→Option (Bool × Unit):=fun (x0,()) =>
  L0 (x0,0)
def zlk:((List zn) × Unit)→Option (Bool × Unit):=zlj (zob K0)
abbrev zrK:Fun:=⟨65,(ch [(.sl zr)]),(ch [.bool]),0,zlk⟩
theorem zBQ:Sq zrK:=ml3 (d:=false) (S:=fun K=>zlj (zob K)) Tryz.func65 (by kernel_rfl) (fun K=>tr1 (T:=zlj) (zyn K K) fun (x0,())=>by kernel_rfl) rfl
abbrev zcl:Type:=(List zI) × Int
abbrev zyo:zcl→St:=fun (v0,v3)=>St.mk [(0,.dat (.sl zy) v0),(3,.dat tI v3)] []
def zcm (k0:zcl→Option (Bool × Unit)):zcl→Option (Bool × Unit):=fun (v0,v3) =>
  bif decide (v3 < ((List.length v0):Int)) then inR v3 ((List.length v0):Int) (Option.bind (zkt (ix zah v0 v3,())) fun q0=>bif q0.1 then bif decide (v3 > 0) then inR v3 ((List.length v0):Int) (inR (wI (v3 - 1)) ((List.length v0):Int) (Option.bind (zga (ix zah v0 v3,List.getD v0 (Int.toNat (wI (v3 - 1))) (zb zy),())) fun q1=>bif q1.1 then k0 (v0,wI (v3 + 1)) else some (false,()))) else k0 (v0,wI (v3 + 1)) else some (false,())) else some (true,())
abbrev zoc (K:Nat):zcl→Option (Bool × Unit):=zg zcm K
theorem zyp (K:Nat):∀ n,evV Es3 K Tryz.f66 0 (ch [.bool]) [1,0,1,0] [] zyo n = zg zcm n:=zo fun n0 (v0,v3)=>by kernel_rfl
def zll (L0:zcl→Option (Bool × Unit)):((List zI) × Unit)→Option (Bool × Unit):=fun (x0,()) =>
  L0 (x0,0)
def zlm:((List zI) × Unit)→Option (Bool × Unit):=zll (zoc K0)
abbrev zrL:Fun:=⟨66,(ch [(.sl zy)]),(ch [.bool]),0,zlm⟩
theorem zBR:Sq zrL:=ml3 (d:=false) (S:=fun K=>zll (zoc K)) Tryz.func66 (by kernel_rfl) (fun K=>tr1 (T:=zll) (zyp K K) fun (x0,())=>by kernel_rfl) rfl
def zab:(zf × (ze × (z7 × (Int × Unit))))→Option (Bool × Unit):=fun (x0,x1,x2,x3,()) =>
  Option.bind (zeI (x1,x2,())) fun q0=>bif q0.1 then Option.bind (zha (x0,x2.1,x3,())) fun q1=>bif q1.1 then some (true,()) else some (false,()) else some (false,())
abbrev zrM:Fun:=⟨74,(ch [zu,zq,zY,tI]),(ch [.bool]),0,zab⟩
theorem zBS:Sq zrM:=ms3 (d:=false) (K:=0) Tryz.func74 (by kernel_rfl) (funext fun (x0,x1,x2,x3,())=>by kernel_rfl)
abbrev L4:List Fun:=zpZ :: ztx :: zvh :: zn5 :: zyg :: zvi :: zrH :: zp0 :: zrI :: zty :: ztz :: ztA :: zrJ :: zrK :: zrL :: zrM :: L3
theorem h4:Sds Tryz.prog E0 L4:=⟨zz1,zEa,zFV,zyf,zHK,zFW,zBN,zz2,zBO,zEb,zEc,zEd,zBP,zBQ,zBR,zBS,h3⟩
theorem ms4 {d:Bool} {F:Fun} {f:Go.Func} {K:Nat} (hf:Tryz.prog.funcs[F.id]? = some f) (ho:jY f = true) (h:evF (En E0 d L4) K f F.md F.a F.r = F.spec):Sd Tryz.prog E0 F:=mkS h4 hf ho h
theorem ml4 {d:Bool} {F:Fun} {f:Go.Func} {S:Nat→F.a.I→Option F.r.I} (hf:Tryz.prog.funcs[F.id]? = some f) (ho:jY f = true) (h:∀ K,evF (En E0 d L4) K f F.md F.a F.r = S K) (e:S K0 = F.spec):Sd Tryz.prog E0 F:=mkS h4 hf ho ((h K0).trans e)
abbrev Es4:Env:=En E0 false L4
def zcn:(qs × Unit)→Option (Bool × Unit):=fun (x0,()) =>
  Option.bind (za3 (x0.1,())) fun q0=>bif q0.1 then Option.bind (za3 (x0.2.1,())) fun q1=>bif q1.1 then Option.bind (qn (x0.2.2.1,0,3,())) fun q2=>bif q2.1 then some (false,()) else some (true,()) else some (true,()) else some (true,())
abbrev zkU:Fun:=⟨228,(ch [qv]),(ch [.bool]),0,zcn⟩
theorem ztB:Sq zkU:=ms4 (d:=false) (K:=0) Tryz.func228 (by kernel_rfl) (funext fun (x0,())=>by kernel_rfl)
def zgm:(jD × Unit)→Option (Bool × Unit):=fun (x0,()) =>
  bif x0.1 then Option.bind (za3 (x0.2.1,())) fun q0=>bif q0.1 then bif x0.1 then some (false,()) else bif !ByteArray.toList x0.2.1 == ByteArray.toList (ByteArray.mk #[]) then some (true,()) else some (false,()) else some (true,()) else bif x0.1 then some (false,()) else bif !ByteArray.toList x0.2.1 == ByteArray.toList (ByteArray.mk #[]) then some (true,()) else some (false,())
abbrev zp2:Fun:=⟨179,(ch [qC]),(ch [.bool]),0,zgm⟩
theorem zz5:Sq zp2:=ms4 (d:=false) (K:=0) Tryz.func179 (by kernel_rfl) (funext fun (x0,())=>by kernel_rfl)
def zhy:(qj × Unit)→Option (Bool × Unit):=fun (x0,()) =>
  bif x0.1 then Option.bind (za3 (x0.2.1,())) fun q0=>bif q0.1 then Option.bind (zqK (x0,())) fun q1=>Option.bind (zbT (q1.1,())) fun q2=>bif q2.1 then some (false,()) else some (true,()) else some (true,()) else bif !eqI zL x0 (zb zL) then some (true,()) else some (false,())
abbrev zrN:Fun:=⟨184,(ch [zL]),(ch [.bool]),0,zhy⟩
theorem zBT:Sq zrN:=ms4 (d:=false) (K:=0) Tryz.func184 (by kernel_rfl) (funext fun (x0,())=>by kernel_rfl)
def zjb:(qw × Unit)→Option (Bool × Unit):=fun (x0,()) =>
  bif x0.1 then Option.bind (zjY (x0,())) fun q0=>bif q0.1 then Option.bind (zku (x0.2.2.2.2.1,())) fun q1=>bif q1.1 then some (false,()) else some (true,()) else some (true,()) else bif !eqI qh x0 (zb qh) then some (true,()) else some (false,())
abbrev ztC:Fun:=⟨186,(ch [qh]),(ch [.bool]),0,zjb⟩
theorem zEe:Sq ztC:=ms4 (d:=false) (K:=0) Tryz.func186 (by kernel_rfl) (funext fun (x0,())=>by kernel_rfl)
def zhz:((List zt) × Unit)→Option (Bool × Unit):=fun (x0,()) =>
  Option.bind (jc (x0,some zfl,())) fun q0=>bif q0.1 then some (false,()) else some (true,())
abbrev zrO:Fun:=⟨88,(ch [(.sl zz)]),(ch [.bool]),0,zhz⟩
theorem zBU:Sq zrO:=ms4 (d:=false) (K:=0) Tryz.func88 (by kernel_rfl) (funext fun (x0,())=>by kernel_rfl)
abbrev zdU:Type:=Int × (List zn) × Int × Int × List (Int × Int)
abbrev zz6:zdU→St:=fun (v4,v8,v9,v10,o0)=>St.mk [(3,.om 0),(4,.dat tI v4),(8,.dat (.sl zr) v8),(9,.dat tI v9),(10,.dat tI v10)] [.mp tI tI o0]
def zdV (k0:zdU→Option (Bool × Unit)):zdU→Option (Bool × Unit):=fun (v4,v8,v9,v10,o0) =>
  bif decide (v10 < v9) then inR v10 ((List.length v8):Int) (bif (ix zH v8 v10).1 then Option.bind (zl0 (ix zH v8 v10,())) fun q0=>bif q0.1 then bif (ix zH v8 v10).1 then bif (ix zH v8 v10).1 then k0 (wI (v4 + 1),v8,v9,wI (v10 + 1),jG tI o0 (ix zH v8 v10).2.2.2.2.2.2.2.2.2.1 (wI (zan tI (0:Int) o0 (ix zH v8 v10).2.2.2.2.2.2.2.2.2.1 + 1))) else k0 (v4,v8,v9,wI (v10 + 1),o0) else bif !eqI zr (ix zH v8 v10) (zb zr) then some (false,()) else bif (ix zH v8 v10).1 then k0 (wI (v4 + 1),v8,v9,wI (v10 + 1),jG tI o0 (ix zH v8 v10).2.2.2.2.2.2.2.2.2.1 (wI (zan tI (0:Int) o0 (ix zH v8 v10).2.2.2.2.2.2.2.2.2.1 + 1))) else k0 (v4,v8,v9,wI (v10 + 1),o0) else some (false,()) else bif (ix zH v8 v10).1 then bif (ix zH v8 v10).1 then k0 (wI (v4 + 1),v8,v9,wI (v10 + 1),jG tI o0 (ix zH v8 v10).2.2.2.2.2.2.2.2.2.1 (wI (zan tI (0:Int) o0 (ix zH v8 v10).2.2.2.2.2.2.2.2.2.1 + 1))) else k0 (v4,v8,v9,wI (v10 + 1),o0) else bif !eqI zr (ix zH v8 v10) (zb zr) then some (false,()) else bif (ix zH v8 v10).1 then k0 (wI (v4 + 1),v8,v9,wI (v10 + 1),jG tI o0 (ix zH v8 v10).2.2.2.2.2.2.2.2.2.1 (wI (zan tI (0:Int) o0 (ix zH v8 v10).2.2.2.2.2.2.2.2.2.1 + 1))) else k0 (v4,v8,v9,wI (v10 + 1),o0)) else bif ((List.length o0):Int) == v4 then some (true,()) else some (false,())
abbrev zp3 (K:Nat):zdU→Option (Bool × Unit):=zg zdV K
theorem zz7 (K:Nat):∀ n,evV Es4 K Tryz.f90 0 (ch [.bool]) [1,1,1,0,1,0] [] zz6 n = zg zdV n:=zo fun n0 (v4,v8,v9,v10,o0)=>by kernel_rfl
def zm0 (L0:zdU→Option (Bool × Unit)):((List zn) × Unit)→Option (Bool × Unit):=fun (x0,()) =>
  L0 (0,x0,((List.length x0):Int),0,[])
def zm1:((List zn) × Unit)→Option (Bool × Unit):=zm0 (zp3 K0)
abbrev ztD:Fun:=⟨90,(ch [(.sl zr)]),(ch [.bool]),0,zm1⟩
theorem zEf:Sq ztD:=ml4 (d:=false) (S:=fun K=>zm0 (zp3 K)) Tryz.func90 (by kernel_rfl) (fun K=>tr1 (T:=zm0) (zz7 K K) fun (x0,())=>by kernel_rfl) rfl
abbrev zco:Type:=(List zI) × (List zI) × Int × Int
abbrev zyq:zco→St:=fun (v0,v5,v6,v7)=>St.mk [(0,.dat (.sl zy) v0),(5,.dat (.sl zy) v5),(6,.dat tI v6),(7,.dat tI v7)] []
def zcp (k0:zco→Option (Bool × Unit)):zco→Option (Bool × Unit):=fun (v0,v5,v6,v7) =>
  bif decide (v7 < v6) then inR v7 ((List.length v5):Int) (Option.bind (zkv (ix zah v5 v7,())) fun q0=>bif q0.1 then bif decide (v7 > 0) then inR (wI (v7 - 1)) ((List.length v0):Int) (Option.bind (zhu (List.getD v0 (Int.toNat (wI (v7 - 1))) (zb zy),ix zah v5 v7,())) fun q1=>bif decide (q1.1 ≥ 0) then some (false,()) else k0 (v0,v5,v6,wI (v7 + 1))) else k0 (v0,v5,v6,wI (v7 + 1)) else some (false,())) else some (true,())
abbrev zod (K:Nat):zco→Option (Bool × Unit):=zg zcp K
theorem zyr (K:Nat):∀ n,evV Es4 K Tryz.f91 0 (ch [.bool]) [1,0,1,0] [] zyq n = zg zcp n:=zo fun n0 (v0,v5,v6,v7)=>by kernel_rfl
def zln (L0:zco→Option (Bool × Unit)):((List zI) × Unit)→Option (Bool × Unit):=fun (x0,()) =>
  L0 (x0,x0,((List.length x0):Int),0)
def zlo:((List zI) × Unit)→Option (Bool × Unit):=zln (zod K0)
abbrev zrP:Fun:=⟨91,(ch [(.sl zy)]),(ch [.bool]),0,zlo⟩
theorem zBV:Sq zrP:=ml4 (d:=false) (S:=fun K=>zln (zod K)) Tryz.func91 (by kernel_rfl) (fun K=>tr1 (T:=zln) (zyr K K) fun (x0,())=>by kernel_rfl) rfl
abbrev zcq:Type:=(List zk) × Int × Int × qT
abbrev zys:zcq→St:=fun (v10,v11,v12,o0)=>St.mk [(1,.bp 0 []),(10,.dat (.sl zm) v10),(11,.dat tI v11),(12,.dat tI v12)] [.bx (.dat qk o0) false]
def zcr (k0:zcq→Option (Bool × Unit)):zcq→Option (Bool × Unit):=fun (v10,v11,v12,o0) =>
  bif decide (v12 < v11) then inR v12 ((List.length v10):Int) (Option.bind (zlh (o0,v12,())) fun q0=>Option.bind (zhV ((ix za v10 v12).2.1,some fun z=>zff (z.1,some q0.1,()),())) fun q1=>bif q1.1 then Option.bind (yB ((ix za v10 v12).2.2.1,some fun z=>zbK (z.1,some q0.1,()),())) fun q2=>bif q2.1 then Option.bind (zi2 ((ix za v10 v12).2.2.2.2.2.2.1,q0.1,())) fun q3=>bif q3.1 then k0 (v10,v11,wI (v12 + 1),o0) else some (false,()) else some (false,()) else Option.bind (yB ((ix za v10 v12).2.2.1,some fun z=>zbK (z.1,some q0.1,()),())) fun q4=>bif q4.1 then some (false,()) else some (false,())) else some (true,())
abbrev zoe (K:Nat):zcq→Option (Bool × Unit):=zg zcr K
theorem zyt (K:Nat):∀ n,evV Es4 K Tryz.f37 0 (ch [.bool]) [1,0,1,0] [] zys n = zg zcr n:=zo fun n0 (v10,v11,v12,o0)=>by kernel_rfl
def zlp (L0:zcq→Option (Bool × Unit)):(qT × Unit)→Option (Bool × Unit):=fun (x0,()) =>
  L0 (x0.2.1.2.1,((List.length x0.2.1.2.1):Int),0,x0)
def zeP:(qT × Unit)→Option (Bool × Unit):=zlp (zoe K0)
abbrev zrQ:Fun:=⟨37,(ch [qk]),(ch [.bool]),0,zeP⟩
theorem zBW:Sq zrQ:=ml4 (d:=false) (S:=fun K=>zlp (zoe K)) Tryz.func37 (by kernel_rfl) (fun K=>tr1 (T:=zlp) (zyt K K) fun (x0,())=>by kernel_rfl) rfl
abbrev zeQ:Type:=(List zn) × Int × (List Int) × Int × Int × List Int
abbrev zBX:zeQ→St:=fun (v0,v1,v13,v14,v15,o0)=>St.mk [(0,.dat (.sl zr) v0),(1,.dat tI v1),(6,.ow 0),(13,.dat (.sl tI) v13),(14,.dat tI v14),(15,.dat tI v15)] [.row tU o0 false]
def zeR (k0:zeQ→Option (Int × (Int × Unit))):zeQ→Option (Int × (Int × Unit)):=fun (v0,v1,v13,v14,v15,o0) =>
  bif decide (v15 < v14) then inR v15 ((List.length v13):Int) (inR (ix (0:Int) v13 v15) ((List.length v0):Int) (Option.bind (zhk (List.getD v0 (Int.toNat (ix (0:Int) v13 v15)) (zb zr),())) fun q2=>bif q2.1 == v1 then inR (ix (0:Int) v13 v15) ((List.length v0):Int) (bif decide (List.length o0 + List.length (zi (List.replicate 1 (0:Int)) 0 (List.getD v0 (Int.toNat (ix (0:Int) v13 v15)) (zb zr)).2.2.2.2.2.2.2.2.1) ≤ lim) then k0 (v0,v1,v13,v14,wI (v15 + 1),o0 ++ zi (List.replicate 1 (0:Int)) 0 (List.getD v0 (Int.toNat (ix (0:Int) v13 v15)) (zb zr)).2.2.2.2.2.2.2.2.1) else none) else k0 (v0,v1,v13,v14,wI (v15 + 1),o0))) else Option.bind (zgd (o0,())) fun q3=>some (q3.1,q3.2.1,())
abbrev zrR (K:Nat):zeQ→Option (Int × (Int × Unit)):=zg zeR K
theorem zBY (K:Nat):∀ n,evV Es4 K Tryz.f42 0 (ch [tU,tI]) [1,1,1,0,1,0] [] zBX n = zg zeR n:=zo fun n0 (v0,v1,v13,v14,v15,o0)=>by kernel_rfl
def zkw (L0:zeQ→Option (Int × (Int × Unit))):((List zn) × (Int × Unit))→Option (Int × (Int × Unit)):=fun (x0,x1,()) =>
  Option.bind (qU (x1,())) fun q0=>bif q0.1 then Option.bind (zi6 (x0,())) fun q1=>L0 (x0,x1,q1.1,((List.length q1.1):Int),0,[]) else some (0,1,())
def zkx:((List zn) × Int × Unit)→Option (Int × Int × Unit):=zkw (zrR K0)
abbrev zvj:Fun:=⟨42,(ch [(.sl zr),tI]),(ch [tU,tI]),0,zkx⟩
theorem zFX:Sq zvj:=ml4 (d:=false) (S:=fun K=>zkw (zrR K)) Tryz.func42 (by kernel_rfl) (fun K=>tr1 (T:=zkw) (zBY K K) fun (x0,x1,())=>by kernel_rfl) rfl
abbrev za4:Type:=Int × zf × ze
abbrev zm2:za4→St:=fun (v9,o0,o1)=>St.mk [(2,.bp 0 []),(3,.bp 1 []),(9,.dat tI v9)] [.bx (.dat zu o0) false,.bx (.dat zq o1) false]
abbrev za5:Type:=Int × zf × ze
abbrev zm3:za5→St:=fun (v7,o0,o1)=>St.mk [(2,.bp 0 []),(3,.bp 1 []),(7,.dat tI v7)] [.bx (.dat zu o0) false,.bx (.dat zq o1) false]
abbrev za6:Type:=Int × zf × ze
abbrev zww:za6→St:=fun (v5,o0,o1)=>St.mk [(2,.bp 0 []),(3,.bp 1 []),(5,.dat tI v5)] [.bx (.dat zu o0) false,.bx (.dat zq o1) false]
def zeB (k2:za4→Option (Bool × Unit)):za4→Option (Bool × Unit):=fun (v9,o0,o1) =>
  bif decide (v9 < ((List.length o1.2.2.2.2.2.1):Int)) then inR v9 ((List.length o1.2.2.2.2.2.1):Int) (bif ix (0:Int) o1.2.2.2.2.2.1 v9 != -1 then inR v9 ((List.length o1.2.2.2.2.2.1):Int) (Option.bind (ve (o0,ix (0:Int) o1.2.2.2.2.2.1 v9,())) fun q6=>bif q6.1 then k2 (wI (v9 + 1),o0,o1) else some (false,())) else k2 (wI (v9 + 1),o0,o1)) else some (true,())
abbrev za7 (K:Nat):za4→Option (Bool × Unit):=zg zeB K
theorem zwx (K:Nat):∀ n,evV Es4 K Tryz.f30 0 (ch [.bool]) [1,1,1,1,0,1,0] [] zm2 n = zg zeB n:=zo fun n2 (v9,o0,o1)=>by kernel_rfl
def za8 (L2:za4→Option (Bool × Unit)) (k1:za5→Option (Bool × Unit)):za5→Option (Bool × Unit):=fun (v7,o0,o1) =>
  bif decide (v7 < ((List.length o1.2.2.2.2.1):Int)) then inR v7 ((List.length o1.2.2.2.2.1):Int) (bif decide ((ix zah o1.2.2.2.2.1 v7).2.1 ≥ ((List.length o0.2.1):Int)) then some (false,()) else inR (ix zah o1.2.2.2.2.1 v7).2.1 ((List.length o0.2.1):Int) (bif (ix zah o1.2.2.2.2.1 v7).2.2.1 != List.getD o0.2.1 (Int.toNat (ix zah o1.2.2.2.2.1 v7).2.1) (0:Int) then some (false,()) else Option.bind (ve (o0,(ix zah o1.2.2.2.2.1 v7).2.2.2.1,())) fun q5=>bif q5.1 then bif decide ((ix zah o1.2.2.2.2.1 v7).1 > o1.1) then some (false,()) else k1 (wI (v7 + 1),o0,o1) else some (false,()))) else L2 (0,o0,o1)
abbrev za9 (K:Nat):za5→Option (Bool × Unit):=zg (fun k1=>za8 (za7 K) k1) K
theorem zwy (K:Nat):∀ n,evV Es4 K Tryz.f30 0 (ch [.bool]) [1,1,1,0,1,0] [] zm3 n = zg (fun k1=>za8 (za7 K) k1) n:=qJ (B:=fun L2 k1=>za8 L2 k1) (V1:=fun n1=>evV Es4 K Tryz.f30 0 (ch [.bool]) [1,1,1,1,0,1,0] [] zm2 K) (W1:=fun k1=>(za7 K)) (fun n1=>zwx K K) fun n1 (v7,o0,o1)=>by kernel_rfl
def zba (L1:za5→Option (Bool × Unit)) (k0:za6→Option (Bool × Unit)):za6→Option (Bool × Unit):=fun (v5,o0,o1) =>
  bif decide (v5 < ((List.length o1.2.2.2.1):Int)) then inR v5 ((List.length o1.2.2.2.1):Int) (bif (ix zH o1.2.2.2.1 v5).1 then bif decide ((ix zH o1.2.2.2.1 v5).2.1 ≥ ((List.length o0.1):Int)) then some (false,()) else Option.bind (ve (o0,(ix zH o1.2.2.2.1 v5).2.2.1,())) fun q4=>bif q4.1 then bif decide ((ix zH o1.2.2.2.1 v5).2.2.2.2.2.2.2.2.2.1 ≥ ((List.length o1.2.2.2.2.1):Int)) then some (false,()) else k0 (wI (v5 + 1),o0,o1) else some (false,()) else k0 (wI (v5 + 1),o0,o1)) else L1 (0,o0,o1)
abbrev zhX (K:Nat):za6→Option (Bool × Unit):=zg (fun k0=>zba (za9 K) k0) K
theorem zwz (K:Nat):∀ n,evV Es4 K Tryz.f30 0 (ch [.bool]) [1,1,0,1,0] [] zww n = zg (fun k0=>zba (za9 K) k0) n:=qJ (B:=fun L1 k0=>zba L1 k0) (V1:=fun n0=>evV Es4 K Tryz.f30 0 (ch [.bool]) [1,1,1,0,1,0] [] zm3 K) (W1:=fun k0=>(za9 K)) (fun n0=>zwy K K) fun n0 (v5,o0,o1)=>by kernel_rfl
def zgn (L0:za6→Option (Bool × Unit)):(zf × (ze × Unit))→Option (Bool × Unit):=fun (x0,x1,()) =>
  Option.bind (zhx (x0,x1.2.2.1,())) fun q0=>bif q0.1 then Option.bind (zlk (x1.2.2.2.1,())) fun q1=>bif q1.1 then Option.bind (zlm (x1.2.2.2.2.1,())) fun q2=>bif q2.1 then Option.bind (zeI (x1,zb zY,())) fun q3=>bif q3.1 then L0 (0,x0,x1) else some (false,()) else some (false,()) else some (false,()) else some (false,())
def zgo:(zf × ze × Unit)→Option (Bool × Unit):=zgn (zhX K0)
abbrev zp4:Fun:=⟨30,(ch [zu,zq]),(ch [.bool]),0,zgo⟩
theorem zz8:Sq zp4:=ml4 (d:=false) (S:=fun K=>zgn (zhX K)) Tryz.func30 (by kernel_rfl) (fun K=>tr1 (T:=zgn) (zwz K K) fun (x0,x1,())=>by kernel_rfl) rfl
def zjc:(zf × (ze × (Int × (Int × Unit))))→Option (Bool × Unit):=fun (x0,x1,x2,x3,()) =>
  inR x2 ((List.length x1.2.1):Int) (inR x3 ((List.length (ix za x1.2.1 x2).2.2.1):Int) (bif (List.getD (ix za x1.2.1 x2).2.2.1 (Int.toNat x3) (zb zL)).1 then bif (List.getD (ix za x1.2.1 x2).2.2.1 (Int.toNat x3) (zb zL)).2.2.1 == 1 then Option.bind (ve (x0,(List.getD (ix za x1.2.1 x2).2.2.1 (Int.toNat x3) (zb zL)).2.2.2.1,())) fun q0=>bif q0.1 then some (true,()) else some (false,()) else bif (List.getD (ix za x1.2.1 x2).2.2.1 (Int.toNat x3) (zb zL)).2.2.1 == 2 then Option.bind (zab (x0,x1,(List.getD (ix za x1.2.1 x2).2.2.1 (Int.toNat x3) (zb zL)).2.2.2.2.1,x2,())) fun q1=>bif q1.1 then some (true,()) else some (false,()) else bif decide ((List.getD (ix za x1.2.1 x2).2.2.1 (Int.toNat x3) (zb zL)).2.2.2.1 < ((List.length (ix za x1.2.1 x2).2.2.2.2.1):Int)) then inR (List.getD (ix za x1.2.1 x2).2.2.1 (Int.toNat x3) (zb zL)).2.2.2.1 ((List.length (ix za x1.2.1 x2).2.2.2.2.1):Int) (bif (List.getD (ix za x1.2.1 x2).2.2.2.2.1 (Int.toNat (List.getD (ix za x1.2.1 x2).2.2.1 (Int.toNat x3) (zb zL)).2.2.2.1) (zb zz)).1 then inR (List.getD (ix za x1.2.1 x2).2.2.1 (Int.toNat x3) (zb zL)).2.2.2.1 ((List.length (ix za x1.2.1 x2).2.2.2.2.1):Int) (bif (List.getD (ix za x1.2.1 x2).2.2.2.2.1 (Int.toNat (List.getD (ix za x1.2.1 x2).2.2.1 (Int.toNat x3) (zb zL)).2.2.2.1) (zb zz)).2.2.2.1.2.2.1 == x3 then some (true,()) else some (false,())) else some (false,())) else some (false,()) else some (true,())))
abbrev ztE:Fun:=⟨75,(ch [zu,zq,tI,tI]),(ch [.bool]),0,zjc⟩
theorem zEg:Sq ztE:=ms4 (d:=false) (K:=0) Tryz.func75 (by kernel_rfl) (funext fun (x0,x1,x2,x3,())=>by kernel_rfl)
abbrev L5:List Fun:=zkU :: zp2 :: zrN :: ztC :: zrO :: ztD :: zrP :: zrQ :: zvj :: zp4 :: ztE :: L4
theorem h5:Sds Tryz.prog E0 L5:=⟨ztB,zz5,zBT,zEe,zBU,zEf,zBV,zBW,zFX,zz8,zEg,h4⟩
theorem ms5 {d:Bool} {F:Fun} {f:Go.Func} {K:Nat} (hf:Tryz.prog.funcs[F.id]? = some f) (ho:jY f = true) (h:evF (En E0 d L5) K f F.md F.a F.r = F.spec):Sd Tryz.prog E0 F:=mkS h5 hf ho h
theorem ml5 {d:Bool} {F:Fun} {f:Go.Func} {S:Nat→F.a.I→Option F.r.I} (hf:Tryz.prog.funcs[F.id]? = some f) (ho:jY f = true) (h:∀ K,evF (En E0 d L5) K f F.md F.a F.r = S K) (e:S K0 = F.spec):Sd Tryz.prog E0 F:=mkS h5 hf ho ((h K0).trans e)
abbrev Es5:Env:=En E0 false L5
def jM:(zf × Unit)→Option (Bool × Unit):=fun (x0,()) =>
  Option.bind (qn (((List.length x0.2.2.1):Int),1,8,())) fun q0=>bif q0.1 then Option.bind (zau (x0.2.2.1,some zcn,())) fun q1=>bif q1.1 then some (false,()) else Option.bind (zgH (x0,())) fun q2=>Option.bind (zmt (q2.1,())) fun q3=>bif q3.1 then some (true,()) else some (false,()) else some (false,())
abbrev zm4:Fun:=⟨153,(ch [zu]),(ch [.bool]),0,jM⟩
theorem zwA:Sq zm4:=ms5 (d:=false) (K:=0) Tryz.func153 (by kernel_rfl) (funext fun (x0,())=>by kernel_rfl)
def zjd:((List jD) × Unit)→Option (Bool × Unit):=fun (x0,()) =>
  Option.bind (zdc (x0,some zgm,())) fun q0=>bif q0.1 then some (false,()) else some (true,())
abbrev ztF:Fun:=⟨84,(ch [(.sl qC)]),(ch [.bool]),0,zjd⟩
theorem zEh:Sq ztF:=ms5 (d:=false) (K:=0) Tryz.func84 (by kernel_rfl) (funext fun (x0,())=>by kernel_rfl)
def zhA:((List qj) × Unit)→Option (Bool × Unit):=fun (x0,()) =>
  Option.bind (jo (x0,some zhy,())) fun q0=>bif q0.1 then some (false,()) else some (true,())
abbrev zrS:Fun:=⟨86,(ch [(.sl zL)]),(ch [.bool]),0,zhA⟩
theorem zBZ:Sq zrS:=ms5 (d:=false) (K:=0) Tryz.func86 (by kernel_rfl) (funext fun (x0,())=>by kernel_rfl)
def zje:((List qw) × Unit)→Option (Bool × Unit):=fun (x0,()) =>
  Option.bind (jp (x0,some zjb,())) fun q0=>bif q0.1 then some (false,()) else some (true,())
abbrev ztG:Fun:=⟨87,(ch [(.sl qh)]),(ch [.bool]),0,zje⟩
theorem zEi:Sq ztG:=ms5 (d:=false) (K:=0) Tryz.func87 (by kernel_rfl) (funext fun (x0,())=>by kernel_rfl)
abbrev zdW:Type:=Int × (List zk) × Int × Int × (List (List Int)) × Int × Int × List Int
abbrev zp5:zdW→St:=fun (v1,v31,v32,v33,v52,v53,v54,o0)=>St.mk [(1,.dat tI v1),(8,.ow 0),(31,.dat (.sl zm) v31),(32,.dat tI v32),(33,.dat tI v33),(52,.dat (.sl (.arr 4 tU)) v52),(53,.dat tI v53),(54,.dat tI v54)] [.row tU o0 false]
abbrev yE:Type:=Int × (List zk) × Int × Int × List Int
abbrev zp6:yE→St:=fun (v1,v31,v32,v33,o0)=>St.mk [(1,.dat tI v1),(8,.ow 0),(31,.dat (.sl zm) v31),(32,.dat tI v32),(33,.dat tI v33)] [.row tU o0 false]
def zdX (k0:yE→Option (Int × (Int × Unit))) (k1:zdW→Option (Int × (Int × Unit))):zdW→Option (Int × (Int × Unit)):=fun (v1,v31,v32,v33,v52,v53,v54,o0) =>
  bif decide (v54 < v53) then inR v54 ((List.length v52):Int) (inR v1 (↑4:Int) (bif decide (List.length o0 + List.length (zi (List.replicate 1 (0:Int)) 0 (List.getD (List.getD v52 (Int.toNat v54) (zb (.arr 4 tU))) (Int.toNat v1) (0:Int))) ≤ lim) then k1 (v1,v31,v32,v33,v52,v53,wI (v54 + 1),o0 ++ zi (List.replicate 1 (0:Int)) 0 (List.getD (List.getD v52 (Int.toNat v54) (zb (.arr 4 tU))) (Int.toNat v1) (0:Int))) else none)) else k0 (v1,v31,v32,wI (v33 + 1),o0)
abbrev zdY (K:Nat) (k0:yE→Option (Int × (Int × Unit))):zdW→Option (Int × (Int × Unit)):=zg (fun k1=>zdX k0 k1) K
theorem zz9 (K:Nat) (n0:Nat):∀ n,evV Es5 K Tryz.f13 0 (ch [tU,tI]) [1,1,1,1,1,0,1,0,0,1,1,0,0,1,1,1,1,1,0] [n0] zp5 n = zg (fun k1=>zdX (evV Es5 K Tryz.f13 0 (ch [tU,tI]) [1,1,1,1,1,0,1,0] [] zp6 n0) k1) n:=zo fun n1 (v1,v31,v32,v33,v52,v53,v54,o0)=>by kernel_rfl
def zaH (L1:zdW→Option (Int × (Int × Unit))) (k0:yE→Option (Int × (Int × Unit))):yE→Option (Int × (Int × Unit)):=fun (v1,v31,v32,v33,o0) =>
  bif decide (v33 < v32) then inR v33 ((List.length v31):Int) (Option.bind (zi8 ((ix za v31 v33).2.2.2.2.1,v1,())) fun q2=>bif q2.2.1 != 0 then some (0,q2.2.1,()) else bif decide (List.length o0 + List.length (zi (List.replicate 1 (0:Int)) 0 q2.1) ≤ lim) then L1 (v1,v31,v32,v33,(ix za v31 v33).2.2.2.2.2.1,((List.length (ix za v31 v33).2.2.2.2.2.1):Int),0,o0 ++ zi (List.replicate 1 (0:Int)) 0 q2.1) else none) else Option.bind (zgd (o0,())) fun q3=>some (q3.1,q3.2.1,())
abbrev zp7 (K:Nat):yE→Option (Int × (Int × Unit)):=zg (fun k0=>zaH (zdY K k0) k0) K
theorem zAa (K:Nat):∀ n,evV Es5 K Tryz.f13 0 (ch [tU,tI]) [1,1,1,1,1,0,1,0] [] zp6 n = zg (fun k0=>zaH (zdY K k0) k0) n:=qJ (B:=fun L1 k0=>zaH L1 k0) (V1:=fun n0=>evV Es5 K Tryz.f13 0 (ch [tU,tI]) [1,1,1,1,1,0,1,0,0,1,1,0,0,1,1,1,1,1,0] [n0] zp5 K) (W1:=fun k0=>(zdY K k0)) (fun n0=>zz9 K n0 K) fun n0 (v1,v31,v32,v33,o0)=>by kernel_rfl
def zjf (L0:yE→Option (Int × (Int × Unit))):(ze × (Int × Unit))→Option (Int × (Int × Unit)):=fun (x0,x1,()) =>
  Option.bind (qU (x1,())) fun q0=>bif q0.1 then Option.bind (zkx (x0.2.2.2.1,x1,())) fun q1=>bif q1.2.1 != 0 then some (0,q1.2.1,()) else L0 (x1,x0.2.1,((List.length x0.2.1):Int),0,[q1.1]) else some (0,1,())
def zjg:(ze × Int × Unit)→Option (Int × Int × Unit):=zjf (zp7 K0)
abbrev ztH:Fun:=⟨13,(ch [zq,tI]),(ch [tU,tI]),0,zjg⟩
theorem zEj:Sq ztH:=ml5 (d:=false) (S:=fun K=>zjf (zp7 K)) Tryz.func13 (by kernel_rfl) (fun K=>tr1 (T:=zjf) (zAa K K) fun (x0,x1,())=>by kernel_rfl) rfl
abbrev zcs:Type:=Int × Int × zf × ze × zk
abbrev zof:zcs→St:=fun (v2,v14,o0,o1,o2)=>St.mk [(2,.dat tI v2),(3,.bp 0 []),(4,.bp 1 []),(7,.bp 2 []),(14,.dat tI v14)] [.bx (.dat zu o0) false,.bx (.dat zq o1) false,.bx (.dat zm o2) false]
abbrev zct:Type:=Int × Int × zf × ze × zk
abbrev zog:zct→St:=fun (v2,v12,o0,o1,o2)=>St.mk [(2,.dat tI v2),(3,.bp 0 []),(4,.bp 1 []),(7,.bp 2 []),(12,.dat tI v12)] [.bx (.dat zu o0) false,.bx (.dat zq o1) false,.bx (.dat zm o2) false]
abbrev zcu:Type:=Int × Int × zf × ze × zk
abbrev zoh:zcu→St:=fun (v2,v11,o0,o1,o2)=>St.mk [(2,.dat tI v2),(3,.bp 0 []),(4,.bp 1 []),(7,.bp 2 []),(11,.dat tI v11)] [.bx (.dat zu o0) false,.bx (.dat zq o1) false,.bx (.dat zm o2) false]
abbrev zcv:Type:=Int × Int × zf × ze × zk
abbrev zoi:zcv→St:=fun (v2,v10,o0,o1,o2)=>St.mk [(2,.dat tI v2),(3,.bp 0 []),(4,.bp 1 []),(7,.bp 2 []),(10,.dat tI v10)] [.bx (.dat zu o0) false,.bx (.dat zq o1) false,.bx (.dat zm o2) false]
abbrev zcw:Type:=Int × Int × zf × ze × zk
abbrev zyu:zcw→St:=fun (v2,v8,o0,o1,o2)=>St.mk [(2,.dat tI v2),(3,.bp 0 []),(4,.bp 1 []),(7,.bp 2 []),(8,.dat tI v8)] [.bx (.dat zu o0) false,.bx (.dat zq o1) false,.bx (.dat zm o2) false]
def zfo (k4:zcs→Option (Bool × Unit)):zcs→Option (Bool × Unit):=fun (v2,v14,o0,o1,o2) =>
  bif decide (v14 < ((List.length o2.2.2.2.2.2.2.1):Int)) then inR v14 ((List.length o2.2.2.2.2.2.2.1):Int) (Option.bind (zab (o0,o1,ix zKX o2.2.2.2.2.2.2.1 v14,v2,())) fun q12=>bif q12.1 then k4 (v2,wI (v14 + 1),o0,o1,o2) else some (false,())) else some (true,())
abbrev zcx (K:Nat):zcs→Option (Bool × Unit):=zg zfo K
theorem zyv (K:Nat):∀ n,evV Es5 K Tryz.f31 0 (ch [.bool]) [1,1,1,1,1,1,1,0,1,0] [] zof n = zg zfo n:=zo fun n4 (v2,v14,o0,o1,o2)=>by kernel_rfl
def zcy (L4:zcs→Option (Bool × Unit)) (k3:zct→Option (Bool × Unit)):zct→Option (Bool × Unit):=fun (v2,v12,o0,o1,o2) =>
  bif decide (v12 < ((List.length o2.2.2.2.1):Int)) then inR v12 ((List.length o2.2.2.2.1):Int) (bif (ix zdk o2.2.2.2.1 v12).1 then Option.bind (zha (o0,(ix zdk o2.2.2.2.1 v12).2.1,v2,())) fun q9=>bif q9.1 then Option.bind (ve (o0,(ix zdk o2.2.2.2.1 v12).2.2.1,())) fun q10=>bif q10.1 then Option.bind (ve (o0,(ix zdk o2.2.2.2.1 v12).2.2.2.1,())) fun q11=>bif q11.1 then k3 (v2,wI (v12 + 1),o0,o1,o2) else some (false,()) else some (false,()) else some (false,()) else k3 (v2,wI (v12 + 1),o0,o1,o2)) else L4 (v2,0,o0,o1,o2)
abbrev zcz (K:Nat):zct→Option (Bool × Unit):=zg (fun k3=>zcy (zcx K) k3) K
theorem zyw (K:Nat):∀ n,evV Es5 K Tryz.f31 0 (ch [.bool]) [1,1,1,1,1,1,0,1,0] [] zog n = zg (fun k3=>zcy (zcx K) k3) n:=qJ (B:=fun L4 k3=>zcy L4 k3) (V1:=fun n3=>evV Es5 K Tryz.f31 0 (ch [.bool]) [1,1,1,1,1,1,1,0,1,0] [] zof K) (W1:=fun k3=>(zcx K)) (fun n3=>zyv K K) fun n3 (v2,v12,o0,o1,o2)=>by kernel_rfl
def zcA (L3:zct→Option (Bool × Unit)) (k2:zcu→Option (Bool × Unit)):zcu→Option (Bool × Unit):=fun (v2,v11,o0,o1,o2) =>
  bif decide (v11 < ((List.length o2.2.2.2.2.1):Int)) then Option.bind (ziV (o0,o2,v11,())) fun q8=>bif q8.1 then k2 (v2,wI (v11 + 1),o0,o1,o2) else some (false,()) else L3 (v2,0,o0,o1,o2)
abbrev zcC (K:Nat):zcu→Option (Bool × Unit):=zg (fun k2=>zcA (zcz K) k2) K
theorem zyx (K:Nat):∀ n,evV Es5 K Tryz.f31 0 (ch [.bool]) [1,1,1,1,1,0,1,0] [] zoh n = zg (fun k2=>zcA (zcz K) k2) n:=qJ (B:=fun L3 k2=>zcA L3 k2) (V1:=fun n2=>evV Es5 K Tryz.f31 0 (ch [.bool]) [1,1,1,1,1,1,0,1,0] [] zog K) (W1:=fun k2=>(zcz K)) (fun n2=>zyw K K) fun n2 (v2,v11,o0,o1,o2)=>by kernel_rfl
def zcD (L2:zcu→Option (Bool × Unit)) (k1:zcv→Option (Bool × Unit)):zcv→Option (Bool × Unit):=fun (v2,v10,o0,o1,o2) =>
  bif decide (v10 < ((List.length o2.2.2.1):Int)) then Option.bind (zjc (o0,o1,v2,v10,())) fun q7=>bif q7.1 then k1 (v2,wI (v10 + 1),o0,o1,o2) else some (false,()) else L2 (v2,0,o0,o1,o2)
abbrev zcE (K:Nat):zcv→Option (Bool × Unit):=zg (fun k1=>zcD (zcC K) k1) K
theorem zyy (K:Nat):∀ n,evV Es5 K Tryz.f31 0 (ch [.bool]) [1,1,1,1,0,1,0] [] zoi n = zg (fun k1=>zcD (zcC K) k1) n:=qJ (B:=fun L2 k1=>zcD L2 k1) (V1:=fun n1=>evV Es5 K Tryz.f31 0 (ch [.bool]) [1,1,1,1,1,0,1,0] [] zoh K) (W1:=fun k1=>(zcC K)) (fun n1=>zyx K K) fun n1 (v2,v10,o0,o1,o2)=>by kernel_rfl
def zcF (L1:zcv→Option (Bool × Unit)) (k0:zcw→Option (Bool × Unit)):zcw→Option (Bool × Unit):=fun (v2,v8,o0,o1,o2) =>
  bif decide (v8 < ((List.length o2.2.1):Int)) then inR v8 ((List.length o2.2.1):Int) (bif (ix qg o2.2.1 v8).1 then Option.bind (zab (o0,o1,(ix qg o2.2.1 v8).2.1,v2,())) fun q5=>bif q5.1 then Option.bind (zab (o0,o1,(ix qg o2.2.1 v8).2.2.1,v2,())) fun q6=>bif q6.1 then k0 (v2,wI (v8 + 1),o0,o1,o2) else some (false,()) else some (false,()) else k0 (v2,wI (v8 + 1),o0,o1,o2)) else L1 (v2,0,o0,o1,o2)
abbrev zjh (K:Nat):zcw→Option (Bool × Unit):=zg (fun k0=>zcF (zcE K) k0) K
theorem zyz (K:Nat):∀ n,evV Es5 K Tryz.f31 0 (ch [.bool]) [1,1,1,0,1,0] [] zyu n = zg (fun k0=>zcF (zcE K) k0) n:=qJ (B:=fun L1 k0=>zcF L1 k0) (V1:=fun n0=>evV Es5 K Tryz.f31 0 (ch [.bool]) [1,1,1,1,0,1,0] [] zoi K) (W1:=fun k0=>(zcE K)) (fun n0=>zyy K K) fun n0 (v2,v8,o0,o1,o2)=>by kernel_rfl
def zhB (L0:zcw→Option (Bool × Unit)):(zf × (ze × (Int × Unit)))→Option (Bool × Unit):=fun (x0,x1,x2,()) =>
  inR x2 ((List.length x1.2.1):Int) (Option.bind (zk8 ((ix za x1.2.1 x2).1,())) fun q0=>bif q0.1 then Option.bind (zla ((ix za x1.2.1 x2).2.1,())) fun q1=>bif q1.1 then Option.bind (zlc ((ix za x1.2.1 x2).2.2.1,())) fun q2=>bif q2.1 then Option.bind (zle ((ix za x1.2.1 x2).2.2.2.1,())) fun q3=>bif q3.1 then Option.bind (zlg ((ix za x1.2.1 x2).2.2.2.2.1,())) fun q4=>bif q4.1 then L0 (x2,0,x0,x1,ix za x1.2.1 x2) else some (false,()) else some (false,()) else some (false,()) else some (false,()) else some (false,()))
def zeS:(zf × ze × Int × Unit)→Option (Bool × Unit):=zhB (zjh K0)
abbrev zrT:Fun:=⟨31,(ch [zu,zq,tI]),(ch [.bool]),0,zeS⟩
theorem zB0:Sq zrT:=ml5 (d:=false) (S:=fun K=>zhB (zjh K)) Tryz.func31 (by kernel_rfl) (fun K=>tr1 (T:=zhB) (zyz K K) fun (x0,x1,x2,())=>by kernel_rfl) rfl
abbrev L6:List Fun:=zm4 :: ztF :: zrS :: ztG :: ztH :: zrT :: L5
theorem h6:Sds Tryz.prog E0 L6:=⟨zwA,zEh,zBZ,zEi,zEj,zB0,h5⟩
theorem ms6 {d:Bool} {F:Fun} {f:Go.Func} {K:Nat} (hf:Tryz.prog.funcs[F.id]? = some f) (ho:jY f = true) (h:evF (En E0 d L6) K f F.md F.a F.r = F.spec):Sd Tryz.prog E0 F:=mkS h6 hf ho h
theorem ml6 {d:Bool} {F:Fun} {f:Go.Func} {S:Nat→F.a.I→Option F.r.I} (hf:Tryz.prog.funcs[F.id]? = some f) (ho:jY f = true) (h:∀ K,evF (En E0 d L6) K f F.md F.a F.r = S K) (e:S K0 = F.spec):Sd Tryz.prog E0 F:=mkS h6 hf ho ((h K0).trans e)
abbrev Es6:Env:=En E0 false L6
abbrev zcG:Type:=Int × Int × zf × List (Option ((zf × Unit)→Option (Bool × Unit)))
abbrev zyA:zcG→St:=fun (v6,v7,o0,o1)=>St.mk [(1,.bp 0 []),(5,.ow 1),(6,.dat tI v6),(7,.dat tI v7)] [.bx (.dat zu o0) false,.row (.fn (.pair zu .unit) (.pair .bool .unit)) o1 false]
def zfp (k0:zcG→Option (Bool × Unit)):zcG→Option (Bool × Unit):=fun (v6,v7,o0,o1) =>
  bif decide (v7 < v6) then inR v7 ((List.length o1):Int) (Option.bind (List.getD o1 (Int.toNat v7) (zb (.fn (.pair zu .unit) (.pair .bool .unit)))) fun q0=>Option.bind (q0 (o0,())) fun q1=>bif q1.1 then k0 (v6,wI (v7 + 1),o0,o1) else some (false,())) else some (true,())
abbrev zoj (K:Nat):zcG→Option (Bool × Unit):=zg zfp K
theorem zyB (K:Nat):∀ n,evV Es6 K Tryz.f55 0 (ch [.bool]) [1,0,1,0] [] zyA n = zg zfp n:=zo fun n0 (v6,v7,o0,o1)=>by kernel_rfl
def zlq (L0:zcG→Option (Bool × Unit)):(zf × Unit)→Option (Bool × Unit):=fun (x0,()) =>
  L0 (((List.length (zi (zi (zi (zi (zi (zi (List.replicate 6 (zb (.fn (.pair zu .unit) (.pair .bool .unit)))) 0 (some vz)) 1 (some ye)) 2 (some jM)) 3 (some vx)) 4 (some vy)) 5 (some yO))):Int),0,x0,[some vz,some ye,some jM,some vx,some vy,some yO])
def zac:(zf × Unit)→Option (Bool × Unit):=zlq (zoj K0)
abbrev zrU:Fun:=⟨55,(ch [zu]),(ch [.bool]),0,zac⟩
theorem zB1:Sq zrU:=ml6 (d:=false) (S:=fun K=>zlq (zoj K)) Tryz.func55 (by kernel_rfl) (fun K=>tr1 (T:=zlq) (zyB K K) fun (x0,())=>by kernel_rfl) rfl
def zfq:(zk × Unit)→Option (Bool × Unit):=fun (x0,()) =>
  Option.bind (zjd (x0.1,())) fun q0=>bif q0.1 then Option.bind (zmS (x0.2.1,())) fun q1=>bif q1.1 then Option.bind (zhA (x0.2.2.1,())) fun q2=>bif q2.1 then Option.bind (zje (x0.2.2.2.1,())) fun q3=>bif q3.1 then Option.bind (zhz (x0.2.2.2.2.1,())) fun q4=>bif q4.1 then some (true,()) else some (false,()) else some (false,()) else some (false,()) else some (false,()) else some (false,())
abbrev zok:Fun:=⟨83,(ch [zm]),(ch [.bool]),0,zfq⟩
theorem zyC:Sq zok:=ms6 (d:=false) (K:=0) Tryz.func83 (by kernel_rfl) (funext fun (x0,())=>by kernel_rfl)
abbrev zcH:Type:=Int × Int × (List zk) × Int × Int × qT
abbrev zol:zcH→St:=fun (v3,v10,v15,v16,v17,o0)=>St.mk [(1,.bp 0 []),(3,.dat tI v3),(10,.dat tI v10),(15,.dat (.sl zm) v15),(16,.dat tI v16),(17,.dat tI v17)] [.bx (.dat qk o0) false]
abbrev vP:Type:=Int × qT
abbrev zom:vP→St:=fun (v10,o0)=>St.mk [(1,.bp 0 []),(10,.dat tI v10)] [.bx (.dat qk o0) false]
def zcI (k0:vP→Option (Bool × Unit)) (k1:zcH→Option (Bool × Unit)):zcH→Option (Bool × Unit):=fun (v3,v10,v15,v16,v17,o0) =>
  bif decide (v17 < v16) then inR v17 ((List.length v15):Int) (inR v3 (↑4:Int) (inR v17 ((List.length o0.1.2.2.2.2.1):Int) (bif decide (List.getD (ix za v15 v17).2.2.2.2.2.2.2.1 (Int.toNat v3) (0:Int) > (ix qf o0.1.2.2.2.2.1 v17).2.2.2.2.2.1) then some (false,()) else k1 (v3,v10,v15,v16,wI (v17 + 1),o0)))) else Option.bind (zjg (o0.2.1,v3,())) fun q0=>Option.bind (zi9 (o0.2.1,v3,())) fun q1=>bif q0.2.1 != 0 then some (false,()) else bif q1.2.1 != 0 then some (false,()) else bif q0.1 != q1.1 then some (false,()) else k0 (wI (v10 + 1),o0)
abbrev zcJ (K:Nat) (k0:vP→Option (Bool × Unit)):zcH→Option (Bool × Unit):=zg (fun k1=>zcI k0 k1) K
theorem zyD (K:Nat) (n0:Nat):∀ n,evV Es6 K Tryz.f40 0 (ch [.bool]) [1,0,1,0,0,1,1,0,0,1,0,1,0] [n0] zol n = zg (fun k1=>zcI (evV Es6 K Tryz.f40 0 (ch [.bool]) [1,0,1,0] [] zom n0) k1) n:=zo fun n1 (v3,v10,v15,v16,v17,o0)=>by kernel_rfl
def zcK (L1:zcH→Option (Bool × Unit)) (k0:vP→Option (Bool × Unit)):vP→Option (Bool × Unit):=fun (v10,o0) =>
  bif decide (v10 < 4) then L1 (v10,v10,o0.2.1.2.1,((List.length o0.2.1.2.1):Int),0,o0) else some (true,())
abbrev zon (K:Nat):vP→Option (Bool × Unit):=zg (fun k0=>zcK (zcJ K k0) k0) K
theorem zyE (K:Nat):∀ n,evV Es6 K Tryz.f40 0 (ch [.bool]) [1,0,1,0] [] zom n = zg (fun k0=>zcK (zcJ K k0) k0) n:=qJ (B:=fun L1 k0=>zcK L1 k0) (V1:=fun n0=>evV Es6 K Tryz.f40 0 (ch [.bool]) [1,0,1,0,0,1,1,0,0,1,0,1,0] [n0] zol K) (W1:=fun k0=>(zcJ K k0)) (fun n0=>zyD K n0 K) fun n0 (v10,o0)=>by kernel_rfl
def zlr (L0:vP→Option (Bool × Unit)):(qT × Unit)→Option (Bool × Unit):=fun (x0,()) =>
  L0 (0,x0)
def zeT:(qT × Unit)→Option (Bool × Unit):=zlr (zon K0)
abbrev zrV:Fun:=⟨40,(ch [qk]),(ch [.bool]),0,zeT⟩
theorem zB2:Sq zrV:=ml6 (d:=false) (S:=fun K=>zlr (zon K)) Tryz.func40 (by kernel_rfl) (fun K=>tr1 (T:=zlr) (zyE K K) fun (x0,())=>by kernel_rfl) rfl
abbrev zcL:Type:=Int × Int × zf × ze
abbrev zoo:zcL→St:=fun (v5,v6,o0,o1)=>St.mk [(2,.bp 0 []),(3,.bp 1 []),(5,.dat tI v5),(6,.dat tI v6)] [.bx (.dat zu o0) false,.bx (.dat zq o1) false]
abbrev zcM:Type:=Int × ze
abbrev zop:zcM→St:=fun (v7,o0)=>St.mk [(3,.bp 0 []),(7,.dat tI v7)] [.bx (.dat zq o0) false]
abbrev vQ:Type:=Int × zf × ze
abbrev zoq:vQ→St:=fun (v5,o0,o1)=>St.mk [(2,.bp 0 []),(3,.bp 1 []),(5,.dat tI v5)] [.bx (.dat zu o0) false,.bx (.dat zq o1) false]
def zfr (k0:vQ→Option (Bool × Unit)) (k1:zcL→Option (Bool × Unit)):zcL→Option (Bool × Unit):=fun (v5,v6,o0,o1) =>
  bif decide (v6 < 4) then inR v5 ((List.length o1.2.1):Int) (inR v6 (↑4:Int) (inR v5 ((List.length o0.2.2.2.2.1):Int) (bif decide (List.getD (ix za o1.2.1 v5).2.2.2.2.2.2.2.1 (Int.toNat v6) (0:Int) > (ix qf o0.2.2.2.2.1 v5).2.2.2.2.2.1) then some (false,()) else k1 (v5,wI (v6 + 1),o0,o1)))) else k0 (wI (v5 + 1),o0,o1)
abbrev zfs (K:Nat) (k0:vQ→Option (Bool × Unit)):zcL→Option (Bool × Unit):=zg (fun k1=>zfr k0 k1) K
theorem zyF (K:Nat) (n0:Nat):∀ n,evV Es6 K Tryz.f8 0 (ch [.bool]) [1,1,0,1,0,0,1,0,0,1,1,0] [n0] zoo n = zg (fun k1=>zfr (evV Es6 K Tryz.f8 0 (ch [.bool]) [1,1,0,1,0] [] zoq n0) k1) n:=zo fun n1 (v5,v6,o0,o1)=>by kernel_rfl
def zji (k2:zcM→Option (Bool × Unit)):zcM→Option (Bool × Unit):=fun (v7,o0) =>
  bif decide (v7 < 4) then Option.bind (zi5 (o0,v7,())) fun q4=>Option.bind (zi1 (o0,v7,())) fun q5=>bif q4.2.1 != 0 then some (false,()) else bif q5.2.1 != 0 then some (false,()) else bif q4.1 != q5.1 then some (false,()) else k2 (wI (v7 + 1),o0) else some (true,())
abbrev zcN (K:Nat):zcM→Option (Bool × Unit):=zg zji K
theorem zyG (K:Nat):∀ n,evV Es6 K Tryz.f8 0 (ch [.bool]) [1,1,1,0,1,0] [] zop n = zg zji n:=zo fun n2 (v7,o0)=>by kernel_rfl
def zcO (L1:zcL→Option (Bool × Unit)) (L2:zcM→Option (Bool × Unit)) (k0:vQ→Option (Bool × Unit)):vQ→Option (Bool × Unit):=fun (v5,o0,o1) =>
  bif decide (v5 < ((List.length o1.2.1):Int)) then Option.bind (zeS (o0,o1,v5,())) fun q3=>bif q3.1 then L1 (v5,0,o0,o1) else some (false,()) else L2 (0,o1)
abbrev zjj (K:Nat):vQ→Option (Bool × Unit):=zg (fun k0=>zcO (zfs K k0) (zcN K) k0) K
theorem zyH (K:Nat):∀ n,evV Es6 K Tryz.f8 0 (ch [.bool]) [1,1,0,1,0] [] zoq n = zg (fun k0=>zcO (zfs K k0) (zcN K) k0) n:=zI4 (B:=fun L1 L2 k0=>zcO L1 L2 k0) (V1:=fun n0=>evV Es6 K Tryz.f8 0 (ch [.bool]) [1,1,0,1,0,0,1,0,0,1,1,0] [n0] zoo K) (V2:=fun n0=>evV Es6 K Tryz.f8 0 (ch [.bool]) [1,1,1,0,1,0] [] zop K) (W1:=fun k0=>(zfs K k0)) (W2:=fun k0=>(zcN K)) (fun n0=>zyF K n0 K) (fun n0=>zyG K K) fun n0 (v5,o0,o1)=>by kernel_rfl
def zhC (L0:vQ→Option (Bool × Unit)):(zf × (ze × Unit))→Option (Bool × Unit):=fun (x0,x1,()) =>
  Option.bind (zeN (x0,())) fun q0=>bif q0.1 then Option.bind (zhq (x0,x1,())) fun q1=>bif q1.1 then Option.bind (zgo (x0,x1,())) fun q2=>bif q2.1 then L0 (0,x0,x1) else some (false,()) else some (false,()) else some (false,())
def zhD:(zf × ze × Unit)→Option (Bool × Unit):=zhC (zjj K0)
abbrev zrW:Fun:=⟨8,(ch [zu,zq]),(ch [.bool]),0,zhD⟩
theorem zB3:Sq zrW:=ml6 (d:=false) (S:=fun K=>zhC (zjj K)) Tryz.func8 (by kernel_rfl) (fun K=>tr1 (T:=zhC) (zyH K K) fun (x0,x1,())=>by kernel_rfl) rfl
abbrev L7:List Fun:=zrU :: zok :: zrV :: zrW :: L6
theorem h7:Sds Tryz.prog E0 L7:=⟨zB1,zyC,zB2,zB3,h6⟩
theorem ms7 {d:Bool} {F:Fun} {f:Go.Func} {K:Nat} (hf:Tryz.prog.funcs[F.id]? = some f) (ho:jY f = true) (h:evF (En E0 d L7) K f F.md F.a F.r = F.spec):Sd Tryz.prog E0 F:=mkS h7 hf ho h
theorem ml7 {d:Bool} {F:Fun} {f:Go.Func} {S:Nat→F.a.I→Option F.r.I} (hf:Tryz.prog.funcs[F.id]? = some f) (ho:jY f = true) (h:∀ K,evF (En E0 d L7) K f F.md F.a F.r = S K) (e:S K0 = F.spec):Sd Tryz.prog E0 F:=mkS h7 hf ho ((h K0).trans e)
abbrev Es7:Env:=En E0 false L7
abbrev Ed7:Env:=En E0 true L7
abbrev zcP:Type:=Int × (List zk) × Int × Int × qT
abbrev zyI:zcP→St:=fun (v3,v65,v66,v67,o0)=>St.mk [(1,.bp 0 []),(3,.dat tI v3),(65,.dat (.sl zm) v65),(66,.dat tI v66),(67,.dat tI v67)] [.bx (.dat qk o0) false]
def zft (k0:zcP→Option (Bool × Unit)):zcP→Option (Bool × Unit):=fun (v3,v65,v66,v67,o0) =>
  bif decide (v67 < v66) then inR v67 ((List.length v65):Int) (inR v67 ((List.length o0.1.2.2.2.2.1):Int) (bif ((List.length (ix za v65 v67).1):Int) != (ix qf o0.1.2.2.2.2.1 v67).1 then some (false,()) else bif ((List.length (ix za v65 v67).2.1):Int) != (ix qf o0.1.2.2.2.2.1 v67).2.1 then some (false,()) else bif ((List.length (ix za v65 v67).2.2.1):Int) != (ix qf o0.1.2.2.2.2.1 v67).2.2.1 then some (false,()) else bif ((List.length (ix za v65 v67).2.2.2.1):Int) != (ix qf o0.1.2.2.2.2.1 v67).2.2.2.1 then some (false,()) else bif ((List.length (ix za v65 v67).2.2.2.2.1):Int) != (ix qf o0.1.2.2.2.2.1 v67).2.2.2.2.1 then some (false,()) else bif ((List.length (ix za v65 v67).2.2.2.2.2.1):Int) != v3 then some (false,()) else bif ((List.length (ix za v65 v67).2.2.2.2.2.2.1):Int) != v3 then some (false,()) else k0 (v3,v65,v66,wI (v67 + 1),o0))) else some (true,())
abbrev zjk (K:Nat):zcP→Option (Bool × Unit):=zg zft K
theorem zyJ (K:Nat):∀ n,evV Es7 K Tryz.f34 0 (ch [.bool]) [1,1,1,0,1,0] [] zyI n = zg zft n:=zo fun n0 (v3,v65,v66,v67,o0)=>by kernel_rfl
def zhE (L0:zcP→Option (Bool × Unit)):(qT × Unit)→Option (Bool × Unit):=fun (x0,()) =>
  Option.bind (zac (x0.1,())) fun q0=>bif q0.1 then bif ((List.length x0.2.1.2.1):Int) != ((List.length x0.1.1):Int) then some (false,()) else bif ((List.length x0.2.1.2.2.2.1):Int) != x0.1.2.2.2.2.2.1 then some (false,()) else bif decide (((List.length x0.2.1.2.2.2.2.1):Int) > x0.1.2.2.2.2.2.2.1) then some (false,()) else bif ((List.length x0.2.1.2.2.2.2.2.1):Int) != ((List.length x0.1.2.1):Int) then some (false,()) else bif decide (x0.2.1.1 > 4611686018427387904) then some (false,()) else L0 (((List.length x0.1.2.2.1):Int),x0.2.1.2.1,((List.length x0.2.1.2.1):Int),0,x0) else some (false,())
def zbr:(qT × Unit)→Option (Bool × Unit):=zhE (zjk K0)
abbrev zrX:Fun:=⟨34,(ch [qk]),(ch [.bool]),0,zbr⟩
theorem zB4:Sq zrX:=ml7 (d:=false) (S:=fun K=>zhE (zjk K)) Tryz.func34 (by kernel_rfl) (fun K=>tr1 (T:=zhE) (zyJ K K) fun (x0,())=>by kernel_rfl) rfl
def zbs:(qT × Unit)→Option (Bool × Unit):=fun (x0,()) =>
  Option.bind (zgI (x0.2.1.2.1,some zfq,())) fun q0=>bif q0.1 then some (true,()) else some (false,())
abbrev zrY:Fun:=⟨35,(ch [qk]),(ch [.bool]),0,zbs⟩
theorem zB5:Sq zrY:=ms7 (d:=false) (K:=0) Tryz.func35 (by kernel_rfl) (funext fun (x0,())=>by kernel_rfl)
end
end Go.Proofs.YtokcjmkikhgkeaaGreatDoor
end
section
namespace Go.Proofs.YtokcjmkikhgkeaaGreatDoor
open Go.Ev
noncomputable section
abbrev zdZ:Type:=(Option ((Int × Unit)→Option (Bool × Unit))) × (List (List Int)) × Int × Int × zf
abbrev zAb:zdZ→St:=fun (v5,v19,v20,v21,o0)=>St.mk [(2,.bp 0 []),(5,.dat (.fn (.pair tI .unit) (.pair .bool .unit)) v5),(19,.dat (.sl (.sl tI)) v19),(20,.dat tI v20),(21,.dat tI v21)] [.bx (.dat zu o0) false]
def zgp (k0:zdZ→Option (Bool × Unit)):zdZ→Option (Bool × Unit):=fun (v5,v19,v20,v21,o0) =>
  bif decide (v21 < v20) then inR v21 ((List.length v19):Int) (bif ((List.length (List.getD v19 (Int.toNat v21) ([]:List Int))):Int) != ((List.length o0.2.2.1):Int) then some (false,()) else Option.bind (qK (List.getD v19 (Int.toNat v21) ([]:List Int),v5,())) fun q1=>bif q1.1 then some (false,()) else inR v21 ((List.length o0.2.2.2.1):Int) (inR (ix qz o0.2.2.2.1 v21).2.1 ((List.length (List.getD v19 (Int.toNat v21) ([]:List Int))):Int) (bif List.getD (List.getD v19 (Int.toNat v21) ([]:List Int)) (Int.toNat (ix qz o0.2.2.2.1 v21).2.1) (0:Int) != 2 then some (false,()) else k0 (v5,v19,v20,wI (v21 + 1),o0)))) else some (true,())
abbrev zj5 (K:Nat):zdZ→Option (Bool × Unit):=zg zgp K
theorem zAc (K:Nat):∀ n,evV Es7 K Tryz.f89 0 (ch [.bool]) [1,1,1,0,1,0] [] zAb n = zg zgp n:=zo fun n0 (v5,v19,v20,v21,o0)=>by kernel_rfl
def zjl (L0:zdZ→Option (Bool × Unit)):(zf × ((List (List Int)) × Unit))→Option (Bool × Unit):=fun (x0,x1,()) =>
  Option.bind (zac (x0,())) fun q0=>bif q0.1 then bif ((List.length x1):Int) != ((List.length x0.2.2.2.1):Int) then some (false,()) else L0 (some zaC,x1,((List.length x1):Int),0,x0) else some (false,())
def zjm:(zf × (List (List Int)) × Unit)→Option (Bool × Unit):=zjl (zj5 K0)
abbrev ztI:Fun:=⟨89,(ch [zu,(.sl (.sl tI))]),(ch [.bool]),0,zjm⟩
theorem zEk:Sq ztI:=ml7 (d:=false) (S:=fun K=>zjl (zj5 K)) Tryz.func89 (by kernel_rfl) (fun K=>tr1 (T:=zjl) (zAc K K) fun (x0,x1,())=>by kernel_rfl) rfl
def zcQ:(zf × (Int × Unit))→Option (Bool × Unit):=fun (x0,x1,()) =>
  Option.bind (zac (x0,())) fun q0=>bif q0.1 then Option.bind (qn (x1,0,wI (((List.length x0.1):Int) - 1),())) fun q1=>bif q1.1 then some (true,()) else some (false,()) else some (false,())
abbrev zor:Fun:=⟨48,(ch [zu,tI]),(ch [.bool]),0,zcQ⟩
theorem zyK:Sq zor:=ms7 (d:=false) (K:=0) Tryz.func48 (by kernel_rfl) (funext fun (x0,x1,())=>by kernel_rfl)
abbrev zfO:Type:=(List z7) × Int × Int × zf × List (List Int) × Nat
abbrev zEl:zfO→St:=fun (v11,v12,v13,o0,o1,c1)=>St.mk [(1,.bp 0 []),(3,.ow 1),(11,.dat (.sl yk) v11),(12,.dat tI v12),(13,.dat tI v13)] [.bx (.dat zu o0) false,.drow (.sl tI) o1 c1]
def ztJ (k0:zfO→Option ((List (List Int)) × Unit)):zfO→Option ((List (List Int)) × Unit):=fun (v11,v12,v13,o0,o1,c1) =>
  bif decide (v13 < v12) then inR v13 ((List.length v11):Int) (bif decide (((List.length o0.2.2.1):Int) ≤ ((List.length o0.2.2.1):Int)) then bif decide (((List.length o0.2.2.1):Int) ≤ (↑lim:Int)) then inR (ix qz v11 v13).2.1 ((List.length (List.replicate (Int.toNat ((List.length o0.2.2.1):Int)) (0:Int))):Int) (bif decide (List.length o1 + List.length [List.set (List.replicate (Int.toNat ((List.length o0.2.2.1):Int)) (0:Int)) (Int.toNat (ix qz v11 v13).2.1) 2] ≤ lim) then bif decide (c1 = List.length o1) then k0 (v11,v12,wI (v13 + 1),o0,o1 ++ [List.set (List.replicate (Int.toNat ((List.length o0.2.2.1):Int)) (0:Int)) (Int.toNat (ix qz v11 v13).2.1) 2],c1 + (0 + 1)) else none else none) else none else none) else bif decide (c1 = List.length o1) then some (o1,()) else none
abbrev ztK (K:Nat):zfO→Option ((List (List Int)) × Unit):=zg ztJ K
theorem zEm (K:Nat):∀ n,evV Ed7 K Tryz.f56 4 (ch [(.sl (.sl tI))]) [1,1,1,0,1,0] [] zEl n = zg ztJ n:=zo fun n0 (v11,v12,v13,o0,o1,c1)=>by kernel_rfl
def zqS (L0:zfO→Option ((List (List Int)) × Unit)):(zf × Unit)→Option ((List (List Int)) × Unit):=fun (x0,()) =>
  Option.bind (zac (x0,())) fun q0=>bif q0.1 then L0 (x0.2.2.2.1,((List.length x0.2.2.2.1):Int),0,x0,[],0) else some ([],())
def zyL:(zf × Unit)→Option ((List (List Int)) × Unit):=zqS (ztK K0)
abbrev zyM:Fun:=⟨56,(ch [zu]),(ch [(.sl (.sl tI))]),4,zyL⟩
theorem zHL:Sq zyM:=ml7 (d:=true) (S:=fun K=>zqS (ztK K)) Tryz.func56 (by kernel_rfl) (fun K=>tr1 (T:=zqS) (zEm K K) fun (x0,())=>by kernel_rfl) rfl
abbrev L8:List Fun:=zrX :: zrY :: ztI :: zor :: zyM :: L7
theorem h8:Sds Tryz.prog E0 L8:=⟨zB4,zB5,zEk,zyK,zHL,h7⟩
theorem ms8 {d:Bool} {F:Fun} {f:Go.Func} {K:Nat} (hf:Tryz.prog.funcs[F.id]? = some f) (ho:jY f = true) (h:evF (En E0 d L8) K f F.md F.a F.r = F.spec):Sd Tryz.prog E0 F:=mkS h8 hf ho h
theorem ml8 {d:Bool} {F:Fun} {f:Go.Func} {S:Nat→F.a.I→Option F.r.I} (hf:Tryz.prog.funcs[F.id]? = some f) (ho:jY f = true) (h:∀ K,evF (En E0 d L8) K f F.md F.a F.r = S K) (e:S K0 = F.spec):Sd Tryz.prog E0 F:=mkS h8 hf ho ((h K0).trans e)
abbrev Ed8:Env:=En E0 true L8
def zaI:(qT × Unit)→Option (Bool × Unit):=fun (x0,()) =>
  Option.bind (zjm (x0.1,x0.2.1.2.2.1,())) fun q0=>bif q0.1 then Option.bind (zm1 (x0.2.1.2.2.2.1,())) fun q1=>bif q1.1 then Option.bind (zlo (x0.2.1.2.2.2.2.1,())) fun q2=>bif q2.1 then Option.bind (zeD (x0.2.1,zb zY,())) fun q3=>bif q3.1 then Option.bind (zgJ (x0.2.1.2.2.2.1,some fun z=>zet (z.1,some x0,()),())) fun q4=>bif q4.1 then Option.bind (zdp (x0.2.1.2.2.2.2.1,some fun z=>zaP (z.1,some x0,()),())) fun q5=>bif q5.1 then Option.bind (yX (x0.2.1.2.2.2.2.2.1,some fun z=>vi (z.1,some x0,()),())) fun q6=>bif q6.1 then some (true,()) else some (false,()) else Option.bind (yX (x0.2.1.2.2.2.2.2.1,some fun z=>vi (z.1,some x0,()),())) fun q7=>bif q7.1 then some (false,()) else some (false,()) else Option.bind (zdp (x0.2.1.2.2.2.2.1,some fun z=>zaP (z.1,some x0,()),())) fun q8=>bif q8.1 then Option.bind (yX (x0.2.1.2.2.2.2.2.1,some fun z=>vi (z.1,some x0,()),())) fun q9=>bif q9.1 then some (false,()) else some (false,()) else Option.bind (yX (x0.2.1.2.2.2.2.2.1,some fun z=>vi (z.1,some x0,()),())) fun q10=>bif q10.1 then some (false,()) else some (false,()) else some (false,()) else some (false,()) else some (false,()) else some (false,())
abbrev zp8:Fun:=⟨36,(ch [qk]),(ch [.bool]),0,zaI⟩
theorem zAd:Sq zp8:=ms8 (d:=false) (K:=0) Tryz.func36 (by kernel_rfl) (funext fun (x0,())=>by kernel_rfl)
def zky:(zf × (Int × (Int × Unit)))→Option (Bool × Unit):=fun (x0,x1,x2,()) =>
  Option.bind (zcQ (x0,x1,())) fun q0=>bif q0.1 then Option.bind (zcQ (x0,x2,())) fun q1=>bif q1.1 then inR x1 ((List.length x0.1):Int) (inR x2 ((List.length x0.1):Int) (Option.bind (ze0 (ix qN x0.1 x1,ix qN x0.1 x2,())) fun q2=>bif q2.1 then some (true,()) else some (false,()))) else some (false,()) else some (false,())
abbrev zvk:Fun:=⟨18,(ch [zu,tI,tI]),(ch [.bool]),0,zky⟩
theorem zFY:Sq zvk:=ms8 (d:=false) (K:=0) Tryz.func18 (by kernel_rfl) (funext fun (x0,x1,x2,())=>by kernel_rfl)
abbrev zeU:Type:=Int × Int × Int × Int × List zk × Nat × List (List Int) × Nat × List zn × List zI × List Int × List zk × Nat × List (List Int) × Nat × List zn × List zI × List Int
abbrev zrZ:zeU→St:=fun (v42,v43,o0_0,o1_0,o2,c2,o3,c3,o4,o5,o6,o7,c7,o8,c8,o9,o10,o11)=>St.mk [(2,.bp 0 []),(4,.bp 1 []),(42,.dat tI v42),(43,.dat tI v43)] [.bx (.fld (.pair tU (.pair (.sl zm) (.pair (.sl (.sl tI)) (.pair (.sl zr) (.pair (.sl zy) (.pair (.sl tI) .unit)))))) [.dat tU o0_0,.ow 2,.ow 3,.ow 4,.ow 5,.ow 6]) false,.bx (.fld (.pair tU (.pair (.sl zm) (.pair (.sl (.sl tI)) (.pair (.sl zr) (.pair (.sl zy) (.pair (.sl tI) .unit)))))) [.dat tU o1_0,.ow 7,.ow 8,.ow 9,.ow 10,.ow 11]) false,.drow zm o2 c2,.drow (.sl tI) o3 c3,.row zr o4 false,.row zy o5 false,.row tI o6 false,.drow zm o7 c7,.drow (.sl tI) o8 c8,.row zr o9 false,.row zy o10 false,.row tI o11 false]
abbrev zeV:Type:=(List zag) × Int × Int × zf × Int × Int × List zk × Nat × List (List Int) × Nat × List zn × List zI × List Int × List zk × Nat × List (List Int) × Nat × List zn × List zI × List Int
abbrev zB6:zeV→St:=fun (v18,v19,v20,o0,o1_0,o2_0,o3,c3,o4,c4,o5,o6,o7,o8,c8,o9,c9,o10,o11,o12)=>St.mk [(1,.bp 0 []),(2,.bp 1 []),(4,.bp 2 []),(18,.dat (.sl zbG) v18),(19,.dat tI v19),(20,.dat tI v20)] [.bx (.dat zu o0) false,.bx (.fld (.pair tU (.pair (.sl zm) (.pair (.sl (.sl tI)) (.pair (.sl zr) (.pair (.sl zy) (.pair (.sl tI) .unit)))))) [.dat tU o1_0,.ow 3,.ow 4,.ow 5,.ow 6,.ow 7]) false,.bx (.fld (.pair tU (.pair (.sl zm) (.pair (.sl (.sl tI)) (.pair (.sl zr) (.pair (.sl zy) (.pair (.sl tI) .unit)))))) [.dat tU o2_0,.ow 8,.ow 9,.ow 10,.ow 11,.ow 12]) false,.drow zm o3 c3,.drow (.sl tI) o4 c4,.row zr o5 false,.row zy o6 false,.row tI o7 false,.drow zm o8 c8,.drow (.sl tI) o9 c9,.row zr o10 false,.row zy o11 false,.row tI o12 false]
def zr0 (k1:zeU→Option (ze × (Int × Unit))):zeU→Option (ze × (Int × Unit)):=fun (v42,v43,o0_0,o1_0,o2,c2,o3,c3,o4,o5,o6,o7,c7,o8,c8,o9,o10,o11) =>
  bif decide (v43 < v42) then bif decide (List.length o11 + List.length (zi (List.replicate 1 (0:Int)) 0 (-1)) ≤ lim) then k1 (v42,wI (v43 + 1),o0_0,o1_0,o2,c2,o3,c3,o4,o5,o6,o7,c7,o8,c8,o9,o10,o11 ++ zi (List.replicate 1 (0:Int)) 0 (-1)) else none else bif decide (c7 = List.length o7) then bif decide (c8 = List.length o8) then some ((o1_0,o7,o8,o9,o10,o11,()),0,()) else none else none
abbrev zls (K:Nat):zeU→Option (ze × (Int × Unit)):=zg zr0 K
theorem zB7 (K:Nat):∀ n,evV Ed8 K Tryz.f24 3 (ch [zq,tI]) [1,1,1,1,1,0,1,0] [] zrZ n = zg zr0 n:=zo fun n1 (v42,v43,o0_0,o1_0,o2,c2,o3,c3,o4,o5,o6,o7,c7,o8,c8,o9,o10,o11)=>by kernel_rfl
def zlt (L1:zeU→Option (ze × (Int × Unit))) (k0:zeV→Option (ze × (Int × Unit))):zeV→Option (ze × (Int × Unit)):=fun (v18,v19,v20,o0,o1_0,o2_0,o3,c3,o4,c4,o5,o6,o7,o8,c8,o9,c9,o10,o11,o12) =>
  bif decide (v20 < v19) then inR v20 ((List.length v18):Int) (Option.bind (zri (o0,ix qf v18 v20,())) fun q2=>bif decide (List.length o8 + List.length [(q2.1.1,q2.1.2.1,q2.1.2.2.1,q2.1.2.2.2.1,q2.1.2.2.2.2.1,q2.1.2.2.2.2.2.1,q2.1.2.2.2.2.2.2.1,q2.1.2.2.2.2.2.2.2.1,q2.1.2.2.2.2.2.2.2.2.1,())] ≤ lim) then bif decide (c8 = List.length o8) then k0 (v18,v19,wI (v20 + 1),o0,o1_0,o2_0,o3,c3,o4,c4,o5,o6,o7,o8 ++ [(q2.1.1,q2.1.2.1,q2.1.2.2.1,q2.1.2.2.2.1,q2.1.2.2.2.2.1,q2.1.2.2.2.2.2.1,q2.1.2.2.2.2.2.2.1,q2.1.2.2.2.2.2.2.2.1,q2.1.2.2.2.2.2.2.2.2.1,())],c8 + (0 + 1),o9,c9,o10,o11,o12) else none else none) else bif decide (0 < ((List.length o8):Int)) then bif decide (c8 ≤ Int.toNat 0) then bif decide (0 < ((List.length (ix za o8 0).1):Int)) then none else none else bif decide (0 < ((List.length (ix za o8 0).1):Int)) then L1 (((List.length o0.2.1):Int),0,o1_0,o2_0,o3,c3,o4,c4,o5,o6,o7,List.set o8 (Int.toNat 0) (List.set (ix za o8 0).1 (Int.toNat 0) (true,ByteArray.mk #[112,108,97,122,97],(zb qC).2.2),(ix za o8 0).2),c8,o9,c9,o10,o11,o12) else none else none
abbrev zr1 (K:Nat):zeV→Option (ze × (Int × Unit)):=zg (fun k0=>zlt (zls K) k0) K
theorem zB8 (K:Nat):∀ n,evV Ed8 K Tryz.f24 3 (ch [zq,tI]) [1,1,1,0,1,0] [] zB6 n = zg (fun k0=>zlt (zls K) k0) n:=qJ (B:=fun L1 k0=>zlt L1 k0) (V1:=fun n0=>evV Ed8 K Tryz.f24 3 (ch [zq,tI]) [1,1,1,1,1,0,1,0] [] zrZ K) (W1:=fun k0=>(zls K)) (fun n0=>zB7 K K) fun n0 (v18,v19,v20,o0,o1_0,o2_0,o3,c3,o4,c4,o5,o6,o7,o8,c8,o9,c9,o10,o11,o12)=>by kernel_rfl
def zo5 (L0:zeV→Option (ze × (Int × Unit))):(zf × Unit)→Option (ze × (Int × Unit)):=fun (x0,()) =>
  Option.bind (zac (x0,())) fun q0=>bif q0.1 then Option.bind (zyL (x0,())) fun q1=>bif decide (0 ≤ x0.2.2.2.2.2.1) then bif decide (x0.2.2.2.2.2.1 ≤ x0.2.2.2.2.2.1) then bif decide (x0.2.2.2.2.2.1 ≤ (↑lim:Int)) then L0 (x0.2.2.2.2.1,((List.length x0.2.2.2.2.1):Int),0,x0,0,0,[],0,[],0,[],[],[],[],0,q1.1,List.length q1.1,List.replicate (Int.toNat x0.2.2.2.2.2.1) (zb zr),[],[]) else none else none else none else some ((0,[],[],[],[],[],()),1,())
def zvl:(zf × Unit)→Option (ze × Int × Unit):=zo5 (zr1 K0)
abbrev zvm:Fun:=⟨24,(ch [zu]),(ch [zq,tI]),3,zvl⟩
theorem zFZ:Sq zvm:=ml8 (d:=true) (S:=fun K=>zo5 (zr1 K)) Tryz.func24 (by kernel_rfl) (fun K=>tr1 (T:=zo5) (zB8 K K) fun (x0,())=>by kernel_rfl) rfl
abbrev L9:List Fun:=zp8 :: zvk :: zvm :: L8
theorem h9:Sds Tryz.prog E0 L9:=⟨zAd,zFY,zFZ,h8⟩
theorem ml9 {d:Bool} {F:Fun} {f:Go.Func} {S:Nat→F.a.I→Option F.r.I} (hf:Tryz.prog.funcs[F.id]? = some f) (ho:jY f = true) (h:∀ K,evF (En E0 d L9) K f F.md F.a F.r = S K) (e:S K0 = F.spec):Sd Tryz.prog E0 F:=mkS h9 hf ho ((h K0).trans e)
abbrev Es9:Env:=En E0 false L9
abbrev zcR:Type:=Bool × Int × Int × List (Option (Unit→Option (Bool × Unit)))
abbrev zyN:zcR→St:=fun (v6,v27,v28,o0)=>St.mk [(6,.dat .bool v6),(26,.ow 0),(27,.dat tI v27),(28,.dat tI v28)] [.row (.fn .unit (.pair .bool .unit)) o0 false]
def zfu (k0:zcR→Option (Bool × Unit)):zcR→Option (Bool × Unit):=fun (v6,v27,v28,o0) =>
  bif decide (v28 < v27) then inR v28 ((List.length o0):Int) (Option.bind (List.getD o0 (Int.toNat v28) (zb (.fn .unit (.pair .bool .unit)))) fun q0=>Option.bind (q0 ()) fun q1=>bif q1.1 then k0 (true,v27,wI (v28 + 1),o0) else some (false,())) else some (v6,())
abbrev zos (K:Nat):zcR→Option (Bool × Unit):=zg zfu K
theorem zyO (K:Nat):∀ n,evV Es9 K Tryz.f12 0 (ch [.bool]) [1,0,1,1,1,0,1,0] [] zyN n = zg zfu n:=zo fun n0 (v6,v27,v28,o0)=>by kernel_rfl
def zlu (L0:zcR→Option (Bool × Unit)):(zf × (ze × Unit))→Option (Bool × Unit):=fun (x0,x1,()) =>
  L0 (true,((List.length (zi (zi (zi (zi (zi (zi (zi (List.replicate 7 (zb (.fn .unit (.pair .bool .unit)))) 0 (some fun z=>zbr ((x0,x1,(zb qk).2.2),()))) 1 (some fun z=>zbs ((x0,x1,(zb qk).2.2),()))) 2 (some fun z=>zaI ((x0,x1,(zb qk).2.2),()))) 3 (some fun z=>zeP ((x0,x1,(zb qk).2.2),()))) 4 (some fun z=>zaG ((x0,x1,(zb qk).2.2),()))) 5 (some fun z=>zeO ((x0,x1,(zb qk).2.2),()))) 6 (some fun z=>zeT ((x0,x1,(zb qk).2.2),())))):Int),0,[some fun z=>zbr ((x0,x1,(zb qk).2.2),()),some fun z=>zbs ((x0,x1,(zb qk).2.2),()),some fun z=>zaI ((x0,x1,(zb qk).2.2),()),some fun z=>zeP ((x0,x1,(zb qk).2.2),()),some fun z=>zaG ((x0,x1,(zb qk).2.2),()),some fun z=>zeO ((x0,x1,(zb qk).2.2),()),some fun z=>zeT ((x0,x1,(zb qk).2.2),())])
def zhF:(zf × ze × Unit)→Option (Bool × Unit):=zlu (zos K0)
abbrev zr2:Fun:=⟨12,(ch [zu,zq]),(ch [.bool]),0,zhF⟩
theorem zB9:Sq zr2:=ml9 (d:=false) (S:=fun K=>zlu (zos K)) Tryz.func12 (by kernel_rfl) (fun K=>tr1 (T:=zlu) (zyO K K) fun (x0,x1,())=>by kernel_rfl) rfl
abbrev L10:List Fun:=zr2 :: L9
theorem h10:Sds Tryz.prog E0 L10:=⟨zB9,h9⟩
theorem zLo {d:Bool} {F:Fun} {f:Go.Func} {K:Nat} (hf:Tryz.prog.funcs[F.id]? = some f) (ho:jY f = true) (h:evF (En E0 d L10) K f F.md F.a F.r = F.spec):Sd Tryz.prog E0 F:=mkS h10 hf ho h
def zd0:(zf × (ze × (pMe × Unit)))→Option (Bool × Unit):=fun (x0,x1,x2,()) =>
  Option.bind (zhF (x0,x1,())) fun q0=>bif q0.1 then bif decide (x2.1 ≥ 0) then bif decide (x2.1 < ((List.length x0.2.1):Int)) then inR x2.1 ((List.length x0.2.1):Int) (bif x2.2.1 == ix (0:Int) x0.2.1 x2.1 then bif decide (x2.2.2.1 ≥ 0) then bif decide (x2.2.2.1 < ((List.length x0.2.2.1):Int)) then some (true,()) else some (false,()) else some (false,()) else some (false,())) else some (false,()) else some (false,()) else some (false,())
abbrev ztL:Fun:=⟨11,(ch [zu,zq,tMe]),(ch [.bool]),0,zd0⟩
theorem zEn:Sq ztL:=zLo (d:=false) (K:=0) Tryz.func11 (by kernel_rfl) (funext fun (x0,x1,x2,())=>by kernel_rfl)
abbrev L11:List Fun:=ztL :: L10
theorem h11:Sds Tryz.prog E0 L11:=⟨zEn,h10⟩
theorem zLp {d:Bool} {F:Fun} {f:Go.Func} {K:Nat} (hf:Tryz.prog.funcs[F.id]? = some f) (ho:jY f = true) (h:evF (En E0 d L11) K f F.md F.a F.r = F.spec):Sd Tryz.prog E0 F:=mkS h11 hf ho h
theorem zLq {d:Bool} {js:List Nat} {fs:List (Nat × Go.Func)} {n:Nat} {F:Fun} {f:Go.Func} {K:Nat} (hfs:FOk Tryz.prog fs) (hf:Tryz.prog.funcs[F.id]? = some f) (ho:jY f = true) (h:evF ((Ej E0 d js L11).inl fs n) K f F.md F.a F.r = F.spec):Sd Tryz.prog E0 F:=Sd.mkI zHC h11 hfs hf ho h
def zdf:(zf × (ze × (pMe × (Int × (Int × Unit)))))→Option (Bool × Unit):=fun (x0,x1,x2,x3,x4,()) =>
  Option.bind (zd0 (x0,x1,x2,())) fun q0=>bif q0.1 then Option.bind (qU (x3,())) fun q1=>bif q1.1 then bif decide (x4 > 0) then some (true,()) else some (false,()) else some (false,()) else some (false,())
abbrev zvn:Fun:=⟨17,(ch [zu,zq,tMe,tI,tU]),(ch [.bool]),0,zdf⟩
theorem zF0:Sq zvn:=zLp (d:=false) (K:=0) Tryz.func17 (by kernel_rfl) (funext fun (x0,x1,x2,x3,x4,())=>by kernel_rfl)
def zr3:(zf × (ze × (pMe × Unit)))→Option ((List Int) × (Int × Unit)):=fun (x0,x1,x2,()) =>
  Option.bind (zd0 (x0,x1,x2,())) fun q0=>bif q0.1 then inR x2.2.1 ((List.length x1.2.1):Int) (inR x2.2.2.1 ((List.length (ix za x1.2.1 x2.2.1).2.2.2.2.2.1):Int) (some (List.getD (ix za x1.2.1 x2.2.1).2.2.2.2.2.1 (Int.toNat x2.2.2.1) (zb (.arr 4 tU)),0,()))) else some ([0,0,0,0],1,())
abbrev zr4:Fun:=⟨16,(ch [zu,zq,tMe]),(ch [(.arr 4 tU),tI]),0,zr3⟩
theorem zCa:Sq zr4:=zLq (d:=false) (js:=[]) (fs:=[(47,Tryz.f47)]) (n:=1) ⟨⟨Tryz.func47,by kernel_rfl⟩,trivial⟩ (K:=0) Tryz.func16 (by kernel_rfl) (funext fun (x0,x1,x2,())=>by kernel_rfl)
abbrev L12:List Fun:=zvn :: zr4 :: L11
theorem h12:Sds Tryz.prog E0 L12:=⟨zF0,zCa,h11⟩
theorem zHM {d:Bool} {js:List Nat} {fs:List (Nat × Go.Func)} {n:Nat} {F:Fun} {f:Go.Func} {K:Nat} (hfs:FOk Tryz.prog fs) (hf:Tryz.prog.funcs[F.id]? = some f) (ho:jY f = true) (h:evF ((Ej E0 d js L12).inl fs n) K f F.md F.a F.r = F.spec):Sd Tryz.prog E0 F:=Sd.mkI zHC h12 hfs hf ho h
def vR:(zf × (ze × (pMe × (Int × (Int × (Int × (Int × Unit)))))))→Option (ze × (Int × Unit)):=fun (x0,x1,x2,x3,x4,x5,x6,()) =>
  Option.bind (zdf (x0,x1,x2,x5,x6,())) fun q0=>bif q0.1 then bif decide (x3 < 0) then some ((0,[],[],[],[],[],()),1,()) else bif decide (x3 ≥ ((List.length x0.1):Int)) then some ((0,[],[],[],[],[],()),1,()) else bif decide (x4 < 0) then some ((0,[],[],[],[],[],()),1,()) else bif decide (x4 ≥ ((List.length x0.2.2.1):Int)) then some ((0,[],[],[],[],[],()),1,()) else bif x3 != x2.2.1 then Option.bind (zky (x0,x2.2.1,x3,())) fun q1=>bif q1.1 then Option.bind (qE (x1,())) fun q2=>inR x2.2.1 ((List.length q2.1.2.1):Int) (bif decide (List.length q2.1.2.1 ≤ Int.toNat x2.2.1) then none else inR x2.2.2.1 ((List.length (ix za q2.1.2.1 x2.2.1).2.2.2.2.2.1):Int) (Option.bind (zdd (List.getD (ix za q2.1.2.1 x2.2.1).2.2.2.2.2.1 (Int.toNat x2.2.2.1) (zb (.arr 4 tU)),x5,x6,())) fun q3=>inR x2.2.1 ((List.length q2.1.2.1):Int) (bif decide (List.length q2.1.2.1 ≤ Int.toNat x2.2.1) then none else inR x2.2.2.1 ((List.length (ix za q2.1.2.1 x2.2.1).2.2.2.2.2.1):Int) (bif q3.2.1 != 0 then some ((0,[],[],[],[],[],()),q3.2.1,()) else inR x3 ((List.length (List.set q2.1.2.1 (Int.toNat x2.2.1) (u5 (ix za q2.1.2.1 x2.2.1) (List.set (ix za q2.1.2.1 x2.2.1).2.2.2.2.2.1 (Int.toNat x2.2.2.1) q3.1)))):Int) (bif decide (List.length q2.1.2.1 ≤ Int.toNat x3) then none else inR x4 ((List.length (List.getD (List.set q2.1.2.1 (Int.toNat x2.2.1) (u5 (ix za q2.1.2.1 x2.2.1) (List.set (ix za q2.1.2.1 x2.2.1).2.2.2.2.2.1 (Int.toNat x2.2.2.1) q3.1))) (Int.toNat x3) (zb zm)).2.2.2.2.2.1):Int) (Option.bind (zde (List.getD (List.getD (List.set q2.1.2.1 (Int.toNat x2.2.1) (u5 (ix za q2.1.2.1 x2.2.1) (List.set (ix za q2.1.2.1 x2.2.1).2.2.2.2.2.1 (Int.toNat x2.2.2.1) q3.1))) (Int.toNat x3) (zb zm)).2.2.2.2.2.1 (Int.toNat x4) (zb (.arr 4 tU)),x5,x6,())) fun q4=>inR x3 ((List.length (List.set q2.1.2.1 (Int.toNat x2.2.1) (u5 (ix za q2.1.2.1 x2.2.1) (List.set (ix za q2.1.2.1 x2.2.1).2.2.2.2.2.1 (Int.toNat x2.2.2.1) q3.1)))):Int) (bif decide (List.length q2.1.2.1 ≤ Int.toNat x3) then none else inR x4 ((List.length (List.getD (List.set q2.1.2.1 (Int.toNat x2.2.1) (u5 (ix za q2.1.2.1 x2.2.1) (List.set (ix za q2.1.2.1 x2.2.1).2.2.2.2.2.1 (Int.toNat x2.2.2.1) q3.1))) (Int.toNat x3) (zb zm)).2.2.2.2.2.1):Int) (bif q4.2.1 != 0 then some ((0,[],[],[],[],[],()),q4.2.1,()) else bif decide (List.length q2.1.2.1 = List.length (List.set (List.set q2.1.2.1 (Int.toNat x2.2.1) (u5 (ix za q2.1.2.1 x2.2.1) (List.set (ix za q2.1.2.1 x2.2.1).2.2.2.2.2.1 (Int.toNat x2.2.2.1) q3.1))) (Int.toNat x3) (u5 (List.getD (List.set q2.1.2.1 (Int.toNat x2.2.1) (u5 (ix za q2.1.2.1 x2.2.1) (List.set (ix za q2.1.2.1 x2.2.1).2.2.2.2.2.1 (Int.toNat x2.2.2.1) q3.1))) (Int.toNat x3) (zb zm)) (List.set (List.getD (List.set q2.1.2.1 (Int.toNat x2.2.1) (u5 (ix za q2.1.2.1 x2.2.1) (List.set (ix za q2.1.2.1 x2.2.1).2.2.2.2.2.1 (Int.toNat x2.2.2.1) q3.1))) (Int.toNat x3) (zb zm)).2.2.2.2.2.1 (Int.toNat x4) q4.1)))) then bif decide (List.length q2.1.2.2.1 = List.length q2.1.2.2.1) then some ((u1 q2.1 (List.set (List.set q2.1.2.1 (Int.toNat x2.2.1) (u5 (ix za q2.1.2.1 x2.2.1) (List.set (ix za q2.1.2.1 x2.2.1).2.2.2.2.2.1 (Int.toNat x2.2.2.1) q3.1))) (Int.toNat x3) (u5 (List.getD (List.set q2.1.2.1 (Int.toNat x2.2.1) (u5 (ix za q2.1.2.1 x2.2.1) (List.set (ix za q2.1.2.1 x2.2.1).2.2.2.2.2.1 (Int.toNat x2.2.2.1) q3.1))) (Int.toNat x3) (zb zm)) (List.set (List.getD (List.set q2.1.2.1 (Int.toNat x2.2.1) (u5 (ix za q2.1.2.1 x2.2.1) (List.set (ix za q2.1.2.1 x2.2.1).2.2.2.2.2.1 (Int.toNat x2.2.2.1) q3.1))) (Int.toNat x3) (zb zm)).2.2.2.2.2.1 (Int.toNat x4) q4.1)))),0,()) else none else none)))))))) else Option.bind (qE (x1,())) fun q5=>some ((0,[],[],[],[],[],()),5,()) else Option.bind (qE (x1,())) fun q6=>some ((0,[],[],[],[],[],()),5,()) else some ((0,[],[],[],[],[],()),1,())
abbrev ztM:Fun:=⟨6,(ch [zu,zq,tMe,tI,tI,tI,tU]),(ch [zq,tI]),3,vR⟩
theorem zEo:Sq ztM:=zHM (d:=true) (js:=[999999]) (fs:=[(19,Tryz.f19),(20,Tryz.f20),(21,Tryz.f21),(22,Tryz.f22),(50,Tryz.f50),(51,Tryz.f51),(53,Tryz.f53),(47,Tryz.f47)]) (n:=3) ⟨⟨Tryz.func19,by kernel_rfl⟩,⟨Tryz.func20,by kernel_rfl⟩,⟨Tryz.func21,by kernel_rfl⟩,⟨Tryz.func22,by kernel_rfl⟩,⟨Tryz.func50,by kernel_rfl⟩,⟨Tryz.func51,by kernel_rfl⟩,⟨Tryz.func53,by kernel_rfl⟩,⟨Tryz.func47,by kernel_rfl⟩,trivial⟩ (K:=0) Tryz.func6 (by kernel_rfl) (funext fun (x0,x1,x2,x3,x4,x5,x6,())=>by kernel_rfl)
def zfP:(zf × (ze × (pMe × (Int × (Int × Unit)))))→Option (ze × (Int × Unit)):=fun (x0,x1,x2,x3,x4,()) =>
  Option.bind (zdf (x0,x1,x2,x3,x4,())) fun q0=>bif q0.1 then inR x2.2.1 ((List.length x0.2.2.2.2.1):Int) (inR x2.2.1 ((List.length x1.2.1):Int) (inR x3 (↑4:Int) (inR x2.2.2.1 ((List.length x0.2.2.1):Int) (bif (ix qG x0.2.2.1 x2.2.2.1).2.2.2.1 then bif decide (x4 ≤ wU ((ix qf x0.2.2.2.2.1 x2.2.1).2.2.2.2.2.1 - List.getD (ix za x1.2.1 x2.2.1).2.2.2.2.2.2.2.1 (Int.toNat x3) (0:Int))) then Option.bind (qE (x1,())) fun q1=>inR x2.2.1 ((List.length q1.1.2.1):Int) (inR x3 (↑4:Int) (inR x2.2.1 ((List.length q1.1.2.1):Int) (inR x3 (↑4:Int) (inR x2.2.1 ((List.length (List.set q1.1.2.1 (Int.toNat x2.2.1) (u7 (ix za q1.1.2.1 x2.2.1) (List.set (ix za q1.1.2.1 x2.2.1).2.2.2.2.2.2.2.1 (Int.toNat x3) (wU (List.getD (ix za q1.1.2.1 x2.2.1).2.2.2.2.2.2.2.1 (Int.toNat x3) (0:Int) + x4)))))):Int) (bif decide (List.length q1.1.2.1 ≤ Int.toNat x2.2.1) then none else inR x2.2.2.1 ((List.length (List.getD (List.set q1.1.2.1 (Int.toNat x2.2.1) (u7 (ix za q1.1.2.1 x2.2.1) (List.set (ix za q1.1.2.1 x2.2.1).2.2.2.2.2.2.2.1 (Int.toNat x3) (wU (List.getD (ix za q1.1.2.1 x2.2.1).2.2.2.2.2.2.2.1 (Int.toNat x3) (0:Int) + x4))))) (Int.toNat x2.2.1) (zb zm)).2.2.2.2.2.1):Int) (Option.bind (zde (List.getD (List.getD (List.set q1.1.2.1 (Int.toNat x2.2.1) (u7 (ix za q1.1.2.1 x2.2.1) (List.set (ix za q1.1.2.1 x2.2.1).2.2.2.2.2.2.2.1 (Int.toNat x3) (wU (List.getD (ix za q1.1.2.1 x2.2.1).2.2.2.2.2.2.2.1 (Int.toNat x3) (0:Int) + x4))))) (Int.toNat x2.2.1) (zb zm)).2.2.2.2.2.1 (Int.toNat x2.2.2.1) (zb (.arr 4 tU)),x3,x4,())) fun q2=>inR x2.2.1 ((List.length (List.set q1.1.2.1 (Int.toNat x2.2.1) (u7 (ix za q1.1.2.1 x2.2.1) (List.set (ix za q1.1.2.1 x2.2.1).2.2.2.2.2.2.2.1 (Int.toNat x3) (wU (List.getD (ix za q1.1.2.1 x2.2.1).2.2.2.2.2.2.2.1 (Int.toNat x3) (0:Int) + x4)))))):Int) (bif decide (List.length q1.1.2.1 ≤ Int.toNat x2.2.1) then none else inR x2.2.2.1 ((List.length (List.getD (List.set q1.1.2.1 (Int.toNat x2.2.1) (u7 (ix za q1.1.2.1 x2.2.1) (List.set (ix za q1.1.2.1 x2.2.1).2.2.2.2.2.2.2.1 (Int.toNat x3) (wU (List.getD (ix za q1.1.2.1 x2.2.1).2.2.2.2.2.2.2.1 (Int.toNat x3) (0:Int) + x4))))) (Int.toNat x2.2.1) (zb zm)).2.2.2.2.2.1):Int) (bif q2.2.1 != 0 then some ((0,[],[],[],[],[],()),q2.2.1,()) else bif decide (List.length q1.1.2.1 = List.length (List.set (List.set q1.1.2.1 (Int.toNat x2.2.1) (u7 (ix za q1.1.2.1 x2.2.1) (List.set (ix za q1.1.2.1 x2.2.1).2.2.2.2.2.2.2.1 (Int.toNat x3) (wU (List.getD (ix za q1.1.2.1 x2.2.1).2.2.2.2.2.2.2.1 (Int.toNat x3) (0:Int) + x4))))) (Int.toNat x2.2.1) (u5 (List.getD (List.set q1.1.2.1 (Int.toNat x2.2.1) (u7 (ix za q1.1.2.1 x2.2.1) (List.set (ix za q1.1.2.1 x2.2.1).2.2.2.2.2.2.2.1 (Int.toNat x3) (wU (List.getD (ix za q1.1.2.1 x2.2.1).2.2.2.2.2.2.2.1 (Int.toNat x3) (0:Int) + x4))))) (Int.toNat x2.2.1) (zb zm)) (List.set (List.getD (List.set q1.1.2.1 (Int.toNat x2.2.1) (u7 (ix za q1.1.2.1 x2.2.1) (List.set (ix za q1.1.2.1 x2.2.1).2.2.2.2.2.2.2.1 (Int.toNat x3) (wU (List.getD (ix za q1.1.2.1 x2.2.1).2.2.2.2.2.2.2.1 (Int.toNat x3) (0:Int) + x4))))) (Int.toNat x2.2.1) (zb zm)).2.2.2.2.2.1 (Int.toNat x2.2.2.1) q2.1)))) then bif decide (List.length q1.1.2.2.1 = List.length q1.1.2.2.1) then some ((u1 q1.1 (List.set (List.set q1.1.2.1 (Int.toNat x2.2.1) (u7 (ix za q1.1.2.1 x2.2.1) (List.set (ix za q1.1.2.1 x2.2.1).2.2.2.2.2.2.2.1 (Int.toNat x3) (wU (List.getD (ix za q1.1.2.1 x2.2.1).2.2.2.2.2.2.2.1 (Int.toNat x3) (0:Int) + x4))))) (Int.toNat x2.2.1) (u5 (List.getD (List.set q1.1.2.1 (Int.toNat x2.2.1) (u7 (ix za q1.1.2.1 x2.2.1) (List.set (ix za q1.1.2.1 x2.2.1).2.2.2.2.2.2.2.1 (Int.toNat x3) (wU (List.getD (ix za q1.1.2.1 x2.2.1).2.2.2.2.2.2.2.1 (Int.toNat x3) (0:Int) + x4))))) (Int.toNat x2.2.1) (zb zm)) (List.set (List.getD (List.set q1.1.2.1 (Int.toNat x2.2.1) (u7 (ix za q1.1.2.1 x2.2.1) (List.set (ix za q1.1.2.1 x2.2.1).2.2.2.2.2.2.2.1 (Int.toNat x3) (wU (List.getD (ix za q1.1.2.1 x2.2.1).2.2.2.2.2.2.2.1 (Int.toNat x3) (0:Int) + x4))))) (Int.toNat x2.2.1) (zb zm)).2.2.2.2.2.1 (Int.toNat x2.2.2.1) q2.1)))),0,()) else none else none)))))))) else Option.bind (qE (x1,())) fun q3=>some ((0,[],[],[],[],[],()),8,()) else bif decide (x4 ≤ wU ((ix qf x0.2.2.2.2.1 x2.2.1).2.2.2.2.2.1 - List.getD (ix za x1.2.1 x2.2.1).2.2.2.2.2.2.2.1 (Int.toNat x3) (0:Int))) then Option.bind (qE (x1,())) fun q4=>some ((0,[],[],[],[],[],()),5,()) else Option.bind (qE (x1,())) fun q5=>some ((0,[],[],[],[],[],()),5,()))))) else some ((0,[],[],[],[],[],()),1,())
abbrev ztN:Fun:=⟨25,(ch [zu,zq,tMe,tI,tU]),(ch [zq,tI]),3,zfP⟩
theorem zEp:Sq ztN:=zHM (d:=true) (js:=[999999]) (fs:=[(19,Tryz.f19),(20,Tryz.f20),(22,Tryz.f22),(58,Tryz.f58),(50,Tryz.f50),(53,Tryz.f53),(47,Tryz.f47)]) (n:=3) ⟨⟨Tryz.func19,by kernel_rfl⟩,⟨Tryz.func20,by kernel_rfl⟩,⟨Tryz.func22,by kernel_rfl⟩,⟨Tryz.func58,by kernel_rfl⟩,⟨Tryz.func50,by kernel_rfl⟩,⟨Tryz.func53,by kernel_rfl⟩,⟨Tryz.func47,by kernel_rfl⟩,trivial⟩ (K:=0) Tryz.func25 (by kernel_rfl) (funext fun (x0,x1,x2,x3,x4,())=>by kernel_rfl)
def zjn:(zf × (ze × (pMe × (Int × (Int × Unit)))))→Option (ze × (Int × Unit)):=fun (x0,x1,x2,x3,x4,()) =>
  Option.bind (zdf (x0,x1,x2,x3,x4,())) fun q0=>bif q0.1 then Option.bind (qE (x1,())) fun q1=>inR x2.2.1 ((List.length q1.1.2.1):Int) (bif decide (List.length q1.1.2.1 ≤ Int.toNat x2.2.1) then none else inR x2.2.2.1 ((List.length (ix za q1.1.2.1 x2.2.1).2.2.2.2.2.1):Int) (Option.bind (zdd (List.getD (ix za q1.1.2.1 x2.2.1).2.2.2.2.2.1 (Int.toNat x2.2.2.1) (zb (.arr 4 tU)),x3,x4,())) fun q2=>inR x2.2.1 ((List.length q1.1.2.1):Int) (bif decide (List.length q1.1.2.1 ≤ Int.toNat x2.2.1) then none else inR x2.2.2.1 ((List.length (ix za q1.1.2.1 x2.2.1).2.2.2.2.2.1):Int) (bif q2.2.1 != 0 then some ((0,[],[],[],[],[],()),q2.2.1,()) else inR x2.2.1 ((List.length (List.set q1.1.2.1 (Int.toNat x2.2.1) (u5 (ix za q1.1.2.1 x2.2.1) (List.set (ix za q1.1.2.1 x2.2.1).2.2.2.2.2.1 (Int.toNat x2.2.2.1) q2.1)))):Int) (inR x3 (↑4:Int) (inR x2.2.1 ((List.length (List.set q1.1.2.1 (Int.toNat x2.2.1) (u5 (ix za q1.1.2.1 x2.2.1) (List.set (ix za q1.1.2.1 x2.2.1).2.2.2.2.2.1 (Int.toNat x2.2.2.1) q2.1)))):Int) (inR x3 (↑4:Int) (bif decide (List.length q1.1.2.1 = List.length (List.set (List.set q1.1.2.1 (Int.toNat x2.2.1) (u5 (ix za q1.1.2.1 x2.2.1) (List.set (ix za q1.1.2.1 x2.2.1).2.2.2.2.2.1 (Int.toNat x2.2.2.1) q2.1))) (Int.toNat x2.2.1) (u8 (List.getD (List.set q1.1.2.1 (Int.toNat x2.2.1) (u5 (ix za q1.1.2.1 x2.2.1) (List.set (ix za q1.1.2.1 x2.2.1).2.2.2.2.2.1 (Int.toNat x2.2.2.1) q2.1))) (Int.toNat x2.2.1) (zb zm)) (List.set (List.getD (List.set q1.1.2.1 (Int.toNat x2.2.1) (u5 (ix za q1.1.2.1 x2.2.1) (List.set (ix za q1.1.2.1 x2.2.1).2.2.2.2.2.1 (Int.toNat x2.2.2.1) q2.1))) (Int.toNat x2.2.1) (zb zm)).2.2.2.2.2.2.2.2.1 (Int.toNat x3) (wU (List.getD (List.getD (List.set q1.1.2.1 (Int.toNat x2.2.1) (u5 (ix za q1.1.2.1 x2.2.1) (List.set (ix za q1.1.2.1 x2.2.1).2.2.2.2.2.1 (Int.toNat x2.2.2.1) q2.1))) (Int.toNat x2.2.1) (zb zm)).2.2.2.2.2.2.2.2.1 (Int.toNat x3) (0:Int) + x4)))))) then bif decide (List.length q1.1.2.2.1 = List.length q1.1.2.2.1) then some ((u1 q1.1 (List.set (List.set q1.1.2.1 (Int.toNat x2.2.1) (u5 (ix za q1.1.2.1 x2.2.1) (List.set (ix za q1.1.2.1 x2.2.1).2.2.2.2.2.1 (Int.toNat x2.2.2.1) q2.1))) (Int.toNat x2.2.1) (u8 (List.getD (List.set q1.1.2.1 (Int.toNat x2.2.1) (u5 (ix za q1.1.2.1 x2.2.1) (List.set (ix za q1.1.2.1 x2.2.1).2.2.2.2.2.1 (Int.toNat x2.2.2.1) q2.1))) (Int.toNat x2.2.1) (zb zm)) (List.set (List.getD (List.set q1.1.2.1 (Int.toNat x2.2.1) (u5 (ix za q1.1.2.1 x2.2.1) (List.set (ix za q1.1.2.1 x2.2.1).2.2.2.2.2.1 (Int.toNat x2.2.2.1) q2.1))) (Int.toNat x2.2.1) (zb zm)).2.2.2.2.2.2.2.2.1 (Int.toNat x3) (wU (List.getD (List.getD (List.set q1.1.2.1 (Int.toNat x2.2.1) (u5 (ix za q1.1.2.1 x2.2.1) (List.set (ix za q1.1.2.1 x2.2.1).2.2.2.2.2.1 (Int.toNat x2.2.2.1) q2.1))) (Int.toNat x2.2.1) (zb zm)).2.2.2.2.2.2.2.2.1 (Int.toNat x3) (0:Int) + x4)))))),0,()) else none else none)))))))) else some ((0,[],[],[],[],[],()),1,())
abbrev ztO:Fun:=⟨26,(ch [zu,zq,tMe,tI,tU]),(ch [zq,tI]),3,zjn⟩
theorem zEq:Sq ztO:=zHM (d:=true) (js:=[999999]) (fs:=[(19,Tryz.f19),(21,Tryz.f21),(59,Tryz.f59),(51,Tryz.f51),(47,Tryz.f47)]) (n:=3) ⟨⟨Tryz.func19,by kernel_rfl⟩,⟨Tryz.func21,by kernel_rfl⟩,⟨Tryz.func59,by kernel_rfl⟩,⟨Tryz.func51,by kernel_rfl⟩,⟨Tryz.func47,by kernel_rfl⟩,trivial⟩ (K:=0) Tryz.func26 (by kernel_rfl) (funext fun (x0,x1,x2,x3,x4,())=>by kernel_rfl)
def zkz:(zf × (ze × (pMe × (Int × (Int × (Int × Unit))))))→Option (ze × (Int × Unit)):=fun (x0,x1,x2,x3,x4,x5,()) =>
  Option.bind (zdf (x0,x1,x2,x4,x5,())) fun q0=>bif q0.1 then bif x3 == x2.2.2.1 then some ((0,[],[],[],[],[],()),1,()) else Option.bind (zd0 (x0,x1,(x2.1,x2.2.1,x3,(zb tMe).2.2.2),())) fun q1=>bif q1.1 then Option.bind (qE (x1,())) fun q2=>inR x2.2.1 ((List.length q2.1.2.1):Int) (bif decide (List.length q2.1.2.1 ≤ Int.toNat x2.2.1) then none else inR x2.2.2.1 ((List.length (ix za q2.1.2.1 x2.2.1).2.2.2.2.2.1):Int) (Option.bind (zdd (List.getD (ix za q2.1.2.1 x2.2.1).2.2.2.2.2.1 (Int.toNat x2.2.2.1) (zb (.arr 4 tU)),x4,x5,())) fun q3=>inR x2.2.1 ((List.length q2.1.2.1):Int) (bif decide (List.length q2.1.2.1 ≤ Int.toNat x2.2.1) then none else inR x2.2.2.1 ((List.length (ix za q2.1.2.1 x2.2.1).2.2.2.2.2.1):Int) (bif q3.2.1 != 0 then some ((0,[],[],[],[],[],()),q3.2.1,()) else inR x2.2.1 ((List.length (List.set q2.1.2.1 (Int.toNat x2.2.1) (u5 (ix za q2.1.2.1 x2.2.1) (List.set (ix za q2.1.2.1 x2.2.1).2.2.2.2.2.1 (Int.toNat x2.2.2.1) q3.1)))):Int) (bif decide (List.length q2.1.2.1 ≤ Int.toNat x2.2.1) then none else inR x3 ((List.length (List.getD (List.set q2.1.2.1 (Int.toNat x2.2.1) (u5 (ix za q2.1.2.1 x2.2.1) (List.set (ix za q2.1.2.1 x2.2.1).2.2.2.2.2.1 (Int.toNat x2.2.2.1) q3.1))) (Int.toNat x2.2.1) (zb zm)).2.2.2.2.2.1):Int) (Option.bind (zde (List.getD (List.getD (List.set q2.1.2.1 (Int.toNat x2.2.1) (u5 (ix za q2.1.2.1 x2.2.1) (List.set (ix za q2.1.2.1 x2.2.1).2.2.2.2.2.1 (Int.toNat x2.2.2.1) q3.1))) (Int.toNat x2.2.1) (zb zm)).2.2.2.2.2.1 (Int.toNat x3) (zb (.arr 4 tU)),x4,x5,())) fun q4=>inR x2.2.1 ((List.length (List.set q2.1.2.1 (Int.toNat x2.2.1) (u5 (ix za q2.1.2.1 x2.2.1) (List.set (ix za q2.1.2.1 x2.2.1).2.2.2.2.2.1 (Int.toNat x2.2.2.1) q3.1)))):Int) (bif decide (List.length q2.1.2.1 ≤ Int.toNat x2.2.1) then none else inR x3 ((List.length (List.getD (List.set q2.1.2.1 (Int.toNat x2.2.1) (u5 (ix za q2.1.2.1 x2.2.1) (List.set (ix za q2.1.2.1 x2.2.1).2.2.2.2.2.1 (Int.toNat x2.2.2.1) q3.1))) (Int.toNat x2.2.1) (zb zm)).2.2.2.2.2.1):Int) (bif q4.2.1 != 0 then some ((0,[],[],[],[],[],()),q4.2.1,()) else bif decide (List.length q2.1.2.1 = List.length (List.set (List.set q2.1.2.1 (Int.toNat x2.2.1) (u5 (ix za q2.1.2.1 x2.2.1) (List.set (ix za q2.1.2.1 x2.2.1).2.2.2.2.2.1 (Int.toNat x2.2.2.1) q3.1))) (Int.toNat x2.2.1) (u5 (List.getD (List.set q2.1.2.1 (Int.toNat x2.2.1) (u5 (ix za q2.1.2.1 x2.2.1) (List.set (ix za q2.1.2.1 x2.2.1).2.2.2.2.2.1 (Int.toNat x2.2.2.1) q3.1))) (Int.toNat x2.2.1) (zb zm)) (List.set (List.getD (List.set q2.1.2.1 (Int.toNat x2.2.1) (u5 (ix za q2.1.2.1 x2.2.1) (List.set (ix za q2.1.2.1 x2.2.1).2.2.2.2.2.1 (Int.toNat x2.2.2.1) q3.1))) (Int.toNat x2.2.1) (zb zm)).2.2.2.2.2.1 (Int.toNat x3) q4.1)))) then bif decide (List.length q2.1.2.2.1 = List.length q2.1.2.2.1) then some ((u1 q2.1 (List.set (List.set q2.1.2.1 (Int.toNat x2.2.1) (u5 (ix za q2.1.2.1 x2.2.1) (List.set (ix za q2.1.2.1 x2.2.1).2.2.2.2.2.1 (Int.toNat x2.2.2.1) q3.1))) (Int.toNat x2.2.1) (u5 (List.getD (List.set q2.1.2.1 (Int.toNat x2.2.1) (u5 (ix za q2.1.2.1 x2.2.1) (List.set (ix za q2.1.2.1 x2.2.1).2.2.2.2.2.1 (Int.toNat x2.2.2.1) q3.1))) (Int.toNat x2.2.1) (zb zm)) (List.set (List.getD (List.set q2.1.2.1 (Int.toNat x2.2.1) (u5 (ix za q2.1.2.1 x2.2.1) (List.set (ix za q2.1.2.1 x2.2.1).2.2.2.2.2.1 (Int.toNat x2.2.2.1) q3.1))) (Int.toNat x2.2.1) (zb zm)).2.2.2.2.2.1 (Int.toNat x3) q4.1)))),0,()) else none else none)))))))) else some ((0,[],[],[],[],[],()),1,()) else some ((0,[],[],[],[],[],()),1,())
abbrev zvo:Fun:=⟨27,(ch [zu,zq,tMe,tI,tI,tU]),(ch [zq,tI]),3,zkz⟩
theorem zF1:Sq zvo:=zHM (d:=true) (js:=[999999]) (fs:=[(19,Tryz.f19),(21,Tryz.f21),(22,Tryz.f22),(51,Tryz.f51),(53,Tryz.f53),(47,Tryz.f47)]) (n:=3) ⟨⟨Tryz.func19,by kernel_rfl⟩,⟨Tryz.func21,by kernel_rfl⟩,⟨Tryz.func22,by kernel_rfl⟩,⟨Tryz.func51,by kernel_rfl⟩,⟨Tryz.func53,by kernel_rfl⟩,⟨Tryz.func47,by kernel_rfl⟩,trivial⟩ (K:=0) Tryz.func27 (by kernel_rfl) (funext fun (x0,x1,x2,x3,x4,x5,())=>by kernel_rfl)
abbrev L13:List Fun:=ztM :: ztN :: ztO :: zvo :: L12
theorem h13:Sds Tryz.prog E0 L13:=⟨zEo,zEp,zEq,zF1,h12⟩
theorem zLr {d:Bool} {F:Fun} {f:Go.Func} {K:Nat} (hf:Tryz.prog.funcs[F.id]? = some f) (ho:jY f = true) (h:evF (En E0 d L13) K f F.md F.a F.r = F.spec):Sd Tryz.prog E0 F:=mkS h13 hf ho h
def zbt:Unit→Option (Bool × Unit):=fun () =>
  Option.bind (zrg ()) fun q0=>Option.bind (zvl (q0.1,())) fun q1=>Option.bind (zfP (q0.1,q1.1,(1,1,(zb tMe).2.2),2,5,())) fun q2=>Option.bind (zjn (q0.1,q2.1,(1,1,(zb tMe).2.2),2,2,())) fun q3=>Option.bind (zr3 (q0.1,q3.1,(1,1,(zb tMe).2.2),())) fun q4=>Option.bind (zkz (q0.1,q3.1,(1,1,(zb tMe).2.2),1,2,1,())) fun q5=>Option.bind (vR (q0.1,q5.1,(1,1,(zb tMe).2.2),2,1,2,2,())) fun q6=>Option.bind (vR (q0.1,q5.1,(1,1,(zb tMe).2.2),0,1,2,2,())) fun q7=>Option.bind (zjn (q0.1,q6.1,(1,1,(zb tMe).2.2),2,1,())) fun q8=>Option.bind (zfP (q0.1,q1.1,(u2 (u0 (zb tMe) 0) 1),2,5,())) fun q9=>Option.bind (zfP (q0.1,q2.1,(1,1,(zb tMe).2.2),2,996,())) fun q10=>Option.bind (zkz (q0.1,q3.1,(1,1,(zb tMe).2.2),0,2,1,())) fun q11=>bif q1.2.1 != 0 then some (false,()) else bif q2.2.1 != 0 then some (false,()) else bif q3.2.1 != 0 then some (false,()) else bif q4.2.1 != 0 then some (false,()) else bif q5.2.1 != 0 then some (false,()) else bif q6.2.1 != 0 then some (false,()) else bif ((List.length q6.1.2.1):Int) != 3 then some (false,()) else bif eqI (.arr 4 tU) q4.1 (zi (zi (zi (zb (.arr 4 tU)) 0 0) 1 0) 2 3) then bif decide (2 < ((List.length q6.1.2.1):Int)) then bif decide (1 < ((List.length (ix za q6.1.2.1 2).2.2.2.2.2.1):Int)) then bif List.getD (List.getD (ix za q6.1.2.1 2).2.2.2.2.2.1 (Int.toNat 1) (zb (.arr 4 tU))) (Int.toNat 2) (0:Int) == 2 then bif decide (1 < ((List.length q6.1.2.1):Int)) then bif decide (1 < ((List.length (ix za q6.1.2.1 1).2.2.2.2.2.1):Int)) then bif List.getD (List.getD (ix za q6.1.2.1 1).2.2.2.2.2.1 (Int.toNat 1) (zb (.arr 4 tU))) (Int.toNat 2) (0:Int) == 1 then bif q7.2.1 == 5 then bif q8.2.1 == 6 then bif q9.2.1 == 5 then bif q10.2.1 == 8 then bif q11.2.1 == 1 then bif decide (1 < ((List.length q1.1.2.1):Int)) then bif List.getD (ix za q1.1.2.1 1).2.2.2.2.2.2.2.1 (Int.toNat 2) (0:Int) == 0 then bif decide (1 < ((List.length q6.1.2.1):Int)) then bif List.getD (ix za q6.1.2.1 1).2.2.2.2.2.2.2.2.1 (Int.toNat 2) (0:Int) == 2 then some (true,()) else some (false,()) else none else some (false,()) else none else some (false,()) else some (false,()) else some (false,()) else some (false,()) else some (false,()) else some (false,()) else none else none else some (false,()) else none else none else some (false,())
abbrev zr5:Fun:=⟨7,.unit,(ch [.bool]),0,zbt⟩
theorem zCb:Sq zr5:=zLr (d:=false) (K:=0) Tryz.func7 (by kernel_rfl) (funext fun ()=>by kernel_rfl)
abbrev L14:List Fun:=zr5 :: L13
theorem h14:Sds Tryz.prog E0 L14:=⟨zCb,h13⟩
theorem zLs {d:Bool} {F:Fun} {f:Go.Func} {S:Nat→F.a.I→Option F.r.I} (hf:Tryz.prog.funcs[F.id]? = some f) (ho:jY f = true) (h:∀ K,evF (En E0 d L14) K f F.md F.a F.r = S K) (e:S K0 = F.spec):Sd Tryz.prog E0 F:=mkS h14 hf ho ((h K0).trans e)
abbrev zHN:Env:=En E0 false L14
abbrev zaj:Type:=Int × Int × zf × ze × pMe × vY × ze
abbrev zlP:zaj→St:=fun (v11,v12,o0,o1,o2,o3,o4)=>St.mk [(4,.bp 0 []),(5,.bp 1 []),(6,.bp 2 []),(7,.bp 3 []),(9,.bp 4 []),(11,.dat tI v11),(12,.dat tI v12)] [.bx (.dat zu o0) false,.bx (.dat zq o1) false,.bx (.dat tMe o2) false,.bx (.dat qL o3) false,.bx (.dat zq o4) false]
abbrev j3:Type:=Int × zf × ze × pMe × vY × ze
abbrev zlQ:j3→St:=fun (v11,o0,o1,o2,o3,o4)=>St.mk [(4,.bp 0 []),(5,.bp 1 []),(6,.bp 2 []),(7,.bp 3 []),(9,.bp 4 []),(11,.dat tI v11)] [.bx (.dat zu o0) false,.bx (.dat zq o1) false,.bx (.dat tMe o2) false,.bx (.dat qL o3) false,.bx (.dat zq o4) false]
def vZ (k0:j3→Option (Bool × Unit)) (k1:zaj→Option (Bool × Unit)):zaj→Option (Bool × Unit):=fun (v11,v12,o0,o1,o2,o3,o4) =>
  bif decide (v12 < ((List.length o0.2.2.1):Int)) then inR v11 ((List.length o1.2.1):Int) (inR v12 ((List.length (ix za o1.2.1 v11).2.2.2.2.2.1):Int) (bif v11 == o2.2.1 then bif v12 == o2.2.2.1 then inR o3.2.2.2.1 (↑4:Int) (inR o3.2.2.2.1 (↑4:Int) (bif v11 == o3.2.1 then bif v12 == o3.2.2.1 then inR o3.2.2.2.1 (↑4:Int) (inR o3.2.2.2.1 (↑4:Int) (inR v11 ((List.length o4.2.1):Int) (inR v12 ((List.length (ix za o4.2.1 v11).2.2.2.2.2.1):Int) (bif !eqI (.arr 4 tU) (List.getD (ix za o4.2.1 v11).2.2.2.2.2.1 (Int.toNat v12) (zb (.arr 4 tU))) (List.set (List.set (List.getD (ix za o1.2.1 v11).2.2.2.2.2.1 (Int.toNat v12) (zb (.arr 4 tU))) (Int.toNat o3.2.2.2.1) (wU (List.getD (List.getD (ix za o1.2.1 v11).2.2.2.2.2.1 (Int.toNat v12) (zb (.arr 4 tU))) (Int.toNat o3.2.2.2.1) (0:Int) - o3.2.2.2.2.1))) (Int.toNat o3.2.2.2.1) (wU (List.getD (List.set (List.getD (ix za o1.2.1 v11).2.2.2.2.2.1 (Int.toNat v12) (zb (.arr 4 tU))) (Int.toNat o3.2.2.2.1) (wU (List.getD (List.getD (ix za o1.2.1 v11).2.2.2.2.2.1 (Int.toNat v12) (zb (.arr 4 tU))) (Int.toNat o3.2.2.2.1) (0:Int) - o3.2.2.2.2.1))) (Int.toNat o3.2.2.2.1) (0:Int) + o3.2.2.2.2.1))) then some (false,()) else k1 (v11,wI (v12 + 1),o0,o1,o2,o3,o4))))) else inR v11 ((List.length o4.2.1):Int) (inR v12 ((List.length (ix za o4.2.1 v11).2.2.2.2.2.1):Int) (bif !eqI (.arr 4 tU) (List.getD (ix za o4.2.1 v11).2.2.2.2.2.1 (Int.toNat v12) (zb (.arr 4 tU))) (List.set (List.getD (ix za o1.2.1 v11).2.2.2.2.2.1 (Int.toNat v12) (zb (.arr 4 tU))) (Int.toNat o3.2.2.2.1) (wU (List.getD (List.getD (ix za o1.2.1 v11).2.2.2.2.2.1 (Int.toNat v12) (zb (.arr 4 tU))) (Int.toNat o3.2.2.2.1) (0:Int) - o3.2.2.2.2.1))) then some (false,()) else k1 (v11,wI (v12 + 1),o0,o1,o2,o3,o4))) else inR v11 ((List.length o4.2.1):Int) (inR v12 ((List.length (ix za o4.2.1 v11).2.2.2.2.2.1):Int) (bif !eqI (.arr 4 tU) (List.getD (ix za o4.2.1 v11).2.2.2.2.2.1 (Int.toNat v12) (zb (.arr 4 tU))) (List.set (List.getD (ix za o1.2.1 v11).2.2.2.2.2.1 (Int.toNat v12) (zb (.arr 4 tU))) (Int.toNat o3.2.2.2.1) (wU (List.getD (List.getD (ix za o1.2.1 v11).2.2.2.2.2.1 (Int.toNat v12) (zb (.arr 4 tU))) (Int.toNat o3.2.2.2.1) (0:Int) - o3.2.2.2.2.1))) then some (false,()) else k1 (v11,wI (v12 + 1),o0,o1,o2,o3,o4))))) else bif v11 == o3.2.1 then bif v12 == o3.2.2.1 then inR o3.2.2.2.1 (↑4:Int) (inR o3.2.2.2.1 (↑4:Int) (inR v11 ((List.length o4.2.1):Int) (inR v12 ((List.length (ix za o4.2.1 v11).2.2.2.2.2.1):Int) (bif !eqI (.arr 4 tU) (List.getD (ix za o4.2.1 v11).2.2.2.2.2.1 (Int.toNat v12) (zb (.arr 4 tU))) (List.set (List.getD (ix za o1.2.1 v11).2.2.2.2.2.1 (Int.toNat v12) (zb (.arr 4 tU))) (Int.toNat o3.2.2.2.1) (wU (List.getD (List.getD (ix za o1.2.1 v11).2.2.2.2.2.1 (Int.toNat v12) (zb (.arr 4 tU))) (Int.toNat o3.2.2.2.1) (0:Int) + o3.2.2.2.2.1))) then some (false,()) else k1 (v11,wI (v12 + 1),o0,o1,o2,o3,o4))))) else inR v11 ((List.length o4.2.1):Int) (inR v12 ((List.length (ix za o4.2.1 v11).2.2.2.2.2.1):Int) (bif !eqI (.arr 4 tU) (List.getD (ix za o4.2.1 v11).2.2.2.2.2.1 (Int.toNat v12) (zb (.arr 4 tU))) (List.getD (ix za o1.2.1 v11).2.2.2.2.2.1 (Int.toNat v12) (zb (.arr 4 tU))) then some (false,()) else k1 (v11,wI (v12 + 1),o0,o1,o2,o3,o4))) else inR v11 ((List.length o4.2.1):Int) (inR v12 ((List.length (ix za o4.2.1 v11).2.2.2.2.2.1):Int) (bif !eqI (.arr 4 tU) (List.getD (ix za o4.2.1 v11).2.2.2.2.2.1 (Int.toNat v12) (zb (.arr 4 tU))) (List.getD (ix za o1.2.1 v11).2.2.2.2.2.1 (Int.toNat v12) (zb (.arr 4 tU))) then some (false,()) else k1 (v11,wI (v12 + 1),o0,o1,o2,o3,o4))) else bif v11 == o3.2.1 then bif v12 == o3.2.2.1 then inR o3.2.2.2.1 (↑4:Int) (inR o3.2.2.2.1 (↑4:Int) (inR v11 ((List.length o4.2.1):Int) (inR v12 ((List.length (ix za o4.2.1 v11).2.2.2.2.2.1):Int) (bif !eqI (.arr 4 tU) (List.getD (ix za o4.2.1 v11).2.2.2.2.2.1 (Int.toNat v12) (zb (.arr 4 tU))) (List.set (List.getD (ix za o1.2.1 v11).2.2.2.2.2.1 (Int.toNat v12) (zb (.arr 4 tU))) (Int.toNat o3.2.2.2.1) (wU (List.getD (List.getD (ix za o1.2.1 v11).2.2.2.2.2.1 (Int.toNat v12) (zb (.arr 4 tU))) (Int.toNat o3.2.2.2.1) (0:Int) + o3.2.2.2.2.1))) then some (false,()) else k1 (v11,wI (v12 + 1),o0,o1,o2,o3,o4))))) else inR v11 ((List.length o4.2.1):Int) (inR v12 ((List.length (ix za o4.2.1 v11).2.2.2.2.2.1):Int) (bif !eqI (.arr 4 tU) (List.getD (ix za o4.2.1 v11).2.2.2.2.2.1 (Int.toNat v12) (zb (.arr 4 tU))) (List.getD (ix za o1.2.1 v11).2.2.2.2.2.1 (Int.toNat v12) (zb (.arr 4 tU))) then some (false,()) else k1 (v11,wI (v12 + 1),o0,o1,o2,o3,o4))) else inR v11 ((List.length o4.2.1):Int) (inR v12 ((List.length (ix za o4.2.1 v11).2.2.2.2.2.1):Int) (bif !eqI (.arr 4 tU) (List.getD (ix za o4.2.1 v11).2.2.2.2.2.1 (Int.toNat v12) (zb (.arr 4 tU))) (List.getD (ix za o1.2.1 v11).2.2.2.2.2.1 (Int.toNat v12) (zb (.arr 4 tU))) then some (false,()) else k1 (v11,wI (v12 + 1),o0,o1,o2,o3,o4))))) else k0 (wI (v11 + 1),o0,o1,o2,o3,o4)
abbrev zak (K:Nat) (k0:j3→Option (Bool × Unit)):zaj→Option (Bool × Unit):=zg (fun k1=>vZ k0 k1) K
theorem zuA (K:Nat) (n0:Nat):∀ n,evV zHN K Tryz.f3 0 (ch [.bool]) [1,1,1,1,0,1,0,0,1,0,0,1,0] [n0] zlP n = zg (fun k1=>vZ (evV zHN K Tryz.f3 0 (ch [.bool]) [1,1,1,1,0,1,0] [] zlQ n0) k1) n:=zo fun n1 (v11,v12,o0,o1,o2,o3,o4)=>by kernel_rfl
def ya (L1:zaj→Option (Bool × Unit)) (k0:j3→Option (Bool × Unit)):j3→Option (Bool × Unit):=fun (v11,o0,o1,o2,o3,o4) =>
  bif decide (v11 < ((List.length o0.1):Int)) then L1 (v11,0,o0,o1,o2,o3,o4) else Option.bind (zbt ()) fun q4=>bif q4.1 then some (true,()) else some (false,())
abbrev zgN (K:Nat):j3→Option (Bool × Unit):=zg (fun k0=>ya (zak K k0) k0) K
theorem zuB (K:Nat):∀ n,evV zHN K Tryz.f3 0 (ch [.bool]) [1,1,1,1,0,1,0] [] zlQ n = zg (fun k0=>ya (zak K k0) k0) n:=qJ (B:=fun L1 k0=>ya L1 k0) (V1:=fun n0=>evV zHN K Tryz.f3 0 (ch [.bool]) [1,1,1,1,0,1,0,0,1,0,0,1,0] [n0] zlP K) (W1:=fun k0=>(zak K k0)) (fun n0=>zuA K n0 K) fun n0 (v11,o0,o1,o2,o3,o4)=>by kernel_rfl
def zfv (L0:j3→Option (Bool × Unit)):(zf × (ze × (pMe × (vY × Unit))))→Option (Bool × Unit):=fun (x0,x1,x2,x3,()) =>
  Option.bind (vR (x0,x1,x2,x3.2.1,x3.2.2.1,x3.2.2.2.1,x3.2.2.2.2.1,())) fun q0=>bif q0.2.1 != 0 then Option.bind (zbt ()) fun q1=>bif q1.1 then some (true,()) else some (false,()) else Option.bind (zhD (x0,q0.1,())) fun q2=>bif q2.1 then bif x3.2.1 == x2.2.1 then some (false,()) else inR x2.2.1 ((List.length x0.1):Int) (inR x3.2.1 ((List.length x0.1):Int) (Option.bind (ze0 (ix qN x0.1 x2.2.1,ix qN x0.1 x3.2.1,())) fun q3=>bif q3.1 then L0 (0,x0,x1,x2,x3,q0.1.1,q0.1.2.1,q0.1.2.2.1,q0.1.2.2.2.1,q0.1.2.2.2.2.1,q0.1.2.2.2.2.2.1,()) else some (false,()))) else some (false,())
def P_law30_MoneyUp:(zf × ze × pMe × vY × Unit)→Option (Bool × Unit):=zfv (zgN K0)
abbrev zyP:Fun:=⟨3,(ch [zu,zq,tMe,qL]),(ch [.bool]),0,P_law30_MoneyUp⟩
theorem s_law30_MoneyUp:Sq zyP:=zLs (d:=false) (S:=fun K=>zfv (zgN K)) Tryz.func3 (by kernel_rfl) (fun K=>tr1 (T:=zfv) (zuB K K) fun (x0,x1,x2,x3,())=>by kernel_rfl) rfl
end
end Go.Proofs.YtokcjmkikhgkeaaGreatDoor
end
section
namespace Go.Proofs.YtokcjmkikhgkeaaGreatDoor
open Go.Ev
theorem zyQ {l:List Int} {g:Int × Unit→Option (Bool × Unit)} {p:Int→Bool} (hl:l.length ≤ Go.maxLen) (hp:∀ x ∈ l,g (x,()) = some (p x,())):zbI (l,some g,()) = some (j8 p l 0,()):=qQ (τ:=tI) (B:=zef) (fun _ _ _ _ _=>rfl) hl hp
theorem zcS {l:List Int} {g:Int × Unit→Option (Bool × Unit)} {p:Int→Bool} (hl:l.length ≤ Go.maxLen) (hp:∀ x ∈ l,g (x,()) = some (p x,())):qK (l,some g,()) = some (l.any p,()):=qm (τ:=tI) (f:=zbI) (zyQ hl hp)
theorem zuC {l:List zw} {g:zw × Unit→Option (Bool × Unit)} {p:zw→Bool} (hl:l.length ≤ Go.maxLen) (hp:∀ x ∈ l,g (x,()) = some (p x,())):zap (l,some g,()) = some (j8 p l 0,()):=qQ (τ:=zl) (B:=zc3) (fun _ _ _ _ _=>rfl) hl hp
theorem zjo {l:List zw} {g:zw × Unit→Option (Bool × Unit)} {p:zw→Bool} (hl:l.length ≤ Go.maxLen) (hp:∀ x ∈ l,g (x,()) = some (p x,())):yh (l,some g,()) = some (l.any p,()):=qm (τ:=zl) (f:=zap) (zuC hl hp)
theorem zsu {l:List qs} {g:qs × Unit→Option (Bool × Unit)} {p:qs→Bool} (hl:l.length ≤ Go.maxLen) (hp:∀ x ∈ l,g (x,()) = some (p x,())):yI (l,some g,()) = some (j8 p l 0,()):=qQ (τ:=qv) (B:=zaN) (fun _ _ _ _ _=>rfl) hl hp
theorem zo6 {l:List qs} {g:qs × Unit→Option (Bool × Unit)} {p:qs→Bool} (hl:l.length ≤ Go.maxLen) (hp:∀ x ∈ l,g (x,()) = some (p x,())):zau (l,some g,()) = some (l.any p,()):=qm (τ:=qv) (f:=yI) (zsu hl hp)
theorem zuD {l:List zk} {g:zk × Unit→Option (Bool × Unit)} {p:zk→Bool} (hl:l.length ≤ Go.maxLen) (hp:∀ x ∈ l,g (x,()) = some (p x,())):zaq (l,some g,()) = some (j8 p l 0,()):=qQ (τ:=zm) (B:=zc5) (fun _ _ _ _ _=>rfl) hl hp
theorem zqT {l:List zk} {g:zk × Unit→Option (Bool × Unit)} {p:zk→Bool} (hl:l.length ≤ Go.maxLen) (hp:∀ x ∈ l,g (x,()) = some (p x,())):jT (l,some g,()) = some (l.any p,()):=qm (τ:=zm) (f:=zaq) (zuD hl hp)
theorem zwB {l:List jD} {g:jD × Unit→Option (Bool × Unit)} {p:jD→Bool} (hl:l.length ≤ Go.maxLen) (hp:∀ x ∈ l,g (x,()) = some (p x,())):zbd (l,some g,()) = some (j8 p l 0,()):=qQ (τ:=qC) (B:=zdB) (fun _ _ _ _ _=>rfl) hl hp
theorem zsv {l:List jD} {g:jD × Unit→Option (Bool × Unit)} {p:jD→Bool} (hl:l.length ≤ Go.maxLen) (hp:∀ x ∈ l,g (x,()) = some (p x,())):zdc (l,some g,()) = some (l.any p,()):=qm (τ:=qC) (f:=zbd) (zwB hl hp)
theorem zwC {l:List qj} {g:qj × Unit→Option (Bool × Unit)} {p:qj→Bool} (hl:l.length ≤ Go.maxLen) (hp:∀ x ∈ l,g (x,()) = some (p x,())):zbe (l,some g,()) = some (j8 p l 0,()):=qQ (τ:=zL) (B:=zdD) (fun _ _ _ _ _=>rfl) hl hp
theorem zjM {l:List qj} {g:qj × Unit→Option (Bool × Unit)} {p:qj→Bool} (hl:l.length ≤ Go.maxLen) (hp:∀ x ∈ l,g (x,()) = some (p x,())):jo (l,some g,()) = some (l.any p,()):=qm (τ:=zL) (f:=zbe) (zwC hl hp)
theorem zwD {l:List qw} {g:qw × Unit→Option (Bool × Unit)} {p:qw→Bool} (hl:l.length ≤ Go.maxLen) (hp:∀ x ∈ l,g (x,()) = some (p x,())):zbf (l,some g,()) = some (j8 p l 0,()):=qQ (τ:=qh) (B:=zdE) (fun _ _ _ _ _=>rfl) hl hp
theorem zjN {l:List qw} {g:qw × Unit→Option (Bool × Unit)} {p:qw→Bool} (hl:l.length ≤ Go.maxLen) (hp:∀ x ∈ l,g (x,()) = some (p x,())):jp (l,some g,()) = some (l.any p,()):=qm (τ:=qh) (f:=zbf) (zwD hl hp)
theorem zuE {l:List zt} {g:zt × Unit→Option (Bool × Unit)} {p:zt→Bool} (hl:l.length ≤ Go.maxLen) (hp:∀ x ∈ l,g (x,()) = some (p x,())):zar (l,some g,()) = some (j8 p l 0,()):=qQ (τ:=zz) (B:=zc8) (fun _ _ _ _ _=>rfl) hl hp
theorem zjp {l:List zt} {g:zt × Unit→Option (Bool × Unit)} {p:zt→Bool} (hl:l.length ≤ Go.maxLen) (hp:∀ x ∈ l,g (x,()) = some (p x,())):jc (l,some g,()) = some (l.any p,()):=qm (τ:=zz) (f:=zar) (zuE hl hp)
theorem zuF {l:List zn} {g:zn × Unit→Option (Bool × Unit)} {p:zn→Bool} (hl:l.length ≤ Go.maxLen) (hp:∀ x ∈ l,g (x,()) = some (p x,())):zas (l,some g,()) = some (j8 p l 0,()):=qQ (τ:=zr) (B:=zc9) (fun _ _ _ _ _=>rfl) hl hp
theorem zqU {l:List zn} {g:zn × Unit→Option (Bool × Unit)} {p:zn→Bool} (hl:l.length ≤ Go.maxLen) (hp:∀ x ∈ l,g (x,()) = some (p x,())):jU (l,some g,()) = some (l.any p,()):=qm (τ:=zr) (f:=zas) (zuF hl hp)
theorem zuG {l:List zI} {g:zI × Unit→Option (Bool × Unit)} {p:zI→Bool} (hl:l.length ≤ Go.maxLen) (hp:∀ x ∈ l,g (x,()) = some (p x,())):zat (l,some g,()) = some (j8 p l 0,()):=qQ (τ:=zy) (B:=zda) (fun _ _ _ _ _=>rfl) hl hp
theorem zqV {l:List zI} {g:zI × Unit→Option (Bool × Unit)} {p:zI→Bool} (hl:l.length ≤ Go.maxLen) (hp:∀ x ∈ l,g (x,()) = some (p x,())):jV (l,some g,()) = some (l.any p,()):=qm (τ:=zy) (f:=zat) (zuG hl hp)
theorem zm5 {l:List qi} {g:qi × Unit→Option (Bool × Unit)} {p:qi→Bool} (hl:l.length ≤ Go.maxLen) (hp:∀ x ∈ l,g (x,()) = some (p x,())):yn (l,some g,()) = some (j8 p l 0,()):=qQ (τ:=qb) (B:=zdC) (fun _ _ _ _ _=>rfl) hl hp
theorem zsw {l:List qi} {g:qi × Unit→Option (Bool × Unit)} {p:qi→Bool} (hl:l.length ≤ Go.maxLen) (hp:∀ x ∈ l,g (x,()) = some (p x,())):vg (l,some g,()) = some (l.any p,()):=qm (τ:=qb) (f:=yn) (zm5 hl hp)
theorem zyR {l:List vA} {g:vA × Unit→Option (Bool × Unit)} {p:vA→Bool} (hl:l.length ≤ Go.maxLen) (hp:∀ x ∈ l,g (x,()) = some (p x,())):zbM (l,some g,()) = some (j8 p l 0,()):=qQ (τ:=zY) (B:=zem) (fun _ _ _ _ _=>rfl) hl hp
theorem ztP {l:List vA} {g:vA × Unit→Option (Bool × Unit)} {p:vA→Bool} (hl:l.length ≤ Go.maxLen) (hp:∀ x ∈ l,g (x,()) = some (p x,())):vw (l,some g,()) = some (l.any p,()):=qm (τ:=zY) (f:=zbM) (zyR hl hp)
theorem zwE {l:List Int} {g:Int × Unit→Option (Bool × Unit)} {p:Int→Bool} (hl:l.length ≤ Go.maxLen) (hp:∀ x ∈ l,g (x,()) = some (p x,())):zbb (l,some g,()) = some (j8 p l 0,()):=qQ (τ:=(Ty.int .u8)) (B:=zdy) (fun _ _ _ _ _=>rfl) hl hp
theorem zsx {l:List Int} {g:Int × Unit→Option (Bool × Unit)} {p:Int→Bool} (hl:l.length ≤ Go.maxLen) (hp:∀ x ∈ l,g (x,()) = some (p x,())):vf (l,some g,()) = some (l.any p,()):=qm (τ:=(Ty.int .u8)) (f:=zbb) (zwE hl hp)
theorem zF2 {l:List zk} {g:zk × Unit→Option (Bool × Unit)} {p:zk→Bool} (hl:l.length ≤ Go.maxLen) (hp:∀ x ∈ l,g (x,()) = some (p x,())):zgI (l,some g,()) = some (l.all p,()):=by
  have h:jT (l,some fun z=>zbc (z.1,some (some g),()),()) = some (l.any fun x=>!p x,()):=zqT hl fun x hx=>by
    show Option.bind (g (x,())) (fun q=>bif q.1 then some (false,()) else some (true,())) = _
    rw [hp x hx]; cases p x <;> rfl
  show Option.bind (jT (l,some fun z=>zbc (z.1,some (some g),()),())) (fun q=>bif q.1 then some (false,()) else some (true,())) = _
  rw [h,← j5]; cases l.any fun x=>!p x <;> rfl
theorem zF3 {l:List zn} {g:zn × Unit→Option (Bool × Unit)} {p:zn→Bool} (hl:l.length ≤ Go.maxLen) (hp:∀ x ∈ l,g (x,()) = some (p x,())):zgJ (l,some g,()) = some (l.all p,()):=by
  have h:jU (l,some fun z=>zbg (z.1,some (some g),()),()) = some (l.any fun x=>!p x,()):=zqU hl fun x hx=>by
    show Option.bind (g (x,())) (fun q=>bif q.1 then some (false,()) else some (true,())) = _
    rw [hp x hx]; cases p x <;> rfl
  show Option.bind (jU (l,some fun z=>zbg (z.1,some (some g),()),())) (fun q=>bif q.1 then some (false,()) else some (true,())) = _
  rw [h,← j5]; cases l.any fun x=>!p x <;> rfl
theorem zF4 {l:List zI} {g:zI × Unit→Option (Bool × Unit)} {p:zI→Bool} (hl:l.length ≤ Go.maxLen) (hp:∀ x ∈ l,g (x,()) = some (p x,())):zdp (l,some g,()) = some (l.all p,()):=by
  have h:jV (l,some fun z=>zbh (z.1,some (some g),()),()) = some (l.any fun x=>!p x,()):=zqV hl fun x hx=>by
    show Option.bind (g (x,())) (fun q=>bif q.1 then some (false,()) else some (true,())) = _
    rw [hp x hx]; cases p x <;> rfl
  show Option.bind (jV (l,some fun z=>zbh (z.1,some (some g),()),())) (fun q=>bif q.1 then some (false,()) else some (true,())) = _
  rw [h,← j5]; cases l.any fun x=>!p x <;> rfl
theorem zI9 {l:List Int} {g:Int × Unit→Option (Bool × Unit)} {p:Int→Bool} (hl:l.length ≤ Go.maxLen) (hp:∀ x ∈ l,g (x,()) = some (p x,())):yX (l,some g,()) = some (l.all p,()):=by
  have h:qK (l,some fun z=>zdn (z.1,some (some g),()),()) = some (l.any fun x=>!p x,()):=zcS hl fun x hx=>by
    show Option.bind (g (x,())) (fun q=>bif q.1 then some (false,()) else some (true,())) = _
    rw [hp x hx]; cases p x <;> rfl
  show Option.bind (qK (l,some fun z=>zdn (z.1,some (some g),()),())) (fun q=>bif q.1 then some (false,()) else some (true,())) = _
  rw [h,← j5]; cases l.any fun x=>!p x <;> rfl
theorem zHO {l:List qi} {g:qi × Unit→Option (Bool × Unit)} {p:qi→Bool} (hl:l.length ≤ Go.maxLen) (hp:∀ x ∈ l,g (x,()) = some (p x,())):zhV (l,some g,()) = some (l.all p,()):=by
  have h:vg (l,some fun z=>zbJ (z.1,some (some g),()),()) = some (l.any fun x=>!p x,()):=zsw hl fun x hx=>by
    show Option.bind (g (x,())) (fun q=>bif q.1 then some (false,()) else some (true,())) = _
    rw [hp x hx]; cases p x <;> rfl
  show Option.bind (vg (l,some fun z=>zbJ (z.1,some (some g),()),())) (fun q=>bif q.1 then some (false,()) else some (true,())) = _
  rw [h,← j5]; cases l.any fun x=>!p x <;> rfl
theorem zyS {l:List qj} {g:qj × Unit→Option (Bool × Unit)} {p:qj→Bool} (hl:l.length ≤ Go.maxLen) (hp:∀ x ∈ l,g (x,()) = some (p x,())):yB (l,some g,()) = some (l.all p,()):=by
  have h:jo (l,some fun z=>zbL (z.1,some (some g),()),()) = some (l.any fun x=>!p x,()):=zjM hl fun x hx=>by
    show Option.bind (g (x,())) (fun q=>bif q.1 then some (false,()) else some (true,())) = _
    rw [hp x hx]; cases p x <;> rfl
  show Option.bind (jo (l,some fun z=>zbL (z.1,some (some g),()),())) (fun q=>bif q.1 then some (false,()) else some (true,())) = _
  rw [h,← j5]; cases l.any fun x=>!p x <;> rfl
theorem zJa {l:List vA} {g:vA × Unit→Option (Bool × Unit)} {p:vA→Bool} (hl:l.length ≤ Go.maxLen) (hp:∀ x ∈ l,g (x,()) = some (p x,())):zi2 (l,some g,()) = some (l.all p,()):=by
  have h:vw (l,some fun z=>zdo (z.1,some (some g),()),()) = some (l.any fun x=>!p x,()):=ztP hl fun x hx=>by
    show Option.bind (g (x,())) (fun q=>bif q.1 then some (false,()) else some (true,())) = _
    rw [hp x hx]; cases p x <;> rfl
  show Option.bind (vw (l,some fun z=>zdo (z.1,some (some g),()),())) (fun q=>bif q.1 then some (false,()) else some (true,())) = _
  rw [h,← j5]; cases l.any fun x=>!p x <;> rfl
theorem zHP {l:List qw} {g:qw × Unit→Option (Bool × Unit)} {p:qw→Bool} (hl:l.length ≤ Go.maxLen) (hp:∀ x ∈ l,g (x,()) = some (p x,())):yC (l,some g,()) = some (l.all p,()):=by
  have h:jp (l,some fun z=>zbN (z.1,some (some g),()),()) = some (l.any fun x=>!p x,()):=zjN hl fun x hx=>by
    show Option.bind (g (x,())) (fun q=>bif q.1 then some (false,()) else some (true,())) = _
    rw [hp x hx]; cases p x <;> rfl
  show Option.bind (jp (l,some fun z=>zbN (z.1,some (some g),()),())) (fun q=>bif q.1 then some (false,()) else some (true,())) = _
  rw [h,← j5]; cases l.any fun x=>!p x <;> rfl
theorem zF5 {l:List zt} {g:zt × Unit→Option (Bool × Unit)} {p:zt→Bool} (hl:l.length ≤ Go.maxLen) (hp:∀ x ∈ l,g (x,()) = some (p x,())):qM (l,some g,()) = some (l.all p,()):=by
  have h:jc (l,some fun z=>zbi (z.1,some (some g),()),()) = some (l.any fun x=>!p x,()):=zjp hl fun x hx=>by
    show Option.bind (g (x,())) (fun q=>bif q.1 then some (false,()) else some (true,())) = _
    rw [hp x hx]; cases p x <;> rfl
  show Option.bind (jc (l,some fun z=>zbi (z.1,some (some g),()),())) (fun q=>bif q.1 then some (false,()) else some (true,())) = _
  rw [h,← j5]; cases l.any fun x=>!p x <;> rfl
theorem zr6 {l:List zn} (hl:l.length ≤ lim):zep (l,()) = some (l,()):=yc (τ:=zr) hl rfl
theorem zCc {l:List zI} (hl:l.length ≤ lim):zhN (l,()) = some (l,()):=yc (τ:=zy) hl rfl
theorem zvp {l:List Int} (hl:l.length ≤ lim):zf9 (l,()) = some (l,()):=yc (τ:=tI) hl rfl
theorem zEr {l:List (List Int)} (hl:l.length ≤ lim):ziH (l,()) = some (l,()):=yc (τ:=(Ty.sl tI)) hl rfl
theorem zCd {l:List zk} (hl:l.length ≤ lim):zhO (l,()) = some (l,()):=yc (τ:=zm) hl rfl
theorem zEs {l:List jD} (hl:l.length ≤ lim):ziI (l,()) = some (l,()):=yc (τ:=qC) hl rfl
theorem zEt {l:List qi} (hl:l.length ≤ lim):ziJ (l,()) = some (l,()):=yc (τ:=qb) hl rfl
theorem zEu {l:List qj} (hl:l.length ≤ lim):ziK (l,()) = some (l,()):=yc (τ:=zL) hl rfl
theorem zEv {l:List qw} (hl:l.length ≤ lim):ziL (l,()) = some (l,()):=yc (τ:=qh) hl rfl
theorem zlv {l:List zt} (hl:l.length ≤ lim):zen (l,()) = some (l,()):=yc (τ:=zz) hl rfl
theorem zHQ {l:List (List Int)} (hl:l.length ≤ lim):zk5 (l,()) = some (l,()):=yc (τ:=(Ty.arr 4 tU)) hl rfl
theorem zF6 {l:List vA} (hl:l.length ≤ lim):zjX (l,()) = some (l,()):=yc (τ:=zY) hl rfl
end Go.Proofs.YtokcjmkikhgkeaaGreatDoor
end
section
namespace Go.Proofs.YtokcjmkikhgkeaaGreatDoor
open Go.Ev
theorem zug:∃ m,K0 = m + 8:=⟨Go.maxLen - 6,by unfold K0 Go.maxLen; omega⟩
def zQ (x a b:Int):Bool:=decide (a ≤ x ∧ x ≤ b)
theorem zeC (x a b:Int):qn (x,a,b,()) = some (zQ x a b,()):=by
  simp only [qn,zQ]; grind
def y3 (a:zw):Bool:=zQ a.1 0 3
theorem zCe (a:zw):zhj (a,()) = some (y3 a,()):=by
  simp only [zhj,y3,zQ]; grind
theorem zHR (a:zw):zer (a,()) = some (!y3 a,()):=by
  simp only [zer,zCe,Option.bind_some]; grind
theorem zCf (a:zw):zhm (a,()) = some (y3 a,()):=by
  rw [zC]
  simp only [zhm,y3,zQ]
  grind
def zjq (x y:Int):Int:=bif decide (x < y) then -1 else bif decide (y < x) then 1 else 0
theorem zF7 (x:Int):yU (x,()) = some (false,()):=by
  simp only [yU]; grind
theorem zAe (x:Int):vo (x,()) = some (false,()):=by
  simp only [vo]; grind
theorem zr7 (x y:Int):zai (x,y,()) = some (zjq x y,()):=by
  simp only [zai,zF7,Option.bind_some,zjq]; grind
theorem zm6 (x y:Int):vK (x,y,()) = some (zjq x y,()):=by
  simp only [vK,zAe,Option.bind_some,zjq]; grind
def orV (a b:Int):Int:=bif a != 0 then a else b
theorem zKY (a b:Int):zdx ([a,b],()) = some (orV a b,()):=by
  show zg jb K0 (0,[a,b],2,0) = _
  obtain ⟨m,hm⟩:=zug
  rw [hm]
  show jb (jb (jb (zg jb (m + 5)))) (0,[a,b],2,0) = _
  have h:jb (jb (jb (zg jb (m + 5)))) (0,[a,b],2,0) = bif a != 0 then some (a,()) else bif b != 0 then some (b,()) else some (0,()):=by kernel_rfl
  rw [h]; unfold orV; grind
def zfQ (a b:zw):Int:=orV (zjq a.1 b.1) (zjq a.2.1 b.2.1)
theorem zF8 (a b:zw):zkq (a,b,()) = some (zfQ a b,()):=by
  simp only [zkq,zr7,zm6,Option.bind_some]
  show Option.bind (zdx ([zjq a.1 b.1,zjq a.2.1 b.2.1],())) _ = _
  rw [zKY]; rfl
theorem zot (a b:zw):eqI zl a b = ((a.1:Int) == b.1 && (a.2.1:Int) == b.2.1):=by
  show cond ((a.1:Int) == b.1) (cond ((a.2.1:Int) == b.2.1) true false) false = _
  cases ((a.1:Int) == b.1) <;> cases ((a.2.1:Int) == b.2.1) <;> rfl
theorem zF9 (a b:zw):zkn (a,b,()) = some (zfQ a b,()):=by
  simp only [zkn,zot,zfQ,orV,zjq]; grind
def zbu (l:List zw):Bool:=zQ (l.length:Int) 1 8 && (eqI zl (l.getD 0 (zb zl)) (zb zl) && (l.all y3 && zO (fun i=>decide (zfQ (l.getD (i - 1) (zb zl)) (l.getD i (zb zl)) < 0)) 1 (l.length - 1)))
theorem zHS {α:Type} {d:α} {l:List α}:ix d l 0 = l.getD 0 d:=rfl
theorem zJU (r:zf):vz (r,()) = some (zbu r.1,()):=by
  simp only [vz,zgl,zeC,Option.bind_some]
  by_cases hw:zQ (List.length r.1:Int) 1 8 = true
  · have hb:1 ≤ List.length r.1 ∧ List.length r.1 ≤ 8:=by unfold zQ at hw; grind
    have hl:List.length r.1 ≤ Go.maxLen:=by unfold Go.maxLen; omega
    have hloop:zhW K0 (1,r) = bif zO (fun i=>decide (zfQ (List.getD r.1 (i - 1) (zb zl)) (List.getD r.1 i (zb zl)) < 0)) 1 (List.length r.1 - 1) then some (true,()) else some (false,()) :=
      zX (i0:=1) hl hb.1 (fun i=>(i,r)) (fun k i h1 h2=>by
        simp only [zez]
        rw [ltT h2,zh6 h1 (by omega),zp (by omega),zp h2,zS,Int.toNat_natCast,zF8]
        simp only [cond_true,Option.bind_some]; grind) (fun k=>by simp only [zez]; rw [ltF]; rfl)
    rw [zjo (p:=fun a=>!y3 a) hl fun x _=>zHR x,hloop,zHS]
    have:=j5 (l:=r.1) (p:=y3)
    unfold zbu
    simp only [Option.bind_some]
    grind
  · unfold zbu; grind
theorem zAf (l:List zw):zgf (l,()) = some (zbu l,()):=by
  simp only [zgf,zge]
  by_cases hw:zQ (List.length l:Int) 1 8 = true
  · have hb:1 ≤ List.length l ∧ List.length l ≤ 8:=by unfold zQ at hw; grind
    have hl:List.length l ≤ Go.maxLen:=by unfold Go.maxLen; omega
    have hloop:zhQ K0 (l,1) = bif zO (fun i=>y3 (List.getD l i (zb zl)) && decide (zfQ (List.getD l (i - 1) (zb zl)) (List.getD l i (zb zl)) < 0)) 1 (List.length l - 1) then some (true,()) else some (false,()) :=
      zX (i0:=1) hl hb.1 (fun i=>(l,i)) (fun k i h1 h2=>by
        simp only [zeu]
        rw [ltT h2,zh6 h1 (by omega),zp h2,zp (by omega),zp h2,zS,Int.toNat_natCast,zF9,zCf]
        simp only [cond_true,Option.bind_some]; grind) (fun k=>by simp only [zeu]; rw [ltF]; rfl)
    rw [hloop,zHS]
    have h0:eqI zl (l.getD 0 (zb zl)) (zb zl) = true→y3 (l.getD 0 (zb zl)) = true:=fun h=>by
      rw [zot] at h
      have:(l.getD 0 (zb zl)).1 = (0:Int):=by have:(zb zl).1 = (0:Int):=rfl; grind
      unfold y3 zQ; grind
    have hsplit:y3 (l.getD 0 (zb zl)) = true→zO (fun i=>y3 (List.getD l i (zb zl)) && decide (zfQ (List.getD l (i - 1) (zb zl)) (List.getD l i (zb zl)) < 0)) 1 (List.length l - 1) = (l.all y3 && zO (fun i=>decide (zfQ (l.getD (i - 1) (zb zl)) (l.getD i (zb zl)) < 0)) 1 (l.length - 1)):=fun h0=>by
      rw [Bool.eq_iff_iff,Bool.and_eq_true,qr,qr,List.all_eq_true]
      constructor
      · intro h
        refine ⟨fun x hx=>?_,fun j h1 h2=>?_⟩
        · obtain ⟨i,hi,rfl⟩:=List.mem_iff_getElem.1 hx
          have e:l.getD i (zb zl) = l[i]:=by simp [List.getD,hi]
          rw [← e]
          by_cases hz:i = 0
          · subst hz; exact h0
          · have:=h i (by omega) (by omega); grind
        · have:=h j h1 h2; grind
      · rintro ⟨h1,h2⟩ j h3 h4
        have:=h2 j h3 h4
        have:=h1 _ (z3 (d:=zb zl) (show j < l.length by omega))
        grind
    unfold zbu
    grind
  · unfold zbu zQ at *; grind
end Go.Proofs.YtokcjmkikhgkeaaGreatDoor
end
section
namespace Go.Proofs.YtokcjmkikhgkeaaGreatDoor
open Go.Ev
def small (c:Int):Bool:=decide (97 ≤ c ∧ c ≤ 122)
def zuh (c:Int):Bool:=decide (48 ≤ c ∧ c ≤ 57)
theorem zGP (c:Int):zfC (c,()) = some (small c,()):=by
  simp only [zfC,small]; grind
theorem zKu (c:Int):ziw (c,()) = some (zuh c,()):=by
  simp only [ziw,zuh]; grind
def zCR (c:Int):Bool:=small c || zuh c
theorem zKZ (c:Int):zgb (c,()) = some (zCR c,()):=by
  simp only [zgb,zGP,zKu,Option.bind_some,zCR]; grind
def zfR (s:ByteArray):List Int:=List.map (fun b:UInt8=>(b.toNat:Int)) s.data.toList
def chr (s:ByteArray) (i:Nat):Int:=(((s.data.toList).getD i 0).toNat:Int)
theorem zlw (s:ByteArray):(zfR s).length = s.size:=by unfold zfR; rw [List.length_map]; rfl
theorem zmb (s:ByteArray):s.data.toList.length = s.size:=rfl
theorem zyT (s:ByteArray) (p:Int→Bool):(zfR s).all p = zO (fun i=>p (chr s i)) 0 s.size:=by
  rw [Bool.eq_iff_iff,qr,List.all_eq_true]
  have key:∀ i,i < s.size→(zfR s)[i]? = some (chr s i):=fun i hi=>by
    unfold zfR chr
    rw [List.getElem?_map,List.getElem?_eq_getElem (by rw [zmb]; exact hi)]
    simp [List.getD,zmb,hi]
  constructor
  · intro h j _ hj
    exact h _ (List.mem_of_getElem? (key j (by omega)))
  · intro h x hx
    obtain ⟨i,hi,rfl⟩:=List.mem_iff_getElem.1 hx
    rw [zlw] at hi
    have:=key i hi
    rw [List.getElem?_eq_getElem (by rw [zlw]; exact hi)] at this
    rw [Option.some.inj this]
    exact h i (by omega) (by omega)
theorem zyU {s:ByteArray} {g:Int × Unit→Option (Bool × Unit)} {p:Int→Bool} (hl:s.size ≤ Go.maxLen) (hp:∀ c,g (c,()) = some (p c,())):zlY (s,some g,()) = some ((zfR s).all p,()):=by
  have h:vf (zfR s,some fun z=>ziv (z.1,some (some g),()),()) = some ((zfR s).any fun x=>!p x,()):=zsx (by rw [zlw]; exact hl) fun x hx=>by
    show Option.bind (g (x,())) (fun q=>bif q.1 then some (false,()) else some (true,())) = _
    rw [hp x]; cases p x <;> rfl
  show Option.bind (vf (zfR s,some fun z=>ziv (z.1,some (some g),()),())) (fun q=>bif q.1 then some (false,()) else some (true,())) = _
  rw [h,← j5]; cases (zfR s).any fun x=>!p x <;> rfl
def zjr (s:ByteArray):Bool:=decide (1 ≤ s.size) && (decide (s.size ≤ 12) && zO (fun i=>small (chr s i) || (decide (i ≠ 0) && zuh (chr s i))) 0 s.size)
theorem zJV (s:ByteArray):zjr s = (decide (1 ≤ s.size) && (decide (s.size ≤ 12) && (small (chr s 0) && (zfR s).all zCR))):=by
  rw [zyT,zjr,Bool.eq_iff_iff]
  simp only [Bool.and_eq_true,decide_eq_true_eq,qr,zCR]
  constructor
  · rintro ⟨h1,h2,h3⟩
    have:=h3 0 (by omega) (by omega)
    refine ⟨h1,h2,by grind,fun j h4 h5=>?_⟩
    have:=h3 j h4 h5
    grind
  · rintro ⟨h1,h2,h3,h4⟩
    refine ⟨h1,h2,fun j h5 h6=>?_⟩
    have:=h4 j h5 h6
    by_cases e:j = 0
    · subst e; grind
    · grind
theorem zm7 (s:ByteArray):za3 (s,()) = some (zjr s,()):=by
  rw [zC]
  simp only [za3]
  rw [zJV]
  by_cases h1:s.size < 1
  · grind
  by_cases h2:s.size > 12
  · grind
  rw [zyU (by unfold Go.maxLen; omega) zKZ]
  have hc:((UInt8.toNat (List.getD s.data.toList (Int.toNat 0) 0):Nat):Int) = chr s 0:=rfl
  rw [hc,zGP]
  simp only [Option.bind_some]
  grind
theorem zlx (s:ByteArray):zA (s,()) = some (zjr s,()):=by
  rw [zC]
  simp only [zA,zhn]
  unfold zjr
  by_cases h1:s.size < 1
  · have:s.size = 0:=by omega
    grind
  by_cases h2:s.size > 12
  · grind
  have hloop:ziM K0 (s,0) = bif zO (fun i=>small (chr s i) || (decide (i ≠ 0) && zuh (chr s i))) 0 (s.size - 0) then some (true,()) else some (false,()) :=
    zX (i0:=0) (n:=s.size) (by unfold Go.maxLen; omega) (Nat.zero_le _) (fun i=>(s,i)) (fun k i h3 h4=>by
      simp only [zfg]
      have hc:((UInt8.toNat (List.getD s.data.toList (Int.toNat (i:Int)) 0):Nat):Int) = chr s i:=by rw [Int.toNat_natCast]; rfl
      rw [hc]
      simp only [ltT h4,zp h4,cond_true,small,zuh]
      grind) (fun k=>by simp only [zfg]; rw [ltF]; rfl)
  rw [hloop]
  grind
def zcT (a:qs):Bool:=zjr a.1 && (zjr a.2.1 && zQ a.2.2.1 0 3)
theorem zEw (a:qs):zcn (a,()) = some (!zcT a,()):=by
  simp only [zcn,zm7,zeC,Option.bind_some,zcT]; grind
theorem ztQ {α:Type} (d x:α):zi (List.replicate 1 d) 0 x = [x]:=rfl
theorem zK0 {n:Nat} (h:n ≤ 1000000):decide (n ≤ lim) = true:=decide_eq_true (by unfold lim; omega)
theorem zGa (r:zf) (h:r.2.2.1.length ≤ 1000):zgH (r,()) = some (r.2.2.1.map (·.1),()):=by
  have hl:r.2.2.1.length ≤ Go.maxLen:=by unfold Go.maxLen; omega
  have:=zeZ (B:=ym) (α:=List ByteArray) (len:=r.2.2.1.length) hl (fun i o=>(r.2.2.1,(r.2.2.1.length:Int),i,o)) (fun i o=>some (o ++ (r.2.2.1.drop i).map (·.1),())) (fun i o=>o.length ≤ i) (fun k i s hi hI hk=>by
    simp only [ym]
    rw [ltT hi,zp hi,zS,ztQ,zK0 (by simp; omega)]
    simp only [cond_true]
    rw [hk _ (by simp; omega),zbF qG hi]
    simp) (fun k s _=>by
    simp only [ym]
    rw [ltF,List.drop_of_length_le (Nat.le_refl _)]
    simp) [] (Nat.le_refl _)
  exact this
def zfS:List ByteArray→Bool
  | []=>true
  | x :: l=>!(l.any fun y=>eqI .str x y) && zfS l
theorem zp9 (x y:ByteArray):eqI .str x y = (x.toList == y.toList):=rfl
theorem zJb (o:List (ByteArray × Int)) (x z:ByteArray) (v:Int):jB .str (jG .str o x v) z = (jB .str o z || eqI .str z x):=by
  induction o with
  | nil=>simp only [jG,jB]; cases eqI .str z x <;> rfl
  | cons e o ih =>
    simp only [jG,jB]
    cases h:eqI .str x e.1 with
    | true =>
      simp only [cond_true,jB]
      have:eqI .str z e.1 = eqI .str z x:=by rw [zp9] at *; rw [zp9]; have:=eq_of_beq h; rw [this]
      cases h2:eqI .str z e.1 with
      | true=>rfl
      | false=>rw [← this,h2]; simp
    | false =>
      simp only [cond_false,jB,ih]
      cases eqI .str z e.1 <;> rfl
theorem zEx (o:List (ByteArray × Int)) (x:ByteArray) (v:Int):(jG .str o x v).length = o.length + (bif jB .str o x then 0 else 1):=by
  induction o with
  | nil=>rfl
  | cons e o ih =>
    simp only [jG,jB]
    cases h:eqI .str x e.1 with
    | true=>simp only [cond_true,List.length_cons,Nat.add_zero]
    | false =>
      simp only [cond_false,List.length_cons,ih]
      generalize (bif jB .str o x then 0 else 1) = n
      omega
def zqW:List ByteArray→List (ByteArray × Int)→Nat
  | [],o=>o.length
  | x :: l,o=>zqW l (jG .str o x (wI (zan .str (0:Int) o x + 1)))
theorem zGQ:∀ (l:List ByteArray) (o:List (ByteArray × Int)),zqW l o ≤ o.length + l.length
  | [],o=>Nat.le_refl _
  | x :: l,o=>by
    have h:=zGQ l (jG .str o x (wI (zan .str (0:Int) o x + 1)))
    rw [zEx] at h
    simp only [zqW,List.length_cons]
    cases hm:jB .str o x <;> (rw [hm] at h; simp only [cond_true,cond_false] at h; omega)
theorem zGR:∀ (l:List ByteArray) (o:List (ByteArray × Int)),(zqW l o == o.length + l.length) = (zfS l && l.all fun x=>!jB .str o x)
  | [],o=>by simp [zqW,zfS]
  | x :: l,o=>by
    have h:=zGQ l (jG .str o x (wI (zan .str (0:Int) o x + 1)))
    have ih:=zGR l (jG .str o x (wI (zan .str (0:Int) o x + 1)))
    rw [zEx] at h ih
    simp only [zqW,List.length_cons,zfS,List.all_cons]
    cases hm:jB .str o x with
    | true =>
      rw [hm] at h
      simp only [cond_true] at h
      have:(zqW l (jG .str o x (wI (zan .str (0:Int) o x + 1))) == o.length + (l.length + 1)) = false:=by
        simp only [beq_eq_false_iff_ne]; omega
      rw [this]
      simp
    | false =>
      rw [hm] at ih
      simp only [cond_false] at ih
      rw [show o.length + (l.length + 1) = o.length + 1 + l.length by omega,ih]
      simp only [zJb,Bool.not_or,Bool.not_false,Bool.true_and]
      have:(l.all fun z=>!jB .str o z && !eqI .str z x) = ((l.all fun z=>!jB .str o z) && !(l.any fun y=>eqI .str x y)):=by
        rw [Bool.eq_iff_iff]
        simp only [List.all_eq_true,Bool.and_eq_true,Bool.not_eq_true',List.any_eq_false,Bool.not_eq_true]
        have hs:∀ z,eqI .str z x = eqI .str x z:=fun z=>by rw [zp9,zp9]; exact Bool.beq_comm
        grind
      rw [this]
      cases zfS l <;> cases (l.all fun z=>!jB .str o z) <;> cases (l.any fun y=>eqI .str x y) <;> rfl
theorem zJc (m n:Nat):(((m:Nat):Int) == ((n:Nat):Int)) = (m == n):=by
  rw [Bool.eq_iff_iff]; simp only [beq_iff_eq]; omega
theorem zKv (l:List ByteArray) (h:l.length ≤ 1000):zmt (l,()) = some (zfS l,()):=by
  have:=znE (B:=zdA) (l:=l) (α:=List (ByteArray × Int)) (zb .str) (fun i o=>(l,l,(l.length:Int),i,o)) (fun rest o=>some (zqW rest o == l.length,())) (by unfold Go.maxLen; omega) (fun k i x rest s hi hx _ hr hk=>by
    simp only [zdA]
    rw [ltT hi,zp hi,Int.toNat_natCast,hx]
    simp only [cond_true]
    exact hk _) (fun k s=>by
    simp only [zdA]
    rw [ltF]
    simp only [cond_false,zqW]
    rw [zJc]
    cases s.length == l.length <;> rfl) []
  refine this.trans ?_
  have h2:=zGR l []
  simp only [List.length_nil,Nat.zero_add] at h2
  rw [h2]
  simp [jB]
def zd7 (l:List qs):Bool:=zQ (l.length:Int) 1 8 && (l.all zcT && zfS (l.map (·.1)))
theorem zHT (r:zf):jM (r,()) = some (zd7 r.2.2.1,()):=by
  rw [zC]
  simp only [jM,zeC,Option.bind_some]
  unfold zd7
  by_cases hw:zQ (List.length r.2.2.1:Int) 1 8 = true
  · have hb:1 ≤ List.length r.2.2.1 ∧ List.length r.2.2.1 ≤ 8:=by unfold zQ at hw; grind
    rw [zo6 (p:=fun a=>!zcT a) (by unfold Go.maxLen; omega) fun x _=>zEw x,zGa r (by omega)]
    simp only [Option.bind_some]
    rw [zKv _ (by simp; omega)]
    simp only [Option.bind_some]
    have:=j5 (l:=r.2.2.1) (p:=zcT)
    grind
  · grind
theorem zyV:∀ {l:List ByteArray},zfS l = true ↔ ∀ i j:Nat,i < j→j < l.length→eqI .str (l.getD i (zb .str)) (l.getD j (zb .str)) = false
  | []=>by simp [zfS]
  | x :: l=>by
    simp only [zfS,Bool.and_eq_true,Bool.not_eq_true',List.any_eq_false,zyV (l:=l)]
    constructor
    · rintro ⟨h1,h2⟩ i j hij hj
      cases j with
      | zero=>omega
      | succ j =>
        simp only [List.length_cons] at hj
        cases i with
        | zero =>
          have:=h1 (l.getD j (zb .str)) (z3 (by omega))
          simpa using this
        | succ i=>exact h2 i j (by omega) (by omega)
    · intro h
      refine ⟨fun y hy=>?_,fun i j h1 h2=>h (i + 1) (j + 1) (by omega) (by simp only [List.length_cons]; omega)⟩
      obtain ⟨j,hj,rfl⟩:=List.mem_iff_getElem.1 hy
      have:=h 0 (j + 1) (by omega) (by simp only [List.length_cons]; omega)
      simpa [List.getD,hj] using this
theorem zwF (l:List qs):zew (l,()) = some (zd7 l,()):=by
  rw [zC]
  simp only [zew,zev]
  unfold zd7
  by_cases h1:l.length < 1
  · unfold zQ; grind
  by_cases h2:l.length > 8
  · unfold zQ; grind
  have hl:l.length ≤ Go.maxLen:=by unfold Go.maxLen; omega
  have inner:∀ k0 (j:Nat),j < l.length→zbZ K0 k0 (l,(j:Int),0) = bif zO (fun i=>!eqI .str (l.getD i qG).1 (l.getD j qG).1) 0 j then k0 (l,wI ((j:Int) + 1)) else some (false,()):=fun k0 j hj =>
    zX (i0:=0) (n:=j) (by omega) (Nat.zero_le _) (fun i=>(l,(j:Int),i)) (fun k i h3 h4=>by
      simp only [zbY]
      rw [ltT h4,zp (by omega),zp hj,zS,zS,← zp9]
      simp only [cond_true]
      cases eqI .str (l.getD i qG).1 (l.getD j qG).1 <;> rfl) (fun k=>by simp only [zbY]; rw [ltF]; rfl)
  have hloop:zfM K0 (l,0) = bif zO (fun j=>zcT (l.getD j qG) && zO (fun i=>!eqI .str (l.getD i qG).1 (l.getD j qG).1) 0 j) 0 (l.length - 0) then some (true,()) else some (false,()) :=
    zX (i0:=0) hl (Nat.zero_le _) (fun i=>(l,i)) (fun k i h3 h4=>by
      simp only [yQ]
      rw [ltT h4]
      simp only [zp h4,zS,zlx,Option.bind_some,cond_true]
      rw [inner k i h4]
      unfold zcT zQ
      grind) (fun k=>by simp only [yQ]; rw [ltF]; rfl)
  rw [hloop]
  have hw:zQ (l.length:Int) 1 8 = true:=by unfold zQ; grind
  have key:zO (fun j=>zcT (l.getD j qG) && zO (fun i=>!eqI .str (l.getD i qG).1 (l.getD j qG).1) 0 j) 0 (l.length - 0) = (l.all zcT && zfS (l.map (·.1))):=by
    have hm:∀ i,i < l.length→(l.map (·.1)).getD i (zb .str) = (l.getD i qG).1:=fun i hi=>by simp [List.getD,hi]
    rw [Bool.eq_iff_iff,Bool.and_eq_true,qr,zyV,List.all_eq_true]
    constructor
    · intro h
      refine ⟨fun x hx=>?_,fun i j h3 h4=>?_⟩
      · obtain ⟨i,hi,rfl⟩:=List.mem_iff_getElem.1 hx
        have e:l.getD i qG = l[i]:=by simp [List.getD,hi]
        rw [← e]
        have:=h i (by omega) (by omega)
        grind
      · rw [List.length_map] at h4
        rw [hm i (by omega),hm j h4]
        have:=h j (by omega) (by omega)
        simp only [Bool.and_eq_true,qr] at this
        have:=this.2 i (by omega) (by omega)
        simpa using this
    · rintro ⟨h3,h4⟩ j h5 h6
      simp only [Bool.and_eq_true,qr]
      refine ⟨h3 _ (z3 (by omega)),fun i h7 h8=>?_⟩
      have:=h4 i j (by omega) (by rw [List.length_map]; omega)
      rw [hm i (by omega),hm j (by omega)] at this
      rw [this]; rfl
  rw [key,hw]
  grind
def zkV (r:zf):Bool:=zQ (r.2.1.length:Int) 1 8 && r.2.1.all fun i=>decide (0 ≤ i) && decide (i < (r.1.length:Int))
theorem zKw (r:zf) (h:r.1.length ≤ 1000):ye (r,()) = some (zkV r,()):=by
  rw [zC]
  simp only [ye,zeC,Option.bind_some]
  unfold zkV
  by_cases hw:zQ (List.length r.2.1:Int) 1 8 = true
  · have hb:1 ≤ List.length r.2.1 ∧ List.length r.2.1 ≤ 8:=by unfold zQ at hw; grind
    have hq:∀ x:Int,(fun z:Int × Unit=>zbS (z.1,some r,())) (x,()) = some (!(decide (0 ≤ x) && decide (x < (r.1.length:Int))),()):=fun x=>by
      show zbS _ = _
      simp only [zbS,zeC,Option.bind_some]
      have:wI (((List.length r.1:Nat):Int) - 1) = (r.1.length:Int) - 1:=by
        unfold wI
        exact IntWalk.i64_in _ (by omega)
      rw [this]
      unfold zQ
      grind
    rw [zcS (by unfold Go.maxLen; omega) fun x _=>hq x]
    simp only [Option.bind_some]
    have:=j5 (l:=r.2.1) (p:=fun i=>decide (0 ≤ i) && decide (i < (r.1.length:Int)))
    grind
  · grind
def zui (r:zf):Bool:=zQ r.2.2.2.2.2.1 0 24 && (zQ r.2.2.2.2.2.2.1 0 48 && (zQ r.2.2.2.2.2.2.2.1 1 4 && zQ r.2.2.2.2.2.2.2.2.1 1 16))
theorem zK1 (r:zf):yO (r,()) = some (zui r,()):=by
  simp only [yO,zeC,Option.bind_some,zui]; grind
def zqa (q:zag):Bool:=zQ q.1 0 12 && (zQ q.2.1 0 12 && (zQ q.2.2.1 0 12 && (zQ q.2.2.2.1 0 12 && zQ q.2.2.2.2.1 0 12)))
def zjs:Int→List zag→Bool
  | _,[]=>true
  | left,q :: l=>zqa q && (decide (q.2.2.2.2.2.1 ≤ left) && zjs (wU (left - q.2.2.2.2.2.1)) l)
theorem zHU (x:Int):zes (x,()) = some (!zQ x 0 12,()):=by
  simp only [zes,zeC,Option.bind_some]; grind
def zgq (n:Nat) (l:List zag):Bool:=decide (l.length = n) && (decide (0 < l.length) && (decide (1 ≤ (l.getD 0 qf).1) && zjs 4611686018427387904 l))
theorem zJW (r:zf) (h:1 ≤ r.1.length ∧ r.1.length ≤ 1000):vy (r,()) = some (zgq r.1.length r.2.2.2.2.1,()):=by
  rw [zC]
  simp only [vy,zgj]
  unfold zgq
  by_cases hn:r.2.2.2.2.1.length = r.1.length
  · have hl:r.2.2.2.2.1.length ≤ Go.maxLen:=by unfold Go.maxLen; omega
    have hloop:zhU K0 (4611686018427387904,r.2.2.2.2.1,(r.2.2.2.2.1.length:Int),0) = some (zjs 4611686018427387904 r.2.2.2.2.1,()) :=
      znE (l:=r.2.2.2.2.1) (α:=Int) qf (fun i s=>(s,r.2.2.2.2.1,(r.2.2.2.2.1.length:Int),i)) (fun rest s=>some (zjs s rest,())) hl (fun k i x rest s hi hx _ hr hk=>by
        simp only [zey]
        rw [ltT hi,zp hi]
        simp only [zS,hx,cond_true]
        have hnum:ziy (x,()) = some ([x.1,x.2.1,x.2.2.1,x.2.2.2.1,x.2.2.2.2.1],()):=rfl
        rw [hnum]
        simp only [Option.bind_some]
        rw [zcS (p:=fun n=>!zQ n 0 12) (l:=[x.1,x.2.1,x.2.2.1,x.2.2.2.1,x.2.2.2.2.1]) (by unfold Go.maxLen; simp) fun n _=>zHU n]
        simp only [Option.bind_some,hk,zjs,zqa,List.any_cons,List.any_nil]
        grind) (fun k s=>by simp only [zey]; rw [ltF]; rfl) _
    rw [hloop,zHS]
    have h1:(((List.length r.2.2.2.2.1:Nat):Int) != ((List.length r.1:Nat):Int)) = false:=by rw [zir]; simp [hn]
    rw [h1]
    grind
  · have h1:(((List.length r.2.2.2.2.1:Nat):Int) != ((List.length r.1:Nat):Int)) = true:=by rw [zir]; simp [hn]
    rw [h1]
    grind
theorem zCg (x:Int):yd (x,()) = some (zQ x 0 12,()):=by
  simp only [yd,zQ]; grind
theorem zAg (l:List zag) (hl:l.length ≤ Go.maxLen):zj0 (l,()) = some (zgq l.length l,()):=by
  rw [zC]
  show zg (yA) K0 (l,4611686018427387904,0) = _
  have hloop:zg (yA) K0 (l,4611686018427387904,0) = some (zjs 4611686018427387904 l && (decide (0 < l.length) && decide (1 ≤ (l.getD 0 qf).1)),()) :=
    znE (l:=l) (α:=Int) qf (fun i s=>(l,s,i)) (fun rest s=>some (zjs s rest && (decide (0 < l.length) && decide (1 ≤ (l.getD 0 qf).1)),())) hl (fun k i x rest s hi hx _ hr hk=>by
      simp only [yA]
      rw [ltT hi,zp hi]
      simp only [zS,hx,cond_true,zCg,Option.bind_some,hk,zjs,zqa]
      grind) (fun k s=>by
      simp only [yA]
      rw [ltF,zHS]
      simp only [zjs]
      grind) _
  rw [hloop]
  unfold zgq
  grind
end Go.Proofs.YtokcjmkikhgkeaaGreatDoor
end
section
namespace Go.Proofs.YtokcjmkikhgkeaaGreatDoor
open Go.Ev
def zwG (b:Int):Int:=((2 ^ b.toNat:Nat):Int)
def yt (b:Int):Bool:=decide (0 ≤ b) && decide (b < 64)
theorem zJd {b:Int} (h:yt b = true):Go.IntKind.wrap .u64 (1 * 2 ^ (min (Int.toNat b) (Go.IntKind.bits .u64))) = zwG b:=by
  unfold yt at h
  simp only [Bool.and_eq_true,decide_eq_true_eq] at h
  obtain ⟨n,rfl⟩:=Int.eq_ofNat_of_zero_le h.1
  have hn:n < 64:=by omega
  unfold zwG
  rw [Int.toNat_natCast]
  have hm:min n (Go.IntKind.bits .u64) = n:=Nat.min_eq_left (by show n ≤ 64; omega)
  rw [hm]
  have:∀ n:Fin 64,Go.IntKind.wrap .u64 (1 * 2 ^ n.val) = ((2 ^ n.val:Nat):Int):=by decide +kernel
  exact this ⟨n,hn⟩
theorem zgr {n:Int} (h:0 ≤ n ∧ n < 18446744073709551616):Go.IntKind.wrap .u64 n = n:=by
  show n % ((2 ^ 64:Nat):Int) = n
  exact Int.emod_eq_of_lt h.1 (by have:((2 ^ 64:Nat):Int) = 18446744073709551616:=by decide
                                  omega)
def zly (c:Int) (b:Nat):Bool:=c.toNat.testBit b
theorem has_eq (c b:Int) (hc:0 ≤ c) (hb:0 ≤ b ∧ b < 64):(Int.tmod (Int.fdiv c (2 ^ min (Int.toNat (Go.IntKind.wrap .u64 b)) (Go.IntKind.bits .u64))) 2 == 1) = zly c b.toNat:=by
  obtain ⟨n,rfl⟩:=Int.eq_ofNat_of_zero_le hc
  obtain ⟨m,rfl⟩:=Int.eq_ofNat_of_zero_le hb.1
  rw [zgr (by omega)]
  have hm:min (Int.toNat (m:Int)) (Go.IntKind.bits .u64) = m:=Nat.min_eq_left (by show (m:Int).toNat ≤ 64; omega)
  rw [hm]
  unfold zly
  have h2:Int.fdiv (n:Int) (2 ^ m) = ((n / 2 ^ m:Nat):Int):=by
    rw [show ((2:Int) ^ m) = ((2 ^ m:Nat):Int) by simp]
    rw [Int.fdiv_eq_ediv_of_nonneg _ (Int.natCast_nonneg _)]
    rfl
  have h3:Int.tmod ((n / 2 ^ m:Nat):Int) 2 = ((n / 2 ^ m % 2:Nat):Int):=by
    rw [Int.tmod_eq_emod_of_nonneg (Int.natCast_nonneg _)]
    rfl
  rw [h2,h3,Int.toNat_natCast,Int.toNat_natCast,Nat.testBit_eq_decide_div_mod_eq]
  have:(((n / 2 ^ m % 2:Nat):Int) == 1) = decide (n / 2 ^ m % 2 = 1):=by
    by_cases h:n / 2 ^ m % 2 = 1
    · rw [h]; rfl
    · rw [decide_eq_false h]
      cases hx:(((n / 2 ^ m % 2:Nat):Int) == 1) with
      | false=>rfl
      | true=>exact absurd (Int.ofNat.inj (by simpa using hx)) h
  exact this
def zgs (a b:Int):Int:=Go.IntKind.wrap .u64 (BitVec.toNat (BitVec.ofInt (Go.IntKind.bits .u64) a &&& ~~~BitVec.ofInt (Go.IntKind.bits .u64) b):Int)
def orI (a b:Int):Int:=Go.IntKind.wrap .u64 (BitVec.toNat (BitVec.ofInt (Go.IntKind.bits .u64) a ||| BitVec.ofInt (Go.IntKind.bits .u64) b):Int)
def zl1:Int→List z7→Int
  | a,[]=>a
  | a,g :: gs=>zl1 (orI a (zwG g.1)) gs
theorem zkW (n:Nat):BitVec.ofInt (Go.IntKind.bits .u64) (n:Int) = BitVec.ofNat 64 n:=by
  show BitVec.ofInt 64 (n:Int) = BitVec.ofNat 64 n
  apply BitVec.eq_of_toNat_eq
  rw [BitVec.toNat_ofInt,BitVec.toNat_ofNat]
  omega
theorem zKd (x:BitVec 64):Go.IntKind.wrap .u64 (x.toNat:Int) = (x.toNat:Int):=by
  have:=x.isLt
  exact zgr (by omega)
theorem zKx (a b:Nat) (ha:a < 2 ^ 64) (hb:b < 2 ^ 64):orI (a:Int) (b:Int) = ((a ||| b:Nat):Int):=by
  unfold orI
  rw [zkW,zkW]
  show Go.IntKind.wrap .u64 ((BitVec.ofNat 64 a ||| BitVec.ofNat 64 b).toNat:Int) = _
  rw [zKd,BitVec.toNat_or,BitVec.toNat_ofNat,BitVec.toNat_ofNat,Nat.mod_eq_of_lt ha,Nat.mod_eq_of_lt hb]
theorem zvq (c m:Nat) (hc:c < 2 ^ 64) (hm:m < 2 ^ 64):(zgs (c:Int) (m:Int) != 0) = !((List.range' 0 64).all fun i=>!c.testBit i || m.testBit i):=by
  unfold zgs
  rw [zkW,zkW]
  show (Go.IntKind.wrap .u64 ((BitVec.ofNat 64 c &&& ~~~BitVec.ofNat 64 m).toNat:Int) != 0) = _
  rw [zKd]
  have hbit:∀ i,i < 64→(BitVec.ofNat 64 c &&& ~~~BitVec.ofNat 64 m).getLsbD i = (c.testBit i && !m.testBit i):=by
    intro i hi
    rw [BitVec.getLsbD_and,BitVec.getLsbD_not,BitVec.getLsbD_ofNat,BitVec.getLsbD_ofNat]
    simp [hi]
  by_cases h:((List.range' 0 64).all fun i=>!c.testBit i || m.testBit i) = true
  · rw [h]
    have h0:(BitVec.ofNat 64 c &&& ~~~BitVec.ofNat 64 m) = 0#64:=by
      apply BitVec.eq_of_getLsbD_eq
      intro i hi
      rw [hbit i hi]
      have:=List.all_eq_true.1 h i (by simp [List.mem_range'_1]; omega)
      revert this
      cases c.testBit i <;> cases m.testBit i <;> simp
    rw [h0]
    rfl
  · have h':=h
    simp only [Bool.not_eq_true] at h'
    rw [h']
    have:(BitVec.ofNat 64 c &&& ~~~BitVec.ofNat 64 m).toNat ≠ 0:=by
      intro h0
      apply h
      rw [List.all_eq_true]
      intro i hi
      simp only [List.mem_range'_1] at hi
      have hb:=hbit i (by omega)
      have e0:(BitVec.ofNat 64 c &&& ~~~BitVec.ofNat 64 m) = 0#64:=BitVec.eq_of_toNat_eq (by rw [h0]; rfl)
      rw [e0] at hb
      revert hb
      cases c.testBit i <;> cases m.testBit i <;> simp
    rw [Bool.not_false,bne_iff_ne]
    omega
theorem zJX {b:Int} (h:yt b = true):∃ n:Nat,b = n ∧ n < 64 ∧ zwG b = ((2 ^ n:Nat):Int):=by
  unfold yt at h
  simp only [Bool.and_eq_true,decide_eq_true_eq] at h
  obtain ⟨n,rfl⟩:=Int.eq_ofNat_of_zero_le h.1
  exact ⟨n,rfl,by omega,rfl⟩
theorem zyW:∀ (l:List z7) (m:Nat),m < 2 ^ 64→(∀ g ∈ l,yt g.1 = true)→∃ k:Nat,zl1 (m:Int) l = (k:Int) ∧ k < 2 ^ 64 ∧ ∀ i:Nat,k.testBit i = (m.testBit i || l.any fun g=>g.1 == (i:Int))
  | [],m,hm,_=>⟨m,rfl,hm,fun i=>by simp⟩
  | g :: l,m,hm,h=>by
    obtain ⟨n,hn,hn64,hv⟩:=zJX (h g (by simp))
    have hp:2 ^ n < 2 ^ 64:=Nat.pow_lt_pow_right (by omega) hn64
    obtain ⟨k,hk,hk64,hb⟩:=zyW l (m ||| 2 ^ n) (Nat.or_lt_two_pow hm hp) fun g hg=>h g (by simp [hg])
    refine ⟨k,?_,hk64,fun i=>?_⟩
    · simp only [zl1]
      rw [hv,zKx m (2 ^ n) hm hp]
      exact hk
    · rw [hb i,Nat.testBit_or,Nat.testBit_two_pow,List.any_cons,hn,Bool.or_assoc]
      congr 2
      by_cases e:n = i
      · subst e; simp
      · rw [decide_eq_false e]
        symm
        simp only [beq_eq_false_iff_ne,ne_eq]
        omega
def zuj (l:List z7) (c:Int) (i k:Nat):Bool:=(List.range' i k).all fun b=>!zly c b || l.any fun g=>g.1 == (b:Int)
def ztR (labels:List zw) (l:List z7):Bool:=labels.all fun a=>zuj l a.2.1 0 64
def zm8 (l:List zw):Prop:=∀ a ∈ l,0 ≤ a.2.1 ∧ a.2.1 < 18446744073709551616
theorem zK2 (labels:List zw) (l:List z7) (hl:zm8 labels) (h:∀ g ∈ l,yt g.1 = true):(labels.any fun a=>zgs a.2.1 (zl1 0 l) != 0) = !ztR labels l:=by
  obtain ⟨k,hk,hk64,hb⟩:=zyW l 0 (by decide) h
  have hk':zl1 0 l = (k:Int):=hk
  rw [hk']
  unfold ztR
  have key:∀ ls:List zw,zm8 ls→(ls.any fun a=>zgs a.2.1 (k:Int) != 0) = !(ls.all fun a=>zuj l a.2.1 0 64):=by
    intro ls
    induction ls with
    | nil=>intro _; rfl
    | cons a ls ih =>
      intro ha
      have h1:=ha a (by simp)
      rw [List.any_cons,List.all_cons,ih fun b hb=>ha b (by simp [hb]),Bool.not_and]
      congr 1
      obtain ⟨c,hc⟩:=Int.eq_ofNat_of_zero_le h1.1
      rw [hc,zvq c k (by omega) hk64]
      congr 1
      unfold zuj
      congr 1
      funext i
      rw [hb i]
      unfold zly
      simp
  exact key labels hl
def zqX (b:Int):zw:=(0,zwG b,())
theorem zEy (b:Int):zix (b,()) = some (bif yt b then (zqX b,0,()) else ((0,0,()),1,())):=by
  simp only [zix]
  cases h:yt b with
  | true =>
    have hs:wU (1 * 2 ^ min (Int.toNat b) (Go.IntKind.bits .u64)) = zwG b:=zJd h
    rw [hs]
    simp only [yt,Bool.and_eq_true,decide_eq_true_eq] at h
    simp only [zqX]
    grind
  | false =>
    simp only [yt,Bool.and_eq_false_iff,decide_eq_false_iff_not] at h
    grind
theorem zHV (a:zw) (c:Int):zhM (a,some c,()) = some (zgs a.2.1 c != 0,()):=by
  rw [zC]; rfl
theorem zHW (a b:zw):eqI zl a b = eqI zl b a:=by
  rw [zot,zot]
  grind
theorem zEz {σ α:Type} {B:(σ→Option (Int × Unit))→σ→Option (Int × Unit)} {l:List α} (d:α) {p:α→Bool} (st:Int→σ) (hl:l.length ≤ Go.maxLen)
    (hin:∀ k (i:Nat) x,i < l.length→l.getD i d = x→x ∈ l→B k (st i) = bif p x then some ((i:Int),()) else k (st (wI (i + 1)))) (hout:∀ k,B k (st l.length) = some (-1,())):zg B K0 (st 0) = some (j8 p l 0,()):=by
  have:=zeZ (α:=Unit) (B:=B) hl (fun i _=>st i) (fun i _=>some (j8 p (l.drop i) i,())) (fun _ _=>True) (fun k i s hi _ h=>?_) (fun k s _=>?_) () trivial
  · simpa using this
  · rw [hin k i _ hi rfl (z3 hi),h () trivial,zbF d hi]
    simp only [j8]
    cases p (l.getD i d) <;> rfl
  · rw [hout,List.drop_of_length_le (Nat.le_refl _)]; rfl
theorem zJY {σ α ρ:Type} {B:(σ→Option ρ)→σ→Option ρ} {l:List α} (d:α) {p:α→Bool} {fin hit:Option ρ} (st:Int→σ) (hl:l.length ≤ Go.maxLen)
    (hin:∀ k (i:Nat) x,i < l.length→l.getD i d = x→x ∈ l→B k (st i) = bif p x then hit else k (st (wI (i + 1)))) (hout:∀ k,B k (st l.length) = fin):zg B K0 (st 0) = bif l.any p then hit else fin:=by
  have:=jZ (B:=B) (p:=fun x=>!p x) (fin:=fin) (bad:=hit) d st hl (fun k i x h1 h2 h3=>by
    rw [hin k i x h1 h2 h3]; cases p x <;> rfl) hout
  rw [this,← List.not_any_eq_all_not]
  cases l.any p <;> rfl
theorem zwH {l:List zw} {a:zw} (hl:l.length ≤ Go.maxLen):zbj (l,a,()) = some (l.any fun y=>eqI zl a y,()):=by
  have h:zhL (l,a,()) = some (j8 (fun y=>eqI zl a y) l 0,()) :=
    zEz (B:=yN) (l:=l) qN (fun i=>(l,(l.length:Int),i,a)) hl (fun k i x hi hx _=>by
      simp only [yN]
      rw [ltT hi,zp hi,zS,hx]; rfl) (fun k=>by simp only [yN]; rw [ltF]; rfl)
  rw [zC]
  simp only [zbj,h,Option.bind_some]
  rw [zvP (p:=fun y=>eqI zl a y) l 0 (Int.le_refl 0)]
theorem zAU {α:Type} {p:α→Bool}:∀ (xs:List α) (i:Int),0 ≤ i→decide (j8 p xs i < 0) = !xs.any p
  | [],_,_=>rfl
  | x :: xs,i,h=>by
    have ih:=zAU (p:=p) xs (i + 1) (by omega)
    simp only [j8,List.any_cons]
    by_cases hp:p x = true
    · simp [hp]; omega
    · simp only [Bool.not_eq_true] at hp
      simpa [hp] using ih
theorem zEA (b:Int) (h:yt b = true):zfI (b,()) = some (zqX b,()):=by
  simp only [zfI]
  have hs:=zJd h
  simp only [yt,Bool.and_eq_true,decide_eq_true_eq] at h
  have hw:wU b = b:=zgr (by omega)
  rw [hw,decide_eq_false (by omega),cond_false]
  exact congrArg (fun z:Int=>some (((0,z,()),()):zw × Unit)) hs
theorem zCh {l:List zw} {a:zw} (hl:l.length ≤ Go.maxLen):zho (l,a,()) = some (j8 (fun y=>eqI zl y a) l 0,()) :=
  zEz (B:=zbQ) (l:=l) qN (fun i=>(l,i,a)) hl (fun k i x hi hx _=>by
      simp only [zbQ]
      rw [ltT hi,zp hi,zS,hx]; rfl) (fun k=>by simp only [zbQ]; rw [ltF]; rfl)
theorem zGb {l:List z7} {b:Int} (hl:l.length ≤ Go.maxLen):zoW (l,b,()) = some (l.any fun g=>(g.1:Int) == b,()):=by
  rw [zC]
  exact zJY (B:=zeF) (l:=l) qz (fun i=>(l,b,i)) hl (fun k i x hi hx _=>by
      simp only [zeF]
      rw [ltT hi,zp hi,zS,hx]; rfl) (fun k=>by simp only [zeF]; rw [ltF]; rfl)
theorem zo7 (a:zw) (b:Int) (ha:0 ≤ a.2.1) (hb:0 ≤ b ∧ b < 64):ze2 (a,b,()) = some (zly a.2.1 b.toNat,()):=by
  rw [zC]
  simp only [ze2]
  have hh:=has_eq a.2.1 b ha hb
  have hw:wU b = b:=zgr (by omega)
  rw [hw,decide_eq_false (by omega),cond_false,← hh]
  have hw':Go.IntKind.wrap .u64 b = b:=hw
  rw [hw']
def zwI (labels:List zw) (n:Nat) (last:Int) (g:z7):Bool:=yt g.1 && (decide (last < g.1) && (zQ g.2.1 0 ((n:Int) - 1) && labels.any fun y=>eqI zl (zqX g.1) y))
def zfT (labels:List zw) (n:Nat):Int→List z7→Bool
  | _,[]=>true
  | last,g :: gs=>zwI labels n last g && zfT labels n g.1 gs
def zmc (labels:List zw) (n:Nat) (l:List z7):Bool:=decide (l.length ≤ 8) && (zfT labels n (-1) l && ztR labels l)
theorem zAV {labels:List zw} {m:Nat}:∀ (l:List z7) (last:Int),zfT labels m last l = true→∀ g ∈ l,yt g.1 = true
  | [],_,_,g,hg=>by cases hg
  | a :: l,last,h,g,hg=>by
    simp only [zfT,zwI,Bool.and_eq_true] at h
    rcases List.mem_cons.1 hg with rfl | hg
    · exact h.1.1
    · exact zAV l a.1 h.2 g hg
theorem zJZ (r:zf) (h1:r.1.length ≤ Go.maxLen) (h2:r.2.2.1.length ≤ 1000000) (h3:r.2.2.2.1.length ≤ Go.maxLen) (hL:zm8 r.1):vx (r,()) = some (zmc r.1 r.2.2.1.length r.2.2.2.1,()):=by
  have hloop:vx (r,()) = some (zfT r.1 r.2.2.1.length (-1) r.2.2.2.1 && (decide (r.2.2.2.1.length ≤ 8) && !(r.1.any fun a=>zgs a.2.1 (zl1 0 r.2.2.2.1) != 0)),()) :=
    znE (B := zaY) (l:=r.2.2.2.1) (α:=Int × Int) qz (fun i s=>(s.1,r.2.2.2.1,(r.2.2.2.1.length:Int),i,r,s.2))
      (fun rest s=>some (zfT r.1 r.2.2.1.length s.1 rest && (decide (r.2.2.2.1.length ≤ 8) && !(r.1.any fun a=>zgs a.2.1 (zl1 s.2 rest) != 0)),())) h3 (fun k i x rest s hi hx _ hr hk=>by
        simp only [zaY]
        have hw:wI (((List.length r.2.2.1:Nat):Int) - 1) = (r.2.2.1.length:Int) - 1:=by
          unfold wI
          exact IntWalk.i64_in _ (by omega)
        rw [ltT hi,zp hi,hw]
        simp only [zS,hx,cond_true,zEy,Option.bind_some,zfT,zwI,zl1]
        cases hb:yt x.1 with
        | false=>rfl
        | true =>
          simp only [cond_true,zeC,Option.bind_some,Bool.true_and,zwH h1]
          have hk':=hk (x.1,orI s.2 (zwG x.1))
          have e:decide (s.1 < x.1) = !decide ((x.1:Int) ≤ s.1):=by grind
          rw [e]
          cases decide ((x.1:Int) ≤ s.1) with
          | true=>rfl
          | false =>
            cases zQ x.2.1 0 ((r.2.2.1.length:Int) - 1) with
            | false=>rfl
            | true =>
              cases (r.1.any fun y=>eqI zl (zqX x.1) y) with
              | false=>rfl
              | true=>exact hk') (fun k s=>by
        simp only [zaY]
        rw [ltF]
        simp only [cond_false,zfT,zl1,Bool.true_and]
        rw [zjo (p:=fun a=>zgs a.2.1 s.2 != 0) h1 fun x _=>zHV x s.2,Option.bind_some]
        grind) (-1,0)
  rw [hloop]
  unfold zmc
  cases hr:zfT r.1 r.2.2.1.length (-1) r.2.2.2.1 with
  | false=>simp
  | true =>
    rw [zK2 r.1 r.2.2.2.1 hL (zAV _ _ hr)]
    simp
theorem zyX {labels:List zw} {n:Nat}:∀ {l:List z7} {last:Int},zfT labels n last l = zO (fun i=>zwI labels n (if i = 0 then last else (l.getD (i - 1) qz).1) (l.getD i qz)) 0 l.length:=by
  intro l
  induction l with
  | nil=>intro last; rfl
  | cons a l ih =>
    intro last
    simp only [zfT,List.length_cons,zO,ih]
    rw [Bool.eq_iff_iff]
    simp only [Bool.and_eq_true,qr]
    constructor
    · rintro ⟨h1,h2⟩
      refine ⟨h1,fun j h3 h4=>?_⟩
      obtain ⟨i,rfl⟩:∃ i,j = i + 1:=⟨j - 1,by omega⟩
      have:=h2 i (by omega) (by omega)
      rw [if_neg (by omega)]
      by_cases e:i = 0
      · subst e; simpa using this
      · rw [if_neg e] at this
        obtain ⟨m,rfl⟩:∃ m,i = m + 1:=⟨i - 1,by omega⟩
        exact this
    · rintro ⟨h1,h2⟩
      refine ⟨h1,fun j h3 h4=>?_⟩
      have:=h2 (j + 1) (by omega) (by omega)
      rw [if_neg (by omega)] at this
      by_cases e:j = 0
      · subst e; simpa using this
      · rw [if_neg e]
        obtain ⟨m,rfl⟩:∃ m,j = m + 1:=⟨j - 1,by omega⟩
        exact this
theorem zAh (l:List z7) (labels:List zw) (n:Nat) (h1:labels.length ≤ Go.maxLen) (hL:zm8 labels):zgh (l,labels,(n:Int),()) = some (zmc labels n l,()):=by
  rw [zC]
  simp only [zgh,zgg]
  unfold zmc
  by_cases h8:l.length ≤ 8
  · have hl:l.length ≤ Go.maxLen:=by unfold Go.maxLen; omega
    have bits:∀ k1 (j:Nat),j < labels.length→zg (yz k1) K0 (l,labels,(j:Int),0) = bif zuj l (labels.getD j qN).2.1 0 64 then k1 (l,labels,wI ((j:Int) + 1)) else some (false,()):=fun k1 j hj=>by
      have hc:=(hL _ (z3 (d:=qN) hj)).1
      have:=zAR (B:=yz k1) (n:=64) (by unfold Go.maxLen; omega) (p:=fun b=>!zly (labels.getD j qN).2.1 b || l.any fun g=>(g.1:Int) == (b:Int)) (fin:=k1 (l,labels,wI ((j:Int) + 1))) (bad:=some (false,())) (fun i=>(l,labels,(j:Int),i)) (fun k i hi=>by
        simp only [yz]
        rw [decide_eq_true (by omega),zp hj,zS,zo7 _ _ hc (by omega),zGb hl,Int.toNat_natCast]
        simp only [cond_true,Option.bind_some]
        grind) (fun k=>by
        simp only [yz]
        rfl)
      rw [this]
      unfold zuj
      rw [List.range_eq_range']
    have cover:zex K0 (l,labels,0) = some (ztR labels l,()):=by
      rw [zC]
      exact jZ (l:=labels) qN (p:=fun a=>zuj l a.2.1 0 64) (fun i=>(l,labels,i)) h1 (fun k i x hi hx _=>by
        simp only [zaU]
        rw [ltT hi,cond_true]
        refine (bits k i hi).trans ?_
        rw [hx]) (fun k=>by simp only [zaU]; rw [ltF]; rfl)
    have hloop:zhT K0 (l,labels,(n:Int),0) = bif zO (fun i=>zwI labels n (if i = 0 then -1 else (l.getD (i - 1) qz).1) (l.getD i qz)) 0 (l.length - 0) then some (ztR labels l,()) else some (false,()) :=
      zX (i0:=0) hl (Nat.zero_le _) (fun i=>(l,labels,(n:Int),i)) (fun k i h3 h4=>by
        simp only [zaV]
        rw [ltT h4]
        simp only [zp h4,cond_true,zS,zwI]
        by_cases hb:yt (l.getD i qz).1 = true
        · rw [zEA _ hb,Option.bind_some,zCh h1,Option.bind_some,hb]
          have ha:(labels.any fun y=>eqI zl y (zqX (l.getD i qz).1)) = labels.any fun y=>eqI zl (zqX (l.getD i qz).1) y:=by congr 1; funext y; exact zHW _ _
          rw [zAU labels 0 (Int.le_refl 0),ha]
          simp only [yt,Bool.and_eq_true,decide_eq_true_eq] at hb
          by_cases hi0:i = 0
          · subst hi0
            unfold zQ
            grind
          · rw [zh6 (by omega) (by unfold Go.maxLen; omega),zp (by omega),Int.toNat_natCast,if_neg hi0]
            unfold zQ
            grind
        · simp only [Bool.not_eq_true] at hb
          rw [hb]
          simp only [yt,Bool.and_eq_false_iff,decide_eq_false_iff_not] at hb
          grind) (fun k=>by
        simp only [zaV]
        rw [ltF,cond_false]
        exact cover)
    rw [hloop,zyX]
    grind
  · grind
def qZ (r:zf):Bool:=zbu r.1 && (zkV r && (zd7 r.2.2.1 && (zmc r.1 r.2.2.1.length r.2.2.2.1 && (zgq r.1.length r.2.2.2.2.1 && zui r))))
structure qp (r:zf):Prop where
  labels:zm8 r.1
  guilds:r.2.2.2.1.length ≤ Go.maxLen
  quotas:r.2.2.2.2.1.length ≤ Go.maxLen
theorem zlz (r:zf) (h:qp r):zac (r,()) = some (qZ r,()):=by
  rw [zC]
  show zg zfp K0 (6,0,r,[some vz,some ye,some jM,some vx,some vy,some yO]) = _
  obtain ⟨m,hm⟩:=zug
  have hu:zg zfp (m + 8) (6,0,r,[some vz,some ye,some jM,some vx,some vy,some yO]) =
    Option.bind (vz (r,())) fun q=>bif q.1 then Option.bind (ye (r,())) fun q=>bif q.1 then Option.bind (jM (r,())) fun q=>bif q.1 then Option.bind (vx (r,())) fun q=>bif q.1 then Option.bind (vy (r,())) fun q=>bif q.1 then Option.bind (yO (r,())) fun q=>bif q.1 then some (true,()) else some (false,()) else some (false,()) else some (false,()) else some (false,()) else some (false,()) else some (false,()):=by kernel_rfl
  rw [hm,hu,zJU]
  unfold qZ
  simp only [Option.bind_some]
  cases h1:zbu r.1 with
  | false=>rfl
  | true =>
    have hb:1 ≤ r.1.length ∧ r.1.length ≤ 8:=by unfold zbu zQ at h1; grind
    rw [zKw r (by omega),zHT]
    simp only [Option.bind_some,cond_true]
    cases zkV r with
    | false=>rfl
    | true =>
      cases h2:zd7 r.2.2.1 with
      | false=>rfl
      | true =>
        have hc:r.2.2.1.length ≤ 8:=by unfold zd7 zQ at h2; grind
        rw [zJZ r (by unfold Go.maxLen; omega) (by omega) h.guilds h.labels,zJW r (by omega),zK1]
        simp only [Option.bind_some]
        grind
theorem zr8 (r:zf) (h:qp r):zeN (r,()) = some (qZ r,()):=by
  rw [zC]
  simp only [zeN,zhv,zAf,zwF,Option.bind_some]
  unfold qZ
  cases h1:zbu r.1 with
  | false=>rfl
  | true =>
    have hb:1 ≤ r.1.length ∧ r.1.length ≤ 8:=by unfold zbu zQ at h1; grind
    rw [zAh _ _ _ (by unfold Go.maxLen; omega) h.labels]
    simp only [Option.bind_some]
    by_cases hw:zQ (List.length r.2.1:Int) 1 8 = true
    · have hloop:zi3 K0 (0,r) = bif (r.2.1.all fun i=>decide (0 ≤ i) && decide (i < (r.1.length:Int))) then some (zgq r.1.length r.2.2.2.2.1 && zui r,()) else some (false,()) :=
        jZ (l:=r.2.1) (0:Int) (fun i=>(i,r)) (by unfold zQ at hw; unfold Go.maxLen; grind) (fun k i x hi hx _=>by
          simp only [zfk]
          rw [ltT hi,zp hi,zp hi,zS,hx]
          grind) (fun k=>by
          simp only [zfk]
          rw [ltF,zAg _ h.quotas,zir]
          simp only [Option.bind_some,zgq,zui,zQ]
          by_cases hn:r.2.2.2.2.1.length = r.1.length
          · rw [hn]; grind
          · grind)
      rw [hloop]
      unfold zkV
      unfold zQ at hw ⊢
      grind
    · unfold zkV
      unfold zQ at hw ⊢
      grind
end Go.Proofs.YtokcjmkikhgkeaaGreatDoor
end
section
namespace Go.Proofs.YtokcjmkikhgkeaaGreatDoor
open Go.Ev
def qW (x:Int):Bool:=decide (0 ≤ x ∧ x ≤ 127)
theorem zHX (x:Int):zeh (x,()) = some (qW x,()):=by simp only [zeh,qW]; grind
theorem zGc (x:Int):zg0 (x,()) = some (qW x,()):=by simp only [zg0,qW]; grind
theorem zJe (x:Int):zic (x,()) = some (qW x,()):=by simp only [zic,qW]; grind
theorem zGd (x:Int):ze3 (x,()) = some (qW x,()):=by simp only [ze3,qW]; grind
def zou (x:vA):Bool:=qW x.1 && qW x.2.1
theorem zKy (x:vA):zfE (x,()) = some (zou x,()):=by simp only [zfE,zou,qW]; grind
theorem zr9 (x:vA):qD (x,()) = some (zou x,()):=by simp only [qD,zou,qW]; grind
def zCS (x:Int):Bool:=decide (0 ≤ x ∧ x ≤ 5)
theorem zKz (x:Int):ziA (x,()) = some (zCS x,()):=by simp only [ziA,zCS]; grind
def zm9 (s:ByteArray):Bool:=ByteArray.toList s == ByteArray.toList (ByteArray.mk #[])
def zjt (x:jD):Bool:=bif x.1 then zjr x.2.1 else zm9 x.2.1
theorem zGe {s:ByteArray} (h:zm9 s = true):zjr s = false:=by
  unfold zm9 at h
  have:=eq_of_beq h
  rw [Go.ByteArray.toList_eq,Go.ByteArray.toList_eq] at this
  have h2:s.size = 0:=by
    rw [← zmb,this]; rfl
  unfold zjr; rw [h2]; rfl
theorem zJf (x:jD):zgm (x,()) = some (!zjt x,()):=by
  rw [zC]
  simp only [zgm,zm7,Option.bind_some,zjt,zm9]
  grind
theorem zEB {l:List jD} (hl:l.length ≤ Go.maxLen):zjd (l,()) = some (l.all zjt,()):=by
  rw [zC]
  simp only [zjd]
  rw [zsv (p:=fun x=>!zjt x) hl fun x _=>zJf x,Option.bind_some,← j5]
  cases l.any fun x=>!zjt x <;> rfl
theorem zCi {l:List jD} (hl:l.length ≤ Go.maxLen):zk8 (l,()) = some (l.all zjt,()):=by
  rw [zC]
  exact jZ (B:=zb1) (l:=l) zkm (fun i=>(l,i)) hl (fun k i x hi hx _=>by
    simp only [zb1]
    rw [ltT hi]
    simp only [zp hi,zS,hx,zlx,Option.bind_some,cond_true,zjt]
    have:=@zGe x.2.1
    unfold zm9 at this ⊢
    grind) (fun k=>by simp only [zb1]; rw [ltF]; rfl)
theorem zKA (a b:vA):eqI zY a b = ((a.1:Int) == b.1 && (a.2.1:Int) == b.2.1):=by
  show cond ((a.1:Int) == b.1) (cond ((a.2.1:Int) == b.2.1) true false) false = _
  cases ((a.1:Int) == b.1) <;> cases ((a.2.1:Int) == b.2.1) <;> rfl
def ztS (x:qi):Bool:=bif x.1 then zou x.2.1 && (zou x.2.2.1 && zCS x.2.2.2.1) else eqI qb x (zb qb)
theorem zEC (x:qi):ziP (x,()) = some (!ztS x,()):=by
  rw [zC]
  simp only [ziP,zKy,zKz,Option.bind_some,ztS]
  grind
def zgt (a b:qi):Bool:=a.1 && (eqI zY a.2.1 b.2.1 && (a.2.2.2.1:Int) == b.2.2.2.1)
theorem zAi (x:qi) (r:vA) (d:Int):zf7 (x,some r,some d,()) = some (x.1 && (eqI zY x.2.1 r && (x.2.2.2.1:Int) == d),()):=by
  rw [zC]
  simp only [zf7,Option.bind_some]
  grind
theorem zKB {α:Type} {d:α} {p:α→Bool}:∀ (l:List α) (i:Nat) (a:Int),i < l.length→p (l.getD i d) = true→((j8 p l a) == a + (i:Int)) = zO (fun j=>!p (l.getD j d)) 0 i:=by
  intro l
  induction l with
  | nil=>intro i a h; simp at h
  | cons x l ih =>
    intro i a h hp
    cases i with
    | zero =>
      have hx:p x = true:=hp
      simp only [j8,hx,cond_true,zO]
      simp
    | succ i =>
      have h':i < l.length:=by simpa using h
      have hp':p (l.getD i d) = true:=hp
      have:=ih i (a + 1) h' hp'
      have e:a + 1 + (i:Int) = a + ((i + 1:Nat):Int):=by omega
      rw [e] at this
      simp only [j8]
      rw [Bool.eq_iff_iff,qr]
      rw [Bool.eq_iff_iff,qr] at this
      cases hx:p x with
      | true =>
        simp only [cond_true]
        constructor
        · intro h1
          have:=eq_of_beq h1
          omega
        · intro h1
          have h2:(!p x) = true:=h1 0 (by omega) (by omega)
          rw [hx] at h2; cases h2
      | false =>
        simp only [cond_false]
        rw [this]
        constructor
        · intro h1 j _ h2
          cases j with
          | zero=>show (!p x) = true; rw [hx]; rfl
          | succ j=>exact h1 j (by omega) (by omega)
        · intro h1 j _ h2
          exact h1 (j + 1) (by omega) (by omega)
def zyY (l:List qi):Bool:=zO (fun i=>ztS (l.getD i qg) && bif (l.getD i qg).1 then zO (fun j=>!zgt (l.getD j qg) (l.getD i qg)) 0 i else true) 0 (l.length - 0)
theorem zED {l:List qi} (hl:l.length ≤ Go.maxLen):zmS (l,()) = some (zyY l,()):=by
  rw [zC]
  exact zX (B:=zdO) (i0:=0) hl (Nat.zero_le _) (fun i=>(l,l,(l.length:Int),i)) (fun k i h1 h2=>by
    simp only [zdO]
    rw [ltT h2,zp h2]
    simp only [zS,zEC,Option.bind_some,cond_true]
    cases he:ztS (l.getD i qg) with
    | false=>rfl
    | true =>
      cases hs:(l.getD i qg).1 with
      | false=>rfl
      | true =>
        have hi:ziQ (l,(l.getD i qg).2.1,(l.getD i qg).2.2.2.1,()) = some (j8 (fun x=>zgt x (l.getD i qg)) l 0,()):=by
          simp only [ziQ]
          rw [zm5 (p:=fun x=>zgt x (l.getD i qg)) hl fun x _=>zAi x _ _]
          rfl
        have hp:zgt (l.getD i qg) (l.getD i qg) = true:=by
          unfold zgt; rw [zKA,hs]; simp
        have:=zKB (d:=qg) (p:=fun x=>zgt x (l.getD i qg)) l i 0 h2 hp
        rw [Int.zero_add] at this
        rw [hi,← this]
        simp only [Option.bind_some,Bool.not_true,cond_false,cond_true,Bool.true_and,bne]
        cases (j8 (fun x=>zgt x (l.getD i qg)) l 0 == (i:Int)) <;> rfl) (fun k=>by simp only [zdO]; rw [ltF]; rfl)
theorem zCj {l:List qi} (hl:l.length ≤ Go.maxLen):zla (l,()) = some (zyY l,()):=by
  rw [zC]
  have inner:∀ k0 (i:Nat),i < l.length→zb4 K0 k0 (l,(i:Int),0,l.getD i qg) = bif zO (fun j=>!((l.getD i qg).1 && zgt (l.getD j qg) (l.getD i qg))) 0 (i - 0) then k0 (l,wI ((i:Int) + 1)) else some (false,()):=fun k0 i hi =>
    zX (B:=zb3 k0) (i0:=0) (n:=i) (by omega) (Nat.zero_le _) (fun j=>(l,(i:Int),j,l.getD i qg)) (fun k j h1 h2=>by
      simp only [zb3]
      rw [ltT h2]
      simp only [zp (show j < l.length by omega),zS,cond_true,zgt]
      grind) (fun k=>by simp only [zb3]; rw [ltF]; rfl)
  exact zX (B:=fun k=>yW (zb4 K0 k) k) (i0:=0) hl (Nat.zero_le _) (fun i=>(l,i)) (fun k i h1 h2=>by
    simp only [yW]
    rw [ltT h2]
    simp only [zp h2,zS,zr9,Option.bind_some,cond_true,ztS,zCS]
    have:=inner k i h2
    rw [this]
    cases hs:(l.getD i qg).1 with
    | false =>
      simp only [Bool.false_and,Bool.not_false,cond_false,Bool.and_true]
      have:zO (fun _=>true) 0 (i - 0) = true:=qr.2 fun _ _ _=>rfl
      rw [this]
      grind
    | true =>
      simp only [Bool.true_and,cond_true,Nat.sub_zero]
      grind) (fun k=>by simp only [yW]; rw [ltF]; rfl)
def zj6 (k n:Int) (r:vA):Bool:=((k == 1 || k == 3) && (qW n && eqI zY r (zb zY))) || (k == 2 && (n == 0 && zou r))
def vS (x:qj):Bool:=bif x.1 then zjr x.2.1 && zj6 x.2.2.1 x.2.2.2.1 x.2.2.2.2.1 else eqI zL x (zb zL)
theorem zEE (x:zzs):zbT (x,()) = some (zj6 x.1 x.2.1 x.2.2.1,()):=by
  rw [zC]
  simp only [zbT,zHX,Option.bind_some,zj6,zou]
  grind
theorem zCk (x:qj):zhy (x,()) = some (!vS x,()):=by
  rw [zC]
  have h:zqK (x,()) = some ((x.2.2.1,x.2.2.2.1,x.2.2.2.2.1,()),()):=rfl
  simp only [zhy,zm7,Option.bind_some,vS,h,zEE]
  grind
theorem zCl {l:List qj} (hl:l.length ≤ Go.maxLen):zhA (l,()) = some (l.all vS,()):=by
  rw [zC]
  simp only [zhA]
  rw [zjM (p:=fun x=>!vS x) hl fun x _=>zCk x,Option.bind_some,← j5]
  cases l.any fun x=>!vS x <;> rfl
theorem zCm {l:List qj} (hl:l.length ≤ Go.maxLen):zlc (l,()) = some (l.all vS,()):=by
  rw [zC]
  exact jZ (B:=zb6) (l:=l) zB (fun i=>(l,i)) hl (fun k i x hi hx _=>by
    simp only [zb6]
    rw [ltT hi]
    simp only [zp hi,zS,hx,zlx,zGc,zr9,Option.bind_some,cond_true,vS,zj6]
    grind) (fun k=>by simp only [zb6]; rw [ltF]; rfl)
def zqb (c:Int):Bool:=decide (32 ≤ c ∧ c ≤ 126)
theorem zKC (c:Int):ziB (c,()) = some (zqb c,()):=by simp only [ziB,zqb]; grind
theorem zLe (c:Int):zkp (c,()) = some (zqb c,()):=by simp only [zkp,zqb]; grind
def zyZ (s:ByteArray):Bool:=decide (1 ≤ s.size ∧ s.size ≤ 40) && ((chr s 0 != 32 && chr s (s.size - 1) != 32) && zO (fun i=>zqb (chr s i)) 0 s.size)
theorem zy0 (a b:ByteArray) (h:a.size < b.size):(ByteArray.toList a == ByteArray.toList b) = false:=by
  rw [beq_eq_false_iff_ne]
  intro e
  rw [Go.ByteArray.toList_eq,Go.ByteArray.toList_eq] at e
  have:=congrArg List.length e
  rw [zmb,zmb] at this
  omega
theorem zLf (s:ByteArray):∀ (n:Nat) (t:ByteArray),t.size ≤ n→∀ fuel,n < fuel→∃ r,zg zP fuel (t,32) = some (r,()) ∧ r.size ≤ t.size ∧ (chr t 0 ≠ 32→r = t) ∧ (1 ≤ t.size→chr t 0 = 32→r.size < t.size):=by
  intro n
  induction n with
  | zero =>
    intro t ht fuel hf
    obtain ⟨f,rfl⟩:∃ f,fuel = f + 1:=⟨fuel - 1,by omega⟩
    refine ⟨t,?_,Nat.le_refl _,fun _=>rfl,fun h=>by omega⟩
    show zP _ (t,32) = _
    simp only [zP]
    rw [decide_eq_false (by omega)]; rfl
  | succ n ih =>
    intro t ht fuel hf
    obtain ⟨f,rfl⟩:∃ f,fuel = f + 1:=⟨fuel - 1,by omega⟩
    by_cases h0:t.size = 0
    · refine ⟨t,?_,Nat.le_refl _,fun _=>rfl,fun h=>by omega⟩
      show zP _ (t,32) = _
      simp only [zP]
      rw [decide_eq_false (by omega)]; rfl
    have hc:((UInt8.toNat (List.getD t.data.toList (Int.toNat 0) 0):Nat):Int) = chr t 0:=rfl
    by_cases h32:chr t 0 = 32
    · have hsz:(ByteArray.extract t (Int.toNat 1) t.size).size = t.size - 1:=by
        rw [ByteArray.size_extract]
        show min t.size t.size - 1 = _
        omega
      obtain ⟨r,h1,h2,-⟩:=ih (ByteArray.extract t (Int.toNat 1) t.size) (by rw [hsz]; omega) f (by omega)
      refine ⟨r,?_,by omega,fun h=>absurd h32 h,fun _ _=>by omega⟩
      show zP (zg zP f) (t,32) = _
      simp only [zP]
      rw [hc,h32,h1]
      grind
    · refine ⟨t,?_,Nat.le_refl _,fun _=>rfl,fun _ h=>absurd h h32⟩
      show zP (zg zP f) (t,32) = _
      simp only [zP]
      rw [hc,decide_eq_true (by omega),decide_eq_true (by omega)]
      grind
theorem zLg:∀ (n:Nat) (t:ByteArray),t.size ≤ n→n ≤ 100→∀ fuel,n < fuel→∃ r,zg zM fuel (t,32) = some (r,()) ∧ r.size ≤ t.size ∧ (chr t (t.size - 1) ≠ 32→r = t) ∧ (1 ≤ t.size→chr t (t.size - 1) = 32→r.size < t.size):=by
  intro n
  induction n with
  | zero =>
    intro t ht _ fuel hf
    obtain ⟨f,rfl⟩:∃ f,fuel = f + 1:=⟨fuel - 1,by omega⟩
    refine ⟨t,?_,Nat.le_refl _,fun _=>rfl,fun h=>by omega⟩
    show zM _ (t,32) = _
    simp only [zM]
    rw [decide_eq_false (by omega)]; rfl
  | succ n ih =>
    intro t ht hn fuel hf
    obtain ⟨f,rfl⟩:∃ f,fuel = f + 1:=⟨fuel - 1,by omega⟩
    by_cases h0:t.size = 0
    · refine ⟨t,?_,Nat.le_refl _,fun _=>rfl,fun h=>by omega⟩
      show zM _ (t,32) = _
      simp only [zM]
      rw [decide_eq_false (by omega)]; rfl
    have hw:wI ((t.size:Int) - 1) = ((t.size - 1:Nat):Int):=zh6 (by omega) (by unfold Go.maxLen; omega)
    have hc:((UInt8.toNat (List.getD t.data.toList (Int.toNat ((t.size - 1:Nat):Int)) 0):Nat):Int) = chr t (t.size - 1):=by rw [Int.toNat_natCast]; rfl
    by_cases h32:chr t (t.size - 1) = 32
    · have hsz:(ByteArray.extract t 0 (Int.toNat ((t.size - 1:Nat):Int))).size = t.size - 1:=by
        rw [ByteArray.size_extract,Int.toNat_natCast]
        omega
      obtain ⟨r,h1,h2,-⟩:=ih (ByteArray.extract t 0 (Int.toNat ((t.size - 1:Nat):Int))) (by rw [hsz]; omega) (by omega) f (by omega)
      refine ⟨r,?_,by omega,fun h=>absurd h32 h,fun _ _=>by omega⟩
      show zM (zg zM f) (t,32) = _
      simp only [zM]
      rw [hw,hc,h32,h1,zp (by omega)]
      grind
    · refine ⟨t,?_,Nat.le_refl _,fun _=>rfl,fun _ h=>absurd h h32⟩
      show zM (zg zM f) (t,32) = _
      simp only [zM]
      rw [hw,hc,zp (by omega),decide_eq_true (by omega)]
      grind
theorem zK3 (s:ByteArray) (h:1 ≤ s.size ∧ s.size ≤ 40):∃ r,zgc (s,ByteArray.mk #[32],()) = some (r,()) ∧ (ByteArray.toList r == ByteArray.toList s) = (chr s 0 != 32 && chr s (s.size - 1) != 32):=by
  obtain ⟨r,h1,h2,h3,h4⟩:=zLg s.size s (Nat.le_refl _) (by omega) K0 (zCQ (by unfold Go.maxLen; omega))
  obtain ⟨r',h5,h6,h7,h8⟩:=zLf s r.size r (Nat.le_refl _) K0 (zCQ (by unfold Go.maxLen; omega))
  refine ⟨r',?_,?_⟩
  · simp only [zgc]
    have e0:(ByteArray.toList s == ByteArray.toList (ByteArray.mk #[])) = false:=by
      cases he:zm9 s with
      | false=>exact he
      | true =>
        unfold zm9 at he
        have:=eq_of_beq he
        rw [Go.ByteArray.toList_eq,Go.ByteArray.toList_eq] at this
        have h2:s.size = 0:=by
          rw [← zmb,this]; rfl
        omega
    have e1:(ByteArray.toList (ByteArray.mk #[32]) == ByteArray.toList (ByteArray.mk #[])) = false:=by
      rw [Go.ByteArray.toList_eq,Go.ByteArray.toList_eq]; rfl
    have p1:zbm (s,32,()) = some (r,()):=h1
    have p2:zc7 (r,32,()) = some (r',()):=h5
    have z1:((ByteArray.size (ByteArray.mk #[32]):Nat):Int) = 1:=rfl
    have z2:((UInt8.toNat (List.getD (Array.toList (ByteArray.data (ByteArray.mk #[32]))) (Int.toNat 0) 0):Nat):Int) = 32:=rfl
    rw [e0,e1,z1,z2,p1,Option.bind_some,p2]
    rfl
  · by_cases hl:chr s (s.size - 1) = 32
    · have:=h4 h.1 hl
      rw [zy0 r' s (by omega),hl]; simp
    · obtain rfl:=h3 hl
      by_cases hf:chr r 0 = 32
      · have:=h8 h.1 hf
        rw [zy0 r' r (by omega),hf]; simp
      · rw [h7 hf]
        simp [hf,hl]
theorem zGf (s:ByteArray):zku (s,()) = some (zyZ s,()):=by
  rw [zC]
  simp only [zku]
  unfold zyZ
  by_cases hb:1 ≤ s.size ∧ s.size ≤ 40
  · obtain ⟨r,h1,h2⟩:=zK3 s hb
    rw [zyU (by unfold Go.maxLen; omega) zKC,h1,zyT,← h2]
    simp only [Option.bind_some]
    grind
  · grind
theorem zEF (s:ByteArray):ziT (s,()) = some (zyZ s,()):=by
  rw [zC]
  simp only [ziT,ziS]
  unfold zyZ
  by_cases hb:1 ≤ s.size ∧ s.size ≤ 40
  · have hw:wI ((s.size:Int) - 1) = ((s.size - 1:Nat):Int):=zh6 hb.1 (by unfold Go.maxLen; omega)
    have hc:((UInt8.toNat (List.getD s.data.toList (Int.toNat ((s.size - 1:Nat):Int)) 0):Nat):Int) = chr s (s.size - 1):=by rw [Int.toNat_natCast]; rfl
    have hc0:((UInt8.toNat (List.getD s.data.toList (Int.toNat 0) 0):Nat):Int) = chr s 0:=rfl
    have hloop:zj1 K0 (s,0) = bif zO (fun i=>zqb (chr s i)) 0 (s.size - 0) then some (true,()) else some (false,()) :=
      zX (i0:=0) (n:=s.size) (by unfold Go.maxLen; omega) (Nat.zero_le _) (fun i=>(s,i)) (fun k i h1 h2=>by
        simp only [zgi]
        have hc:((UInt8.toNat (List.getD s.data.toList (Int.toNat (i:Int)) 0):Nat):Int) = chr s i:=by rw [Int.toNat_natCast]; rfl
        rw [hc,ltT h2,zp h2,zLe]; rfl) (fun k=>by simp only [zgi]; rw [ltF]; rfl)
    rw [hw,zp (by omega),hc,hc0,hloop]
    grind
  · grind
def zju (x:qw):Bool:=bif x.1 then (qW x.2.1 && (qW x.2.2.1 && qW x.2.2.2.1)) && zyZ x.2.2.2.2.1 else eqI qh x (zb qh)
theorem zEG (x:qw):zjb (x,()) = some (!zju x,()):=by
  rw [zC]
  simp only [zjb,zjY,zJe,zGf,Option.bind_some,zju]
  grind
theorem zEH {l:List qw} (hl:l.length ≤ Go.maxLen):zje (l,()) = some (l.all zju,()):=by
  rw [zC]
  simp only [zje]
  rw [zjN (p:=fun x=>!zju x) hl fun x _=>zEG x,Option.bind_some,← j5]
  cases l.any fun x=>!zju x <;> rfl
theorem zCn {l:List qw} (hl:l.length ≤ Go.maxLen):zle (l,()) = some (l.all zju,()):=by
  rw [zC]
  exact jZ (B:=zb9) (l:=l) zdk (fun i=>(l,i)) hl (fun k i x hi hx _=>by
    simp only [zb9]
    rw [ltT hi]
    simp only [zp hi,zS,hx,zEF,zGd,Option.bind_some,cond_true,zju]
    grind) (fun k=>by simp only [zb9]; rw [ltF]; rfl)
end Go.Proofs.YtokcjmkikhgkeaaGreatDoor
end
section
namespace Go.Proofs.YtokcjmkikhgkeaaGreatDoor
open Go.Ev
abbrev M62:Int:=4611686018427387904
abbrev U64:Int:=18446744073709551616
def zT (x:Int):Bool:=decide (0 ≤ x ∧ x ≤ 3)
theorem vT (x:Int):qU (x,()) = some (zT x,()):=by simp only [qU,zT]; grind
def zov (a b:Int):Int × Int × Unit:=bif decide (a + b > M62) then (0,7,()) else (a + b,0,())
theorem zvr {a b:Int} (ha:0 ≤ a) (hb:0 ≤ b ∧ b < U64):ze1 (a,b,()) = some (zov a b):=by
  simp only [ze1,extA,extB,zov,cond_true]
  have h0:0 ≤ (a + b) / 18446744073709551616:=by omega
  have h1:((a + b) / 18446744073709551616 != 0) = decide (18446744073709551616 ≤ a + b):=by
    rw [Bool.eq_iff_iff]; simp only [bne_iff_ne,ne_eq,decide_eq_true_eq]; omega
  have h2:a + b < 18446744073709551616→(a + b) % 18446744073709551616 = a + b:=fun h=>by omega
  unfold M62 at *
  unfold U64 at *
  grind
theorem zd1 {a b:Int} (ha:0 ≤ a ∧ a < U64) (hb:0 ≤ b ∧ b < U64):vJ (a,b,()) = some (zov a b):=by
  simp only [vJ,zov]
  unfold M62
  unfold U64 at *
  by_cases h1:a > 4611686018427387904
  · grind
  · have hw:wU (4611686018427387904 - a) = 4611686018427387904 - a:=zgr (by omega)
    rw [hw]
    by_cases h2:b > 4611686018427387904 - a
    · grind
    · have hw:wU (a + b) = a + b:=zgr (by omega)
      rw [hw]
      grind
def zqc (a b:Int):Int × Int × Unit:=bif decide (a * b > M62) then (0,7,()) else (a * b,0,())
theorem zLh (a b:Nat) (ha:a < 18446744073709551616) (hb:b < 18446744073709551616):zdm ((a:Int),(b:Int),()) = some ((((a * b) / 18446744073709551616:Nat):Int),(((a * b) % 18446744073709551616:Nat):Int),()):=by
  have e32:((2:Int) ^ min (Int.toNat 32) (Go.IntKind.bits .u64)) = 4294967296:=rfl
  have hand:∀ x:Nat,x < 18446744073709551616→wU (BitVec.toNat (BitVec.ofInt (Go.IntKind.bits .u64) (x:Int) &&& BitVec.ofInt (Go.IntKind.bits .u64) 4294967295):Int) = ((x % 4294967296:Nat):Int):=fun x hx=>by
    have h1:BitVec.ofInt (Go.IntKind.bits .u64) 4294967295 = BitVec.ofNat 64 4294967295:=rfl
    rw [zkW,h1]
    have h2:(BitVec.ofNat 64 x &&& BitVec.ofNat 64 4294967295).toNat = x % 4294967296:=by
      rw [BitVec.toNat_and,BitVec.toNat_ofNat,BitVec.toNat_ofNat,Nat.mod_eq_of_lt (show x < 2 ^ 64 by omega)]
      exact Nat.and_two_pow_sub_one_eq_mod x 32
    have h3:((BitVec.ofNat 64 x &&& BitVec.ofNat 64 4294967295:BitVec (Go.IntKind.bits .u64)).toNat:Int) = ((x % 4294967296:Nat):Int):=congrArg _ h2
    exact (congrArg wU h3).trans (zgr (by omega))
  have hdiv:∀ x:Nat,Int.fdiv (x:Int) 4294967296 = ((x / 4294967296:Nat):Int):=fun x=>by
    rw [Int.fdiv_eq_ediv_of_nonneg _ (by omega)]; rfl
  have hw:∀ x:Nat,x < 18446744073709551616→wU (x:Int) = (x:Int):=fun x hx=>zgr (by omega)
  have hmod:wU ((a:Int) * (b:Int)) = (((a * b) % 18446744073709551616:Nat):Int):=by
    rw [show ((a:Int) * (b:Int)) = ((a * b:Nat):Int) by simp]
    show ((a * b:Nat):Int) % ((2 ^ 64:Nat):Int) = _
    rfl
  simp only [zdm,e32]
  have ha1:a / 4294967296 ≤ 4294967295:=by omega
  have ha0:a % 4294967296 ≤ 4294967295:=by omega
  have hb1:b / 4294967296 ≤ 4294967295:=by omega
  have hb0:b % 4294967296 ≤ 4294967295:=by omega
  have hp:=Nat.mul_le_mul ha1 hb1
  have hq:=Nat.mul_le_mul ha1 hb0
  have hr:=Nat.mul_le_mul ha0 hb1
  have hs:=Nat.mul_le_mul ha0 hb0
  have hab:a * b = (a / 4294967296 * (b / 4294967296)) * 18446744073709551616 + (a / 4294967296 * (b % 4294967296) + a % 4294967296 * (b / 4294967296)) * 4294967296 + a % 4294967296 * (b % 4294967296):=by
    conv=>lhs; rw [← Nat.div_add_mod a 4294967296,← Nat.div_add_mod b 4294967296]
    grind
  rw [hmod,hab,hand a ha,hand b hb,hdiv a,hdiv b]
  generalize a / 4294967296 = a1 at *
  generalize a % 4294967296 = a0 at *
  generalize b / 4294967296 = b1 at *
  generalize b % 4294967296 = b0 at *
  simp only [← Int.natCast_mul]
  generalize a1 * b1 = p at *
  generalize a1 * b0 = q at *
  generalize a0 * b1 = r at *
  generalize a0 * b0 = s at *
  rw [hw p (by omega),hw q (by omega),hw r (by omega),hw s (by omega),hdiv s]
  simp only [← Int.natCast_add]
  rw [hw (q + s / 4294967296) (by omega),hdiv (q + s / 4294967296),hand _ (by omega)]
  simp only [← Int.natCast_add]
  rw [hw (p + (q + s / 4294967296) / 4294967296) (by omega),hw ((q + s / 4294967296) % 4294967296 + r) (by omega),hdiv]
  simp only [← Int.natCast_add]
  rw [hw _ (by omega)]
  have:p + (q + s / 4294967296) / 4294967296 + ((q + s / 4294967296) % 4294967296 + r) / 4294967296 = (p * 18446744073709551616 + (q + r) * 4294967296 + s) / 18446744073709551616:=by omega
  rw [this]
theorem zEI {a b:Int} (ha:0 ≤ a ∧ a < U64) (hb:0 ≤ b ∧ b < U64):zfJ (a,b,()) = some (zqc a b):=by
  obtain ⟨m,rfl⟩:=Int.eq_ofNat_of_zero_le ha.1
  obtain ⟨n,rfl⟩:=Int.eq_ofNat_of_zero_le hb.1
  unfold U64 at *
  simp only [zfJ]
  rw [zLh m n (by omega) (by omega),Option.bind_some]
  unfold zqc M62
  have e:((m:Int) * (n:Int)) = ((m * n:Nat):Int):=by simp
  rw [e]
  generalize m * n = p
  by_cases h:p < 18446744073709551616
  · have h1:p / 18446744073709551616 = 0:=by omega
    have h2:p % 18446744073709551616 = p:=by omega
    simp only [h1,h2]
    grind
  · have h1:(((p / 18446744073709551616:Nat):Int) != 0) = true:=by simp only [bne_iff_ne,ne_eq]; omega
    simp only [h1]
    grind
theorem zCo {a b:Int} (ha:0 ≤ a ∧ a < U64) (hb:0 ≤ b ∧ b < U64):zhr (a,b,()) = some (zqc a b):=by
  obtain ⟨m,rfl⟩:=Int.eq_ofNat_of_zero_le ha.1
  obtain ⟨n,rfl⟩:=Int.eq_ofNat_of_zero_le hb.1
  unfold U64 at *
  simp only [zhr,zqc]
  unfold M62
  by_cases h0:m = 0
  · subst h0
    simp only [Int.natCast_zero,Int.zero_mul]
    rfl
  · have e:((m:Int) * (n:Int)) = ((m * n:Nat):Int):=by simp
    have hd:Int.tdiv 4611686018427387904 (m:Int) = ((4611686018427387904 / m:Nat):Int):=rfl
    have hle:4611686018427387904 / m ≤ 4611686018427387904:=Nat.div_le_self _ _
    have h1:4611686018427387904 / m < n ↔ 4611686018427387904 < m * n:=by
      have:=Nat.div_lt_iff_lt_mul (x:=4611686018427387904) (y:=n) (k:=m) (by omega)
      rw [Nat.mul_comm] at this
      exact this
    rw [hd]
    generalize 4611686018427387904 / m = q at *
    have hw:wU ((q:Nat):Int) = (q:Int):=zgr (by omega)
    have b1:(((m:Nat):Int) != 0) = true:=by simp only [bne_iff_ne,ne_eq]; omega
    have b2:(((m:Nat):Int) == 0) = false:=by simp only [beq_eq_false_iff_ne,ne_eq]; omega
    rw [hw,b1,b2,e]
    by_cases h2:m * n > 4611686018427387904
    · have:=h1.2 h2
      rw [decide_eq_true (by omega),decide_eq_true (by omega)]
      rfl
    · have h3:¬ q < n:=fun h=>h2 (h1.1 h)
      have hw2:wU ((m * n:Nat):Int) = ((m * n:Nat):Int):=zgr (by omega)
      rw [decide_eq_false (by omega),decide_eq_false (by omega),hw2]
      rfl
def zj7:Int→List Int→Int × Int × Unit
  | a,[]=>(a,0,())
  | a,x :: l=>bif decide (a + x > M62) then (0,7,()) else zj7 (a + x) l
theorem jQ {σ α β ρ:Type} {B:(σ→Option ρ)→σ→Option ρ} {l:List β} (d:β) (I:Nat→α→Prop) (st:Int→α→σ) (G:List β→α→Option ρ) (hl:l.length ≤ Go.maxLen)
    (hin:∀ k (i:Nat) x rest s,i < l.length→I i s→l.getD i d = x→x ∈ l→l.drop (i + 1) = rest→(∀ s',I (i + 1) s'→k (st (wI (i + 1)) s') = G rest s')→B k (st i s) = G (x :: rest) s) (hout:∀ k s,I l.length s→B k (st l.length s) = G [] s) (s:α) (h0:I 0 s):zg B K0 (st 0 s) = G l s:=by
  have:=zeZ (B:=B) hl st (fun i s=>G (l.drop i) s) I (fun k i s hi hI h=>?_) (fun k s hI=>?_) s h0
  · simpa using this
  · rw [zbF d hi]
    exact hin k i _ _ s hi hI rfl (z3 hi) rfl fun s' hI'=>h s' hI'
  · rw [hout _ _ hI,List.drop_of_length_le (Nat.le_refl _)]
theorem zl2 {l:List Int} (hl:l.length ≤ Go.maxLen) (h:∀ x ∈ l,0 ≤ x ∧ x < U64):zgd (l,()) = some (zj7 0 l) :=
  jQ (B:=zfL) (l:=l) (α:=Int) (0:Int) (fun _ s=>0 ≤ s) (fun i s=>(s,l,(l.length:Int),i)) (fun rest s=>some (zj7 s rest)) hl (fun k i x rest s hi hI hx hm hr hk=>by
    simp only [zfL]
    have hxx:=h x hm
    rw [ltT hi,zp hi,zS,hx,zvr hI hxx]
    simp only [cond_true,Option.bind_some,zov,zj7]
    by_cases hb:s + x > M62
    · rw [decide_eq_true hb]; rfl
    · rw [decide_eq_false hb]
      exact hk (s + x) (by omega)) (fun k s _=>by simp only [zfL]; rw [ltF]; rfl) 0 (Int.le_refl 0)
def zwJ (a b:zw):Bool:=decide (a.1 ≤ b.1) && (List.range' 0 64).all fun i=>!zly a.2.1 i || zly b.2.1 i
def zna (a:zw):Prop:=0 ≤ a.2.1 ∧ a.2.1 < U64
theorem zo8 {a b:zw} (ha:zna a) (hb:zna b):ze0 (a,b,()) = some (zwJ a b,()):=by
  rw [zC]
  simp only [ze0]
  unfold zwJ
  unfold zna U64 at *
  obtain ⟨m,hm⟩:=Int.eq_ofNat_of_zero_le ha.1
  obtain ⟨n,hn⟩:=Int.eq_ofNat_of_zero_le hb.1
  have h1:=zvq m n (by omega) (by omega)
  unfold zgs at h1
  have h2:(wU (BitVec.toNat (BitVec.ofInt (Go.IntKind.bits .u64) (a.2.1:Int) &&& ~~~BitVec.ofInt (Go.IntKind.bits .u64) (b.2.1:Int)):Int) == 0) = (List.range' 0 64).all fun i=>!zly a.2.1 i || zly b.2.1 i:=by
    rw [hm,hn]
    have h3:∀ z:Int,(z != 0) = !(z == 0):=fun z=>rfl
    rw [h3] at h1
    have h4:=congrArg (!·) h1
    simp only [Bool.not_not] at h4
    exact h4
  rw [h2]
  grind
theorem zGg {a b:zw} (ha:zna a) (hb:zna b):zo4 (a,b,()) = some (zwJ a b,()):=by
  rw [zC]
  unfold zwJ
  unfold zna U64 at *
  have hr:List.range 64 = List.range' 0 64:=List.range_eq_range'
  rw [← hr]
  have hloop:=zAR (B:=zeM) (n:=64) (by unfold Go.maxLen; omega) (p:=fun i=>!zly a.2.1 i || zly b.2.1 i) (fin:=bif decide (a.1 ≤ b.1) then some (true,()) else some (false,())) (bad:=some (false,())) (fun i=>(i,a,b)) (fun k i hi=>by
    simp only [zeM]
    rw [decide_eq_true (by omega),zo7 _ _ ha.1 (by omega),zo7 _ _ hb.1 (by omega),Int.toNat_natCast]
    simp only [cond_true,Option.bind_some]
    grind) (fun k=>by simp only [zeM]; rfl)
  refine hloop.trans ?_
  grind
theorem zy1 (x:Int):zf8 (x,()) = some (qW x,()):=by simp only [zf8,qW]; grind
theorem zGh (x:Int):jl (x,()) = some (qW x,()):=by simp only [jl,qW]; grind
def zhb (x:zis):Bool:=zT x.1 && (decide (x.2.1 ≤ M62) && decide (-1 ≤ x.2.2.1 ∧ x.2.2.1 ≤ 127))
theorem zGi (x:zis):zg5 (x,()) = some (zhb x,()):=by
  rw [zC]
  simp only [zg5,vT,zy1,Option.bind_some,zhb,qW]
  unfold M62
  grind
theorem zGj (x:zis):jm (x,()) = some (zhb x,()):=by
  rw [zC]
  simp only [jm,zhb,zT]
  unfold M62
  grind
def zow (x:zis):Bool:=(x.2.1:Int) == 0 && (x.2.2.1:Int) == -1
theorem zEJ (x:zis):zfG (x,()) = some (zow x,()):=by
  rw [zC]
  simp only [zfG,zow]
  have h:eqI zdl x (x.1,(zb zdl).2.1,-1,(zb zdl).2.2.2) = ((x.2.1:Int) == 0 && (x.2.2.1:Int) == -1):=by
    show cond ((x.1:Int) == x.1) (cond ((x.2.1:Int) == 0) (cond ((x.2.2.1:Int) == -1) true false) false) false = _
    rw [beq_self_eq_true]
    cases ((x.2.1:Int) == 0) <;> cases ((x.2.2.1:Int) == -1) <;> rfl
  rw [h]
def znb (x:zt):Bool:=(qW x.2.1 && (qW x.2.2.1 && (x.2.1:Int) != x.2.2.1)) && ((zhb x.2.2.2.1 && zhb x.2.2.2.2.1) && !(zow x.2.2.2.1 && zow x.2.2.2.2.1))
def zgu (x:zt):Prop:=(0 ≤ x.2.2.2.1.2.1 ∧ x.2.2.2.1.2.1 < U64) ∧ (0 ≤ x.2.2.2.2.1.2.1 ∧ x.2.2.2.2.1.2.1 < U64)
theorem zGk (x:zt):zkr (x,()) = some (znb x,()):=by
  rw [zC]
  simp only [zkr,zy1,zGi,zEJ,Option.bind_some,znb]
  grind
theorem zEK {x:zt} (h:zgu x):ziU (x,()) = some (znb x,()):=by
  rw [zC]
  simp only [ziU,zGh,zGj,Option.bind_some,znb]
  have h1:zhb x.2.2.2.1 = true→zow x.2.2.2.1 = !(decide (x.2.2.2.1.2.1 > 0) || decide (x.2.2.2.1.2.2.1 ≥ 0)):=fun hp=>by
    unfold zhb at hp; unfold zow; unfold zgu at h; grind
  have h2:zhb x.2.2.2.2.1 = true→zow x.2.2.2.2.1 = !(decide (x.2.2.2.2.1.2.1 > 0) || decide (x.2.2.2.2.1.2.2.1 ≥ 0)):=fun hp=>by
    unfold zhb at hp; unfold zow; unfold zgu at h; grind
  generalize decide (x.2.2.2.1.2.1 > 0) = c1 at *
  generalize decide (x.2.2.2.1.2.2.1 ≥ 0) = c2 at *
  generalize decide (x.2.2.2.2.1.2.1 > 0) = c3 at *
  generalize decide (x.2.2.2.2.1.2.2.1 ≥ 0) = c4 at *
  cases c1 <;> cases c2 <;> cases c3 <;> cases c4 <;> grind
def zgv (x:zt):Bool:=bif x.1 then znb x else eqI zz x (zb zz)
theorem zy2 (x:zt):zfl (x,()) = some (!zgv x,()):=by
  rw [zC]
  simp only [zfl,zGk,Option.bind_some,zgv]
  grind
theorem zCp {l:List zt} (hl:l.length ≤ Go.maxLen):zhz (l,()) = some (l.all zgv,()):=by
  rw [zC]
  simp only [zhz]
  rw [zjp (p:=fun x=>!zgv x) hl fun x _=>zy2 x,Option.bind_some,← j5]
  cases l.any fun x=>!zgv x <;> rfl
theorem zCq {l:List zt} (hl:l.length ≤ Go.maxLen) (h:∀ x ∈ l,zgu x):zlg (l,()) = some (l.all zgv,()):=by
  rw [zC]
  exact jZ (B:=zcb) (l:=l) zV (fun i=>(l,i)) hl (fun k i x hi hx hm=>by
    simp only [zcb]
    rw [ltT hi]
    simp only [zp hi,zS,hx,zEK (h x hm),Option.bind_some,cond_true,zgv]
    grind) (fun k=>by simp only [zcb]; rw [ltF]; rfl)
end Go.Proofs.YtokcjmkikhgkeaaGreatDoor
end
section
namespace Go.Proofs.YtokcjmkikhgkeaaGreatDoor
open Go.Ev
theorem zj8 {α:Type} {p:α→Bool} {x:α} {l:List α}:(x :: l).filter p = bif p x then x :: l.filter p else l.filter p:=by
  rw [List.filter_cons]; cases p x <;> rfl
def qO {α:Type} (p:α→Bool):Nat→List α→List Int
  | _,[]=>[]
  | i,x :: l=>bif p x then (i:Int) :: qO p (i + 1) l else qO p (i + 1) l
theorem zl3 {α:Type} {p:α→Bool}:∀ (l:List α) (i:Nat),(qO p i l).length ≤ l.length
  | [],_=>Nat.le_refl _
  | x :: l,i=>by
    have:=zl3 (p:=p) l (i + 1)
    simp only [qO,List.length_cons]
    cases p x <;> simp <;> omega
theorem zl4 {α:Type} {p:α→Bool}:∀ (l:List α) (i:Nat),∀ z ∈ qO p i l,∃ j:Nat,z = (j:Int) ∧ i ≤ j ∧ j < i + l.length
  | [],i,z,h=>by cases h
  | x :: l,i,z,h=>by
    simp only [qO] at h
    have ih:=zl4 (p:=p) l (i + 1)
    cases hp:p x with
    | true =>
      rw [hp,cond_true] at h
      rcases List.mem_cons.1 h with rfl | h
      · exact ⟨i,rfl,Nat.le_refl _,by simp⟩
      · obtain ⟨j,h1,h2,h3⟩:=ih z h
        exact ⟨j,h1,by omega,by simp; omega⟩
    | false =>
      rw [hp,cond_false] at h
      obtain ⟨j,h1,h2,h3⟩:=ih z h
      exact ⟨j,h1,by omega,by simp; omega⟩
theorem zlA {α β:Type} {p q:α→Bool} {g:α→β} (d:α) (L:List α):∀ (l:List α) (i:Nat),(∀ j,j < l.length→L.getD (i + j) d = l.getD j d)→((qO p i l).filter fun z=>q (L.getD z.toNat d)).map (fun z=>g (L.getD z.toNat d)) = (l.filter fun x=>p x && q x).map g
  | [],_,_=>rfl
  | x :: l,i,h=>by
    have ih:=zlA (p:=p) (q:=q) (g:=g) d L l (i + 1) fun j hj=>by
      have:=h (j + 1) (by simp; omega)
      rw [show i + 1 + j = i + (j + 1) by omega,this]; rfl
    have h0:L.getD i d = x:=h 0 (by simp)
    simp only [qO,zj8]
    cases hp:p x with
    | false=>simp only [cond_false,Bool.false_and]; exact ih
    | true =>
      simp only [cond_true,Bool.true_and,zj8,Int.toNat_natCast,h0]
      cases hq:q x with
      | false=>exact ih
      | true=>simp only [cond_true,List.map_cons,Int.toNat_natCast,h0,ih]
theorem ztT {l:List zt} {g:zt × Unit→Option (Bool × Unit)}:zeo (some (l,some g,()),()) = some (true,()):=rfl
theorem zvs {l:List zt} {g:zt × Unit→Option (Bool × Unit)} {p:zt→Bool} (hg:∀ x,g (x,()) = some (p x,())) {i:Nat} (hi:i < l.length):vL (some (l,some g,()),(i:Int),()) = some (p (l.getD i zV),()):=by
  rw [zC]
  simp only [vL,ztT,Option.bind_some,cond_true]
  rw [decide_eq_true (by omega),ltT hi,zp hi,zS,hg]
  simp only [cond_true,Option.bind_some]
theorem zsa {l:List zt} {g:zt × Unit→Option (Bool × Unit)} {p:zt→Bool} (hl:l.length ≤ lim) (hg:∀ x,g (x,()) = some (p x,())):zdq (some (l,some g,()),()) = some (qO p 0 l,()):=by
  have hl':l.length ≤ Go.maxLen:=by unfold lim at hl; unfold Go.maxLen; omega
  have:=zeZ (B:=yp) (α:=List Int) hl' (fun i o=>(some (l,some g,()),(l.length:Int),i,o)) (fun i o=>some (o ++ qO p i (l.drop i),())) (fun i o=>o.length ≤ i) (fun k i o hi hI hk=>by
    simp only [yp]
    rw [ltT hi,zvs hg hi,ztQ,zbF zV hi]
    simp only [cond_true,Option.bind_some,qO]
    rw [decide_eq_true (by simp; omega)]
    cases hp:p (l.getD i zV) with
    | false =>
      simp only [cond_false]
      exact hk o (by omega)
    | true =>
      simp only [cond_true]
      rw [hk _ (by simp; omega)]
      simp) (fun k o _=>by
    simp only [yp]
    rw [ltF,List.drop_of_length_le (Nat.le_refl _)]
    simp [qO]) [] (Nat.le_refl _)
  refine Eq.trans ?_ (this.trans ?_)
  · rfl
  · simp
theorem zEL {l:List zn} {g:zn × Unit→Option (Bool × Unit)}:zeq (some (l,some g,()),()) = some (true,()):=rfl
theorem zGl {l:List zn} {g:zn × Unit→Option (Bool × Unit)} {p:zn→Bool} (hg:∀ x,g (x,()) = some (p x,())) {i:Nat} (hi:i < l.length):zfj (some (l,some g,()),(i:Int),()) = some (p (l.getD i zH),()):=by
  rw [zC]
  simp only [zfj,zEL,Option.bind_some,cond_true]
  rw [decide_eq_true (by omega),ltT hi,zp hi,zS,hg]
  simp only [cond_true,Option.bind_some]
theorem zCr {l:List zn} {g:zn × Unit→Option (Bool × Unit)} {p:zn→Bool} (hl:l.length ≤ lim) (hg:∀ x,g (x,()) = some (p x,())):zgM (some (l,some g,()),()) = some (qO p 0 l,()):=by
  have hl':l.length ≤ Go.maxLen:=by unfold lim at hl; unfold Go.maxLen; omega
  have:=zeZ (B:=yr) (α:=List Int) hl' (fun i o=>(some (l,some g,()),(l.length:Int),i,o)) (fun i o=>some (o ++ qO p i (l.drop i),())) (fun i o=>o.length ≤ i) (fun k i o hi hI hk=>by
    simp only [yr]
    rw [ltT hi,zGl hg hi,ztQ,zbF zH hi]
    simp only [cond_true,Option.bind_some,qO]
    rw [decide_eq_true (by simp; omega)]
    cases hp:p (l.getD i zH) with
    | false =>
      simp only [cond_false]
      exact hk o (by omega)
    | true =>
      simp only [cond_true]
      rw [hk _ (by simp; omega)]
      simp) (fun k o _=>by
    simp only [yr]
    rw [ltF,List.drop_of_length_le (Nat.le_refl _)]
    simp [qO]) [] (Nat.le_refl _)
  refine Eq.trans ?_ (this.trans ?_)
  · rfl
  · simp
def zif (l:List zt) (c:Int):Int × Int × Unit:=bif zT c then zj7 0 ((l.filter fun x=>x.1 && (x.2.2.2.1.1:Int) == c).map fun x=>x.2.2.2.1.2.1) else (0,1,())
theorem zGm (l:List zt) (hl:l.length ≤ lim):zks (l,()) = some (some (l,some zhl,()),()):=by
  simp only [zks,yx,zlv hl,Option.bind_some]
  rfl
theorem zCs (x:zt):zhl (x,()) = some (x.1,()):=by
  rw [zC]; rfl
theorem zEM {l:List zt} (hl:l.length ≤ lim) (h:∀ x ∈ l,zgu x) (c:Int):zi8 (l,c,()) = some (zif l c):=by
  have hl':l.length ≤ Go.maxLen:=by unfold lim at hl; unfold Go.maxLen; omega
  simp only [zi8,zi7,vT,Option.bind_some]
  unfold zif
  cases hc:zT c with
  | false=>rfl
  | true =>
    simp only [cond_true]
    rw [zGm l hl,Option.bind_some,zsa hl zCs,Option.bind_some]
    have hsl:=zl3 (p:=fun x:zt=>x.1) l 0
    have hsm:=zl4 (p:=fun x:zt=>x.1) l 0
    have hloop:=jQ (B:=zdT) (l:=qO (fun x:zt=>x.1) 0 l) (α:=List Int) (0:Int) (fun i o=>o.length ≤ i ∧ ∀ x ∈ o,0 ≤ x ∧ x < U64) (fun i o=>(l,c,qO (fun x:zt=>x.1) 0 l,((qO (fun x:zt=>x.1) 0 l).length:Int),i,o))
      (fun rest o=>some (zj7 0 (o ++ (rest.filter fun z=>((l.getD z.toNat zV).2.2.2.1.1:Int) == c).map fun z=>(l.getD z.toNat zV).2.2.2.1.2.1))) (by omega) (fun k i x rest o hi hI hx hm hr hk=>by
        simp only [zdT]
        obtain ⟨j,rfl,-,hj⟩:=hsm x hm
        rw [ltT hi,zp hi,zS,hx,zp (by omega),zp (by omega),Int.toNat_natCast,ztQ]
        have hxx:=(h (l.getD j zV) (z3 (by omega))).1
        simp only [cond_true,zj8,Int.toNat_natCast]
        rw [decide_eq_true (by simp; omega)]
        simp only [cond_true]
        cases hq:((l.getD j zV).2.2.2.1.1:Int) == c with
        | false =>
          exact hk o ⟨by omega,hI.2⟩
        | true =>
          simp only [cond_true,List.map_cons,Int.toNat_natCast]
          refine (hk _ ⟨by simp; omega,fun x hx=>?_⟩).trans ?_
          · rcases List.mem_append.1 hx with hx | hx
            · exact hI.2 x hx
            · rcases List.mem_singleton.1 hx with rfl
              exact hxx
          · rw [List.append_assoc]; rfl) (fun k o hI=>by
        simp only [zdT]
        rw [ltF]
        simp only [cond_false]
        rw [zl2 (by omega) hI.2,List.filter_nil,List.map_nil,List.append_nil]
        rfl) [] ⟨Nat.le_refl _,fun x hx=>by cases hx⟩
    refine hloop.trans ?_
    rw [List.nil_append,zlA (q:=fun x:zt=>(x.2.2.2.1.1:Int) == c) (g:=fun x:zt=>x.2.2.2.1.2.1) zV l l 0 fun j _=>by rw [Nat.zero_add]]
theorem zEN {l:List zt} (hl:l.length ≤ Go.maxLen) (h:∀ x ∈ l,zgu x) (c:Int):ziZ (l,c,()) = some (zif l c):=by
  simp only [ziZ,ziY]
  unfold zif
  cases hc:zT c with
  | false=>unfold zT at hc; grind
  | true =>
    have hloop:=jQ (B:=zdJ) (l:=l) (α:=Int) zV (fun _ s=>0 ≤ s ∧ s ≤ M62) (fun i s=>(l,c,s,i)) (fun rest s=>some (zj7 s ((rest.filter fun x=>x.1 && (x.2.2.2.1.1:Int) == c).map fun x=>x.2.2.2.1.2.1))) hl (fun k i x rest s hi hI hx hm hr hk=>by
      simp only [zdJ]
      have hxx:=(h x hm).1
      rw [ltT hi]
      simp only [zp hi,zS,hx,cond_true,zj8]
      unfold M62 at *
      unfold U64 at *
      rw [zd1 (by unfold U64; omega) (by unfold U64; omega)]
      cases hl:x.1 with
      | false=>exact hk s hI
      | true =>
        cases hq:(x.2.2.2.1.1:Int) == c with
        | false=>exact hk s hI
        | true =>
          simp only [cond_true,Option.bind_some,zov,Bool.and_self,List.map_cons,zj7]
          unfold M62
          by_cases hb:s + x.2.2.2.1.2.1 > 4611686018427387904
          · rw [decide_eq_true hb]; rfl
          · rw [decide_eq_false hb]
            exact hk (s + x.2.2.2.1.2.1) (by omega)) (fun k s _=>by simp only [zdJ]; rw [ltF]; rfl) 0 (by unfold M62; omega)
    refine Eq.trans ?_ hloop
    unfold zT at hc
    grind
end Go.Proofs.YtokcjmkikhgkeaaGreatDoor
end
section
namespace Go.Proofs.YtokcjmkikhgkeaaGreatDoor
open Go.Ev
def zwK (x:Int):Bool:=decide (0 ≤ x ∧ x ≤ 2)
theorem zAj (x:Int):zaC (x,()) = some (!zwK x,()):=by simp only [zaC,zwK]; grind
def zqd (r:zf) (i:Nat) (row:List Int):Bool:=decide (row.length = r.2.2.1.length) && (row.all zwK && row.getD (Int.toNat (r.2.2.2.1.getD i qz).2.1) (0:Int) == 2)
def zhc (r:zf) (l:List (List Int)):Bool:=decide (l.length = r.2.2.2.1.length) && zO (fun i=>zqd r i (l.getD i [])) 0 (l.length - 0)
structure zgw (r:zf):Prop where
  labels:1 ≤ r.1.length ∧ r.1.length ≤ 8
  lines:1 ≤ r.2.1.length ∧ r.2.1.length ≤ 8
  accounts:1 ≤ r.2.2.1.length ∧ r.2.2.1.length ≤ 8
  guilds:r.2.2.2.1.length ≤ 8
  quotas:r.2.2.2.2.1.length = r.1.length
  heads:∀ i,i < r.2.2.2.1.length→0 ≤ (r.2.2.2.1.getD i qz).2.1 ∧ (r.2.2.2.1.getD i qz).2.1 < (r.2.2.1.length:Int)
theorem yf {r:zf} (h:qZ r = true):zgw r:=by
  simp only [qZ,Bool.and_eq_true] at h
  obtain ⟨h1,h2,h3,h4,h5,-⟩:=h
  simp only [zbu,zkV,zd7,zmc,zgq,zQ,Bool.and_eq_true,decide_eq_true_eq,zyX,qr] at h1 h2 h3 h4 h5
  refine ⟨by omega,by omega,by omega,h4.1,by omega,fun i hi=>?_⟩
  have:=h4.2.1 i (by omega) (by omega)
  simp only [zwI,zQ,Bool.and_eq_true,decide_eq_true_eq] at this
  omega
theorem ixR {n:Nat} {x:Int} {ρ:Type} {y:Option ρ} (h:0 ≤ x ∧ x < (n:Int)):inR x (n:Int) y = y:=zI6 h.1 h.2
theorem zEO {r:zf} (hr:qp r) (l:List (List Int)):zjm (r,l,()) = some (qZ r && zhc r l,()):=by
  rw [zC]
  simp only [zjm,zjl,zlz r hr,Option.bind_some]
  cases hb:qZ r with
  | false=>rfl
  | true =>
    have ok:=yf hb
    rw [zir]
    unfold zhc
    by_cases hn:l.length = r.2.2.2.1.length
    · have hg:=ok.guilds
      have hloop:zj5 K0 (some zaC,l,(l.length:Int),0,r) = bif zO (fun i=>zqd r i (l.getD i [])) 0 (l.length - 0) then some (true,()) else some (false,()) :=
        zX (i0:=0) (n:=l.length) (by unfold Go.maxLen; omega) (Nat.zero_le _) (fun i=>(some zaC,l,(l.length:Int),i,r)) (fun k i h1 h2=>by
          simp only [zgp]
          rw [ltT h2,zp h2,Int.toNat_natCast,zir]
          unfold zqd
          by_cases hm:(l.getD i []).length = r.2.2.1.length
          · have ha:=ok.accounts
            have hh:=ok.heads i (by omega)
            rw [zcS (p:=fun x=>!zwK x) (l:=l.getD i []) (by unfold Go.maxLen; omega) fun x _=>zAj x,zp (by omega),zS,ixR (by rw [hm]; exact hh)]
            have:=j5 (l:=l.getD i []) (p:=zwK)
            simp only [Option.bind_some,cond_true]
            grind
          · grind) (fun k=>by simp only [zgp]; rw [ltF]; rfl)
      rw [hloop]
      grind
    · grind
theorem zCt {r:zf} (hr:qp r) (l:List (List Int)):zhx (r,l,()) = some (qZ r && zhc r l,()):=by
  rw [zC]
  simp only [zhx,zhw,zr8 r hr,Option.bind_some]
  cases hb:qZ r with
  | false=>rfl
  | true =>
    have ok:=yf hb
    rw [zir]
    unfold zhc
    by_cases hn:l.length = r.2.2.2.1.length
    · have hg:=ok.guilds
      have ha:=ok.accounts
      have inner:∀ k0 (i:Nat),i < l.length→(l.getD i []).length = r.2.2.1.length→zfn K0 k0 (l,(i:Int),0,r) = bif (l.getD i []).all zwK then k0 (l,wI ((i:Int) + 1),r) else some (false,()):=fun k0 i hi hm =>
        jZ (l:=l.getD i []) (0:Int) (fun j=>(l,(i:Int),j,r)) (by unfold Go.maxLen; omega) (fun k j x h1 h2 _=>by
          simp only [zfm]
          have h2':List.getD (l.getD i []) j (0:Int) = x:=h2
          simp only [zp hi,Int.toNat_natCast,ltT h1,zp h1,h2',cond_true,zwK]
          grind) (fun k=>by
          simp only [zfm]
          simp only [zp hi,Int.toNat_natCast]
          rw [ltF]; rfl)
      have hloop:zja K0 (l,0,r) = bif zO (fun i=>zqd r i (l.getD i [])) 0 (l.length - 0) then some (true,()) else some (false,()) :=
        zX (i0:=0) (n:=l.length) (by unfold Go.maxLen; omega) (Nat.zero_le _) (fun i=>(l,i,r)) (fun k i h1 h2=>by
          simp only [zci]
          rw [ltT h2]
          simp only [zp h2,Int.toNat_natCast]
          rw [zir]
          unfold zqd
          by_cases hm:(l.getD i []).length = r.2.2.1.length
          · have hh:=ok.heads i (by omega)
            have hi:=inner k i h2 hm
            rw [zp (by omega),zS,ixR (by rw [hm]; exact hh),hi]
            simp only [cond_true]
            grind
          · grind) (fun k=>by simp only [zci]; rw [ltF]; rfl)
      rw [hloop]
      grind
    · grind
theorem zJg (x:Int):zkM (x,()) = some (qW x,()):=by simp only [zkM,qW]; grind
theorem zGn (x:Int):zgZ (x,()) = some (qW x,()):=by simp only [zgZ,qW]; grind
theorem zHY (x:Int):zej (x,()) = some (qW x,()):=by simp only [zej,qW]; grind
theorem zGo (x:Int):zdb (x,()) = some (qW x,()):=by simp only [zdb,qW]; grind
def zjv (k a b:Int):Int × Int × Unit:=bif (k != 1 && k != 2) || (a == 0 || b == 0) then (0,1,()) else bif decide (a * b > M62) then (0,7,()) else bif k == 2 then (a,0,()) else (a * b,0,())
theorem zvt {k a b:Int} (ha:0 ≤ a ∧ a < U64) (hb:0 ≤ b ∧ b < U64):zg8 (k,a,b,()) = some (zjv k a b):=by
  simp only [zg8,zEI ha hb,Option.bind_some,zqc,zjv]
  generalize a * b = p
  cases h:decide (p > M62) <;> simp only [cond_true,cond_false] <;> grind
theorem ztU {k a b:Int} (ha:0 ≤ a ∧ a < U64) (hb:0 ≤ b ∧ b < U64):zfN (k,a,b,()) = some (zjv k a b):=by
  simp only [zfN,zCo ha hb,Option.bind_some,zqc,zjv]
  generalize a * b = p
  cases h:decide (p > M62) <;> simp only [cond_true,cond_false] <;> grind
def jf (x:Int):Prop:=0 ≤ x ∧ x < U64
structure zgx (x:zn):Prop where
  amount:jf x.2.2.2.2.2.2.1
  price:jf x.2.2.2.2.2.2.2.1
  held:jf x.2.2.2.2.2.2.2.2.1
def zhY (x:zn):Bool:=((zjv x.2.2.2.1 x.2.2.2.2.2.2.2.1 x.2.2.2.2.2.2.1).2.1 == 0 && (zjv x.2.2.2.1 x.2.2.2.2.2.2.2.1 x.2.2.2.2.2.2.1).1 == x.2.2.2.2.2.2.2.2.1) && ((qW x.2.1 && qW x.2.2.1) && ((zT x.2.2.2.2.1 && zT x.2.2.2.2.2.1) && ((x.2.2.2.2.1:Int) != x.2.2.2.2.2.1 && decide (0 ≤ x.2.2.2.2.2.2.2.2.2.1))))
theorem zHZ {x:zn} (h:zgx x):zl0 (x,()) = some (zhY x,()):=by
  rw [zC]
  simp only [zl0,zvt h.price h.amount,zJg,vT,Option.bind_some,zhY]
  generalize zjv x.2.2.2.1 x.2.2.2.2.2.2.2.1 x.2.2.2.2.2.2.1 = n
  grind
theorem zGp {x:zn} (h:zgx x):zg9 (x,()) = some (zhY x,()):=by
  rw [zC]
  simp only [zg9,ztU h.price h.amount,zGn,Option.bind_some,zhY]
  generalize zjv x.2.2.2.1 x.2.2.2.2.2.2.2.1 x.2.2.2.2.2.2.1 = n
  unfold zT
  grind
def zj9 (x:zn):Bool:=bif x.1 then zhY x else eqI zr x (zb zr)
def zo9 (l:List zn):List Int:=(l.filter fun x=>x.1).map fun x=>x.2.2.2.2.2.2.2.2.2.1
theorem zH0 (o:List (Int × Int)) (x z v:Int):jB tI (jG tI o x v) z = (jB tI o z || z == x):=by
  induction o with
  | nil=>simp only [jG,jB]; show (bif z == x then true else false) = (false || z == x); cases z == x <;> rfl
  | cons e o ih =>
    obtain ⟨e1,e2⟩:=e
    have hx:∀ y:Int,eqI tI y e1 = (y == e1):=fun y=>rfl
    simp only [jG,jB,hx]
    cases h:x == e1 with
    | true =>
      have:=eq_of_beq h
      subst this
      simp only [cond_true,jB,hx]
      cases z == x <;> simp
    | false =>
      simp only [cond_false,jB,ih,hx]
      cases z == e1 <;> rfl
theorem zAW (o:List (Int × Int)) (x v:Int):(jG tI o x v).length = o.length + (bif jB tI o x then 0 else 1):=by
  induction o with
  | nil=>rfl
  | cons e o ih =>
    simp only [jG,jB]
    cases h:eqI tI x e.1 with
    | true=>simp only [cond_true,List.length_cons,Nat.add_zero]
    | false =>
      simp only [cond_false,List.length_cons,ih]
      generalize (bif jB tI o x then 0 else 1) = n
      omega
def zpa:List Int→List (Int × Int)→Nat
  | [],o=>o.length
  | x :: l,o=>zpa l (jG tI o x (wI (zan tI (0:Int) o x + 1)))
theorem zGS:∀ (l:List Int) (o:List (Int × Int)),zpa l o ≤ o.length + l.length
  | [],o=>Nat.le_refl _
  | x :: l,o=>by
    have h:=zGS l (jG tI o x (wI (zan tI (0:Int) o x + 1)))
    rw [zAW] at h
    simp only [zpa,List.length_cons]
    cases hm:jB tI o x <;> (rw [hm] at h; simp only [cond_true,cond_false] at h; omega)
theorem zGT:∀ (l:List Int) (o:List (Int × Int)),zpa l o = o.length + l.length ↔ (l.Pairwise (· ≠ ·) ∧ ∀ x ∈ l,jB tI o x = false)
  | [],o=>by simp [zpa]
  | x :: l,o=>by
    have h:=zGS l (jG tI o x (wI (zan tI (0:Int) o x + 1)))
    have ih:=zGT l (jG tI o x (wI (zan tI (0:Int) o x + 1)))
    rw [zAW] at h ih
    simp only [zpa,List.length_cons,List.pairwise_cons]
    cases hm:jB tI o x with
    | true =>
      rw [hm] at h
      simp only [cond_true] at h
      constructor
      · intro h1; omega
      · rintro ⟨-,h1⟩
        have:=h1 x (by simp)
        rw [hm] at this; cases this
    | false =>
      rw [hm] at ih
      simp only [cond_false] at ih
      rw [show o.length + (l.length + 1) = o.length + 1 + l.length by omega,ih]
      simp only [zH0]
      constructor
      · rintro ⟨h1,h2⟩
        refine ⟨⟨fun z hz=>?_,h1⟩,fun z hz=>?_⟩
        · have:=h2 z hz
          simp only [Bool.or_eq_false_iff,beq_eq_false_iff_ne] at this
          exact fun e=>this.2 e.symm
        · rcases List.mem_cons.1 hz with rfl | hz
          · exact hm
          · have:=h2 z hz
            simp only [Bool.or_eq_false_iff] at this
            exact this.1
      · rintro ⟨⟨h1,h2⟩,h3⟩
        refine ⟨h2,fun z hz=>?_⟩
        simp only [Bool.or_eq_false_iff,beq_eq_false_iff_ne]
        exact ⟨h3 z (by simp [hz]),fun e=>h1 z hz e.symm⟩
def ze4 (l:List zn):Bool:=l.all zj9 && zpa (zo9 l) [] == (zo9 l).length
theorem zEP {l:List zn} (hl:l.length ≤ 1000000) (h:∀ x ∈ l,zgx x):zm1 (l,()) = some (ze4 l,()):=by
  have hloop:=jQ (B:=zdV) (l:=l) (α:=Nat × List (Int × Int)) zH (fun i s=>s.1 ≤ i) (fun i s=>((s.1:Int),l,(l.length:Int),i,s.2))
    (fun rest s=>some (rest.all zj9 && zpa (zo9 rest) s.2 == s.1 + (zo9 rest).length,())) (by unfold Go.maxLen; omega) (fun k i x rest s hi hI hx hm hr hk=>by
      obtain ⟨n,o⟩:=s
      simp only [zdV]
      have hn:n ≤ i:=hI
      have hw:wI ((n:Int) + 1) = ((n + 1:Nat):Int):=by
        unfold wI
        rw [IntWalk.i64_in _ (by omega)]; rfl
      rw [ltT hi,zp hi]
      simp only [zS,hx,cond_true,zHZ (h x hm),Option.bind_some,hw,zo9,zj8,List.all_cons,zj9]
      cases hlive:x.1 with
      | false =>
        simp only [cond_false]
        have:=hk (n,o) (by show n ≤ i + 1; omega)
        cases eqI zr x (zb zr) with
        | false=>rfl
        | true=>exact this
      | true =>
        simp only [cond_true,List.map_cons,zpa,List.length_cons]
        have:=hk (n + 1,jG tI o x.2.2.2.2.2.2.2.2.2.1 (wI (zan tI (0:Int) o x.2.2.2.2.2.2.2.2.2.1 + 1))) (by show n + 1 ≤ i + 1; omega)
        cases zhY x with
        | false=>rfl
        | true =>
          refine this.trans ?_
          simp only [zo9,Bool.true_and]
          rw [show n + 1 + (List.map (fun x:zn=>x.2.2.2.2.2.2.2.2.2.1) (List.filter (fun x=>x.1) rest)).length = n + ((List.map (fun x:zn=>x.2.2.2.2.2.2.2.2.2.1) (List.filter (fun x=>x.1) rest)).length + 1) by omega]) (fun k s _=>by
      obtain ⟨n,o⟩:=s
      simp only [zdV]
      rw [ltF]
      simp only [cond_false,zo9,List.filter_nil,List.map_nil,zpa,List.length_nil,List.all_nil,Bool.true_and,Nat.add_zero]
      rw [zJc]
      cases o.length == n <;> rfl) (0,[]) (Nat.le_refl _)
  refine hloop.trans ?_
  unfold ze4
  rw [Nat.zero_add]
theorem zGq {l:List zn} (hl:l.length ≤ Go.maxLen) (n:Nat) (hn:n ≤ l.length) (b:Int):zko (l,(n:Int),b,()) = some (!zO (fun j=>!((l.getD j zH).1 && ((l.getD j zH).2.2.2.2.2.2.2.2.2.1:Int) == b)) 0 (n - 0),()):=by
  have hloop:=zX (B:=zeH) (i0:=0) (n:=n) (p:=fun j=>!((l.getD j zH).1 && ((l.getD j zH).2.2.2.2.2.2.2.2.2.1:Int) == b)) (fin:=some (false,())) (bad:=some (true,())) (by omega) (Nat.zero_le _) (fun i=>(l,(n:Int),b,i)) (fun k i h1 h2=>by
    simp only [zeH]
    rw [ltT h2]
    simp only [zp (show i < l.length by omega),zS,cond_true]
    grind) (fun k=>by simp only [zeH]; rw [ltF]; rfl)
  refine hloop.trans ?_
  cases zO (fun j=>!((l.getD j zH).1 && ((l.getD j zH).2.2.2.2.2.2.2.2.2.1:Int) == b)) 0 (n - 0) <;> rfl
theorem zH1 {l:List zn}:(zo9 l).Pairwise (· ≠ ·) ↔ ∀ i j:Nat,i < j→j < l.length→(l.getD i zH).1 = true→(l.getD j zH).1 = true→(l.getD i zH).2.2.2.2.2.2.2.2.2.1 ≠ (l.getD j zH).2.2.2.2.2.2.2.2.2.1:=by
  unfold zo9
  rw [List.pairwise_map,List.pairwise_filter,List.pairwise_iff_getElem]
  have e:∀ i (h:i < l.length),l.getD i zH = l[i]:=fun i h=>by simp [List.getD,h]
  constructor
  · intro h i j hij hj h1 h2
    rw [e i (by omega)] at h1 ⊢
    rw [e j hj] at h2 ⊢
    exact h i j (by omega) hj hij h1 h2
  · intro h i j hi hj hij h1 h2
    have:=h i j hij hj (by rw [e i hi]; exact h1) (by rw [e j hj]; exact h2)
    rw [e i hi,e j hj] at this
    exact this
theorem zH2 (l:List zn):ze4 l = zO (fun i=>zj9 (l.getD i zH) && (!(l.getD i zH).1 || zO (fun j=>!((l.getD j zH).1 && ((l.getD j zH).2.2.2.2.2.2.2.2.2.1:Int) == (l.getD i zH).2.2.2.2.2.2.2.2.2.1)) 0 (i - 0))) 0 (l.length - 0):=by
  rw [Bool.eq_iff_iff,qr]
  unfold ze4
  have hc:=zGT (zo9 l) []
  simp only [List.length_nil,Nat.zero_add] at hc
  simp only [Bool.and_eq_true,List.all_eq_true,beq_iff_eq,hc,zH1]
  constructor
  · rintro ⟨h1,h2,-⟩ i _ hi
    refine ⟨h1 _ (z3 (by omega)),?_⟩
    cases hlive:(l.getD i zH).1 with
    | false=>rfl
    | true =>
      simp only [Bool.not_true,Bool.false_or,qr]
      intro j _ hj
      cases hj1:(l.getD j zH).1 with
      | false=>rfl
      | true =>
        have:=h2 j i (by omega) (by omega) hj1 hlive
        simp only [Bool.true_and,Bool.not_eq_true',beq_eq_false_iff_ne]
        exact this
  · intro h
    refine ⟨fun x hx=>?_,fun i j hij hj h1 h2=>?_,fun x _=>rfl⟩
    · obtain ⟨i,hi,rfl⟩:=List.mem_iff_getElem.1 hx
      have e:l.getD i zH = l[i]:=by simp [List.getD,hi]
      rw [← e]
      exact (h i (by omega) (by omega)).1
    · have:=(h j (by omega) (by omega)).2
      rw [h2] at this
      simp only [Bool.not_true,Bool.false_or,qr] at this
      have:=this i (by omega) (by omega)
      rw [h1] at this
      simp only [Bool.true_and,Bool.not_eq_true',beq_eq_false_iff_ne] at this
      exact this
theorem zCu {l:List zn} (hl:l.length ≤ Go.maxLen) (h:∀ x ∈ l,zgx x):zlk (l,()) = some (ze4 l,()):=by
  rw [zC,zH2]
  exact zX (B:=zck) (i0:=0) hl (Nat.zero_le _) (fun i=>(l,i)) (fun k i h1 h2=>by
    simp only [zck]
    rw [ltT h2]
    simp only [zp h2,zS,cond_true]
    rw [zGp (h _ (z3 h2)),zGq hl i (by omega)]
    simp only [Option.bind_some,zj9]
    grind) (fun k=>by simp only [zck]; rw [ltF]; rfl)
structure zmd (x:zI):Prop where
  amount:jf x.2.2.2.2.2.2.2.1
  price:jf x.2.2.2.2.2.2.2.2.1
def zgy (x:zI):Bool:=(decide (x.1 ≤ M62) && (qW x.2.1 && (qW x.2.2.1 && (qW x.2.2.2.1 && qW x.2.2.2.2.2.2.2.2.2.1)))) && bif (x.2.2.2.2.1:Int) == 3 then ((x.2.2.2.2.2.1:Int) == 0 && (x.2.2.2.2.2.2.1:Int) == 0) && ((x.2.2.2.2.2.2.2.1:Int) == 0 && (x.2.2.2.2.2.2.2.2.1:Int) == 0)
  else ((zjv x.2.2.2.2.1 x.2.2.2.2.2.2.2.1 x.2.2.2.2.2.2.2.2.1).2.1 == 0 && (x.2.2.2.2.2.2.2.2.2.1:Int) == 0) && ((x.2.2.2.2.2.1:Int) != x.2.2.2.2.2.2.1 && (zT x.2.2.2.2.2.1 && zT x.2.2.2.2.2.2.1))
theorem zJh (x:zI):eqI zy x (x.1,x.2.1,x.2.2.1,x.2.2.2.1,x.2.2.2.2.1,(zb zy).2.2.2.2.2.1,(zb zy).2.2.2.2.2.2.1,(zb zy).2.2.2.2.2.2.2.1,(zb zy).2.2.2.2.2.2.2.2.1,x.2.2.2.2.2.2.2.2.2.1,(zb zy).2.2.2.2.2.2.2.2.2.2) = (((x.2.2.2.2.2.1:Int) == 0 && (x.2.2.2.2.2.2.1:Int) == 0) && ((x.2.2.2.2.2.2.2.1:Int) == 0 && (x.2.2.2.2.2.2.2.2.1:Int) == 0)):=by
  show cond ((x.1:Int) == x.1) (cond ((x.2.1:Int) == x.2.1) (cond ((x.2.2.1:Int) == x.2.2.1) (cond ((x.2.2.2.1:Int) == x.2.2.2.1) (cond ((x.2.2.2.2.1:Int) == x.2.2.2.2.1) (cond ((x.2.2.2.2.2.1:Int) == 0) (cond ((x.2.2.2.2.2.2.1:Int) == 0) (cond ((x.2.2.2.2.2.2.2.1:Int) == 0) (cond ((x.2.2.2.2.2.2.2.2.1:Int) == 0) (cond ((x.2.2.2.2.2.2.2.2.2.1:Int) == x.2.2.2.2.2.2.2.2.2.1) true false) false) false) false) false) false) false) false) false) false = _
  simp only [beq_self_eq_true,cond_true]
  cases ((x.2.2.2.2.2.1:Int) == 0) <;> cases ((x.2.2.2.2.2.2.1:Int) == 0) <;> cases ((x.2.2.2.2.2.2.2.1:Int) == 0) <;> cases ((x.2.2.2.2.2.2.2.2.1:Int) == 0) <;> rfl
theorem zGr {x:zI} (h:zmd x):zkv (x,()) = some (zgy x,()):=by
  rw [zC]
  simp only [zkv,zvt h.amount h.price,zHY,vT,Option.bind_some,zgy]
  rw [zJh x]
  generalize zjv x.2.2.2.2.1 x.2.2.2.2.2.2.2.1 x.2.2.2.2.2.2.2.2.1 = n
  unfold M62
  grind
theorem zGs {x:zI} (h:zmd x):zkt (x,()) = some (zgy x,()):=by
  rw [zC]
  simp only [zkt,ztU h.amount h.price,zGo,Option.bind_some,zgy]
  have hz:(x.2.2.2.2.2.2.2.2.2.1:Int) == 0→qW x.2.2.2.2.2.2.2.2.2.1 = true:=fun h=>by unfold qW; grind
  generalize zjv x.2.2.2.2.1 x.2.2.2.2.2.2.2.1 x.2.2.2.2.2.2.2.2.1 = n
  unfold M62 zT
  grind
def zy3 (a b:zI):Int:=orV (zjq a.1 b.1) (zjq a.2.1 b.2.1)
theorem zCv (a b:zI):zhu (a,b,()) = some (zy3 a b,()):=by
  simp only [zhu,zr7,zm6,Option.bind_some]
  show Option.bind (zdx ([zjq a.1 b.1,zjq a.2.1 b.2.1],())) _ = _
  rw [zKY]; rfl
theorem zAk (a b:zI):zga (a,b,()) = some (!decide (zy3 b a ≥ 0),()):=by
  rw [zC]
  simp only [zga,zy3,orV,zjq]
  grind
def zhZ (l:List zI):Bool:=zO (fun i=>zgy (l.getD i zah) && (decide (i = 0) || !decide (zy3 (l.getD (i - 1) zah) (l.getD i zah) ≥ 0))) 0 (l.length - 0)
theorem zCw {l:List zI} (hl:l.length ≤ Go.maxLen) (h:∀ x ∈ l,zmd x):zlo (l,()) = some (zhZ l,()):=by
  rw [zC]
  exact zX (B:=zcp) (i0:=0) hl (Nat.zero_le _) (fun i=>(l,l,(l.length:Int),i)) (fun k i h1 h2=>by
    simp only [zcp]
    rw [ltT h2,zp h2,zS,zGr (h _ (z3 h2))]
    by_cases h0:i = 0
    · subst h0
      simp only [cond_true,Option.bind_some]
      grind
    · rw [zh6 (by omega) (by omega),zp (by omega),Int.toNat_natCast,zCv]
      simp only [cond_true,Option.bind_some]
      grind) (fun k=>by simp only [zcp]; rw [ltF]; rfl)
theorem zCx {l:List zI} (hl:l.length ≤ Go.maxLen) (h:∀ x ∈ l,zmd x):zlm (l,()) = some (zhZ l,()):=by
  rw [zC]
  exact zX (B:=zcm) (i0:=0) hl (Nat.zero_le _) (fun i=>(l,i)) (fun k i h1 h2=>by
    simp only [zcm]
    rw [ltT h2,zp h2,zS,zGs (h _ (z3 h2))]
    by_cases h0:i = 0
    · subst h0
      simp only [cond_true,Option.bind_some]
      grind
    · rw [zh6 (by omega) (by omega),zp h2,zp (by omega),Int.toNat_natCast,zAk]
      simp only [cond_true,Option.bind_some]
      grind) (fun k=>by simp only [zcm]; rw [ltF]; rfl)
end Go.Proofs.YtokcjmkikhgkeaaGreatDoor
end
section
namespace Go.Proofs.YtokcjmkikhgkeaaGreatDoor
open Go.Ev
def zqY (a:List Int):Prop:=∀ x ∈ a,jf x
theorem vU {a:List Int} (h:zqY a) (i:Nat):jf (a.getD i 0):=by
  by_cases hi:i < a.length
  · exact h _ (z3 hi)
  · rw [List.getD_eq_getElem?_getD,List.getElem?_eq_none (by omega)]
    unfold jf U64; decide
structure zme (x:zk):Prop where
  trades:∀ t ∈ x.2.2.2.2.1,zgu t
  purses:∀ a ∈ x.2.2.2.2.2.1,zqY a
  made:zqY x.2.2.2.2.2.2.2.1
  spent:zqY x.2.2.2.2.2.2.2.2.1
structure qB (s:ze):Prop where
  shelves:∀ x ∈ s.2.1,zme x
  orders:∀ x ∈ s.2.2.2.1,zgx x
  entries:∀ x ∈ s.2.2.2.2.1,zmd x
def zcU (r:zf) (x:zk) (q:zag):Bool:=((decide ((x.1.length:Int) = q.1) && decide ((x.2.1.length:Int) = q.2.1)) && (decide ((x.2.2.1.length:Int) = q.2.2.1) && decide ((x.2.2.2.1.length:Int) = q.2.2.2.1))) && (decide ((x.2.2.2.2.1.length:Int) = q.2.2.2.2.1) && (decide (x.2.2.2.2.2.1.length = r.2.2.1.length) && decide (x.2.2.2.2.2.2.1.length = r.2.2.1.length)))
def zd2 (r:zf) (s:ze):Bool:=(decide (s.2.1.length = r.1.length) && (decide ((s.2.2.2.1.length:Int) = r.2.2.2.2.2.1) && decide ((s.2.2.2.2.1.length:Int) ≤ r.2.2.2.2.2.2.1))) && ((decide (s.2.2.2.2.2.1.length = r.2.1.length) && decide (s.1 ≤ M62)) && zO (fun i=>zcU r (s.2.1.getD i za) (r.2.2.2.2.1.getD i qf)) 0 (s.2.1.length - 0))
theorem neI (a b:Int):(a != b) = !decide (a = b):=by
  rw [Bool.eq_iff_iff]; simp
theorem zCy {r:zf} (hr:qp r) (s:ze):zbr ((r,s,()),()) = some (qZ r && zd2 r s,()):=by
  rw [zC]
  simp only [zbr,zhE,zlz r hr,Option.bind_some]
  cases hb:qZ r with
  | false=>rfl
  | true =>
    have ok:=yf hb
    have ok1:=ok.labels
    have ok2:=ok.quotas
    rw [zir,zir]
    unfold zd2 M62
    by_cases hn:s.2.1.length = r.1.length
    · have hloop:zjk K0 ((r.2.2.1.length:Int),s.2.1,(s.2.1.length:Int),0,(r,s,())) = bif zO (fun i=>zcU r (s.2.1.getD i za) (r.2.2.2.2.1.getD i qf)) 0 (s.2.1.length - 0) then some (true,()) else some (false,()) :=
        zX (i0:=0) (n:=s.2.1.length) (by unfold Go.maxLen; omega) (Nat.zero_le _) (fun i=>((r.2.2.1.length:Int),s.2.1,(s.2.1.length:Int),i,(r,s,()))) (fun k i h1 h2=>by
          simp only [zft]
          rw [ltT h2,zp h2,zp (by omega)]
          simp only [zS,neI,cond_true,zcU]
          generalize s.2.1.getD i za = x
          generalize r.2.2.2.2.1.getD i qf = q
          generalize k _ = kk
          grind (splits:=30)) (fun k=>by simp only [zft]; rw [ltF]; rfl)
      rw [hloop]
      grind
    · grind
theorem zCz {r:zf} (hb:qZ r = true) (s:ze):zhq (r,s,()) = some (zd2 r s,()):=by
  rw [zC]
  simp only [zhq,zhp]
  have ok:=yf hb
  have ok1:=ok.labels
  have ok2:=ok.quotas
  rw [zir,zir]
  unfold zd2 M62
  by_cases hn:s.2.1.length = r.1.length
  · have hloop:ziN K0 (0,r,s) = bif zO (fun i=>zcU r (s.2.1.getD i za) (r.2.2.2.2.1.getD i qf)) 0 (s.2.1.length - 0) then some (true,()) else some (false,()) :=
      zX (i0:=0) (n:=s.2.1.length) (by unfold Go.maxLen; omega) (Nat.zero_le _) (fun i=>(i,r,s)) (fun k i h1 h2=>by
        simp only [zfh]
        rw [ltT h2,zp h2,zp (by omega)]
        simp only [zS,neI,cond_true,zcU]
        generalize s.2.1.getD i za = x
        generalize r.2.2.2.2.1.getD i qf = q
        generalize k _ = kk
        grind (splits:=30)) (fun k=>by simp only [zfh]; rw [ltF]; rfl)
    rw [hloop]
    grind
  · grind
structure zd3 (r:zf) (s:ze):Prop where
  shelves:s.2.1.length = r.1.length
  orders:s.2.2.2.1.length ≤ 24
  entries:s.2.2.2.2.1.length ≤ 48
  people:s.2.2.2.2.2.1.length = r.2.1.length
  shelf:∀ x ∈ s.2.1,x.1.length ≤ 12 ∧ x.2.1.length ≤ 12 ∧ x.2.2.1.length ≤ 12 ∧ x.2.2.2.1.length ≤ 12 ∧ x.2.2.2.2.1.length ≤ 12 ∧ x.2.2.2.2.2.1.length = r.2.2.1.length ∧ x.2.2.2.2.2.2.1.length = r.2.2.1.length
theorem zEQ:∀ (l:List zag) (n:Int),zjs n l = true→∀ q ∈ l,zqa q = true
  | [],_,_,q,h=>by cases h
  | a :: l,n,h,q,hq=>by
    simp only [zjs,Bool.and_eq_true] at h
    rcases List.mem_cons.1 hq with rfl | hq
    · exact h.1
    · exact zEQ l _ h.2.2 q hq
theorem zox {r:zf} {s:ze} (hb:qZ r = true) (h:zd2 r s = true):zd3 r s:=by
  have ok:=yf hb
  simp only [qZ,Bool.and_eq_true] at hb
  obtain ⟨-,-,-,-,h5,h6⟩:=hb
  simp only [zgq,zui,zQ,Bool.and_eq_true,decide_eq_true_eq] at h5 h6
  simp only [zd2,Bool.and_eq_true,decide_eq_true_eq,qr] at h
  obtain ⟨⟨h7,h8,h9⟩,⟨h10,-⟩,h11⟩:=h
  refine ⟨h7,by omega,by omega,h10,fun x hx=>?_⟩
  obtain ⟨i,hi,rfl⟩:=List.mem_iff_getElem.1 hx
  have h12:=h11 i (by omega) (by omega)
  have e:s.2.1.getD i za = s.2.1[i]:=by simp [List.getD,hi]
  rw [e] at h12
  have hq:=zEQ _ _ h5.2.2.2 (r.2.2.2.2.1.getD i qf) (z3 (by have:=ok.quotas; omega))
  simp only [zqa,zQ,Bool.and_eq_true,decide_eq_true_eq] at hq
  simp only [zcU,Bool.and_eq_true,decide_eq_true_eq] at h12
  omega
def qI (x:zk):Bool:=(x.1.all zjt) && (zyY x.2.1 && (x.2.2.1.all vS && (x.2.2.2.1.all zju && x.2.2.2.2.1.all zgv)))
theorem zy4 {x:zk} (h:x.1.length ≤ 12 ∧ x.2.1.length ≤ 12 ∧ x.2.2.1.length ≤ 12 ∧ x.2.2.2.1.length ≤ 12 ∧ x.2.2.2.2.1.length ≤ 12):zfq (x,()) = some (qI x,()):=by
  rw [zC]
  have hm:12 ≤ Go.maxLen:=by unfold Go.maxLen; omega
  simp only [zfq]
  rw [zEB (by omega),zED (by omega),zCl (by omega),zEH (by omega),zCp (by omega)]
  simp only [Option.bind_some,qI]
  grind
theorem zCA {r:zf} {s:ze} (ok:zgw r) (sz:zd3 r s):zbs ((r,s,()),()) = some (s.2.1.all qI,()):=by
  rw [zC]
  simp only [zbs]
  have h1:=ok.labels
  have h2:=sz.shelves
  rw [zF2 (p:=qI) (by unfold Go.maxLen; omega) fun x hx=>zy4 (by have:=sz.shelf x hx; omega)]
  simp only [Option.bind_some]
def vm (r:zf) (x:Int):Bool:=decide (0 ≤ x ∧ x < (r.2.2.1.length:Int))
def jC (r:zf) (x:Int):Bool:=decide (0 ≤ x ∧ x < (r.1.length:Int))
theorem y4 (r:zf) (s:ze) (x:Int):qV ((r,s,()),x,()) = some (vm r x,()):=by simp only [qV,vm]; grind
theorem zsb (r:zf) (s:ze) (x:Int):zbq ((r,s,()),x,()) = some (jC r x,()):=by simp only [zbq,jC]; grind
theorem ze5 (r:zf) (x:Int):ve (r,x,()) = some (vm r x,()):=by simp only [ve,vm]; grind
def zhd (s:ze) (x:vA):Bool:=decide (0 ≤ x.1 ∧ x.1 < (s.2.1.length:Int)) && (decide (0 ≤ x.2.1 ∧ x.2.1 < ((s.2.1.getD x.1.toNat za).1.length:Int)) && ((s.2.1.getD x.1.toNat za).1.getD x.2.1.toNat zkm).1)
theorem zsc (s:ze) (x:vA):zeD (s,x,()) = some (zhd s x,()):=by
  rw [zC]
  simp only [zeD,zhd,ix]
  by_cases h1:0 ≤ x.1 ∧ x.1 < (s.2.1.length:Int)
  · rw [ixR h1,ixR h1]
    by_cases h2:0 ≤ x.2.1 ∧ x.2.1 < ((s.2.1.getD x.1.toNat za).1.length:Int)
    · rw [ixR h2]
      grind
    · grind
  · grind
theorem zsd (s:ze) (x:vA):zeI (s,x,()) = some (zhd s x,()):=by
  rw [zC]
  simp only [zeI,zhd,ix]
  by_cases h1:0 ≤ x.1 ∧ x.1 < (s.2.1.length:Int)
  · rw [ixR h1,ixR h1]
    by_cases h2:0 ≤ x.2.1 ∧ x.2.1 < ((s.2.1.getD x.1.toNat za).1.length:Int)
    · rw [ixR h2]
      grind
    · grind
  · grind
def zfU (r:zf) (s:ze) (x:zn):Bool:=!x.1 || (jC r x.2.1 && (vm r x.2.2.1 && decide (x.2.2.2.2.2.2.2.2.2.1 < (s.2.2.2.2.1.length:Int))))
def zfV (r:zf) (s:ze) (x:zI):Bool:=decide (x.2.1 < (r.2.1.length:Int)) && ((x.2.2.1:Int) == r.2.1.getD x.2.1.toNat 0 && (vm r x.2.2.2.1 && decide (x.1 ≤ s.1)))
def zmf (r:zf) (x:Int):Bool:=x == -1 || vm r x
theorem zH3 (r:zf) (s:ze) (x:zn):zet (x,some (r,s,()),()) = some (zfU r s x,()):=by
  rw [zC]
  simp only [zet,y4,zsb,Option.bind_some,zfU]
  grind
theorem zH4 (r:zf) (s:ze) {x:zI} (h:zgy x = true):zaP (x,some (r,s,()),()) = some (zfV r s x,()):=by
  rw [zC]
  simp only [zaP,y4,Option.bind_some,zfV,ix]
  have:0 ≤ x.2.1:=by unfold zgy qW at h; grind
  by_cases h1:x.2.1 < (r.2.1.length:Int)
  · rw [ixR ⟨this,h1⟩]
    grind
  · grind
theorem zH5 (r:zf) (s:ze) (x:Int):vi (x,some (r,s,()),()) = some (zmf r x,()):=by
  rw [zC]
  simp only [vi,y4,Option.bind_some,zmf]
  grind
def zbv (r:zf) (s:ze):Bool:=zhc r s.2.2.1 && (ze4 s.2.2.2.1 && (zhZ s.2.2.2.2.1 && (zhd s (zb zY) && (s.2.2.2.1.all (zfU r s) && (s.2.2.2.2.1.all (zfV r s) && s.2.2.2.2.2.1.all (zmf r))))))
theorem ztV {l:List zI} (h:zhZ l = true):∀ x ∈ l,zgy x = true:=by
  intro x hx
  simp only [zhZ,qr,Bool.and_eq_true] at h
  obtain ⟨i,hi,rfl⟩:=List.mem_iff_getElem.1 hx
  have e:l.getD i zah = l[i]:=by simp [List.getD,hi]
  rw [← e]
  exact (h i (by omega) (by omega)).1
theorem zGt {l:List zn} (h:ze4 l = true):∀ x ∈ l,zj9 x = true:=by
  intro x hx
  simp only [ze4,Bool.and_eq_true,List.all_eq_true] at h
  exact h.1 x hx
theorem zAl {r:zf} {s:ze} (hr:qp r) (hb:qZ r = true) (hs:qB s) (sz:zd3 r s):zaI ((r,s,()),()) = some (zbv r s,()):=by
  rw [zC]
  have ok:=yf hb
  have h1:=ok.lines
  have h2:=sz.orders
  have h3:=sz.entries
  have h4:=sz.people
  have hm:48 ≤ Go.maxLen:=by unfold Go.maxLen; omega
  simp only [zaI,zEO hr,hb,Bool.true_and,Option.bind_some]
  unfold zbv
  cases zhc r s.2.2.1 with
  | false=>rfl
  | true =>
    rw [zEP (by omega) hs.orders,zCw (by omega) hs.entries,zsc]
    simp only [Option.bind_some,cond_true]
    cases ze4 s.2.2.2.1 with
    | false=>rfl
    | true =>
      cases he:zhZ s.2.2.2.2.1 with
      | false=>rfl
      | true =>
        rw [zF3 (p:=zfU r s) (by omega) fun x _=>zH3 r s x,zF4 (p:=zfV r s) (by omega) fun x hx=>zH4 r s (ztV he x hx),zI9 (p:=zmf r) (by omega) fun x _=>zH5 r s x]
        simp only [Option.bind_some,cond_true]
        grind
theorem zAm {r:zf} {s:ze} (hr:qp r) (hb:qZ r = true) (hs:qB s) (sz:zd3 r s):zgo (r,s,()) = some (zbv r s,()):=by
  rw [zC]
  have ok:=yf hb
  have h1:=ok.lines
  have h2:=sz.orders
  have h3:=sz.entries
  have h4:=sz.people
  have hm:48 ≤ Go.maxLen:=by unfold Go.maxLen; omega
  simp only [zgo,zgn,zCt hr,hb,Bool.true_and,Option.bind_some]
  unfold zbv
  cases zhc r s.2.2.1 with
  | false=>rfl
  | true =>
    rw [zCu (by omega) hs.orders,zCx (by omega) hs.entries,zsd]
    simp only [Option.bind_some,cond_true]
    cases ho:ze4 s.2.2.2.1 with
    | false=>rfl
    | true =>
      cases he:zhZ s.2.2.2.2.1 with
      | false=>rfl
      | true =>
        cases zhd s (zb zY) with
        | false=>rfl
        | true =>
          simp only [cond_true,Bool.true_and]
          have l2:za7 K0 (0,r,s) = bif s.2.2.2.2.2.1.all (zmf r) then some (true,()) else some (false,()) :=
            jZ (l:=s.2.2.2.2.2.1) (0:Int) (fun i=>(i,r,s)) (by omega) (fun k i x hi hx _=>by
              simp only [zeB]
              rw [ltT hi]
              simp only [zp hi,zS,hx,ze5,Option.bind_some,cond_true,zmf]
              grind) (fun k=>by simp only [zeB]; rw [ltF]; rfl)
          have l1:za9 K0 (0,r,s) = bif s.2.2.2.2.1.all (zfV r s) then za7 K0 (0,r,s) else some (false,()) :=
            jZ (l:=s.2.2.2.2.1) zah (fun i=>(i,r,s)) (by omega) (fun k i x hi hx hmem=>by
              have hok:=ztV he x hmem
              have h0:0 ≤ x.2.1:=by unfold zgy qW at hok; grind
              simp only [za8]
              rw [ltT hi]
              simp only [zp hi,zS,hx,ze5,Option.bind_some,cond_true,zfV]
              by_cases h1:x.2.1 < (r.2.1.length:Int)
              · rw [ixR ⟨h0,h1⟩]
                grind
              · grind) (fun k=>by simp only [za8]; rw [ltF]; rfl)
          have l0:zhX K0 (0,r,s) = bif s.2.2.2.1.all (zfU r s) then za9 K0 (0,r,s) else some (false,()) :=
            jZ (l:=s.2.2.2.1) zH (fun i=>(i,r,s)) (by omega) (fun k i x hi hx hmem=>by
              have hok:=zGt ho x hmem
              have h0:x.1 = true→0 ≤ x.2.1:=fun h=>by unfold zj9 zhY qW at hok; grind
              simp only [zba]
              rw [ltT hi]
              simp only [zp hi,zS,hx,ze5,Option.bind_some,cond_true,zfU,jC]
              grind) (fun k=>by simp only [zba]; rw [ltF]; rfl)
          rw [l0,l1,l2]
          grind
end Go.Proofs.YtokcjmkikhgkeaaGreatDoor
end
section
namespace Go.Proofs.YtokcjmkikhgkeaaGreatDoor
open Go.Ev
def zlB (r:zf) (a b:Int):Bool:=jC r a && (jC r b && zwJ (r.1.getD a.toNat qN) (r.1.getD b.toNat qN))
theorem zkX {r:zf} (hr:qp r) (a:Int) (h:jC r a = true):zna (r.1.getD a.toNat qN):=by
  simp only [jC,decide_eq_true_eq] at h
  exact hr.labels _ (z3 (by omega))
theorem zvu {r:zf} (hr:qp r) (s:ze) (a b:Int):zg6 ((r,s,()),a,b,()) = some (zlB r a b,()):=by
  rw [zC]
  simp only [zg6,zsb,Option.bind_some,zlB,ix]
  cases ha:jC r a with
  | false=>rfl
  | true =>
    cases hb:jC r b with
    | false=>rfl
    | true =>
      rw [zo8 (zkX hr a ha) (zkX hr b hb)]
      simp only [jC,decide_eq_true_eq] at ha hb
      rw [ixR ha,ixR hb]
      simp only [Option.bind_some]
      grind
theorem zvv {r:zf} (hr:qp r) (a b:Int):zha (r,a,b,()) = some (zlB r a b,()):=by
  rw [zC]
  simp only [zha,zlB,ix]
  cases ha:jC r a with
  | false=>unfold jC at ha; grind
  | true =>
    cases hb:jC r b with
    | false=>unfold jC at ha hb; grind
    | true =>
      rw [zGg (zkX hr a ha) (zkX hr b hb)]
      simp only [jC,decide_eq_true_eq] at ha hb
      rw [ixR ha,ixR hb]
      simp only [Option.bind_some]
      grind
def yR (r:zf) (s:ze) (i:Int) (x:vA):Bool:=zhd s x && zlB r x.1 i
theorem zjw {r:zf} (hr:qp r) (s:ze) (i:Int) (x:vA):vN (x,some (r,s,()),some i,()) = some (yR r s i x,()):=by
  rw [zC]
  simp only [vN,zsc,zvu hr,Option.bind_some,yR]
  grind
theorem zlC {r:zf} (hr:qp r) (s:ze) (i:Int) (x:vA):zab (r,s,x,i,()) = some (yR r s i x,()):=by
  rw [zC]
  simp only [zab,zsd,zvv hr,Option.bind_some,yR]
  grind
def zaz (r:zf) (s:ze) (i:Int) (x:qi):Bool:=!x.1 || (yR r s i x.2.1 && yR r s i x.2.2.1)
def zaA (r:zf) (s:ze) (i:Int) (x:qj):Bool:=(x.2.2.1:Int) != 2 || yR r s i x.2.2.2.2.1
def zhe (r:zf) (s:ze) (i:Int) (x:zk):Bool:=x.2.1.all (zaz r s i) && (x.2.2.1.all (zaA r s i) && x.2.2.2.2.2.2.1.all (yR r s i))
theorem zJi {r:zf} (hr:qp r) (s:ze) (i:Int) (x:qi):zff (x,some (some fun z=>vN (z.1,some (r,s,()),some i,())),()) = some (zaz r s i x,()):=by
  rw [zC]
  simp only [zff,zjw hr,Option.bind_some,zaz]
  grind
theorem zJj {r:zf} (hr:qp r) (s:ze) (i:Int) (x:qj):zbK (x,some (some fun z=>vN (z.1,some (r,s,()),some i,())),()) = some (zaA r s i x,()):=by
  rw [zC]
  simp only [zbK,zjw hr,Option.bind_some,zaA]
  grind
theorem zCB {r:zf} {s:ze} (hr:qp r) (ok:zgw r) (sz:zd3 r s):zeP ((r,s,()),()) = some (zO (fun i=>zhe r s (i:Int) (s.2.1.getD i za)) 0 (s.2.1.length - 0),()):=by
  rw [zC]
  have h1:=ok.labels
  have h2:=sz.shelves
  have h3:=ok.accounts
  exact zX (B:=zcr) (i0:=0) (n:=s.2.1.length) (by unfold Go.maxLen; omega) (Nat.zero_le _) (fun i=>(s.2.1,(s.2.1.length:Int),i,(r,s,()))) (fun k i _ h=>by
    have hm:12 ≤ Go.maxLen:=by unfold Go.maxLen; omega
    have hz:=sz.shelf _ (z3 (d:=za) h)
    simp only [zcr]
    have hbelow:zlh ((r,s,()),(i:Int),()) = some (some fun z=>vN (z.1,some (r,s,()),some (i:Int),()),()):=rfl
    rw [ltT h,zp h,zS,hbelow,Option.bind_some,zHO (p:=zaz r s i) (by omega) fun x _=>zJi hr s i x,zyS (p:=zaA r s i) (by omega) fun x _=>zJj hr s i x,zJa (p:=yR r s i) (by omega) fun x _=>zjw hr s i x]
    simp only [Option.bind_some,cond_true]
    unfold zhe
    grind) (fun k=>by simp only [zcr]; rw [ltF]; rfl)
theorem zGu {σ ρ:Type} {B:(σ→Option ρ)→σ→Option ρ} {i0 n:Nat} (hn:n ≤ Go.maxLen) (h0:i0 ≤ n) {p:Nat→Bool} {fin bad:Option ρ} (st:Int→σ)
    (hin:∀ k (i:Nat),i0 ≤ i→i < n→B k (st i) = bif p i then k (st (wI (i + 1))) else bad) (hout:∀ k,B k (st n) = fin) (K:Nat) (hK:n - i0 < K):zg B K (st i0) = bif zO p i0 (n - i0) then fin else bad:=by
  have key:∀ (m i fuel:Nat),i0 ≤ i→i + m = n→m < fuel→zg B fuel (st i) = bif zO p i m then fin else bad:=by
    intro m
    induction m with
    | zero =>
      intro i fuel _ h1 h2
      obtain ⟨f,rfl⟩:∃ f,fuel = f + 1:=⟨fuel - 1,by omega⟩
      obtain rfl:i = n:=by omega
      exact hout _
    | succ m ih =>
      intro i fuel h1 h2 h3
      obtain ⟨f,rfl⟩:∃ f,fuel = f + 1:=⟨fuel - 1,by omega⟩
      show B (zg B f) (st i) = _
      rw [hin _ i h1 (by omega),wI,zxu (len:=n) (by omega) hn,show ((i:Int) + 1) = ((i + 1:Nat):Int) by omega,ih (i + 1) f (by omega) (by omega) (by omega)]
      simp only [zO]
      cases p i <;> rfl
  exact key (n - i0) i0 K (Nat.le_refl _) (by omega) hK
def zka (r:zf) (x:qj):Bool:=(x.2.2.1:Int) != 1 || vm r x.2.2.2.1
def zkb (r:zf) (i:Int) (x:qw):Bool:=!x.1 || (zlB r x.2.1 i && (vm r x.2.2.1 && vm r x.2.2.2.1))
def zkc (r:zf) (x:zt):Bool:=!x.1 || (vm r x.2.1 && vm r x.2.2.1)
def zd4 (r:zf) (i:Int) (x:zk):Bool:=x.2.2.1.all (zka r) && (x.2.2.2.1.all (zkb r i) && x.2.2.2.2.1.all (zkc r))
theorem zH6 (r:zf) (s:ze) (x:qj):zaQ (x,some (r,s,()),()) = some (zka r x,()):=by
  rw [zC]
  simp only [zaQ,y4,Option.bind_some,zka]
  grind
theorem zH7 {r:zf} (hr:qp r) (s:ze) (i:Int) (x:qw):vk (x,some (r,s,()),some i,()) = some (zkb r i x,()):=by
  rw [zC]
  simp only [vk,y4,zvu hr,Option.bind_some,zkb]
  grind
theorem zH8 (r:zf) (s:ze) (x:zt):qH (x,some (r,s,()),()) = some (zkc r x,()):=by
  rw [zC]
  simp only [qH,y4,Option.bind_some,zkc]
  grind
theorem zAn {r:zf} {s:ze} (hr:qp r) (ok:zgw r) (sz:zd3 r s):zaG ((r,s,()),()) = some (zO (fun i=>zd4 r (i:Int) (s.2.1.getD i za)) 0 s.2.1.length,()):=by
  rw [zC]
  have h1:=ok.labels
  have h2:=sz.shelves
  have hm:12 ≤ Go.maxLen:=by unfold Go.maxLen; omega
  have step:∀ k (i:Nat),i < s.2.1.length→qY k (s.2.1,(s.2.1.length:Int),(i:Int),(r,s,())) = bif zd4 r (i:Int) (s.2.1.getD i za) then k (s.2.1,(s.2.1.length:Int),wI ((i:Int) + 1),(r,s,())) else some (false,()):=fun k i h=>by
    have hz:=sz.shelf _ (z3 (d:=za) h)
    simp only [qY]
    rw [ltT h,zp h,zS,zyS (p:=zka r) (by omega) fun x _=>zH6 r s x,zHP (p:=zkb r i) (by omega) fun x _=>zH7 hr s i x,zF5 (p:=zkc r) (by omega) fun x _=>zH8 r s x]
    simp only [Option.bind_some,cond_true]
    unfold zd4
    grind
  have hend:∀ k,qY k (s.2.1,(s.2.1.length:Int),(s.2.1.length:Int),(r,s,())) = some (true,()):=fun k=>by simp only [qY]; rw [ltF]; rfl
  have first:zaG ((r,s,()),()) = zxv (qY) (qY) K0 (s.2.1,(s.2.1.length:Int),((0:Nat):Int),(r,s,())):=rfl
  have hw:wI (((0:Nat):Int) + 1) = ((1:Nat):Int):=rfl
  obtain ⟨m,hK⟩:=zug
  have hf:∀ (B0 B1:(vl→Option (Bool × Unit))→vl→Option (Bool × Unit)) (x:vl),zxv B0 B1 K0 x = B0 (zg B1 (m + 7)) x:=fun B0 B1 x=>by rw [hK]; rfl
  have rest:=zGu (B:=qY) (i0:=1) (n:=s.2.1.length) (by unfold Go.maxLen; omega) (by omega) (p:=fun i=>zd4 r (i:Int) (s.2.1.getD i za)) (fun i=>(s.2.1,(s.2.1.length:Int),i,(r,s,()))) (fun k i _ h=>step k i h) hend (m + 7) (by unfold K0 Go.maxLen at hK; omega)
  rw [hf] at first
  rw [first,step _ 0 (by omega),hw]
  refine (congrArg (fun z=>bif zd4 r ((0:Nat):Int) (s.2.1.getD 0 za) then z else some (false,())) rest).trans ?_
  obtain ⟨n,hn⟩:∃ n,s.2.1.length = n + 1:=⟨s.2.1.length - 1,by omega⟩
  rw [hn]
  simp only [zO,Nat.add_sub_cancel]
  cases zd4 r ((0:Nat):Int) (s.2.1.getD 0 za) <;> rfl
theorem zER {l:List zt} {g:zt × Unit→Option (Bool × Unit)} {p:zt→Bool} (hg:∀ x,g (x,()) = some (p x,())) (z:Int):vL (some (l,some g,()),z,()) = some (decide (0 ≤ z ∧ z < (l.length:Int)) && p (l.getD z.toNat zV),()):=by
  by_cases h:0 ≤ z ∧ z < (l.length:Int)
  · obtain ⟨n,rfl⟩:=Int.eq_ofNat_of_zero_le h.1
    rw [zvs hg (by omega),decide_eq_true h,Bool.true_and,Int.toNat_natCast]
  · rw [decide_eq_false h,Bool.false_and]
    simp only [vL,ztT,Option.bind_some,cond_true]
    grind
theorem zy5 {α:Type} {p:α→Bool} (d:α) (L:List α) (q:Int→Bool):∀ (l:List α) (i:Nat),(∀ j,j < l.length→L.getD (i + j) d = l.getD j d)→(qO p i l).all q = zO (fun j=>!p (L.getD j d) || q (j:Int)) i l.length
  | [],_,_=>rfl
  | x :: l,i,h=>by
    have ih:=zy5 (p:=p) d L q l (i + 1) fun j hj=>by
      have:=h (j + 1) (by simp; omega)
      rw [show i + 1 + j = i + (j + 1) by omega,this]; rfl
    have h0:L.getD i d = x:=h 0 (by simp)
    simp only [qO,List.length_cons,zO,h0]
    rw [← ih]
    cases p x <;> simp
def zfW (x:zk) (j:Nat) (t:qj):Bool:=(t.2.2.1:Int) != 3 || (decide (0 ≤ t.2.2.2.1 ∧ t.2.2.2.1 < (x.2.2.2.2.1.length:Int)) && ((x.2.2.2.2.1.getD (Int.toNat t.2.2.2.1) zV).1 && ((x.2.2.2.2.1.getD (Int.toNat t.2.2.2.1) zV).2.2.2.1.2.2.1:Int) == (j:Int)))
def zcV (x:zk) (j:Int) (t:zt):Bool:=(decide (t.2.2.2.1.2.2.1 < (x.2.2.1.length:Int)) && decide (t.2.2.2.2.1.2.2.1 < (x.2.2.1.length:Int))) && (decide (t.2.2.2.1.2.2.1 < 0) || (((x.2.2.1.getD (Int.toNat t.2.2.2.1.2.2.1) zB).2.2.1:Int) == 3 && ((x.2.2.1.getD (Int.toNat t.2.2.2.1.2.2.1) zB).2.2.2.1:Int) == j))
def zkY (x:zk):Bool:=zO (fun j=>zfW x j (x.2.2.1.getD j zB)) 0 (x.2.2.1.length - 0) && zO (fun j=>!(x.2.2.2.2.1.getD j zV).1 || zcV x (j:Int) (x.2.2.2.2.1.getD j zV)) 0 x.2.2.2.2.1.length
theorem zoy (x:zt):vI (x,()) = some (x.1,()):=by
  rw [zC]; rfl
end Go.Proofs.YtokcjmkikhgkeaaGreatDoor
end
