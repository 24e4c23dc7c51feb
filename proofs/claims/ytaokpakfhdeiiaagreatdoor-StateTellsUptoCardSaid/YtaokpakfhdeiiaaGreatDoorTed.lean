import Derived.Test.YtaokpakfhdeiiaaGreatDoorTec
import Derived.Test.YtaokpakfhdeiiaaGreatDoorProg
import Derived.RangeFuncBox
import Derived.RangeFuncLeaves
import Derived.Shelf.Abstract
import Derived.WalkKit
import Derived.OwnWalkIn
import Derived.TacticsInMore
import Derived.LoopNIn
import Derived.LoopIn
import Derived.Maps.AppendAt
import Derived.Laws.Bits64b
import Derived.Lib.TrailingZeros
set_option linter.unusedVariables false
set_option linter.unusedSimpArgs false
section
namespace Go.Proofs.YtaokpakfhdeiiaaGreatDoor
open Go.Ev
abbrev zsy (g:Fnc zPO zPP):Fun:=⟨238,zPO,zPP,0,g⟩
abbrev zAg:Ty:=(.pair (.int .u8) .unit)
abbrev zAh:Ty:=(.pair .bool .unit)
abbrev zOb:Type:=(Int × Unit)→Option (Bool × Unit)
abbrev zxc (g:Fnc zAg zAh):Fun:=⟨239,zAg,zAh,0,g⟩
abbrev zHD:Ty:=(.pair (.int .u8) .unit)
abbrev zHE:Ty:=(.pair .bool .unit)
abbrev zTy:Type:=(Int × Unit)→Option (Bool × Unit)
abbrev zDN (g:Fnc zHD zHE):Fun:=⟨240,zHD,zHE,0,g⟩
abbrev zjx:Ty:=(.pair (.sl vb) (.pair (.fn (.pair vb .unit) (.pair .bool .unit)) .unit))
abbrev zdI:Ty:=(.pair (.int .i64) .unit)
abbrev zsz:Type:=((List jw) × ((Option ((jw × Unit)→Option (Bool × Unit))) × Unit))→Option (Int × Unit)
abbrev zhl (g:Fnc zjx zdI):Fun:=⟨241,zjx,zdI,0,g⟩
abbrev zuO:Ty:=(.pair (.sl zw) (.pair zw .unit))
abbrev zl4:Ty:=(.pair (.int .i64) .unit)
abbrev zHF:Type:=((List zz) × (zz × Unit))→Option (Int × Unit)
abbrev zr7 (g:Fnc zuO zl4):Fun:=⟨242,zuO,zl4,0,g⟩
abbrev zHG:Ty:=(.pair (.int .i64) (.pair (.int .u64) (.pair (.int .u64) .unit)))
abbrev zHH:Ty:=(.pair (.int .u64) (.pair (.int .i64) .unit))
abbrev zHI:Type:=(Int × (Int × (Int × Unit)))→Option (Int × (Int × Unit))
abbrev zmQ (g:Fnc zHG zHH):Fun:=⟨243,zHG,zHH,0,g⟩
abbrev zMn:Ty:=(.pair (.int .i64) .unit)
abbrev zMo:Ty:=(.pair .bool .unit)
abbrev zWj:Type:=(Int × Unit)→Option (Bool × Unit)
abbrev zHJ (g:Fnc zMn zMo):Fun:=⟨244,zMn,zMo,0,g⟩
abbrev zMp:Ty:=(.pair (.int .i64) .unit)
abbrev zMq:Ty:=(.pair .bool .unit)
abbrev zWk:Type:=(Int × Unit)→Option (Bool × Unit)
abbrev zHK (g:Fnc zMp zMq):Fun:=⟨245,zMp,zMq,0,g⟩
abbrev zMr:Ty:=(.pair (.int .u8) .unit)
abbrev zMs:Ty:=(.pair .bool .unit)
abbrev zWl:Type:=(Int × Unit)→Option (Bool × Unit)
abbrev zHL (g:Fnc zMr zMs):Fun:=⟨246,zMr,zMs,0,g⟩
abbrev zMt:Ty:=(.pair (.int .i64) .unit)
abbrev zMu:Ty:=(.pair .bool .unit)
abbrev zWm:Type:=(Int × Unit)→Option (Bool × Unit)
abbrev zHM (g:Fnc zMt zMu):Fun:=⟨247,zMt,zMu,0,g⟩
abbrev zMv:Ty:=(.pair zj1 .unit)
abbrev zMw:Ty:=(.pair .bool .unit)
abbrev zWn:Type:=(zoE × Unit)→Option (Bool × Unit)
abbrev zHN (g:Fnc zMv zMw):Fun:=⟨248,zMv,zMw,0,g⟩
abbrev zuP:Ty:=(.pair (.sl zi) (.pair (.fn (.pair zi .unit) (.pair .bool .unit)) .unit))
abbrev zuQ:Ty:=(.pair (.ptr zdG) .unit)
abbrev zHO:Type:=((List zj) × ((Option ((zj × Unit)→Option (Bool × Unit))) × Unit))→Option ((Option zb9) × Unit)
abbrev zr8 (g:Fnc zuP zuQ):Fun:=⟨249,zuP,zuQ,0,g⟩
abbrev zHP:Ty:=(.pair zi .unit)
abbrev zHQ:Ty:=(.pair .bool .unit)
abbrev zTz:Type:=(zj × Unit)→Option (Bool × Unit)
abbrev zDO (g:Fnc zHP zHQ):Fun:=⟨250,zHP,zHQ,0,g⟩
abbrev zuR:Ty:=(.pair (.ptr zdG) .unit)
abbrev zuS:Ty:=(.pair .bool .unit)
abbrev zuT:Type:=((Option zb9) × Unit)→Option (Bool × Unit)
abbrev ze2 (g:Fnc zuR zuS):Fun:=⟨251,zuR,zuS,0,g⟩
abbrev zxd:Ty:=(.pair (.ptr zdG) (.pair (.int .i64) .unit))
abbrev zxe:Ty:=(.pair .bool .unit)
abbrev zKA:Type:=((Option zb9) × (Int × Unit))→Option (Bool × Unit)
abbrev zuU (g:Fnc zxd zxe):Fun:=⟨252,zxd,zxe,0,g⟩
abbrev zl5:Ty:=(.pair (.sl zh) (.pair (.fn (.pair zh .unit) (.pair .bool .unit)) .unit))
abbrev zfq:Ty:=(.pair (.int .i64) .unit)
abbrev zxf:Type:=((List zg) × ((Option ((zg × Unit)→Option (Bool × Unit))) × Unit))→Option (Int × Unit)
abbrev zkv (g:Fnc zl5 zfq):Fun:=⟨253,zl5,zfq,0,g⟩
abbrev zod:Ty:=(.pair (.sl zX) (.pair (.fn (.pair zX .unit) (.pair .bool .unit)) .unit))
abbrev zg0:Ty:=(.pair (.int .i64) .unit)
abbrev zyG:Type:=((List qP) × ((Option ((qP × Unit)→Option (Bool × Unit))) × Unit))→Option (Int × Unit)
abbrev zl6 (g:Fnc zod zg0):Fun:=⟨254,zod,zg0,0,g⟩
abbrev zHR:Ty:=(.pair zY .unit)
abbrev zHS:Ty:=(.pair .bool .unit)
abbrev zTA:Type:=(jI × Unit)→Option (Bool × Unit)
abbrev zDP (g:Fnc zHR zHS):Fun:=⟨255,zHR,zHS,0,g⟩
abbrev zHT:Ty:=(.pair (.int .i64) .unit)
abbrev zHU:Ty:=(.pair .bool .unit)
abbrev zTB:Type:=(Int × Unit)→Option (Bool × Unit)
abbrev zDQ (g:Fnc zHT zHU):Fun:=⟨256,zHT,zHU,0,g⟩
abbrev zoe:Ty:=(.pair (.sl zV) (.pair (.fn (.pair zV .unit) (.pair .bool .unit)) .unit))
abbrev zg1:Ty:=(.pair (.int .i64) .unit)
abbrev zof:Type:=((List z5) × ((Option ((z5 × Unit)→Option (Bool × Unit))) × Unit))→Option (Int × Unit)
abbrev zcc (g:Fnc zoe zg1):Fun:=⟨257,zoe,zg1,0,g⟩
abbrev zAi:Ty:=(.pair zV (.pair (.ptr zY) (.pair (.ptr (.int .i64)) .unit)))
abbrev zAj:Ty:=(.pair .bool .unit)
abbrev zOc:Type:=(z5 × ((Option jI) × ((Option Int) × Unit)))→Option (Bool × Unit)
abbrev zxg (g:Fnc zAi zAj):Fun:=⟨258,zAi,zAj,0,g⟩
abbrev zog:Ty:=(.pair (.sl zI) (.pair (.fn (.pair zI .unit) (.pair .bool .unit)) .unit))
abbrev zg2:Ty:=(.pair (.int .i64) .unit)
abbrev zyH:Type:=((List z3) × ((Option ((z3 × Unit)→Option (Bool × Unit))) × Unit))→Option (Int × Unit)
abbrev zl7 (g:Fnc zog zg2):Fun:=⟨259,zog,zg2,0,g⟩
abbrev zPR:Ty:=(.pair zI .unit)
abbrev zPS:Ty:=(.pair zU5 .unit)
abbrev zY8:Type:=(z3 × Unit)→Option (zNP × Unit)
abbrev zMx (g:Fnc zPR zPS):Fun:=⟨260,zPR,zPS,0,g⟩
abbrev zpC:Ty:=(.pair zU5 .unit)
abbrev zpD:Ty:=(.pair .bool .unit)
abbrev zBH:Type:=(zNP × Unit)→Option (Bool × Unit)
abbrev zoh (g:Fnc zpC zpD):Fun:=⟨261,zpC,zpD,0,g⟩
abbrev zoi:Ty:=(.pair (.sl zZ) (.pair (.fn (.pair zZ .unit) (.pair .bool .unit)) .unit))
abbrev zg3:Ty:=(.pair (.int .i64) .unit)
abbrev zyI:Type:=((List qh) × ((Option ((qh × Unit)→Option (Bool × Unit))) × Unit))→Option (Int × Unit)
abbrev zl8 (g:Fnc zoi zg3):Fun:=⟨262,zoi,zg3,0,g⟩
abbrev zAk:Ty:=(.pair zZ .unit)
abbrev zAl:Ty:=(.pair .bool .unit)
abbrev zOd:Type:=(qh × Unit)→Option (Bool × Unit)
abbrev zxh (g:Fnc zAk zAl):Fun:=⟨263,zAk,zAl,0,g⟩
abbrev zMy:Ty:=(.pair .str .unit)
abbrev zMz:Ty:=(.pair .bool .unit)
abbrev zWo:Type:=(ByteArray × Unit)→Option (Bool × Unit)
abbrev zHV (g:Fnc zMy zMz):Fun:=⟨264,zMy,zMz,0,g⟩
abbrev zl9:Ty:=(.pair (.sl zu) (.pair (.fn (.pair zu .unit) (.pair .bool .unit)) .unit))
abbrev zfr:Ty:=(.pair (.int .i64) .unit)
abbrev zxi:Type:=((List zo) × ((Option ((zo × Unit)→Option (Bool × Unit))) × Unit))→Option (Int × Unit)
abbrev zkw (g:Fnc zl9 zfr):Fun:=⟨265,zl9,zfr,0,g⟩
abbrev zPT:Ty:=(.pair (.int .i64) .unit)
abbrev zPU:Ty:=(.pair .bool .unit)
abbrev zPV:Type:=(Int × Unit)→Option (Bool × Unit)
abbrev zsA (g:Fnc zPT zPU):Fun:=⟨266,zPT,zPU,0,g⟩
abbrev zMA:Ty:=(.pair zj1 .unit)
abbrev zMB:Ty:=(.pair .bool .unit)
abbrev zWp:Type:=(zoE × Unit)→Option (Bool × Unit)
abbrev zHW (g:Fnc zMA zMB):Fun:=⟨267,zMA,zMB,0,g⟩
abbrev zHX:Ty:=(.pair zj1 .unit)
abbrev zHY:Ty:=(.pair .bool .unit)
abbrev zTC:Type:=(zoE × Unit)→Option (Bool × Unit)
abbrev zDR (g:Fnc zHX zHY):Fun:=⟨268,zHX,zHY,0,g⟩
abbrev zMC:Ty:=(.pair (.int .i64) (.pair (.int .u64) (.pair (.int .u64) .unit)))
abbrev zMD:Ty:=(.pair (.int .u64) (.pair (.int .i64) .unit))
abbrev zME:Type:=(Int × (Int × (Int × Unit)))→Option (Int × (Int × Unit))
abbrev zpE (g:Fnc zMC zMD):Fun:=⟨269,zMC,zMD,0,g⟩
abbrev zTD:Ty:=(.pair (.int .i64) .unit)
abbrev zTE:Ty:=(.pair .bool .unit)
abbrev z3N:Type:=(Int × Unit)→Option (Bool × Unit)
abbrev zPW (g:Fnc zTD zTE):Fun:=⟨270,zTD,zTE,0,g⟩
abbrev zPX:Ty:=(.pair (.int .i64) .unit)
abbrev zPY:Ty:=(.pair .bool .unit)
abbrev zY9:Type:=(Int × Unit)→Option (Bool × Unit)
abbrev zMF (g:Fnc zPX zPY):Fun:=⟨271,zPX,zPY,0,g⟩
abbrev zma:Ty:=(.pair (.sl zi) (.pair (.fn (.pair zi .unit) (.pair .bool .unit)) .unit))
abbrev zfs:Ty:=(.pair (.int .i64) .unit)
abbrev zxj:Type:=((List zj) × ((Option ((zj × Unit)→Option (Bool × Unit))) × Unit))→Option (Int × Unit)
abbrev zkx (g:Fnc zma zfs):Fun:=⟨272,zma,zfs,0,g⟩
abbrev zmb:Ty:=(.pair (.sl zl) (.pair (.fn (.pair zl .unit) (.pair .bool .unit)) .unit))
abbrev zft:Ty:=(.pair (.int .i64) .unit)
abbrev zxk:Type:=((List zy) × ((Option ((zy × Unit)→Option (Bool × Unit))) × Unit))→Option (Int × Unit)
abbrev zky (g:Fnc zmb zft):Fun:=⟨273,zmb,zft,0,g⟩
abbrev zpF:Ty:=(.pair (.sl zY) (.pair (.fn (.pair zY .unit) (.pair .bool .unit)) .unit))
abbrev zid:Ty:=(.pair (.int .i64) .unit)
abbrev zBI:Type:=((List jI) × ((Option ((jI × Unit)→Option (Bool × Unit))) × Unit))→Option (Int × Unit)
abbrev zoj (g:Fnc zpF zid):Fun:=⟨274,zpF,zid,0,g⟩
abbrev zAm:Ty:=(.pair (.sl (.int .i64)) (.pair (.int .i64) .unit))
abbrev zqI:Ty:=(.pair (.int .i64) .unit)
abbrev zOe:Type:=((List Int) × (Int × Unit))→Option (Int × Unit)
abbrev zxl (g:Fnc zAm zqI):Fun:=⟨275,zAm,zqI,0,g⟩
abbrev zxm:Ty:=(.pair (.int .i64) .unit)
abbrev zxn:Ty:=(.pair .bool .unit)
abbrev zKB:Type:=(Int × Unit)→Option (Bool × Unit)
abbrev zuV (g:Fnc zxm zxn):Fun:=⟨277,zxm,zxn,0,g⟩
abbrev zpG:Ty:=(.pair (.int .u64) .unit)
abbrev zpH:Ty:=(.pair .bool .unit)
abbrev zBJ:Type:=(Int × Unit)→Option (Bool × Unit)
abbrev zok (g:Fnc zpG zpH):Fun:=⟨278,zpG,zpH,0,g⟩
abbrev zHZ:Ty:=(.pair (.int .u8) (.pair (.ptr (.fn (.pair (.int .u8) .unit) (.pair .bool .unit))) .unit))
abbrev zH0:Ty:=(.pair .bool .unit)
abbrev zTF:Type:=(Int × ((Option (Option ((Int × Unit)→Option (Bool × Unit)))) × Unit))→Option (Bool × Unit)
abbrev zDS (g:Fnc zHZ zH0):Fun:=⟨279,zHZ,zH0,0,g⟩
abbrev zjy:Ty:=(.pair (.sl (.int .u8)) (.pair (.fn (.pair (.int .u8) .unit) (.pair .bool .unit)) .unit))
abbrev zjz:Ty:=(.pair .bool .unit)
abbrev zsB:Type:=((List Int) × ((Option ((Int × Unit)→Option (Bool × Unit))) × Unit))→Option (Bool × Unit)
abbrev zhm (g:Fnc zjy zjz):Fun:=⟨280,zjy,zjz,0,g⟩
abbrev zDT:Ty:=(.pair (.int .u64) (.pair (.int .u64) .unit))
abbrev zDU:Ty:=(.pair (.int .u64) (.pair (.int .i64) .unit))
abbrev zRm:Type:=(Int × (Int × Unit))→Option (Int × (Int × Unit))
abbrev zAn (g:Fnc zDT zDU):Fun:=⟨281,zDT,zDU,0,g⟩
abbrev zPZ:Ty:=(.pair (.int .i64) .unit)
abbrev zP0:Ty:=(.pair .bool .unit)
abbrev zZa:Type:=(Int × Unit)→Option (Bool × Unit)
abbrev zMG (g:Fnc zPZ zP0):Fun:=⟨282,zPZ,zP0,0,g⟩
abbrev zTG:Ty:=(.pair (.int .i64) .unit)
abbrev zTH:Ty:=(.pair .bool .unit)
abbrev z3O:Type:=(Int × Unit)→Option (Bool × Unit)
abbrev zP1 (g:Fnc zTG zTH):Fun:=⟨283,zTG,zTH,0,g⟩
abbrev zH1:Ty:=(.pair (.int .u8) .unit)
abbrev zH2:Ty:=(.pair .bool .unit)
abbrev zTI:Type:=(Int × Unit)→Option (Bool × Unit)
abbrev zDV (g:Fnc zH1 zH2):Fun:=⟨284,zH1,zH2,0,g⟩
abbrev zAo:Ty:=(.pair .str (.pair .str .unit))
abbrev zAp:Ty:=(.pair .str .unit)
abbrev zOf:Type:=(ByteArray × (ByteArray × Unit))→Option (ByteArray × Unit)
abbrev zxo (g:Fnc zAo zAp):Fun:=⟨285,zAo,zAp,0,g⟩
abbrev zH3:Ty:=(.pair (.int .u64) (.pair (.int .u64) .unit))
abbrev zH4:Ty:=(.pair (.int .u64) (.pair (.int .i64) .unit))
abbrev zTJ:Type:=(Int × (Int × Unit))→Option (Int × (Int × Unit))
abbrev zDW (g:Fnc zH3 zH4):Fun:=⟨286,zH3,zH4,0,g⟩
abbrev zol:Ty:=(.pair (.sl (.int .u8)) (.pair (.fn (.pair (.int .u8) .unit) (.pair .bool .unit)) .unit))
abbrev zg4:Ty:=(.pair (.int .i64) .unit)
abbrev zyJ:Type:=((List Int) × ((Option ((Int × Unit)→Option (Bool × Unit))) × Unit))→Option (Int × Unit)
abbrev zmc (g:Fnc zol zg4):Fun:=⟨289,zol,zg4,0,g⟩
abbrev zjA:Ty:=(.pair .str (.pair (.int .u8) .unit))
abbrev zdJ:Ty:=(.pair .str .unit)
abbrev zsC:Type:=(ByteArray × (Int × Unit))→Option (ByteArray × Unit)
abbrev zhn (g:Fnc zjA zdJ):Fun:=⟨290,zjA,zdJ,0,g⟩
abbrev zho:Ty:=(.pair .str (.pair (.int .u8) .unit))
abbrev zcV:Ty:=(.pair .str .unit)
abbrev zre:Type:=(ByteArray × (Int × Unit))→Option (ByteArray × Unit)
abbrev zgd (g:Fnc zho zcV):Fun:=⟨291,zho,zcV,0,g⟩
abbrev zr9:Ty:=(.pair (.int .u64) (.pair (.int .u64) .unit))
abbrev zsa:Ty:=(.pair (.int .u64) (.pair (.int .u64) .unit))
abbrev zE6:Type:=(Int × (Int × Unit))→Option (Int × (Int × Unit))
abbrev zpI (g:Fnc zr9 zsa):Fun:=⟨297,zr9,zsa,0,g⟩
def ext:List (Nat × Bool):=[(124,false),(199,true)]
def E0:Env:=⟨types,[],glob,0,false,ext,[]⟩
theorem mixed:Tryz.prog.follows .mixedOrders = true:=by kernel_rfl
theorem mkS {l:List Fun} {d:Bool} {F:Fun} {f:Go.Func} {K:Nat} (hl:Sds Tryz.prog E0 l) (hf:Tryz.prog.funcs[F.id]? = some f) (ho:z1y f = true) (h:evF (En E0 d l) K f F.md F.a F.r = F.spec):Sd Tryz.prog E0 F:=Sd.mk mixed hl hf ho h
theorem qga {l:List Fun} {d:Bool} {js:List Nat} {F:Fun} {f:Go.Func} {K:Nat} (hl:Sds Tryz.prog E0 l) (hf:Tryz.prog.funcs[F.id]? = some f) (ho:z1y f = true) (h:evF (Ej E0 d js l) K f F.md F.a F.r = F.spec):Sd Tryz.prog E0 F:=Sd.mkJ mixed hl hf ho h
end Go.Proofs.YtaokpakfhdeiiaaGreatDoor
end
section
namespace Go.Proofs.YtaokpakfhdeiiaaGreatDoor
open Go.Ev Go.RowKit Go.Shelf Go.Proofs
attribute [local go_sem] Oper.semAt_some
def zak (c:Nat):List Nat:=(List.range 64).filter c.testBit
theorem zTK (p q:Nat→Bool) (k:Nat) (hp:∀ i,i < k→p i = false ∧ q i = false) (hk:p k = true ∧ q k = false) (hq:∀ i,k < i→p i = q i):∀ n,(List.range n).filter p = (if k < n then [k] else []) ++ (List.range n).filter q
  | 0=>rfl
  | n + 1=>by
    rw [List.range_succ,List.filter_append,List.filter_append,zTK p q k hp hk hq n]
    by_cases h1:k < n
    · rw [if_pos h1,if_pos (by omega),List.append_assoc]
      have:=hq n h1
      simp [List.filter_cons,this]
    · by_cases h2:k = n
      · subst h2
        rw [if_neg h1,if_pos (by omega)]
        have e:(List.range k).filter q = []:=by
          rw [List.filter_eq_nil_iff]
          intro i hi
          rw [(hp i (by simpa using hi)).2]; simp
        simp [hk.1,hk.2,e]
      · rw [if_neg h1,if_neg (by omega)]
        have:=hp n (by omega)
        simp [this.1,this.2]
theorem zH5 {k m i:Nat}:(2 ^ k * (2 * m + 1)).testBit i = (decide (k ≤ i) && (decide (i = k) || (2 ^ k * (2 * m)).testBit i)) ∧ ((2 ^ k * (2 * m)).testBit i = true→k < i):=by
  rw [Nat.mul_comm (2 ^ k),Nat.mul_comm (2 ^ k),Nat.testBit_mul_two_pow,Nat.testBit_mul_two_pow]
  by_cases h:k ≤ i
  · by_cases e:i = k
    · subst e
      simp [Nat.testBit_zero]
    · obtain ⟨j,rfl⟩:∃ j,i = k + (j + 1):=⟨i - k - 1,by omega⟩
      rw [show k + (j + 1) - k = j + 1 by omega,Nat.testBit_succ,Nat.testBit_succ,show (2 * m + 1) / 2 = m by omega,show 2 * m / 2 = m by omega]
      simp
  · simp [h]
theorem qep {k m:Nat}:(2 ^ k * (2 * m + 1)) &&& (2 ^ k * (2 * m + 1) - 1) = 2 ^ k * (2 * m):=by
  have e:2 ^ k * (2 * m + 1) - 1 = 2 ^ k * (2 * m) + (2 ^ k - 1):=by
    have:=Nat.two_pow_pos k
    rw [Nat.mul_add,Nat.mul_one]; omega
  apply Nat.eq_of_testBit_eq
  intro i
  rw [Nat.testBit_and,e,Nat.testBit_two_pow_mul_add _ (by have:=Nat.two_pow_pos k; omega)]
  have:=@zH5 k m i
  rw [this.1]
  by_cases h:i < k
  · have h2:(2 ^ k * (2 * m)).testBit i = false:=by
      cases hb:(2 ^ k * (2 * m)).testBit i with
      | false=>rfl
      | true=>have:=this.2 hb; omega
    simp [h2,h]
    omega
  · have h3:(2 ^ k * (2 * m)).testBit i = (2 * m).testBit (i - k):=by
      rw [Nat.mul_comm,Nat.testBit_mul_two_pow]; simp; omega
    rw [if_neg h,h3]
    by_cases e:i = k
    · subst e; simp [Nat.testBit_zero]
    · simp [e]; omega
theorem qdp {c:Nat} (h0:c ≠ 0) (h:c < 18446744073709551616):zak c = Lib.ctz 64 c :: zak (c &&& (c - 1)):=by
  obtain ⟨m,hm,hk⟩:=Lib.ctzFrom_spec 64 c (by omega) h
  have e:Lib.ctz 64 c = Lib.ctzFrom 64 c:=by simp [Lib.ctz,h0]
  rw [e]
  generalize Lib.ctzFrom 64 c = k at hm hk
  subst hm
  rw [qep]
  unfold zak
  have hlow:∀ i,i ≤ k→(2 ^ k * (2 * m)).testBit i = false:=by
    intro i hi
    cases hb:(2 ^ k * (2 * m)).testBit i with
    | false=>rfl
    | true=>have:=zH5.2 hb; omega
  rw [zTK (2 ^ k * (2 * m + 1)).testBit (2 ^ k * (2 * m)).testBit k (fun i hi=>⟨by rw [zH5.1]; simp; omega,hlow i (by omega)⟩) ⟨by rw [zH5.1]; simp,hlow k (Nat.le_refl _)⟩ (fun i hi=>by rw [zH5.1]; simp [show k ≤ i by omega,show i ≠ k by omega]) 64,if_pos hk]
  rfl
theorem qdq:zak 0 = []:=by
  unfold zak
  rw [List.filter_eq_nil_iff]
  intro i _
  simp
theorem z62 (c:Nat):(zak c).length ≤ 64:=by
  unfold zak
  have:=List.length_filter_le c.testBit (List.range 64)
  simpa using this
theorem qfJ {c:Nat} (h0:c ≠ 0):c &&& (c - 1) < c:=by
  have:=@Nat.and_le_right c (c - 1)
  omega
def TabAt (w:World):Prop:=∀ j,j < Lib.deBruijn64tab.length→w.cell? ⟨0,j,none⟩ = some (.int .u8 (Lib.deBruijn64tab.getD j 0))
theorem qfK (x a:Nat) (hx:x < 18446744073709551616) (hx0:x ≠ 0) (hlow:x &&& (18446744073709551616 - x) = a) :
    IntKind.u64.wrap (bits BinOp.and IntKind.u64 (x:Int) (IntKind.u64.wrap (-(x:Int))) * 285870213051353865) / 288230376151711744 = ((a * 285870213051353865 % 18446744073709551616 / 288230376151711744:Nat):Int):=by
  have e1:IntKind.u64.wrap (-(x:Int)) = ((18446744073709551616 - x:Nat):Int):=by rw [IntKind.wrap_u64]; omega
  rw [e1,bits_and_u64_nat x _ hx (by omega),hlow,IntKind.wrap_u64]
  omega
set_option maxRecDepth 100000 in
set_option maxHeartbeats 1000000 in
theorem qe9 (n:Nat) (x k idx:Nat) (w:World) (hx1:((x:Int) == 0) = false)
    (key:IntKind.u64.wrap (bits BinOp.and IntKind.u64 (x:Int) (IntKind.u64.wrap (-(x:Int))) * 285870213051353865) / 288230376151711744 = (idx:Int))
    (hi:idx < 64) (hk:k < 64) (hcell:w.cell? ⟨0,idx,none⟩ = some (.int .u8 k)) :
    CallsIn Fence.wide n Tryz.prog 288 #[.int .u64 x] w fun e w'=>e = .returned (.int .i64 k) ∧ w' = w:=by
  refine callsIn_of_wp Tryz.func288 rfl trivial ?_ rfl
  simp only [show Tryz.f288.ntmps = 14 by kernel_rfl,List.size_toArray,List.length_cons,List.length_nil,Nat.reduceAdd,Nat.reduceSub,Array.replicate_succ,Array.replicate_zero,List.push_toArray,List.append_toArray,List.nil_append,List.cons_append]
  gi_wp2_with (simp only [key])
  go_ret
  exact ⟨rfl,rfl⟩
theorem qf0 (n:Nat) (x:Nat) (hx:x < 18446744073709551616) (hx0:x ≠ 0) (w:World) (hT:TabAt w) :
    CallsIn Fence.wide n Tryz.prog 288 #[.int .u64 x] w fun e w'=>e = .returned (.int .i64 (Lib.ctz 64 x)) ∧ w' = w:=by
  obtain ⟨hlow,hk⟩:=Lib.lowest_bit 64 x hx0 hx
  obtain ⟨hi,htab⟩:=Lib.deBruijn64_at _ hk
  have hcell:=hT _ hi
  rw [htab] at hcell
  exact qe9 n x _ _ w (by simp; omega) (qfK x _ hx hx0 hlow) hi hk hcell
theorem z63 {x:Nat} (hx:x < 18446744073709551616):IntKind.u64.wrap (x:Int) = (x:Int):=by rw [IntKind.wrap_u64]; omega
theorem qeq (c:Nat) (h0:c ≠ 0) (h:c < 18446744073709551616):bits BinOp.and IntKind.u64 (c:Int) (IntKind.u64.wrap ((c:Int) - 1)) = ((c &&& (c - 1):Nat):Int):=by
  rw [show ((c:Int) - 1) = ((c - 1:Nat):Int) by omega,z63 (by omega),bits_and_u64_nat c _ h (by omega)]
def qeV (v:Value):Nat:=match v with | .int _ n=>n.toNat | _=>0
set_option maxRecDepth 100000 in
set_option maxHeartbeats 1000000 in
theorem qfa (n:Nat) (l Bn n₀:Nat) (lev:Int) (c0:Nat) (h64:c0 < 18446744073709551616) (hn₀:1 ≤ n₀) (J Jx:List Nat→World→Prop)
    (hY:∀ pre x W,J pre W→pre.length < (zak c0).length→YieldAt Fence.wide (n - 1) Tryz.prog l #[.int .i64 (x:Nat)] W fun e W' =>
      (e = .returned (.bool true) ∧ J (pre ++ [x]) W' ∧ Below n₀ W W') ∨ (e = .returned (.bool false) ∧ Jx (pre ++ [x]) W'))
    (W:World) (hBn:W.cell? ⟨Bn,0,none⟩ = some (.int .i64 lev)) (hBn1:W.cell? ⟨Bn,1,none⟩ = some (.int .u64 c0)) (hT:TabAt W) (h0:J [] W) :
    CallsIn Fence.wide n Tryz.prog 287 #[.func (.yield l) #[] #[],.pointer (some ⟨Bn,0,none⟩)] W fun e W'=>(∃ v,e = .returned v) ∧
      ((∃ ys,ys = zak c0 ∧ J ys W') ∨ (∃ pre,pre <+: zak c0 ∧ Jx pre W')):=by
  refine callsIn_of_wp Tryz.func287 rfl trivial ?_ rfl
  simp only [show Tryz.f287.ntmps = 17 by kernel_rfl,List.size_toArray,List.length_cons,List.length_nil,Nat.reduceAdd,Nat.reduceSub,Array.replicate_succ,Array.replicate_zero,List.push_toArray,List.append_toArray,List.nil_append,List.cons_append]
  gi_wp2
  gi_loopw [3] (fun p wr=>∃ (pre:List Nat) (c:Nat),p = .int .u64 c ∧ c < 18446744073709551616 ∧ zak c0 = pre ++ zak c ∧ TabAt wr ∧ J pre wr)
    (fun p wr=>qeV p)
  case atStart =>
    exact ⟨[],c0,rfl,h64,rfl,hT,h0⟩
  case round =>
    obtain ⟨pre,c,rfl,hc,hx,hTr,hJs⟩:=hrel
    by_cases hz:c = 0
    · subst hz
      gi_wp2
      go_end0
      exact ⟨⟨_,rfl⟩,.inl ⟨pre,by rw [hx,qdq,List.append_nil],hJs⟩⟩
    · have hx':=hx
      rw [qdp hz hc] at hx'
      obtain ⟨fn,tmps,assign,body,hy,hR⟩:=hY pre (Lib.ctz 64 c) wr hJs (by rw [hx']; simp)
      have hz1:((c:Int) == 0) = false:=by simp; omega
      gi_wp2
      refine ⟨trivial,fun h=>(by cases h),(qf0 (n - 1) c hc hz wr hTr).mono ?_⟩
      rintro e w' ⟨rfl,hw'⟩
      subst hw'
      gi_wp2
      refine ⟨fun h=>(by cases h),hR.mono ?_⟩
      rintro e W3 (⟨rfl,hJ3,hk3⟩ | ⟨rfl,hJx3⟩)
      · have hT3:TabAt W3:=fun j hj=>(hk3.cell (p:=⟨0,j,none⟩) (Nat.lt_of_lt_of_le Nat.zero_lt_one hn₀)).trans (hTr j hj)
        have hk:bits BinOp.and IntKind.u64 (c:Int) ((c:Int) - 1) = ((c &&& (c - 1):Nat):Int):=by rw [← qeq c hz hc,IntKind.wrap_u64]; congr 1; omega
        gi_wp2
        go_roundw
        case rel=>exact ⟨pre ++ [Lib.ctz 64 c],c &&& (c - 1),rfl,Nat.lt_of_le_of_lt Nat.and_le_left hc,by rw [hx',List.append_assoc]; rfl,hT3,hJ3⟩
        case measure=>simp [qeV]; exact qfJ hz
      · gi_wp2
        refine bodyPost_ret (results_none rfl _ _ _) rfl ?_
        exact ⟨⟨_,rfl⟩,.inr ⟨pre ++ [Lib.ctz 64 c],⟨zak (c &&& (c - 1)),by rw [hx',List.append_assoc]; rfl⟩,hJx3⟩⟩
set_option maxHeartbeats 1000000 in
theorem qer (n:Nat) (lev:Int) (c:Nat) (w:World) :
    CallsIn Fence.wide n Tryz.prog 276 #[.agg #[.int .i64 lev,.int .u64 c]] w fun e w'=>e = .returned (.func (.func 287) #[] #[.pointer (some ⟨w.heap.size,0,none⟩)]) ∧ w' = w.alloc (.cells #[.int .i64 lev,.int .u64 c] 131):=by
  refine callsIn_of_wp Tryz.func276 rfl trivial ?_ rfl
  simp only [show Tryz.f276.ntmps = 4 by kernel_rfl,List.size_toArray,List.length_cons,List.length_nil,Nat.reduceAdd,Nat.reduceSub,Array.replicate_succ,Array.replicate_zero,List.push_toArray,List.append_toArray,List.nil_append,List.cons_append]
  gi_wp2
  go_ret
  exact ⟨rfl,rfl⟩
theorem qbW (n:Nat) (Bn n₀:Nat) (lev:Int) (c0:Nat) (h64:c0 < 18446744073709551616) (w:World) (hBn:Bn < w.heap.size) (hn₀:1 ≤ n₀) (hn1:n₀ ≤ w.heap.size)
    (hc:w.cell? ⟨Bn,0,none⟩ = some (.int .i64 lev)) (hc1:w.cell? ⟨Bn,1,none⟩ = some (.int .u64 c0)) (hT:TabAt w) :
    SeqStopsK Fence.wide n Tryz.prog 287 #[.pointer (some ⟨Bn,0,none⟩)] (fun x:Nat=>#[Value.int .i64 x]) (Below n₀) (fun ys=>ys = zak c0) (fun pre=>pre <+: zak c0) (zak c0).length w:=fun l J Jx W hW _ _ hY h0 =>
  qfa n l Bn n₀ lev c0 h64 hn₀ J Jx hY W ((hW.cell (p:=⟨Bn,0,none⟩) hBn).trans hc) ((hW.cell (p:=⟨Bn,1,none⟩) hBn).trans hc1) (fun j hj=>(hW.cell (p:=⟨0,j,none⟩) (show 0 < _ by omega)).trans (hT j hj)) h0
theorem qf1:(Tryz.prog.info? 3).map (fun i=>(i.zero,i.size,i.bytes)) = some (some (.int .i64 0),1,8):=by kernel_rfl
theorem qf2:Tryz.prog.underlying 23 = some (.slice 3):=by kernel_rfl
set_option maxRecDepth 100000 in
set_option maxHeartbeats 2000000 in
theorem qfb (n:Nat) (hn:1 ≤ n) (lev:Int) (c:Nat) (h64:c < 18446744073709551616) (w:World) (hs:1 ≤ w.heap.size) (hT:TabAt w) :
    CallsIn Fence.wide n Tryz.prog 232 #[.agg #[.int .i64 lev,.int .u64 c]] w fun e W'=>∃ v,e = .returned v ∧ W'.ownsRow w.heap.size 3 1 v (zak c).length ((zak c).map fun x=>Value.int .i64 (x:Nat)) ∧ Below w.heap.size w W':=by
  obtain ⟨i0,hi,hz0,hz1,hz2⟩:=info_parts qf1
  refine callsIn_of_wp_marks Tryz.func232 rfl trivial ?_ rfl
  simp only [show Tryz.f232.ntmps = 13 by kernel_rfl,List.size_toArray,List.length_cons,List.length_nil,Nat.reduceAdd,Nat.reduceSub,Array.replicate_succ,Array.replicate_zero,List.push_toArray,List.append_toArray,List.nil_append,List.cons_append]
  gi_wp2
  refine ⟨trivial,(qer (n - 1) lev c _).mono ?_⟩
  rintro e w' ⟨rfl,rfl⟩
  gi_wp2
  have bO:Boxed (((w.alloc (.cells #[.int .i64 lev,.int .u64 c] 131)).alloc (.cells #[.slice none 0 0] 23)).alloc (.cells #[.int .i64 lev,.int .u64 c] 131)) (w.heap.size + 1) 23 (.slice none 0 0):=by
    have:=Boxed.new (w.alloc (.cells #[.int .i64 lev,.int .u64 c] 131)) 23 (.slice none 0 0)
    rw [World.size_alloc] at this
    exact this.alloc _
  have hB0:Below w.heap.size w (((w.alloc (.cells #[.int .i64 lev,.int .u64 c] 131)).alloc (.cells #[.slice none 0 0] 23)).alloc (.cells #[.int .i64 lev,.int .u64 c] 131)):=(((Below.refl _ w).alloc (Nat.le_refl _) _).alloc (by simp) _).alloc (by simp; omega) _
  have hz:(((w.alloc (.cells #[.int .i64 lev,.int .u64 c] 131)).alloc (.cells #[.slice none 0 0] 23)).alloc (.cells #[.int .i64 lev,.int .u64 c] 131)).heap.size = w.heap.size + 1 + 1 + 1:=by simp
  have hbx:(((w.alloc (.cells #[.int .i64 lev,.int .u64 c] 131)).alloc (.cells #[.slice none 0 0] 23)).alloc (.cells #[.int .i64 lev,.int .u64 c] 131)).heap[w.heap.size + 1 + 1]? = some (.cells #[.int .i64 lev,.int .u64 c] 131 (0,0)):=by
    have:=World.alloc_heap_new ((w.alloc (.cells #[.int .i64 lev,.int .u64 c] 131)).alloc (.cells #[.slice none 0 0] 23)) (.cells #[.int .i64 lev,.int .u64 c] 131)
    simpa [World.size_alloc] using this
  have hT1:TabAt (((w.alloc (.cells #[.int .i64 lev,.int .u64 c] 131)).alloc (.cells #[.slice none 0 0] 23)).alloc (.cells #[.int .i64 lev,.int .u64 c] 131)):=fun j hj=>(hB0.cell (p:=⟨0,j,none⟩) (Nat.lt_of_lt_of_le Nat.zero_lt_one hs)).trans (hT j hj)
  generalize (((w.alloc (.cells #[.int .i64 lev,.int .u64 c] 131)).alloc (.cells #[.slice none 0 0] 23)).alloc (.cells #[.int .i64 lev,.int .u64 c] 131)) = w1 at bO hB0 hz hbx hT1
  refine wpIn_rangeFunc_ownG rfl (n:=n) hn (gf:=287) (lb:=#[.pointer (some ⟨w.heap.size + 1 + 1,0,none⟩)]) rfl trivial (enters_of Tryz.func287 (by kernel_rfl) rfl)
    (qbW (n - 1) (w.heap.size + 1 + 1) w.heap.size lev c h64 w1 (by omega) hs (by omega) (by simp [World.cell?,hbx]) (by simp [World.cell?,hbx]) hT1) belowK_t (belowK_b (by omega)) (Below.refl _ _) (fun _=>rfl)
    (fun pre W=>(∃ v,Boxed W (w.heap.size + 1) 23 v ∧ W.ownsRow w.heap.size 3 1 v pre.length (pre.map fun x=>Value.int .i64 (x:Nat)) ∧ True) ∧ Below w.heap.size w W)
    (fun _ _ _=>False)
    (OwnFrom.and (Own.from (holdsRow_own w.heap.size (w.heap.size + 1) 23 3 1 (fun pre:List Nat=>pre.length) (fun pre:List Nat=>pre.map fun x=>Value.int .i64 (x:Nat)) (fun _ _=>True)) _) (ownFrom_below (Nat.le_refl _) (by omega)))
    (fun _ _ _ _ _ hs _ _=>hs)
    ⟨⟨_,bO,World.ownsRow_nil _ _ _ _,trivial⟩,hB0⟩
    (fun x=>{ tmps:=#[.agg #[.int .i64 lev,.int .u64 c],.pointer (some ⟨w.heap.size,0,none⟩),.slice none 0 0,.pointer (some ⟨w.heap.size + 1,0,none⟩),.int .i64 (x:Nat),.agg #[.int .i64 lev,.int .u64 c],.func (.func 287) #[] #[.pointer (some ⟨w.heap.size + 1 + 1,0,none⟩)],.int .i64 (x:Nat),undef,undef,undef,undef,undef],defers:=[] }) ?assign ?body ?done ?stop
  case assign =>
    intro l x W K hK
    gi_wp2
    exact hK
  case body =>
    rintro l pre x W ⟨⟨v,hv,hrow,-⟩,hB⟩ hlt
    have hc:=hv.cell
    have hl64:=z62 c
    gi_wp2_with (gi_at_builtin; refine wpListIn_append_own _ rfl _ _ 23 rfl w.heap.size 3 i0 (.int .i64 0) 1 8 qf2 hi hz0 hz1 hz2 rfl (by decide) _ _ _ rfl (hrow.alloc _) ⟨W.heap.size,0,none⟩ 1 1 [.int .i64 (x:Nat)] rfl rfl (cell_one_new _ _ _) (by simp [Value.oneCell']) (by simp only [Go.maxLen]; omega) (by omega) (by have:=hB.size; simp; omega) ?_; intro v' w1' hown' hgrow _; obtain ⟨g',cap',rfl⟩:=ownsRow_succ hown'; obtain ⟨hv1,hv2,hr2,hk2,hb2⟩:=hv.appended (by decide) hrow hB.size (by omega) hown' hgrow; have hc1:=hv1.cell; have hf1:=hv1.frozen)
    exact ⟨hk2.from _,hb2,⟨_,hv2,by simpa using hr2,trivial⟩,hB.trans hb2⟩
  case done =>
    rintro D ys W hD rfl ⟨⟨v,hv,hrow,-⟩,hB⟩ hK
    have hc:=hv.cell
    gi_wp2
    refine ⟨by simp,.inl ⟨_,_,rfl,run_takeDeferred hK,?_⟩⟩
    exact ⟨_,results_tmp rfl _ _ _,v,rfl,ownsRow_putObj hrow _ hK rfl,hB.trans (belowK_b (w:=w) (Nat.le_refl _) W D _ _ (by omega) hK rfl rfl)⟩
  case stop =>
    rintro D c pre W _ _ h _
    exact h.elim
def zge:zTx:=fun x=>bif decide (0 ≤ x.1.2.1 ∧ x.1.2.1 < 18446744073709551616) then some ((zak x.1.2.1.toNat).map Int.ofNat,()) else none
theorem qes {G F0:FH} {w:World} (hE:qv Tryz.prog G E0) (hG:G.le F0) (hk:F0.ok w):TabAt w ∧ 1 ≤ w.heap.size:=by
  obtain ⟨τ,x,cs,h1,⟨-,c,h2,h3⟩,h4⟩:=hE.glob 0 _ rfl
  cases h1
  obtain ⟨-,hr⟩:=h4
  obtain ⟨el,fz,hw⟩:=hk _ _ (hG _ _ h2)
  have hlt:=(Array.getElem?_eq_some_iff.1 hw).1
  refine ⟨fun j hj=>?_,hlt⟩
  have key:∀ (l:List Int) (cs:List Value) (j:Nat),zN ((RR Tryz.prog (.int .u8)).1 G) l cs→j < l.length→cs[j]? = some (.int .u8 (l.getD j 0)):=by
    intro l
    induction l with
    | nil=>intro cs j _ h; simp at h
    | cons x l ih =>
      rintro cs j ⟨d,e,rfl,hd,he⟩ hj
      have hd:d = [.int .u8 x]:=hd
      subst hd
      cases j with
      | zero=>rfl
      | succ j=>simpa using ih e j he (by simpa using hj)
  have h5:=key _ _ j hr (by simpa [Lib.deBruijn64tab] using hj)
  have h6:=h3 j _ h5
  have e:∀ j,j < 64→((([0,1,56,2,57,49,28,3,61,58,42,50,38,29,17,4,62,47,59,36,45,43,51,22,53,39,33,30,24,18,12,5,63,55,48,27,60,41,37,16,46,35,44,21,52,32,23,11,54,26,40,15,34,20,31,10,25,14,19,9,13,8,7,6]:List Int)).getD j 0) = ((Lib.deBruijn64tab.getD j 0:Nat):Int):=by decide +kernel
  rw [e j (by simpa [Lib.deBruijn64tab] using hj)] at h6
  unfold World.cell?
  simp only [hw]
  simpa using h6
theorem z3P (P:Program) (F:FH):∀ l:List Nat,zN (Rep P F (.int .i64)) (l.map Int.ofNat) (l.map fun x=>Value.int .i64 (x:Nat))
  | []=>rfl
  | x :: l=>⟨[.int .i64 (x:Nat)],l.map fun x=>Value.int .i64 (x:Nat),rfl,rfl,z3P P F l⟩
theorem z64:Sd Tryz.prog E0 (zDM zge):=by
  intro G hE
  refine ⟨⟨Tryz.f232,Tryz.func232,by kernel_rfl,by kernel_rfl⟩,?_⟩
  rintro ⟨⟨(lev:Int),(comps:Int),⟨⟩⟩,⟨⟩⟩ y hy F0 w vs hG hk ⟨v,r,rfl,h1,h2,h3⟩
  obtain ⟨hd,hy⟩:=zf hy
  cases hy
  obtain ⟨hc0,hc1⟩:=of_decide_eq_true hd
  have hc0:0 ≤ comps:=hc0
  have hc1:comps < 18446744073709551616:=hc1
  clear hd
  obtain rfl:r = []:=h3
  obtain ⟨hT,hs⟩:=qes hE hG hk
  obtain ⟨c,rfl⟩:=Int.eq_ofNat_of_zero_le hc0
  have hv:v = .agg #[.int .i64 lev,.int .u64 c]:=by
    obtain ⟨d1,e1,k1,(rfl:d1 = _),d2,e2,rfl,(rfl:d2 = _),(rfl:e2 = _)⟩:=h1
    have h2:zmJ v = true:=h2
    cases v with
    | agg cs =>
      have:cs.toList = [.int .i64 lev,.int .u64 c]:=k1
      rw [← Array.toArray_toList (xs:=cs),this]
    | _=>cases h2
  subst hv
  have hin:=callsIn_wide.1 (qfb 1 (Nat.le_refl _) lev c (by omega) w hs hT)
  refine hin.mono ?_
  rintro e W' ⟨v,rfl,hrow,hB⟩
  have hlow:∀ k c',F0 k = some c'→k < w.heap.size:=fun k c' hk'=>by
    obtain ⟨el,fz,hw⟩:=hk _ _ hk'
    exact (Array.getElem?_eq_some_iff.1 hw).1
  let F':FH:=fun k=>if k < w.heap.size then F0 k else FH.of W' k
  have hF':∀ k c',F' k = some c'→∃ el fz,W'.heap[k]? = some (.cells c' el fz):=by
    intro k c' h
    simp only [F'] at h
    split at h
    · rename_i hlt
      obtain ⟨el,fz,hw⟩:=hk _ _ h
      exact ⟨el,fz,(hB.block k hlt).trans hw⟩
    · exact FH.of_ok W' _ _ h
  refine ⟨[v],F',rfl,hB,⟨fun k c' hk'=>?_,fun k hk'=>?_⟩,hF',?_⟩
  · simp only [F']; rw [if_pos (hlow k c' hk')]; exact hk'
  · simp only [F']; rw [if_pos hk']
  · show zah Tryz.prog F' (.pair (.sl tI) .unit) ((zak c).map Int.ofNat,()) [v]
    have hlen:List.length ((zak c).map Int.ofNat) = (zak c).length:=List.length_map ..
    have hr:=z3P Tryz.prog F' (zak c)
    generalize (zak c).map Int.ofNat = L at hlen hr ⊢
    rcases hrow.2 with ⟨rfl,h0⟩ | ⟨g,cap,cur,rfl,hgb,hw,hnc,-,-,htake⟩
    · obtain rfl:L = []:=List.eq_nil_of_length_eq_zero (by omega)
      exact ⟨_,[],rfl,⟨none,0,rfl,Nat.le_refl _,fun hne=>absurd rfl hne⟩,rfl,rfl⟩
    · refine ⟨_,[],rfl,⟨some ⟨g,0,none⟩,cap,?_,(show List.length L ≤ cap by omega),fun _=>⟨_,_,rfl,⟨rfl,cur,?_,fun j u hj=>?_⟩,hr⟩⟩,rfl,rfl⟩
      · show _ = [Value.slice _ (List.length L) cap]
        rw [hlen]; rfl
      · show (if g < w.heap.size then F0 g else FH.of W' g) = some cur
        rw [if_neg (by omega)]
        simp only [FH.of,hw]
      · rw [← htake] at hj
        have:=List.getElem?_eq_some_iff.1 hj
        obtain ⟨h1,h2⟩:=this
        rw [List.getElem_take] at h2
        show cur[0 + j]? = _
        rw [Nat.zero_add,← Array.getElem?_toList,List.getElem?_eq_getElem (by rw [List.length_take] at h1; omega),h2]
end Go.Proofs.YtaokpakfhdeiiaaGreatDoor
end
section
namespace Go.Proofs.YtaokpakfhdeiiaaGreatDoor
open Go.Ev
noncomputable section
section
def zRn:Unit→Option (zd × Unit):=fun () =>
  some (([(0,0,()),(0,1,()),(1,1,())],[0,1,2],[(ByteArray.mk #[97,110,110],ByteArray.mk #[97],1,true,()),(ByteArray.mk #[98,111,98],ByteArray.mk #[98],0,false,())],[(0,0,())],[(2,2,2,2,2,1000,()),(2,2,2,2,2,1000,()),(2,2,2,2,2,1000,())],4,6,2,3,()),())
theorem z32 (K:Nat):evF (En E0 false []) K Tryz.f64 0 zCG zCH = zRn:=funext fun ()=>by kernel_rfl
end
def zhA:zQX:=zRn
theorem z33:Sd Tryz.prog E0 (zzz zhA):=mkS (l:=[]) trivial Tryz.func64 (by kernel_rfl) (z32 K0)
section
def zDX:(zz × Unit)→Option (Bool × Unit):=fun (x0,()) =>
  bif decide (x0.1 ≥ 0) then bif decide (x0.1 < 4) then some (true,()) else some (false,()) else some (false,())
theorem z34 (K:Nat):evF (En E0 false []) K Tryz.f170 0 zDu zDv = zDX:=funext fun (x0,())=>by kernel_rfl
end
def zhB:zRi:=zDX
theorem z35:Sd Tryz.prog E0 (zz4 zhB):=mkS (l:=[]) trivial Tryz.func170 (by kernel_rfl) (z34 K0)
section
variable (zDY:zRi)
def zuW:(zz × Unit)→Option (Bool × Unit):=fun (x0,()) =>
  Option.bind (zDY (x0,())) fun q0=>bif q0.1 then some (false,()) else some (true,())
theorem zWT (K:Nat):evF (En E0 false [zz4 zDY]) K Tryz.f169 0 zuB zuC = zuW zDY:=funext fun (x0,())=>by kernel_rfl
end
def zdg:zG8:=zuW zhB
theorem zWU:Sd Tryz.prog E0 (zrT zdg):=mkS (l:=[zz4 zhB]) ⟨z35,trivial⟩ Tryz.func169 (by kernel_rfl) (zWT zhB K0)
section
def zAq:(Int × (Int × (Int × Unit)))→Option (Bool × Unit):=fun (x0,x1,x2,()) =>
  bif decide (x0 ≥ x1) then bif decide (x0 ≤ x2) then some (true,()) else some (false,()) else some (false,())
theorem z1z (K:Nat):evF (En E0 false []) K Tryz.f171 0 zz5 zz6 = zAq:=funext fun (x0,x1,x2,())=>by kernel_rfl
end
def zU:yF:=zAq
theorem zal:Sd Tryz.prog E0 (qH zU):=mkS (l:=[]) trivial Tryz.func171 (by kernel_rfl) (z1z K0)
section
abbrev zxp:Env:=(En E0 false [])
abbrev zaX:Type:=(List zz) × (Option ((zz × Unit)→Option (Bool × Unit))) × Int × Int
abbrev zMH:zaX→St:=fun (v0,v1,v7,v8)=>St.mk [(0,AV.dat (Ty.sl zw) v0),(1,AV.dat (Ty.fn (Ty.pair zw Ty.unit) (Ty.pair Ty.bool Ty.unit)) v1),(7,AV.dat tI v7),(8,AV.dat tI v8)] []
def zjB (k0:zaX→Option (Int × Unit)):zaX→Option (Int × Unit):=fun (v0,v1,v7,v8) =>
  bif decide (v8 < v7) then inR v8 ((List.length v0):Int) (Option.bind v1 fun q0=>Option.bind (q0 (ix qm v0 v8,())) fun q1=>bif q1.1 then some (v8,()) else k0 (v0,v1,v7,wI (v8 + 1))) else some ((-1),())
abbrev zsD (K:Nat):zaX→Option (Int × Unit):=iter (zjB) K
theorem zMI (K:Nat):∀ n,evV (zxp) K Tryz.f233 0 zfp [1,0,1,0] [] zMH n = iter (zjB) n:=zm fun n0 (v0,v1,v7,v8)=>by kernel_rfl
def zmd (L0:zaX→Option (Int × Unit)):((List zz) × ((Option ((zz × Unit)→Option (Bool × Unit))) × Unit))→Option (Int × Unit):=fun (x0,x1,()) =>
  L0 (x0,x1,((List.length x0):Int),0)
theorem zP2 (K:Nat):evF (zxp) K Tryz.f233 0 zl0 zfp = zmd (zsD K):=tr1 (T:=zmd) (zMI K K) fun (x0,x1,())=>by kernel_rfl
end
def zam:zxa:=zmd (zsD K0)
theorem zP3:Sd Tryz.prog E0 (zku zam):=mkS (l:=[]) trivial Tryz.func233 (by kernel_rfl) (zP2 K0)
section
variable (zme:zxa)
def zrf:((List zz) × ((Option ((zz × Unit)→Option (Bool × Unit))) × Unit))→Option (Bool × Unit):=fun (x0,x1,()) =>
  Option.bind (zme (x0,x1,())) fun q0=>bif decide (q0.1 ≥ 0) then some (true,()) else some (false,())
theorem zJO (K:Nat):evF (En E0 false [zku zme]) K Tryz.f172 0 zg7 zg8 = zrf zme:=funext fun (x0,x1,())=>by kernel_rfl
end
def jH:zg9:=zrf zam
theorem zrg:Sd Tryz.prog E0 (yY jH):=mkS (l:=[zku zam]) ⟨zP3,trivial⟩ Tryz.func172 (by kernel_rfl) (zJO zam K0)
section
def zxq:(Int × Unit)→Option (Bool × Unit):=fun (x0,()) =>
  bif x0 != x0 then some (true,()) else some (false,())
theorem zZb (K:Nat):evF (En E0 false []) K Tryz.f277 0 zxm zxn = zxq:=funext fun (x0,())=>by kernel_rfl
end
def zef:zKB:=zxq
theorem zZc:Sd Tryz.prog E0 (zuV zef):=mkS (l:=[]) trivial Tryz.func277 (by kernel_rfl) (zZb K0)
section
variable (zie:zKB)
def zsb:(Int × (Int × Unit))→Option (Int × Unit):=fun (x0,x1,()) =>
  Option.bind (zie (x0,())) fun q0=>bif q0.1 then Option.bind (zie (x1,())) fun q1=>bif q1.1 then some (0,()) else some ((-1),()) else Option.bind (zie (x1,())) fun q2=>bif q2.1 then some (1,()) else bif decide (x0 < x1) then some ((-1),()) else bif decide (x0 > x1) then some (1,()) else some (0,())
theorem zVb (K:Nat):evF (En E0 false [zuV zie]) K Tryz.f235 0 zr4 zr5 = zsb zie:=funext fun (x0,x1,())=>by kernel_rfl
end
def vX:zr6:=zsb zef
theorem zE7:Sd Tryz.prog E0 (zdX vX):=mkS (l:=[zuV zef]) ⟨zZc,trivial⟩ Tryz.func235 (by kernel_rfl) (zVb zef K0)
section
def zpJ:(Int × Unit)→Option (Bool × Unit):=fun (x0,()) =>
  bif x0 != x0 then some (true,()) else some (false,())
theorem zTL (K:Nat):evF (En E0 false []) K Tryz.f278 0 zpG zpH = zpJ:=funext fun (x0,())=>by kernel_rfl
end
def zbB:zBJ:=zpJ
theorem zTM:Sd Tryz.prog E0 (zok zbB):=mkS (l:=[]) trivial Tryz.func278 (by kernel_rfl) (zTL K0)
section
variable (zdY:zBJ)
def zmf:(Int × (Int × Unit))→Option (Int × Unit):=fun (x0,x1,()) =>
  Option.bind (zdY (x0,())) fun q0=>bif q0.1 then Option.bind (zdY (x1,())) fun q1=>bif q1.1 then some (0,()) else some ((-1),()) else Option.bind (zdY (x1,())) fun q2=>bif q2.1 then some (1,()) else bif decide (x0 < x1) then some ((-1),()) else bif decide (x0 > x1) then some (1,()) else some (0,())
theorem zP4 (K:Nat):evF (En E0 false [zok zdY]) K Tryz.f236 0 zl1 zl2 = zmf zdY:=funext fun (x0,x1,())=>by kernel_rfl
end
def vc:zl3:=zmf zbB
theorem zxr:Sd Tryz.prog E0 (zbA vc):=mkS (l:=[zok zbB]) ⟨zTM,trivial⟩ Tryz.func236 (by kernel_rfl) (zP4 zbB K0)
section
abbrev zTN:Env:=(En E0 false [])
abbrev zkz:Type:=Int × (List Int) × Int × Int
abbrev z1A:zkz→St:=fun (v3,v6,v7,v8)=>St.mk [(3,AV.dat tI v3),(6,AV.dat (Ty.sl tI) v6),(7,AV.dat tI v7),(8,AV.dat tI v8)] []
def yh (k0:zkz→Option (Int × Unit)):zkz→Option (Int × Unit):=fun (v3,v6,v7,v8) =>
  bif decide (v8 < v7) then inR v8 ((List.length v6):Int) (bif ix (0:Int) v6 v8 != v3 then some (ix (0:Int) v6 v8,()) else k0 (v3,v6,v7,wI (v8 + 1))) else some (v3,())
abbrev zOg (K:Nat):zkz→Option (Int × Unit):=iter (yh) K
theorem z1B (K:Nat):∀ n,evV (zTN) K Tryz.f234 0 zxb [1,1,0,1,0] [] z1A n = iter (yh) n:=zm fun n0 (v3,v6,v7,v8)=>by kernel_rfl
def zH6 (L0:zkz→Option (Int × Unit)):((List Int) × Unit)→Option (Int × Unit):=fun (x0,()) =>
  L0 (0,x0,((List.length x0):Int),0)
theorem z65 (K:Nat):evF (zTN) K Tryz.f234 0 zHy zxb = zH6 (zOg K):=tr1 (T:=zH6) (z1B K K) fun (x0,())=>by kernel_rfl
end
def zaY:zHz:=zH6 (zOg K0)
theorem zTO:Sd Tryz.prog E0 (zmO zaY):=mkS (l:=[]) trivial Tryz.func234 (by kernel_rfl) (z65 K0)
section
variable (zaA:zr6) (yr:zl3) (zgf:zHz)
def zMJ:(zz × (zz × Unit))→Option (Int × Unit):=fun (x0,x1,()) =>
  Option.bind (zaA (x0.1,x1.1,())) fun q0=>Option.bind (yr (x0.2.1,x1.2.1,())) fun q1=>Option.bind (zgf (zk (zk (List.replicate 2 (0:Int)) 0 q0.1) 1 q1.1,())) fun q2=>some (q2.1,())
theorem z9p (K:Nat):evF (En E0 false [zdX zaA,zbA yr,zmO zgf]) K Tryz.f173 0 zL5 zL6 = zMJ zaA yr zgf:=funext fun (x0,x1,())=>by kernel_rfl
end
def zjC:zWa:=zMJ vX vc zaY
theorem z9q:Sd Tryz.prog E0 (zG9 zjC):=mkS (l:=[zdX vX,zbA vc,zmO zaY]) ⟨zE7,zxr,zTO,trivial⟩ Tryz.func173 (by kernel_rfl) (z9p vX vc zaY K0)
section
variable (zbq:zG8) (zx:yF) (qa:zg9) (zfB:zWa)
abbrev zOh:Env:=(En E0 false [zrT zbq,qH zx,yY qa,zG9 zfB])
abbrev zgg:Type:=Int × zd
abbrev zWV:zgg→St:=fun (v4,o0)=>St.mk [(1,AV.bp 0 []),(4,AV.dat tI v4)] [Obj.bx (AV.dat zC o0) false]
def zmg (k0:zgg→Option (Bool × Unit)):zgg→Option (Bool × Unit):=fun (v4,o0) =>
  bif decide (v4 < ((List.length o0.1):Int)) then inR (wI (v4 - 1)) ((List.length o0.1):Int) (inR v4 ((List.length o0.1):Int) (Option.bind (zfB (List.getD o0.1 (Int.toNat (wI (v4 - 1))) (zb zw),ix qm o0.1 v4,())) fun q2=>bif decide (q2.1 ≥ 0) then some (false,()) else k0 (wI (v4 + 1),o0))) else some (true,())
abbrev zuX (K:Nat):zgg→Option (Bool × Unit):=iter (zmg zfB) K
theorem zWW (K:Nat):∀ n,evV (zOh zbq zx qa zfB) K Tryz.f84 0 zqD [1,1,1,0,1,0] [] zWV n = iter (zmg zfB) n:=zm fun n0 (v4,o0)=>by kernel_rfl
def zqJ (L0:zgg→Option (Bool × Unit)):(zd × Unit)→Option (Bool × Unit):=fun (x0,()) =>
  Option.bind (zx (((List.length x0.1):Int),1,8,())) fun q0=>bif q0.1 then bif decide (0 < ((List.length x0.1):Int)) then bif !eqI zw (ix qm x0.1 0) (zb zw) then some (false,()) else Option.bind (qa (x0.1,some zbq,())) fun q1=>bif q1.1 then some (false,()) else L0 (1,x0) else none else some (false,())
theorem z1C (K:Nat):evF (zOh zbq zx qa zfB) K Tryz.f84 0 zzG zqD = zqJ zbq zx qa (zuX zfB K):=tr1 (T:=zqJ zbq zx qa) (zWW zbq zx qa zfB K K) fun (x0,())=>by kernel_rfl
end
def zan:zN3:=zqJ zdg zU jH (zuX zjC K0)
theorem z1D:Sd Tryz.prog E0 (zwo zan):=mkS (l:=[zrT zdg,qH zU,yY jH,zG9 zjC]) ⟨zWU,zal,zrg,z9q,trivial⟩ Tryz.func84 (by kernel_rfl) (z1C zdg zU jH zjC K0)
section
variable (zx:yF)
def zxs:(Int × ((Option zd) × Unit))→Option (Bool × Unit):=fun (x0,x1,()) =>
  Option.bind x1 fun q0=>Option.bind (zx (x0,0,wI (((List.length q0.1):Int) - 1),())) fun q1=>bif q1.1 then some (false,()) else some (true,())
theorem zZd (K:Nat):evF (En E0 false [qH zx]) K Tryz.f174 0 zwW zwX = zxs zx:=funext fun (x0,x1,())=>by kernel_rfl
end
def zcd:zKw:=zxs zU
theorem zZe:Sd Tryz.prog E0 (zuD zcd):=mkS (l:=[qH zU]) ⟨zal,trivial⟩ Tryz.func174 (by kernel_rfl) (zZd zU K0)
section
abbrev zBK:Env:=(En E0 false [])
abbrev zce:Type:=(List Int) × (Option ((Int × Unit)→Option (Bool × Unit))) × Int × Int
abbrev zP5:zce→St:=fun (v0,v1,v7,v8)=>St.mk [(0,AV.dat (Ty.sl tI) v0),(1,AV.dat (Ty.fn (Ty.pair tI Ty.unit) (Ty.pair Ty.bool Ty.unit)) v1),(7,AV.dat tI v7),(8,AV.dat tI v8)] []
def zmh (k0:zce→Option (Int × Unit)):zce→Option (Int × Unit):=fun (v0,v1,v7,v8) =>
  bif decide (v8 < v7) then inR v8 ((List.length v0):Int) (Option.bind v1 fun q0=>Option.bind (q0 (ix (0:Int) v0 v8,())) fun q1=>bif q1.1 then some (v8,()) else k0 (v0,v1,v7,wI (v8 + 1))) else some ((-1),())
abbrev zxt (K:Nat):zce→Option (Int × Unit):=iter (zmh) K
theorem zP6 (K:Nat):∀ n,evV (zBK) K Tryz.f230 0 zic [1,0,1,0] [] zP5 n = iter (zmh) n:=zm fun n0 (v0,v1,v7,v8)=>by kernel_rfl
def zpK (L0:zce→Option (Int × Unit)):((List Int) × ((Option ((Int × Unit)→Option (Bool × Unit))) × Unit))→Option (Int × Unit):=fun (x0,x1,()) =>
  L0 (x0,x1,((List.length x0):Int),0)
theorem zTP (K:Nat):evF (zBK) K Tryz.f230 0 zpA zic = zpK (zxt K):=tr1 (T:=zpK) (zP6 K K) fun (x0,x1,())=>by kernel_rfl
end
def zbC:zBG:=zpK (zxt K0)
theorem zTQ:Sd Tryz.prog E0 (zoc zbC):=mkS (l:=[]) trivial Tryz.func230 (by kernel_rfl) (zTP K0)
section
variable (zpL:zBG)
def zvy:((List Int) × ((Option ((Int × Unit)→Option (Bool × Unit))) × Unit))→Option (Bool × Unit):=fun (x0,x1,()) =>
  Option.bind (zpL (x0,x1,())) fun q0=>bif decide (q0.1 ≥ 0) then some (true,()) else some (false,())
theorem zOi (K:Nat):evF (En E0 false [zoc zpL]) K Tryz.f160 0 zkp zkq = zvy zpL:=funext fun (x0,x1,())=>by kernel_rfl
end
def zQ:yU:=zvy zbC
theorem zbD:Sd Tryz.prog E0 (qW zQ):=mkS (l:=[zoc zbC]) ⟨zTQ,trivial⟩ Tryz.func160 (by kernel_rfl) (zOi zbC K0)
section
variable (zxu:zKw) (zx:yF) (zB:yU)
def zDZ:(zd × Unit)→Option (Bool × Unit):=fun (x0,()) =>
  Option.bind (zx (((List.length x0.2.1):Int),1,8,())) fun q0=>bif q0.1 then Option.bind (zB (x0.2.1,some fun z=>zxu (z.1,some x0,()),())) fun q1=>bif q1.1 then some (false,()) else some (true,()) else some (false,())
theorem z36 (K:Nat):evF (En E0 false [zuD zxu,qH zx,qW zB]) K Tryz.f85 0 zCK zCL = zDZ zxu zx zB:=funext fun (x0,())=>by kernel_rfl
end
def zbl:zQZ:=zDZ zcd zU zQ
theorem z37:Sd Tryz.prog E0 (zzH zbl):=mkS (l:=[zuD zcd,qH zU,qW zQ]) ⟨zZe,zal,zbD,trivial⟩ Tryz.func85 (by kernel_rfl) (z36 zcd zU zQ K0)
section
def zH7:(Int × Unit)→Option (Bool × Unit):=fun (x0,()) =>
  bif decide (x0 ≥ 97) then bif decide (x0 ≤ 122) then some (true,()) else some (false,()) else some (false,())
theorem z66 (K:Nat):evF (En E0 false []) K Tryz.f237 0 zHA zHB = zH7:=funext fun (x0,())=>by kernel_rfl
end
def zcf:zHC:=zH7
theorem zTR:Sd Tryz.prog E0 (zmP zcf):=mkS (l:=[]) trivial Tryz.func237 (by kernel_rfl) (z66 K0)
section
def zTS:(Int × ((Option (Option ((Int × Unit)→Option (Bool × Unit)))) × Unit))→Option (Bool × Unit):=fun (x0,x1,()) =>
  Option.bind x1 fun q0=>Option.bind q0 fun q1=>Option.bind (q1 (x0,())) fun q2=>bif q2.1 then some (false,()) else some (true,())
theorem z67 (K:Nat):evF (En E0 false []) K Tryz.f279 0 zHZ zH0 = zTS:=funext fun (x0,x1,())=>by kernel_rfl
end
def zkA:zTF:=zTS
theorem z68:Sd Tryz.prog E0 (zDS zkA):=mkS (l:=[]) trivial Tryz.func279 (by kernel_rfl) (z67 K0)
section
abbrev zyK:Env:=(En E0 false [])
abbrev zbE:Type:=(List Int) × (Option ((Int × Unit)→Option (Bool × Unit))) × Int × Int
abbrev zOj:zbE→St:=fun (v0,v1,v7,v8)=>St.mk [(0,AV.dat (Ty.sl (Ty.int IntKind.u8)) v0),(1,AV.dat (Ty.fn (Ty.pair (Ty.int IntKind.u8) Ty.unit) (Ty.pair Ty.bool Ty.unit)) v1),(7,AV.dat tI v7),(8,AV.dat tI v8)] []
def zkB (k0:zbE→Option (Int × Unit)):zbE→Option (Int × Unit):=fun (v0,v1,v7,v8) =>
  bif decide (v8 < v7) then inR v8 ((List.length v0):Int) (Option.bind v1 fun q0=>Option.bind (q0 (ix (zb (Ty.int IntKind.u8)) v0 v8,())) fun q1=>bif q1.1 then some (v8,()) else k0 (v0,v1,v7,wI (v8 + 1))) else some ((-1),())
abbrev zvz (K:Nat):zbE→Option (Int × Unit):=iter (zkB) K
theorem zOk (K:Nat):∀ n,evV (zyK) K Tryz.f289 0 zg4 [1,0,1,0] [] zOj n = iter (zkB) n:=zm fun n0 (v0,v1,v7,v8)=>by kernel_rfl
def zom (L0:zbE→Option (Int × Unit)):((List Int) × ((Option ((Int × Unit)→Option (Bool × Unit))) × Unit))→Option (Int × Unit):=fun (x0,x1,()) =>
  L0 (x0,x1,((List.length x0):Int),0)
theorem zSa (K:Nat):evF (zyK) K Tryz.f289 0 zol zg4 = zom (zvz K):=tr1 (T:=zom) (zOk K K) fun (x0,x1,())=>by kernel_rfl
end
def zaL:zyJ:=zom (zvz K0)
theorem zSb:Sd Tryz.prog E0 (zmc zaL):=mkS (l:=[]) trivial Tryz.func289 (by kernel_rfl) (zSa K0)
section
variable (zon:zyJ)
def zsE:((List Int) × ((Option ((Int × Unit)→Option (Bool × Unit))) × Unit))→Option (Bool × Unit):=fun (x0,x1,()) =>
  Option.bind (zon (x0,x1,())) fun q0=>bif decide (q0.1 ≥ 0) then some (true,()) else some (false,())
theorem zMK (K:Nat):evF (En E0 false [zmc zon]) K Tryz.f280 0 zjy zjz = zsE zon:=funext fun (x0,x1,())=>by kernel_rfl
end
def vL:zsB:=zsE zaL
theorem zML:Sd Tryz.prog E0 (zhm vL):=mkS (l:=[zmc zaL]) ⟨zSb,trivial⟩ Tryz.func280 (by kernel_rfl) (zMK zaL K0)
section
variable (zH8:zTF) (zjD:zsB)
def zZf:(ByteArray × ((Option ((Int × Unit)→Option (Bool × Unit))) × Unit))→Option (Bool × Unit):=fun (x0,x1,()) =>
  Option.bind (zjD (List.map (fun b=>(↑(UInt8.toNat b):Int)) (Array.toList (ByteArray.data x0)),some fun z=>zH8 (z.1,some x1,()),())) fun q0=>bif q0.1 then some (false,()) else some (true,())
theorem qbX (K:Nat):evF (En E0 false [zDS zH8,zhm zjD]) K Tryz.f238 0 zPO zPP = zZf zH8 zjD:=funext fun (x0,x1,())=>by kernel_rfl
end
def zif:zPQ:=zZf zkA vL
theorem zZg:Sd Tryz.prog E0 (zsy zif):=mkS (l:=[zDS zkA,zhm vL]) ⟨z68,zML,trivial⟩ Tryz.func238 (by kernel_rfl) (qbX zkA vL K0)
section
def zH9:(Int × Unit)→Option (Bool × Unit):=fun (x0,()) =>
  bif decide (x0 ≥ 48) then bif decide (x0 ≤ 57) then some (true,()) else some (false,()) else some (false,())
theorem z69 (K:Nat):evF (En E0 false []) K Tryz.f240 0 zHD zHE = zH9:=funext fun (x0,())=>by kernel_rfl
end
def zkC:zTy:=zH9
theorem z7a:Sd Tryz.prog E0 (zDN zkC):=mkS (l:=[]) trivial Tryz.func240 (by kernel_rfl) (z69 K0)
section
variable (zgh:zHC) (zIa:zTy)
def zAr:(Int × Unit)→Option (Bool × Unit):=fun (x0,()) =>
  Option.bind (zgh (x0,())) fun q0=>bif q0.1 then some (true,()) else Option.bind (zIa (x0,())) fun q1=>bif q1.1 then some (true,()) else some (false,())
theorem z1E (K:Nat):evF (En E0 false [zmP zgh,zDN zIa]) K Tryz.f239 0 zAg zAh = zAr zgh zIa:=funext fun (x0,())=>by kernel_rfl
end
def zfJ:zOb:=zAr zcf zkC
theorem z1F:Sd Tryz.prog E0 (zxc zfJ):=mkS (l:=[zmP zcf,zDN zkC]) ⟨zTR,z7a,trivial⟩ Tryz.func239 (by kernel_rfl) (z1E zcf zkC K0)
section
variable (zgh:zHC) (zmi:zPQ) (zAs:zOb)
def zIb:(ByteArray × Unit)→Option (Bool × Unit):=fun (x0,()) =>
  bif decide ((↑(ByteArray.size x0):Int) < 1) then some (false,()) else bif decide ((↑(ByteArray.size x0):Int) > 12) then some (false,()) else bif decide (0 < (↑(ByteArray.size x0):Int)) then Option.bind (zgh ((↑(UInt8.toNat (List.getD (Array.toList (ByteArray.data x0)) (Int.toNat 0) 0)):Int),())) fun q0=>bif q0.1 then Option.bind (zmi (x0,some zAs,())) fun q1=>bif q1.1 then some (true,()) else some (false,()) else some (false,()) else none
theorem z7b (K:Nat):evF (En E0 false [zmP zgh,zsy zmi,zxc zAs]) K Tryz.f176 0 zHa zHb = zIb zgh zmi zAs:=funext fun (x0,())=>by kernel_rfl
end
def yx:zwY:=zIb zcf zif zfJ
theorem zIc:Sd Tryz.prog E0 (zeI yx):=mkS (l:=[zmP zcf,zsy zif,zxc zfJ]) ⟨zTR,zZg,z1F,trivial⟩ Tryz.func176 (by kernel_rfl) (z7b zcf zif zfJ K0)
section
variable (yy:zwY) (zx:yF)
def zpM:(jw × Unit)→Option (Bool × Unit):=fun (x0,()) =>
  Option.bind (yy (x0.1,())) fun q0=>bif q0.1 then Option.bind (yy (x0.2.1,())) fun q1=>bif q1.1 then Option.bind (zx (x0.2.2.1,0,3,())) fun q2=>bif q2.1 then some (false,()) else some (true,()) else some (true,()) else some (true,())
theorem zTT (K:Nat):evF (En E0 false [zeI yy,qH zx]) K Tryz.f175 0 zpo zpp = zpM yy zx:=funext fun (x0,())=>by kernel_rfl
end
def zbF:zBC:=zpM yx zU
theorem zTU:Sd Tryz.prog E0 (znY zbF):=mkS (l:=[zeI yx,qH zU]) ⟨zIc,zal,trivial⟩ Tryz.func175 (by kernel_rfl) (zTT yx zU K0)
section
abbrev zsF:Env:=(En E0 false [])
abbrev y0:Type:=(List jw) × (Option ((jw × Unit)→Option (Bool × Unit))) × Int × Int
abbrev zId:y0→St:=fun (v0,v1,v7,v8)=>St.mk [(0,AV.dat (Ty.sl vb) v0),(1,AV.dat (Ty.fn (Ty.pair vb Ty.unit) (Ty.pair Ty.bool Ty.unit)) v1),(7,AV.dat tI v7),(8,AV.dat tI v8)] []
def zgi (k0:y0→Option (Int × Unit)):y0→Option (Int × Unit):=fun (v0,v1,v7,v8) =>
  bif decide (v8 < v7) then inR v8 ((List.length v0):Int) (Option.bind v1 fun q0=>Option.bind (q0 (ix jG v0 v8,())) fun q1=>bif q1.1 then some (v8,()) else k0 (v0,v1,v7,wI (v8 + 1))) else some ((-1),())
abbrev zpN (K:Nat):y0→Option (Int × Unit):=iter (zgi) K
theorem zIe (K:Nat):∀ n,evV (zsF) K Tryz.f241 0 zdI [1,0,1,0] [] zId n = iter (zgi) n:=zm fun n0 (v0,v1,v7,v8)=>by kernel_rfl
def zjE (L0:y0→Option (Int × Unit)):((List jw) × ((Option ((jw × Unit)→Option (Bool × Unit))) × Unit))→Option (Int × Unit):=fun (x0,x1,()) =>
  L0 (x0,x1,((List.length x0):Int),0)
theorem zMM (K:Nat):evF (zsF) K Tryz.f241 0 zjx zdI = zjE (zpN K):=tr1 (T:=zjE) (zIe K K) fun (x0,x1,())=>by kernel_rfl
end
def yG:zsz:=zjE (zpN K0)
theorem zMN:Sd Tryz.prog E0 (zhl yG):=mkS (l:=[]) trivial Tryz.func241 (by kernel_rfl) (zMM K0)
section
variable (zjF:zsz)
def zoL:((List jw) × ((Option ((jw × Unit)→Option (Bool × Unit))) × Unit))→Option (Bool × Unit):=fun (x0,x1,()) =>
  Option.bind (zjF (x0,x1,())) fun q0=>bif decide (q0.1 ≥ 0) then some (true,()) else some (false,())
theorem zFy (K:Nat):evF (En E0 false [zhl zjF]) K Tryz.f177 0 zfn zfo = zoL zjF:=funext fun (x0,x1,())=>by kernel_rfl
end
def yO:zoK:=zoL yG
theorem zFz:Sd Tryz.prog E0 (zeJ yO):=mkS (l:=[zhl yG]) ⟨zMN,trivial⟩ Tryz.func177 (by kernel_rfl) (zFy yG K0)
section
abbrev zE8:Env:=(En E0 false [])
abbrev zcY:Type:=(List jw) × Int × Int × List ByteArray
abbrev zSc:zcY→St:=fun (v7,v8,v9,o0)=>St.mk [(3,AV.ow 0),(7,AV.dat (Ty.sl vb) v7),(8,AV.dat tI v8),(9,AV.dat tI v9)] [Obj.row Ty.str o0 false]
def zcZ (k0:zcY→Option ((List ByteArray) × Unit)):zcY→Option ((List ByteArray) × Unit):=fun (v7,v8,v9,o0) =>
  bif decide (v9 < v8) then inR v9 ((List.length v7):Int) (bif decide (List.length o0 + List.length (zk (List.replicate 1 (zb Ty.str)) 0 (ix jG v7 v9).1) ≤ lim) then k0 (v7,v8,wI (v9 + 1),o0 ++ zk (List.replicate 1 (zb Ty.str)) 0 (ix jG v7 v9).1) else none) else some (o0,())
abbrev zyL (K:Nat):zcY→Option ((List ByteArray) × Unit):=iter (zcZ) K
theorem zSd (K:Nat):∀ n,evV (zE8) K Tryz.f179 0 zj5 [1,1,0,1,0] [] zSc n = iter (zcZ) n:=zm fun n0 (v7,v8,v9,o0)=>by kernel_rfl
def zsc (L0:zcY→Option ((List ByteArray) × Unit)):(zd × Unit)→Option ((List ByteArray) × Unit):=fun (x0,()) =>
  L0 (x0.2.2.1,((List.length x0.2.2.1):Int),0,[])
theorem zVc (K:Nat):evF (zE8) K Tryz.f179 0 zrU zj5 = zsc (zyL K):=tr1 (T:=zsc) (zSd K K) fun (x0,())=>by kernel_rfl
end
def ze3:zE1:=zsc (zyL K0)
theorem zVd:Sd Tryz.prog E0 (zpq ze3):=mkS (l:=[]) trivial Tryz.func179 (by kernel_rfl) (zVc K0)
section
abbrev zTV:Env:=(En E0 false [])
abbrev zkD:Type:=(List ByteArray) × (List ByteArray) × Int × Int × List (ByteArray × Int)
abbrev z1G:zkD→St:=fun (v0,v7,v8,v9,o0)=>St.mk [(0,AV.dat (Ty.sl Ty.str) v0),(3,AV.om 0),(7,AV.dat (Ty.sl Ty.str) v7),(8,AV.dat tI v8),(9,AV.dat tI v9)] [Obj.mp Ty.str tI o0]
def zkE (k0:zkD→Option (Bool × Unit)):zkD→Option (Bool × Unit):=fun (v0,v7,v8,v9,o0) =>
  bif decide (v9 < v8) then inR v9 ((List.length v7):Int) (k0 (v0,v7,v8,wI (v9 + 1),yW Ty.str o0 (List.getD v7 (Int.toNat v9) (zb Ty.str)) (wI (zfj Ty.str (0:Int) o0 (List.getD v7 (Int.toNat v9) (zb Ty.str)) + 1)))) else bif ((List.length o0):Int) == ((List.length v0):Int) then some (true,()) else some (false,())
abbrev zOl (K:Nat):zkD→Option (Bool × Unit):=iter (zkE) K
theorem z1H (K:Nat):∀ n,evV (zTV) K Tryz.f178 0 zwZ [1,1,0,1,0] [] z1G n = iter (zkE) n:=zm fun n0 (v0,v7,v8,v9,o0)=>by kernel_rfl
def zIf (L0:zkD→Option (Bool × Unit)):((List ByteArray) × Unit)→Option (Bool × Unit):=fun (x0,()) =>
  L0 (x0,x0,((List.length x0):Int),0,[])
theorem z7c (K:Nat):evF (zTV) K Tryz.f178 0 zHc zwZ = zIf (zOl K):=tr1 (T:=zIf) (z1H K K) fun (x0,())=>by kernel_rfl
end
def zpO:zTo:=zIf (zOl K0)
theorem z7d:Sd Tryz.prog E0 (zDw zpO):=mkS (l:=[]) trivial Tryz.func178 (by kernel_rfl) (z7c K0)
section
variable (zpP:zBC) (zx:yF) (zfu:zoK) (zsd:zE1) (zIg:zTo)
def zuY:(zd × Unit)→Option (Bool × Unit):=fun (x0,()) =>
  Option.bind (zx (((List.length x0.2.2.1):Int),1,8,())) fun q0=>bif q0.1 then Option.bind (zfu (x0.2.2.1,some zpP,())) fun q1=>bif q1.1 then some (false,()) else Option.bind (zsd (x0,())) fun q2=>Option.bind (zIg (q2.1,())) fun q3=>bif q3.1 then some (true,()) else some (false,()) else some (false,())
theorem zWX (K:Nat):evF (En E0 false [znY zpP,qH zx,zeJ zfu,zpq zsd,zDw zIg]) K Tryz.f86 0 ztZ zt0 = zuY zpP zx zfu zsd zIg:=funext fun (x0,())=>by kernel_rfl
end
def yt:zGx:=zuY zbF zU yO ze3 zpO
theorem zWY:Sd Tryz.prog E0 (zrw yt):=mkS (l:=[znY zbF,qH zU,zeJ yO,zpq ze3,zDw zpO]) ⟨zTU,zal,zFz,zVd,z7d,trivial⟩ Tryz.func86 (by kernel_rfl) (zWX zbF zU yO ze3 zpO K0)
section
def zIh:(Int × Unit)→Option (zz × (Int × Unit)):=fun (x0,()) =>
  bif decide (x0 < 0) then some ((0,0,()),1,()) else bif decide (x0 ≥ 64) then some ((0,0,()),1,()) else bif decide (x0 < 0) then none else some ((0,wU (1 * 2 ^ min (Int.toNat x0) (IntKind.bits IntKind.u64)),()),0,())
theorem z7e (K:Nat):evF (En E0 false []) K Tryz.f180 0 zHd zHe = zIh:=funext fun (x0,())=>by kernel_rfl
end
def zgj:zTp:=zIh
theorem z7f:Sd Tryz.prog E0 (zDx zgj):=mkS (l:=[]) trivial Tryz.func180 (by kernel_rfl) (z7e K0)
section
abbrev zIi:Env:=(En E0 false [])
abbrev zdZ:Type:=(List zz) × Int × Int × zz
abbrev zTW:zdZ→St:=fun (v0,v7,v8,o0)=>St.mk [(0,AV.dat (Ty.sl zw) v0),(3,AV.bp 0 []),(7,AV.dat tI v7),(8,AV.dat tI v8)] [Obj.bx (AV.dat zw o0) false]
def zd0 (k0:zdZ→Option (Int × Unit)):zdZ→Option (Int × Unit):=fun (v0,v7,v8,o0) =>
  bif decide (v8 < v7) then inR v8 ((List.length v0):Int) (bif eqI zw o0 (ix qm v0 v8) then some (v8,()) else k0 (v0,v7,wI (v8 + 1),o0)) else some ((-1),())
abbrev zBL (K:Nat):zdZ→Option (Int × Unit):=iter (zd0) K
theorem zTX (K:Nat):∀ n,evV (zIi) K Tryz.f242 0 zl4 [1,0,1,0] [] zTW n = iter (zd0) n:=zm fun n0 (v0,v7,v8,o0)=>by kernel_rfl
def zuZ (L0:zdZ→Option (Int × Unit)):((List zz) × (zz × Unit))→Option (Int × Unit):=fun (x0,x1,()) =>
  L0 (x0,((List.length x0):Int),0,x1)
theorem zWZ (K:Nat):evF (zIi) K Tryz.f242 0 zuO zl4 = zuZ (zBL K):=tr1 (T:=zuZ) (zTX K K) fun (x0,x1,())=>by kernel_rfl
end
def zgk:zHF:=zuZ (zBL K0)
theorem zW0:Sd Tryz.prog E0 (zr7 zgk):=mkS (l:=[]) trivial Tryz.func242 (by kernel_rfl) (zWZ K0)
section
variable (zu0:zHF)
def zoo:((List zz) × (zz × Unit))→Option (Bool × Unit):=fun (x0,x1,()) =>
  Option.bind (zu0 (x0,x1,())) fun q0=>bif decide (q0.1 ≥ 0) then some (true,()) else some (false,())
theorem zSe (K:Nat):evF (En E0 false [zr7 zu0]) K Tryz.f181 0 znZ zn0 = zoo zu0:=funext fun (x0,x1,())=>by kernel_rfl
end
def yL:zyB:=zoo zgk
theorem zSf:Sd Tryz.prog E0 (zlV yL):=mkS (l:=[zr7 zgk]) ⟨zW0,trivial⟩ Tryz.func181 (by kernel_rfl) (zSe zgk K0)
section
def zIj:(zz × ((Option Int) × Unit))→Option (Bool × Unit):=fun (x0,x1,()) =>
  Option.bind x1 fun q0=>bif wU (↑(BitVec.toNat (BitVec.ofInt (IntKind.bits IntKind.u64) x0.2.1 &&& ~~~BitVec.ofInt (IntKind.bits IntKind.u64) q0)):Int) != 0 then some (true,()) else some (false,())
theorem zW1 (K:Nat):evF (En E0 false []) K Tryz.f182 0 zuE zuF = zIj:=funext fun (x0,x1,())=>by kernel_rfl
end
def zdh:zHf:=zIj
theorem zW2:Sd Tryz.prog E0 (zrV zdh):=mkS (l:=[]) trivial Tryz.func182 (by kernel_rfl) (zW1 K0)
section
variable (zd1:zTp) (zx:yF) (vV:zyB) (y3:zHf) (qa:zg9)
abbrev zOm:Env:=(En E0 false [zDx zd1,qH zx,zlV vV,zrV y3,yY qa])
abbrev zgl:Type:=Int × (List qe) × Int × Int × zd × Int
abbrev zW3:zgl→St:=fun (v4,v11,v12,v13,o0,o1)=>St.mk [(1,AV.bp 0 []),(3,AV.bp 1 []),(4,AV.dat tI v4),(11,AV.dat (Ty.sl jJ) v11),(12,AV.dat tI v12),(13,AV.dat tI v13)] [Obj.bx (AV.dat zC o0) false,Obj.bx (AV.dat tU o1) false]
def zgm (k0:zgl→Option (Bool × Unit)):zgl→Option (Bool × Unit):=fun (v4,v11,v12,v13,o0,o1) =>
  bif decide (v13 < v12) then inR v13 ((List.length v11):Int) (Option.bind (zd1 ((ix qj v11 v13).1,())) fun q0=>bif q0.2.1 != 0 then some (false,()) else bif decide ((ix qj v11 v13).1 ≤ v4) then some (false,()) else Option.bind (zx ((ix qj v11 v13).2.1,0,wI (((List.length o0.2.2.1):Int) - 1),())) fun q1=>bif q1.1 then Option.bind (vV (o0.1,q0.1,())) fun q2=>bif q2.1 then k0 ((ix qj v11 v13).1,v11,v12,wI (v13 + 1),o0,wU (↑(BitVec.toNat (BitVec.ofInt (IntKind.bits IntKind.u64) o1 ||| BitVec.ofInt (IntKind.bits IntKind.u64) q0.1.2.1)):Int)) else some (false,()) else some (false,())) else bif decide (((List.length o0.2.2.2.1):Int) ≤ 8) then Option.bind (qa (o0.1,some fun z=>y3 (z.1,some o1,()),())) fun q3=>bif q3.1 then some (false,()) else some (true,()) else some (false,())
abbrev zIk (K:Nat):zgl→Option (Bool × Unit):=iter (zgm zd1 zx vV y3 qa) K
theorem zW4 (K:Nat):∀ n,evV (zOm zd1 zx vV y3 qa) K Tryz.f87 0 zqE [1,1,1,0,1,0] [] zW3 n = iter (zgm zd1 zx vV y3 qa) n:=zm fun n0 (v4,v11,v12,v13,o0,o1)=>by kernel_rfl
def zAt (L0:zgl→Option (Bool × Unit)):(zd × Unit)→Option (Bool × Unit):=fun (x0,()) =>
  L0 ((-1),x0.2.2.2.1,((List.length x0.2.2.2.1):Int),0,x0,0)
theorem z1I (K:Nat):evF (zOm zd1 zx vV y3 qa) K Tryz.f87 0 zzI zqE = zAt (zIk zd1 zx vV y3 qa K):=tr1 (T:=zAt) (zW4 zd1 zx vV y3 qa K K) fun (x0,())=>by kernel_rfl
end
def zao:zN4:=zAt (zIk zgj zU yL zdh jH K0)
theorem z1J:Sd Tryz.prog E0 (zwp zao):=mkS (l:=[zDx zgj,qH zU,zlV yL,zrV zdh,yY jH]) ⟨z7f,zal,zSf,zW2,zrg,trivial⟩ Tryz.func87 (by kernel_rfl) (z1I zgj zU yL zdh jH K0)
section
variable (zx:yF)
def zu1:(Int × Unit)→Option (Bool × Unit):=fun (x0,()) =>
  Option.bind (zx (x0,0,12,())) fun q0=>bif q0.1 then some (false,()) else some (true,())
theorem zW5 (K:Nat):evF (En E0 false [qH zx]) K Tryz.f183 0 zuG zuH = zu1 zx:=funext fun (x0,())=>by kernel_rfl
end
def zbr:zHg:=zu1 zU
theorem zW6:Sd Tryz.prog E0 (zrW zbr):=mkS (l:=[qH zU]) ⟨zal,trivial⟩ Tryz.func183 (by kernel_rfl) (zW5 zU K0)
section
def zKC:(vU × Unit)→Option ((List Int) × Unit):=fun (x0,()) =>
  some ([x0.1,x0.2.1,x0.2.2.1,x0.2.2.2.1,x0.2.2.2.2.1],())
theorem zZh (K:Nat):evF (En E0 false []) K Tryz.f184 0 zw0 zw1 = zKC:=funext fun (x0,())=>by kernel_rfl
end
def zeg:zKx:=zKC
theorem zZi:Sd Tryz.prog E0 (zuI zeg):=mkS (l:=[]) trivial Tryz.func184 (by kernel_rfl) (zZh K0)
section
variable (y4:zHg) (zaF:zKx) (zB:yU)
abbrev zOn:Env:=(En E0 false [zrW y4,zuI zaF,qW zB])
abbrev zgn:Type:=Int × (List vU) × Int × Int
abbrev zW7:zgn→St:=fun (v3,v23,v24,v25)=>St.mk [(3,AV.dat tU v3),(23,AV.dat (Ty.sl zaW) v23),(24,AV.dat tI v24),(25,AV.dat tI v25)] []
def zmj (k0:zgn→Option (Bool × Unit)):zgn→Option (Bool × Unit):=fun (v3,v23,v24,v25) =>
  bif decide (v25 < v24) then inR v25 ((List.length v23):Int) (bif decide ((ix zD v23 v25).2.2.2.2.2.1 > v3) then some (false,()) else Option.bind (zaF (ix zD v23 v25,())) fun q0=>Option.bind (zB (q0.1,some y4,())) fun q1=>bif q1.1 then some (false,()) else k0 (wU (v3 - (ix zD v23 v25).2.2.2.2.2.1),v23,v24,wI (v25 + 1))) else some (true,())
abbrev zu2 (K:Nat):zgn→Option (Bool × Unit):=iter (zmj y4 zaF zB) K
theorem zW8 (K:Nat):∀ n,evV (zOn y4 zaF zB) K Tryz.f88 0 zqF [1,1,1,0,1,0] [] zW7 n = iter (zmj y4 zaF zB) n:=zm fun n0 (v3,v23,v24,v25)=>by kernel_rfl
def zqK (L0:zgn→Option (Bool × Unit)):(zd × Unit)→Option (Bool × Unit):=fun (x0,()) =>
  bif ((List.length x0.2.2.2.2.1):Int) != ((List.length x0.1):Int) then some (false,()) else bif decide (0 < ((List.length x0.2.2.2.2.1):Int)) then bif decide ((ix zD x0.2.2.2.2.1 0).1 < 1) then some (false,()) else L0 (4611686018427387904,x0.2.2.2.2.1,((List.length x0.2.2.2.2.1):Int),0) else none
theorem z1K (K:Nat):evF (zOn y4 zaF zB) K Tryz.f88 0 zzJ zqF = zqK (zu2 y4 zaF zB K):=tr1 (T:=zqK) (zW8 y4 zaF zB K K) fun (x0,())=>by kernel_rfl
end
def zap:zN5:=zqK (zu2 zbr zeg zQ K0)
theorem z1L:Sd Tryz.prog E0 (zwq zap):=mkS (l:=[zrW zbr,zuI zeg,qW zQ]) ⟨zW6,zZi,zbD,trivial⟩ Tryz.func88 (by kernel_rfl) (z1K zbr zeg zQ K0)
section
variable (zx:yF)
def zIl:(zd × Unit)→Option (Bool × Unit):=fun (x0,()) =>
  Option.bind (zx (x0.2.2.2.2.2.1,0,24,())) fun q0=>bif q0.1 then Option.bind (zx (x0.2.2.2.2.2.2.1,0,48,())) fun q1=>bif q1.1 then Option.bind (zx (x0.2.2.2.2.2.2.2.1,1,4,())) fun q2=>bif q2.1 then Option.bind (zx (x0.2.2.2.2.2.2.2.2.1,1,16,())) fun q3=>bif q3.1 then some (true,()) else some (false,()) else some (false,()) else some (false,()) else some (false,())
theorem z7g (K:Nat):evF (En E0 false [qH zx]) K Tryz.f89 0 zGy zGz = zIl zx:=funext fun (x0,())=>by kernel_rfl
end
def zcg:zTa:=zIl zU
theorem z7h:Sd Tryz.prog E0 (zCM zcg):=mkS (l:=[qH zU]) ⟨zal,trivial⟩ Tryz.func89 (by kernel_rfl) (z7g zU K0)
section
variable (zbG:zN3) (zcF:zQZ) (y5:zGx) (zbH:zN4) (zbI:zN5) (zd2:zTa)
abbrev zRo:Env:=(En E0 false [zwo zbG,zzH zcF,zrw y5,zwp zbH,zwq zbI,zCM zd2])
abbrev zig:Type:=Int × Int × zd × List (Option ((zd × Unit)→Option (Bool × Unit)))
abbrev zZj:zig→St:=fun (v6,v7,o0,o1)=>St.mk [(1,AV.bp 0 []),(5,AV.ow 1),(6,AV.dat tI v6),(7,AV.dat tI v7)] [Obj.bx (AV.dat zC o0) false,Obj.row (Ty.fn (Ty.pair zC Ty.unit) (Ty.pair Ty.bool Ty.unit)) o1 false]
def zoM (k0:zig→Option (Bool × Unit)):zig→Option (Bool × Unit):=fun (v6,v7,o0,o1) =>
  bif decide (v7 < v6) then inR v7 ((List.length o1):Int) (Option.bind (List.getD o1 (Int.toNat v7) (zb (Ty.fn (Ty.pair zC Ty.unit) (Ty.pair Ty.bool Ty.unit)))) fun q0=>Option.bind (q0 (o0,())) fun q1=>bif q1.1 then k0 (v6,wI (v7 + 1),o0,o1) else some (false,())) else some (true,())
abbrev zKD (K:Nat):zig→Option (Bool × Unit):=iter (zoM) K
theorem zZk (K:Nat):∀ n,evV (zRo zbG zcF y5 zbH zbI zd2) K Tryz.f25 0 zs5 [1,0,1,0] [] zZj n = iter (zoM) n:=zm fun n0 (v6,v7,o0,o1)=>by kernel_rfl
def zD0 (L0:zig→Option (Bool × Unit)):(zd × Unit)→Option (Bool × Unit):=fun (x0,()) =>
  L0 (((List.length (zk (zk (zk (zk (zk (zk (List.replicate 6 (zb (Ty.fn (Ty.pair zC Ty.unit) (Ty.pair Ty.bool Ty.unit)))) 0 (some zbG)) 1 (some zcF)) 2 (some y5)) 3 (some zbH)) 4 (some zbI)) 5 (some zd2))):Int),0,x0,[some zbG,some zcF,some y5,some zbH,some zbI,some zd2])
theorem z38 (K:Nat):evF (zRo zbG zcF y5 zbH zbI zd2) K Tryz.f25 0 zCk zs5 = zD0 zbG zcF y5 zbH zbI zd2 (zKD K):=tr1 (T:=zD0 zbG zcF y5 zbH zbI zd2) (zZk zbG zcF y5 zbH zbI zd2 K K) fun (x0,())=>by kernel_rfl
end
def jD:zhz:=zD0 zan zbl yt zao zap zcg (zKD K0)
theorem zmR:Sd Tryz.prog E0 (yg jD):=mkS (l:=[zwo zan,zzH zbl,zrw yt,zwp zao,zwq zap,zCM zcg]) ⟨z1D,z37,zWY,z1J,z1L,z7h,trivial⟩ Tryz.func25 (by kernel_rfl) (z38 zan zbl yt zao zap zcg K0)
section
variable (zJ:zhz)
abbrev zZl:Env:=(En E0 true [yg zJ])
abbrev zpQ:Type:=(List qe) × Int × Int × zd × List (List Int) × Nat
abbrev z7i:zpQ→St:=fun (v11,v12,v13,o0,o1,c1)=>St.mk [(1,AV.bp 0 []),(3,AV.ow 1),(11,AV.dat (Ty.sl jJ) v11),(12,AV.dat tI v12),(13,AV.dat tI v13)] [Obj.bx (AV.dat zC o0) false,Obj.drow (Ty.sl tI) o1 c1]
def zpR (k0:zpQ→Option ((List (List Int)) × Unit)):zpQ→Option ((List (List Int)) × Unit):=fun (v11,v12,v13,o0,o1,c1) =>
  bif decide (v13 < v12) then inR v13 ((List.length v11):Int) (bif decide (((List.length o0.2.2.1):Int) ≤ ((List.length o0.2.2.1):Int)) then bif decide (((List.length o0.2.2.1):Int) ≤ (↑lim:Int)) then inR (ix qj v11 v13).2.1 ((List.length (List.replicate (Int.toNat ((List.length o0.2.2.1):Int)) (0:Int))):Int) (bif decide (List.length o1 + List.length [List.set (List.replicate (Int.toNat ((List.length o0.2.2.1):Int)) (0:Int)) (Int.toNat (ix qj v11 v13).2.1) 2] ≤ lim) then bif decide (c1 = List.length o1) then k0 (v11,v12,wI (v13 + 1),o0,o1 ++ [List.set (List.replicate (Int.toNat ((List.length o0.2.2.1):Int)) (0:Int)) (Int.toNat (ix qj v11 v13).2.1) 2],c1 + (0 + 1)) else none else none) else none else none) else bif decide (c1 = List.length o1) then some (o1,()) else none
abbrev zTY (K:Nat):zpQ→Option ((List (List Int)) × Unit):=iter (zpR) K
theorem z7j (K:Nat):∀ n,evV (zZl zJ) K Tryz.f29 4 zFw [1,1,1,0,1,0] [] z7i n = iter (zpR) n:=zm fun n0 (v11,v12,v13,o0,o1,c1)=>by kernel_rfl
def zFA (L0:zpQ→Option ((List (List Int)) × Unit)):(zd × Unit)→Option ((List (List Int)) × Unit):=fun (x0,()) =>
  Option.bind (zJ (x0,())) fun q0=>bif q0.1 then L0 (x0.2.2.2.1,((List.length x0.2.2.2.1):Int),0,x0,[],0) else some ([],())
theorem qbY (K:Nat):evF (zZl zJ) K Tryz.f29 4 zPH zFw = zFA zJ (zTY K):=tr1 (T:=zFA zJ) (z7j zJ K K) fun (x0,())=>by kernel_rfl
end
def zqL:zY5:=zFA jD (zTY K0)
theorem qbZ:Sd Tryz.prog E0 (zLJ zqL):=mkS (l:=[yg jD]) ⟨zmR,trivial⟩ Tryz.func29 (by kernel_rfl) (qbY jD K0)
section
def zD1:(zd × (vU × Unit))→Option (zg × Unit):=fun (x0,x1,()) =>
  bif decide (0 ≤ x1.1) then bif decide (x1.1 ≤ x1.1) then bif decide (x1.1 ≤ (↑lim:Int)) then bif decide (0 ≤ x1.2.1) then bif decide (x1.2.1 ≤ x1.2.1) then bif decide (x1.2.1 ≤ (↑lim:Int)) then bif decide (0 ≤ x1.2.2.1) then bif decide (x1.2.2.1 ≤ x1.2.2.1) then bif decide (x1.2.2.1 ≤ (↑lim:Int)) then bif decide (0 ≤ x1.2.2.2.1) then bif decide (x1.2.2.2.1 ≤ x1.2.2.2.1) then bif decide (x1.2.2.2.1 ≤ (↑lim:Int)) then bif decide (0 ≤ x1.2.2.2.2.1) then bif decide (x1.2.2.2.2.1 ≤ x1.2.2.2.2.1) then bif decide (x1.2.2.2.2.1 ≤ (↑lim:Int)) then bif decide (((List.length x0.2.2.1):Int) ≤ ((List.length x0.2.2.1):Int)) then bif decide (((List.length x0.2.2.1):Int) ≤ (↑lim:Int)) then bif decide (((List.length x0.2.2.1):Int) ≤ ((List.length x0.2.2.1):Int)) then bif decide (((List.length x0.2.2.1):Int) ≤ (↑lim:Int)) then some ((List.replicate (Int.toNat x1.1) (zb zX),List.replicate (Int.toNat x1.2.1) (zb zV),List.replicate (Int.toNat x1.2.2.1) (zb zI),List.replicate (Int.toNat x1.2.2.2.1) (zb zZ),List.replicate (Int.toNat x1.2.2.2.2.1) (zb zu),List.replicate (Int.toNat ((List.length x0.2.2.1):Int)) (zb (Ty.arr 4 tU)),List.replicate (Int.toNat ((List.length x0.2.2.1):Int)) (zb zY),[0,0,0,0],[0,0,0,0],()),()) else none else none else none else none else none else none else none else none else none else none else none else none else none else none else none else none else none else none else none
theorem z39 (K:Nat):evF (En E0 true []) K Tryz.f30 3 zCl zCm = zD1:=funext fun (x0,x1,())=>by kernel_rfl
end
def zeK:zQO:=zD1
theorem z4a:Sd Tryz.prog E0 (zzc zeK):=mkS (l:=[]) trivial Tryz.func30 (by kernel_rfl) (z39 K0)
end
end Go.Proofs.YtaokpakfhdeiiaaGreatDoor
end
section
namespace Go.Proofs.YtaokpakfhdeiiaaGreatDoor
open Go.Ev
noncomputable section
section
variable (zJ:zhz) (zdK:zY5) (ya:zQO)
abbrev zBk:Env:=(En E0 true [yg zJ,zLJ zdK,zzc ya])
abbrev zmS:Type:=Int × Int × Int × Int × List zg × Nat × List (List Int) × Nat × List zj × List zy × List Int × List zg × Nat × List (List Int) × Nat × List zj × List zy × List Int
abbrev zRp:zmS→St:=fun (v42,v43,o0_0,o1_0,o2,c2,o3,c3,o4,o5,o6,o7,c7,o8,c8,o9,o10,o11)=>St.mk [(2,AV.bp 0 []),(4,AV.bp 1 []),(42,AV.dat tI v42),(43,AV.dat tI v43)] [Obj.bx (AV.fld (Ty.pair tU (Ty.pair (Ty.sl zh) (Ty.pair (Ty.sl (Ty.sl tI)) (Ty.pair (Ty.sl zi) (Ty.pair (Ty.sl zl) (Ty.pair (Ty.sl tI) Ty.unit)))))) [AV.dat tU o0_0,AV.ow 2,AV.ow 3,AV.ow 4,AV.ow 5,AV.ow 6]) false,Obj.bx (AV.fld (Ty.pair tU (Ty.pair (Ty.sl zh) (Ty.pair (Ty.sl (Ty.sl tI)) (Ty.pair (Ty.sl zi) (Ty.pair (Ty.sl zl) (Ty.pair (Ty.sl tI) Ty.unit)))))) [AV.dat tU o1_0,AV.ow 7,AV.ow 8,AV.ow 9,AV.ow 10,AV.ow 11]) false,Obj.drow zh o2 c2,Obj.drow (Ty.sl tI) o3 c3,Obj.row zi o4 false,Obj.row zl o5 false,Obj.row tI o6 false,Obj.drow zh o7 c7,Obj.drow (Ty.sl tI) o8 c8,Obj.row zi o9 false,Obj.row zl o10 false,Obj.row tI o11 false]
abbrev zmT:Type:=(List vU) × Int × Int × zd × Int × Int × List zg × Nat × List (List Int) × Nat × List zj × List zy × List Int × List zg × Nat × List (List Int) × Nat × List zj × List zy × List Int
abbrev z4b:zmT→St:=fun (v18,v19,v20,o0,o1_0,o2_0,o3,c3,o4,c4,o5,o6,o7,o8,c8,o9,c9,o10,o11,o12)=>St.mk [(1,AV.bp 0 []),(2,AV.bp 1 []),(4,AV.bp 2 []),(18,AV.dat (Ty.sl zaW) v18),(19,AV.dat tI v19),(20,AV.dat tI v20)] [Obj.bx (AV.dat zC o0) false,Obj.bx (AV.fld (Ty.pair tU (Ty.pair (Ty.sl zh) (Ty.pair (Ty.sl (Ty.sl tI)) (Ty.pair (Ty.sl zi) (Ty.pair (Ty.sl zl) (Ty.pair (Ty.sl tI) Ty.unit)))))) [AV.dat tU o1_0,AV.ow 3,AV.ow 4,AV.ow 5,AV.ow 6,AV.ow 7]) false,Obj.bx (AV.fld (Ty.pair tU (Ty.pair (Ty.sl zh) (Ty.pair (Ty.sl (Ty.sl tI)) (Ty.pair (Ty.sl zi) (Ty.pair (Ty.sl zl) (Ty.pair (Ty.sl tI) Ty.unit)))))) [AV.dat tU o2_0,AV.ow 8,AV.ow 9,AV.ow 10,AV.ow 11,AV.ow 12]) false,Obj.drow zh o3 c3,Obj.drow (Ty.sl tI) o4 c4,Obj.row zi o5 false,Obj.row zl o6 false,Obj.row tI o7 false,Obj.drow zh o8 c8,Obj.drow (Ty.sl tI) o9 c9,Obj.row zi o10 false,Obj.row zl o11 false,Obj.row tI o12 false]
def zmU (k1:zmS→Option (ze × (Int × Unit))):zmS→Option (ze × (Int × Unit)):=fun (v42,v43,o0_0,o1_0,o2,c2,o3,c3,o4,o5,o6,o7,c7,o8,c8,o9,o10,o11) =>
  bif decide (v43 < v42) then bif decide (List.length o11 + List.length (zk (List.replicate 1 (0:Int)) 0 (-1)) ≤ lim) then k1 (v42,wI (v43 + 1),o0_0,o1_0,o2,c2,o3,c3,o4,o5,o6,o7,c7,o8,c8,o9,o10,o11 ++ zk (List.replicate 1 (0:Int)) 0 (-1)) else none else bif decide (c7 = List.length o7) then bif decide (c8 = List.length o8) then some ((o1_0,o7,o8,o9,o10,o11,()),0,()) else none else none
abbrev zmV (K:Nat):zmS→Option (ze × (Int × Unit)):=iter (zmU) K
theorem z4c (K:Nat):∀ n,evV (zBk zJ zdK ya) K Tryz.f8 3 znG [1,1,1,1,1,0,1,0] [] zRp n = iter (zmU) n:=zm fun n1 (v42,v43,o0_0,o1_0,o2,c2,o3,c3,o4,o5,o6,o7,c7,o8,c8,o9,o10,o11)=>by kernel_rfl
def zhC (L1:zmS→Option (ze × (Int × Unit))) (k0:zmT→Option (ze × (Int × Unit))):zmT→Option (ze × (Int × Unit)):=fun (v18,v19,v20,o0,o1_0,o2_0,o3,c3,o4,c4,o5,o6,o7,o8,c8,o9,c9,o10,o11,o12) =>
  bif decide (v20 < v19) then inR v20 ((List.length v18):Int) (Option.bind (ya (o0,ix zD v18 v20,())) fun q2=>bif decide (List.length o8 + List.length [(q2.1.1,q2.1.2.1,q2.1.2.2.1,q2.1.2.2.2.1,q2.1.2.2.2.2.1,q2.1.2.2.2.2.2.1,q2.1.2.2.2.2.2.2.1,q2.1.2.2.2.2.2.2.2.1,q2.1.2.2.2.2.2.2.2.2.1,())] ≤ lim) then bif decide (c8 = List.length o8) then k0 (v18,v19,wI (v20 + 1),o0,o1_0,o2_0,o3,c3,o4,c4,o5,o6,o7,o8 ++ [(q2.1.1,q2.1.2.1,q2.1.2.2.1,q2.1.2.2.2.1,q2.1.2.2.2.2.1,q2.1.2.2.2.2.2.1,q2.1.2.2.2.2.2.2.1,q2.1.2.2.2.2.2.2.2.1,q2.1.2.2.2.2.2.2.2.2.1,())],c8 + (0 + 1),o9,c9,o10,o11,o12) else none else none) else bif decide (0 < ((List.length o8):Int)) then bif decide (c8 ≤ Int.toNat 0) then bif decide (0 < ((List.length (ix za o8 0).1):Int)) then none else none else bif decide (0 < ((List.length (ix za o8 0).1):Int)) then L1 (((List.length o0.2.1):Int),0,o1_0,o2_0,o3,c3,o4,c4,o5,o6,o7,List.set o8 (Int.toNat 0) (List.set (ix za o8 0).1 (Int.toNat 0) (true,ByteArray.mk #[112,108,97,122,97],(zb zX).2.2),(ix za o8 0).2),c8,o9,c9,o10,o11,o12) else none else none
abbrev zRq (K:Nat):zmT→Option (ze × (Int × Unit)):=iter (fun k0=>zhC ya (zmV K) k0) K
theorem z4d (K:Nat):∀ n,evV (zBk zJ zdK ya) K Tryz.f8 3 znG [1,1,1,0,1,0] [] z4b n = iter (fun k0=>zhC ya (zmV K) k0) n:=qX (B:=fun L1 k0=>zhC ya L1 k0) (V1:=fun n0=>evV (zBk zJ zdK ya) K Tryz.f8 3 znG [1,1,1,1,1,0,1,0] [] zRp K) (W1:=fun k0=>(zmV K)) (fun n0=>z4c zJ zdK ya K K) fun n0 (v18,v19,v20,o0,o1_0,o2_0,o3,c3,o4,c4,o5,o6,o7,o8,c8,o9,c9,o10,o11,o12)=>by kernel_rfl
def zBl (L0:zmT→Option (ze × (Int × Unit))):(zd × Unit)→Option (ze × (Int × Unit)):=fun (x0,()) =>
  Option.bind (zJ (x0,())) fun q0=>bif q0.1 then Option.bind (zdK (x0,())) fun q1=>bif decide (0 ≤ x0.2.2.2.2.2.1) then bif decide (x0.2.2.2.2.2.1 ≤ x0.2.2.2.2.2.1) then bif decide (x0.2.2.2.2.2.1 ≤ (↑lim:Int)) then L0 (x0.2.2.2.2.1,((List.length x0.2.2.2.2.1):Int),0,x0,0,0,[],0,[],0,[],[],[],[],0,q1.1,List.length q1.1,List.replicate (Int.toNat x0.2.2.2.2.2.1) (zb zi),[],[]) else none else none else none else some ((0,[],[],[],[],[],()),1,())
theorem z9r (K:Nat):evF (zBk zJ zdK ya) K Tryz.f8 3 zLF znG = zBl zJ zdK (zRq ya K):=tr1 (T:=zBl zJ zdK) (z4d zJ zdK ya K K) fun (x0,())=>by kernel_rfl
end
def zaZ:zLG:=zBl jD zqL (zRq zeK K0)
theorem zWq:Sd Tryz.prog E0 (zpc zaZ):=mkS (l:=[yg jD,zLJ zqL,zzc zeK]) ⟨zmR,qbZ,z4a,trivial⟩ Tryz.func8 (by kernel_rfl) (z9r jD zqL zeK K0)
section
variable (zJ:zhz)
abbrev zRr:Env:=(En E0 false [yg zJ])
abbrev zih:Type:=Int × (List zg) × Int × Int × jh
abbrev zZm:zih→St:=fun (v3,v65,v66,v67,o0)=>St.mk [(1,AV.bp 0 []),(3,AV.dat tI v3),(65,AV.dat (Ty.sl zh) v65),(66,AV.dat tI v66),(67,AV.dat tI v67)] [Obj.bx (AV.dat jx o0) false]
def zoN (k0:zih→Option (Bool × Unit)):zih→Option (Bool × Unit):=fun (v3,v65,v66,v67,o0) =>
  bif decide (v67 < v66) then inR v67 ((List.length v65):Int) (inR v67 ((List.length o0.1.2.2.2.2.1):Int) (bif ((List.length (ix za v65 v67).1):Int) != (ix zD o0.1.2.2.2.2.1 v67).1 then some (false,()) else bif ((List.length (ix za v65 v67).2.1):Int) != (ix zD o0.1.2.2.2.2.1 v67).2.1 then some (false,()) else bif ((List.length (ix za v65 v67).2.2.1):Int) != (ix zD o0.1.2.2.2.2.1 v67).2.2.1 then some (false,()) else bif ((List.length (ix za v65 v67).2.2.2.1):Int) != (ix zD o0.1.2.2.2.2.1 v67).2.2.2.1 then some (false,()) else bif ((List.length (ix za v65 v67).2.2.2.2.1):Int) != (ix zD o0.1.2.2.2.2.1 v67).2.2.2.2.1 then some (false,()) else bif ((List.length (ix za v65 v67).2.2.2.2.2.1):Int) != v3 then some (false,()) else bif ((List.length (ix za v65 v67).2.2.2.2.2.2.1):Int) != v3 then some (false,()) else k0 (v3,v65,v66,wI (v67 + 1),o0))) else some (true,())
abbrev zxv (K:Nat):zih→Option (Bool × Unit):=iter (zoN) K
theorem zZn (K:Nat):∀ n,evV (zRr zJ) K Tryz.f55 0 zs7 [1,1,1,0,1,0] [] zZm n = iter (zoN) n:=zm fun n0 (v3,v65,v66,v67,o0)=>by kernel_rfl
def ztl (L0:zih→Option (Bool × Unit)):(jh × Unit)→Option (Bool × Unit):=fun (x0,()) =>
  Option.bind (zJ (x0.1,())) fun q0=>bif q0.1 then bif ((List.length x0.2.1.2.1):Int) != ((List.length x0.1.1):Int) then some (false,()) else bif ((List.length x0.2.1.2.2.2.1):Int) != x0.1.2.2.2.2.2.1 then some (false,()) else bif decide (((List.length x0.2.1.2.2.2.2.1):Int) > x0.1.2.2.2.2.2.2.1) then some (false,()) else bif ((List.length x0.2.1.2.2.2.2.2.1):Int) != ((List.length x0.1.2.1):Int) then some (false,()) else bif decide (x0.2.1.1 > 4611686018427387904) then some (false,()) else L0 (((List.length x0.1.2.2.1):Int),x0.2.1.2.1,((List.length x0.2.1.2.1):Int),0,x0) else some (false,())
theorem z4e (K:Nat):evF (zRr zJ) K Tryz.f55 0 zCy zs7 = ztl zJ (zxv K):=tr1 (T:=ztl zJ) (zZn zJ K K) fun (x0,())=>by kernel_rfl
end
def zeL:zQS:=ztl jD (zxv K0)
theorem z4f:Sd Tryz.prog E0 (zzp zeL):=mkS (l:=[yg jD]) ⟨zmR,trivial⟩ Tryz.func55 (by kernel_rfl) (z4e jD K0)
section
def zyM:(zg × ((Option (Option ((zg × Unit)→Option (Bool × Unit)))) × Unit))→Option (Bool × Unit):=fun (x0,x1,()) =>
  Option.bind x1 fun q0=>Option.bind q0 fun q1=>Option.bind (q1 (x0,())) fun q2=>bif q2.1 then some (false,()) else some (true,())
theorem zSg (K:Nat):evF (En E0 false []) K Tryz.f201 0 zn1 zn2 = zyM:=funext fun (x0,x1,())=>by kernel_rfl
end
def zaM:zyC:=zyM
theorem zSh:Sd Tryz.prog E0 (zlW zaM):=mkS (l:=[]) trivial Tryz.func201 (by kernel_rfl) (zSg K0)
section
abbrev zxw:Env:=(En E0 false [])
abbrev za0:Type:=(List zg) × (Option ((zg × Unit)→Option (Bool × Unit))) × Int × Int
abbrev zMO:za0→St:=fun (v0,v1,v7,v8)=>St.mk [(0,AV.dat (Ty.sl zh) v0),(1,AV.dat (Ty.fn (Ty.pair zh Ty.unit) (Ty.pair Ty.bool Ty.unit)) v1),(7,AV.dat tI v7),(8,AV.dat tI v8)] []
def zjG (k0:za0→Option (Int × Unit)):za0→Option (Int × Unit):=fun (v0,v1,v7,v8) =>
  bif decide (v8 < v7) then inR v8 ((List.length v0):Int) (Option.bind v1 fun q0=>Option.bind (q0 (ix za v0 v8,())) fun q1=>bif q1.1 then some (v8,()) else k0 (v0,v1,v7,wI (v8 + 1))) else some ((-1),())
abbrev zsG (K:Nat):za0→Option (Int × Unit):=iter (zjG) K
theorem zMP (K:Nat):∀ n,evV (zxw) K Tryz.f253 0 zfq [1,0,1,0] [] zMO n = iter (zjG) n:=zm fun n0 (v0,v1,v7,v8)=>by kernel_rfl
def zmk (L0:za0→Option (Int × Unit)):((List zg) × ((Option ((zg × Unit)→Option (Bool × Unit))) × Unit))→Option (Int × Unit):=fun (x0,x1,()) =>
  L0 (x0,x1,((List.length x0):Int),0)
theorem zP7 (K:Nat):evF (zxw) K Tryz.f253 0 zl5 zfq = zmk (zsG K):=tr1 (T:=zmk) (zMP K K) fun (x0,x1,())=>by kernel_rfl
end
def zaq:zxf:=zmk (zsG K0)
theorem zP8:Sd Tryz.prog E0 (zkv zaq):=mkS (l:=[]) trivial Tryz.func253 (by kernel_rfl) (zP7 K0)
section
variable (zml:zxf)
def zrh:((List zg) × ((Option ((zg × Unit)→Option (Bool × Unit))) × Unit))→Option (Bool × Unit):=fun (x0,x1,()) =>
  Option.bind (zml (x0,x1,())) fun q0=>bif decide (q0.1 ≥ 0) then some (true,()) else some (false,())
theorem zJP (K:Nat):evF (En E0 false [zkv zml]) K Tryz.f200 0 zha zhb = zrh zml:=funext fun (x0,x1,())=>by kernel_rfl
end
def vw:zrb:=zrh zaq
theorem zJQ:Sd Tryz.prog E0 (zga vw):=mkS (l:=[zkv zaq]) ⟨zP8,trivial⟩ Tryz.func200 (by kernel_rfl) (zJP zaq K0)
section
variable (zop:zyC) (zhp:zrb)
def zE9:((List zg) × ((Option ((zg × Unit)→Option (Bool × Unit))) × Unit))→Option (Bool × Unit):=fun (x0,x1,()) =>
  Option.bind (zhp (x0,some fun z=>zop (z.1,some x1,()),())) fun q0=>bif q0.1 then some (false,()) else some (true,())
theorem zVe (K:Nat):evF (En E0 false [zlW zop,zga zhp]) K Tryz.f125 0 zrB zrC = zE9 zop zhp:=funext fun (x0,x1,())=>by kernel_rfl
end
def ze4:zEX:=zE9 zaM vw
theorem zVf:Sd Tryz.prog E0 (zpj ze4):=mkS (l:=[zlW zaM,zga vw]) ⟨zSh,zJQ,trivial⟩ Tryz.func125 (by kernel_rfl) (zVe zaM vw K0)
section
abbrev zyN:Env:=(En E0 false [])
abbrev zbJ:Type:=(List qP) × (Option ((qP × Unit)→Option (Bool × Unit))) × Int × Int
abbrev zOo:zbJ→St:=fun (v0,v1,v7,v8)=>St.mk [(0,AV.dat (Ty.sl zX) v0),(1,AV.dat (Ty.fn (Ty.pair zX Ty.unit) (Ty.pair Ty.bool Ty.unit)) v1),(7,AV.dat tI v7),(8,AV.dat tI v8)] []
def zkF (k0:zbJ→Option (Int × Unit)):zbJ→Option (Int × Unit):=fun (v0,v1,v7,v8) =>
  bif decide (v8 < v7) then inR v8 ((List.length v0):Int) (Option.bind v1 fun q0=>Option.bind (q0 (ix zbh v0 v8,())) fun q1=>bif q1.1 then some (v8,()) else k0 (v0,v1,v7,wI (v8 + 1))) else some ((-1),())
abbrev zvA (K:Nat):zbJ→Option (Int × Unit):=iter (zkF) K
theorem zOp (K:Nat):∀ n,evV (zyN) K Tryz.f254 0 zg0 [1,0,1,0] [] zOo n = iter (zkF) n:=zm fun n0 (v0,v1,v7,v8)=>by kernel_rfl
def zoq (L0:zbJ→Option (Int × Unit)):((List qP) × ((Option ((qP × Unit)→Option (Bool × Unit))) × Unit))→Option (Int × Unit):=fun (x0,x1,()) =>
  L0 (x0,x1,((List.length x0):Int),0)
theorem zSi (K:Nat):evF (zyN) K Tryz.f254 0 zod zg0 = zoq (zvA K):=tr1 (T:=zoq) (zOp K K) fun (x0,x1,())=>by kernel_rfl
end
def zaN:zyG:=zoq (zvA K0)
theorem zSj:Sd Tryz.prog E0 (zl6 zaN):=mkS (l:=[]) trivial Tryz.func254 (by kernel_rfl) (zSi K0)
section
variable (zor:zyG)
def zsH:((List qP) × ((Option ((qP × Unit)→Option (Bool × Unit))) × Unit))→Option (Bool × Unit):=fun (x0,x1,()) =>
  Option.bind (zor (x0,x1,())) fun q0=>bif decide (q0.1 ≥ 0) then some (true,()) else some (false,())
theorem zMQ (K:Nat):evF (En E0 false [zl6 zor]) K Tryz.f202 0 zjm zjn = zsH zor:=funext fun (x0,x1,())=>by kernel_rfl
end
def za1:zsw:=zsH zaN
theorem zMR:Sd Tryz.prog E0 (zhc za1):=mkS (l:=[zl6 zaN]) ⟨zSj,trivial⟩ Tryz.func202 (by kernel_rfl) (zMQ zaN K0)
section
variable (yy:zwY)
def zAu:(qP × Unit)→Option (Bool × Unit):=fun (x0,()) =>
  bif x0.1 then Option.bind (yy (x0.2.1,())) fun q0=>bif q0.1 then bif x0.1 then some (false,()) else bif !ByteArray.toList x0.2.1 == ByteArray.toList (ByteArray.mk #[]) then some (true,()) else some (false,()) else some (true,()) else bif x0.1 then some (false,()) else bif !ByteArray.toList x0.2.1 == ByteArray.toList (ByteArray.mk #[]) then some (true,()) else some (false,())
theorem z1M (K:Nat):evF (En E0 false [zeI yy]) K Tryz.f203 0 zAa zAb = zAu yy:=funext fun (x0,())=>by kernel_rfl
end
def zfK:zN9:=zAu yx
theorem z1N:Sd Tryz.prog E0 (zw4 zfK):=mkS (l:=[zeI yx]) ⟨zIc,trivial⟩ Tryz.func203 (by kernel_rfl) (z1M yx K0)
section
variable (zjH:zsw) (zAv:zN9)
def zIm:((List qP) × Unit)→Option (Bool × Unit):=fun (x0,()) =>
  Option.bind (zjH (x0,some zAv,())) fun q0=>bif q0.1 then some (false,()) else some (true,())
theorem z7k (K:Nat):evF (En E0 false [zhc zjH,zw4 zAv]) K Tryz.f127 0 zGQ zGR = zIm zjH zAv:=funext fun (x0,())=>by kernel_rfl
end
def zkG:zTi:=zIm za1 zfK
theorem z7l:Sd Tryz.prog E0 (zDf zkG):=mkS (l:=[zhc za1,zw4 zfK]) ⟨zMR,z1N,trivial⟩ Tryz.func127 (by kernel_rfl) (z7k za1 zfK K0)
section
def zIn:(qe × Unit)→Option (Bool × Unit):=fun (x0,()) =>
  bif decide (x0.1 ≥ 0) then bif decide (x0.1 ≤ 127) then bif decide (x0.2.1 ≥ 0) then bif decide (x0.2.1 ≤ 127) then some (true,()) else some (false,()) else some (false,()) else some (false,()) else some (false,())
theorem z7m (K:Nat):evF (En E0 false []) K Tryz.f255 0 zHR zHS = zIn:=funext fun (x0,())=>by kernel_rfl
end
def zkH:zTA:=zIn
theorem z7n:Sd Tryz.prog E0 (zDP zkH):=mkS (l:=[]) trivial Tryz.func255 (by kernel_rfl) (z7m K0)
section
def zIo:(Int × Unit)→Option (Bool × Unit):=fun (x0,()) =>
  bif decide (x0 ≥ 0) then bif decide (x0 < 6) then some (true,()) else some (false,()) else some (false,())
theorem z7o (K:Nat):evF (En E0 false []) K Tryz.f256 0 zHT zHU = zIo:=funext fun (x0,())=>by kernel_rfl
end
def zkI:zTB:=zIo
theorem z7p:Sd Tryz.prog E0 (zDQ zkI):=mkS (l:=[]) trivial Tryz.func256 (by kernel_rfl) (z7o K0)
section
variable (zxx:zTA) (zIp:zTB)
def zIq:(z5 × Unit)→Option (Bool × Unit):=fun (x0,()) =>
  bif x0.1 then Option.bind (zxx (x0.2.1,())) fun q0=>bif q0.1 then Option.bind (zxx (x0.2.2.1,())) fun q1=>bif q1.1 then Option.bind (zIp (x0.2.2.2.1,())) fun q2=>bif q2.1 then some (false,()) else some (true,()) else some (true,()) else some (true,()) else bif !eqI zV x0 (zb zV) then some (true,()) else some (false,())
theorem z7q (K:Nat):evF (En E0 false [zDP zxx,zDQ zIp]) K Tryz.f204 0 zHq zHr = zIq zxx zIp:=funext fun (x0,())=>by kernel_rfl
end
def zgo:zTs:=zIq zkH zkI
theorem z7r:Sd Tryz.prog E0 (zDF zgo):=mkS (l:=[zDP zkH,zDQ zkI]) ⟨z7n,z7p,trivial⟩ Tryz.func204 (by kernel_rfl) (z7q zkH zkI K0)
section
def zAw:(z5 × ((Option qe) × ((Option Int) × Unit)))→Option (Bool × Unit):=fun (x0,x1,x2,()) =>
  bif x0.1 then Option.bind x1 fun q0=>bif eqI zY x0.2.1 q0 then Option.bind x2 fun q1=>bif x0.2.2.2.1 == q1 then some (true,()) else some (false,()) else some (false,()) else some (false,())
theorem z1O (K:Nat):evF (En E0 false []) K Tryz.f258 0 zAi zAj = zAw:=funext fun (x0,x1,x2,())=>by kernel_rfl
end
def zfL:zOc:=zAw
theorem z1P:Sd Tryz.prog E0 (zxg zfL):=mkS (l:=[]) trivial Tryz.func258 (by kernel_rfl) (z1O K0)
section
abbrev zyO:Env:=(En E0 false [])
abbrev zbK:Type:=(List z5) × (Option ((z5 × Unit)→Option (Bool × Unit))) × Int × Int
abbrev zOq:zbK→St:=fun (v0,v1,v7,v8)=>St.mk [(0,AV.dat (Ty.sl zV) v0),(1,AV.dat (Ty.fn (Ty.pair zV Ty.unit) (Ty.pair Ty.bool Ty.unit)) v1),(7,AV.dat tI v7),(8,AV.dat tI v8)] []
def zkJ (k0:zbK→Option (Int × Unit)):zbK→Option (Int × Unit):=fun (v0,v1,v7,v8) =>
  bif decide (v8 < v7) then inR v8 ((List.length v0):Int) (Option.bind v1 fun q0=>Option.bind (q0 (ix qQ v0 v8,())) fun q1=>bif q1.1 then some (v8,()) else k0 (v0,v1,v7,wI (v8 + 1))) else some ((-1),())
abbrev zvB (K:Nat):zbK→Option (Int × Unit):=iter (zkJ) K
theorem zOr (K:Nat):∀ n,evV (zyO) K Tryz.f257 0 zg1 [1,0,1,0] [] zOq n = iter (zkJ) n:=zm fun n0 (v0,v1,v7,v8)=>by kernel_rfl
def zos (L0:zbK→Option (Int × Unit)):((List z5) × ((Option ((z5 × Unit)→Option (Bool × Unit))) × Unit))→Option (Int × Unit):=fun (x0,x1,()) =>
  L0 (x0,x1,((List.length x0):Int),0)
theorem zSk (K:Nat):evF (zyO) K Tryz.f257 0 zoe zg1 = zos (zvB K):=tr1 (T:=zos) (zOr K K) fun (x0,x1,())=>by kernel_rfl
end
def vm:zof:=zos (zvB K0)
theorem zyP:Sd Tryz.prog E0 (zcc vm):=mkS (l:=[]) trivial Tryz.func257 (by kernel_rfl) (zSk K0)
section
variable (zAx:zOc) (yM:zof)
def zIr:((List z5) × (qe × (Int × Unit)))→Option (Int × Unit):=fun (x0,x1,x2,()) =>
  Option.bind (yM (x0,some fun z=>zAx (z.1,some x1,some x2,()),())) fun q0=>some (q0.1,())
theorem z7s (K:Nat):evF (En E0 false [zxg zAx,zcc yM]) K Tryz.f205 0 zHs zHt = zIr zAx yM:=funext fun (x0,x1,x2,())=>by kernel_rfl
end
def zgp:zTt:=zIr zfL vm
theorem z7t:Sd Tryz.prog E0 (zDG zgp):=mkS (l:=[zxg zfL,zcc vm]) ⟨z1P,zyP,trivial⟩ Tryz.func205 (by kernel_rfl) (z7s zfL vm K0)
section
variable (zd3:zTs) (zd4:zTt)
abbrev zTZ:Env:=(En E0 false [zDF zd3,zDG zd4])
abbrev zkK:Type:=(List z5) × (List z5) × Int × Int
abbrev z1Q:zkK→St:=fun (v0,v5,v6,v7)=>St.mk [(0,AV.dat (Ty.sl zV) v0),(5,AV.dat (Ty.sl zV) v5),(6,AV.dat tI v6),(7,AV.dat tI v7)] []
def zkL (k0:zkK→Option (Bool × Unit)):zkK→Option (Bool × Unit):=fun (v0,v5,v6,v7) =>
  bif decide (v7 < v6) then inR v7 ((List.length v5):Int) (Option.bind (zd3 (ix qQ v5 v7,())) fun q0=>bif q0.1 then some (false,()) else bif (ix qQ v5 v7).1 then Option.bind (zd4 (v0,(ix qQ v5 v7).2.1,(ix qQ v5 v7).2.2.2.1,())) fun q1=>bif q1.1 != v7 then some (false,()) else k0 (v0,v5,v6,wI (v7 + 1)) else k0 (v0,v5,v6,wI (v7 + 1))) else some (true,())
abbrev zOs (K:Nat):zkK→Option (Bool × Unit):=iter (zkL zd3 zd4) K
theorem z1R (K:Nat):∀ n,evV (zTZ zd3 zd4) K Tryz.f128 0 zwy [1,0,1,0] [] z1Q n = iter (zkL zd3 zd4) n:=zm fun n0 (v0,v5,v6,v7)=>by kernel_rfl
def zIs (L0:zkK→Option (Bool × Unit)):((List z5) × Unit)→Option (Bool × Unit):=fun (x0,()) =>
  L0 (x0,x0,((List.length x0):Int),0)
theorem z7u (K:Nat):evF (zTZ zd3 zd4) K Tryz.f128 0 zGS zwy = zIs (zOs zd3 zd4 K):=tr1 (T:=zIs) (z1R zd3 zd4 K K) fun (x0,())=>by kernel_rfl
end
def zpS:zTj:=zIs (zOs zgo zgp K0)
theorem z7v:Sd Tryz.prog E0 (zDg zpS):=mkS (l:=[zDF zgo,zDG zgp]) ⟨z7r,z7t,trivial⟩ Tryz.func128 (by kernel_rfl) (z7u zgo zgp K0)
section
abbrev zyQ:Env:=(En E0 false [])
abbrev zbL:Type:=(List z3) × (Option ((z3 × Unit)→Option (Bool × Unit))) × Int × Int
abbrev zOt:zbL→St:=fun (v0,v1,v7,v8)=>St.mk [(0,AV.dat (Ty.sl zI) v0),(1,AV.dat (Ty.fn (Ty.pair zI Ty.unit) (Ty.pair Ty.bool Ty.unit)) v1),(7,AV.dat tI v7),(8,AV.dat tI v8)] []
def zkM (k0:zbL→Option (Int × Unit)):zbL→Option (Int × Unit):=fun (v0,v1,v7,v8) =>
  bif decide (v8 < v7) then inR v8 ((List.length v0):Int) (Option.bind v1 fun q0=>Option.bind (q0 (ix zL v0 v8,())) fun q1=>bif q1.1 then some (v8,()) else k0 (v0,v1,v7,wI (v8 + 1))) else some ((-1),())
abbrev zvC (K:Nat):zbL→Option (Int × Unit):=iter (zkM) K
theorem zOu (K:Nat):∀ n,evV (zyQ) K Tryz.f259 0 zg2 [1,0,1,0] [] zOt n = iter (zkM) n:=zm fun n0 (v0,v1,v7,v8)=>by kernel_rfl
def zot (L0:zbL→Option (Int × Unit)):((List z3) × ((Option ((z3 × Unit)→Option (Bool × Unit))) × Unit))→Option (Int × Unit):=fun (x0,x1,()) =>
  L0 (x0,x1,((List.length x0):Int),0)
theorem zSl (K:Nat):evF (zyQ) K Tryz.f259 0 zog zg2 = zot (zvC K):=tr1 (T:=zot) (zOu K K) fun (x0,x1,())=>by kernel_rfl
end
def zaO:zyH:=zot (zvC K0)
theorem zSm:Sd Tryz.prog E0 (zl7 zaO):=mkS (l:=[]) trivial Tryz.func259 (by kernel_rfl) (zSl K0)
section
variable (zou:zyH)
def zsI:((List z3) × ((Option ((z3 × Unit)→Option (Bool × Unit))) × Unit))→Option (Bool × Unit):=fun (x0,x1,()) =>
  Option.bind (zou (x0,x1,())) fun q0=>bif decide (q0.1 ≥ 0) then some (true,()) else some (false,())
theorem zMS (K:Nat):evF (En E0 false [zl7 zou]) K Tryz.f206 0 zjo zjp = zsI zou:=funext fun (x0,x1,())=>by kernel_rfl
end
def jp:zjq:=zsI zaO
theorem zsJ:Sd Tryz.prog E0 (zaw jp):=mkS (l:=[zl7 zaO]) ⟨zSm,trivial⟩ Tryz.func206 (by kernel_rfl) (zMS zaO K0)
section
def zZo:(z3 × Unit)→Option (zNP × Unit):=fun (x0,()) =>
  some ((x0.2.2.1,x0.2.2.2.1,x0.2.2.2.2.1,()),())
theorem qb0 (K:Nat):evF (En E0 false []) K Tryz.f260 0 zPR zPS = zZo:=funext fun (x0,())=>by kernel_rfl
end
def zxy:zY8:=zZo
theorem qb1:Sd Tryz.prog E0 (zMx zxy):=mkS (l:=[]) trivial Tryz.func260 (by kernel_rfl) (qb0 K0)
section
def zP9:(Int × Unit)→Option (Bool × Unit):=fun (x0,()) =>
  bif decide (x0 ≥ 0) then bif decide (x0 ≤ 127) then some (true,()) else some (false,()) else some (false,())
theorem qb2 (K:Nat):evF (En E0 false []) K Tryz.f282 0 zPZ zP0 = zP9:=funext fun (x0,())=>by kernel_rfl
end
def zqM:zZa:=zP9
theorem qb3:Sd Tryz.prog E0 (zMG zqM):=mkS (l:=[]) trivial Tryz.func282 (by kernel_rfl) (qb2 K0)
section
variable (zqN:zZa)
def zpT:(zNP × Unit)→Option (Bool × Unit):=fun (x0,()) =>
  bif x0.1 == 1 then Option.bind (zqN (x0.2.1,())) fun q0=>bif q0.1 then bif eqI zY x0.2.2.1 (zb zY) then some (true,()) else some (false,()) else some (false,()) else bif x0.1 == 3 then Option.bind (zqN (x0.2.1,())) fun q1=>bif q1.1 then bif eqI zY x0.2.2.1 (zb zY) then some (true,()) else some (false,()) else some (false,()) else bif x0.1 == 2 then bif x0.2.1 == 0 then Option.bind (zqN (x0.2.2.1.1,())) fun q2=>bif q2.1 then Option.bind (zqN (x0.2.2.1.2.1,())) fun q3=>bif q3.1 then some (true,()) else some (false,()) else some (false,()) else some (false,()) else some (false,())
theorem zT0 (K:Nat):evF (En E0 false [zMG zqN]) K Tryz.f261 0 zpC zpD = zpT zqN:=funext fun (x0,())=>by kernel_rfl
end
def zbM:zBH:=zpT zqM
theorem zT1:Sd Tryz.prog E0 (zoh zbM):=mkS (l:=[zMG zqM]) ⟨qb3,trivial⟩ Tryz.func261 (by kernel_rfl) (zT0 zqM K0)
section
variable (yy:zwY) (zQa:zY8) (zpU:zBH)
def zD2:(z3 × Unit)→Option (Bool × Unit):=fun (x0,()) =>
  bif x0.1 then Option.bind (yy (x0.2.1,())) fun q0=>bif q0.1 then Option.bind (zQa (x0,())) fun q1=>Option.bind (zpU (q1.1,())) fun q2=>bif q2.1 then some (false,()) else some (true,()) else some (true,()) else bif !eqI zI x0 (zb zI) then some (true,()) else some (false,())
theorem z4g (K:Nat):evF (En E0 false [zeI yy,zMx zQa,zoh zpU]) K Tryz.f207 0 zDH zDI = zD2 yy zQa zpU:=funext fun (x0,())=>by kernel_rfl
end
def zhD:zRk:=zD2 yx zxy zbM
theorem z4h:Sd Tryz.prog E0 (zAc zhD):=mkS (l:=[zeI yx,zMx zxy,zoh zbM]) ⟨zIc,qb1,zT1,trivial⟩ Tryz.func207 (by kernel_rfl) (z4g yx zxy zbM K0)
section
variable (vM:zjq) (zD3:zRk)
def zD4:((List z3) × Unit)→Option (Bool × Unit):=fun (x0,()) =>
  Option.bind (vM (x0,some zD3,())) fun q0=>bif q0.1 then some (false,()) else some (true,())
theorem z4i (K:Nat):evF (En E0 false [zaw vM,zAc zD3]) K Tryz.f129 0 zDh zDi = zD4 vM zD3:=funext fun (x0,())=>by kernel_rfl
end
def zhE:zRd:=zD4 jp zhD
theorem z4j:Sd Tryz.prog E0 (zzX zhE):=mkS (l:=[zaw jp,zAc zhD]) ⟨zsJ,z4h,trivial⟩ Tryz.func129 (by kernel_rfl) (z4i jp zhD K0)
section
abbrev zyR:Env:=(En E0 false [])
abbrev zbN:Type:=(List qh) × (Option ((qh × Unit)→Option (Bool × Unit))) × Int × Int
abbrev zOv:zbN→St:=fun (v0,v1,v7,v8)=>St.mk [(0,AV.dat (Ty.sl zZ) v0),(1,AV.dat (Ty.fn (Ty.pair zZ Ty.unit) (Ty.pair Ty.bool Ty.unit)) v1),(7,AV.dat tI v7),(8,AV.dat tI v8)] []
def zkN (k0:zbN→Option (Int × Unit)):zbN→Option (Int × Unit):=fun (v0,v1,v7,v8) =>
  bif decide (v8 < v7) then inR v8 ((List.length v0):Int) (Option.bind v1 fun q0=>Option.bind (q0 (ix zaE v0 v8,())) fun q1=>bif q1.1 then some (v8,()) else k0 (v0,v1,v7,wI (v8 + 1))) else some ((-1),())
abbrev zvD (K:Nat):zbN→Option (Int × Unit):=iter (zkN) K
theorem zOw (K:Nat):∀ n,evV (zyR) K Tryz.f262 0 zg3 [1,0,1,0] [] zOv n = iter (zkN) n:=zm fun n0 (v0,v1,v7,v8)=>by kernel_rfl
def zov (L0:zbN→Option (Int × Unit)):((List qh) × ((Option ((qh × Unit)→Option (Bool × Unit))) × Unit))→Option (Int × Unit):=fun (x0,x1,()) =>
  L0 (x0,x1,((List.length x0):Int),0)
theorem zSn (K:Nat):evF (zyR) K Tryz.f262 0 zoi zg3 = zov (zvD K):=tr1 (T:=zov) (zOw K K) fun (x0,x1,())=>by kernel_rfl
end
def zaP:zyI:=zov (zvD K0)
theorem zSo:Sd Tryz.prog E0 (zl8 zaP):=mkS (l:=[]) trivial Tryz.func262 (by kernel_rfl) (zSn K0)
section
variable (zow:zyI)
def zsK:((List qh) × ((Option ((qh × Unit)→Option (Bool × Unit))) × Unit))→Option (Bool × Unit):=fun (x0,x1,()) =>
  Option.bind (zow (x0,x1,())) fun q0=>bif decide (q0.1 ≥ 0) then some (true,()) else some (false,())
theorem zMT (K:Nat):evF (En E0 false [zl8 zow]) K Tryz.f208 0 zjr zjs = zsK zow:=funext fun (x0,x1,())=>by kernel_rfl
end
def jq:zjt:=zsK zaP
theorem zsL:Sd Tryz.prog E0 (zax jq):=mkS (l:=[zl8 zaP]) ⟨zSo,trivial⟩ Tryz.func208 (by kernel_rfl) (zMT zaP K0)
section
def zT2:(Int × Unit)→Option (Bool × Unit):=fun (x0,()) =>
  bif decide (x0 ≥ 0) then bif decide (x0 ≤ 127) then some (true,()) else some (false,()) else some (false,())
theorem qdr (K:Nat):evF (En E0 false []) K Tryz.f283 0 zTG zTH = zT2:=funext fun (x0,())=>by kernel_rfl
end
def zvE:z3O:=zT2
theorem qds:Sd Tryz.prog E0 (zP1 zvE):=mkS (l:=[]) trivial Tryz.func283 (by kernel_rfl) (qdr K0)
section
variable (zBM:z3O)
def zAy:(qh × Unit)→Option (Bool × Unit):=fun (x0,()) =>
  Option.bind (zBM (x0.2.1,())) fun q0=>bif q0.1 then Option.bind (zBM (x0.2.2.1,())) fun q1=>bif q1.1 then Option.bind (zBM (x0.2.2.2.1,())) fun q2=>bif q2.1 then some (true,()) else some (false,()) else some (false,()) else some (false,())
theorem z1S (K:Nat):evF (En E0 false [zP1 zBM]) K Tryz.f263 0 zAk zAl = zAy zBM:=funext fun (x0,())=>by kernel_rfl
end
def zkO:zOd:=zAy zvE
theorem z1T:Sd Tryz.prog E0 (zxh zkO):=mkS (l:=[zP1 zvE]) ⟨qds,trivial⟩ Tryz.func263 (by kernel_rfl) (z1S zvE K0)
section
def zIt:(Int × Unit)→Option (Bool × Unit):=fun (x0,()) =>
  bif decide (x0 ≥ 32) then bif decide (x0 ≤ 126) then some (true,()) else some (false,()) else some (false,())
theorem z7w (K:Nat):evF (En E0 false []) K Tryz.f284 0 zH1 zH2 = zIt:=funext fun (x0,())=>by kernel_rfl
end
def zkP:zTI:=zIt
theorem z7x:Sd Tryz.prog E0 (zDV zkP):=mkS (l:=[]) trivial Tryz.func284 (by kernel_rfl) (z7w K0)
section
abbrev zri:Env:=(En E0 false [])
abbrev yP:Type:=ByteArray × Int
abbrev zFB:yP→St:=fun (v0,v1)=>St.mk [(0,AV.dat Ty.str v0),(1,AV.dat (Ty.int IntKind.u8) v1)] []
def qk (k0:yP→Option (ByteArray × Unit)):yP→Option (ByteArray × Unit):=fun (v0,v1) =>
  bif decide ((↑(ByteArray.size v0):Int) > 0) then inR (wI ((↑(ByteArray.size v0):Int) - 1)) (↑(ByteArray.size v0):Int) (bif (↑(UInt8.toNat (List.getD (Array.toList (ByteArray.data v0)) (Int.toNat (wI ((↑(ByteArray.size v0):Int) - 1))) 0)):Int) == v1 then bif decide (0 ≤ wI ((↑(ByteArray.size v0):Int) - 1)) then bif decide (wI ((↑(ByteArray.size v0):Int) - 1) ≤ (↑(ByteArray.size v0):Int)) then k0 (ByteArray.extract v0 0 (Int.toNat (wI ((↑(ByteArray.size v0):Int) - 1))),v1) else none else none else some (v0,())) else some (v0,())
abbrev zoO (K:Nat):yP→Option (ByteArray × Unit):=iter (qk) K
theorem zFC (K:Nat):∀ n,evV (zri) K Tryz.f291 0 zcV [1,0,0] [] zFB n = iter (qk) n:=zm fun n0 (v0,v1)=>by kernel_rfl
def zhq (L0:yP→Option (ByteArray × Unit)):(ByteArray × (Int × Unit))→Option (ByteArray × Unit):=fun (x0,x1,()) =>
  L0 (x0,x1)
theorem zJR (K:Nat):evF (zri) K Tryz.f291 0 zho zcV = zhq (zoO K):=tr1 (T:=zhq) (zFC K K) fun (x0,x1,())=>by kernel_rfl
end
def zay:zre:=zhq (zoO K0)
theorem zJS:Sd Tryz.prog E0 (zgd zay):=mkS (l:=[]) trivial Tryz.func291 (by kernel_rfl) (zJR K0)
section
abbrev zsM:Env:=(En E0 false [])
abbrev y6:Type:=ByteArray × Int
abbrev zIu:y6→St:=fun (v0,v1)=>St.mk [(0,AV.dat Ty.str v0),(1,AV.dat (Ty.int IntKind.u8) v1)] []
def qq (k0:y6→Option (ByteArray × Unit)):y6→Option (ByteArray × Unit):=fun (v0,v1) =>
  bif decide ((↑(ByteArray.size v0):Int) > 0) then bif decide (0 < (↑(ByteArray.size v0):Int)) then bif (↑(UInt8.toNat (List.getD (Array.toList (ByteArray.data v0)) (Int.toNat 0) 0)):Int) == v1 then bif decide (1 ≤ (↑(ByteArray.size v0):Int)) then k0 (ByteArray.extract v0 (Int.toNat 1) (ByteArray.size v0),v1) else none else some (v0,()) else none else some (v0,())
abbrev zpV (K:Nat):y6→Option (ByteArray × Unit):=iter (qq) K
theorem zIv (K:Nat):∀ n,evV (zsM) K Tryz.f290 0 zdJ [1,0,0] [] zIu n = iter (qq) n:=zm fun n0 (v0,v1)=>by kernel_rfl
def zjI (L0:y6→Option (ByteArray × Unit)):(ByteArray × (Int × Unit))→Option (ByteArray × Unit):=fun (x0,x1,()) =>
  L0 (x0,x1)
theorem zMU (K:Nat):evF (zsM) K Tryz.f290 0 zjA zdJ = zjI (zpV K):=tr1 (T:=zjI) (zIv K K) fun (x0,x1,())=>by kernel_rfl
end
def za2:zsC:=zjI (zpV K0)
theorem zMV:Sd Tryz.prog E0 (zhn za2):=mkS (l:=[]) trivial Tryz.func290 (by kernel_rfl) (zMU K0)
section
variable (zhr:zre) (zjJ:zsC)
def zAz:(ByteArray × (ByteArray × Unit))→Option (ByteArray × Unit):=fun (x0,x1,()) =>
  bif ByteArray.toList x0 == ByteArray.toList (ByteArray.mk #[]) then some (x0,()) else bif ByteArray.toList x1 == ByteArray.toList (ByteArray.mk #[]) then some (x0,()) else bif (↑(ByteArray.size x1):Int) == 1 then bif decide (0 < (↑(ByteArray.size x1):Int)) then bif decide ((↑(UInt8.toNat (List.getD (Array.toList (ByteArray.data x1)) (Int.toNat 0) 0)):Int) < 128) then bif decide (0 < (↑(ByteArray.size x1):Int)) then Option.bind (zhr (x0,(↑(UInt8.toNat (List.getD (Array.toList (ByteArray.data x1)) (Int.toNat 0) 0)):Int),())) fun q0=>bif decide (0 < (↑(ByteArray.size x1):Int)) then Option.bind (zjJ (q0.1,(↑(UInt8.toNat (List.getD (Array.toList (ByteArray.data x1)) (Int.toNat 0) 0)):Int),())) fun q1=>some (q1.1,()) else none else none else none else none else none
theorem z1U (K:Nat):evF (En E0 false [zgd zhr,zhn zjJ]) K Tryz.f285 0 zAo zAp = zAz zhr zjJ:=funext fun (x0,x1,())=>by kernel_rfl
end
def zfM:zOf:=zAz zay za2
theorem z1V:Sd Tryz.prog E0 (zxo zfM):=mkS (l:=[zgd zay,zhn za2]) ⟨zJS,zMV,trivial⟩ Tryz.func285 (by kernel_rfl) (z1U zay za2 K0)
section
variable (zmi:zPQ) (zIw:zTI) (zAA:zOf)
def zMW:(ByteArray × Unit)→Option (Bool × Unit):=fun (x0,()) =>
  bif decide ((↑(ByteArray.size x0):Int) ≥ 1) then bif decide ((↑(ByteArray.size x0):Int) ≤ 40) then Option.bind (zmi (x0,some zIw,())) fun q0=>bif q0.1 then Option.bind (zAA (x0,ByteArray.mk #[32],())) fun q1=>bif ByteArray.toList q1.1 == ByteArray.toList x0 then some (true,()) else some (false,()) else some (false,()) else some (false,()) else some (false,())
theorem z9s (K:Nat):evF (En E0 false [zsy zmi,zDV zIw,zxo zAA]) K Tryz.f264 0 zMy zMz = zMW zmi zIw zAA:=funext fun (x0,())=>by kernel_rfl
end
def znH:zWo:=zMW zif zkP zfM
theorem z9t:Sd Tryz.prog E0 (zHV znH):=mkS (l:=[zsy zif,zDV zkP,zxo zfM]) ⟨zZg,z7x,z1V,trivial⟩ Tryz.func264 (by kernel_rfl) (z9s zif zkP zfM K0)
section
variable (zAB:zOd) (zMX:zWo)
def zIx:(qh × Unit)→Option (Bool × Unit):=fun (x0,()) =>
  bif x0.1 then Option.bind (zAB (x0,())) fun q0=>bif q0.1 then Option.bind (zMX (x0.2.2.2.2.1,())) fun q1=>bif q1.1 then some (false,()) else some (true,()) else some (true,()) else bif !eqI zZ x0 (zb zZ) then some (true,()) else some (false,())
theorem z7y (K:Nat):evF (En E0 false [zxh zAB,zHV zMX]) K Tryz.f209 0 zHu zHv = zIx zAB zMX:=funext fun (x0,())=>by kernel_rfl
end
def zkQ:zTu:=zIx zkO znH
theorem z7z:Sd Tryz.prog E0 (zDJ zkQ):=mkS (l:=[zxh zkO,zHV znH]) ⟨z1T,z9t,trivial⟩ Tryz.func209 (by kernel_rfl) (z7y zkO znH K0)
section
variable (vN:zjt) (zIy:zTu)
def zIz:((List qh) × Unit)→Option (Bool × Unit):=fun (x0,()) =>
  Option.bind (vN (x0,some zIy,())) fun q0=>bif q0.1 then some (false,()) else some (true,())
theorem z7A (K:Nat):evF (En E0 false [zax vN,zDJ zIy]) K Tryz.f130 0 zGT zGU = zIz vN zIy:=funext fun (x0,())=>by kernel_rfl
end
def zkR:zTk:=zIz jq zkQ
theorem z7B:Sd Tryz.prog E0 (zDj zkR):=mkS (l:=[zax jq,zDJ zkQ]) ⟨zsL,z7z,trivial⟩ Tryz.func130 (by kernel_rfl) (z7A jq zkQ K0)
section
abbrev zxz:Env:=(En E0 false [])
abbrev za3:Type:=(List zo) × (Option ((zo × Unit)→Option (Bool × Unit))) × Int × Int
abbrev zMY:za3→St:=fun (v0,v1,v7,v8)=>St.mk [(0,AV.dat (Ty.sl zu) v0),(1,AV.dat (Ty.fn (Ty.pair zu Ty.unit) (Ty.pair Ty.bool Ty.unit)) v1),(7,AV.dat tI v7),(8,AV.dat tI v8)] []
def zjK (k0:za3→Option (Int × Unit)):za3→Option (Int × Unit):=fun (v0,v1,v7,v8) =>
  bif decide (v8 < v7) then inR v8 ((List.length v0):Int) (Option.bind v1 fun q0=>Option.bind (q0 (ix qb v0 v8,())) fun q1=>bif q1.1 then some (v8,()) else k0 (v0,v1,v7,wI (v8 + 1))) else some ((-1),())
abbrev zsN (K:Nat):za3→Option (Int × Unit):=iter (zjK) K
theorem zMZ (K:Nat):∀ n,evV (zxz) K Tryz.f265 0 zfr [1,0,1,0] [] zMY n = iter (zjK) n:=zm fun n0 (v0,v1,v7,v8)=>by kernel_rfl
def zmm (L0:za3→Option (Int × Unit)):((List zo) × ((Option ((zo × Unit)→Option (Bool × Unit))) × Unit))→Option (Int × Unit):=fun (x0,x1,()) =>
  L0 (x0,x1,((List.length x0):Int),0)
theorem zQb (K:Nat):evF (zxz) K Tryz.f265 0 zl9 zfr = zmm (zsN K):=tr1 (T:=zmm) (zMZ K K) fun (x0,x1,())=>by kernel_rfl
end
def zar:zxi:=zmm (zsN K0)
theorem zQc:Sd Tryz.prog E0 (zkw zar):=mkS (l:=[]) trivial Tryz.func265 (by kernel_rfl) (zQb K0)
section
variable (zmn:zxi)
def zrj:((List zo) × ((Option ((zo × Unit)→Option (Bool × Unit))) × Unit))→Option (Bool × Unit):=fun (x0,x1,()) =>
  Option.bind (zmn (x0,x1,())) fun q0=>bif decide (q0.1 ≥ 0) then some (true,()) else some (false,())
theorem zJT (K:Nat):evF (En E0 false [zkw zmn]) K Tryz.f210 0 zhd zhe = zrj zmn:=funext fun (x0,x1,())=>by kernel_rfl
end
def ji:zhf:=zrj zar
theorem zrk:Sd Tryz.prog E0 (yZ ji):=mkS (l:=[zkw zar]) ⟨zQc,trivial⟩ Tryz.func210 (by kernel_rfl) (zJT zar K0)
section
def zQd:(Int × Unit)→Option (Bool × Unit):=fun (x0,()) =>
  bif decide (x0 ≥ 0) then bif decide (x0 ≤ 127) then some (true,()) else some (false,()) else some (false,())
theorem qb4 (K:Nat):evF (En E0 false []) K Tryz.f266 0 zPT zPU = zQd:=funext fun (x0,())=>by kernel_rfl
end
def zfv:zPV:=zQd
theorem zZp:Sd Tryz.prog E0 (zsA zfv):=mkS (l:=[]) trivial Tryz.func266 (by kernel_rfl) (qb4 K0)
section
def zIA:(Int × Unit)→Option (Bool × Unit):=fun (x0,()) =>
  bif decide (x0 ≥ 0) then bif decide (x0 < 4) then some (true,()) else some (false,()) else some (false,())
theorem z7C (K:Nat):evF (En E0 false []) K Tryz.f43 0 zGj zGk = zIA:=funext fun (x0,())=>by kernel_rfl
end
def qI:zdV:=zIA
theorem zgq:Sd Tryz.prog E0 (j5 qI):=mkS (l:=[]) trivial Tryz.func43 (by kernel_rfl) (z7C K0)
section
variable (zE:zdV) (zii:zPV)
def zM0:(zoE × Unit)→Option (Bool × Unit):=fun (x0,()) =>
  Option.bind (zE (x0.1,())) fun q0=>bif q0.1 then bif decide (x0.2.1 ≤ 4611686018427387904) then bif x0.2.2.1 == -1 then some (true,()) else Option.bind (zii (x0.2.2.1,())) fun q1=>bif q1.1 then some (true,()) else some (false,()) else some (false,()) else some (false,())
theorem z9u (K:Nat):evF (En E0 false [j5 zE,zsA zii]) K Tryz.f267 0 zMA zMB = zM0 zE zii:=funext fun (x0,())=>by kernel_rfl
end
def znI:zWp:=zM0 qI zfv
theorem z9v:Sd Tryz.prog E0 (zHW znI):=mkS (l:=[j5 qI,zsA zfv]) ⟨zgq,zZp,trivial⟩ Tryz.func267 (by kernel_rfl) (z9u qI zfv K0)
section
def zIB:(zoE × Unit)→Option (Bool × Unit):=fun (x0,()) =>
  bif eqI zj1 x0 (x0.1,(zb zj1).2.1,-1,(zb zj1).2.2.2) then some (true,()) else some (false,())
theorem z7D (K:Nat):evF (En E0 false []) K Tryz.f268 0 zHX zHY = zIB:=funext fun (x0,())=>by kernel_rfl
end
def zkS:zTC:=zIB
theorem z7E:Sd Tryz.prog E0 (zDR zkS):=mkS (l:=[]) trivial Tryz.func268 (by kernel_rfl) (z7D K0)
section
variable (zii:zPV) (zBm:zWp) (zxA:zTC)
def zM1:(zo × Unit)→Option (Bool × Unit):=fun (x0,()) =>
  Option.bind (zii (x0.2.1,())) fun q0=>bif q0.1 then Option.bind (zii (x0.2.2.1,())) fun q1=>bif q1.1 then bif x0.2.1 != x0.2.2.1 then Option.bind (zBm (x0.2.2.2.1,())) fun q2=>bif q2.1 then Option.bind (zBm (x0.2.2.2.2.1,())) fun q3=>bif q3.1 then Option.bind (zxA (x0.2.2.2.1,())) fun q4=>bif q4.1 then Option.bind (zxA (x0.2.2.2.2.1,())) fun q5=>bif q5.1 then some (false,()) else some (true,()) else some (true,()) else some (false,()) else some (false,()) else some (false,()) else some (false,()) else some (false,())
theorem z9w (K:Nat):evF (En E0 false [zsA zii,zHW zBm,zDR zxA]) K Tryz.f212 0 zMi zMj = zM1 zii zBm zxA:=funext fun (x0,())=>by kernel_rfl
end
def znJ:zWh:=zM1 zfv znI zkS
theorem z9x:Sd Tryz.prog E0 (zHw znJ):=mkS (l:=[zsA zfv,zHW znI,zDR zkS]) ⟨zZp,z9v,z7E,trivial⟩ Tryz.func212 (by kernel_rfl) (z9w zfv znI zkS K0)
section
variable (zM2:zWh)
def zxB:(zo × Unit)→Option (Bool × Unit):=fun (x0,()) =>
  bif x0.1 then Option.bind (zM2 (x0,())) fun q0=>bif q0.1 then some (false,()) else some (true,()) else bif !eqI zu x0 (zb zu) then some (true,()) else some (false,())
theorem zZq (K:Nat):evF (En E0 false [zHw zM2]) K Tryz.f211 0 zw5 zw6 = zxB zM2:=funext fun (x0,())=>by kernel_rfl
end
def zeh:zKy:=zxB znJ
theorem zZr:Sd Tryz.prog E0 (zuM zeh):=mkS (l:=[zHw znJ]) ⟨z9x,trivial⟩ Tryz.func211 (by kernel_rfl) (zZq znJ K0)
section
variable (vx:zhf) (zxC:zKy)
def zD5:((List zo) × Unit)→Option (Bool × Unit):=fun (x0,()) =>
  Option.bind (vx (x0,some zxC,())) fun q0=>bif q0.1 then some (false,()) else some (true,())
theorem z4k (K:Nat):evF (En E0 false [yZ vx,zuM zxC]) K Tryz.f131 0 zDk zDl = zD5 vx zxC:=funext fun (x0,())=>by kernel_rfl
end
def zhF:zRe:=zD5 ji zeh
theorem z4l:Sd Tryz.prog E0 (zzY zhF):=mkS (l:=[yZ ji,zuM zeh]) ⟨zrk,zZr,trivial⟩ Tryz.func131 (by kernel_rfl) (z4k ji zeh K0)
end
end Go.Proofs.YtaokpakfhdeiiaaGreatDoor
end
section
namespace Go.Proofs.YtaokpakfhdeiiaaGreatDoor
open Go.Ev
noncomputable section
section
variable (zIC:zTi) (zID:zTj) (zD6:zRd) (zIE:zTk) (zD7:zRe)
def zxD:(zg × Unit)→Option (Bool × Unit):=fun (x0,()) =>
  Option.bind (zIC (x0.1,())) fun q0=>bif q0.1 then Option.bind (zID (x0.2.1,())) fun q1=>bif q1.1 then Option.bind (zD6 (x0.2.2.1,())) fun q2=>bif q2.1 then Option.bind (zIE (x0.2.2.2.1,())) fun q3=>bif q3.1 then Option.bind (zD7 (x0.2.2.2.2.1,())) fun q4=>bif q4.1 then some (true,()) else some (false,()) else some (false,()) else some (false,()) else some (false,()) else some (false,())
theorem zZs (K:Nat):evF (En E0 false [zDf zIC,zDg zID,zzX zD6,zDj zIE,zzY zD7]) K Tryz.f126 0 zww zwx = zxD zIC zID zD6 zIE zD7:=funext fun (x0,())=>by kernel_rfl
end
def zei:zKm:=zxD zkG zpS zhE zkR zhF
theorem zZt:Sd Tryz.prog E0 (zt2 zei):=mkS (l:=[zDf zkG,zDg zpS,zzX zhE,zDj zkR,zzY zhF]) ⟨z7l,z7v,z4j,z7B,z4l,trivial⟩ Tryz.func126 (by kernel_rfl) (zZs zkG zpS zhE zkR zhF K0)
section
variable (zse:zEX) (zxE:zKm)
def zD8:(jh × Unit)→Option (Bool × Unit):=fun (x0,()) =>
  Option.bind (zse (x0.2.1.2.1,some zxE,())) fun q0=>bif q0.1 then some (true,()) else some (false,())
theorem z4m (K:Nat):evF (En E0 false [zpj zse,zt2 zxE]) K Tryz.f56 0 zCz zCA = zD8 zse zxE:=funext fun (x0,())=>by kernel_rfl
end
def zeM:zQT:=zD8 ze4 zei
theorem z4n:Sd Tryz.prog E0 (zzq zeM):=mkS (l:=[zpj ze4,zt2 zei]) ⟨zVf,zZt,trivial⟩ Tryz.func56 (by kernel_rfl) (z4m ze4 zei K0)
section
def zAC:(Int × Unit)→Option (Bool × Unit):=fun (x0,()) =>
  bif decide (x0 < 0) then some (true,()) else bif decide (x0 > 2) then some (true,()) else some (false,())
theorem z1W (K:Nat):evF (En E0 false []) K Tryz.f213 0 zAd zAe = zAC:=funext fun (x0,())=>by kernel_rfl
end
def zbO:zOa:=zAC
theorem z1X:Sd Tryz.prog E0 (zw7 zbO):=mkS (l:=[]) trivial Tryz.func213 (by kernel_rfl) (z1W K0)
section
variable (zJ:zhz) (zdi:zOa) (zB:yU)
abbrev zT3:Env:=(En E0 false [yg zJ,zw7 zdi,qW zB])
abbrev zkT:Type:=(Option ((Int × Unit)→Option (Bool × Unit))) × (List (List Int)) × Int × Int × zd
abbrev z1Y:zkT→St:=fun (v5,v19,v20,v21,o0)=>St.mk [(2,AV.bp 0 []),(5,AV.dat (Ty.fn (Ty.pair tI Ty.unit) (Ty.pair Ty.bool Ty.unit)) v5),(19,AV.dat (Ty.sl (Ty.sl tI)) v19),(20,AV.dat tI v20),(21,AV.dat tI v21)] [Obj.bx (AV.dat zC o0) false]
def zqO (k0:zkT→Option (Bool × Unit)):zkT→Option (Bool × Unit):=fun (v5,v19,v20,v21,o0) =>
  bif decide (v21 < v20) then inR v21 ((List.length v19):Int) (bif ((List.length (List.getD v19 (Int.toNat v21) ([]:List Int))):Int) != ((List.length o0.2.2.1):Int) then some (false,()) else Option.bind (zB (List.getD v19 (Int.toNat v21) ([]:List Int),v5,())) fun q1=>bif q1.1 then some (false,()) else inR v21 ((List.length o0.2.2.2.1):Int) (inR (ix qj o0.2.2.2.1 v21).2.1 ((List.length (List.getD v19 (Int.toNat v21) ([]:List Int))):Int) (bif List.getD (List.getD v19 (Int.toNat v21) ([]:List Int)) (Int.toNat (ix qj o0.2.2.2.1 v21).2.1) (0:Int) != 2 then some (false,()) else k0 (v5,v19,v20,wI (v21 + 1),o0)))) else some (true,())
abbrev zAD (K:Nat):zkT→Option (Bool × Unit):=iter (zqO zB) K
theorem z1Z (K:Nat):∀ n,evV (zT3 zJ zdi zB) K Tryz.f132 0 zwz [1,1,1,0,1,0] [] z1Y n = iter (zqO zB) n:=zm fun n0 (v5,v19,v20,v21,o0)=>by kernel_rfl
def zxF (L0:zkT→Option (Bool × Unit)):(zd × ((List (List Int)) × Unit))→Option (Bool × Unit):=fun (x0,x1,()) =>
  Option.bind (zJ (x0,())) fun q0=>bif q0.1 then bif ((List.length x1):Int) != ((List.length x0.2.2.2.1):Int) then some (false,()) else L0 (some zdi,x1,((List.length x1):Int),0,x0) else some (false,())
theorem z7F (K:Nat):evF (zT3 zJ zdi zB) K Tryz.f132 0 zGV zwz = zxF zJ zdi (zAD zB K):=tr1 (T:=zxF zJ zdi) (z1Z zJ zdi zB K K) fun (x0,x1,())=>by kernel_rfl
end
def zch:zGW:=zxF jD zbO (zAD zQ K0)
theorem zT4:Sd Tryz.prog E0 (zmN zch):=mkS (l:=[yg jD,zw7 zbO,qW zQ]) ⟨zmR,z1X,zbD,trivial⟩ Tryz.func132 (by kernel_rfl) (z7F jD zbO zQ K0)
section
def zsf:(Int × (Int × Unit))→Option (Int × (Int × Unit)):=fun (x0,x1,()) =>
  some (wU (wU (wU (Int.fdiv x0 (2 ^ min (Int.toNat 32) (IntKind.bits IntKind.u64)) * Int.fdiv x1 (2 ^ min (Int.toNat 32) (IntKind.bits IntKind.u64))) + Int.fdiv (wU (wU (Int.fdiv x0 (2 ^ min (Int.toNat 32) (IntKind.bits IntKind.u64)) * wU (↑(BitVec.toNat (BitVec.ofInt (IntKind.bits IntKind.u64) x1 &&& BitVec.ofInt (IntKind.bits IntKind.u64) 4294967295)):Int)) + Int.fdiv (wU (wU (↑(BitVec.toNat (BitVec.ofInt (IntKind.bits IntKind.u64) x0 &&& BitVec.ofInt (IntKind.bits IntKind.u64) 4294967295)):Int) * wU (↑(BitVec.toNat (BitVec.ofInt (IntKind.bits IntKind.u64) x1 &&& BitVec.ofInt (IntKind.bits IntKind.u64) 4294967295)):Int))) (2 ^ min (Int.toNat 32) (IntKind.bits IntKind.u64)))) (2 ^ min (Int.toNat 32) (IntKind.bits IntKind.u64))) + Int.fdiv (wU (wU (↑(BitVec.toNat (BitVec.ofInt (IntKind.bits IntKind.u64) (wU (wU (Int.fdiv x0 (2 ^ min (Int.toNat 32) (IntKind.bits IntKind.u64)) * wU (↑(BitVec.toNat (BitVec.ofInt (IntKind.bits IntKind.u64) x1 &&& BitVec.ofInt (IntKind.bits IntKind.u64) 4294967295)):Int)) + Int.fdiv (wU (wU (↑(BitVec.toNat (BitVec.ofInt (IntKind.bits IntKind.u64) x0 &&& BitVec.ofInt (IntKind.bits IntKind.u64) 4294967295)):Int) * wU (↑(BitVec.toNat (BitVec.ofInt (IntKind.bits IntKind.u64) x1 &&& BitVec.ofInt (IntKind.bits IntKind.u64) 4294967295)):Int))) (2 ^ min (Int.toNat 32) (IntKind.bits IntKind.u64)))) &&& BitVec.ofInt (IntKind.bits IntKind.u64) 4294967295)):Int) + wU (wU (↑(BitVec.toNat (BitVec.ofInt (IntKind.bits IntKind.u64) x0 &&& BitVec.ofInt (IntKind.bits IntKind.u64) 4294967295)):Int) * Int.fdiv x1 (2 ^ min (Int.toNat 32) (IntKind.bits IntKind.u64))))) (2 ^ min (Int.toNat 32) (IntKind.bits IntKind.u64))),wU (x0 * x1),())
theorem zVg (K:Nat):evF (En E0 false []) K Tryz.f297 0 zr9 zsa = zsf:=funext fun (x0,x1,())=>by kernel_rfl
end
def zcC:zE6:=zsf
theorem zVh:Sd Tryz.prog E0 (zpI zcC):=mkS (l:=[]) trivial Tryz.func297 (by kernel_rfl) (zVg K0)
section
variable (zsg:zE6)
def zIF:(Int × (Int × Unit))→Option (Int × (Int × Unit)):=fun (x0,x1,()) =>
  Option.bind (zsg (x0,x1,())) fun q0=>bif q0.1 != 0 then some (0,7,()) else bif decide (q0.2.1 > 4611686018427387904) then some (0,7,()) else some (q0.2.1,0,())
theorem z7G (K:Nat):evF (En E0 false [zpI zsg]) K Tryz.f286 0 zH3 zH4 = zIF zsg:=funext fun (x0,x1,())=>by kernel_rfl
end
def zkU:zTJ:=zIF zcC
theorem z7H:Sd Tryz.prog E0 (zDW zkU):=mkS (l:=[zpI zcC]) ⟨zVh,trivial⟩ Tryz.func286 (by kernel_rfl) (z7G zcC K0)
section
variable (zxG:zTJ)
def zM3:(Int × (Int × (Int × Unit)))→Option (Int × (Int × Unit)):=fun (x0,x1,x2,()) =>
  bif x0 != 1 then bif x0 != 2 then some (0,1,()) else bif x1 == 0 then some (0,1,()) else bif x2 == 0 then some (0,1,()) else Option.bind (zxG (x1,x2,())) fun q0=>bif q0.2.1 != 0 then some (0,q0.2.1,()) else bif x0 == 2 then some (x1,0,()) else some (q0.1,0,()) else bif x1 == 0 then some (0,1,()) else bif x2 == 0 then some (0,1,()) else Option.bind (zxG (x1,x2,())) fun q1=>bif q1.2.1 != 0 then some (0,q1.2.1,()) else bif x0 == 2 then some (x1,0,()) else some (q1.1,0,())
theorem z9y (K:Nat):evF (En E0 false [zDW zxG]) K Tryz.f269 0 zMC zMD = zM3 zxG:=funext fun (x0,x1,x2,())=>by kernel_rfl
end
def zdL:zME:=zM3 zkU
theorem zWr:Sd Tryz.prog E0 (zpE zdL):=mkS (l:=[zDW zkU]) ⟨z7H,trivial⟩ Tryz.func269 (by kernel_rfl) (z9y zkU K0)
section
def zT5:(Int × Unit)→Option (Bool × Unit):=fun (x0,()) =>
  bif decide (x0 ≥ 0) then bif decide (x0 ≤ 127) then some (true,()) else some (false,()) else some (false,())
theorem qdt (K:Nat):evF (En E0 false []) K Tryz.f270 0 zTD zTE = zT5:=funext fun (x0,())=>by kernel_rfl
end
def zvF:z3N:=zT5
theorem qdu:Sd Tryz.prog E0 (zPW zvF):=mkS (l:=[]) trivial Tryz.func270 (by kernel_rfl) (qdt K0)
section
variable (zjL:zME) (zKE:z3N) (zE:zdV)
def zQe:(zj × Unit)→Option (Bool × Unit):=fun (x0,()) =>
  Option.bind (zjL (x0.2.2.2.1,x0.2.2.2.2.2.2.2.1,x0.2.2.2.2.2.2.1,())) fun q0=>bif q0.2.1 == 0 then bif q0.1 == x0.2.2.2.2.2.2.2.2.1 then Option.bind (zKE (x0.2.1,())) fun q1=>bif q1.1 then Option.bind (zKE (x0.2.2.1,())) fun q2=>bif q2.1 then Option.bind (zE (x0.2.2.2.2.1,())) fun q3=>bif q3.1 then Option.bind (zE (x0.2.2.2.2.2.1,())) fun q4=>bif q4.1 then bif x0.2.2.2.2.1 != x0.2.2.2.2.2.1 then bif decide (x0.2.2.2.2.2.2.2.2.2.1 ≥ 0) then some (true,()) else some (false,()) else some (false,()) else some (false,()) else some (false,()) else some (false,()) else some (false,()) else some (false,()) else some (false,())
theorem qb5 (K:Nat):evF (En E0 false [zpE zjL,zPW zKE,j5 zE]) K Tryz.f214 0 zPM zPN = zQe zjL zKE zE:=funext fun (x0,())=>by kernel_rfl
end
def zmo:zY7:=zQe zdL zvF qI
theorem qb6:Sd Tryz.prog E0 (zMk zmo):=mkS (l:=[zpE zdL,zPW zvF,j5 qI]) ⟨zWr,qdu,zgq,trivial⟩ Tryz.func214 (by kernel_rfl) (qb5 zdL zvF qI K0)
section
variable (zij:zY7)
abbrev zT6:Env:=(En E0 false [zMk zij])
abbrev zkV:Type:=Int × (List zj) × Int × Int × List (Int × Int)
abbrev z10:zkV→St:=fun (v4,v8,v9,v10,o0)=>St.mk [(3,AV.om 0),(4,AV.dat tI v4),(8,AV.dat (Ty.sl zi) v8),(9,AV.dat tI v9),(10,AV.dat tI v10)] [Obj.mp tI tI o0]
def zkW (k0:zkV→Option (Bool × Unit)):zkV→Option (Bool × Unit):=fun (v4,v8,v9,v10,o0) =>
  bif decide (v10 < v9) then inR v10 ((List.length v8):Int) (bif (ix zP v8 v10).1 then Option.bind (zij (ix zP v8 v10,())) fun q0=>bif q0.1 then bif (ix zP v8 v10).1 then bif (ix zP v8 v10).1 then k0 (wI (v4 + 1),v8,v9,wI (v10 + 1),yW tI o0 (ix zP v8 v10).2.2.2.2.2.2.2.2.2.1 (wI (zfj tI (0:Int) o0 (ix zP v8 v10).2.2.2.2.2.2.2.2.2.1 + 1))) else k0 (v4,v8,v9,wI (v10 + 1),o0) else bif !eqI zi (ix zP v8 v10) (zb zi) then some (false,()) else bif (ix zP v8 v10).1 then k0 (wI (v4 + 1),v8,v9,wI (v10 + 1),yW tI o0 (ix zP v8 v10).2.2.2.2.2.2.2.2.2.1 (wI (zfj tI (0:Int) o0 (ix zP v8 v10).2.2.2.2.2.2.2.2.2.1 + 1))) else k0 (v4,v8,v9,wI (v10 + 1),o0) else some (false,()) else bif (ix zP v8 v10).1 then bif (ix zP v8 v10).1 then k0 (wI (v4 + 1),v8,v9,wI (v10 + 1),yW tI o0 (ix zP v8 v10).2.2.2.2.2.2.2.2.2.1 (wI (zfj tI (0:Int) o0 (ix zP v8 v10).2.2.2.2.2.2.2.2.2.1 + 1))) else k0 (v4,v8,v9,wI (v10 + 1),o0) else bif !eqI zi (ix zP v8 v10) (zb zi) then some (false,()) else bif (ix zP v8 v10).1 then k0 (wI (v4 + 1),v8,v9,wI (v10 + 1),yW tI o0 (ix zP v8 v10).2.2.2.2.2.2.2.2.2.1 (wI (zfj tI (0:Int) o0 (ix zP v8 v10).2.2.2.2.2.2.2.2.2.1 + 1))) else k0 (v4,v8,v9,wI (v10 + 1),o0)) else bif ((List.length o0):Int) == v4 then some (true,()) else some (false,())
abbrev zOx (K:Nat):zkV→Option (Bool × Unit):=iter (zkW zij) K
theorem z11 (K:Nat):∀ n,evV (zT6 zij) K Tryz.f133 0 zwA [1,1,1,0,1,0] [] z10 n = iter (zkW zij) n:=zm fun n0 (v4,v8,v9,v10,o0)=>by kernel_rfl
def zIG (L0:zkV→Option (Bool × Unit)):((List zj) × Unit)→Option (Bool × Unit):=fun (x0,()) =>
  L0 (0,x0,((List.length x0):Int),0,[])
theorem z7I (K:Nat):evF (zT6 zij) K Tryz.f133 0 zGX zwA = zIG (zOx zij K):=tr1 (T:=zIG) (z11 zij K K) fun (x0,())=>by kernel_rfl
end
def zpW:zTl:=zIG (zOx zmo K0)
theorem z7J:Sd Tryz.prog E0 (zDm zpW):=mkS (l:=[zMk zmo]) ⟨qb6,trivial⟩ Tryz.func133 (by kernel_rfl) (z7I zmo K0)
section
def zQf:(Int × Unit)→Option (Bool × Unit):=fun (x0,()) =>
  bif decide (x0 ≥ 0) then bif decide (x0 ≤ 127) then some (true,()) else some (false,()) else some (false,())
theorem qb7 (K:Nat):evF (En E0 false []) K Tryz.f271 0 zPX zPY = zQf:=funext fun (x0,())=>by kernel_rfl
end
def zqP:zY9:=zQf
theorem qb8:Sd Tryz.prog E0 (zMF zqP):=mkS (l:=[]) trivial Tryz.func271 (by kernel_rfl) (qb7 K0)
section
variable (zqQ:zY9) (zjL:zME) (zE:zdV)
def zM4:(zy × Unit)→Option (Bool × Unit):=fun (x0,()) =>
  bif decide (x0.1 > 4611686018427387904) then some (false,()) else Option.bind (zqQ (x0.2.1,())) fun q0=>bif q0.1 then Option.bind (zqQ (x0.2.2.1,())) fun q1=>bif q1.1 then Option.bind (zqQ (x0.2.2.2.1,())) fun q2=>bif q2.1 then Option.bind (zqQ (x0.2.2.2.2.2.2.2.2.2.1,())) fun q3=>bif q3.1 then bif x0.2.2.2.2.1 == 3 then bif eqI zl x0 (x0.1,x0.2.1,x0.2.2.1,x0.2.2.2.1,x0.2.2.2.2.1,(zb zl).2.2.2.2.2.1,(zb zl).2.2.2.2.2.2.1,(zb zl).2.2.2.2.2.2.2.1,(zb zl).2.2.2.2.2.2.2.2.1,x0.2.2.2.2.2.2.2.2.2.1,(zb zl).2.2.2.2.2.2.2.2.2.2) then some (true,()) else some (false,()) else Option.bind (zjL (x0.2.2.2.2.1,x0.2.2.2.2.2.2.2.1,x0.2.2.2.2.2.2.2.2.1,())) fun q4=>bif q4.2.1 == 0 then bif x0.2.2.2.2.2.2.2.2.2.1 == 0 then bif x0.2.2.2.2.2.1 != x0.2.2.2.2.2.2.1 then Option.bind (zE (x0.2.2.2.2.2.1,())) fun q5=>bif q5.1 then Option.bind (zE (x0.2.2.2.2.2.2.1,())) fun q6=>bif q6.1 then some (true,()) else some (false,()) else some (false,()) else some (false,()) else some (false,()) else some (false,()) else some (false,()) else some (false,()) else some (false,()) else some (false,())
theorem z9z (K:Nat):evF (En E0 false [zMF zqQ,zpE zjL,j5 zE]) K Tryz.f215 0 zMl zMm = zM4 zqQ zjL zE:=funext fun (x0,())=>by kernel_rfl
end
def zjM:zWi:=zM4 zqP zdL qI
theorem z9A:Sd Tryz.prog E0 (zHx zjM):=mkS (l:=[zMF zqP,zpE zdL,j5 qI]) ⟨qb8,zWr,zgq,trivial⟩ Tryz.func215 (by kernel_rfl) (z9z zqP zdL qI K0)
section
variable (yr:zl3) (zaA:zr6) (zgf:zHz)
def zD9:(zy × (zy × Unit))→Option (Int × Unit):=fun (x0,x1,()) =>
  Option.bind (yr (x0.1,x1.1,())) fun q0=>Option.bind (zaA (x0.2.1,x1.2.1,())) fun q1=>Option.bind (zgf (zk (zk (List.replicate 2 (0:Int)) 0 q0.1) 1 q1.1,())) fun q2=>some (q2.1,())
theorem z4o (K:Nat):evF (En E0 false [zbA yr,zdX zaA,zmO zgf]) K Tryz.f216 0 zDK zDL = zD9 yr zaA zgf:=funext fun (x0,x1,())=>by kernel_rfl
end
def zeN:zRl:=zD9 vc vX zaY
theorem z4p:Sd Tryz.prog E0 (zAf zeN):=mkS (l:=[zbA vc,zdX vX,zmO zaY]) ⟨zxr,zE7,zTO,trivial⟩ Tryz.func216 (by kernel_rfl) (z4o vc vX zaY K0)
section
variable (zfC:zWi) (zcG:zRl)
abbrev zRs:Env:=(En E0 false [zHx zfC,zAf zcG])
abbrev zik:Type:=(List zy) × (List zy) × Int × Int
abbrev zZu:zik→St:=fun (v0,v5,v6,v7)=>St.mk [(0,AV.dat (Ty.sl zl) v0),(5,AV.dat (Ty.sl zl) v5),(6,AV.dat tI v6),(7,AV.dat tI v7)] []
def zil (k0:zik→Option (Bool × Unit)):zik→Option (Bool × Unit):=fun (v0,v5,v6,v7) =>
  bif decide (v7 < v6) then inR v7 ((List.length v5):Int) (Option.bind (zfC (ix zaV v5 v7,())) fun q0=>bif q0.1 then bif decide (v7 > 0) then inR (wI (v7 - 1)) ((List.length v0):Int) (Option.bind (zcG (List.getD v0 (Int.toNat (wI (v7 - 1))) (zb zl),ix zaV v5 v7,())) fun q1=>bif decide (q1.1 ≥ 0) then some (false,()) else k0 (v0,v5,v6,wI (v7 + 1))) else k0 (v0,v5,v6,wI (v7 + 1)) else some (false,())) else some (true,())
abbrev zKF (K:Nat):zik→Option (Bool × Unit):=iter (zil zfC zcG) K
theorem zZv (K:Nat):∀ n,evV (zRs zfC zcG) K Tryz.f134 0 ztj [1,0,1,0] [] zZu n = iter (zil zfC zcG) n:=zm fun n0 (v0,v5,v6,v7)=>by kernel_rfl
def zEa (L0:zik→Option (Bool × Unit)):((List zy) × Unit)→Option (Bool × Unit):=fun (x0,()) =>
  L0 (x0,x0,((List.length x0):Int),0)
theorem z4q (K:Nat):evF (zRs zfC zcG) K Tryz.f134 0 zDn ztj = zEa (zKF zfC zcG K):=tr1 (T:=zEa) (zZv zfC zcG K K) fun (x0,())=>by kernel_rfl
end
def zmW:zRf:=zEa (zKF zjM zeN K0)
theorem z4r:Sd Tryz.prog E0 (zzZ zmW):=mkS (l:=[zHx zjM,zAf zeN]) ⟨z9A,z4p,trivial⟩ Tryz.func134 (by kernel_rfl) (z4q zjM zeN K0)
section
def zEb:(ze × (qe × Unit))→Option (Bool × Unit):=fun (x0,x1,()) =>
  bif decide (x1.1 ≥ 0) then bif decide (x1.1 < ((List.length x0.2.1):Int)) then bif decide (x1.2.1 ≥ 0) then inR x1.1 ((List.length x0.2.1):Int) (bif decide (x1.2.1 < ((List.length (ix za x0.2.1 x1.1).1):Int)) then inR x1.1 ((List.length x0.2.1):Int) (inR x1.2.1 ((List.length (ix za x0.2.1 x1.1).1):Int) (bif (List.getD (ix za x0.2.1 x1.1).1 (Int.toNat x1.2.1) (zb zX)).1 then some (true,()) else some (false,()))) else some (false,())) else some (false,()) else some (false,()) else some (false,())
theorem z4s (K:Nat):evF (En E0 false []) K Tryz.f62 0 zCE zCF = zEb:=funext fun (x0,x1,())=>by kernel_rfl
end
def yb:zs9:=zEb
theorem zEc:Sd Tryz.prog E0 (zde yb):=mkS (l:=[]) trivial Tryz.func62 (by kernel_rfl) (z4s K0)
section
def zEd:(jh × (Int × Unit))→Option (Bool × Unit):=fun (x0,x1,()) =>
  bif decide (x1 ≥ 0) then bif decide (x1 < ((List.length x0.1.1):Int)) then some (true,()) else some (false,()) else some (false,())
theorem z4t (K:Nat):evF (En E0 false []) K Tryz.f137 0 zDo zDp = zEd:=funext fun (x0,x1,())=>by kernel_rfl
end
def zbm:zDq:=zEd
theorem zRt:Sd Tryz.prog E0 (zko zbm):=mkS (l:=[]) trivial Tryz.func137 (by kernel_rfl) (z4t K0)
section
def zxH:(jh × (Int × Unit))→Option (Bool × Unit):=fun (x0,x1,()) =>
  bif decide (x1 ≥ 0) then bif decide (x1 < ((List.length x0.1.2.2.1):Int)) then some (true,()) else some (false,()) else some (false,())
theorem zZw (K:Nat):evF (En E0 false []) K Tryz.f138 0 zwB zwC = zxH:=funext fun (x0,x1,())=>by kernel_rfl
end
def qu:zcb:=zxH
theorem zej:Sd Tryz.prog E0 (jP qu):=mkS (l:=[]) trivial Tryz.func138 (by kernel_rfl) (zZw K0)
section
variable (zcH:zDq) (qc:zcb)
def zu3:(zj × ((Option jh) × Unit))→Option (Bool × Unit):=fun (x0,x1,()) =>
  bif x0.1 then Option.bind x1 fun q0=>Option.bind (zcH (q0,x0.2.1,())) fun q1=>bif q1.1 then Option.bind x1 fun q2=>Option.bind (qc (q2,x0.2.2.1,())) fun q3=>bif q3.1 then Option.bind x1 fun q4=>bif decide (x0.2.2.2.2.2.2.2.2.2.1 < ((List.length q4.2.1.2.2.2.2.1):Int)) then some (true,()) else some (false,()) else some (false,()) else some (false,()) else some (true,())
theorem zW9 (K:Nat):evF (En E0 false [zko zcH,jP qc]) K Tryz.f136 0 zt3 zt4 = zu3 zcH qc:=funext fun (x0,x1,())=>by kernel_rfl
end
def zdj:zGY:=zu3 zbm qu
theorem zXa:Sd Tryz.prog E0 (zrF zdj):=mkS (l:=[zko zbm,jP qu]) ⟨zRt,zej,trivial⟩ Tryz.func136 (by kernel_rfl) (zW9 zbm qu K0)
section
def zyS:(zj × ((Option (Option ((zj × Unit)→Option (Bool × Unit)))) × Unit))→Option (Bool × Unit):=fun (x0,x1,()) =>
  Option.bind x1 fun q0=>Option.bind q0 fun q1=>Option.bind (q1 (x0,())) fun q2=>bif q2.1 then some (false,()) else some (true,())
theorem zSp (K:Nat):evF (En E0 false []) K Tryz.f218 0 zn3 zn4 = zyS:=funext fun (x0,x1,())=>by kernel_rfl
end
def zaQ:zyD:=zyS
theorem zSq:Sd Tryz.prog E0 (zlX zaQ):=mkS (l:=[]) trivial Tryz.func218 (by kernel_rfl) (zSp K0)
section
abbrev zxI:Env:=(En E0 false [])
abbrev za4:Type:=(List zj) × (Option ((zj × Unit)→Option (Bool × Unit))) × Int × Int
abbrev zM5:za4→St:=fun (v0,v1,v7,v8)=>St.mk [(0,AV.dat (Ty.sl zi) v0),(1,AV.dat (Ty.fn (Ty.pair zi Ty.unit) (Ty.pair Ty.bool Ty.unit)) v1),(7,AV.dat tI v7),(8,AV.dat tI v8)] []
def zjN (k0:za4→Option (Int × Unit)):za4→Option (Int × Unit):=fun (v0,v1,v7,v8) =>
  bif decide (v8 < v7) then inR v8 ((List.length v0):Int) (Option.bind v1 fun q0=>Option.bind (q0 (ix zP v0 v8,())) fun q1=>bif q1.1 then some (v8,()) else k0 (v0,v1,v7,wI (v8 + 1))) else some ((-1),())
abbrev zsO (K:Nat):za4→Option (Int × Unit):=iter (zjN) K
theorem zM6 (K:Nat):∀ n,evV (zxI) K Tryz.f272 0 zfs [1,0,1,0] [] zM5 n = iter (zjN) n:=zm fun n0 (v0,v1,v7,v8)=>by kernel_rfl
def zmp (L0:za4→Option (Int × Unit)):((List zj) × ((Option ((zj × Unit)→Option (Bool × Unit))) × Unit))→Option (Int × Unit):=fun (x0,x1,()) =>
  L0 (x0,x1,((List.length x0):Int),0)
theorem zQg (K:Nat):evF (zxI) K Tryz.f272 0 zma zfs = zmp (zsO K):=tr1 (T:=zmp) (zM6 K K) fun (x0,x1,())=>by kernel_rfl
end
def zas:zxj:=zmp (zsO K0)
theorem zQh:Sd Tryz.prog E0 (zkx zas):=mkS (l:=[]) trivial Tryz.func272 (by kernel_rfl) (zQg K0)
section
variable (zmq:zxj)
def zrl:((List zj) × ((Option ((zj × Unit)→Option (Bool × Unit))) × Unit))→Option (Bool × Unit):=fun (x0,x1,()) =>
  Option.bind (zmq (x0,x1,())) fun q0=>bif decide (q0.1 ≥ 0) then some (true,()) else some (false,())
theorem zJU (K:Nat):evF (En E0 false [zkx zmq]) K Tryz.f217 0 zhg zhh = zrl zmq:=funext fun (x0,x1,())=>by kernel_rfl
end
def vy:zrc:=zrl zas
theorem zJV:Sd Tryz.prog E0 (zgb vy):=mkS (l:=[zkx zas]) ⟨zQh,trivial⟩ Tryz.func217 (by kernel_rfl) (zJU zas K0)
section
variable (zox:zyD) (zhs:zrc)
def zFa:((List zj) × ((Option ((zj × Unit)→Option (Bool × Unit))) × Unit))→Option (Bool × Unit):=fun (x0,x1,()) =>
  Option.bind (zhs (x0,some fun z=>zox (z.1,some x1,()),())) fun q0=>bif q0.1 then some (false,()) else some (true,())
theorem zVi (K:Nat):evF (En E0 false [zlX zox,zgb zhs]) K Tryz.f135 0 zrD zrE = zFa zox zhs:=funext fun (x0,x1,())=>by kernel_rfl
end
def ze5:zEY:=zFa zaQ vy
theorem zVj:Sd Tryz.prog E0 (zpk ze5):=mkS (l:=[zlX zaQ,zgb vy]) ⟨zSq,zJV,trivial⟩ Tryz.func135 (by kernel_rfl) (zVi zaQ vy K0)
section
variable (qc:zcb)
def zu4:(zy × ((Option jh) × Unit))→Option (Bool × Unit):=fun (x0,x1,()) =>
  Option.bind x1 fun q0=>bif decide (x0.2.1 < ((List.length q0.1.2.1):Int)) then Option.bind x1 fun q1=>inR x0.2.1 ((List.length q1.1.2.1):Int) (bif x0.2.2.1 == ix (0:Int) q1.1.2.1 x0.2.1 then Option.bind x1 fun q2=>Option.bind (qc (q2,x0.2.2.2.1,())) fun q3=>bif q3.1 then Option.bind x1 fun q4=>bif decide (x0.1 ≤ q4.2.1.1) then some (true,()) else some (false,()) else some (false,()) else some (false,())) else some (false,())
theorem zXb (K:Nat):evF (En E0 false [jP qc]) K Tryz.f140 0 zt5 zt6 = zu4 qc:=funext fun (x0,x1,())=>by kernel_rfl
end
def zdk:zGZ:=zu4 qu
theorem zXc:Sd Tryz.prog E0 (zrI zdk):=mkS (l:=[jP qu]) ⟨zej,trivial⟩ Tryz.func140 (by kernel_rfl) (zXb qu K0)
section
def zyT:(zy × ((Option (Option ((zy × Unit)→Option (Bool × Unit)))) × Unit))→Option (Bool × Unit):=fun (x0,x1,()) =>
  Option.bind x1 fun q0=>Option.bind q0 fun q1=>Option.bind (q1 (x0,())) fun q2=>bif q2.1 then some (false,()) else some (true,())
theorem zSr (K:Nat):evF (En E0 false []) K Tryz.f220 0 zn5 zn6 = zyT:=funext fun (x0,x1,())=>by kernel_rfl
end
def zaR:zyE:=zyT
theorem zSs:Sd Tryz.prog E0 (zlY zaR):=mkS (l:=[]) trivial Tryz.func220 (by kernel_rfl) (zSr K0)
section
abbrev zxJ:Env:=(En E0 false [])
abbrev za5:Type:=(List zy) × (Option ((zy × Unit)→Option (Bool × Unit))) × Int × Int
abbrev zM7:za5→St:=fun (v0,v1,v7,v8)=>St.mk [(0,AV.dat (Ty.sl zl) v0),(1,AV.dat (Ty.fn (Ty.pair zl Ty.unit) (Ty.pair Ty.bool Ty.unit)) v1),(7,AV.dat tI v7),(8,AV.dat tI v8)] []
def zjO (k0:za5→Option (Int × Unit)):za5→Option (Int × Unit):=fun (v0,v1,v7,v8) =>
  bif decide (v8 < v7) then inR v8 ((List.length v0):Int) (Option.bind v1 fun q0=>Option.bind (q0 (ix zaV v0 v8,())) fun q1=>bif q1.1 then some (v8,()) else k0 (v0,v1,v7,wI (v8 + 1))) else some ((-1),())
abbrev zsP (K:Nat):za5→Option (Int × Unit):=iter (zjO) K
theorem zM8 (K:Nat):∀ n,evV (zxJ) K Tryz.f273 0 zft [1,0,1,0] [] zM7 n = iter (zjO) n:=zm fun n0 (v0,v1,v7,v8)=>by kernel_rfl
def zmr (L0:za5→Option (Int × Unit)):((List zy) × ((Option ((zy × Unit)→Option (Bool × Unit))) × Unit))→Option (Int × Unit):=fun (x0,x1,()) =>
  L0 (x0,x1,((List.length x0):Int),0)
theorem zQi (K:Nat):evF (zxJ) K Tryz.f273 0 zmb zft = zmr (zsP K):=tr1 (T:=zmr) (zM8 K K) fun (x0,x1,())=>by kernel_rfl
end
def zat:zxk:=zmr (zsP K0)
theorem zQj:Sd Tryz.prog E0 (zky zat):=mkS (l:=[]) trivial Tryz.func273 (by kernel_rfl) (zQi K0)
section
variable (zms:zxk)
def zrm:((List zy) × ((Option ((zy × Unit)→Option (Bool × Unit))) × Unit))→Option (Bool × Unit):=fun (x0,x1,()) =>
  Option.bind (zms (x0,x1,())) fun q0=>bif decide (q0.1 ≥ 0) then some (true,()) else some (false,())
theorem zJW (K:Nat):evF (En E0 false [zky zms]) K Tryz.f219 0 zhi zhj = zrm zms:=funext fun (x0,x1,())=>by kernel_rfl
end
def vz:zrd:=zrm zat
theorem zJX:Sd Tryz.prog E0 (zgc vz):=mkS (l:=[zky zat]) ⟨zQj,trivial⟩ Tryz.func219 (by kernel_rfl) (zJW zat K0)
section
variable (zoy:zyE) (zht:zrd)
def zFb:((List zy) × ((Option ((zy × Unit)→Option (Bool × Unit))) × Unit))→Option (Bool × Unit):=fun (x0,x1,()) =>
  Option.bind (zht (x0,some fun z=>zoy (z.1,some x1,()),())) fun q0=>bif q0.1 then some (false,()) else some (true,())
theorem zVk (K:Nat):evF (En E0 false [zlY zoy,zgc zht]) K Tryz.f139 0 zrG zrH = zFb zoy zht:=funext fun (x0,x1,())=>by kernel_rfl
end
def ze6:zEZ:=zFb zaR vz
theorem zVl:Sd Tryz.prog E0 (zpl ze6):=mkS (l:=[zlY zaR,zgc vz]) ⟨zSs,zJX,trivial⟩ Tryz.func139 (by kernel_rfl) (zVk zaR vz K0)
section
variable (qc:zcb)
def zu5:(Int × ((Option jh) × Unit))→Option (Bool × Unit):=fun (x0,x1,()) =>
  bif x0 == -1 then some (true,()) else Option.bind x1 fun q0=>Option.bind (qc (q0,x0,())) fun q1=>bif q1.1 then some (true,()) else some (false,())
theorem zXd (K:Nat):evF (En E0 false [jP qc]) K Tryz.f142 0 zt8 zt9 = zu5 qc:=funext fun (x0,x1,())=>by kernel_rfl
end
def zdl:zG0:=zu5 qu
theorem zXe:Sd Tryz.prog E0 (zrJ zdl):=mkS (l:=[jP qu]) ⟨zej,trivial⟩ Tryz.func142 (by kernel_rfl) (zXd qu K0)
section
def zFc:(Int × ((Option (Option ((Int × Unit)→Option (Bool × Unit)))) × Unit))→Option (Bool × Unit):=fun (x0,x1,()) =>
  Option.bind x1 fun q0=>Option.bind q0 fun q1=>Option.bind (q1 (x0,())) fun q2=>bif q2.1 then some (false,()) else some (true,())
theorem zVm (K:Nat):evF (En E0 false []) K Tryz.f221 0 zrY zrZ = zFc:=funext fun (x0,x1,())=>by kernel_rfl
end
def zcD:zE3:=zFc
theorem zVn:Sd Tryz.prog E0 (zps zcD):=mkS (l:=[]) trivial Tryz.func221 (by kernel_rfl) (zVm K0)
section
variable (zsh:zE3) (zB:yU)
def zKG:((List Int) × ((Option ((Int × Unit)→Option (Bool × Unit))) × Unit))→Option (Bool × Unit):=fun (x0,x1,()) =>
  Option.bind (zB (x0,some fun z=>zsh (z.1,some x1,()),())) fun q0=>bif q0.1 then some (false,()) else some (true,())
theorem zZx (K:Nat):evF (En E0 false [zps zsh,qW zB]) K Tryz.f141 0 zwD zwE = zKG zsh zB:=funext fun (x0,x1,())=>by kernel_rfl
end
def zim:zKn:=zKG zcD zQ
theorem zZy:Sd Tryz.prog E0 (zt7 zim):=mkS (l:=[zps zcD,qW zQ]) ⟨zVn,zbD,trivial⟩ Tryz.func141 (by kernel_rfl) (zZx zcD zQ K0)
section
variable (zgr:zGW) (zIH:zTl) (zEe:zRf) (yz:zs9) (zu6:zGY) (zsi:zEY) (zmt:zGZ) (zj7:zEZ) (zdm:zG0) (zek:zKn)
def zAE:(jh × Unit)→Option (Bool × Unit):=fun (x0,()) =>
  Option.bind (zgr (x0.1,x0.2.1.2.2.1,())) fun q0=>bif q0.1 then Option.bind (zIH (x0.2.1.2.2.2.1,())) fun q1=>bif q1.1 then Option.bind (zEe (x0.2.1.2.2.2.2.1,())) fun q2=>bif q2.1 then Option.bind (yz (x0.2.1,zb zY,())) fun q3=>bif q3.1 then Option.bind (zsi (x0.2.1.2.2.2.1,some fun z=>zu6 (z.1,some x0,()),())) fun q4=>bif q4.1 then Option.bind (zj7 (x0.2.1.2.2.2.2.1,some fun z=>zmt (z.1,some x0,()),())) fun q5=>bif q5.1 then Option.bind (zek (x0.2.1.2.2.2.2.2.1,some fun z=>zdm (z.1,some x0,()),())) fun q6=>bif q6.1 then some (true,()) else some (false,()) else Option.bind (zek (x0.2.1.2.2.2.2.2.1,some fun z=>zdm (z.1,some x0,()),())) fun q7=>bif q7.1 then some (false,()) else some (false,()) else Option.bind (zj7 (x0.2.1.2.2.2.2.1,some fun z=>zmt (z.1,some x0,()),())) fun q8=>bif q8.1 then Option.bind (zek (x0.2.1.2.2.2.2.2.1,some fun z=>zdm (z.1,some x0,()),())) fun q9=>bif q9.1 then some (false,()) else some (false,()) else Option.bind (zek (x0.2.1.2.2.2.2.2.1,some fun z=>zdm (z.1,some x0,()),())) fun q10=>bif q10.1 then some (false,()) else some (false,()) else some (false,()) else some (false,()) else some (false,()) else some (false,())
theorem z12 (K:Nat):evF (En E0 false [zmN zgr,zDm zIH,zzZ zEe,zde yz,zrF zu6,zpk zsi,zrI zmt,zpl zj7,zrJ zdm,zt7 zek]) K Tryz.f57 0 zzr zzs = zAE zgr zIH zEe yz zu6 zsi zmt zj7 zdm zek:=funext fun (x0,())=>by kernel_rfl
end
def zdn:zNX:=zAE zch zpW zmW yb zdj ze5 zdk ze6 zdl zim
theorem z13:Sd Tryz.prog E0 (zv6 zdn):=mkS (l:=[zmN zch,zDm zpW,zzZ zmW,zde yb,zrF zdj,zpk ze5,zrI zdk,zpl ze6,zrJ zdl,zt7 zim]) ⟨zT4,z7J,z4r,zEc,zXa,zVj,zXc,zVl,zXe,zZy,trivial⟩ Tryz.func57 (by kernel_rfl) (z12 zch zpW zmW yb zdj ze5 zdk ze6 zdl zim K0)
section
def zM9:(zz × (zz × Unit))→Option (Bool × Unit):=fun (x0,x1,()) =>
  bif decide (x0.1 ≤ x1.1) then bif wU (↑(BitVec.toNat (BitVec.ofInt (IntKind.bits IntKind.u64) x0.2.1 &&& ~~~BitVec.ofInt (IntKind.bits IntKind.u64) x1.2.1)):Int) == 0 then some (true,()) else some (false,()) else some (false,())
theorem z9B (K:Nat):evF (En E0 false []) K Tryz.f92 0 zLO zLP = zM9:=funext fun (x0,x1,())=>by kernel_rfl
end
def znK:zV5:=zM9
theorem z9C:Sd Tryz.prog E0 (zGA znK):=mkS (l:=[]) trivial Tryz.func92 (by kernel_rfl) (z9B K0)
section
variable (zcH:zDq) (zNa:zV5)
def zNb:(jh × (Int × (Int × Unit)))→Option (Bool × Unit):=fun (x0,x1,x2,()) =>
  Option.bind (zcH (x0,x1,())) fun q0=>bif q0.1 then Option.bind (zcH (x0,x2,())) fun q1=>bif q1.1 then inR x1 ((List.length x0.1.1):Int) (inR x2 ((List.length x0.1.1):Int) (Option.bind (zNa (ix qm x0.1.1 x1,ix qm x0.1.1 x2,())) fun q2=>bif q2.1 then some (true,()) else some (false,()))) else some (false,()) else some (false,())
theorem z9D (K:Nat):evF (En E0 false [zko zcH,zGA zNa]) K Tryz.f152 0 zL2 zL3 = zNb zcH zNa:=funext fun (x0,x1,x2,())=>by kernel_rfl
end
def zdM:zL4:=zNb zbm znK
theorem zWs:Sd Tryz.prog E0 (zpm zdM):=mkS (l:=[zko zbm,zGA znK]) ⟨zRt,z9C,trivial⟩ Tryz.func152 (by kernel_rfl) (z9D zbm znK K0)
section
variable (yz:zs9) (zjP:zL4)
def zxK:(qe × ((Option jh) × ((Option Int) × Unit)))→Option (Bool × Unit):=fun (x0,x1,x2,()) =>
  Option.bind x1 fun q0=>Option.bind (yz (q0.2.1,x0,())) fun q1=>bif q1.1 then Option.bind x1 fun q2=>Option.bind x2 fun q3=>Option.bind (zjP (q2,x0.1,q3,())) fun q4=>bif q4.1 then some (true,()) else some (false,()) else some (false,())
theorem zZz (K:Nat):evF (En E0 false [zde yz,zpm zjP]) K Tryz.f222 0 zw8 zw9 = zxK yz zjP:=funext fun (x0,x1,x2,())=>by kernel_rfl
end
def yQ:zKz:=zxK yb zdM
theorem zZA:Sd Tryz.prog E0 (zuN yQ):=mkS (l:=[zde yb,zpm zdM]) ⟨zEc,zWs,trivial⟩ Tryz.func222 (by kernel_rfl) (zZz yb zdM K0)
section
variable (zxL:zKz)
def zRu:(jh × (Int × Unit))→Option ((Option ((qe × Unit)→Option (Bool × Unit))) × Unit):=fun (x0,x1,()) =>
  some (some fun z=>zxL (z.1,some x0,some x1,()),())
theorem z4u (K:Nat):evF (En E0 false [zuN zxL]) K Tryz.f143 0 zDr zDs = zRu zxL:=funext fun (x0,x1,())=>by kernel_rfl
end
def zhG:zRg:=zRu yQ
theorem z4v:Sd Tryz.prog E0 (zz0 zhG):=mkS (l:=[zuN yQ]) ⟨zZA,trivial⟩ Tryz.func143 (by kernel_rfl) (z4u yQ K0)
section
def zxM:(z5 × ((Option (Option ((qe × Unit)→Option (Bool × Unit)))) × Unit))→Option (Bool × Unit):=fun (x0,x1,()) =>
  bif x0.1 then Option.bind x1 fun q0=>Option.bind q0 fun q1=>Option.bind (q1 (x0.2.1,())) fun q2=>bif q2.1 then Option.bind x1 fun q3=>Option.bind q3 fun q4=>Option.bind (q4 (x0.2.2.1,())) fun q5=>bif q5.1 then some (true,()) else some (false,()) else some (false,()) else some (true,())
theorem zZB (K:Nat):evF (En E0 false []) K Tryz.f145 0 zwF zwG = zxM:=funext fun (x0,x1,())=>by kernel_rfl
end
def zci:zKo:=zxM
theorem zZC:Sd Tryz.prog E0 (zuc zci):=mkS (l:=[]) trivial Tryz.func145 (by kernel_rfl) (zZB K0)
section
def zBN:(z5 × ((Option (Option ((z5 × Unit)→Option (Bool × Unit)))) × Unit))→Option (Bool × Unit):=fun (x0,x1,()) =>
  Option.bind x1 fun q0=>Option.bind q0 fun q1=>Option.bind (q1 (x0,())) fun q2=>bif q2.1 then some (false,()) else some (true,())
theorem zT7 (K:Nat):evF (En E0 false []) K Tryz.f224 0 zpt zpu = zBN:=funext fun (x0,x1,())=>by kernel_rfl
end
def zbP:zBD:=zBN
theorem zT8:Sd Tryz.prog E0 (zn7 zbP):=mkS (l:=[]) trivial Tryz.func224 (by kernel_rfl) (zT7 K0)
section
variable (yM:zof)
def zsQ:((List z5) × ((Option ((z5 × Unit)→Option (Bool × Unit))) × Unit))→Option (Bool × Unit):=fun (x0,x1,()) =>
  Option.bind (yM (x0,x1,())) fun q0=>bif decide (q0.1 ≥ 0) then some (true,()) else some (false,())
theorem zNc (K:Nat):evF (En E0 false [zcc yM]) K Tryz.f223 0 zju zjv = zsQ yM:=funext fun (x0,x1,())=>by kernel_rfl
end
def vO:zsx:=zsQ vm
theorem zNd:Sd Tryz.prog E0 (zhk vO):=mkS (l:=[zcc vm]) ⟨zyP,trivial⟩ Tryz.func223 (by kernel_rfl) (zNc vm K0)
section
variable (zpX:zBD) (zjQ:zsx)
def zII:((List z5) × ((Option ((z5 × Unit)→Option (Bool × Unit))) × Unit))→Option (Bool × Unit):=fun (x0,x1,()) =>
  Option.bind (zjQ (x0,some fun z=>zpX (z.1,some x1,()),())) fun q0=>bif q0.1 then some (false,()) else some (true,())
theorem zXf (K:Nat):evF (En E0 false [zn7 zpX,zhk zjQ]) K Tryz.f144 0 zua zub = zII zpX zjQ:=funext fun (x0,x1,())=>by kernel_rfl
end
def zdo:zG1:=zII zbP vO
theorem zXg:Sd Tryz.prog E0 (zrK zdo):=mkS (l:=[zn7 zbP,zhk vO]) ⟨zT8,zNd,trivial⟩ Tryz.func144 (by kernel_rfl) (zXf zbP vO K0)
section
def zxN:(z3 × ((Option (Option ((qe × Unit)→Option (Bool × Unit)))) × Unit))→Option (Bool × Unit):=fun (x0,x1,()) =>
  bif x0.2.2.1 != 2 then some (true,()) else Option.bind x1 fun q0=>Option.bind q0 fun q1=>Option.bind (q1 (x0.2.2.2.2.1,())) fun q2=>bif q2.1 then some (true,()) else some (false,())
theorem zZD (K:Nat):evF (En E0 false []) K Tryz.f147 0 zwH zwI = zxN:=funext fun (x0,x1,())=>by kernel_rfl
end
def zcj:zKp:=zxN
theorem zZE:Sd Tryz.prog E0 (zug zcj):=mkS (l:=[]) trivial Tryz.func147 (by kernel_rfl) (zZD K0)
section
def zBO:(z3 × ((Option (Option ((z3 × Unit)→Option (Bool × Unit)))) × Unit))→Option (Bool × Unit):=fun (x0,x1,()) =>
  Option.bind x1 fun q0=>Option.bind q0 fun q1=>Option.bind (q1 (x0,())) fun q2=>bif q2.1 then some (false,()) else some (true,())
theorem zT9 (K:Nat):evF (En E0 false []) K Tryz.f225 0 zpv zpw = zBO:=funext fun (x0,x1,())=>by kernel_rfl
end
def zbQ:zBE:=zBO
theorem zUa:Sd Tryz.prog E0 (zn8 zbQ):=mkS (l:=[]) trivial Tryz.func225 (by kernel_rfl) (zT9 K0)
section
variable (zpY:zBE) (vM:zjq)
def zIJ:((List z3) × ((Option ((z3 × Unit)→Option (Bool × Unit))) × Unit))→Option (Bool × Unit):=fun (x0,x1,()) =>
  Option.bind (vM (x0,some fun z=>zpY (z.1,some x1,()),())) fun q0=>bif q0.1 then some (false,()) else some (true,())
theorem zXh (K:Nat):evF (En E0 false [zn8 zpY,zaw vM]) K Tryz.f146 0 zud zue = zIJ zpY vM:=funext fun (x0,x1,())=>by kernel_rfl
end
def jy:zuf:=zIJ zbQ jp
theorem zIK:Sd Tryz.prog E0 (zeZ jy):=mkS (l:=[zn8 zbQ,zaw jp]) ⟨zUa,zsJ,trivial⟩ Tryz.func146 (by kernel_rfl) (zXh zbQ jp K0)
section
def zFd:(qe × ((Option (Option ((qe × Unit)→Option (Bool × Unit)))) × Unit))→Option (Bool × Unit):=fun (x0,x1,()) =>
  Option.bind x1 fun q0=>Option.bind q0 fun q1=>Option.bind (q1 (x0,())) fun q2=>bif q2.1 then some (false,()) else some (true,())
theorem zVo (K:Nat):evF (En E0 false []) K Tryz.f227 0 zr0 zr1 = zFd:=funext fun (x0,x1,())=>by kernel_rfl
end
def zcE:zE4:=zFd
theorem zVp:Sd Tryz.prog E0 (zpx zcE):=mkS (l:=[]) trivial Tryz.func227 (by kernel_rfl) (zVo K0)
section
abbrev zBP:Env:=(En E0 false [])
abbrev zck:Type:=(List qe) × (Option ((qe × Unit)→Option (Bool × Unit))) × Int × Int
abbrev zQk:zck→St:=fun (v0,v1,v7,v8)=>St.mk [(0,AV.dat (Ty.sl jJ) v0),(1,AV.dat (Ty.fn (Ty.pair jJ Ty.unit) (Ty.pair Ty.bool Ty.unit)) v1),(7,AV.dat tI v7),(8,AV.dat tI v8)] []
def zmu (k0:zck→Option (Int × Unit)):zck→Option (Int × Unit):=fun (v0,v1,v7,v8) =>
  bif decide (v8 < v7) then inR v8 ((List.length v0):Int) (Option.bind v1 fun q0=>Option.bind (q0 (ix qj v0 v8,())) fun q1=>bif q1.1 then some (v8,()) else k0 (v0,v1,v7,wI (v8 + 1))) else some ((-1),())
abbrev zxO (K:Nat):zck→Option (Int × Unit):=iter (zmu) K
theorem zQl (K:Nat):∀ n,evV (zBP) K Tryz.f274 0 zid [1,0,1,0] [] zQk n = iter (zmu) n:=zm fun n0 (v0,v1,v7,v8)=>by kernel_rfl
def zpZ (L0:zck→Option (Int × Unit)):((List qe) × ((Option ((qe × Unit)→Option (Bool × Unit))) × Unit))→Option (Int × Unit):=fun (x0,x1,()) =>
  L0 (x0,x1,((List.length x0):Int),0)
theorem zUb (K:Nat):evF (zBP) K Tryz.f274 0 zpF zid = zpZ (zxO K):=tr1 (T:=zpZ) (zQl K K) fun (x0,x1,())=>by kernel_rfl
end
def zbR:zBI:=zpZ (zxO K0)
theorem zUc:Sd Tryz.prog E0 (zoj zbR):=mkS (l:=[]) trivial Tryz.func274 (by kernel_rfl) (zUb K0)
section
variable (zp0:zBI)
def zvG:((List qe) × ((Option ((qe × Unit)→Option (Bool × Unit))) × Unit))→Option (Bool × Unit):=fun (x0,x1,()) =>
  Option.bind (zp0 (x0,x1,())) fun q0=>bif decide (q0.1 ≥ 0) then some (true,()) else some (false,())
theorem zOy (K:Nat):evF (En E0 false [zoj zp0]) K Tryz.f226 0 zks zkt = zvG zp0:=funext fun (x0,x1,())=>by kernel_rfl
end
def yi:zvx:=zvG zbR
theorem zOz:Sd Tryz.prog E0 (zjw yi):=mkS (l:=[zoj zbR]) ⟨zUc,trivial⟩ Tryz.func226 (by kernel_rfl) (zOy zbR K0)
section
variable (zsj:zE4) (zkX:zvx)
def zKH:((List qe) × ((Option ((qe × Unit)→Option (Bool × Unit))) × Unit))→Option (Bool × Unit):=fun (x0,x1,()) =>
  Option.bind (zkX (x0,some fun z=>zsj (z.1,some x1,()),())) fun q0=>bif q0.1 then some (false,()) else some (true,())
theorem zZF (K:Nat):evF (En E0 false [zpx zsj,zjw zkX]) K Tryz.f148 0 zwJ zwK = zKH zsj zkX:=funext fun (x0,x1,())=>by kernel_rfl
end
def zel:zKq:=zKH zcE yi
theorem zZG:Sd Tryz.prog E0 (zuh zel):=mkS (l:=[zpx zcE,zjw yi]) ⟨zVp,zOz,trivial⟩ Tryz.func148 (by kernel_rfl) (zZF zcE yi K0)
end
end Go.Proofs.YtaokpakfhdeiiaaGreatDoor
end
section
namespace Go.Proofs.YtaokpakfhdeiiaaGreatDoor
open Go.Ev
noncomputable section
section
variable (zcI:zRg) (zaG:zKo) (y7:zG1) (yR:zKp) (z7:zuf) (zaH:zKq)
abbrev zRv:Env:=(En E0 false [zz0 zcI,zuc zaG,zrK y7,zug yR,zeZ z7,zuh zaH])
abbrev zin:Type:=(List zg) × Int × Int × jh
abbrev zZH:zin→St:=fun (v10,v11,v12,o0)=>St.mk [(1,AV.bp 0 []),(10,AV.dat (Ty.sl zh) v10),(11,AV.dat tI v11),(12,AV.dat tI v12)] [Obj.bx (AV.dat jx o0) false]
def zio (k0:zin→Option (Bool × Unit)):zin→Option (Bool × Unit):=fun (v10,v11,v12,o0) =>
  bif decide (v12 < v11) then inR v12 ((List.length v10):Int) (Option.bind (zcI (o0,v12,())) fun q0=>Option.bind (y7 ((ix za v10 v12).2.1,some fun z=>zaG (z.1,some q0.1,()),())) fun q1=>bif q1.1 then Option.bind (z7 ((ix za v10 v12).2.2.1,some fun z=>yR (z.1,some q0.1,()),())) fun q2=>bif q2.1 then Option.bind (zaH ((ix za v10 v12).2.2.2.2.2.2.1,q0.1,())) fun q3=>bif q3.1 then k0 (v10,v11,wI (v12 + 1),o0) else some (false,()) else some (false,()) else Option.bind (z7 ((ix za v10 v12).2.2.1,some fun z=>yR (z.1,some q0.1,()),())) fun q4=>bif q4.1 then some (false,()) else some (false,())) else some (true,())
abbrev zKI (K:Nat):zin→Option (Bool × Unit):=iter (zio zcI zaG y7 yR z7 zaH) K
theorem zZI (K:Nat):∀ n,evV (zRv zcI zaG y7 yR z7 zaH) K Tryz.f58 0 zs8 [1,0,1,0] [] zZH n = iter (zio zcI zaG y7 yR z7 zaH) n:=zm fun n0 (v10,v11,v12,o0)=>by kernel_rfl
def zEf (L0:zin→Option (Bool × Unit)):(jh × Unit)→Option (Bool × Unit):=fun (x0,()) =>
  L0 (x0.2.1.2.1,((List.length x0.2.1.2.1):Int),0,x0)
theorem z4w (K:Nat):evF (zRv zcI zaG y7 yR z7 zaH) K Tryz.f58 0 zCB zs8 = zEf (zKI zcI zaG y7 yR z7 zaH K):=tr1 (T:=zEf) (zZI zcI zaG y7 yR z7 zaH K K) fun (x0,())=>by kernel_rfl
end
def zhH:zQU:=zEf (zKI zhG zci zdo zcj jy zel K0)
theorem z4x:Sd Tryz.prog E0 (zzt zhH):=mkS (l:=[zz0 zhG,zuc zci,zrK zdo,zug zcj,zeZ jy,zuh zel]) ⟨z4v,zZC,zXg,zZE,zIK,zZG,trivial⟩ Tryz.func58 (by kernel_rfl) (z4w zhG zci zdo zcj jy zel K0)
section
variable (qc:zcb)
def zu7:(z3 × ((Option jh) × Unit))→Option (Bool × Unit):=fun (x0,x1,()) =>
  bif x0.2.2.1 != 1 then some (true,()) else Option.bind x1 fun q0=>Option.bind (qc (q0,x0.2.2.2.1,())) fun q1=>bif q1.1 then some (true,()) else some (false,())
theorem zXi (K:Nat):evF (En E0 false [jP qc]) K Tryz.f149 0 zui zuj = zu7 qc:=funext fun (x0,x1,())=>by kernel_rfl
end
def vf:zG2:=zu7 qu
theorem zXj:Sd Tryz.prog E0 (zrL vf):=mkS (l:=[jP qu]) ⟨zej,trivial⟩ Tryz.func149 (by kernel_rfl) (zXi qu K0)
section
variable (zjP:zL4) (qc:zcb)
def zu8:(qh × ((Option jh) × ((Option Int) × Unit)))→Option (Bool × Unit):=fun (x0,x1,x2,()) =>
  bif x0.1 then Option.bind x1 fun q0=>Option.bind x2 fun q1=>Option.bind (zjP (q0,x0.2.1,q1,())) fun q2=>bif q2.1 then Option.bind x1 fun q3=>Option.bind (qc (q3,x0.2.2.1,())) fun q4=>bif q4.1 then Option.bind x1 fun q5=>Option.bind (qc (q5,x0.2.2.2.1,())) fun q6=>bif q6.1 then some (true,()) else some (false,()) else some (false,()) else some (false,()) else some (true,())
theorem zXk (K:Nat):evF (En E0 false [zpm zjP,jP qc]) K Tryz.f151 0 zum zun = zu8 zjP qc:=funext fun (x0,x1,x2,())=>by kernel_rfl
end
def vg:zG4:=zu8 zdM qu
theorem zXl:Sd Tryz.prog E0 (zrN vg):=mkS (l:=[zpm zdM,jP qu]) ⟨zWs,zej,trivial⟩ Tryz.func151 (by kernel_rfl) (zXk zdM qu K0)
section
def zBQ:(qh × ((Option (Option ((qh × Unit)→Option (Bool × Unit)))) × Unit))→Option (Bool × Unit):=fun (x0,x1,()) =>
  Option.bind x1 fun q0=>Option.bind q0 fun q1=>Option.bind (q1 (x0,())) fun q2=>bif q2.1 then some (false,()) else some (true,())
theorem zUd (K:Nat):evF (En E0 false []) K Tryz.f228 0 zpy zpz = zBQ:=funext fun (x0,x1,())=>by kernel_rfl
end
def zbS:zBF:=zBQ
theorem zUe:Sd Tryz.prog E0 (zn9 zbS):=mkS (l:=[]) trivial Tryz.func228 (by kernel_rfl) (zUd K0)
section
variable (zp1:zBF) (vN:zjt)
def zIL:((List qh) × ((Option ((qh × Unit)→Option (Bool × Unit))) × Unit))→Option (Bool × Unit):=fun (x0,x1,()) =>
  Option.bind (vN (x0,some fun z=>zp1 (z.1,some x1,()),())) fun q0=>bif q0.1 then some (false,()) else some (true,())
theorem zXm (K:Nat):evF (En E0 false [zn9 zp1,zax vN]) K Tryz.f150 0 zuk zul = zIL zp1 vN:=funext fun (x0,x1,())=>by kernel_rfl
end
def vP:zG3:=zIL zbS jq
theorem zXn:Sd Tryz.prog E0 (zrM vP):=mkS (l:=[zn9 zbS,zax jq]) ⟨zUe,zsL,trivial⟩ Tryz.func150 (by kernel_rfl) (zXm zbS jq K0)
section
variable (qc:zcb)
def zu9:(zo × ((Option jh) × Unit))→Option (Bool × Unit):=fun (x0,x1,()) =>
  bif x0.1 then Option.bind x1 fun q0=>Option.bind (qc (q0,x0.2.1,())) fun q1=>bif q1.1 then Option.bind x1 fun q2=>Option.bind (qc (q2,x0.2.2.1,())) fun q3=>bif q3.1 then some (true,()) else some (false,()) else some (false,()) else some (true,())
theorem zXo (K:Nat):evF (En E0 false [jP qc]) K Tryz.f154 0 zuo zup = zu9 qc:=funext fun (x0,x1,())=>by kernel_rfl
end
def vh:zG5:=zu9 qu
theorem zXp:Sd Tryz.prog E0 (zrQ vh):=mkS (l:=[jP qu]) ⟨zej,trivial⟩ Tryz.func154 (by kernel_rfl) (zXo qu K0)
section
def zyU:(zo × ((Option (Option ((zo × Unit)→Option (Bool × Unit)))) × Unit))→Option (Bool × Unit):=fun (x0,x1,()) =>
  Option.bind x1 fun q0=>Option.bind q0 fun q1=>Option.bind (q1 (x0,())) fun q2=>bif q2.1 then some (false,()) else some (true,())
theorem zSt (K:Nat):evF (En E0 false []) K Tryz.f229 0 zoa zob = zyU:=funext fun (x0,x1,())=>by kernel_rfl
end
def zaS:zyF:=zyU
theorem zSu:Sd Tryz.prog E0 (zlZ zaS):=mkS (l:=[]) trivial Tryz.func229 (by kernel_rfl) (zSt K0)
section
variable (zoz:zyF) (vx:zhf)
def zFe:((List zo) × ((Option ((zo × Unit)→Option (Bool × Unit))) × Unit))→Option (Bool × Unit):=fun (x0,x1,()) =>
  Option.bind (vx (x0,some fun z=>zoz (z.1,some x1,()),())) fun q0=>bif q0.1 then some (false,()) else some (true,())
theorem zVq (K:Nat):evF (En E0 false [zlZ zoz,yZ vx]) K Tryz.f153 0 zrO zrP = zFe zoz vx:=funext fun (x0,x1,())=>by kernel_rfl
end
def vo:zE0:=zFe zaS ji
theorem zVr:Sd Tryz.prog E0 (zpn vo):=mkS (l:=[zlZ zaS,yZ ji]) ⟨zSu,zrk,trivial⟩ Tryz.func153 (by kernel_rfl) (zVq zaS ji K0)
section
variable (jz:zG2) (z7:zuf) (qU:zG4) (qV:zG3) (qr:zG5) (qi:zE0)
abbrev zAF:Env:=(En E0 false [zrL jz,zeZ z7,zrN qU,zrM qV,zrQ qr,zpn qi])
abbrev zbs:Type:=(List zg) × Int × Int × jh
abbrev zXq:zbs→St:=fun (v10,v11,v12,o0)=>St.mk [(1,AV.bp 0 []),(10,AV.dat (Ty.sl zh) v10),(11,AV.dat tI v11),(12,AV.dat tI v12)] [Obj.bx (AV.dat jx o0) true]
abbrev zmv:Type:=(List zg) × Int × Int × jh
abbrev zXr:zmv→St:=fun (v10,v11,v12,o0)=>St.mk [(1,AV.bp 0 []),(10,AV.dat (Ty.sl zh) v10),(11,AV.dat tI v11),(12,AV.dat tI v12)] [Obj.bx (AV.dat jx o0) false]
def vQ (k1:zbs→Option (Bool × Unit)):zbs→Option (Bool × Unit):=fun (v10,v11,v12,o0) =>
  bif decide (v12 < v11) then inR v12 ((List.length v10):Int) (Option.bind (z7 ((ix za v10 v12).2.2.1,some fun z=>jz (z.1,some o0,()),())) fun q3=>bif q3.1 then Option.bind (qV ((ix za v10 v12).2.2.2.1,some fun z=>qU (z.1,some o0,some v12,()),())) fun q4=>bif q4.1 then Option.bind (qi ((ix za v10 v12).2.2.2.2.1,some fun z=>qr (z.1,some o0,()),())) fun q5=>bif q5.1 then k1 (v10,v11,wI (v12 + 1),o0) else some (false,()) else Option.bind (qi ((ix za v10 v12).2.2.2.2.1,some fun z=>qr (z.1,some o0,()),())) fun q6=>bif q6.1 then some (false,()) else some (false,()) else Option.bind (qV ((ix za v10 v12).2.2.2.1,some fun z=>qU (z.1,some o0,some v12,()),())) fun q7=>bif q7.1 then Option.bind (qi ((ix za v10 v12).2.2.2.2.1,some fun z=>qr (z.1,some o0,()),())) fun q8=>bif q8.1 then some (false,()) else some (false,()) else Option.bind (qi ((ix za v10 v12).2.2.2.2.1,some fun z=>qr (z.1,some o0,()),())) fun q9=>bif q9.1 then some (false,()) else some (false,())) else some (true,())
theorem zXs (K:Nat):∀ n,evV (zAF jz z7 qU qV qr qi) K Tryz.f59 0 zkl [1,0,1,0] [] zXq n = iter (vQ jz z7 qU qV qr qi) n:=zm fun n1 (v10,v11,v12,o0)=>by kernel_rfl
def zIM (k1:zbs→Option (Bool × Unit)):zmv→Option (Bool × Unit):=fun (v10,v11,v12,o0) =>
  bif decide (v12 < v11) then inR v12 ((List.length v10):Int) (Option.bind (z7 ((ix za v10 v12).2.2.1,some fun z=>jz (z.1,some o0,()),())) fun q0=>bif q0.1 then Option.bind (qV ((ix za v10 v12).2.2.2.1,some fun z=>qU (z.1,some o0,some v12,()),())) fun q1=>bif q1.1 then Option.bind (qi ((ix za v10 v12).2.2.2.2.1,some fun z=>qr (z.1,some o0,()),())) fun q2=>bif q2.1 then k1 (v10,v11,wI (v12 + 1),o0) else some (false,()) else Option.bind (qi ((ix za v10 v12).2.2.2.2.1,some fun z=>qr (z.1,some o0,()),())) fun q10=>bif q10.1 then some (false,()) else some (false,()) else Option.bind (qV ((ix za v10 v12).2.2.2.1,some fun z=>qU (z.1,some o0,some v12,()),())) fun q11=>bif q11.1 then Option.bind (qi ((ix za v10 v12).2.2.2.2.1,some fun z=>qr (z.1,some o0,()),())) fun q12=>bif q12.1 then some (false,()) else some (false,()) else Option.bind (qi ((ix za v10 v12).2.2.2.2.1,some fun z=>qr (z.1,some o0,()),())) fun q13=>bif q13.1 then some (false,()) else some (false,())) else some (true,())
abbrev zIN (K:Nat):zmv→Option (Bool × Unit):=zY3 (zIM jz z7 qU qV qr qi) (vQ jz z7 qU qV qr qi) K
theorem zXt (K:Nat):∀ n,evV (zAF jz z7 qU qV qr qi) K Tryz.f59 0 zkl [1,0,1,0] [] zXr n = zY3 (zIM jz z7 qU qV qr qi) (vQ jz z7 qU qV qr qi) n:=qdn (zXs jz z7 qU qV qr qi K) fun n0 (v10,v11,v12,o0)=>by kernel_rfl
def zAG (L0:zmv→Option (Bool × Unit)):(jh × Unit)→Option (Bool × Unit):=fun (x0,()) =>
  L0 (x0.2.1.2.1,((List.length x0.2.1.2.1):Int),0,x0)
theorem z14 (K:Nat):evF (zAF jz z7 qU qV qr qi) K Tryz.f59 0 zzu zkl = zAG (zIN jz z7 qU qV qr qi K):=tr1 (T:=zAG) (zXt jz z7 qU qV qr qi K K) fun (x0,())=>by kernel_rfl
end
def zdp:zNY:=zAG (zIN vf jy vg vP vh vo K0)
theorem z15:Sd Tryz.prog E0 (zv7 zdp):=mkS (l:=[zrL vf,zeZ jy,zrN vg,zrM vP,zrQ vh,zpn vo]) ⟨zXj,zIK,zXl,zXn,zXp,zVr,trivial⟩ Tryz.func59 (by kernel_rfl) (z14 vf jy vg vP vh vo K0)
section
def zIO:((List zo) × Unit)→Option ((List zo) × Unit):=fun (x0,()) =>
  bif List.isEmpty x0 then both (some ([],())) (bif decide (List.length (List.replicate 0 (zb zu)) + List.length x0 ≤ lim) then some (List.replicate 0 (zb zu) ++ x0,()) else none) else bif decide (List.length (List.replicate 0 (zb zu)) + List.length x0 ≤ lim) then some (List.replicate 0 (zb zu) ++ x0,()) else none
theorem zXu (K:Nat):evF (En E0 false []) K Tryz.f75 1 ztU ztV = zIO:=funext fun (x0,())=>by kernel_rfl
end
def vR:ztW:=zIO
theorem zIP:Sd Tryz.prog E0 (zeY vR):=mkS (l:=[]) trivial Tryz.func75 (by kernel_rfl) (zXu K0)
section
variable (qF:ztW)
def zmw:((List zo) × ((Option ((zo × Unit)→Option (Bool × Unit))) × Unit))→Option ((Option zbi) × Unit):=fun (x0,x1,()) =>
  bif Option.isNone x1 then some (none,()) else Option.bind (qF (x0,())) fun q0=>some (some (q0.1,x1,()),())
theorem zXv (K:Nat):evF (En E0 false [zeY qF]) K Tryz.f155 0 zuq zur = zmw qF:=funext fun (x0,x1,())=>by kernel_rfl
end
def vi:zus:=zmw vR
theorem zIQ:Sd Tryz.prog E0 (ze0 vi):=mkS (l:=[zeY vR]) ⟨zIP,trivial⟩ Tryz.func155 (by kernel_rfl) (zXv vR K0)
section
def zKJ:(zo × Unit)→Option (Bool × Unit):=fun (x0,()) =>
  bif x0.1 then some (true,()) else some (false,())
theorem zZJ (K:Nat):evF (En E0 false []) K Tryz.f156 0 zwL zwM = zKJ:=funext fun (x0,())=>by kernel_rfl
end
def yo:zKr:=zKJ
theorem zZK:Sd Tryz.prog E0 (zut yo):=mkS (l:=[]) trivial Tryz.func156 (by kernel_rfl) (zZJ K0)
section
def zIR:((Option zbi) × Unit)→Option (Bool × Unit):=fun (x0,()) =>
  bif Option.isSome x0 then Option.bind x0 fun q0=>bif Option.isSome q0.2.1 then some (true,()) else some (false,()) else some (false,())
theorem zXw (K:Nat):evF (En E0 false []) K Tryz.f198 0 zuJ zuK = zIR:=funext fun (x0,())=>by kernel_rfl
end
def y8:zuL:=zIR
theorem zIS:Sd Tryz.prog E0 (ze1 y8):=mkS (l:=[]) trivial Tryz.func198 (by kernel_rfl) (zXw K0)
section
variable (vj:zuL)
def zoP:((Option zbi) × (Int × Unit))→Option (Bool × Unit):=fun (x0,x1,()) =>
  Option.bind (vj (x0,())) fun q0=>bif q0.1 then bif decide (x1 ≥ 0) then Option.bind x0 fun q1=>bif decide (x1 < ((List.length q1.1):Int)) then Option.bind x0 fun q2=>Option.bind x0 fun q3=>inR x1 ((List.length q3.1):Int) (Option.bind q2.2.1 fun q4=>Option.bind (q4 (ix qb q3.1 x1,())) fun q5=>bif q5.1 then some (true,()) else some (false,())) else some (false,()) else some (false,()) else some (false,())
theorem zZL (K:Nat):evF (En E0 false [ze1 vj]) K Tryz.f157 0 zwN zwO = zoP vj:=funext fun (x0,x1,())=>by kernel_rfl
end
def jA:zwP:=zoP y8
theorem zKK:Sd Tryz.prog E0 (zf9 jA):=mkS (l:=[ze1 y8]) ⟨zIS,trivial⟩ Tryz.func157 (by kernel_rfl) (zZL y8 K0)
section
variable (vj:zuL) (zO:zwP)
abbrev zFf:Env:=(En E0 false [ze1 vj,zf9 zO])
abbrev zc0:Type:=(Option zbi) × Int × Int × List Int
abbrev zSv:zc0→St:=fun (v0,v12,v13,o0)=>St.mk [(0,AV.dat (Ty.ptr zb8) v0),(3,AV.ow 0),(12,AV.dat tI v12),(13,AV.dat tI v13)] [Obj.row tI o0 false]
def zc1 (k0:zc0→Option ((List Int) × Unit)):zc0→Option ((List Int) × Unit):=fun (v0,v12,v13,o0) =>
  bif decide (v13 < v12) then Option.bind (zO (v0,v13,())) fun q2=>bif q2.1 then bif decide (List.length o0 + List.length (zk (List.replicate 1 (0:Int)) 0 v13) ≤ lim) then k0 (v0,v12,wI (v13 + 1),o0 ++ zk (List.replicate 1 (0:Int)) 0 v13) else none else k0 (v0,v12,wI (v13 + 1),o0) else some (o0,())
abbrev zyV (K:Nat):zc0→Option ((List Int) × Unit):=iter (zc1 zO) K
theorem zSw (K:Nat):∀ n,evV (zFf vj zO) K Tryz.f121 0 zj4 [1,1,1,0,1,0] [] zSv n = iter (zc1 zO) n:=zm fun n0 (v0,v12,v13,o0)=>by kernel_rfl
def zsk (L0:zc0→Option ((List Int) × Unit)):((Option zbi) × Unit)→Option ((List Int) × Unit):=fun (x0,()) =>
  Option.bind (vj (x0,())) fun q0=>bif q0.1 then Option.bind x0 fun q1=>L0 (x0,((List.length q1.1):Int),0,[]) else some ([],())
theorem zVs (K:Nat):evF (zFf vj zO) K Tryz.f121 0 zrz zj4 = zsk vj (zyV zO K):=tr1 (T:=zsk vj) (zSw vj zO K K) fun (x0,())=>by kernel_rfl
end
def va:zrA:=zsk y8 (zyV jA K0)
theorem zFg:Sd Tryz.prog E0 (zdW va):=mkS (l:=[ze1 y8,zf9 jA]) ⟨zIS,zKK,trivial⟩ Tryz.func121 (by kernel_rfl) (zVs y8 jA K0)
section
variable (z8:zus) (qA:zKr) (zO:zwP) (zG:zrA)
abbrev yA:Env:=(En E0 false [ze0 z8,zut qA,zf9 zO,zdW zG])
abbrev ziq:Type:=(List zg) × Int × Int × (List Int) × Int × Int × zg
abbrev zKL:ziq→St:=fun (v14,v15,v16,v55,v56,v57,o0)=>St.mk [(4,AV.bp 0 []),(14,AV.dat (Ty.sl zh) v14),(15,AV.dat tI v15),(16,AV.dat tI v16),(55,AV.dat (Ty.sl tI) v55),(56,AV.dat tI v56),(57,AV.dat tI v57)] [Obj.bx (AV.dat zh o0) false]
abbrev zir:Type:=(Option zbi) × (List zg) × Int × Int × (List z3) × Int × Int × zg
abbrev zKM:zir→St:=fun (v5,v14,v15,v16,v24,v25,v26,o0)=>St.mk [(4,AV.bp 0 []),(5,AV.dat (Ty.ptr zb8) v5),(14,AV.dat (Ty.sl zh) v14),(15,AV.dat tI v15),(16,AV.dat tI v16),(24,AV.dat (Ty.sl zI) v24),(25,AV.dat tI v25),(26,AV.dat tI v26)] [Obj.bx (AV.dat zh o0) false]
abbrev yS:Type:=(List zg) × Int × Int
abbrev zem:yS→St:=fun (v14,v15,v16)=>St.mk [(14,AV.dat (Ty.sl zh) v14),(15,AV.dat tI v15),(16,AV.dat tI v16)] []
def zis (k0:yS→Option (Bool × Unit)) (k2:ziq→Option (Bool × Unit)):ziq→Option (Bool × Unit):=fun (v14,v15,v16,v55,v56,v57,o0) =>
  bif decide (v57 < v56) then inR v57 ((List.length v55):Int) (inR (ix (0:Int) v55 v57) ((List.length o0.2.2.2.2.1):Int) (inR (ix (0:Int) v55 v57) ((List.length o0.2.2.2.2.1):Int) (bif decide ((List.getD o0.2.2.2.2.1 (Int.toNat (ix (0:Int) v55 v57)) (zb zu)).2.2.2.1.2.2.1 ≥ ((List.length o0.2.2.1):Int)) then some (false,()) else bif decide ((List.getD o0.2.2.2.2.1 (Int.toNat (ix (0:Int) v55 v57)) (zb zu)).2.2.2.2.1.2.2.1 ≥ ((List.length o0.2.2.1):Int)) then some (false,()) else bif decide ((List.getD o0.2.2.2.2.1 (Int.toNat (ix (0:Int) v55 v57)) (zb zu)).2.2.2.1.2.2.1 ≥ 0) then inR (List.getD o0.2.2.2.2.1 (Int.toNat (ix (0:Int) v55 v57)) (zb zu)).2.2.2.1.2.2.1 ((List.length o0.2.2.1):Int) (bif (List.getD o0.2.2.1 (Int.toNat (List.getD o0.2.2.2.2.1 (Int.toNat (ix (0:Int) v55 v57)) (zb zu)).2.2.2.1.2.2.1) (zb zI)).2.2.1 != 3 then some (false,()) else inR (List.getD o0.2.2.2.2.1 (Int.toNat (ix (0:Int) v55 v57)) (zb zu)).2.2.2.1.2.2.1 ((List.length o0.2.2.1):Int) (bif (List.getD o0.2.2.1 (Int.toNat (List.getD o0.2.2.2.2.1 (Int.toNat (ix (0:Int) v55 v57)) (zb zu)).2.2.2.1.2.2.1) (zb zI)).2.2.2.1 != ix (0:Int) v55 v57 then some (false,()) else k2 (v14,v15,v16,v55,v56,wI (v57 + 1),o0))) else k2 (v14,v15,v16,v55,v56,wI (v57 + 1),o0)))) else k0 (v14,v15,wI (v16 + 1))
abbrev zit (K:Nat) (k0:yS→Option (Bool × Unit)):ziq→Option (Bool × Unit):=iter (fun k2=>zis k0 k2) K
theorem zZM (K:Nat) (n0:Nat):∀ n,evV (yA z8 qA zO zG) K Tryz.f60 0 vC [1,0,1,0,0,1,1,0,0,1,1,1,1,0] [n0] zKL n = iter (fun k2=>zis (evV (yA z8 qA zO zG) K Tryz.f60 0 vC [1,0,1,0] [] zem n0) k2) n:=zm fun n2 (v14,v15,v16,v55,v56,v57,o0)=>by kernel_rfl
def zen (L2:ziq→Option (Bool × Unit)) (k0:yS→Option (Bool × Unit)) (k1:zir→Option (Bool × Unit)):zir→Option (Bool × Unit):=fun (v5,v14,v15,v16,v24,v25,v26,o0) =>
  bif decide (v26 < v25) then inR v26 ((List.length v24):Int) (bif (ix zL v24 v26).2.2.1 == 3 then Option.bind (zO (v5,(ix zL v24 v26).2.2.2.1,())) fun q1=>bif q1.1 then inR (ix zL v24 v26).2.2.2.1 ((List.length o0.2.2.2.2.1):Int) (bif (List.getD o0.2.2.2.2.1 (Int.toNat (ix zL v24 v26).2.2.2.1) (zb zu)).2.2.2.1.2.2.1 != v26 then some (false,()) else k1 (v5,v14,v15,v16,v24,v25,wI (v26 + 1),o0)) else some (false,()) else k1 (v5,v14,v15,v16,v24,v25,wI (v26 + 1),o0)) else Option.bind (zG (v5,())) fun q2=>L2 (v14,v15,v16,q2.1,((List.length q2.1):Int),0,o0)
abbrev ziu (K:Nat) (k0:yS→Option (Bool × Unit)):zir→Option (Bool × Unit):=iter (fun k1=>zen zO zG (zit K k0) k0 k1) K
theorem zZN (K:Nat) (n0:Nat):∀ n,evV (yA z8 qA zO zG) K Tryz.f60 0 vC [1,0,1,0,0,1,1,0,0,1,1,0,1,0] [n0] zKM n = iter (fun k1=>zen zO zG (zit K (evV (yA z8 qA zO zG) K Tryz.f60 0 vC [1,0,1,0] [] zem n0)) (evV (yA z8 qA zO zG) K Tryz.f60 0 vC [1,0,1,0] [] zem n0) k1) n:=qX (B:=fun L2 k1=>zen zO zG L2 (evV (yA z8 qA zO zG) K Tryz.f60 0 vC [1,0,1,0] [] zem n0) k1) (V1:=fun n1=>evV (yA z8 qA zO zG) K Tryz.f60 0 vC [1,0,1,0,0,1,1,0,0,1,1,1,1,0] [n0] zKL K) (W1:=fun k1=>(zit K (evV (yA z8 qA zO zG) K Tryz.f60 0 vC [1,0,1,0] [] zem n0))) (fun n1=>zZM z8 qA zO zG K n0 K) fun n1 (v5,v14,v15,v16,v24,v25,v26,o0)=>by kernel_rfl
def zeo (L1:zir→Option (Bool × Unit)) (k0:yS→Option (Bool × Unit)):yS→Option (Bool × Unit):=fun (v14,v15,v16) =>
  bif decide (v16 < v15) then inR v16 ((List.length v14):Int) (Option.bind (z8 ((ix za v14 v16).2.2.2.2.1,some qA,())) fun q0=>L1 (q0.1,v14,v15,v16,(ix za v14 v16).2.2.1,((List.length (ix za v14 v16).2.2.1):Int),0,ix za v14 v16)) else some (true,())
abbrev zKN (K:Nat):yS→Option (Bool × Unit):=iter (fun k0=>zeo z8 qA (ziu zO zG K k0) k0) K
theorem zZO (K:Nat):∀ n,evV (yA z8 qA zO zG) K Tryz.f60 0 vC [1,0,1,0] [] zem n = iter (fun k0=>zeo z8 qA (ziu zO zG K k0) k0) n:=qX (B:=fun L1 k0=>zeo z8 qA L1 k0) (V1:=fun n0=>evV (yA z8 qA zO zG) K Tryz.f60 0 vC [1,0,1,0,0,1,1,0,0,1,1,0,1,0] [n0] zKM K) (W1:=fun k0=>(ziu zO zG K k0)) (fun n0=>zZN z8 qA zO zG K n0 K) fun n0 (v14,v15,v16)=>by kernel_rfl
def zEg (L0:yS→Option (Bool × Unit)):(jh × Unit)→Option (Bool × Unit):=fun (x0,()) =>
  L0 (x0.2.1.2.1,((List.length x0.2.1.2.1):Int),0)
theorem z4y (K:Nat):evF (yA z8 qA zO zG) K Tryz.f60 0 zCC vC = zEg (zKN z8 qA zO zG K):=tr1 (T:=zEg) (zZO z8 qA zO zG K K) fun (x0,())=>by kernel_rfl
end
def zhI:zQV:=zEg (zKN vi yo jA va K0)
theorem z4z:Sd Tryz.prog E0 (zzv zhI):=mkS (l:=[ze0 vi,zut yo,zf9 jA,zdW va]) ⟨zIQ,zZK,zKK,zFg,trivial⟩ Tryz.func60 (by kernel_rfl) (z4y vi yo jA va K0)
section
def zIT:((List zj) × Unit)→Option ((List zj) × Unit):=fun (x0,()) =>
  bif List.isEmpty x0 then both (some ([],())) (bif decide (List.length (List.replicate 0 (zb zi)) + List.length x0 ≤ lim) then some (List.replicate 0 (zb zi) ++ x0,()) else none) else bif decide (List.length (List.replicate 0 (zb zi)) + List.length x0 ≤ lim) then some (List.replicate 0 (zb zi) ++ x0,()) else none
theorem zXx (K:Nat):evF (En E0 false []) K Tryz.f66 1 ztI ztJ = zIT:=funext fun (x0,())=>by kernel_rfl
end
def vS:ztK:=zIT
theorem zIU:Sd Tryz.prog E0 (zeX vS):=mkS (l:=[]) trivial Tryz.func66 (by kernel_rfl) (zXx K0)
section
variable (jB:ztK)
def zva:((List zj) × ((Option ((zj × Unit)→Option (Bool × Unit))) × Unit))→Option ((Option zb9) × Unit):=fun (x0,x1,()) =>
  bif Option.isNone x1 then some (none,()) else Option.bind (jB (x0,())) fun q0=>some (some (q0.1,x1,()),())
theorem zXy (K:Nat):evF (En E0 false [zeX jB]) K Tryz.f249 0 zuP zuQ = zva jB:=funext fun (x0,x1,())=>by kernel_rfl
end
def zgs:zHO:=zva vS
theorem zXz:Sd Tryz.prog E0 (zr8 zgs):=mkS (l:=[zeX vS]) ⟨zIU,trivial⟩ Tryz.func249 (by kernel_rfl) (zXy vS K0)
section
def zUf:(zj × Unit)→Option (Bool × Unit):=fun (x0,()) =>
  bif x0.1 then some (true,()) else some (false,())
theorem z7K (K:Nat):evF (En E0 false []) K Tryz.f250 0 zHP zHQ = zUf:=funext fun (x0,())=>by kernel_rfl
end
def zkY:zTz:=zUf
theorem z7L:Sd Tryz.prog E0 (zDO zkY):=mkS (l:=[]) trivial Tryz.func250 (by kernel_rfl) (z7K K0)
section
variable (zvb:zHO) (zIV:zTz)
def zQm:((List zj) × Unit)→Option ((Option zb9) × Unit):=fun (x0,()) =>
  Option.bind (zvb (x0,some zIV,())) fun q0=>some (q0.1,())
theorem qb9 (K:Nat):evF (En E0 false [zr8 zvb,zDO zIV]) K Tryz.f195 0 zPK zPL = zQm zvb zIV:=funext fun (x0,())=>by kernel_rfl
end
def zqR:zY6:=zQm zgs zkY
theorem qca:Sd Tryz.prog E0 (zMh zqR):=mkS (l:=[zr8 zgs,zDO zkY]) ⟨zXz,z7L,trivial⟩ Tryz.func195 (by kernel_rfl) (qb9 zgs zkY K0)
section
def zIW:((Option zb9) × Unit)→Option (Bool × Unit):=fun (x0,()) =>
  bif Option.isSome x0 then Option.bind x0 fun q0=>bif Option.isSome q0.2.1 then some (true,()) else some (false,()) else some (false,())
theorem zXA (K:Nat):evF (En E0 false []) K Tryz.f251 0 zuR zuS = zIW:=funext fun (x0,())=>by kernel_rfl
end
def y9:zuT:=zIW
theorem zIX:Sd Tryz.prog E0 (ze2 y9):=mkS (l:=[]) trivial Tryz.func251 (by kernel_rfl) (zXA K0)
section
variable (vk:zuT)
def zxP:((Option zb9) × (Int × Unit))→Option (Bool × Unit):=fun (x0,x1,()) =>
  Option.bind (vk (x0,())) fun q0=>bif q0.1 then bif decide (x1 ≥ 0) then Option.bind x0 fun q1=>bif decide (x1 < ((List.length q1.1):Int)) then Option.bind x0 fun q2=>Option.bind x0 fun q3=>inR x1 ((List.length q3.1):Int) (Option.bind q2.2.1 fun q4=>Option.bind (q4 (ix zP q3.1 x1,())) fun q5=>bif q5.1 then some (true,()) else some (false,())) else some (false,()) else some (false,()) else some (false,())
theorem zZP (K:Nat):evF (En E0 false [ze2 vk]) K Tryz.f252 0 zxd zxe = zxP vk:=funext fun (x0,x1,())=>by kernel_rfl
end
def zcl:zKA:=zxP y9
theorem zZQ:Sd Tryz.prog E0 (zuU zcl):=mkS (l:=[ze2 y9]) ⟨zIX,trivial⟩ Tryz.func252 (by kernel_rfl) (zZP y9 K0)
section
variable (vk:zuT) (zaI:zKA)
abbrev zFh:Env:=(En E0 false [ze2 vk,zuU zaI])
abbrev zc2:Type:=(Option zb9) × Int × Int × List Int
abbrev zSx:zc2→St:=fun (v0,v12,v13,o0)=>St.mk [(0,AV.dat (Ty.ptr zdG) v0),(3,AV.ow 0),(12,AV.dat tI v12),(13,AV.dat tI v13)] [Obj.row tI o0 false]
def zc3 (k0:zc2→Option ((List Int) × Unit)):zc2→Option ((List Int) × Unit):=fun (v0,v12,v13,o0) =>
  bif decide (v13 < v12) then Option.bind (zaI (v0,v13,())) fun q2=>bif q2.1 then bif decide (List.length o0 + List.length (zk (List.replicate 1 (0:Int)) 0 v13) ≤ lim) then k0 (v0,v12,wI (v13 + 1),o0 ++ zk (List.replicate 1 (0:Int)) 0 v13) else none else k0 (v0,v12,wI (v13 + 1),o0) else some (o0,())
abbrev zyW (K:Nat):zc2→Option ((List Int) × Unit):=iter (zc3 zaI) K
theorem zSy (K:Nat):∀ n,evV (zFh vk zaI) K Tryz.f196 0 zj6 [1,1,1,0,1,0] [] zSx n = iter (zc3 zaI) n:=zm fun n0 (v0,v12,v13,o0)=>by kernel_rfl
def zsl (L0:zc2→Option ((List Int) × Unit)):((Option zb9) × Unit)→Option ((List Int) × Unit):=fun (x0,()) =>
  Option.bind (vk (x0,())) fun q0=>bif q0.1 then Option.bind x0 fun q1=>L0 (x0,((List.length q1.1):Int),0,[]) else some ([],())
theorem zVt (K:Nat):evF (zFh vk zaI) K Tryz.f196 0 zrX zj6 = zsl vk (zyW zaI K):=tr1 (T:=zsl vk) (zSy vk zaI K K) fun (x0,())=>by kernel_rfl
end
def ze7:zE2:=zsl y9 (zyW zcl K0)
theorem zVu:Sd Tryz.prog E0 (zpr ze7):=mkS (l:=[ze2 y9,zuU zcl]) ⟨zIX,zZQ,trivial⟩ Tryz.func196 (by kernel_rfl) (zVt y9 zcl K0)
section
variable (zQn:zY6) (zsm:zE2)
def zIY:((List zj) × Unit)→Option ((List Int) × Unit):=fun (x0,()) =>
  Option.bind (zQn (x0,())) fun q0=>Option.bind (zsm (q0.1,())) fun q1=>some (q1.1,())
theorem z7M (K:Nat):evF (En E0 false [zMh zQn,zpr zsm]) K Tryz.f118 0 zGM zGN = zIY zQn zsm:=funext fun (x0,())=>by kernel_rfl
end
def zkZ:zTh:=zIY zqR ze7
theorem z7N:Sd Tryz.prog E0 (zDa zkZ):=mkS (l:=[zMh zqR,zpr ze7]) ⟨qca,zVu,trivial⟩ Tryz.func118 (by kernel_rfl) (z7M zqR ze7 K0)
section
def zEh:(zj × Unit)→Option (Int × Unit):=fun (x0,()) =>
  bif x0.2.2.2.1 == 2 then some (x0.2.2.2.2.1,()) else some (x0.2.2.2.2.2.1,())
theorem z4A (K:Nat):evF (En E0 false []) K Tryz.f119 0 zDb zDc = zEh:=funext fun (x0,())=>by kernel_rfl
end
def zeO:zRb:=zEh
theorem z4B:Sd Tryz.prog E0 (zzV zeO):=mkS (l:=[]) trivial Tryz.func119 (by kernel_rfl) (z4A K0)
section
def zNe:(Int × (Int × Unit))→Option (Int × (Int × Unit)):=fun (x0,x1,()) =>
  bif decide (0 ≤ x0) then bif decide (0 ≤ x1) then bif decide (x1 < 18446744073709551616) then bif zPj true x0 x1 != 0 then some (0,7,()) else bif decide (zLw true x0 x1 > 4611686018427387904) then some (0,7,()) else some (zLw true x0 x1,0,()) else none else none else none
theorem z9E (K:Nat):evF (En E0 false []) K Tryz.f122 0 zL0 zL1 = zNe:=funext fun (x0,x1,())=>by kernel_rfl
end
def zjR:zV9:=zNe
theorem z9F:Sd Tryz.prog E0 (zGP zjR):=mkS (l:=[]) trivial Tryz.func122 (by kernel_rfl) (z9E K0)
section
variable (zfD:zV9)
abbrev zZR:Env:=(En E0 false [zGP zfD])
abbrev zp2:Type:=Int × (List Int) × Int × Int
abbrev z7O:zp2→St:=fun (v4,v9,v10,v11)=>St.mk [(4,AV.dat tU v4),(9,AV.dat (Ty.sl tU) v9),(10,AV.dat tI v10),(11,AV.dat tI v11)] []
def zp3 (k0:zp2→Option (Int × (Int × Unit))):zp2→Option (Int × (Int × Unit)):=fun (v4,v9,v10,v11) =>
  bif decide (v11 < v10) then inR v11 ((List.length v9):Int) (Option.bind (zfD (v4,ix (0:Int) v9 v11,())) fun q0=>bif q0.2.1 != 0 then some (0,q0.2.1,()) else k0 (q0.1,v9,v10,wI (v11 + 1))) else some (v4,0,())
abbrev zUg (K:Nat):zp2→Option (Int × (Int × Unit)):=iter (zp3 zfD) K
theorem z7P (K:Nat):∀ n,evV (zZR zfD) K Tryz.f46 0 zFx [1,1,0,1,0] [] z7O n = iter (zp3 zfD) n:=zm fun n0 (v4,v9,v10,v11)=>by kernel_rfl
def zQo (L0:zp2→Option (Int × (Int × Unit))):((List Int) × Unit)→Option (Int × (Int × Unit)):=fun (x0,()) =>
  L0 (0,x0,((List.length x0):Int),0)
theorem qcb (K:Nat):evF (zZR zfD) K Tryz.f46 0 zPI zFx = zQo (zUg zfD K):=tr1 (T:=zQo) (z7P zfD K K) fun (x0,())=>by kernel_rfl
end
def vn:zv0:=zQo (zUg zjR K0)
theorem zFD:Sd Tryz.prog E0 (zdH vn):=mkS (l:=[zGP zjR]) ⟨z9F,trivial⟩ Tryz.func46 (by kernel_rfl) (qcb zjR K0)
section
variable (zE:zdV) (zgt:zTh) (zcJ:zRb) (z4:zv0)
abbrev zWt:Env:=(En E0 false [j5 zE,zDa zgt,zzV zcJ,zdH z4])
abbrev zmX:Type:=(List zj) × Int × (List Int) × Int × Int × List Int
abbrev z4C:zmX→St:=fun (v0,v1,v13,v14,v15,o0)=>St.mk [(0,AV.dat (Ty.sl zi) v0),(1,AV.dat tI v1),(6,AV.ow 0),(13,AV.dat (Ty.sl tI) v13),(14,AV.dat tI v14),(15,AV.dat tI v15)] [Obj.row tU o0 false]
def zmY (k0:zmX→Option (Int × (Int × Unit))):zmX→Option (Int × (Int × Unit)):=fun (v0,v1,v13,v14,v15,o0) =>
  bif decide (v15 < v14) then inR v15 ((List.length v13):Int) (inR (ix (0:Int) v13 v15) ((List.length v0):Int) (Option.bind (zcJ (List.getD v0 (Int.toNat (ix (0:Int) v13 v15)) (zb zi),())) fun q2=>bif q2.1 == v1 then inR (ix (0:Int) v13 v15) ((List.length v0):Int) (bif decide (List.length o0 + List.length (zk (List.replicate 1 (0:Int)) 0 (List.getD v0 (Int.toNat (ix (0:Int) v13 v15)) (zb zi)).2.2.2.2.2.2.2.2.1) ≤ lim) then k0 (v0,v1,v13,v14,wI (v15 + 1),o0 ++ zk (List.replicate 1 (0:Int)) 0 (List.getD v0 (Int.toNat (ix (0:Int) v13 v15)) (zb zi)).2.2.2.2.2.2.2.2.1) else none) else k0 (v0,v1,v13,v14,wI (v15 + 1),o0))) else Option.bind (z4 (o0,())) fun q3=>some (q3.1,q3.2.1,())
abbrev zRw (K:Nat):zmX→Option (Int × (Int × Unit)):=iter (zmY zcJ z4) K
theorem z4D (K:Nat):∀ n,evV (zWt zE zgt zcJ z4) K Tryz.f44 0 zBf [1,1,1,0,1,0] [] z4C n = iter (zmY zcJ z4) n:=zm fun n0 (v0,v1,v13,v14,v15,o0)=>by kernel_rfl
def zBn (L0:zmX→Option (Int × (Int × Unit))):((List zj) × (Int × Unit))→Option (Int × (Int × Unit)):=fun (x0,x1,()) =>
  Option.bind (zE (x1,())) fun q0=>bif q0.1 then Option.bind (zgt (x0,())) fun q1=>L0 (x0,x1,q1.1,((List.length q1.1):Int),0,[]) else some (0,1,())
theorem z9G (K:Nat):evF (zWt zE zgt zcJ z4) K Tryz.f44 0 zLL zBf = zBn zE zgt (zRw zcJ z4 K):=tr1 (T:=zBn zE zgt) (z4D zE zgt zcJ z4 K K) fun (x0,x1,())=>by kernel_rfl
end
def znL:zV4:=zBn qI zkZ (zRw zeO vn K0)
theorem z9H:Sd Tryz.prog E0 (zGl znL):=mkS (l:=[j5 qI,zDa zkZ,zzV zeO,zdH vn]) ⟨zgq,z7N,z4B,zFD,trivial⟩ Tryz.func44 (by kernel_rfl) (z9G qI zkZ zeO vn K0)
section
def zRx:(zo × Unit)→Option (Bool × Unit):=fun (x0,()) =>
  bif x0.1 then some (true,()) else some (false,())
theorem z4E (K:Nat):evF (En E0 false []) K Tryz.f197 0 zDD zDE = zRx:=funext fun (x0,())=>by kernel_rfl
end
def zhJ:zRj:=zRx
theorem z4F:Sd Tryz.prog E0 (zz9 zhJ):=mkS (l:=[]) trivial Tryz.func197 (by kernel_rfl) (z4E K0)
section
variable (z8:zus) (zEi:zRj)
def zNf:((List zo) × Unit)→Option ((Option zbi) × Unit):=fun (x0,()) =>
  Option.bind (z8 (x0,some zEi,())) fun q0=>some (q0.1,())
theorem z9I (K:Nat):evF (En E0 false [ze0 z8,zz9 zEi]) K Tryz.f120 0 zLY zLZ = zNf z8 zEi:=funext fun (x0,())=>by kernel_rfl
end
def znM:zV8:=zNf vi zhJ
theorem z9J:Sd Tryz.prog E0 (zGO znM):=mkS (l:=[ze0 vi,zz9 zhJ]) ⟨zIQ,z4F,trivial⟩ Tryz.func120 (by kernel_rfl) (z9I vi zhJ K0)
section
variable (zE:zdV) (zjS:zV8) (zG:zrA) (z4:zv0)
abbrev zUh:Env:=(En E0 false [j5 zE,zGO zjS,zdW zG,zdH z4])
abbrev zk0:Type:=(List zo) × Int × (List Int) × Int × Int × List Int
abbrev z16:zk0→St:=fun (v0,v1,v14,v15,v16,o0)=>St.mk [(0,AV.dat (Ty.sl zu) v0),(1,AV.dat tI v1),(6,AV.ow 0),(14,AV.dat (Ty.sl tI) v14),(15,AV.dat tI v15),(16,AV.dat tI v16)] [Obj.row tU o0 false]
def zk1 (k0:zk0→Option (Int × (Int × Unit))):zk0→Option (Int × (Int × Unit)):=fun (v0,v1,v14,v15,v16,o0) =>
  bif decide (v16 < v15) then inR v16 ((List.length v14):Int) (inR (ix (0:Int) v14 v16) ((List.length v0):Int) (bif (List.getD v0 (Int.toNat (ix (0:Int) v14 v16)) (zb zu)).2.2.2.1.1 == v1 then inR (ix (0:Int) v14 v16) ((List.length v0):Int) (bif decide (List.length o0 + List.length (zk (List.replicate 1 (0:Int)) 0 (List.getD v0 (Int.toNat (ix (0:Int) v14 v16)) (zb zu)).2.2.2.1.2.1) ≤ lim) then k0 (v0,v1,v14,v15,wI (v16 + 1),o0 ++ zk (List.replicate 1 (0:Int)) 0 (List.getD v0 (Int.toNat (ix (0:Int) v14 v16)) (zb zu)).2.2.2.1.2.1) else none) else k0 (v0,v1,v14,v15,wI (v16 + 1),o0))) else Option.bind (z4 (o0,())) fun q3=>some (q3.1,q3.2.1,())
abbrev zOA (K:Nat):zk0→Option (Int × (Int × Unit)):=iter (zk1 z4) K
theorem z17 (K:Nat):∀ n,evV (zUh zE zjS zG z4) K Tryz.f45 0 zvZ [1,1,1,0,1,0] [] z16 n = iter (zk1 z4) n:=zm fun n0 (v0,v1,v14,v15,v16,o0)=>by kernel_rfl
def zxQ (L0:zk0→Option (Int × (Int × Unit))):((List zo) × (Int × Unit))→Option (Int × (Int × Unit)):=fun (x0,x1,()) =>
  Option.bind (zE (x1,())) fun q0=>bif q0.1 then Option.bind (zjS (x0,())) fun q1=>Option.bind (zG (q1.1,())) fun q2=>L0 (x0,x1,q2.1,((List.length q2.1):Int),0,[]) else some (0,1,())
theorem z7Q (K:Nat):evF (zUh zE zjS zG z4) K Tryz.f45 0 zGm zvZ = zxQ zE zjS zG (zOA z4 K):=tr1 (T:=zxQ zE zjS zG) (z17 zE zjS zG z4 K K) fun (x0,x1,())=>by kernel_rfl
end
def zgu:zS6:=zxQ qI znM va (zOA vn K0)
theorem z7R:Sd Tryz.prog E0 (zCs zgu):=mkS (l:=[j5 qI,zGO znM,zdW va,zdH vn]) ⟨zgq,z9J,zFg,zFD,trivial⟩ Tryz.func45 (by kernel_rfl) (z7Q qI znM va vn K0)
section
variable (zE:zdV) (za6:zV4) (yj:zS6) (z4:zv0)
abbrev zp4:Env:=(En E0 false [j5 zE,zGl za6,zCs yj,zdH z4])
abbrev zk2:Type:=Int × (List zg) × Int × Int × (List (List Int)) × Int × Int × List Int
abbrev zOB:zk2→St:=fun (v1,v31,v32,v33,v52,v53,v54,o0)=>St.mk [(1,AV.dat tI v1),(8,AV.ow 0),(31,AV.dat (Ty.sl zh) v31),(32,AV.dat tI v32),(33,AV.dat tI v33),(52,AV.dat (Ty.sl (Ty.arr 4 tU)) v52),(53,AV.dat tI v53),(54,AV.dat tI v54)] [Obj.row tU o0 false]
abbrev zdq:Type:=Int × (List zg) × Int × Int × List Int
abbrev zOC:zdq→St:=fun (v1,v31,v32,v33,o0)=>St.mk [(1,AV.dat tI v1),(8,AV.ow 0),(31,AV.dat (Ty.sl zh) v31),(32,AV.dat tI v32),(33,AV.dat tI v33)] [Obj.row tU o0 false]
def zk3 (k0:zdq→Option (Int × (Int × Unit))) (k1:zk2→Option (Int × (Int × Unit))):zk2→Option (Int × (Int × Unit)):=fun (v1,v31,v32,v33,v52,v53,v54,o0) =>
  bif decide (v54 < v53) then inR v54 ((List.length v52):Int) (inR v1 (↑4:Int) (bif decide (List.length o0 + List.length (zk (List.replicate 1 (0:Int)) 0 (List.getD (List.getD v52 (Int.toNat v54) (zb (Ty.arr 4 tU))) (Int.toNat v1) (0:Int))) ≤ lim) then k1 (v1,v31,v32,v33,v52,v53,wI (v54 + 1),o0 ++ zk (List.replicate 1 (0:Int)) 0 (List.getD (List.getD v52 (Int.toNat v54) (zb (Ty.arr 4 tU))) (Int.toNat v1) (0:Int))) else none)) else k0 (v1,v31,v32,wI (v33 + 1),o0)
abbrev zk4 (K:Nat) (k0:zdq→Option (Int × (Int × Unit))):zk2→Option (Int × (Int × Unit)):=iter (fun k1=>zk3 k0 k1) K
theorem z18 (K:Nat) (n0:Nat):∀ n,evV (zp4 zE za6 yj z4) K Tryz.f13 0 zf5 [1,1,1,1,1,0,1,0,0,1,1,0,0,1,1,1,1,1,0] [n0] zOB n = iter (fun k1=>zk3 (evV (zp4 zE za6 yj z4) K Tryz.f13 0 zf5 [1,1,1,1,1,0,1,0] [] zOC n0) k1) n:=zm fun n1 (v1,v31,v32,v33,v52,v53,v54,o0)=>by kernel_rfl
def zfN (L1:zk2→Option (Int × (Int × Unit))) (k0:zdq→Option (Int × (Int × Unit))):zdq→Option (Int × (Int × Unit)):=fun (v1,v31,v32,v33,o0) =>
  bif decide (v33 < v32) then inR v33 ((List.length v31):Int) (Option.bind (yj ((ix za v31 v33).2.2.2.2.1,v1,())) fun q2=>bif q2.2.1 != 0 then some (0,q2.2.1,()) else bif decide (List.length o0 + List.length (zk (List.replicate 1 (0:Int)) 0 q2.1) ≤ lim) then L1 (v1,v31,v32,v33,(ix za v31 v33).2.2.2.2.2.1,((List.length (ix za v31 v33).2.2.2.2.2.1):Int),0,o0 ++ zk (List.replicate 1 (0:Int)) 0 q2.1) else none) else Option.bind (z4 (o0,())) fun q3=>some (q3.1,q3.2.1,())
abbrev zOD (K:Nat):zdq→Option (Int × (Int × Unit)):=iter (fun k0=>zfN yj z4 (zk4 K k0) k0) K
theorem z19 (K:Nat):∀ n,evV (zp4 zE za6 yj z4) K Tryz.f13 0 zf5 [1,1,1,1,1,0,1,0] [] zOC n = iter (fun k0=>zfN yj z4 (zk4 K k0) k0) n:=qX (B:=fun L1 k0=>zfN yj z4 L1 k0) (V1:=fun n0=>evV (zp4 zE za6 yj z4) K Tryz.f13 0 zf5 [1,1,1,1,1,0,1,0,0,1,1,0,0,1,1,1,1,1,0] [n0] zOB K) (W1:=fun k0=>(zk4 K k0)) (fun n0=>z18 zE za6 yj z4 K n0 K) fun n0 (v1,v31,v32,v33,o0)=>by kernel_rfl
def zxR (L0:zdq→Option (Int × (Int × Unit))):(ze × (Int × Unit))→Option (Int × (Int × Unit)):=fun (x0,x1,()) =>
  Option.bind (zE (x1,())) fun q0=>bif q0.1 then Option.bind (za6 (x0.2.2.2.1,x1,())) fun q1=>bif q1.2.1 != 0 then some (0,q1.2.1,()) else L0 (x1,x0.2.1,((List.length x0.2.1):Int),0,[q1.1]) else some (0,1,())
theorem z7S (K:Nat):evF (zp4 zE za6 yj z4) K Tryz.f13 0 zF5 zf5 = zxR zE za6 (zOD yj z4 K):=tr1 (T:=zxR zE za6) (z19 zE za6 yj z4 K K) fun (x0,x1,())=>by kernel_rfl
end
def jW:zvR:=zxR qI znL (zOD zgu vn K0)
theorem zIZ:Sd Tryz.prog E0 (zeD jW):=mkS (l:=[j5 qI,zGl znL,zCs zgu,zdH vn]) ⟨zgq,z9H,z7R,zFD,trivial⟩ Tryz.func13 (by kernel_rfl) (z7S qI znL zgu vn K0)
section
variable (z4:zv0)
abbrev zOE:Env:=(En E0 false [zdH z4])
abbrev zgv:Type:=Int × (Option ((zg × Unit)→Option ((List Int) × Unit))) × (List zg) × Int × Int × List Int
abbrev zXB:zgv→St:=fun (v1,v2,v12,v13,v14,o0)=>St.mk [(1,AV.dat tI v1),(2,AV.dat (Ty.fn (Ty.pair zh Ty.unit) (Ty.pair (Ty.arr 4 tU) Ty.unit)) v2),(8,AV.ow 0),(12,AV.dat (Ty.sl zh) v12),(13,AV.dat tI v13),(14,AV.dat tI v14)] [Obj.row tU o0 false]
def zgw (k0:zgv→Option (Int × (Int × Unit))):zgv→Option (Int × (Int × Unit)):=fun (v1,v2,v12,v13,v14,o0) =>
  bif decide (v14 < v13) then inR v14 ((List.length v12):Int) (Option.bind v2 fun q0=>Option.bind (q0 (ix za v12 v14,())) fun q1=>inR v1 (↑4:Int) (bif decide (List.length o0 + List.length (zk (List.replicate 1 (0:Int)) 0 (ix (0:Int) q1.1 v1)) ≤ lim) then k0 (v1,v2,v12,v13,wI (v14 + 1),o0 ++ zk (List.replicate 1 (0:Int)) 0 (ix (0:Int) q1.1 v1)) else none)) else Option.bind (z4 (o0,())) fun q2=>some (q2.1,q2.2.1,())
abbrev zI0 (K:Nat):zgv→Option (Int × (Int × Unit)):=iter (zgw z4) K
theorem zXC (K:Nat):∀ n,evV (zOE z4) K Tryz.f50 0 zqB [1,1,0,1,0] [] zXB n = iter (zgw z4) n:=zm fun n0 (v1,v2,v12,v13,v14,o0)=>by kernel_rfl
def zAH (L0:zgv→Option (Int × (Int × Unit))):(ze × (Int × ((Option ((zg × Unit)→Option ((List Int) × Unit))) × Unit)))→Option (Int × (Int × Unit)):=fun (x0,x1,x2,()) =>
  L0 (x1,x2,x0.2.1,((List.length x0.2.1):Int),0,[])
theorem z2a (K:Nat):evF (zOE z4) K Tryz.f50 0 zzj zqB = zAH (zI0 z4 K):=tr1 (T:=zAH) (zXC z4 K K) fun (x0,x1,x2,())=>by kernel_rfl
end
def zk5:zNU:=zAH (zI0 vn K0)
theorem z2b:Sd Tryz.prog E0 (zv3 zk5):=mkS (l:=[zdH vn]) ⟨zFD,trivial⟩ Tryz.func50 (by kernel_rfl) (z2a vn K0)
end
end Go.Proofs.YtaokpakfhdeiiaaGreatDoor
end
section
namespace Go.Proofs.YtaokpakfhdeiiaaGreatDoor
open Go.Ev
noncomputable section
section
def zOF:(zg × Unit)→Option ((List Int) × Unit):=fun (x0,()) =>
  some (x0.2.2.2.2.2.2.2.1,())
theorem z2c (K:Nat):evF (En E0 false []) K Tryz.f51 0 zzk zzl = zOF:=funext fun (x0,())=>by kernel_rfl
end
def zk6:zNV:=zOF
theorem z2d:Sd Tryz.prog E0 (zv4 zk6):=mkS (l:=[]) trivial Tryz.func51 (by kernel_rfl) (z2c K0)
section
def zOG:(zg × Unit)→Option ((List Int) × Unit):=fun (x0,()) =>
  some (x0.2.2.2.2.2.2.2.2.1,())
theorem z2e (K:Nat):evF (En E0 false []) K Tryz.f52 0 zzm zzn = zOG:=funext fun (x0,())=>by kernel_rfl
end
def zk7:zNW:=zOG
theorem z2f:Sd Tryz.prog E0 (zv5 zk7):=mkS (l:=[]) trivial Tryz.func52 (by kernel_rfl) (z2e K0)
section
def zI1:(Int × (Int × Unit))→Option (Int × (Int × Unit)):=fun (x0,x1,()) =>
  bif decide (0 ≤ x0) then bif decide (0 ≤ x1) then bif decide (x1 < 18446744073709551616) then bif zPj false x0 x1 != 0 then some (0,6,()) else some (zLw false x0 x1,0,()) else none else none else none
theorem z7T (K:Nat):evF (En E0 false []) K Tryz.f53 0 zGr zGs = zI1:=funext fun (x0,x1,())=>by kernel_rfl
end
def zk8:zS9:=zI1
theorem z7U:Sd Tryz.prog E0 (zCv zk8):=mkS (l:=[]) trivial Tryz.func53 (by kernel_rfl) (z7T K0)
section
variable (zE:zdV) (zqS:zNU) (zAI:zNV) (zAJ:zNW) (zI2:zS9)
def zI3:(ze × (Int × Unit))→Option (Int × (Int × Unit)):=fun (x0,x1,()) =>
  Option.bind (zE (x1,())) fun q0=>bif q0.1 then Option.bind (zqS (x0,x1,some zAI,())) fun q1=>bif q1.2.1 != 0 then some (0,q1.2.1,()) else Option.bind (zqS (x0,x1,some zAJ,())) fun q2=>bif q2.2.1 != 0 then some (0,q2.2.1,()) else Option.bind (zI2 (q1.1,q2.1,())) fun q3=>some (q3.1,q3.2.1,()) else some (0,1,())
theorem z7V (K:Nat):evF (En E0 false [j5 zE,zv3 zqS,zv4 zAI,zv5 zAJ,zCv zI2]) K Tryz.f15 0 zF8 zF9 = zI3 zE zqS zAI zAJ zI2:=funext fun (x0,x1,())=>by kernel_rfl
end
def jX:zvS:=zI3 qI zk5 zk6 zk7 zk8
theorem zI4:Sd Tryz.prog E0 (zeE jX):=mkS (l:=[j5 qI,zv3 zk5,zv4 zk6,zv5 zk7,zCv zk8]) ⟨zgq,z2b,z2d,z2f,z7U,trivial⟩ Tryz.func15 (by kernel_rfl) (z7V qI zk5 zk6 zk7 zk8 K0)
section
variable (qx:zvR) (qy:zvS)
abbrev zmZ:Env:=(En E0 false [zeD qx,zeE qy])
abbrev ziv:Type:=Int × Int × (List zg) × Int × Int × jh
abbrev zKO:ziv→St:=fun (v3,v10,v15,v16,v17,o0)=>St.mk [(1,AV.bp 0 []),(3,AV.dat tI v3),(10,AV.dat tI v10),(15,AV.dat (Ty.sl zh) v15),(16,AV.dat tI v16),(17,AV.dat tI v17)] [Obj.bx (AV.dat jx o0) false]
abbrev zcm:Type:=Int × jh
abbrev zKP:zcm→St:=fun (v10,o0)=>St.mk [(1,AV.bp 0 []),(10,AV.dat tI v10)] [Obj.bx (AV.dat jx o0) false]
def ziw (k0:zcm→Option (Bool × Unit)) (k1:ziv→Option (Bool × Unit)):ziv→Option (Bool × Unit):=fun (v3,v10,v15,v16,v17,o0) =>
  bif decide (v17 < v16) then inR v17 ((List.length v15):Int) (inR v3 (↑4:Int) (inR v17 ((List.length o0.1.2.2.2.2.1):Int) (bif decide (List.getD (ix za v15 v17).2.2.2.2.2.2.2.1 (Int.toNat v3) (0:Int) > (ix zD o0.1.2.2.2.2.1 v17).2.2.2.2.2.1) then some (false,()) else k1 (v3,v10,v15,v16,wI (v17 + 1),o0)))) else Option.bind (qx (o0.2.1,v3,())) fun q0=>Option.bind (qy (o0.2.1,v3,())) fun q1=>bif q0.2.1 != 0 then some (false,()) else bif q1.2.1 != 0 then some (false,()) else bif q0.1 != q1.1 then some (false,()) else k0 (wI (v10 + 1),o0)
abbrev zix (K:Nat) (k0:zcm→Option (Bool × Unit)):ziv→Option (Bool × Unit):=iter (fun k1=>ziw qx qy k0 k1) K
theorem zZS (K:Nat) (n0:Nat):∀ n,evV (zmZ qx qy) K Tryz.f61 0 zeF [1,0,1,0,0,1,1,0,0,1,0,1,0] [n0] zKO n = iter (fun k1=>ziw qx qy (evV (zmZ qx qy) K Tryz.f61 0 zeF [1,0,1,0] [] zKP n0) k1) n:=zm fun n1 (v3,v10,v15,v16,v17,o0)=>by kernel_rfl
def ziy (L1:ziv→Option (Bool × Unit)) (k0:zcm→Option (Bool × Unit)):zcm→Option (Bool × Unit):=fun (v10,o0) =>
  bif decide (v10 < 4) then L1 (v10,v10,o0.2.1.2.1,((List.length o0.2.1.2.1):Int),0,o0) else some (true,())
abbrev zKQ (K:Nat):zcm→Option (Bool × Unit):=iter (fun k0=>ziy (zix qx qy K k0) k0) K
theorem zZT (K:Nat):∀ n,evV (zmZ qx qy) K Tryz.f61 0 zeF [1,0,1,0] [] zKP n = iter (fun k0=>ziy (zix qx qy K k0) k0) n:=qX (B:=fun L1 k0=>ziy L1 k0) (V1:=fun n0=>evV (zmZ qx qy) K Tryz.f61 0 zeF [1,0,1,0,0,1,1,0,0,1,0,1,0] [n0] zKO K) (W1:=fun k0=>(zix qx qy K k0)) (fun n0=>zZS qx qy K n0 K) fun n0 (v10,o0)=>by kernel_rfl
def zEj (L0:zcm→Option (Bool × Unit)):(jh × Unit)→Option (Bool × Unit):=fun (x0,()) =>
  L0 (0,x0)
theorem z4G (K:Nat):evF (zmZ qx qy) K Tryz.f61 0 zCD zeF = zEj (zKQ qx qy K):=tr1 (T:=zEj) (zZT qx qy K K) fun (x0,())=>by kernel_rfl
end
def zhK:zQW:=zEj (zKQ jW jX K0)
theorem z4H:Sd Tryz.prog E0 (zzw zhK):=mkS (l:=[zeD jW,zeE jX]) ⟨zIZ,zI4,trivial⟩ Tryz.func61 (by kernel_rfl) (z4G jW jX K0)
section
variable (zcK:zQS) (zcL:zQT) (zbT:zNX) (zcM:zQU) (zbU:zNY) (zcN:zQV) (zcO:zQW)
abbrev zRy:Env:=(En E0 false [zzp zcK,zzq zcL,zv6 zbT,zzt zcM,zv7 zbU,zzv zcN,zzw zcO])
abbrev ziz:Type:=Bool × Int × Int × List (Option (Unit→Option (Bool × Unit)))
abbrev zZU:ziz→St:=fun (v6,v27,v28,o0)=>St.mk [(6,AV.dat Ty.bool v6),(26,AV.ow 0),(27,AV.dat tI v27),(28,AV.dat tI v28)] [Obj.row (Ty.fn Ty.unit (Ty.pair Ty.bool Ty.unit)) o0 false]
def zoQ (k0:ziz→Option (Bool × Unit)):ziz→Option (Bool × Unit):=fun (v6,v27,v28,o0) =>
  bif decide (v28 < v27) then inR v28 ((List.length o0):Int) (Option.bind (List.getD o0 (Int.toNat v28) (zb (Ty.fn Ty.unit (Ty.pair Ty.bool Ty.unit)))) fun q0=>Option.bind (q0 ()) fun q1=>bif q1.1 then k0 (true,v27,wI (v28 + 1),o0) else some (false,())) else some (v6,())
abbrev zKR (K:Nat):ziz→Option (Bool × Unit):=iter (zoQ) K
theorem zZV (K:Nat):∀ n,evV (zRy zcK zcL zbT zcM zbU zcN zcO) K Tryz.f17 0 zs3 [1,0,1,1,1,0,1,0] [] zZU n = iter (zoQ) n:=zm fun n0 (v6,v27,v28,o0)=>by kernel_rfl
def zEk (L0:ziz→Option (Bool × Unit)):(zd × (ze × Unit))→Option (Bool × Unit):=fun (x0,x1,()) =>
  L0 (true,((List.length (zk (zk (zk (zk (zk (zk (zk (List.replicate 7 (zb (Ty.fn Ty.unit (Ty.pair Ty.bool Ty.unit)))) 0 (some fun z=>zcK ((x0,x1,(zb jx).2.2),()))) 1 (some fun z=>zcL ((x0,x1,(zb jx).2.2),()))) 2 (some fun z=>zbT ((x0,x1,(zb jx).2.2),()))) 3 (some fun z=>zcM ((x0,x1,(zb jx).2.2),()))) 4 (some fun z=>zbU ((x0,x1,(zb jx).2.2),()))) 5 (some fun z=>zcN ((x0,x1,(zb jx).2.2),()))) 6 (some fun z=>zcO ((x0,x1,(zb jx).2.2),())))):Int),0,[some fun z=>zcK ((x0,x1,(zb jx).2.2),()),some fun z=>zcL ((x0,x1,(zb jx).2.2),()),some fun z=>zbT ((x0,x1,(zb jx).2.2),()),some fun z=>zcM ((x0,x1,(zb jx).2.2),()),some fun z=>zbU ((x0,x1,(zb jx).2.2),()),some fun z=>zcN ((x0,x1,(zb jx).2.2),()),some fun z=>zcO ((x0,x1,(zb jx).2.2),())])
theorem z4I (K:Nat):evF (zRy zcK zcL zbT zcM zbU zcN zcO) K Tryz.f17 0 zCc zs3 = zEk zcK zcL zbT zcM zbU zcN zcO (zKR K):=tr1 (T:=zEk zcK zcL zbT zcM zbU zcN zcO) (zZV zcK zcL zbT zcM zbU zcN zcO K K) fun (x0,x1,())=>by kernel_rfl
end
def jE:zmM:=zEk zeL zeM zdn zhH zdp zhI zhK (zKR K0)
theorem ztm:Sd Tryz.prog E0 (zai jE):=mkS (l:=[zzp zeL,zzq zeM,zv6 zdn,zzt zhH,zv7 zdp,zzv zhI,zzw zhK]) ⟨z4f,z4n,z13,z4x,z15,z4z,z4H,trivial⟩ Tryz.func17 (by kernel_rfl) (z4I zeL zeM zdn zhH zdp zhI zhK K0)
section
variable (qY:zmM) (yz:zs9)
def zAK:(zd × (ze × (qe × Unit)))→Option (Bool × Unit):=fun (x0,x1,x2,()) =>
  Option.bind (qY (x0,x1,())) fun q0=>bif q0.1 then Option.bind (yz (x1,x2,())) fun q1=>bif q1.1 then some (true,()) else some (false,()) else some (false,())
theorem z2g (K:Nat):evF (En E0 false [zai qY,zde yz]) K Tryz.f18 0 zy7 zy8 = zAK qY yz:=funext fun (x0,x1,x2,())=>by kernel_rfl
end
def yk:zy9:=zAK jE yb
theorem zOH:Sd Tryz.prog E0 (zib yk):=mkS (l:=[zai jE,zde yb]) ⟨ztm,zEc,trivial⟩ Tryz.func18 (by kernel_rfl) (z2g jE yb K0)
section
def zI5:((List zy) × Unit)→Option ((List zy) × Unit):=fun (x0,()) =>
  bif List.isEmpty x0 then both (some ([],())) (bif decide (List.length (List.replicate 0 (zb zl)) + List.length x0 ≤ lim) then some (List.replicate 0 (zb zl) ++ x0,()) else none) else bif decide (List.length (List.replicate 0 (zb zl)) + List.length x0 ≤ lim) then some (List.replicate 0 (zb zl) ++ x0,()) else none
theorem zXD (K:Nat):evF (En E0 false []) K Tryz.f67 1 ztL ztM = zI5:=funext fun (x0,())=>by kernel_rfl
end
def zdr:zGt:=zI5
theorem zXE:Sd Tryz.prog E0 (zrq zdr):=mkS (l:=[]) trivial Tryz.func67 (by kernel_rfl) (zXD K0)
section
def zOI:((List Int) × Unit)→Option ((List Int) × Unit):=fun (x0,()) =>
  bif List.isEmpty x0 then both (some ([],())) (bif decide (List.length (List.replicate 0 (0:Int)) + List.length x0 ≤ lim) then some (List.replicate 0 (0:Int) ++ x0,()) else none) else bif decide (List.length (List.replicate 0 (0:Int)) + List.length x0 ≤ lim) then some (List.replicate 0 (0:Int) ++ x0,()) else none
theorem z2h (K:Nat):evF (En E0 false []) K Tryz.f68 1 zzA zzB = zOI:=funext fun (x0,())=>by kernel_rfl
end
def zbV:zN0:=zOI
theorem z2i:Sd Tryz.prog E0 (zwa zbV):=mkS (l:=[]) trivial Tryz.func68 (by kernel_rfl) (z2h K0)
section
def zKS:((List (List Int)) × Unit)→Option ((List (List Int)) × Unit):=fun (x0,()) =>
  bif List.isEmpty x0 then both (some ([],())) (bif decide (List.length (List.replicate 0 ([]:List Int)) + List.length x0 ≤ lim) then some (List.replicate 0 ([]:List Int) ++ x0,()) else none) else bif decide (List.length (List.replicate 0 ([]:List Int)) + List.length x0 ≤ lim) then some (List.replicate 0 ([]:List Int) ++ x0,()) else none
theorem zZW (K:Nat):evF (En E0 false []) K Tryz.f69 1 zwb zwc = zKS:=funext fun (x0,())=>by kernel_rfl
end
def zep:zKg:=zKS
theorem zZX:Sd Tryz.prog E0 (ztN zep):=mkS (l:=[]) trivial Tryz.func69 (by kernel_rfl) (zZW K0)
section
def zI6:((List zg) × Unit)→Option ((List zg) × Unit):=fun (x0,()) =>
  bif List.isEmpty x0 then both (some ([],())) (bif decide (List.length (List.replicate 0 (zb zh)) + List.length x0 ≤ lim) then some (List.replicate 0 (zb zh) ++ x0,()) else none) else bif decide (List.length (List.replicate 0 (zb zh)) + List.length x0 ≤ lim) then some (List.replicate 0 (zb zh) ++ x0,()) else none
theorem zXF (K:Nat):evF (En E0 false []) K Tryz.f70 1 ztO ztP = zI6:=funext fun (x0,())=>by kernel_rfl
end
def zds:zGu:=zI6
theorem zXG:Sd Tryz.prog E0 (zrr zds):=mkS (l:=[]) trivial Tryz.func70 (by kernel_rfl) (zXF K0)
section
def zKT:((List qP) × Unit)→Option ((List qP) × Unit):=fun (x0,()) =>
  bif List.isEmpty x0 then both (some ([],())) (bif decide (List.length (List.replicate 0 (zb zX)) + List.length x0 ≤ lim) then some (List.replicate 0 (zb zX) ++ x0,()) else none) else bif decide (List.length (List.replicate 0 (zb zX)) + List.length x0 ≤ lim) then some (List.replicate 0 (zb zX) ++ x0,()) else none
theorem zZY (K:Nat):evF (En E0 false []) K Tryz.f71 1 zwd zwe = zKT:=funext fun (x0,())=>by kernel_rfl
end
def zeq:zKh:=zKT
theorem zZZ:Sd Tryz.prog E0 (ztQ zeq):=mkS (l:=[]) trivial Tryz.func71 (by kernel_rfl) (zZY K0)
section
def zKU:((List z5) × Unit)→Option ((List z5) × Unit):=fun (x0,()) =>
  bif List.isEmpty x0 then both (some ([],())) (bif decide (List.length (List.replicate 0 (zb zV)) + List.length x0 ≤ lim) then some (List.replicate 0 (zb zV) ++ x0,()) else none) else bif decide (List.length (List.replicate 0 (zb zV)) + List.length x0 ≤ lim) then some (List.replicate 0 (zb zV) ++ x0,()) else none
theorem zZ0 (K:Nat):evF (En E0 false []) K Tryz.f72 1 zwf zwg = zKU:=funext fun (x0,())=>by kernel_rfl
end
def zer:zKi:=zKU
theorem zZ1:Sd Tryz.prog E0 (ztR zer):=mkS (l:=[]) trivial Tryz.func72 (by kernel_rfl) (zZ0 K0)
section
def zKV:((List z3) × Unit)→Option ((List z3) × Unit):=fun (x0,()) =>
  bif List.isEmpty x0 then both (some ([],())) (bif decide (List.length (List.replicate 0 (zb zI)) + List.length x0 ≤ lim) then some (List.replicate 0 (zb zI) ++ x0,()) else none) else bif decide (List.length (List.replicate 0 (zb zI)) + List.length x0 ≤ lim) then some (List.replicate 0 (zb zI) ++ x0,()) else none
theorem zZ2 (K:Nat):evF (En E0 false []) K Tryz.f73 1 zwh zwi = zKV:=funext fun (x0,())=>by kernel_rfl
end
def zes:zKj:=zKV
theorem zZ3:Sd Tryz.prog E0 (ztS zes):=mkS (l:=[]) trivial Tryz.func73 (by kernel_rfl) (zZ2 K0)
section
def zKW:((List qh) × Unit)→Option ((List qh) × Unit):=fun (x0,()) =>
  bif List.isEmpty x0 then both (some ([],())) (bif decide (List.length (List.replicate 0 (zb zZ)) + List.length x0 ≤ lim) then some (List.replicate 0 (zb zZ) ++ x0,()) else none) else bif decide (List.length (List.replicate 0 (zb zZ)) + List.length x0 ≤ lim) then some (List.replicate 0 (zb zZ) ++ x0,()) else none
theorem zZ4 (K:Nat):evF (En E0 false []) K Tryz.f74 1 zwj zwk = zKW:=funext fun (x0,())=>by kernel_rfl
end
def zet:zKk:=zKW
theorem zZ5:Sd Tryz.prog E0 (ztT zet):=mkS (l:=[]) trivial Tryz.func74 (by kernel_rfl) (zZ4 K0)
section
def zRz:((List (List Int)) × Unit)→Option ((List (List Int)) × Unit):=fun (x0,()) =>
  bif List.isEmpty x0 then both (some ([],())) (bif decide (List.length (List.replicate 0 (zb (Ty.arr 4 tU))) + List.length x0 ≤ lim) then some (List.replicate 0 (zb (Ty.arr 4 tU)) ++ x0,()) else none) else bif decide (List.length (List.replicate 0 (zb (Ty.arr 4 tU))) + List.length x0 ≤ lim) then some (List.replicate 0 (zb (Ty.arr 4 tU)) ++ x0,()) else none
theorem z4J (K:Nat):evF (En E0 false []) K Tryz.f76 1 zCI zCJ = zRz:=funext fun (x0,())=>by kernel_rfl
end
def zhL:zQY:=zRz
theorem z4K:Sd Tryz.prog E0 (zzC zhL):=mkS (l:=[]) trivial Tryz.func76 (by kernel_rfl) (z4J K0)
section
def zOJ:((List qe) × Unit)→Option ((List qe) × Unit):=fun (x0,()) =>
  bif List.isEmpty x0 then both (some ([],())) (bif decide (List.length (List.replicate 0 (zb zY)) + List.length x0 ≤ lim) then some (List.replicate 0 (zb zY) ++ x0,()) else none) else bif decide (List.length (List.replicate 0 (zb zY)) + List.length x0 ≤ lim) then some (List.replicate 0 (zb zY) ++ x0,()) else none
theorem z2j (K:Nat):evF (En E0 false []) K Tryz.f77 1 zzD zzE = zOJ:=funext fun (x0,())=>by kernel_rfl
end
def zfO:zN1:=zOJ
theorem z2k:Sd Tryz.prog E0 (zwl zfO):=mkS (l:=[]) trivial Tryz.func77 (by kernel_rfl) (z2j K0)
section
variable (jB:ztK) (vT:zGt) (jQ:zN0) (yp:zKg) (j6:zGu) (jK:zKh) (jL:zKi) (jM:zKj) (jN:zKk) (qF:ztW) (vd:zQY) (jZ:zN1)
abbrev ztn:Env:=(En E0 true [zeX jB,zrq vT,zwa jQ,ztN yp,zrr j6,ztQ jK,ztR jL,ztS jM,ztT jN,zeY qF,zzC vd,zwl jZ])
abbrev ziA:Type:=Int × Int × Int × Int × List zg × Nat × List (List Int) × Nat × List zj × List zy × List Int × List zg × Nat × List (List Int) × Nat × List zj × List zy × List Int
abbrev zKX:ziA→St:=fun (v44,v45,o0_0,o1_0,o2,c2,o3,c3,o4,o5,o6,o7,c7,o8,c8,o9,o10,o11)=>St.mk [(1,AV.bp 0 []),(2,AV.bp 1 []),(43,AV.ow 2),(44,AV.dat tI v44),(45,AV.dat tI v45)] [Obj.bx (AV.fld (Ty.pair tU (Ty.pair (Ty.sl zh) (Ty.pair (Ty.sl (Ty.sl tI)) (Ty.pair (Ty.sl zi) (Ty.pair (Ty.sl zl) (Ty.pair (Ty.sl tI) Ty.unit)))))) [AV.dat tU o0_0,AV.ow 2,AV.ow 3,AV.ow 4,AV.ow 5,AV.ow 6]) false,Obj.bx (AV.fld (Ty.pair tU (Ty.pair (Ty.sl zh) (Ty.pair (Ty.sl (Ty.sl tI)) (Ty.pair (Ty.sl zi) (Ty.pair (Ty.sl zl) (Ty.pair (Ty.sl tI) Ty.unit)))))) [AV.dat tU o1_0,AV.ow 7,AV.ow 8,AV.ow 9,AV.ow 10,AV.ow 11]) false,Obj.drow zh o2 c2,Obj.drow (Ty.sl tI) o3 c3,Obj.row zi o4 false,Obj.row zl o5 false,Obj.row tI o6 false,Obj.drow zh o7 c7,Obj.drow (Ty.sl tI) o8 c8,Obj.row zi o9 false,Obj.row zl o10 false,Obj.row tI o11 false]
abbrev ziB:Type:=Int × Int × Int × (List zg) × Int × List (List Int) × Nat × List zj × List zy × List Int × List zg × Nat × List (List Int) × Nat × List zj × List zy × List Int
abbrev zZ6:ziB→St:=fun (v25,v26,o0_0,o0_1,o1_0,o2,c2,o3,o4,o5,o6,c6,o7,c7,o8,o9,o10)=>St.mk [(1,AV.bp 0 []),(2,AV.bp 1 []),(24,AV.ow 2),(25,AV.dat tI v25),(26,AV.dat tI v26)] [Obj.bx (AV.fld (Ty.pair tU (Ty.pair (Ty.sl zh) (Ty.pair (Ty.sl (Ty.sl tI)) (Ty.pair (Ty.sl zi) (Ty.pair (Ty.sl zl) (Ty.pair (Ty.sl tI) Ty.unit)))))) [AV.dat tU o0_0,AV.dat (Ty.sl zh) o0_1,AV.ow 2,AV.ow 3,AV.ow 4,AV.ow 5]) false,Obj.bx (AV.fld (Ty.pair tU (Ty.pair (Ty.sl zh) (Ty.pair (Ty.sl (Ty.sl tI)) (Ty.pair (Ty.sl zi) (Ty.pair (Ty.sl zl) (Ty.pair (Ty.sl tI) Ty.unit)))))) [AV.dat tU o1_0,AV.ow 6,AV.ow 7,AV.ow 8,AV.ow 9,AV.ow 10]) false,Obj.drow (Ty.sl tI) o2 c2,Obj.row zi o3 false,Obj.row zl o4 false,Obj.row tI o5 false,Obj.drow zh o6 c6,Obj.drow (Ty.sl tI) o7 c7,Obj.row zi o8 false,Obj.row zl o9 false,Obj.row tI o10 false]
def zKY (k1:ziA→Option (ze × Unit)):ziA→Option (ze × Unit):=fun (v44,v45,o0_0,o1_0,o2,c2,o3,c3,o4,o5,o6,o7,c7,o8,c8,o9,o10,o11) =>
  bif decide (v45 < v44) then inR v45 ((List.length o2):Int) (bif decide (c2 ≤ Int.toNat v45) then Option.bind (jK ((ix za o2 v45).1,())) fun q6=>Option.bind (jL ((ix za o2 v45).2.1,())) fun q7=>Option.bind (jM ((ix za o2 v45).2.2.1,())) fun q8=>Option.bind (jN ((ix za o2 v45).2.2.2.1,())) fun q9=>Option.bind (qF ((ix za o2 v45).2.2.2.2.1,())) fun q10=>Option.bind (vd ((ix za o2 v45).2.2.2.2.2.1,())) fun q11=>Option.bind (jZ ((ix za o2 v45).2.2.2.2.2.2.1,())) fun q12=>inR v45 ((List.length o2):Int) (bif decide (Int.toNat v45 = c2) then k1 (v44,wI (v45 + 1),o0_0,o1_0,List.set o2 (Int.toNat v45) (q6.1,q7.1,q8.1,q9.1,q10.1,q11.1,q12.1,(ix za o2 v45).2.2.2.2.2.2.2.1,(ix za o2 v45).2.2.2.2.2.2.2.2.1,()),c2 + 1,o3,c3,o4,o5,o6,o7,c7,o8,c8,o9,o10,o11) else none) else none) else bif decide (c2 = List.length o2) then bif decide (c3 = List.length o3) then some ((o0_0,o2,o3,o4,o5,o6,()),()) else none else none
abbrev zxS (K:Nat):ziA→Option (ze × Unit):=iter (zKY jK jL jM jN qF vd jZ) K
theorem zZ7 (K:Nat):∀ n,evV (ztn jB vT jQ yp j6 jK jL jM jN qF vd jZ) K Tryz.f23 3 zhy [1,1,1,1,1,0,1,0] [] zKX n = iter (zKY jK jL jM jN qF vd jZ) n:=zm fun n1 (v44,v45,o0_0,o1_0,o2,c2,o3,c3,o4,o5,o6,o7,c7,o8,c8,o9,o10,o11)=>by kernel_rfl
def zxT (L1:ziA→Option (ze × Unit)) (k0:ziB→Option (ze × Unit)):ziB→Option (ze × Unit):=fun (v25,v26,o0_0,o0_1,o1_0,o2,c2,o3,o4,o5,o6,c6,o7,c7,o8,o9,o10) =>
  bif decide (v26 < v25) then inR v26 ((List.length o2):Int) (bif decide (c2 ≤ Int.toNat v26) then Option.bind (jQ (List.getD o2 (Int.toNat v26) ([]:List Int),())) fun q4=>inR v26 ((List.length o2):Int) (bif decide (Int.toNat v26 = c2) then k0 (v25,wI (v26 + 1),o0_0,o0_1,o1_0,List.set o2 (Int.toNat v26) q4.1,c2 + 1,o3,o4,o5,o6,c6,o7,c7,o8,o9,o10) else none) else none) else Option.bind (j6 (o0_1,())) fun q5=>L1 (((List.length q5.1):Int),0,o0_0,o1_0,q5.1,0,o2,c2,o3,o4,o5,o6,c6,o7,c7,o8,o9,o10)
abbrev zoR (K:Nat):ziB→Option (ze × Unit):=iter (fun k0=>zxT jQ j6 (zxS jK jL jM jN qF vd jZ K) k0) K
theorem zZ8 (K:Nat):∀ n,evV (ztn jB vT jQ yp j6 jK jL jM jN qF vd jZ) K Tryz.f23 3 zhy [1,1,1,0,1,0] [] zZ6 n = iter (fun k0=>zxT jQ j6 (zxS jK jL jM jN qF vd jZ K) k0) n:=qX (B:=fun L1 k0=>zxT jQ j6 L1 k0) (V1:=fun n0=>evV (ztn jB vT jQ yp j6 jK jL jM jN qF vd jZ) K Tryz.f23 3 zhy [1,1,1,1,1,0,1,0] [] zKX K) (W1:=fun k0=>(zxS jK jL jM jN qF vd jZ K)) (fun n0=>zZ7 jB vT jQ yp j6 jK jL jM jN qF vd jZ K K) fun n0 (v25,v26,o0_0,o0_1,o1_0,o2,c2,o3,o4,o5,o6,c6,o7,c7,o8,o9,o10)=>by kernel_rfl
def zm0 (L0:ziB→Option (ze × Unit)):(ze × Unit)→Option (ze × Unit):=fun (x0,()) =>
  Option.bind (jB (x0.2.2.2.1,())) fun q0=>Option.bind (vT (x0.2.2.2.2.1,())) fun q1=>Option.bind (jQ (x0.2.2.2.2.2.1,())) fun q2=>Option.bind (yp (x0.2.2.1,())) fun q3=>L0 (((List.length q3.1):Int),0,x0.1,x0.2.1,0,q3.1,0,q0.1,q1.1,q2.1,[],0,[],0,[],[],[])
theorem z4L (K:Nat):evF (ztn jB vT jQ yp j6 jK jL jM jN qF vd jZ) K Tryz.f23 3 zCh zhy = zm0 jB vT jQ yp (zoR jQ j6 jK jL jM jN qF vd jZ K):=tr1 (T:=zm0 jB vT jQ yp) (zZ8 jB vT jQ yp j6 jK jL jM jN qF vd jZ K K) fun (x0,())=>by kernel_rfl
end
def zeP:zCi:=zm0 vS zdr zbV zep (zoR zbV zds zeq zer zes zet vR zhL zfO K0)
theorem z4M:Sd Tryz.prog E0 (zzb zeP):=mkS (l:=[zeX vS,zrq zdr,zwa zbV,ztN zep,zrr zds,ztQ zeq,ztR zer,ztS zes,ztT zet,zeY vR,zzC zhL,zwl zfO]) ⟨zIU,zXE,z2i,zZX,zXG,zZZ,zZ1,zZ3,zZ5,zIP,z4K,z2k,trivial⟩ Tryz.func23 (by kernel_rfl) (z4L vS zdr zbV zep zds zeq zer zes zet vR zhL zfO K0)
section
abbrev zxU:Env:=(En E0 false [])
abbrev za7:Type:=(List zg) × (Option ((zg × (zg × Unit))→Option (Bool × Unit))) × (List zg) × Int × Int
abbrev zNg:za7→St:=fun (v1,v2,v15,v16,v17)=>St.mk [(1,AV.dat (Ty.sl zh) v1),(2,AV.dat (Ty.fn (Ty.pair zh (Ty.pair zh Ty.unit)) (Ty.pair Ty.bool Ty.unit)) v2),(15,AV.dat (Ty.sl zh) v15),(16,AV.dat tI v16),(17,AV.dat tI v17)] []
def zsR (k0:za7→Option (Bool × Unit)):za7→Option (Bool × Unit):=fun (v1,v2,v15,v16,v17) =>
  bif decide (v17 < v16) then inR v17 ((List.length v15):Int) (inR v17 ((List.length v1):Int) (Option.bind v2 fun q0=>Option.bind (q0 (ix za v15 v17,ix za v1 v17,())) fun q1=>bif q1.1 then k0 (v1,v2,v15,v16,wI (v17 + 1)) else some (false,()))) else some (true,())
abbrev zsS (K:Nat):za7→Option (Bool × Unit):=iter (zsR) K
theorem zNh (K:Nat):∀ n,evV (zxU) K Tryz.f78 0 zfm [1,1,0,1,0] [] zNg n = iter (zsR) n:=zm fun n0 (v1,v2,v15,v16,v17)=>by kernel_rfl
def zmx (L0:za7→Option (Bool × Unit)):((List zg) × ((List zg) × ((Option ((zg × (zg × Unit))→Option (Bool × Unit))) × Unit)))→Option (Bool × Unit):=fun (x0,x1,x2,()) =>
  bif ((List.length x0):Int) != ((List.length x1):Int) then some (false,()) else L0 (x1,x2,x0,((List.length x0):Int),0)
theorem zQp (K:Nat):evF (zxU) K Tryz.f78 0 zlQ zfm = zmx (zsS K):=tr1 (T:=zmx) (zNh K K) fun (x0,x1,x2,())=>by kernel_rfl
end
def zfw:zwm:=zmx (zsS K0)
theorem zQq:Sd Tryz.prog E0 (zkm zfw):=mkS (l:=[]) trivial Tryz.func78 (by kernel_rfl) (zQp K0)
section
abbrev zKZ:Env:=(En E0 false [])
abbrev ze8:Type:=(List qP) × (List qP) × Int × Int
abbrev zVv:ze8→St:=fun (v0,v1,v12,v13)=>St.mk [(0,AV.dat (Ty.sl zX) v0),(1,AV.dat (Ty.sl zX) v1),(12,AV.dat tI v12),(13,AV.dat tI v13)] []
def zFi (k0:ze8→Option (Bool × Unit)):ze8→Option (Bool × Unit):=fun (v0,v1,v12,v13) =>
  bif decide (v13 < v12) then inR v13 ((List.length v0):Int) (inR v13 ((List.length v1):Int) (bif !eqI zX (ix zbh v0 v13) (ix zbh v1 v13) then some (false,()) else k0 (v0,v1,v12,wI (v13 + 1)))) else some (true,())
abbrev zFj (K:Nat):ze8→Option (Bool × Unit):=iter (zFi) K
theorem zVw (K:Nat):∀ n,evV (zKZ) K Tryz.f162 0 zoG [1,1,0,1,0] [] zVv n = iter (zFi) n:=zm fun n0 (v0,v1,v12,v13)=>by kernel_rfl
def zxV (L0:ze8→Option (Bool × Unit)):((List qP) × ((List qP) × Unit))→Option (Bool × Unit):=fun (x0,x1,()) =>
  bif ((List.length x0):Int) != ((List.length x1):Int) then some (false,()) else L0 (x0,x1,((List.length x0):Int),0)
theorem zZ9 (K:Nat):evF (zKZ) K Tryz.f162 0 zwR zoG = zxV (zFj K):=tr1 (T:=zxV) (zVw K K) fun (x0,x1,())=>by kernel_rfl
end
def zoS:zKs:=zxV (zFj K0)
theorem z0a:Sd Tryz.prog E0 (zuw zoS):=mkS (l:=[]) trivial Tryz.func162 (by kernel_rfl) (zZ9 K0)
section
abbrev zK0:Env:=(En E0 false [])
abbrev ze9:Type:=(List z5) × (List z5) × Int × Int
abbrev zVx:ze9→St:=fun (v0,v1,v12,v13)=>St.mk [(0,AV.dat (Ty.sl zV) v0),(1,AV.dat (Ty.sl zV) v1),(12,AV.dat tI v12),(13,AV.dat tI v13)] []
def zFk (k0:ze9→Option (Bool × Unit)):ze9→Option (Bool × Unit):=fun (v0,v1,v12,v13) =>
  bif decide (v13 < v12) then inR v13 ((List.length v0):Int) (inR v13 ((List.length v1):Int) (bif !eqI zV (ix qQ v0 v13) (ix qQ v1 v13) then some (false,()) else k0 (v0,v1,v12,wI (v13 + 1)))) else some (true,())
abbrev zFl (K:Nat):ze9→Option (Bool × Unit):=iter (zFk) K
theorem zVy (K:Nat):∀ n,evV (zK0) K Tryz.f163 0 zoH [1,1,0,1,0] [] zVx n = iter (zFk) n:=zm fun n0 (v0,v1,v12,v13)=>by kernel_rfl
def zxW (L0:ze9→Option (Bool × Unit)):((List z5) × ((List z5) × Unit))→Option (Bool × Unit):=fun (x0,x1,()) =>
  bif ((List.length x0):Int) != ((List.length x1):Int) then some (false,()) else L0 (x0,x1,((List.length x0):Int),0)
theorem z0b (K:Nat):evF (zK0) K Tryz.f163 0 zwS zoH = zxW (zFl K):=tr1 (T:=zxW) (zVy K K) fun (x0,x1,())=>by kernel_rfl
end
def zoT:zKt:=zxW (zFl K0)
theorem z0c:Sd Tryz.prog E0 (zux zoT):=mkS (l:=[]) trivial Tryz.func163 (by kernel_rfl) (z0b K0)
section
abbrev zK1:Env:=(En E0 false [])
abbrev zfa:Type:=(List z3) × (List z3) × Int × Int
abbrev zVz:zfa→St:=fun (v0,v1,v12,v13)=>St.mk [(0,AV.dat (Ty.sl zI) v0),(1,AV.dat (Ty.sl zI) v1),(12,AV.dat tI v12),(13,AV.dat tI v13)] []
def zFm (k0:zfa→Option (Bool × Unit)):zfa→Option (Bool × Unit):=fun (v0,v1,v12,v13) =>
  bif decide (v13 < v12) then inR v13 ((List.length v0):Int) (inR v13 ((List.length v1):Int) (bif !eqI zI (ix zL v0 v13) (ix zL v1 v13) then some (false,()) else k0 (v0,v1,v12,wI (v13 + 1)))) else some (true,())
abbrev zFn (K:Nat):zfa→Option (Bool × Unit):=iter (zFm) K
theorem zVA (K:Nat):∀ n,evV (zK1) K Tryz.f164 0 zoI [1,1,0,1,0] [] zVz n = iter (zFm) n:=zm fun n0 (v0,v1,v12,v13)=>by kernel_rfl
def zxX (L0:zfa→Option (Bool × Unit)):((List z3) × ((List z3) × Unit))→Option (Bool × Unit):=fun (x0,x1,()) =>
  bif ((List.length x0):Int) != ((List.length x1):Int) then some (false,()) else L0 (x0,x1,((List.length x0):Int),0)
theorem z0d (K:Nat):evF (zK1) K Tryz.f164 0 zwT zoI = zxX (zFn K):=tr1 (T:=zxX) (zVA K K) fun (x0,x1,())=>by kernel_rfl
end
def zoU:zKu:=zxX (zFn K0)
theorem z0e:Sd Tryz.prog E0 (zuy zoU):=mkS (l:=[]) trivial Tryz.func164 (by kernel_rfl) (z0d K0)
section
abbrev zK2:Env:=(En E0 false [])
abbrev zfb:Type:=(List qh) × (List qh) × Int × Int
abbrev zVB:zfb→St:=fun (v0,v1,v12,v13)=>St.mk [(0,AV.dat (Ty.sl zZ) v0),(1,AV.dat (Ty.sl zZ) v1),(12,AV.dat tI v12),(13,AV.dat tI v13)] []
def zFo (k0:zfb→Option (Bool × Unit)):zfb→Option (Bool × Unit):=fun (v0,v1,v12,v13) =>
  bif decide (v13 < v12) then inR v13 ((List.length v0):Int) (inR v13 ((List.length v1):Int) (bif !eqI zZ (ix zaE v0 v13) (ix zaE v1 v13) then some (false,()) else k0 (v0,v1,v12,wI (v13 + 1)))) else some (true,())
abbrev zFp (K:Nat):zfb→Option (Bool × Unit):=iter (zFo) K
theorem zVC (K:Nat):∀ n,evV (zK2) K Tryz.f165 0 zoJ [1,1,0,1,0] [] zVB n = iter (zFo) n:=zm fun n0 (v0,v1,v12,v13)=>by kernel_rfl
def zxY (L0:zfb→Option (Bool × Unit)):((List qh) × ((List qh) × Unit))→Option (Bool × Unit):=fun (x0,x1,()) =>
  bif ((List.length x0):Int) != ((List.length x1):Int) then some (false,()) else L0 (x0,x1,((List.length x0):Int),0)
theorem z0f (K:Nat):evF (zK2) K Tryz.f165 0 zwU zoJ = zxY (zFp K):=tr1 (T:=zxY) (zVC K K) fun (x0,x1,())=>by kernel_rfl
end
def zoV:zKv:=zxY (zFp K0)
theorem z0g:Sd Tryz.prog E0 (zuz zoV):=mkS (l:=[]) trivial Tryz.func165 (by kernel_rfl) (z0f K0)
section
abbrev zI7:Env:=(En E0 false [])
abbrev zd5:Type:=(List zo) × (List zo) × Int × Int
abbrev zUi:zd5→St:=fun (v0,v1,v12,v13)=>St.mk [(0,AV.dat (Ty.sl zu) v0),(1,AV.dat (Ty.sl zu) v1),(12,AV.dat tI v12),(13,AV.dat tI v13)] []
def zBR (k0:zd5→Option (Bool × Unit)):zd5→Option (Bool × Unit):=fun (v0,v1,v12,v13) =>
  bif decide (v13 < v12) then inR v13 ((List.length v0):Int) (inR v13 ((List.length v1):Int) (bif !eqI zu (ix qb v0 v13) (ix qb v1 v13) then some (false,()) else k0 (v0,v1,v12,wI (v13 + 1)))) else some (true,())
abbrev zBS (K:Nat):zd5→Option (Bool × Unit):=iter (zBR) K
theorem zUj (K:Nat):∀ n,evV (zI7) K Tryz.f166 0 zlU [1,1,0,1,0] [] zUi n = iter (zBR) n:=zm fun n0 (v0,v1,v12,v13)=>by kernel_rfl
def zvc (L0:zd5→Option (Bool × Unit)):((List zo) × ((List zo) × Unit))→Option (Bool × Unit):=fun (x0,x1,()) =>
  bif ((List.length x0):Int) != ((List.length x1):Int) then some (false,()) else L0 (x0,x1,((List.length x0):Int),0)
theorem zXH (K:Nat):evF (zI7) K Tryz.f166 0 zuA zlU = zvc (zBS K):=tr1 (T:=zvc) (zUj K K) fun (x0,x1,())=>by kernel_rfl
end
def zmy:zG7:=zvc (zBS K0)
theorem zXI:Sd Tryz.prog E0 (zrS zmy):=mkS (l:=[]) trivial Tryz.func166 (by kernel_rfl) (zXH K0)
section
abbrev zRA:Env:=(En E0 false [])
abbrev ziC:Type:=(List (List Int)) × (List (List Int)) × Int × Int
abbrev z0h:ziC→St:=fun (v0,v1,v12,v13)=>St.mk [(0,AV.dat (Ty.sl (Ty.arr 4 tU)) v0),(1,AV.dat (Ty.sl (Ty.arr 4 tU)) v1),(12,AV.dat tI v12),(13,AV.dat tI v13)] []
def zK3 (k0:ziC→Option (Bool × Unit)):ziC→Option (Bool × Unit):=fun (v0,v1,v12,v13) =>
  bif decide (v13 < v12) then inR v13 ((List.length v0):Int) (inR v13 ((List.length v1):Int) (bif !eqI (Ty.arr 4 tU) (List.getD v0 (Int.toNat v13) (zb (Ty.arr 4 tU))) (List.getD v1 (Int.toNat v13) (zb (Ty.arr 4 tU))) then some (false,()) else k0 (v0,v1,v12,wI (v13 + 1)))) else some (true,())
abbrev zK4 (K:Nat):ziC→Option (Bool × Unit):=iter (zK3) K
theorem z0i (K:Nat):∀ n,evV (zRA) K Tryz.f167 0 ztk [1,1,0,1,0] [] z0h n = iter (zK3) n:=zm fun n0 (v0,v1,v12,v13)=>by kernel_rfl
def zEl (L0:ziC→Option (Bool × Unit)):((List (List Int)) × ((List (List Int)) × Unit))→Option (Bool × Unit):=fun (x0,x1,()) =>
  bif ((List.length x0):Int) != ((List.length x1):Int) then some (false,()) else L0 (x0,x1,((List.length x0):Int),0)
theorem z4N (K:Nat):evF (zRA) K Tryz.f167 0 zDt ztk = zEl (zK4 K):=tr1 (T:=zEl) (z0i K K) fun (x0,x1,())=>by kernel_rfl
end
def zto:zRh:=zEl (zK4 K0)
theorem z4O:Sd Tryz.prog E0 (zz2 zto):=mkS (l:=[]) trivial Tryz.func167 (by kernel_rfl) (z4N K0)
section
abbrev zOK:Env:=(En E0 false [])
abbrev zgx:Type:=(List qe) × (List qe) × Int × Int
abbrev zXJ:zgx→St:=fun (v0,v1,v12,v13)=>St.mk [(0,AV.dat (Ty.sl jJ) v0),(1,AV.dat (Ty.sl jJ) v1),(12,AV.dat tI v12),(13,AV.dat tI v13)] []
def zI8 (k0:zgx→Option (Bool × Unit)):zgx→Option (Bool × Unit):=fun (v0,v1,v12,v13) =>
  bif decide (v13 < v12) then inR v13 ((List.length v0):Int) (inR v13 ((List.length v1):Int) (bif !eqI jJ (ix qj v0 v13) (ix qj v1 v13) then some (false,()) else k0 (v0,v1,v12,wI (v13 + 1)))) else some (true,())
abbrev zI9 (K:Nat):zgx→Option (Bool × Unit):=iter (zI8) K
theorem zXK (K:Nat):∀ n,evV (zOK) K Tryz.f168 0 zqH [1,1,0,1,0] [] zXJ n = iter (zI8) n:=zm fun n0 (v0,v1,v12,v13)=>by kernel_rfl
def zAL (L0:zgx→Option (Bool × Unit)):((List qe) × ((List qe) × Unit))→Option (Bool × Unit):=fun (x0,x1,()) =>
  bif ((List.length x0):Int) != ((List.length x1):Int) then some (false,()) else L0 (x0,x1,((List.length x0):Int),0)
theorem z2l (K:Nat):evF (zOK) K Tryz.f168 0 zz3 zqH = zAL (zI9 K):=tr1 (T:=zAL) (zXK K K) fun (x0,x1,())=>by kernel_rfl
end
def zqT:zN7:=zAL (zI9 K0)
theorem z2m:Sd Tryz.prog E0 (zwV zqT):=mkS (l:=[]) trivial Tryz.func168 (by kernel_rfl) (z2l K0)
section
variable (zxZ:zKs) (zx0:zKt) (zx1:zKu) (zx2:zKv) (zvd:zG7) (zEm:zRh) (zAM:zN7)
def zFq:(zg × (zg × Unit))→Option (Bool × Unit):=fun (x0,x1,()) =>
  Option.bind (zxZ (x0.1,x1.1,())) fun q0=>bif q0.1 then Option.bind (zx0 (x0.2.1,x1.2.1,())) fun q1=>bif q1.1 then Option.bind (zx1 (x0.2.2.1,x1.2.2.1,())) fun q2=>bif q2.1 then Option.bind (zx2 (x0.2.2.2.1,x1.2.2.2.1,())) fun q3=>bif q3.1 then Option.bind (zvd (x0.2.2.2.2.1,x1.2.2.2.2.1,())) fun q4=>bif q4.1 then Option.bind (zEm (x0.2.2.2.2.2.1,x1.2.2.2.2.2.1,())) fun q5=>bif q5.1 then Option.bind (zAM (x0.2.2.2.2.2.2.1,x1.2.2.2.2.2.2.1,())) fun q6=>bif q6.1 then bif eqI (Ty.arr 4 tU) x0.2.2.2.2.2.2.2.1 x1.2.2.2.2.2.2.2.1 then bif eqI (Ty.arr 4 tU) x0.2.2.2.2.2.2.2.2.1 x1.2.2.2.2.2.2.2.2.1 then some (true,()) else some (false,()) else some (false,()) else some (false,()) else some (false,()) else some (false,()) else some (false,()) else some (false,()) else some (false,()) else some (false,())
theorem zVD (K:Nat):evF (En E0 false [zuw zxZ,zux zx0,zuy zx1,zuz zx2,zrS zvd,zz2 zEm,zwV zAM]) K Tryz.f79 0 zrs zrt = zFq zxZ zx0 zx1 zx2 zvd zEm zAM:=funext fun (x0,x1,())=>by kernel_rfl
end
def zj8:zEU:=zFq zoS zoT zoU zoV zmy zto zqT
theorem zVE:Sd Tryz.prog E0 (zpf zj8):=mkS (l:=[zuw zoS,zux zoT,zuy zoU,zuz zoV,zrS zmy,zz2 zto,zwV zqT]) ⟨z0a,z0c,z0e,z0g,zXI,z4O,z2m,trivial⟩ Tryz.func79 (by kernel_rfl) (zVD zoS zoT zoU zoV zmy zto zqT K0)
section
abbrev zyX:Env:=(En E0 false [])
abbrev zbW:Type:=(List (List Int)) × (Option (((List Int) × ((List Int) × Unit))→Option (Bool × Unit))) × (List (List Int)) × Int × Int
abbrev zOL:zbW→St:=fun (v1,v2,v15,v16,v17)=>St.mk [(1,AV.dat (Ty.sl (Ty.sl tI)) v1),(2,AV.dat (Ty.fn (Ty.pair (Ty.sl tI) (Ty.pair (Ty.sl tI) Ty.unit)) (Ty.pair Ty.bool Ty.unit)) v2),(15,AV.dat (Ty.sl (Ty.sl tI)) v15),(16,AV.dat tI v16),(17,AV.dat tI v17)] []
def zvH (k0:zbW→Option (Bool × Unit)):zbW→Option (Bool × Unit):=fun (v1,v2,v15,v16,v17) =>
  bif decide (v17 < v16) then inR v17 ((List.length v15):Int) (inR v17 ((List.length v1):Int) (Option.bind v2 fun q0=>Option.bind (q0 (List.getD v15 (Int.toNat v17) ([]:List Int),List.getD v1 (Int.toNat v17) ([]:List Int),())) fun q1=>bif q1.1 then k0 (v1,v2,v15,v16,wI (v17 + 1)) else some (false,()))) else some (true,())
abbrev zvI (K:Nat):zbW→Option (Bool × Unit):=iter (zvH) K
theorem zOM (K:Nat):∀ n,evV (zyX) K Tryz.f80 0 zgZ [1,1,0,1,0] [] zOL n = iter (zvH) n:=zm fun n0 (v1,v2,v15,v16,v17)=>by kernel_rfl
def zoA (L0:zbW→Option (Bool × Unit)):((List (List Int)) × ((List (List Int)) × ((Option (((List Int) × ((List Int) × Unit))→Option (Bool × Unit))) × Unit)))→Option (Bool × Unit):=fun (x0,x1,x2,()) =>
  bif ((List.length x0):Int) != ((List.length x1):Int) then some (false,()) else L0 (x1,x2,x0,((List.length x0):Int),0)
theorem zSz (K:Nat):evF (zyX) K Tryz.f80 0 znX zgZ = zoA (zvI K):=tr1 (T:=zoA) (zOM K K) fun (x0,x1,x2,())=>by kernel_rfl
end
def zg5:zyA:=zoA (zvI K0)
theorem zSA:Sd Tryz.prog E0 (zlR zg5):=mkS (l:=[]) trivial Tryz.func80 (by kernel_rfl) (zSz K0)
section
abbrev zON:Env:=(En E0 false [])
abbrev zgy:Type:=(List Int) × (List Int) × Int × Int
abbrev zXL:zgy→St:=fun (v0,v1,v12,v13)=>St.mk [(0,AV.dat (Ty.sl tI) v0),(1,AV.dat (Ty.sl tI) v1),(12,AV.dat tI v12),(13,AV.dat tI v13)] []
def zJa (k0:zgy→Option (Bool × Unit)):zgy→Option (Bool × Unit):=fun (v0,v1,v12,v13) =>
  bif decide (v13 < v12) then inR v13 ((List.length v0):Int) (inR v13 ((List.length v1):Int) (bif ix (0:Int) v0 v13 != ix (0:Int) v1 v13 then some (false,()) else k0 (v0,v1,v12,wI (v13 + 1)))) else some (true,())
abbrev zJb (K:Nat):zgy→Option (Bool × Unit):=iter (zJa) K
theorem zXM (K:Nat):∀ n,evV (zON) K Tryz.f81 0 zqC [1,1,0,1,0] [] zXL n = iter (zJa) n:=zm fun n0 (v0,v1,v12,v13)=>by kernel_rfl
def zAN (L0:zgy→Option (Bool × Unit)):((List Int) × ((List Int) × Unit))→Option (Bool × Unit):=fun (x0,x1,()) =>
  bif ((List.length x0):Int) != ((List.length x1):Int) then some (false,()) else L0 (x0,x1,((List.length x0):Int),0)
theorem z2n (K:Nat):evF (zON) K Tryz.f81 0 zzF zqC = zAN (zJb K):=tr1 (T:=zAN) (zXM K K) fun (x0,x1,())=>by kernel_rfl
end
def zqU:zN2:=zAN (zJb K0)
theorem z2o:Sd Tryz.prog E0 (zwn zqU):=mkS (l:=[]) trivial Tryz.func81 (by kernel_rfl) (z2n K0)
section
abbrev zJc:Env:=(En E0 false [])
abbrev zd6:Type:=(List zj) × (List zj) × Int × Int
abbrev zUk:zd6→St:=fun (v0,v1,v12,v13)=>St.mk [(0,AV.dat (Ty.sl zi) v0),(1,AV.dat (Ty.sl zi) v1),(12,AV.dat tI v12),(13,AV.dat tI v13)] []
def zBT (k0:zd6→Option (Bool × Unit)):zd6→Option (Bool × Unit):=fun (v0,v1,v12,v13) =>
  bif decide (v13 < v12) then inR v13 ((List.length v0):Int) (inR v13 ((List.length v1):Int) (bif !eqI zi (ix zP v0 v13) (ix zP v1 v13) then some (false,()) else k0 (v0,v1,v12,wI (v13 + 1)))) else some (true,())
abbrev zBU (K:Nat):zd6→Option (Bool × Unit):=iter (zBT) K
theorem zUl (K:Nat):∀ n,evV (zJc) K Tryz.f82 0 zlS [1,1,0,1,0] [] zUk n = iter (zBT) n:=zm fun n0 (v0,v1,v12,v13)=>by kernel_rfl
def zve (L0:zd6→Option (Bool × Unit)):((List zj) × ((List zj) × Unit))→Option (Bool × Unit):=fun (x0,x1,()) =>
  bif ((List.length x0):Int) != ((List.length x1):Int) then some (false,()) else L0 (x0,x1,((List.length x0):Int),0)
theorem zXN (K:Nat):evF (zJc) K Tryz.f82 0 ztX zlS = zve (zBU K):=tr1 (T:=zve) (zUl K K) fun (x0,x1,())=>by kernel_rfl
end
def zmz:zGv:=zve (zBU K0)
theorem zXO:Sd Tryz.prog E0 (zru zmz):=mkS (l:=[]) trivial Tryz.func82 (by kernel_rfl) (zXN K0)
section
abbrev zJd:Env:=(En E0 false [])
abbrev zd7:Type:=(List zy) × (List zy) × Int × Int
abbrev zUm:zd7→St:=fun (v0,v1,v12,v13)=>St.mk [(0,AV.dat (Ty.sl zl) v0),(1,AV.dat (Ty.sl zl) v1),(12,AV.dat tI v12),(13,AV.dat tI v13)] []
def zBV (k0:zd7→Option (Bool × Unit)):zd7→Option (Bool × Unit):=fun (v0,v1,v12,v13) =>
  bif decide (v13 < v12) then inR v13 ((List.length v0):Int) (inR v13 ((List.length v1):Int) (bif !eqI zl (ix zaV v0 v13) (ix zaV v1 v13) then some (false,()) else k0 (v0,v1,v12,wI (v13 + 1)))) else some (true,())
abbrev zBW (K:Nat):zd7→Option (Bool × Unit):=iter (zBV) K
theorem zUn (K:Nat):∀ n,evV (zJd) K Tryz.f83 0 zlT [1,1,0,1,0] [] zUm n = iter (zBV) n:=zm fun n0 (v0,v1,v12,v13)=>by kernel_rfl
def zvf (L0:zd7→Option (Bool × Unit)):((List zy) × ((List zy) × Unit))→Option (Bool × Unit):=fun (x0,x1,()) =>
  bif ((List.length x0):Int) != ((List.length x1):Int) then some (false,()) else L0 (x0,x1,((List.length x0):Int),0)
theorem zXP (K:Nat):evF (zJd) K Tryz.f83 0 ztY zlT = zvf (zBW K):=tr1 (T:=zvf) (zUn K K) fun (x0,x1,())=>by kernel_rfl
end
def zmA:zGw:=zvf (zBW K0)
theorem zXQ:Sd Tryz.prog E0 (zrv zmA):=mkS (l:=[]) trivial Tryz.func83 (by kernel_rfl) (zXP K0)
section
variable (zmB:zwm) (zsn:zEU) (zoB:zyA) (zqV:zN2) (zvg:zGv) (zvh:zGw)
def zUo:(ze × (ze × Unit))→Option (Bool × Unit):=fun (x0,x1,()) =>
  bif x0.1 == x1.1 then Option.bind (zmB (x0.2.1,x1.2.1,some zsn,())) fun q0=>bif q0.1 then Option.bind (zoB (x0.2.2.1,x1.2.2.1,some zqV,())) fun q1=>bif q1.1 then Option.bind (zvg (x0.2.2.2.1,x1.2.2.2.1,())) fun q2=>bif q2.1 then Option.bind (zvh (x0.2.2.2.2.1,x1.2.2.2.2.1,())) fun q3=>bif q3.1 then Option.bind (zqV (x0.2.2.2.2.2.1,x1.2.2.2.2.2.1,())) fun q4=>bif q4.1 then some (true,()) else some (false,()) else some (false,()) else some (false,()) else some (false,()) else some (false,()) else some (false,())
theorem z7W (K:Nat):evF (En E0 false [zkm zmB,zpf zsn,zlR zoB,zwn zqV,zru zvg,zrv zvh]) K Tryz.f24 0 zGc zGd = zUo zmB zsn zoB zqV zvg zvh:=funext fun (x0,x1,())=>by kernel_rfl
end
def zk9:zS2:=zUo zfw zj8 zg5 zqU zmz zmA
theorem z7X:Sd Tryz.prog E0 (zCj zk9):=mkS (l:=[zkm zfw,zpf zj8,zlR zg5,zwn zqU,zru zmz,zrv zmA]) ⟨zQq,zVE,zSA,z2o,zXO,zXQ,trivial⟩ Tryz.func24 (by kernel_rfl) (z7W zfw zj8 zg5 zqU zmz zmA K0)
section
def zUp:(Int × (Int × Unit))→Option (Bool × Unit):=fun (x0,x1,()) =>
  bif decide (x0 ≥ 0) then bif decide (x0 < x1) then some (true,()) else some (false,()) else some (false,())
theorem qdv (K:Nat):evF (En E0 false []) K Tryz.f158 0 zTm zTn = zUp:=funext fun (x0,x1,())=>by kernel_rfl
end
def zvJ:z3M:=zUp
theorem qdw:Sd Tryz.prog E0 (zPJ zvJ):=mkS (l:=[]) trivial Tryz.func158 (by kernel_rfl) (qdv K0)
end
end Go.Proofs.YtaokpakfhdeiiaaGreatDoor
end
section
namespace Go.Proofs.YtaokpakfhdeiiaaGreatDoor
open Go.Ev
noncomputable section
section
def zvi:(Int × ((Option (List (List Int))) × ((Option Int) × Unit)))→Option (Bool × Unit):=fun (x0,x1,x2,()) =>
  Option.bind x1 fun q0=>inR x0 ((List.length q0):Int) (Option.bind x2 fun q1=>inR q1 ((List.length (List.getD q0 (Int.toNat x0) ([]:List Int))):Int) (bif List.getD (List.getD q0 (Int.toNat x0) ([]:List Int)) (Int.toNat q1) (0:Int) == 0 then some (true,()) else some (false,())))
theorem zXR (K:Nat):evF (En E0 false []) K Tryz.f159 0 zuu zuv = zvi:=funext fun (x0,x1,x2,())=>by kernel_rfl
end
def zbt:zG6:=zvi
theorem zXS:Sd Tryz.prog E0 (zrR zbt):=mkS (l:=[]) trivial Tryz.func159 (by kernel_rfl) (zXR K0)
section
variable (zJ:zhz) (zx:yF)
def zx3:(zd × (Int × Unit))→Option (Bool × Unit):=fun (x0,x1,()) =>
  Option.bind (zJ (x0,())) fun q0=>bif q0.1 then Option.bind (zx (x1,0,wI (((List.length x0.1):Int) - 1),())) fun q1=>bif q1.1 then some (true,()) else some (false,()) else some (false,())
theorem z0j (K:Nat):evF (En E0 false [yg zJ,qH zx]) K Tryz.f91 0 zwr zws = zx3 zJ zx:=funext fun (x0,x1,())=>by kernel_rfl
end
def zeu:zKl:=zx3 jD zU
theorem z0k:Sd Tryz.prog E0 (zt1 zeu):=mkS (l:=[yg jD,qH zU]) ⟨zmR,zal,trivial⟩ Tryz.func91 (by kernel_rfl) (z0j jD zU K0)
section
abbrev zOO:Env:=(En E0 false [])
abbrev zgz:Type:=(List Int) × Int × Int × Int
abbrev zXT:zgz→St:=fun (v0,v1,v7,v8)=>St.mk [(0,AV.dat (Ty.sl tI) v0),(1,AV.dat tI v1),(7,AV.dat tI v7),(8,AV.dat tI v8)] []
def zgA (k0:zgz→Option (Int × Unit)):zgz→Option (Int × Unit):=fun (v0,v1,v7,v8) =>
  bif decide (v8 < v7) then inR v8 ((List.length v0):Int) (bif v1 == ix (0:Int) v0 v8 then some (v8,()) else k0 (v0,v1,v7,wI (v8 + 1))) else some ((-1),())
abbrev zJe (K:Nat):zgz→Option (Int × Unit):=iter (zgA) K
theorem zXU (K:Nat):∀ n,evV (zOO) K Tryz.f275 0 zqI [1,0,1,0] [] zXT n = iter (zgA) n:=zm fun n0 (v0,v1,v7,v8)=>by kernel_rfl
def zAO (L0:zgz→Option (Int × Unit)):((List Int) × (Int × Unit))→Option (Int × Unit):=fun (x0,x1,()) =>
  L0 (x0,x1,((List.length x0):Int),0)
theorem z2p (K:Nat):evF (zOO) K Tryz.f275 0 zAm zqI = zAO (zJe K):=tr1 (T:=zAO) (zXU K K) fun (x0,x1,())=>by kernel_rfl
end
def zla:zOe:=zAO (zJe K0)
theorem z2q:Sd Tryz.prog E0 (zxl zla):=mkS (l:=[]) trivial Tryz.func275 (by kernel_rfl) (z2p K0)
section
variable (zAP:zOe)
def zso:((List Int) × (Int × Unit))→Option (Bool × Unit):=fun (x0,x1,()) =>
  Option.bind (zAP (x0,x1,())) fun q0=>bif decide (q0.1 ≥ 0) then some (true,()) else some (false,())
theorem zVF (K:Nat):evF (En E0 false [zxl zAP]) K Tryz.f231 0 zr2 zr3 = zso zAP:=funext fun (x0,x1,())=>by kernel_rfl
end
def zaB:zE5:=zso zla
theorem zVG:Sd Tryz.prog E0 (zpB zaB):=mkS (l:=[zxl zla]) ⟨z2q,trivial⟩ Tryz.func231 (by kernel_rfl) (zVF zla K0)
section
variable (zcn:zKl) (zd8:zTx) (yI:zE5)
abbrev zOP:Env:=(En E0 false [zt1 zcn,zDM zd8,zpB yI])
abbrev zgB:Type:=Int × (List qe) × Int × Int × zd × List Int
abbrev zXV:zgB→St:=fun (v1,v14,v15,v16,o0,o1)=>St.mk [(1,AV.dat tI v1),(2,AV.bp 0 []),(5,AV.ow 1),(14,AV.dat (Ty.sl jJ) v14),(15,AV.dat tI v15),(16,AV.dat tI v16)] [Obj.bx (AV.dat zC o0) false,Obj.row tI o1 false]
def zgC (k0:zgB→Option ((List Int) × Unit)):zgB→Option ((List Int) × Unit):=fun (v1,v14,v15,v16,o0,o1) =>
  bif decide (v16 < v15) then inR v16 ((List.length v14):Int) (inR v1 ((List.length o0.1):Int) (Option.bind (zd8 (ix qm o0.1 v1,())) fun q1=>Option.bind (yI (q1.1,(ix qj v14 v16).1,())) fun q2=>bif q2.1 then bif decide (List.length o1 + List.length (zk (List.replicate 1 (0:Int)) 0 v16) ≤ lim) then k0 (v1,v14,v15,wI (v16 + 1),o0,o1 ++ zk (List.replicate 1 (0:Int)) 0 v16) else none else k0 (v1,v14,v15,wI (v16 + 1),o0,o1))) else some (o1,())
abbrev zJf (K:Nat):zgB→Option ((List Int) × Unit):=iter (zgC zd8 yI) K
theorem zXW (K:Nat):∀ n,evV (zOP zcn zd8 yI) K Tryz.f161 0 zqG [1,1,1,0,1,0] [] zXV n = iter (zgC zd8 yI) n:=zm fun n0 (v1,v14,v15,v16,o0,o1)=>by kernel_rfl
def zqW (L0:zgB→Option ((List Int) × Unit)):(zd × (Int × Unit))→Option ((List Int) × Unit):=fun (x0,x1,()) =>
  Option.bind (zcn (x0,x1,())) fun q0=>bif q0.1 then L0 (x1,x0.2.2.2.1,((List.length x0.2.2.2.1):Int),0,x0,[]) else some ([],())
theorem z2r (K:Nat):evF (zOP zcn zd8 yI) K Tryz.f161 0 zz1 zqG = zqW zcn (zJf zd8 yI K):=tr1 (T:=zqW zcn) (zXW zcn zd8 yI K K) fun (x0,x1,())=>by kernel_rfl
end
def zfP:zN6:=zqW zeu (zJf zge zaB K0)
theorem z2s:Sd Tryz.prog E0 (zwQ zfP):=mkS (l:=[zt1 zeu,zDM zge,zpB zaB]) ⟨z0k,z64,zVG,trivial⟩ Tryz.func161 (by kernel_rfl) (z2r zeu zge zaB K0)
section
variable (zgr:zGW) (zK5:z3M) (zvj:zG6) (zAQ:zN6) (zB:yU)
def zAR:(zd × ((List (List Int)) × (Int × (Int × Unit))))→Option (Bool × Unit):=fun (x0,x1,x2,x3,()) =>
  Option.bind (zgr (x0,x1,())) fun q0=>bif q0.1 then Option.bind (zK5 (x2,((List.length x0.2.2.1):Int),())) fun q1=>bif q1.1 then Option.bind (zK5 (x3,((List.length x0.1):Int),())) fun q2=>bif q2.1 then inR x2 ((List.length x0.2.2.1):Int) (inR x3 ((List.length x0.1):Int) (bif decide ((ix jG x0.2.2.1 x2).2.2.1 ≥ (ix qm x0.1 x3).1) then Option.bind (zAQ (x0,x3,())) fun q3=>Option.bind (zB (q3.1,some fun z=>zvj (z.1,some x1,some x2,()),())) fun q4=>bif q4.1 then some (false,()) else some (true,()) else some (false,()))) else some (false,()) else some (false,()) else some (false,())
theorem z2t (K:Nat):evF (En E0 false [zmN zgr,zPJ zK5,zrR zvj,zwQ zAQ,qW zB]) K Tryz.f63 0 zzx zzy = zAR zgr zK5 zvj zAQ zB:=funext fun (x0,x1,x2,x3,())=>by kernel_rfl
end
def zfQ:zNZ:=zAR zch zvJ zbt zfP zQ
theorem z2u:Sd Tryz.prog E0 (zv8 zfQ):=mkS (l:=[zmN zch,zPJ zvJ,zrR zbt,zwQ zfP,qW zQ]) ⟨zT4,qdw,zXS,z2s,zbD,trivial⟩ Tryz.func63 (by kernel_rfl) (z2t zch zvJ zbt zfP zQ K0)
section
variable (qY:zmM) (zAS:zNZ)
def zQr:(zd × (ze × (Int × Unit)))→Option (pMe × (Int × Unit)):=fun (x0,x1,x2,()) =>
  Option.bind (qY (x0,x1,())) fun q0=>bif q0.1 then bif decide (x2 < 0) then some ((0,0,0,()),1,()) else bif decide (x2 ≥ ((List.length x0.2.1):Int)) then some ((0,0,0,()),1,()) else inR x2 ((List.length x0.2.1):Int) (inR x2 ((List.length x1.2.2.2.2.2.1):Int) (bif ix (0:Int) x1.2.2.2.2.2.1 x2 == -1 then some ((0,0,0,()),10,()) else Option.bind (zAS (x0,x1.2.2.1,ix (0:Int) x1.2.2.2.2.2.1 x2,ix (0:Int) x0.2.1 x2,())) fun q1=>bif q1.1 then some ((x2,ix (0:Int) x0.2.1 x2,ix (0:Int) x1.2.2.2.2.2.1 x2,()),0,()) else some ((0,0,0,()),5,()))) else some ((0,0,0,()),1,())
theorem qcc (K:Nat):evF (En E0 false [zai qY,zv8 zAS]) K Tryz.f20 0 zPC zPD = zQr qY zAS:=funext fun (x0,x1,x2,())=>by kernel_rfl
end
def zco:zPE:=zQr jE zfQ
theorem z0l:Sd Tryz.prog E0 (zsu zco):=mkS (l:=[zai jE,zv8 zfQ]) ⟨ztm,z2u,trivial⟩ Tryz.func20 (by kernel_rfl) (qcc jE zfQ K0)
section
variable (zEn:zQX) (zfE:zLG) (qY:zmM) (yl:zy9) (zEo:zCi) (zx4:zS2) (qx:zvR) (qy:zvS) (zau:zPE)
def ztp:Unit→Option (Bool × Unit):=fun () =>
  Option.bind (zEn ()) fun q0=>Option.bind (zfE ((q0.1.1,q0.1.2.1,q0.1.2.2.1,q0.1.2.2.2.1,q0.1.2.2.2.2.1,q0.1.2.2.2.2.2.1,q0.1.2.2.2.2.2.2.1,q0.1.2.2.2.2.2.2.2.1,q0.1.2.2.2.2.2.2.2.2.1,()),())) fun q1=>Option.bind (zfE (([],[],[],[],[],zb tI,zb tI,zb tI,zb tI,()),())) fun q2=>bif q1.2.1 != 0 then some (false,()) else bif q2.2.1 != 1 then some (false,()) else Option.bind (qY ((q0.1.1,q0.1.2.1,q0.1.2.2.1,q0.1.2.2.2.1,q0.1.2.2.2.2.1,q0.1.2.2.2.2.2.1,q0.1.2.2.2.2.2.2.1,q0.1.2.2.2.2.2.2.2.1,q0.1.2.2.2.2.2.2.2.2.1,()),(q1.1.1,q1.1.2.1,q1.1.2.2.1,q1.1.2.2.2.1,q1.1.2.2.2.2.1,q1.1.2.2.2.2.2.1,()),())) fun q3=>bif q3.1 then Option.bind (yl ((q0.1.1,q0.1.2.1,q0.1.2.2.1,q0.1.2.2.2.1,q0.1.2.2.2.2.1,q0.1.2.2.2.2.2.1,q0.1.2.2.2.2.2.2.1,q0.1.2.2.2.2.2.2.2.1,q0.1.2.2.2.2.2.2.2.2.1,()),(q1.1.1,q1.1.2.1,q1.1.2.2.1,q1.1.2.2.2.1,q1.1.2.2.2.2.1,q1.1.2.2.2.2.2.1,()),zb zY,())) fun q4=>bif q4.1 then Option.bind (yl ((q0.1.1,q0.1.2.1,q0.1.2.2.1,q0.1.2.2.2.1,q0.1.2.2.2.2.1,q0.1.2.2.2.2.2.1,q0.1.2.2.2.2.2.2.1,q0.1.2.2.2.2.2.2.2.1,q0.1.2.2.2.2.2.2.2.2.1,()),(q1.1.1,q1.1.2.1,q1.1.2.2.1,q1.1.2.2.2.1,q1.1.2.2.2.2.1,q1.1.2.2.2.2.2.1,()),((zb zY).1,1,(zb zY).2.2),())) fun q5=>bif q5.1 then some (false,()) else Option.bind (zEo ((q1.1.1,q1.1.2.1,q1.1.2.2.1,q1.1.2.2.2.1,q1.1.2.2.2.2.1,q1.1.2.2.2.2.2.1,()),())) fun q6=>Option.bind (zx4 ((q1.1.1,q1.1.2.1,q1.1.2.2.1,q1.1.2.2.2.1,q1.1.2.2.2.2.1,q1.1.2.2.2.2.2.1,()),(q6.1.1,q6.1.2.1,q6.1.2.2.1,q6.1.2.2.2.1,q6.1.2.2.2.2.1,q6.1.2.2.2.2.2.1,()),())) fun q7=>bif q7.1 then bif ((List.length q6.1.2.1):Int) != 3 then some (false,()) else bif ((List.length q6.1.2.2.2.2.2.1):Int) != 3 then some (false,()) else bif decide (1 < ((List.length q6.1.2.1):Int)) then bif decide (List.length q6.1.2.1 ≤ Int.toNat 1) then bif decide (0 < ((List.length (ix za q6.1.2.1 1).2.2.2.2.2.1):Int)) then none else none else bif decide (0 < ((List.length (ix za q6.1.2.1 1).2.2.2.2.2.1):Int)) then bif decide (1 < ((List.length q6.1.2.2.2.2.2.1):Int)) then Option.bind (qx ((q6.1.1,List.set q6.1.2.1 (Int.toNat 1) ((ix za q6.1.2.1 1).1,(ix za q6.1.2.1 1).2.1,(ix za q6.1.2.1 1).2.2.1,(ix za q6.1.2.1 1).2.2.2.1,(ix za q6.1.2.1 1).2.2.2.2.1,List.set (ix za q6.1.2.1 1).2.2.2.2.2.1 (Int.toNat 0) (List.set (List.getD (ix za q6.1.2.1 1).2.2.2.2.2.1 (Int.toNat 0) (zb (Ty.arr 4 tU))) (Int.toNat 2) 5),(ix za q6.1.2.1 1).2.2.2.2.2.2),q6.1.2.2.1,q6.1.2.2.2.1,q6.1.2.2.2.2.1,List.set q6.1.2.2.2.2.2.1 (Int.toNat 1) 0,()),2,())) fun q8=>Option.bind (qy ((q6.1.1,List.set q6.1.2.1 (Int.toNat 1) ((ix za q6.1.2.1 1).1,(ix za q6.1.2.1 1).2.1,(ix za q6.1.2.1 1).2.2.1,(ix za q6.1.2.1 1).2.2.2.1,(ix za q6.1.2.1 1).2.2.2.2.1,List.set (ix za q6.1.2.1 1).2.2.2.2.2.1 (Int.toNat 0) (List.set (List.getD (ix za q6.1.2.1 1).2.2.2.2.2.1 (Int.toNat 0) (zb (Ty.arr 4 tU))) (Int.toNat 2) 5),(ix za q6.1.2.1 1).2.2.2.2.2.2),q6.1.2.2.1,q6.1.2.2.2.1,q6.1.2.2.2.2.1,List.set q6.1.2.2.2.2.2.1 (Int.toNat 1) 0,()),2,())) fun q9=>Option.bind (zau ((q0.1.1,q0.1.2.1,q0.1.2.2.1,q0.1.2.2.2.1,q0.1.2.2.2.2.1,q0.1.2.2.2.2.2.1,q0.1.2.2.2.2.2.2.1,q0.1.2.2.2.2.2.2.2.1,q0.1.2.2.2.2.2.2.2.2.1,()),(q1.1.1,q1.1.2.1,q1.1.2.2.1,q1.1.2.2.2.1,q1.1.2.2.2.2.1,q1.1.2.2.2.2.2.1,()),1,())) fun q10=>bif decide (1 < ((List.length (List.set q6.1.2.1 (Int.toNat 1) ((ix za q6.1.2.1 1).1,(ix za q6.1.2.1 1).2.1,(ix za q6.1.2.1 1).2.2.1,(ix za q6.1.2.1 1).2.2.2.1,(ix za q6.1.2.1 1).2.2.2.2.1,List.set (ix za q6.1.2.1 1).2.2.2.2.2.1 (Int.toNat 0) (List.set (List.getD (ix za q6.1.2.1 1).2.2.2.2.2.1 (Int.toNat 0) (zb (Ty.arr 4 tU))) (Int.toNat 2) 5),(ix za q6.1.2.1 1).2.2.2.2.2.2))):Int)) then Option.bind (zau ((q0.1.1,q0.1.2.1,q0.1.2.2.1,q0.1.2.2.2.1,q0.1.2.2.2.2.1,q0.1.2.2.2.2.2.1,q0.1.2.2.2.2.2.2.1,q0.1.2.2.2.2.2.2.2.1,q0.1.2.2.2.2.2.2.2.2.1,()),(q6.1.1,List.set (List.set q6.1.2.1 (Int.toNat 1) ((ix za q6.1.2.1 1).1,(ix za q6.1.2.1 1).2.1,(ix za q6.1.2.1 1).2.2.1,(ix za q6.1.2.1 1).2.2.2.1,(ix za q6.1.2.1 1).2.2.2.2.1,List.set (ix za q6.1.2.1 1).2.2.2.2.2.1 (Int.toNat 0) (List.set (List.getD (ix za q6.1.2.1 1).2.2.2.2.2.1 (Int.toNat 0) (zb (Ty.arr 4 tU))) (Int.toNat 2) 5),(ix za q6.1.2.1 1).2.2.2.2.2.2)) (Int.toNat 1) ((List.getD (List.set q6.1.2.1 (Int.toNat 1) ((ix za q6.1.2.1 1).1,(ix za q6.1.2.1 1).2.1,(ix za q6.1.2.1 1).2.2.1,(ix za q6.1.2.1 1).2.2.2.1,(ix za q6.1.2.1 1).2.2.2.2.1,List.set (ix za q6.1.2.1 1).2.2.2.2.2.1 (Int.toNat 0) (List.set (List.getD (ix za q6.1.2.1 1).2.2.2.2.2.1 (Int.toNat 0) (zb (Ty.arr 4 tU))) (Int.toNat 2) 5),(ix za q6.1.2.1 1).2.2.2.2.2.2)) (Int.toNat 1) (zb zh)).1,(List.getD (List.set q6.1.2.1 (Int.toNat 1) ((ix za q6.1.2.1 1).1,(ix za q6.1.2.1 1).2.1,(ix za q6.1.2.1 1).2.2.1,(ix za q6.1.2.1 1).2.2.2.1,(ix za q6.1.2.1 1).2.2.2.2.1,List.set (ix za q6.1.2.1 1).2.2.2.2.2.1 (Int.toNat 0) (List.set (List.getD (ix za q6.1.2.1 1).2.2.2.2.2.1 (Int.toNat 0) (zb (Ty.arr 4 tU))) (Int.toNat 2) 5),(ix za q6.1.2.1 1).2.2.2.2.2.2)) (Int.toNat 1) (zb zh)).2.1,(List.getD (List.set q6.1.2.1 (Int.toNat 1) ((ix za q6.1.2.1 1).1,(ix za q6.1.2.1 1).2.1,(ix za q6.1.2.1 1).2.2.1,(ix za q6.1.2.1 1).2.2.2.1,(ix za q6.1.2.1 1).2.2.2.2.1,List.set (ix za q6.1.2.1 1).2.2.2.2.2.1 (Int.toNat 0) (List.set (List.getD (ix za q6.1.2.1 1).2.2.2.2.2.1 (Int.toNat 0) (zb (Ty.arr 4 tU))) (Int.toNat 2) 5),(ix za q6.1.2.1 1).2.2.2.2.2.2)) (Int.toNat 1) (zb zh)).2.2.1,(List.getD (List.set q6.1.2.1 (Int.toNat 1) ((ix za q6.1.2.1 1).1,(ix za q6.1.2.1 1).2.1,(ix za q6.1.2.1 1).2.2.1,(ix za q6.1.2.1 1).2.2.2.1,(ix za q6.1.2.1 1).2.2.2.2.1,List.set (ix za q6.1.2.1 1).2.2.2.2.2.1 (Int.toNat 0) (List.set (List.getD (ix za q6.1.2.1 1).2.2.2.2.2.1 (Int.toNat 0) (zb (Ty.arr 4 tU))) (Int.toNat 2) 5),(ix za q6.1.2.1 1).2.2.2.2.2.2)) (Int.toNat 1) (zb zh)).2.2.2.1,(List.getD (List.set q6.1.2.1 (Int.toNat 1) ((ix za q6.1.2.1 1).1,(ix za q6.1.2.1 1).2.1,(ix za q6.1.2.1 1).2.2.1,(ix za q6.1.2.1 1).2.2.2.1,(ix za q6.1.2.1 1).2.2.2.2.1,List.set (ix za q6.1.2.1 1).2.2.2.2.2.1 (Int.toNat 0) (List.set (List.getD (ix za q6.1.2.1 1).2.2.2.2.2.1 (Int.toNat 0) (zb (Ty.arr 4 tU))) (Int.toNat 2) 5),(ix za q6.1.2.1 1).2.2.2.2.2.2)) (Int.toNat 1) (zb zh)).2.2.2.2.1,(List.getD (List.set q6.1.2.1 (Int.toNat 1) ((ix za q6.1.2.1 1).1,(ix za q6.1.2.1 1).2.1,(ix za q6.1.2.1 1).2.2.1,(ix za q6.1.2.1 1).2.2.2.1,(ix za q6.1.2.1 1).2.2.2.2.1,List.set (ix za q6.1.2.1 1).2.2.2.2.2.1 (Int.toNat 0) (List.set (List.getD (ix za q6.1.2.1 1).2.2.2.2.2.1 (Int.toNat 0) (zb (Ty.arr 4 tU))) (Int.toNat 2) 5),(ix za q6.1.2.1 1).2.2.2.2.2.2)) (Int.toNat 1) (zb zh)).2.2.2.2.2.1,(List.getD (List.set q6.1.2.1 (Int.toNat 1) ((ix za q6.1.2.1 1).1,(ix za q6.1.2.1 1).2.1,(ix za q6.1.2.1 1).2.2.1,(ix za q6.1.2.1 1).2.2.2.1,(ix za q6.1.2.1 1).2.2.2.2.1,List.set (ix za q6.1.2.1 1).2.2.2.2.2.1 (Int.toNat 0) (List.set (List.getD (ix za q6.1.2.1 1).2.2.2.2.2.1 (Int.toNat 0) (zb (Ty.arr 4 tU))) (Int.toNat 2) 5),(ix za q6.1.2.1 1).2.2.2.2.2.2)) (Int.toNat 1) (zb zh)).2.2.2.2.2.2.1,List.set (List.getD (List.set q6.1.2.1 (Int.toNat 1) ((ix za q6.1.2.1 1).1,(ix za q6.1.2.1 1).2.1,(ix za q6.1.2.1 1).2.2.1,(ix za q6.1.2.1 1).2.2.2.1,(ix za q6.1.2.1 1).2.2.2.2.1,List.set (ix za q6.1.2.1 1).2.2.2.2.2.1 (Int.toNat 0) (List.set (List.getD (ix za q6.1.2.1 1).2.2.2.2.2.1 (Int.toNat 0) (zb (Ty.arr 4 tU))) (Int.toNat 2) 5),(ix za q6.1.2.1 1).2.2.2.2.2.2)) (Int.toNat 1) (zb zh)).2.2.2.2.2.2.2.1 (Int.toNat 2) 5,(List.getD (List.set q6.1.2.1 (Int.toNat 1) ((ix za q6.1.2.1 1).1,(ix za q6.1.2.1 1).2.1,(ix za q6.1.2.1 1).2.2.1,(ix za q6.1.2.1 1).2.2.2.1,(ix za q6.1.2.1 1).2.2.2.2.1,List.set (ix za q6.1.2.1 1).2.2.2.2.2.1 (Int.toNat 0) (List.set (List.getD (ix za q6.1.2.1 1).2.2.2.2.2.1 (Int.toNat 0) (zb (Ty.arr 4 tU))) (Int.toNat 2) 5),(ix za q6.1.2.1 1).2.2.2.2.2.2)) (Int.toNat 1) (zb zh)).2.2.2.2.2.2.2.2),q6.1.2.2.1,q6.1.2.2.2.1,q6.1.2.2.2.2.1,List.set q6.1.2.2.2.2.2.1 (Int.toNat 1) 0,()),1,())) fun q11=>Option.bind (zx4 ((q1.1.1,q1.1.2.1,q1.1.2.2.1,q1.1.2.2.2.1,q1.1.2.2.2.2.1,q1.1.2.2.2.2.2.1,()),(q6.1.1,List.set (List.set q6.1.2.1 (Int.toNat 1) ((ix za q6.1.2.1 1).1,(ix za q6.1.2.1 1).2.1,(ix za q6.1.2.1 1).2.2.1,(ix za q6.1.2.1 1).2.2.2.1,(ix za q6.1.2.1 1).2.2.2.2.1,List.set (ix za q6.1.2.1 1).2.2.2.2.2.1 (Int.toNat 0) (List.set (List.getD (ix za q6.1.2.1 1).2.2.2.2.2.1 (Int.toNat 0) (zb (Ty.arr 4 tU))) (Int.toNat 2) 5),(ix za q6.1.2.1 1).2.2.2.2.2.2)) (Int.toNat 1) ((List.getD (List.set q6.1.2.1 (Int.toNat 1) ((ix za q6.1.2.1 1).1,(ix za q6.1.2.1 1).2.1,(ix za q6.1.2.1 1).2.2.1,(ix za q6.1.2.1 1).2.2.2.1,(ix za q6.1.2.1 1).2.2.2.2.1,List.set (ix za q6.1.2.1 1).2.2.2.2.2.1 (Int.toNat 0) (List.set (List.getD (ix za q6.1.2.1 1).2.2.2.2.2.1 (Int.toNat 0) (zb (Ty.arr 4 tU))) (Int.toNat 2) 5),(ix za q6.1.2.1 1).2.2.2.2.2.2)) (Int.toNat 1) (zb zh)).1,(List.getD (List.set q6.1.2.1 (Int.toNat 1) ((ix za q6.1.2.1 1).1,(ix za q6.1.2.1 1).2.1,(ix za q6.1.2.1 1).2.2.1,(ix za q6.1.2.1 1).2.2.2.1,(ix za q6.1.2.1 1).2.2.2.2.1,List.set (ix za q6.1.2.1 1).2.2.2.2.2.1 (Int.toNat 0) (List.set (List.getD (ix za q6.1.2.1 1).2.2.2.2.2.1 (Int.toNat 0) (zb (Ty.arr 4 tU))) (Int.toNat 2) 5),(ix za q6.1.2.1 1).2.2.2.2.2.2)) (Int.toNat 1) (zb zh)).2.1,(List.getD (List.set q6.1.2.1 (Int.toNat 1) ((ix za q6.1.2.1 1).1,(ix za q6.1.2.1 1).2.1,(ix za q6.1.2.1 1).2.2.1,(ix za q6.1.2.1 1).2.2.2.1,(ix za q6.1.2.1 1).2.2.2.2.1,List.set (ix za q6.1.2.1 1).2.2.2.2.2.1 (Int.toNat 0) (List.set (List.getD (ix za q6.1.2.1 1).2.2.2.2.2.1 (Int.toNat 0) (zb (Ty.arr 4 tU))) (Int.toNat 2) 5),(ix za q6.1.2.1 1).2.2.2.2.2.2)) (Int.toNat 1) (zb zh)).2.2.1,(List.getD (List.set q6.1.2.1 (Int.toNat 1) ((ix za q6.1.2.1 1).1,(ix za q6.1.2.1 1).2.1,(ix za q6.1.2.1 1).2.2.1,(ix za q6.1.2.1 1).2.2.2.1,(ix za q6.1.2.1 1).2.2.2.2.1,List.set (ix za q6.1.2.1 1).2.2.2.2.2.1 (Int.toNat 0) (List.set (List.getD (ix za q6.1.2.1 1).2.2.2.2.2.1 (Int.toNat 0) (zb (Ty.arr 4 tU))) (Int.toNat 2) 5),(ix za q6.1.2.1 1).2.2.2.2.2.2)) (Int.toNat 1) (zb zh)).2.2.2.1,(List.getD (List.set q6.1.2.1 (Int.toNat 1) ((ix za q6.1.2.1 1).1,(ix za q6.1.2.1 1).2.1,(ix za q6.1.2.1 1).2.2.1,(ix za q6.1.2.1 1).2.2.2.1,(ix za q6.1.2.1 1).2.2.2.2.1,List.set (ix za q6.1.2.1 1).2.2.2.2.2.1 (Int.toNat 0) (List.set (List.getD (ix za q6.1.2.1 1).2.2.2.2.2.1 (Int.toNat 0) (zb (Ty.arr 4 tU))) (Int.toNat 2) 5),(ix za q6.1.2.1 1).2.2.2.2.2.2)) (Int.toNat 1) (zb zh)).2.2.2.2.1,(List.getD (List.set q6.1.2.1 (Int.toNat 1) ((ix za q6.1.2.1 1).1,(ix za q6.1.2.1 1).2.1,(ix za q6.1.2.1 1).2.2.1,(ix za q6.1.2.1 1).2.2.2.1,(ix za q6.1.2.1 1).2.2.2.2.1,List.set (ix za q6.1.2.1 1).2.2.2.2.2.1 (Int.toNat 0) (List.set (List.getD (ix za q6.1.2.1 1).2.2.2.2.2.1 (Int.toNat 0) (zb (Ty.arr 4 tU))) (Int.toNat 2) 5),(ix za q6.1.2.1 1).2.2.2.2.2.2)) (Int.toNat 1) (zb zh)).2.2.2.2.2.1,(List.getD (List.set q6.1.2.1 (Int.toNat 1) ((ix za q6.1.2.1 1).1,(ix za q6.1.2.1 1).2.1,(ix za q6.1.2.1 1).2.2.1,(ix za q6.1.2.1 1).2.2.2.1,(ix za q6.1.2.1 1).2.2.2.2.1,List.set (ix za q6.1.2.1 1).2.2.2.2.2.1 (Int.toNat 0) (List.set (List.getD (ix za q6.1.2.1 1).2.2.2.2.2.1 (Int.toNat 0) (zb (Ty.arr 4 tU))) (Int.toNat 2) 5),(ix za q6.1.2.1 1).2.2.2.2.2.2)) (Int.toNat 1) (zb zh)).2.2.2.2.2.2.1,List.set (List.getD (List.set q6.1.2.1 (Int.toNat 1) ((ix za q6.1.2.1 1).1,(ix za q6.1.2.1 1).2.1,(ix za q6.1.2.1 1).2.2.1,(ix za q6.1.2.1 1).2.2.2.1,(ix za q6.1.2.1 1).2.2.2.2.1,List.set (ix za q6.1.2.1 1).2.2.2.2.2.1 (Int.toNat 0) (List.set (List.getD (ix za q6.1.2.1 1).2.2.2.2.2.1 (Int.toNat 0) (zb (Ty.arr 4 tU))) (Int.toNat 2) 5),(ix za q6.1.2.1 1).2.2.2.2.2.2)) (Int.toNat 1) (zb zh)).2.2.2.2.2.2.2.1 (Int.toNat 2) 5,(List.getD (List.set q6.1.2.1 (Int.toNat 1) ((ix za q6.1.2.1 1).1,(ix za q6.1.2.1 1).2.1,(ix za q6.1.2.1 1).2.2.1,(ix za q6.1.2.1 1).2.2.2.1,(ix za q6.1.2.1 1).2.2.2.2.1,List.set (ix za q6.1.2.1 1).2.2.2.2.2.1 (Int.toNat 0) (List.set (List.getD (ix za q6.1.2.1 1).2.2.2.2.2.1 (Int.toNat 0) (zb (Ty.arr 4 tU))) (Int.toNat 2) 5),(ix za q6.1.2.1 1).2.2.2.2.2.2)) (Int.toNat 1) (zb zh)).2.2.2.2.2.2.2.2),q6.1.2.2.1,q6.1.2.2.2.1,q6.1.2.2.2.2.1,List.set q6.1.2.2.2.2.2.1 (Int.toNat 1) 0,()),())) fun q12=>bif q12.1 then some (false,()) else bif decide (1 < ((List.length q1.1.2.2.2.2.2.1):Int)) then bif ix (0:Int) q1.1.2.2.2.2.2.1 1 == -1 then bif decide (1 < ((List.length q1.1.2.1):Int)) then bif decide (0 < ((List.length (ix za q1.1.2.1 1).2.2.2.2.2.1):Int)) then bif List.getD (List.getD (ix za q1.1.2.1 1).2.2.2.2.2.1 (Int.toNat 0) (zb (Ty.arr 4 tU))) (Int.toNat 2) (0:Int) == 0 then bif q8.1 == 5 then bif q8.2.1 == 0 then bif q9.1 == 0 then bif q9.2.1 == 0 then bif q10.2.1 == 10 then bif q11.2.1 == 0 then bif eqI tMe q11.1 (1,1,(zb tMe).2.2) then Option.bind (qY ((q0.1.1,q0.1.2.1,q0.1.2.2.1,q0.1.2.2.2.1,q0.1.2.2.2.2.1,q0.1.2.2.2.2.2.1,q0.1.2.2.2.2.2.2.1,q0.1.2.2.2.2.2.2.2.1,q0.1.2.2.2.2.2.2.2.2.1,()),(q6.1.1,List.set (List.set q6.1.2.1 (Int.toNat 1) ((ix za q6.1.2.1 1).1,(ix za q6.1.2.1 1).2.1,(ix za q6.1.2.1 1).2.2.1,(ix za q6.1.2.1 1).2.2.2.1,(ix za q6.1.2.1 1).2.2.2.2.1,List.set (ix za q6.1.2.1 1).2.2.2.2.2.1 (Int.toNat 0) (List.set (List.getD (ix za q6.1.2.1 1).2.2.2.2.2.1 (Int.toNat 0) (zb (Ty.arr 4 tU))) (Int.toNat 2) 5),(ix za q6.1.2.1 1).2.2.2.2.2.2)) (Int.toNat 1) ((List.getD (List.set q6.1.2.1 (Int.toNat 1) ((ix za q6.1.2.1 1).1,(ix za q6.1.2.1 1).2.1,(ix za q6.1.2.1 1).2.2.1,(ix za q6.1.2.1 1).2.2.2.1,(ix za q6.1.2.1 1).2.2.2.2.1,List.set (ix za q6.1.2.1 1).2.2.2.2.2.1 (Int.toNat 0) (List.set (List.getD (ix za q6.1.2.1 1).2.2.2.2.2.1 (Int.toNat 0) (zb (Ty.arr 4 tU))) (Int.toNat 2) 5),(ix za q6.1.2.1 1).2.2.2.2.2.2)) (Int.toNat 1) (zb zh)).1,(List.getD (List.set q6.1.2.1 (Int.toNat 1) ((ix za q6.1.2.1 1).1,(ix za q6.1.2.1 1).2.1,(ix za q6.1.2.1 1).2.2.1,(ix za q6.1.2.1 1).2.2.2.1,(ix za q6.1.2.1 1).2.2.2.2.1,List.set (ix za q6.1.2.1 1).2.2.2.2.2.1 (Int.toNat 0) (List.set (List.getD (ix za q6.1.2.1 1).2.2.2.2.2.1 (Int.toNat 0) (zb (Ty.arr 4 tU))) (Int.toNat 2) 5),(ix za q6.1.2.1 1).2.2.2.2.2.2)) (Int.toNat 1) (zb zh)).2.1,(List.getD (List.set q6.1.2.1 (Int.toNat 1) ((ix za q6.1.2.1 1).1,(ix za q6.1.2.1 1).2.1,(ix za q6.1.2.1 1).2.2.1,(ix za q6.1.2.1 1).2.2.2.1,(ix za q6.1.2.1 1).2.2.2.2.1,List.set (ix za q6.1.2.1 1).2.2.2.2.2.1 (Int.toNat 0) (List.set (List.getD (ix za q6.1.2.1 1).2.2.2.2.2.1 (Int.toNat 0) (zb (Ty.arr 4 tU))) (Int.toNat 2) 5),(ix za q6.1.2.1 1).2.2.2.2.2.2)) (Int.toNat 1) (zb zh)).2.2.1,(List.getD (List.set q6.1.2.1 (Int.toNat 1) ((ix za q6.1.2.1 1).1,(ix za q6.1.2.1 1).2.1,(ix za q6.1.2.1 1).2.2.1,(ix za q6.1.2.1 1).2.2.2.1,(ix za q6.1.2.1 1).2.2.2.2.1,List.set (ix za q6.1.2.1 1).2.2.2.2.2.1 (Int.toNat 0) (List.set (List.getD (ix za q6.1.2.1 1).2.2.2.2.2.1 (Int.toNat 0) (zb (Ty.arr 4 tU))) (Int.toNat 2) 5),(ix za q6.1.2.1 1).2.2.2.2.2.2)) (Int.toNat 1) (zb zh)).2.2.2.1,(List.getD (List.set q6.1.2.1 (Int.toNat 1) ((ix za q6.1.2.1 1).1,(ix za q6.1.2.1 1).2.1,(ix za q6.1.2.1 1).2.2.1,(ix za q6.1.2.1 1).2.2.2.1,(ix za q6.1.2.1 1).2.2.2.2.1,List.set (ix za q6.1.2.1 1).2.2.2.2.2.1 (Int.toNat 0) (List.set (List.getD (ix za q6.1.2.1 1).2.2.2.2.2.1 (Int.toNat 0) (zb (Ty.arr 4 tU))) (Int.toNat 2) 5),(ix za q6.1.2.1 1).2.2.2.2.2.2)) (Int.toNat 1) (zb zh)).2.2.2.2.1,(List.getD (List.set q6.1.2.1 (Int.toNat 1) ((ix za q6.1.2.1 1).1,(ix za q6.1.2.1 1).2.1,(ix za q6.1.2.1 1).2.2.1,(ix za q6.1.2.1 1).2.2.2.1,(ix za q6.1.2.1 1).2.2.2.2.1,List.set (ix za q6.1.2.1 1).2.2.2.2.2.1 (Int.toNat 0) (List.set (List.getD (ix za q6.1.2.1 1).2.2.2.2.2.1 (Int.toNat 0) (zb (Ty.arr 4 tU))) (Int.toNat 2) 5),(ix za q6.1.2.1 1).2.2.2.2.2.2)) (Int.toNat 1) (zb zh)).2.2.2.2.2.1,(List.getD (List.set q6.1.2.1 (Int.toNat 1) ((ix za q6.1.2.1 1).1,(ix za q6.1.2.1 1).2.1,(ix za q6.1.2.1 1).2.2.1,(ix za q6.1.2.1 1).2.2.2.1,(ix za q6.1.2.1 1).2.2.2.2.1,List.set (ix za q6.1.2.1 1).2.2.2.2.2.1 (Int.toNat 0) (List.set (List.getD (ix za q6.1.2.1 1).2.2.2.2.2.1 (Int.toNat 0) (zb (Ty.arr 4 tU))) (Int.toNat 2) 5),(ix za q6.1.2.1 1).2.2.2.2.2.2)) (Int.toNat 1) (zb zh)).2.2.2.2.2.2.1,List.set (List.getD (List.set q6.1.2.1 (Int.toNat 1) ((ix za q6.1.2.1 1).1,(ix za q6.1.2.1 1).2.1,(ix za q6.1.2.1 1).2.2.1,(ix za q6.1.2.1 1).2.2.2.1,(ix za q6.1.2.1 1).2.2.2.2.1,List.set (ix za q6.1.2.1 1).2.2.2.2.2.1 (Int.toNat 0) (List.set (List.getD (ix za q6.1.2.1 1).2.2.2.2.2.1 (Int.toNat 0) (zb (Ty.arr 4 tU))) (Int.toNat 2) 5),(ix za q6.1.2.1 1).2.2.2.2.2.2)) (Int.toNat 1) (zb zh)).2.2.2.2.2.2.2.1 (Int.toNat 2) 5,(List.getD (List.set q6.1.2.1 (Int.toNat 1) ((ix za q6.1.2.1 1).1,(ix za q6.1.2.1 1).2.1,(ix za q6.1.2.1 1).2.2.1,(ix za q6.1.2.1 1).2.2.2.1,(ix za q6.1.2.1 1).2.2.2.2.1,List.set (ix za q6.1.2.1 1).2.2.2.2.2.1 (Int.toNat 0) (List.set (List.getD (ix za q6.1.2.1 1).2.2.2.2.2.1 (Int.toNat 0) (zb (Ty.arr 4 tU))) (Int.toNat 2) 5),(ix za q6.1.2.1 1).2.2.2.2.2.2)) (Int.toNat 1) (zb zh)).2.2.2.2.2.2.2.2),q6.1.2.2.1,q6.1.2.2.2.1,q6.1.2.2.2.2.1,List.set q6.1.2.2.2.2.2.1 (Int.toNat 1) 0,()),())) fun q13=>bif q13.1 then some (true,()) else some (false,()) else some (false,()) else some (false,()) else some (false,()) else some (false,()) else some (false,()) else some (false,()) else some (false,()) else some (false,()) else none else none else some (false,()) else none else none else none else none else none else some (false,()) else some (false,()) else some (false,())
theorem z4P (K:Nat):evF (En E0 true [zzz zEn,zpc zfE,zai qY,zib yl,zzb zEo,zCj zx4,zeD qx,zeE qy,zsu zau]) K Tryz.f21 0 zCf zCg = ztp zEn zfE qY yl zEo zx4 qx qy zau:=funext fun ()=>by kernel_rfl
end
def zhM:zQN:=ztp zhA zaZ jE yk zeP zk9 jW jX zco
theorem z4Q:Sd Tryz.prog E0 (zza zhM):=mkS (l:=[zzz zhA,zpc zaZ,zai jE,zib yk,zzb zeP,zCj zk9,zeD jW,zeE jX,zsu zco]) ⟨z33,zWq,ztm,zOH,z4M,z7X,zIZ,zI4,z0l,trivial⟩ Tryz.func21 (by kernel_rfl) (z4P zhA zaZ jE yk zeP zk9 jW jX zco K0)
section
def zEp:(zz × Unit)→Option (Bool × Unit):=fun (x0,()) =>
  bif x0.1 == 0 then some (true,()) else bif x0.1 == 1 then some (true,()) else bif x0.1 == 2 then some (true,()) else bif x0.1 == 3 then some (true,()) else some (false,())
theorem z4R (K:Nat):evF (En E0 false []) K Tryz.f93 0 zCN zCO = zEp:=funext fun (x0,())=>by kernel_rfl
end
def zeQ:zQ0:=zEp
theorem z4S:Sd Tryz.prog E0 (zzK zeQ):=mkS (l:=[]) trivial Tryz.func93 (by kernel_rfl) (z4R K0)
section
def zNi:(zz × (zz × Unit))→Option (Int × Unit):=fun (x0,x1,()) =>
  bif decide (x0.1 < x1.1) then some ((-1),()) else bif x0.1 == x1.1 then bif decide (x0.2.1 < x1.2.1) then some ((-1),()) else bif eqI zw x0 x1 then some (0,()) else some (1,()) else bif eqI zw x0 x1 then some (0,()) else some (1,())
theorem z9K (K:Nat):evF (En E0 false []) K Tryz.f94 0 zLQ zLR = zNi:=funext fun (x0,x1,())=>by kernel_rfl
end
def zjT:zV6:=zNi
theorem z9L:Sd Tryz.prog E0 (zGB zjT):=mkS (l:=[]) trivial Tryz.func94 (by kernel_rfl) (z9K K0)
section
variable (zcP:zQ0) (zfF:zV6)
abbrev zOQ:Env:=(En E0 false [zzK zcP,zGB zfF])
abbrev zgD:Type:=(List zz) × Int
abbrev zXX:zgD→St:=fun (v0,v3)=>St.mk [(0,AV.dat (Ty.sl zw) v0),(3,AV.dat tI v3)] []
def zmC (k0:zgD→Option (Bool × Unit)):zgD→Option (Bool × Unit):=fun (v0,v3) =>
  bif decide (v3 < ((List.length v0):Int)) then inR v3 ((List.length v0):Int) (Option.bind (zcP (ix qm v0 v3,())) fun q0=>bif q0.1 then inR (wI (v3 - 1)) ((List.length v0):Int) (inR v3 ((List.length v0):Int) (Option.bind (zfF (List.getD v0 (Int.toNat (wI (v3 - 1))) (zb zw),ix qm v0 v3,())) fun q1=>bif decide (q1.1 ≥ 0) then some (false,()) else k0 (v0,wI (v3 + 1)))) else some (false,())) else some (true,())
abbrev zvk (K:Nat):zgD→Option (Bool × Unit):=iter (zmC zcP zfF) K
theorem zXY (K:Nat):∀ n,evV (zOQ zcP zfF) K Tryz.f31 0 zqz [1,1,0,1,0] [] zXX n = iter (zmC zcP zfF) n:=zm fun n0 (v0,v3)=>by kernel_rfl
def zqX (L0:zgD→Option (Bool × Unit)):((List zz) × Unit)→Option (Bool × Unit):=fun (x0,()) =>
  bif decide (((List.length x0):Int) < 1) then some (false,()) else bif decide (((List.length x0):Int) > 8) then some (false,()) else bif decide (0 < ((List.length x0):Int)) then bif !eqI zw (ix qm x0 0) (zb zw) then some (false,()) else L0 (x0,1) else none
theorem z2v (K:Nat):evF (zOQ zcP zfF) K Tryz.f31 0 zzd zqz = zqX (zvk zcP zfF K):=tr1 (T:=zqX) (zXY zcP zfF K K) fun (x0,())=>by kernel_rfl
end
def zfR:zNQ:=zqX (zvk zeQ zjT K0)
theorem z2w:Sd Tryz.prog E0 (zvT zfR):=mkS (l:=[zzK zeQ,zGB zjT]) ⟨z4S,z9L,trivial⟩ Tryz.func31 (by kernel_rfl) (z2v zeQ zjT K0)
section
abbrev zRB:Env:=(En E0 false [])
abbrev ziD:Type:=ByteArray × Int
abbrev z0m:ziD→St:=fun (v0,v3)=>St.mk [(0,AV.dat Ty.str v0),(3,AV.dat tI v3)] []
def zoW (k0:ziD→Option (Bool × Unit)):ziD→Option (Bool × Unit):=fun (v0,v3) =>
  bif decide (v3 < (↑(ByteArray.size v0):Int)) then inR v3 (↑(ByteArray.size v0):Int) (bif decide ((↑(UInt8.toNat (List.getD (Array.toList (ByteArray.data v0)) (Int.toNat v3) 0)):Int) ≥ 97) then inR v3 (↑(ByteArray.size v0):Int) (bif decide ((↑(UInt8.toNat (List.getD (Array.toList (ByteArray.data v0)) (Int.toNat v3) 0)):Int) ≤ 122) then k0 (v0,wI (v3 + 1)) else bif v3 == 0 then some (false,()) else inR v3 (↑(ByteArray.size v0):Int) (bif decide ((↑(UInt8.toNat (List.getD (Array.toList (ByteArray.data v0)) (Int.toNat v3) 0)):Int) < 48) then some (false,()) else inR v3 (↑(ByteArray.size v0):Int) (bif decide ((↑(UInt8.toNat (List.getD (Array.toList (ByteArray.data v0)) (Int.toNat v3) 0)):Int) > 57) then some (false,()) else k0 (v0,wI (v3 + 1))))) else bif v3 == 0 then some (false,()) else inR v3 (↑(ByteArray.size v0):Int) (bif decide ((↑(UInt8.toNat (List.getD (Array.toList (ByteArray.data v0)) (Int.toNat v3) 0)):Int) < 48) then some (false,()) else inR v3 (↑(ByteArray.size v0):Int) (bif decide ((↑(UInt8.toNat (List.getD (Array.toList (ByteArray.data v0)) (Int.toNat v3) 0)):Int) > 57) then some (false,()) else k0 (v0,wI (v3 + 1))))) else some (true,())
abbrev zx5 (K:Nat):ziD→Option (Bool × Unit):=iter (zoW) K
theorem z0n (K:Nat):∀ n,evV (zRB) K Tryz.f95 0 zta [1,1,0,1,0] [] z0m n = iter (zoW) n:=zm fun n0 (v0,v3)=>by kernel_rfl
def ztq (L0:ziD→Option (Bool × Unit)):(ByteArray × Unit)→Option (Bool × Unit):=fun (x0,()) =>
  bif (↑(ByteArray.size x0):Int) == 0 then some (false,()) else bif decide ((↑(ByteArray.size x0):Int) > 12) then some (false,()) else L0 (x0,0)
theorem z4T (K:Nat):evF (zRB) K Tryz.f95 0 zCP zta = ztq (zx5 K):=tr1 (T:=ztq) (z0n K K) fun (x0,())=>by kernel_rfl
end
def j7:ztb:=ztq (zx5 K0)
theorem zEq:Sd Tryz.prog E0 (zdf j7):=mkS (l:=[]) trivial Tryz.func95 (by kernel_rfl) (z4T K0)
section
variable (zp:ztb)
abbrev zgE:Env:=(En E0 false [zdf zp])
abbrev zd9:Type:=(List jw) × Int × Int
abbrev zBX:zd9→St:=fun (v0,v3,v4)=>St.mk [(0,AV.dat (Ty.sl vb) v0),(3,AV.dat tI v3),(4,AV.dat tI v4)] []
abbrev zaa:Type:=(List jw) × Int
abbrev zBY:zaa→St:=fun (v0,v3)=>St.mk [(0,AV.dat (Ty.sl vb) v0),(3,AV.dat tI v3)] []
def ziE (k0:zaa→Option (Bool × Unit)) (k1:zd9→Option (Bool × Unit)):zd9→Option (Bool × Unit):=fun (v0,v3,v4) =>
  bif decide (v4 < v3) then inR v4 ((List.length v0):Int) (inR v3 ((List.length v0):Int) (bif ByteArray.toList (ix jG v0 v4).1 == ByteArray.toList (ix jG v0 v3).1 then some (false,()) else k1 (v0,v3,wI (v4 + 1)))) else k0 (v0,wI (v3 + 1))
abbrev ziF (K:Nat) (k0:zaa→Option (Bool × Unit)):zd9→Option (Bool × Unit):=iter (fun k1=>ziE k0 k1) K
theorem zUq (K:Nat) (n0:Nat):∀ n,evV (zgE zp) K Tryz.f32 0 zbp [1,1,0,1,0,0,1,0,0,1,1,0] [n0] zBX n = iter (fun k1=>ziE (evV (zgE zp) K Tryz.f32 0 zbp [1,1,0,1,0] [] zBY n0) k1) n:=zm fun n1 (v0,v3,v4)=>by kernel_rfl
def zea (L1:zd9→Option (Bool × Unit)) (k0:zaa→Option (Bool × Unit)):zaa→Option (Bool × Unit):=fun (v0,v3) =>
  bif decide (v3 < ((List.length v0):Int)) then inR v3 ((List.length v0):Int) (Option.bind (zp ((ix jG v0 v3).1,())) fun q0=>bif q0.1 then inR v3 ((List.length v0):Int) (Option.bind (zp ((ix jG v0 v3).2.1,())) fun q1=>bif q1.1 then inR v3 ((List.length v0):Int) (bif decide ((ix jG v0 v3).2.2.1 < 0) then some (false,()) else inR v3 ((List.length v0):Int) (bif decide ((ix jG v0 v3).2.2.1 > 3) then some (false,()) else L1 (v0,v3,0))) else some (false,())) else some (false,())) else some (true,())
abbrev zp5 (K:Nat):zaa→Option (Bool × Unit):=iter (fun k0=>zea zp (ziF K k0) k0) K
theorem zUr (K:Nat):∀ n,evV (zgE zp) K Tryz.f32 0 zbp [1,1,0,1,0] [] zBY n = iter (fun k0=>zea zp (ziF K k0) k0) n:=qX (B:=fun L1 k0=>zea zp L1 k0) (V1:=fun n0=>evV (zgE zp) K Tryz.f32 0 zbp [1,1,0,1,0,0,1,0,0,1,1,0] [n0] zBX K) (W1:=fun k0=>(ziF K k0)) (fun n0=>zUq zp K n0 K) fun n0 (v0,v3)=>by kernel_rfl
def zmD (L0:zaa→Option (Bool × Unit)):((List jw) × Unit)→Option (Bool × Unit):=fun (x0,()) =>
  bif decide (((List.length x0):Int) < 1) then some (false,()) else bif decide (((List.length x0):Int) > 8) then some (false,()) else L0 (x0,0)
theorem zXZ (K:Nat):evF (zgE zp) K Tryz.f32 0 ztG zbp = zmD (zp5 zp K):=tr1 (T:=zmD) (zUr zp K K) fun (x0,())=>by kernel_rfl
end
def zdt:zGe:=zmD (zp5 j7 K0)
theorem zX0:Sd Tryz.prog E0 (zro zdt):=mkS (l:=[zdf j7]) ⟨zEq,trivial⟩ Tryz.func32 (by kernel_rfl) (zXZ j7 K0)
section
def zJg:(Int × Unit)→Option (zz × Unit):=fun (x0,()) =>
  bif decide (wU x0 < 0) then none else some ((0,wU (1 * 2 ^ min (Int.toNat (wU x0)) (IntKind.bits IntKind.u64)),()),())
theorem z7Y (K:Nat):evF (En E0 false []) K Tryz.f97 0 zGC zGD = zJg:=funext fun (x0,())=>by kernel_rfl
end
def zgF:zTb:=zJg
theorem z7Z:Sd Tryz.prog E0 (zCR zgF):=mkS (l:=[]) trivial Tryz.func97 (by kernel_rfl) (z7Y K0)
section
abbrev zRC:Env:=(En E0 false [])
abbrev ziG:Type:=(List zz) × Int × zz
abbrev z0o:ziG→St:=fun (v0,v5,o0)=>St.mk [(0,AV.dat (Ty.sl zw) v0),(3,AV.bp 0 []),(5,AV.dat tI v5)] [Obj.bx (AV.dat zw o0) false]
def ziH (k0:ziG→Option (Int × Unit)):ziG→Option (Int × Unit):=fun (v0,v5,o0) =>
  bif decide (v5 < ((List.length v0):Int)) then inR v5 ((List.length v0):Int) (bif eqI zw (ix qm v0 v5) o0 then some (v5,()) else k0 (v0,wI (v5 + 1),o0)) else some ((-1),())
abbrev zK6 (K:Nat):ziG→Option (Int × Unit):=iter (ziH) K
theorem z0p (K:Nat):∀ n,evV (zRC) K Tryz.f96 0 ztc [1,0,1,0] [] z0o n = iter (ziH) n:=zm fun n0 (v0,v5,o0)=>by kernel_rfl
def zEr (L0:ziG→Option (Int × Unit)):((List zz) × (zz × Unit))→Option (Int × Unit):=fun (x0,x1,()) =>
  L0 (x0,0,x1)
theorem z4U (K:Nat):evF (zRC) K Tryz.f96 0 zCQ ztc = zEr (zK6 K):=tr1 (T:=zEr) (z0p K K) fun (x0,x1,())=>by kernel_rfl
end
def zhN:zQ1:=zEr (zK6 K0)
theorem z4V:Sd Tryz.prog E0 (zzL zhN):=mkS (l:=[]) trivial Tryz.func96 (by kernel_rfl) (z4U K0)
section
def zNj:(zz × (Int × Unit))→Option (Bool × Unit):=fun (x0,x1,()) =>
  bif decide (wU x1 < 0) then none else bif Int.tmod (Int.fdiv x0.2.1 (2 ^ min (Int.toNat (wU x1)) (IntKind.bits IntKind.u64))) 2 == 1 then some (true,()) else some (false,())
theorem z9M (K:Nat):evF (En E0 false []) K Tryz.f98 0 zLS zLT = zNj:=funext fun (x0,x1,())=>by kernel_rfl
end
def j4:zBg:=zNj
theorem zNk:Sd Tryz.prog E0 (zf8 j4):=mkS (l:=[]) trivial Tryz.func98 (by kernel_rfl) (z9M K0)
section
abbrev zWu:Env:=(En E0 false [])
abbrev zm1:Type:=(List qe) × Int × Int
abbrev z4W:zm1→St:=fun (v0,v1,v5)=>St.mk [(0,AV.dat (Ty.sl jJ) v0),(1,AV.dat tI v1),(5,AV.dat tI v5)] []
def zm2 (k0:zm1→Option (Bool × Unit)):zm1→Option (Bool × Unit):=fun (v0,v1,v5) =>
  bif decide (v5 < ((List.length v0):Int)) then inR v5 ((List.length v0):Int) (bif (ix qj v0 v5).1 == v1 then some (true,()) else k0 (v0,v1,wI (v5 + 1))) else some (false,())
abbrev zRD (K:Nat):zm1→Option (Bool × Unit):=iter (zm2) K
theorem z4X (K:Nat):∀ n,evV (zWu) K Tryz.f99 0 zBh [1,0,1,0] [] z4W n = iter (zm2) n:=zm fun n0 (v0,v1,v5)=>by kernel_rfl
def zNl (L0:zm1→Option (Bool × Unit)):((List qe) × (Int × Unit))→Option (Bool × Unit):=fun (x0,x1,()) =>
  L0 (x0,x1,0)
theorem z9N (K:Nat):evF (zWu) K Tryz.f99 0 zLU zBh = zNl (zRD K):=tr1 (T:=zNl) (z4X K K) fun (x0,x1,())=>by kernel_rfl
end
def zdN:zV7:=zNl (zRD K0)
theorem z9O:Sd Tryz.prog E0 (zGE zdN):=mkS (l:=[]) trivial Tryz.func99 (by kernel_rfl) (z9N K0)
section
variable (jY:zTb) (jF:zQ1) (zT:zBg) (jt:zV7)
abbrev zdu:Env:=(En E0 false [zCR jY,zzL jF,zf8 zT,zGE jt])
abbrev zgG:Type:=(List qe) × (List zz) × Int × Int
abbrev zJh:zgG→St:=fun (v0,v1,v8,v9)=>St.mk [(0,AV.dat (Ty.sl jJ) v0),(1,AV.dat (Ty.sl zw) v1),(8,AV.dat tI v8),(9,AV.dat tI v9)] []
abbrev zbu:Type:=(List qe) × (List zz) × Int
abbrev zvl:zbu→St:=fun (v0,v1,v8)=>St.mk [(0,AV.dat (Ty.sl jJ) v0),(1,AV.dat (Ty.sl zw) v1),(8,AV.dat tI v8)] []
abbrev zgH:Type:=(List qe) × (List zz) × Int × Int
abbrev zX1:zgH→St:=fun (v0,v1,v2,v7)=>St.mk [(0,AV.dat (Ty.sl jJ) v0),(1,AV.dat (Ty.sl zw) v1),(2,AV.dat tI v2),(7,AV.dat tI v7)] []
def zdv (k1:zbu→Option (Bool × Unit)) (k2:zgG→Option (Bool × Unit)):zgG→Option (Bool × Unit):=fun (v0,v1,v8,v9) =>
  bif decide (v9 < 64) then inR v8 ((List.length v1):Int) (Option.bind (zT (ix qm v1 v8,v9,())) fun q4=>bif q4.1 then Option.bind (jt (v0,v9,())) fun q5=>bif q5.1 then k2 (v0,v1,v8,wI (v9 + 1)) else some (false,()) else k2 (v0,v1,v8,wI (v9 + 1))) else k1 (v0,v1,wI (v8 + 1))
abbrev zvm (K:Nat) (k1:zbu→Option (Bool × Unit)):zgG→Option (Bool × Unit):=iter (fun k2=>zdv zT jt k1 k2) K
theorem zX2 (K:Nat) (n1:Nat):∀ n,evV (zdu jY jF zT jt) K Tryz.f33 0 zaj [1,1,1,0,1,0,0,1,0,0,1,0] [n1] zJh n = iter (fun k2=>zdv zT jt (evV (zdu jY jF zT jt) K Tryz.f33 0 zaj [1,1,1,0,1,0] [] zvl n1) k2) n:=zm fun n2 (v0,v1,v8,v9)=>by kernel_rfl
def zgI (L2:zgG→Option (Bool × Unit)) (k1:zbu→Option (Bool × Unit)):zbu→Option (Bool × Unit):=fun (v0,v1,v8) =>
  bif decide (v8 < ((List.length v1):Int)) then L2 (v0,v1,v8,0) else some (true,())
abbrev zmE (K:Nat):zbu→Option (Bool × Unit):=iter (fun k1=>zgI (zvm zT jt K k1) k1) K
theorem zX3 (K:Nat):∀ n,evV (zdu jY jF zT jt) K Tryz.f33 0 zaj [1,1,1,0,1,0] [] zvl n = iter (fun k1=>zgI (zvm zT jt K k1) k1) n:=qX (B:=fun L2 k1=>zgI L2 k1) (V1:=fun n1=>evV (zdu jY jF zT jt) K Tryz.f33 0 zaj [1,1,1,0,1,0,0,1,0,0,1,0] [n1] zJh K) (W1:=fun k1=>(zvm zT jt K k1)) (fun n1=>zX2 jY jF zT jt K n1 K) fun n1 (v0,v1,v8)=>by kernel_rfl
def zgJ (L1:zbu→Option (Bool × Unit)) (k0:zgH→Option (Bool × Unit)):zgH→Option (Bool × Unit):=fun (v0,v1,v2,v7) =>
  bif decide (v7 < ((List.length v0):Int)) then inR v7 ((List.length v0):Int) (bif decide ((ix qj v0 v7).1 < 0) then some (false,()) else inR v7 ((List.length v0):Int) (bif decide ((ix qj v0 v7).1 > 63) then some (false,()) else inR v7 ((List.length v0):Int) (bif decide ((ix qj v0 v7).2.1 < 0) then some (false,()) else inR v7 ((List.length v0):Int) (bif decide ((ix qj v0 v7).2.1 ≥ v2) then some (false,()) else bif decide (v7 > 0) then inR (wI (v7 - 1)) ((List.length v0):Int) (inR v7 ((List.length v0):Int) (bif decide ((List.getD v0 (Int.toNat (wI (v7 - 1))) (zb jJ)).1 ≥ (ix qj v0 v7).1) then some (false,()) else inR v7 ((List.length v0):Int) (Option.bind (jY ((ix qj v0 v7).1,())) fun q0=>Option.bind (jF (v1,q0.1,())) fun q1=>bif decide (q1.1 < 0) then some (false,()) else k0 (v0,v1,v2,wI (v7 + 1))))) else inR v7 ((List.length v0):Int) (Option.bind (jY ((ix qj v0 v7).1,())) fun q2=>Option.bind (jF (v1,q2.1,())) fun q3=>bif decide (q3.1 < 0) then some (false,()) else k0 (v0,v1,v2,wI (v7 + 1))))))) else L1 (v0,v1,0)
abbrev zvn (K:Nat):zgH→Option (Bool × Unit):=iter (fun k0=>zgJ jY jF (zmE zT jt K) k0) K
theorem zX4 (K:Nat):∀ n,evV (zdu jY jF zT jt) K Tryz.f33 0 zaj [1,1,0,1,0] [] zX1 n = iter (fun k0=>zgJ jY jF (zmE zT jt K) k0) n:=qX (B:=fun L1 k0=>zgJ jY jF L1 k0) (V1:=fun n0=>evV (zdu jY jF zT jt) K Tryz.f33 0 zaj [1,1,1,0,1,0] [] zvl K) (W1:=fun k0=>(zmE zT jt K)) (fun n0=>zX3 jY jF zT jt K K) fun n0 (v0,v1,v2,v7)=>by kernel_rfl
def zqY (L0:zgH→Option (Bool × Unit)):((List qe) × ((List zz) × (Int × Unit)))→Option (Bool × Unit):=fun (x0,x1,x2,()) =>
  bif decide (((List.length x0):Int) > 8) then some (false,()) else L0 (x0,x1,x2,0)
theorem z2x (K:Nat):evF (zdu jY jF zT jt) K Tryz.f33 0 zze zaj = zqY (zvn jY jF zT jt K):=tr1 (T:=zqY) (zX4 jY jF zT jt K K) fun (x0,x1,x2,())=>by kernel_rfl
end
def zfS:zNR:=zqY (zvn zgF zhN j4 zdN K0)
theorem z2y:Sd Tryz.prog E0 (zvU zfS):=mkS (l:=[zCR zgF,zzL zhN,zf8 j4,zGE zdN]) ⟨z7Z,z4V,zNk,z9O,trivial⟩ Tryz.func33 (by kernel_rfl) (z2x zgF zhN j4 zdN K0)
section
def zEs:(Int × Unit)→Option (Bool × Unit):=fun (x0,()) =>
  bif decide (x0 ≥ 0) then bif decide (x0 ≤ 12) then some (true,()) else some (false,()) else some (false,())
theorem z4Y (K:Nat):evF (En E0 false []) K Tryz.f100 0 zCS zCT = zEs:=funext fun (x0,())=>by kernel_rfl
end
def zcQ:zQ2:=zEs
theorem z4Z:Sd Tryz.prog E0 (zzM zcQ):=mkS (l:=[]) trivial Tryz.func100 (by kernel_rfl) (z4Y K0)
section
variable (yc:zQ2)
abbrev zOR:Env:=(En E0 false [zzM yc])
abbrev zgK:Type:=(List vU) × Int × Int
abbrev zX5:zgK→St:=fun (v0,v3,v4)=>St.mk [(0,AV.dat (Ty.sl zaW) v0),(3,AV.dat tU v3),(4,AV.dat tI v4)] []
def zdw (k0:zgK→Option (Bool × Unit)):zgK→Option (Bool × Unit):=fun (v0,v3,v4) =>
  bif decide (v4 < ((List.length v0):Int)) then inR v4 ((List.length v0):Int) (Option.bind (yc ((ix zD v0 v4).1,())) fun q0=>bif q0.1 then Option.bind (yc ((ix zD v0 v4).2.1,())) fun q1=>bif q1.1 then Option.bind (yc ((ix zD v0 v4).2.2.1,())) fun q2=>bif q2.1 then Option.bind (yc ((ix zD v0 v4).2.2.2.1,())) fun q3=>bif q3.1 then Option.bind (yc ((ix zD v0 v4).2.2.2.2.1,())) fun q4=>bif q4.1 then bif decide ((ix zD v0 v4).2.2.2.2.2.1 > v3) then some (false,()) else k0 (v0,wU (v3 - (ix zD v0 v4).2.2.2.2.2.1),wI (v4 + 1)) else some (false,()) else some (false,()) else some (false,()) else some (false,()) else some (false,())) else bif decide (((List.length v0):Int) > 0) then bif decide (0 < ((List.length v0):Int)) then bif decide ((ix zD v0 0).1 > 0) then some (true,()) else some (false,()) else none else some (false,())
abbrev zJi (K:Nat):zgK→Option (Bool × Unit):=iter (zdw yc) K
theorem zX6 (K:Nat):∀ n,evV (zOR yc) K Tryz.f34 0 zqA [1,1,0,1,0] [] zX5 n = iter (zdw yc) n:=zm fun n0 (v0,v3,v4)=>by kernel_rfl
def zAT (L0:zgK→Option (Bool × Unit)):((List vU) × Unit)→Option (Bool × Unit):=fun (x0,()) =>
  L0 (x0,4611686018427387904,0)
theorem z2z (K:Nat):evF (zOR yc) K Tryz.f34 0 zzf zqA = zAT (zJi yc K):=tr1 (T:=zAT) (zX6 yc K K) fun (x0,())=>by kernel_rfl
end
def zfT:zNS:=zAT (zJi zcQ K0)
theorem z2A:Sd Tryz.prog E0 (zvV zfT):=mkS (l:=[zzM zcQ]) ⟨z4Z,trivial⟩ Tryz.func34 (by kernel_rfl) (z2z zcQ K0)
end
end Go.Proofs.YtaokpakfhdeiiaaGreatDoor
end
