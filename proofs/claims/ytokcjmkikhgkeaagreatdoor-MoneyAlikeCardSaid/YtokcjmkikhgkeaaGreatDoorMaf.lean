import Derived.Test.YtokcjmkikhgkeaaGreatDoorMae
import Derived.Test.YtokcjmkikhgkeaaGreatDoorCards
import Derived.Test.YtokcjmkikhgkeaaGreatDoorTie
import Derived.ProofKit
import Derived.OpenShut
import Derived.Deep.DeepHandedRow
section
namespace Go.Proofs.YtokcjmkikhgkeaaGreatDoor.fnMoneyAlike
open Go.ChangeShapes Go.WideShapes Go.ChangeAt Go.RowKit Go.Ev
theorem zH4:∀ f add,Ev.look ext f = some add→ExtOk Tryz.prog f add:=by
  intro f add h
  have h':(Nat.beq 223 f = true ∧ add = false) ∨ (Nat.beq 215 f = true ∧ add = true):=by
    simp only [ext,Ev.look] at h
    cases h1:Nat.beq 215 f with
    | true=>rw [h1] at h; exact .inr ⟨rfl,(Option.some.inj h).symm⟩
    | false =>
      rw [h1] at h
      cases h2:Nat.beq 223 f with
      | true=>rw [h2] at h; exact .inl ⟨rfl,(Option.some.inj h).symm⟩
      | false=>rw [h2] at h; cases h
  rcases h' with ⟨h1,rfl⟩ | ⟨h1,rfl⟩
  · obtain rfl:=Nat.eq_of_beq_eq_true h1
    intro x y w hx hy hy2
    obtain ⟨m,rfl⟩:=Int.eq_ofNat_of_zero_le hx
    obtain ⟨n,rfl⟩:=Int.eq_ofNat_of_zero_le hy
    rw [run_callFunc_extern (P:=Tryz.prog) (f:=223) Tryz.func223 (by kernel_rfl) (by kernel_rfl) (by kernel_rfl) (e:=sub64Entry) (by kernel_rfl)]
    have h0:(sub64Entry #[.int .u64 (m:Int),.int .u64 (n:Int),.int .u64 0]).run Tryz.prog w = .ok (.tuple #[.int .u64 (((m + 18446744073709551616 - n - 0) % 18446744073709551616:Nat):Int),.int .u64 ((if m < n + 0 then 1 else 0:Nat):Int)]) w:=run_sub64 m n 0 (by omega) w
    have e1:extA false (m:Int) (n:Int) = (((m + 18446744073709551616 - n - 0) % 18446744073709551616:Nat):Int):=by
      show ((m:Int) - (n:Int)) % 18446744073709551616 = _
      omega
    have e2:extB false (m:Int) (n:Int) = ((if m < n + 0 then 1 else 0:Nat):Int):=by
      show cond (decide ((m:Int) < (n:Int))) 1 0 = _
      by_cases h:m < n
      · rw [decide_eq_true (by omega),if_pos (by omega)]; rfl
      · rw [decide_eq_false (by omega),if_neg (by omega)]; rfl
    rw [h0,e1,e2]
    rfl
  · obtain rfl:=Nat.eq_of_beq_eq_true h1
    intro x y w hx hy hy2
    rw [run_callFunc_extern (P:=Tryz.prog) (f:=215) Tryz.func215 (by kernel_rfl) (by kernel_rfl) (by kernel_rfl) (e:=add64Entry) (by kernel_rfl),run_add64 x y 0 hx hy (by omega) (by omega),Int.add_zero]
    rfl
theorem env {W:World} (hL:laidMetH Tryz.prog Rows.moneyAlikeRow.laid W):EnvOk Tryz.prog (FH.of W) E0:=by
  exact EnvOk.nil (by kernel_rfl) (fun g v hv=>by cases hv) zH4
set_option maxRecDepth 100000 in
theorem zGH (H:Type) (enc:TypeId × Value→H) (W:World) (base:Nat) (args:Array Value) (ds gs:List (DataW H)) (before:List MemPlace)
    (hval:∀ (j:Nat) t v,Tryz.f5.params[j]? = some t→args[j]? = some v→Value.okWide Tryz.prog W .any base t v)
    (hW:DataW.Whole enc Tryz.prog Tryz.f5.params.toList Rows.moneyAlikeSpec.vars false W args.toList ds gs before) (hL:laidMetH Tryz.prog Rows.moneyAlikeRow.laid W) :
    Calls Tryz.prog 5 args W fun e W'=>∃ v,e = .returned v ∧ Rows.moneyAlikeSpec.post enc Tryz.prog Tryz.f5 false true false false W args v W':=by
  refine law_contract (a:=A_law30_MoneyAlike) (tb:=4) (by kernel_rfl) (by decide +kernel) (by kernel_rfl) (by kernel_rfl) (by kernel_rfl) rfl (fun ds hd=>?_) hval hW fun x hx hbk hr=>?_
  · have:Tryz.f5.params.size = 6:=by kernel_rfl
    rw [this] at hd
    match ds,hd with
    | [d1,d2,d3,d4,d5,d6],_=>rfl
  · have hs:=s_law30_MoneyAlike (FH.of W) (env hL)
    have he:P_law30_MoneyAlike x = some (true,()):=by
      obtain ⟨r,s,t,m,d,a,⟨⟩⟩:=x
      exact x_MoneyAlike (realmIn hx.1) (stateIn hx.2.1) (stateIn hx.2.2.1) (foursIn hx.2.1) (foursIn hx.2.2.1) (capsIn hx.1) (wf_u64 hx.2.2.2.2.2.1.2.1) (deedIn hx.2.2.2.2.1)
    have hc:=hs.2 x (true,()) he (FH.of W) W args.toList (FH.le.refl _) (FH.of_ok W) hr
    refine hc.mono fun e W' he=>?_
    obtain ⟨us,F',h1,h2,_,_,h3⟩:=he
    refine ⟨?_,h2⟩
    obtain ⟨v,r,hus,hv,hva,hnil⟩:=(show RepA Tryz.prog F' (.pair .bool .unit) (true,()) us from h3)
    have hr0:r = []:=hnil
    subst hr0
    have hv':v.cells.toList = [.bool true]:=hv
    rw [h1,hus]
    have hva':isAggV v = false:=hva
    have:v = .bool true:=by
      cases v <;> first | (simp [isAggV] at hva'; done) | (simp [Value.cells] at hv'; exact congrArg _ hv') | (simp [Value.cells] at hv')
    rw [this]
    rfl
def zHU (l:List Value):Obj→Obj
  | .cells _ t frozen=>.cells l.toArray t frozen
  | o=>o
noncomputable def laidWorld (os:Os):World :=
  { World.holding Tryz.prog os ⟨#[],#[],[]⟩ with heap:=((World.holding Tryz.prog os ⟨#[],#[],[]⟩).heap.modify 0 (zHU (zFT (Pinned.utf8FirstZ.map fun n:Nat=>(n:Int))))).modify 1 (zHU (zFT [128,191,160,191,128,159,144,191,128,143,0,0,0,0,0,0,0,0,0,0,0,0,0,0,0,0,0,0,0,0,0,0])) }
def arg0:Value:=.agg #[.slice none 0 0,.slice none 0 0,.slice none 0 0,.slice none 0 0,.slice none 0 0,.int .i64 0,.int .i64 0,.int .i64 0,.int .i64 0]
def zEB:Value:=.agg #[.int .u64 0,.slice none 0 0,.slice none 0 0,.slice none 0 0,.slice none 0 0,.slice none 0 0]
def zEC:Value:=.agg #[.int .u64 0,.slice none 0 0,.slice none 0 0,.slice none 0 0,.slice none 0 0,.slice none 0 0]
def zED:Value:=.agg #[.int .i64 0,.int .i64 0,.int .i64 0]
def zEE:Value:=.agg #[.int .i64 0,.int .i64 0,.int .i64 0,.int .i64 0,.int .u64 0]
def zEF:Value:=.agg #[.int .i64 0,.int .u64 0]
theorem laid_met (os:Os):laidMet Tryz.prog Rows.moneyAlikeRow.laid ((laidWorld os).forCall (fun _ _=>0) ⟨#[],#[arg0,zEB,zEC,zED,zEE,zEF],[]⟩).memory :=
  laidMet_of_run' 8 (by kernel_rfl) (by kernel_rfl)
theorem reads (os:Os) {H:Type} (enc:TypeId × Value→H):∃ places,DataW.whole enc Tryz.prog ((laidWorld os).forCall (fun _ _=>0) ⟨#[],#[arg0,zEB,zEC,zED,zEE,zEF],[]⟩).memory Tryz.f5.params.toList Rows.moneyAlikeSpec.vars false #[arg0,zEB,zEC,zED,zEE,zEF].toList 8 = some ([.agg [.nil,.nil,.nil,.nil,.nil,.lit (.int .i64 0),.lit (.int .i64 0),.lit (.int .i64 0),.lit (.int .i64 0)],.agg [.lit (.int .u64 0),.nil,.nil,.nil,.nil,.nil],.agg [.lit (.int .u64 0),.nil,.nil,.nil,.nil,.nil],.agg [.lit (.int .i64 0),.lit (.int .i64 0),.lit (.int .i64 0)],.agg [.lit (.int .i64 0),.lit (.int .i64 0),.lit (.int .i64 0),.lit (.int .i64 0),.lit (.int .u64 0)],.agg [.lit (.int .i64 0),.lit (.int .u64 0)]],[],places) :=
  ⟨[],by kernel_rfl⟩
set_option maxRecDepth 100000 in
theorem lifted (os:Os) (started:os.Started) (H:Type) (enc:TypeId × Value→H) (F:Stop.Interp) :
    ReturnsInHanded {} Tryz.checked os 5 .any ((OpenSpec.ofChange Rows.moneyAlikeSpec).preRow enc Tryz.prog Tryz.f5 Rows.moneyAlikeRow.domain false Rows.moneyAlikeRow.laid) (((OpenSpec.ofChange Rows.moneyAlikeSpec).at F).post enc Tryz.prog Tryz.f5 false true false false):=by
  obtain ⟨places,hx⟩:=reads os enc
  refine returnsInHanded_of_row (C:=Tryz.checked) (s:=OpenSpec.ofChange Rows.moneyAlikeSpec) own started (by kernel_rfl) Tryz.func5
    (witness_row_at (enc:=enc) (C:=Tryz.checked) false (laidWorld os) #[arg0,zEB,zEC,zED,zEE,zEF] rfl (by kernel_rfl) (by kernel_rfl) (by kernel_rfl)
      (OpenSpec.preRow_of_cond 8 hx (by kernel_rfl) (fun k hk=>by cases hk) (by kernel_rfl) (laid_met os))) ?_
  intro W base args ds gs before hval hW _ _ _ hL _ _
  exact zGH H enc W base args ds gs before hval hW hL
end Go.Proofs.YtokcjmkikhgkeaaGreatDoor.fnMoneyAlike
end
section
namespace Go.Proofs.YtokcjmkikhgkeaaGreatDoor.fnMoneyAlike
open Go.ChangeShapes Go.WideShapes Go.ChangeAt Go.RowKit Go.Ev
theorem k2:laidOutB Tryz.prog = true:=by kernel_rfl
theorem k3:mapsRowed Tryz.prog = true:=by kernel_rfl
theorem k10:(Rows.moneyAlikeRow.inPlace == Tryz.prog.inPlace 5) = true:=by kernel_rfl
theorem k11:(Rows.moneyAlikeRow.unfollowed == Tryz.prog.unfollowed 5) = true:=by kernel_rfl
theorem k12:(Rows.moneyAlikeRow.recurses == Tryz.prog.recurses 5) = true:=by kernel_rfl
theorem k13:(Rows.moneyAlikeRow.named == Tryz.prog.varsNamed 5) = true:=by kernel_rfl
theorem k23:(Rows.moneyAlikeRow.plainKeys == Tryz.prog.plainKeys) = true:=by kernel_rfl
theorem k24:Tryz.prog.stopsHeard = true:=by kernel_rfl
theorem k25:Tryz.prog.mayEnter = true:=by kernel_rfl
theorem k26:(Rows.moneyAlikeRow.lifted == Tryz.prog.liftsFinal) = true:=by kernel_rfl
theorem k27:(Tryz.prog.make == some Rows.moneyAlikeRow.make) = true:=by kernel_rfl
theorem zHh:joinedFacts Tryz.prog 5 Tryz.f5 (OpenSpec.ofChange Rows.moneyAlikeSpec).bare Rows.moneyAlikeRow = true:=by
  unfold joinedFacts
  rw [k2,k3,k10,k11,k12,k13,k23,k24,k25,k26,k27]
  kernel_rfl
theorem peq:Tryz.pinned.checked.prog = Tryz.prog:=by kernel_rfl
theorem closed:joinedFacts Tryz.pinned.checked.prog 5 Tryz.f5 (OpenSpec.ofChange Rows.moneyAlikeSpec).bare Rows.moneyAlikeRow = true:=by
  rw [peq]; exact zHh
end Go.Proofs.YtokcjmkikhgkeaaGreatDoor.fnMoneyAlike
end
