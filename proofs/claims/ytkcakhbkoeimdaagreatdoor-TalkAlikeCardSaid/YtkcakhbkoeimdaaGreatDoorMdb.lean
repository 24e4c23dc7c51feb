import Derived.Test.YtkcakhbkoeimdaaGreatDoorMda
import Derived.Laws.CopyRow
import Derived.Laws.BytesString
import Derived.IntWalk
set_option linter.unusedSimpArgs false
set_option linter.unusedVariables false
section
namespace Go.Ev
open Go.RowKit
section
variable {P:Program} {nt:Up} {F0 F G:FH} {w0 w:World} {st st':St} {m:MM} {a:Act} {E:Env} {v:AV} {u:Value}
theorem zdg {t:TypeId} {τ:Ty} (h:zY P t τ) (hp:∀ a b,τ ≠ .pair a b) {y:τ.I} {c:List Value} (hr:Rep P F τ y c) {d:Addr}
 (hs:∀ (j:Nat) (u:Value),c[j]? = some u→w.cell? (d.add j) = some u):∃ u,(loadVar t d).run P w = .ok u w ∧ zV P F τ y u:=by
 obtain ⟨i,hi,hsz⟩:=h.size hp
 have hl:=Rep.length hr
 have h1:=zJl h hp
 obtain ⟨hv,hc⟩:=zDs hr h1
 refine ⟨_,?_,hv⟩
 unfold loadVar
 simp only [Sem.run_bind,zaN h,Result.andThen_ok]
 cases ha:τ.agg with
 | true =>
  have hrun:=run_loadCells_list (P:=P) w d c hs
  rw [hl,← hsz] at hrun
  simp only [if_true,Sem.run_bind,z3 hi,Result.andThen_ok,hrun,Sem.run_pure]
  unfold toV
  rw [ha]
 | false =>
  rw [ha] at h1
  have:c.length = 1:=by rw [hl]; exact h1.resolve_right (by simp)
  match c,this with
  | [x],_ =>
   have:=hs 0 x rfl
   have hd0:d.add 0 = d:=by simp [Addr.add]
   rw [hd0] at this
   simp [this,toV,ha]
theorem zv3 {F:FH} (hk:F.ok w) {d:Addr} {cc:List Value} (h:At F d cc) (j:Nat) (x:Value) (hj:cc[j]? = some x):w.cell? (d.add j) = some x:=by
 obtain ⟨h1,c,h2,h3⟩:=h
 obtain ⟨el,fz,hw⟩:=hk _ _ h2
 rw [zqw h1,jy hw,Array.getElem?_toList]
 exact h3 j x hj
theorem zKC (hE:EnvOk P G E) {t:TypeId} (h:E.flat t = true):(isAgg t).run P w = .ok false w:=by
 unfold Env.flat at h
 split at h
 ·rename_i τ hτ; exact zaN (hE.types t _ hτ)
 ·rename_i κ σ hτ; exact zaN (hE.types t _ hτ)
 ·rename_i τ hτ; exact zaN (hE.types t _ hτ)
 ·cases h
theorem zBb (hE:EnvOk P G E) {t:TypeId} (h:E.flat t = true):(sizeOf t).run P w = .ok 1 w:=by
 unfold Env.flat at h
 split at h
 ·rename_i τ hτ
  obtain ⟨i,hi,hs⟩:=(hE.types t _ hτ).size (by intro a b e; cases e)
  rw [z3 hi,hs]; rfl
 ·rename_i κ σ hτ
  have:=hE.types t _ hτ
  simp only [zY,tyB,Bool.and_eq_true] at this
  have h2:=this.2
  split at h2
  ·rename_i i hi
   rw [z3 hi,Nat.eq_of_beq_eq_true h2]
  ·cases h2
 ·rename_i τ hτ
  obtain ⟨i,hi,hs⟩:=(hE.types t _ hτ).size (by intro a b e; cases e)
  rw [z3 hi,hs]; rfl
 ·cases h
theorem zou {t:TypeId} {b:Ty} (h:zY P t (.st b)) {c:List Value} (hl:c.length = nc b) {d:Addr}
 (hs:∀ (j:Nat) (u:Value),c[j]? = some u→w.cell? (d.add j) = some u):(loadVar t d).run P w = .ok (.agg c.toArray) w:=by
 obtain ⟨i,hi,hsz⟩:=h.size (by intro a b e; cases e)
 unfold loadVar
 have hrun:=run_loadCells_list (P:=P) w d c hs
 rw [show c.length = i.size by rw [hsz]; exact hl] at hrun
 simp only [Sem.run_bind,zaN h,Result.andThen_ok,Ty.agg,if_true,z3 hi,hrun,Sem.run_pure]
theorem vR.length {h:List Obj} {m:MM} {t:Ty} {v:AV} {c:List Value} (hr:vR P h m F t v c):c.length = nc t:=by
 cases v with
 | dat τ x=>obtain ⟨rfl,h1⟩:=hr; exact Rep.length h1
 | ow id=>obtain ⟨σ,u,rfl,rfl,_⟩:=hr; rfl
 | ds id i p=>obtain ⟨σ,u,rfl,rfl,_⟩:=hr; rfl
 | clo f l=>obtain ⟨x,y,u,rfl,rfl,_⟩:=hr; rfl
 | _=>exact hr.elim
theorem zX.length {h:List Obj} {m:MM}:∀ {a:Ty} {vs:List AV} {cs:List Value},zX P h m F a vs cs→cs.length = nc a:=by
 intro a
 induction a with
 | unit =>
  intro vs cs hr
  cases vs with
  | nil=>cases hr; rfl
  | cons _ _=>exact hr.elim
 | pair a b _ ihb =>
  intro vs cs hr
  cases vs with
  | nil=>exact hr.elim
  | cons v vs =>
   obtain ⟨c,d,rfl,h1,h2⟩:=hr
   have:=h1.length
   have:=ihb h2
   simp only [List.length_append,nc]
   omega
 | _=>intro vs cs hr; cases vs <;> exact hr.elim
theorem y8 {h:List Obj} {m:MM}:∀ {a:Ty} {vs:List AV} {cs:List Value} {i:Nat} {v:AV},zX P h m F a vs cs→atN vs i = some v →
 ∃ o t c,jt a i = some (o,t) ∧ vR P h m F t v c ∧ ∀ (j:Nat) (u:Value),c[j]? = some u→cs[o + j]? = some u:=by
 intro a
 induction a with
 | unit =>
  intro vs cs i v hr hv
  cases vs with
  | nil=>cases hv
  | cons _ _=>exact hr.elim
 | pair a b _ ihb =>
  intro vs cs i v hr hv
  cases vs with
  | nil=>exact hr.elim
  | cons v0 vs =>
   obtain ⟨c,d,rfl,h1,h2⟩:=hr
   cases i with
   | zero =>
    simp only [atN,Option.some.injEq] at hv
    subst hv
    refine ⟨0,a,c,rfl,h1,fun j u hj=>?_⟩
    rw [Nat.zero_add,List.getElem?_append_left (List.getElem?_eq_some_iff.1 hj).1]; exact hj
   | succ i =>
    obtain ⟨o,t,c',h3,h4,h5⟩:=ihb h2 (show atN vs i = some v from hv)
    have hl:=h1.length
    refine ⟨nc a + o,t,c',by simp [jt,h3],h4,fun j u hj=>?_⟩
    rw [List.getElem?_append_right (by omega),show nc a + o + j - c.length = o + j by omega]
    exact h5 j u hj
 | _=>intro vs cs i v hr hv; cases vs <;> exact hr.elim
theorem zno {h:List Obj} {m:MM}:∀ {a:Ty} {vs:List AV} {cs c:List Value} {i o:Nat} {t:Ty} {v:AV},zX P h m F a vs cs→jt a i = some (o,t)→vR P h m F t v c →
 zX P h m F a (zf vs i v) (zB cs o c) ∧ o + c.length ≤ cs.length:=by
 intro a
 induction a with
 | pair a b _ ihb =>
  intro vs cs c i o t v hr hn hv
  cases vs with
  | nil=>exact hr.elim
  | cons v0 vs =>
   obtain ⟨c0,d,rfl,h1,h2⟩:=hr
   have hl:=h1.length
   cases i with
   | zero =>
    simp only [jt,Option.some.injEq,Prod.mk.injEq] at hn
    obtain ⟨rfl,rfl⟩:=hn
    have hl':=hv.length
    refine ⟨⟨c,d,?_,hv,h2⟩,by simp; omega⟩
    unfold zB
    simp [hl',← hl]
   | succ i =>
    simp only [jt,Option.map_eq_some_iff,Prod.mk.injEq,Prod.exists] at hn
    obtain ⟨o',t',h3,h4,h5⟩:=hn
    subst h5
    obtain ⟨h6,h7⟩:=ihb h2 h3 hv
    refine ⟨⟨c0,zB d o' c,?_,h1,h6⟩,by simp; omega⟩
    rw [← h4,← hl,yx]
 | _=>intro vs cs c i o t v hr hn hv; simp [jt] at hn
theorem za3 {t:TypeId} {d:Addr} {u:Value} (h:(loadVar t d).run P w = .ok u w):(Instr.loadAt t (.pointer (some d))).run P w = .ok u w:=by simpa [Instr.loadAt,Instr.sureAddr] using h
theorem zv4 (hE:EnvOk P G E) {t:TypeId} {x:Value} {d:Addr} (h:E.flat t = true) (hc:w.cell? d = some x):(Instr.loadAt t (.pointer (some d))).run P w = .ok x w:=by
 simp [Instr.loadAt,Instr.sureAddr,loadVar,zKC hE h,hc]
theorem zLG {h:List Obj} {m:MM} {id i k:Nat} {A:Ty} {xs:List A.I} {X:A.I} (ho:atN h id = some (.drow (.st A) xs k)) (hi:i < k) (hX:xs.getD i (ze A) = X) :
 ∀ {a:Ty} {x:a.I} {f:Nat} {cs:List Value},(∀ j,nth A X (f + j) = nth a x j)→DC P F w (m.d id i) a f x cs→zX P h m F a (dsF id i a x f) cs:=by
 intro a
 induction a with
 | unit=>intro x f cs hn hd; exact hd
 | pair a b _ ihb =>
  intro x f cs hn hd
  obtain ⟨c,d,rfl,h1,h2⟩:=hd
  have hr:=ihb (x:=x.2) (f:=f + 1) (fun j=>by rw [Nat.add_assoc,Nat.add_comm 1 j,hn (j + 1)]; rfl) h2
  have hl:nth A X f = some (.dat a x.1):=by have:=hn 0; rwa [Nat.add_zero] at this
  cases a with
  | sl σ =>
   refine ⟨c,d,rfl,?_,hr⟩
   unfold DFl DSl at h1
   have hlen:zbS [f] (.st A) (xs.getD i (ze (.st A))) = some (σ,List.length x.1):=by
    unfold zbS
    rw [show xs.getD i (ze (.st A)) = X from hX]
    simp only [zW,hl]
   cases hb:m.d id i [f] with
   | some bn =>
    obtain ⟨b',n'⟩:=bn
    rw [hb] at h1
    obtain ⟨cap,e1,e2,rfl,_⟩:=h1
    refine ⟨σ,_,rfl,rfl,⟨_,ho,fun e=>(by cases e),fun τ' xs' k' e=>?_⟩,_,_,_,rfl⟩
    cases e
    refine ⟨hi,σ,List.length x.1,hlen,?_⟩
    unfold zsG
    rw [hb]
    exact ⟨cap,e1,e2,rfl⟩
   | none =>
    rw [hb] at h1
    obtain ⟨e1,ad,rfl⟩:=h1
    refine ⟨σ,_,rfl,rfl,⟨_,ho,fun e=>(by cases e),fun τ' xs' k' e=>?_⟩,_,_,_,rfl⟩
    cases e
    refine ⟨hi,σ,List.length x.1,hlen,?_⟩
    unfold zsG
    rw [hb,e1]
    exact ⟨rfl,ad,rfl⟩
  | _=>exact ⟨c,d,rfl,⟨rfl,h1⟩,hr⟩
 | _=>intro x f cs hn hd; exact hd.elim
theorem zqx {τ x y:Ty} (h:fn1 τ = some (x,y)):τ = .st (.pair (.fn x y) .unit):=by
 unfold fn1 at h
 split at h
 ·cases h; rfl
 ·cases h
theorem zJq {t:TypeId} {f b off:Nat} {l:List Nat} {u:Value} (hE:EnvOk P G E) (h3:zF P st.h m F (.clo f l) u) (hc:w.cell? ⟨b,off,none⟩ = some u) (he:zjX E t f l st pk = some (v,st')) :
 ∃ u',(Instr.loadAt t (.pointer (some ⟨b,off,none⟩))).run P w = .ok u' w ∧ st' = st ∧ zh P st.h m F v u':=by
 unfold zjX at he
 split at he
 ·rename_i x y ht
  cases he
  have hty:=hE.types t _ ht
  obtain ⟨i,hi,hs⟩:=hty.size (by intro a b e; cases e)
  refine ⟨u,za3 ?_,rfl,h3⟩
  unfold loadVar
  simp only [Sem.run_bind,zaN hty,Result.andThen_ok,Ty.agg]
  simp [hc]
 ·rename_i τ hnf ht
  split at he
  ·rename_i x y hx
   cases he
   have hτ:=zqx hx
   subst hτ
   refine ⟨.agg #[u],za3 (zou (hE.types t _ ht) (c:=[u]) rfl fun j z hj=>?_),rfl,⟨#[u],rfl,[u],[],rfl,⟨x,y,u,rfl,rfl,h3⟩,rfl⟩⟩
   cases j with
   | zero=>rw [qw,Nat.add_zero]; cases hj; exact hc
   | succ j=>simp at hj
  ·cases he
 ·cases he
theorem zqy {t:TypeId} {x:AV} {p:Value} (hE:EnvOk P G E) (h:Rel P nt F0 w0 st m F a w) (hx:zh P st.h m F x p) (he:jU E t x st pk = some (v,st')) :
 ∃ u,(Instr.loadAt t p).run P w = .ok u w ∧ st' = st ∧ zh P st.h m F v u:=by
 unfold jU at he
 split at he
 ·rename_i τ y
  obtain ⟨y,rfl,he⟩:=Option.bind_eq_some_iff.1 he
  obtain ⟨h1,h2⟩:=zb he
  obtain ⟨rfl,rfl⟩:=jG h2
  obtain ⟨d,cc,rfl,h3,h4⟩:=hx.ptr
  obtain ⟨u,h5,h6⟩:=zdg (hE.types t _ (Env.is_spec h1)) (Env.is_np h1) h4 (d:=d) (zv3 h.fok h3)
  exact ⟨u,za3 h5,rfl,h6⟩
 ·rename_i id pth
  split at he
  ·rename_i τ y fz ho
   obtain ⟨b,n,off,hmi,rfl,hoff⟩:=hx.bpAt ho
   obtain ⟨σ,hσ⟩:=hoff
   obtain ⟨b',n',el,fr,cs,h1,h2,h3,h4⟩:=h.obs id _ ho
   rw [hmi] at h1
   cases h1
   split at he
   ·rename_i ρ z hz
    obtain ⟨y',c,h5,h6,h7⟩:=zg9 hz hσ h3
    cases h5
    obtain ⟨h8,h9⟩:=zb he
    obtain ⟨rfl,rfl⟩:=jG h9
    obtain ⟨u,h10,h11⟩:=zdg (w:=w) (hE.types t _ (Env.is_spec h8)) (Env.is_np h8) h6 (d:=⟨b,off,none⟩) (fun j x hj=>by rw [qw,jy h2]; exact h7 j x hj)
    exact ⟨u,za3 h10,rfl,h11⟩
   ·cases he
  ·rename_i bt vs fz ho
   obtain ⟨b,n,off,hmi,rfl,hoff⟩:=hx.bpAt ho
   obtain ⟨σ,hσ⟩:=hoff
   obtain ⟨b',n',el,fr,cs,h1,h2,h3,h4⟩:=h.obs id _ ho
   rw [hmi] at h1
   cases h1
   split at he
   ·obtain ⟨h8,h9⟩:=zb he
    cases h9
    simp only [qa,Option.some.injEq,Prod.mk.injEq] at hσ
    obtain ⟨rfl,rfl⟩:=hσ
    refine ⟨.agg cs.toList.toArray,za3 (zou (hE.types t _ (Env.is_spec h8)) (zX.length h3) fun j x hj=>by rw [qw,jy h2,Nat.zero_add]; exact hj),rfl,?_⟩
    exact ⟨_,rfl,by simpa using h3⟩
   ·rename_i i pth
    split at he
    ·rename_i τ y hv
     obtain ⟨o,t',c,g1,⟨g2,g3⟩,g4⟩:=y8 h3 hv
     subst g2
     simp only [qa,g1,Option.bind_some,Option.map_eq_some_iff,Prod.mk.injEq,Prod.exists] at hσ
     obtain ⟨o',σ',k1,k2,k3⟩:=hσ
     subst k3
     split at he
     ·rename_i ρ z hz
      obtain ⟨y',c',h5,h6,h7⟩:=zg9 hz k1 g3
      cases h5
      obtain ⟨h8,h9⟩:=zb he
      obtain ⟨rfl,rfl⟩:=jG h9
      obtain ⟨u,h10,h11⟩:=zdg (w:=w) (hE.types t _ (Env.is_spec h8)) (Env.is_np h8) h6 (d:=⟨b,off,none⟩) (fun j x hj=>by rw [qw,jy h2,← k2,Nat.add_assoc]; exact g4 _ _ (h7 j x hj))
      exact ⟨u,za3 h10,rfl,h11⟩
     ·cases he
    ·rename_i jd hv
     obtain ⟨o,t',c,g1,⟨σ',u,rfl,rfl,g3,_⟩,g4⟩:=y8 h3 hv
     simp only [qa,g1,Option.bind_some,Option.map_eq_some_iff,Prod.mk.injEq,Prod.exists] at hσ
     obtain ⟨o',σ',k1,k2,k3⟩:=hσ
     split at he
     ·obtain ⟨h8,h9⟩:=zb he
      cases h9
      simp only [qa,Option.some.injEq,Prod.mk.injEq] at k1
      obtain ⟨rfl,rfl⟩:=k1
      refine ⟨u,zv4 hE h8 ?_,rfl,g3⟩
      rw [jy h2,← k2]
      exact g4 0 u rfl
     ·cases he
    ·rename_i jd ld qd hv
     obtain ⟨o,t',c,g1,⟨σ',u,rfl,rfl,g3,_⟩,g4⟩:=y8 h3 hv
     simp only [qa,g1,Option.bind_some,Option.map_eq_some_iff,Prod.mk.injEq,Prod.exists] at hσ
     obtain ⟨o',σ',k1,k2,k3⟩:=hσ
     split at he
     ·obtain ⟨h8,h9⟩:=zb he
      cases h9
      simp only [qa,Option.some.injEq,Prod.mk.injEq] at k1
      obtain ⟨rfl,rfl⟩:=k1
      refine ⟨u,zv4 hE h8 ?_,rfl,g3⟩
      rw [jy h2,← k2]
      exact g4 0 u rfl
     ·cases he
    ·rename_i fc lc hv
     obtain ⟨o,t',c,g1,⟨xx,yy,u,rfl,rfl,g3⟩,g4⟩:=y8 h3 hv
     simp only [qa,g1,Option.bind_some,Option.map_eq_some_iff,Prod.mk.injEq,Prod.exists] at hσ
     obtain ⟨o',σ',k1,k2,k3⟩:=hσ
     split at he
     ·simp only [qa,Option.some.injEq,Prod.mk.injEq] at k1
      obtain ⟨rfl,rfl⟩:=k1
      exact zJq hE g3 (by rw [jy h2,← k2]; exact g4 0 u rfl) he
     ·cases he
    ·cases he
  ·rename_i av fz hnd hnf ho
   obtain ⟨b,n,off,hmi,rfl,hoff⟩:=hx.bpAt ho
   split at he
   ·obtain ⟨h8,h9⟩:=zb he
    cases h9
    have hoff':off = 0:=by
     cases v <;> first | exact hoff.2 | exact absurd rfl (hnd _ _) | exact absurd rfl (hnf _ _)
    subst hoff'
    obtain ⟨b',n',el,fr,cs,h1,h2,h3,h4⟩:=h.obs id _ ho
    rw [hmi] at h1
    cases h1
    have:∃ x,cs = #[x] ∧ zE P st.h m F v x:=by
     cases v with
     | dat τ y=>exact absurd rfl (hnd _ _)
     | fld b vs=>exact absurd rfl (hnf _ _)
     | clip τ xs=>exact h3
     | ow id=>exact h3
     | om id=>exact h3
     | dead =>
      match cs,h3 with
      | ⟨[x]⟩,_=>exact ⟨x,rfl,trivial⟩
     | _=>exact h3.elim
    obtain ⟨x,rfl,hx1⟩:=this
    exact ⟨x,zv4 hE h8 (by rw [jy h2]; rfl),rfl,zh.of1 hx1⟩
   ·cases he
  ·cases he
 ·rename_i id i pth
  split at he
  ·rename_i τ xs fz ho
   obtain ⟨b,n,off,σ,hmi,hlt,hσ,rfl⟩:=hx.rpAt ho rfl
   obtain ⟨el,fr,cs,c,d,h1,h2,h3,h4,h5⟩:=h.row ho hmi
   split at he
   ·rename_i ρ z hz
    have hn:∀ (z:τ.I) c,Rep P F τ z c→c.length = nc τ:=fun z c h=>Rep.length h
    have hxi:xs[i]? = some (xs.getD i (ze τ)):=by simp [List.getD,hlt]
    obtain ⟨c1,hc1,hc2⟩:=RepL.get hn _ _ h4 i _ hxi
    obtain ⟨y',c',h6,h7,h8⟩:=zg9 hz hσ hc1
    cases h6
    obtain ⟨h9,h10⟩:=zb he
    obtain ⟨rfl,rfl⟩:=jG h10
    obtain ⟨u,h11,h12⟩:=zdg (w:=w) (hE.types t _ (Env.is_spec h9)) (Env.is_np h9) h7 (d:=⟨b,i * nc τ + off,none⟩) (fun j x hj=>by
     rw [qw,jy h1,h3,Nat.add_assoc]
     have:=hc2 _ _ (h8 j x hj)
     rw [List.getElem?_append_left (List.getElem?_eq_some_iff.1 this).1]; exact this)
    exact ⟨u,za3 h11,rfl,h12⟩
   ·cases he
  ·rename_i τ xs k ho
   obtain ⟨b,n,off,σ,hmi,hlt,hσ,rfl⟩:=hx.rpAt ho rfl
   obtain ⟨el,cs,c,d,h1,h2,h3,h4,h5⟩:=h.drow ho hmi
   have hxi:xs[i]? = some (xs.getD i (ze τ)):=by simp [List.getD,hlt]
   obtain ⟨c1,hc1,hc2⟩:=z5.get (fun i x c h=>DE.length h) xs 0 c h5 i _ hxi
   rw [Nat.zero_add] at hc1
   split at he
   ·rename_i ρ z hz
    obtain ⟨h9,h10⟩:=zb he
    have hty:=hE.types t _ (Env.is_spec h9)
    have cellAt:∀ (j:Nat) (x:Value),c1[j]? = some x→w.cell? ⟨b,i * nc τ + j,none⟩ = some x:=fun j x hj=>by
     rw [jy h1,h3]
     have:=hc2 _ _ hj
     rw [List.getElem?_append_left (List.getElem?_eq_some_iff.1 this).1]; exact this
    have fin:∀ c',Rep P F ρ z c'→(∀ (j:Nat) (u:Value),c'[j]? = some u→c1[off + j]? = some u)→∃ u,(Instr.loadAt t (.pointer (some ⟨b,i * nc τ + off,none⟩))).run P w = .ok u w ∧ zh P st.h m F (.dat ρ z) u:=by
     intro c' h7 h8
     obtain ⟨u,h11,h12⟩:=zdg (w:=w) hty (Env.is_np h9) h7 (d:=⟨b,i * nc τ + off,none⟩) (fun j x hj=>by rw [qw,Nat.add_assoc]; exact cellAt _ _ (h8 j x hj))
     exact ⟨u,za3 h11,h12⟩
    cases hdl:ρ.dl with
    | true =>
     rw [hdl] at h10
     simp only [cond_true] at h10
     by_cases hik:k ≤ i
     ·rw [decide_eq_true hik] at h10
      simp only [cond_true] at h10
      obtain ⟨_,h10⟩:=qs h10
      cases h10
      unfold DE at hc1
      rw [if_neg (by omega)] at hc1
      obtain ⟨y',c',h6,h7,h8⟩:=zg9 hz hσ hc1
      cases h6
      obtain ⟨u,g1,g2⟩:=fin c' h7 h8
      exact ⟨u,g1,rfl,g2⟩
     ·rw [decide_eq_false hik] at h10
      simp only [cond_false] at h10
      split at h10
      ·rename_i σ0 z
       cases h10
       unfold DE at hc1
       rw [if_pos (by omega)] at hc1
       have hdst:τ.dst = true:=by
        have:=(h.drowk ho).2
        unfold Ty.deep at this
        simp only [Bool.and_eq_true] at this
        exact this.2
       obtain ⟨u,rfl,g2,g3⟩:=zzK hdst hz hσ hc1
       obtain ⟨hag,hsz⟩:(isAgg t).run P w = .ok false w ∧ True:=⟨zaN hty,trivial⟩
       refine ⟨u,?_,rfl,_,ho,fun e=>(by cases e),fun τ' xs' k' e=>?_⟩
       ·have hcell:=cellAt _ _ g2
        simp [Instr.loadAt,Instr.sureAddr,loadVar,hag,hcell]
       ·cases e
        refine ⟨by omega,σ0,List.length z,by unfold zbS; rw [hz],?_⟩
        unfold zsG
        unfold DSl at g3
        cases hb':m.d id i pth with
        | some bn =>
         obtain ⟨b',n'⟩:=bn
         rw [hb'] at g3
         obtain ⟨cap,e1,e2,e3,_⟩:=g3
         exact ⟨cap,e1,e2,by simpa using e3⟩
        | none =>
         rw [hb'] at g3
         obtain ⟨rfl,ad,e3⟩:=g3
         exact ⟨rfl,ad,by simpa using e3⟩
      ·rename_i a0 z0
       cases h10
       simp only [zW,Option.some.injEq] at hz
       simp only [qa,Option.some.injEq,Prod.mk.injEq] at hσ
       obtain ⟨rfl,rfl⟩:=hσ
       cases τ with
       | st a1 =>
        cases hz
        unfold DE at hc1
        rw [if_pos (by omega)] at hc1
        refine ⟨.agg c1.toArray,za3 (zou hty (show c1.length = nc (.st a0) from DR.length hc1) fun j x hj=>by rw [qw,Nat.add_zero]; exact cellAt _ _ hj),rfl,_,rfl,?_⟩
        exact zLG (A:=a0) (a:=a0) ho (by omega) (X:=(xs.getD i (ze (.st a0)):a0.I)) rfl (fun j=>by rw [Nat.zero_add]) hc1
       | _=>cases hz
      ·cases h10
    | false =>
     rw [hdl] at h10
     simp only [cond_false] at h10
     obtain ⟨rfl,rfl⟩:=jG h10
     have:∃ c',Rep P F ρ z c' ∧ ∀ (j:Nat) (u:Value),c'[j]? = some u→c1[off + j]? = some u:=by
      unfold DE at hc1
      split at hc1
      ·obtain ⟨c',_,g1,g2⟩:=zLD hz hσ hdl hc1
       exact ⟨c',g1,g2⟩
      ·obtain ⟨y',c',h6,h7,h8⟩:=zg9 hz hσ hc1
       cases h6
       exact ⟨c',h7,h8⟩
     obtain ⟨c',g1,g2⟩:=this
     obtain ⟨u,g3,g4⟩:=fin c' g1 g2
     exact ⟨u,g3,rfl,g4⟩
   ·cases he
  ·cases he
 ·rename_i id i pth j q
  split at he
  ·rename_i τ xs k ho
   obtain ⟨o,ho',hx⟩:=hx
   rw [ho] at ho'
   cases ho'
   obtain ⟨hik,σ,len,off,ρ,b,n,hlen,hj,hd,hq,rfl⟩:=hx.2 _ _ _ rfl
   split at he
   ·rename_i σ' ys hz
    unfold zbS at hlen
    rw [hz] at hlen
    simp only [Option.some.injEq,Prod.mk.injEq] at hlen
    obtain ⟨rfl,rfl⟩:=hlen
    have hdst:τ.dst = true:=by
     have:=(h.drowk ho).2
     unfold Ty.deep at this
     simp only [Bool.and_eq_true] at this
     exact this.2
    have hmi:∃ bn,m id = some bn:=by
     cases hm:m id with
     | none =>
      have:=h.drow0 ho hm
      subst this
      have:=(h.drowk ho).1
      simp at this
      omega
     | some bn=>exact ⟨bn,rfl⟩
    obtain ⟨⟨b0,n0⟩,hmi⟩:=hmi
    obtain ⟨el,cs,c,d,h1,h2,h3,h4,h5⟩:=h.drow ho hmi
    have hlt:i < xs.length:=by have:=(h.drowk ho).1; omega
    have hxi:xs[i]? = some (xs.getD i (ze τ)):=by simp [List.getD,hlt]
    obtain ⟨c1,hc1,hc2⟩:=z5.get (fun i x c h=>DE.length h) xs 0 c h5 i _ hxi
    rw [Nat.zero_add] at hc1
    unfold DE at hc1
    rw [if_pos hik] at hc1
    obtain ⟨o',hoff⟩:=zDu hdst hz
    obtain ⟨u,_,g2,g3⟩:=zzK hdst hz hoff hc1
    unfold DSl at g3
    rw [hd] at g3
    obtain ⟨cap,e1,e2,e3,el',cs',c',d',k1,k2,k3,k4,k5⟩:=g3
    split at he
    ·rename_i ρ2 y hy
     have hn:∀ (z:σ'.I) c,Rep P F σ' z c→c.length = nc σ':=fun z c h=>Rep.length h
     have hyj:(ys:List σ'.I)[j]? = some (List.getD ys j (ze σ')):=by simp [List.getD,hj]
     obtain ⟨c2,hc3,hc4⟩:=RepL.get hn _ _ k5 j _ hyj
     obtain ⟨y',c3,h6,h7,h8⟩:=zg9 hy hq hc3
     cases h6
     obtain ⟨h9,h10⟩:=zb he
     obtain ⟨rfl,rfl⟩:=jG h10
     obtain ⟨u,h11,h12⟩:=zdg (w:=w) (hE.types t _ (Env.is_spec h9)) (Env.is_np h9) h7 (d:=⟨b,j * nc σ' + off,none⟩) (fun l x hl=>by
      rw [qw,jy k1,k3,Nat.add_assoc]
      have:=hc4 _ _ (h8 l x hl)
      rw [List.getElem?_append_left (List.getElem?_eq_some_iff.1 this).1]; exact this)
     exact ⟨u,za3 h11,rfl,h12⟩
    ·cases he
   ·cases he
  ·cases he
 ·cases he
theorem zaz {t:TypeId} {b off:Nat} {cs:Array Value} {el:TypeId} {q:Value} {c:List Value} (hsz:(sizeOf t).run P w = .ok c.length w) (hq:q.cells.toList = c) (h1:∀ x ∈ c,x.oneCell' = true)
 (hw:w.heap[b]? = some (.cells cs el (0,0))) (hl:off + c.length ≤ cs.size) :
 (storeVar t ⟨b,off,none⟩ q).run P w = .ok () (w.setRow b (zB cs.toList off c).toArray):=by
 unfold storeVar
 have hqs:q.cells.size = c.length:=by rw [← hq]; simp
 simp only [Sem.run_bind,hsz,Result.andThen_ok,hqs,ne_eq,not_true_eq_false,if_false,Sem.run_pure]
 have:=run_storeCells_at (P:=P) b off el c 0 cs w hw (by omega) h1
 rw [hq]
 simpa [zB] using this
theorem vp {h':List Obj} {m':MM} {F':FH}:zh P h' m' F' (.tup []) undef:=⟨#[],rfl,rfl,fun i u hu=>by simp at hu⟩
end
end Go.Ev
end
section
namespace Go.Ev
open Go.RowKit
theorem zqz:∀ {a:Ty} {i:Nat} {τ:Ty},zb5 a i τ = true→∃ o,jt a i = some (o,τ):=by
 intro a
 induction a with
 | pair a b _ ihb =>
  intro i τ h
  cases i with
  | zero=>simp only [zb5,decide_eq_true_eq] at h; subst h; exact ⟨0,rfl⟩
  | succ i=>obtain ⟨o,ho⟩:=ihb (show zb5 b i τ = true from h); exact ⟨nc a + o,by simp [jt,ho]⟩
 | _=>intro i τ h; simp [zb5] at h
theorem zeI {α:Type}:∀ (l:List α) (i:Nat) (x y:α),zf (zf l i x) i y = zf l i y
 | [],_,_,_=>rfl
 | _ :: _,0,_,_=>rfl
 | z :: l,i + 1,x,y=>by simp [zf,zeI l i x y]
section
variable {P:Program} {nt:Up} {F0 F G:FH} {w0 w:World} {st st':St} {m:MM} {a:Act} {E:Env} {v:AV} {u:Value}
theorem zDv:∀ {b:Ty} {h:List Obj} {m:MM} {x:b.I} {cs:List Value},b.chn = true→Rep P F b x cs→zX P h m F b (zqo b x) cs:=by
 intro b
 induction b with
 | unit=>intro h m x cs _ hr; exact hr
 | pair a b _ ihb =>
  rintro h m x cs hc ⟨c,d,rfl,h1,h2⟩
  exact ⟨c,d,rfl,⟨rfl,h1⟩,ihb hc h2⟩
 | _=>intro h m x cs hc; cases hc
theorem zY.chn {t:TypeId} {b:Ty} (h:zY P t (.st b)):b.chn = true:=by
 obtain ⟨fs,_,h2,_⟩:=h.st
 have key:∀ (b:Ty) (fs:List Field) (off:Nat),(tyB P b).2 fs off = true→b.chn = true:=by
  intro b
  induction b with
  | unit=>intro fs off _; rfl
  | pair a b _ ihb =>
   intro fs off h
   simp only [tyB] at h
   cases fs with
   | nil=>cases h
   | cons f fs=>simp only [Bool.and_eq_true] at h; exact ihb _ _ h.2
  | _=>intro fs off h; simp [tyB] at h
 exact key b _ _ h2
theorem zfO {t:TypeId} {d:Addr} {q:Value} {w':World} (h:(storeVar t d q).run P w = .ok () w'):(Instr.storeAt t (.pointer (some d)) q).run P w = .ok () w':=by simpa [Instr.storeAt,Instr.sureAddr] using h
theorem zBc {t:TypeId} {id:Nat} {pth:List Nat} {y:AV} {p q:Value} (hE:EnvOk P G E) (h:Rel P nt F0 w0 st m F a w) (hx:zh P st.h m F (.bp id pth) p) (hy:zh P st.h m F y q)
 (he:zgR E t id pth y st pk = some (v,st')):∃ w',(Instr.storeAt t p q).run P w = .ok () w' ∧ jR P nt F0 w0 st' a F v undef w':=by
 unfold zgR at he
 split at he
 ·rename_i ρ y' st1 hfz
  split at he
  ·rename_i τ z ho
   split at he
   ·rename_i x' hset
    obtain ⟨h8,h9⟩:=zb he
    cases h9
    obtain ⟨m1,F',hrel,hrv,hext⟩:=vT hfz h hy
    obtain ⟨b,n,off,hmi,rfl,σ,hσ⟩:=(hx.ext hext).bpAt ho
    obtain ⟨b',n',el,fr,cs,h1,h2,h3,h4⟩:=hrel.obs id _ ho
    rw [hmi] at h1
    cases h1
    obtain ⟨hFb,rfl⟩:=h4
    obtain ⟨e1,e2,e3⟩:=zjq hset hσ h3 hrv.1
    have hty:=hE.types t _ (Env.is_spec h8)
    obtain ⟨i,hi,hsz⟩:=hty.size (Env.is_np h8)
    have hlc:=Rep.length hrv.1
    have hrun:=zaz (P:=P) (w:=w) (t:=t) (b:=b) (off:=off) (q:=q) (by rw [z3 hi,hsz,hlc]) rfl (Rep.one hrv.1) h2 (by simpa using e3)
    refine ⟨_,zfO hrun,m1,F',hext.le,?_,vp⟩
    refine hrel.turn ho (.inr rfl) (fun _=>rfl) rfl rfl rfl (by simp) (fun k hk=>setRow_other w b k _ (fun e=>hk n (e ▸ hmi))) (fun b' n' hb'=>by rw [hmi] at hb'; cases hb'; exact hFb) ?_
    exact ⟨b,n,el,(0,0),_,hmi,setRow_heap w b _ _ el _ h2,by simpa using e2,hFb,rfl⟩
   ·cases he
  ·cases he
 ·cases he
theorem vR.one {h:List Obj} {m:MM} {t:Ty} {v:AV} {c:List Value} (hr:vR P h m F t v c):∀ x ∈ c,x.oneCell' = true:=by
 cases v with
 | dat τ x=>obtain ⟨rfl,h1⟩:=hr; exact Rep.one h1
 | ow id =>
  obtain ⟨σ,u,rfl,rfl,h1,h2,ad,l,c,rfl⟩:=hr
  intro x hx
  simp only [List.mem_singleton] at hx
  subst hx
  rfl
 | ds id i p =>
  obtain ⟨σ,u,rfl,rfl,h1,ad,l,c,rfl⟩:=hr
  intro x hx
  simp only [List.mem_singleton] at hx
  subst hx
  rfl
 | clo f k =>
  obtain ⟨x,y,u,rfl,rfl,caps,rfl,_⟩:=hr
  intro x hx
  simp only [List.mem_singleton] at hx
  subst hx
  rfl
 | _=>exact hr.elim
theorem zX.one {h:List Obj} {m:MM}:∀ {b:Ty} {vs:List AV} {cs:List Value},zX P h m F b vs cs→∀ x ∈ cs,x.oneCell' = true:=by
 intro b
 induction b with
 | unit =>
  intro vs cs hr
  cases vs with
  | nil=>cases hr; simp
  | cons _ _=>exact hr.elim
 | pair a b _ ihb =>
  intro vs cs hr
  cases vs with
  | nil=>exact hr.elim
  | cons v vs =>
   obtain ⟨c,d,rfl,h1,h2⟩:=hr
   intro x hx
   rcases List.mem_append.1 hx with hx | hx
   ·exact h1.one x hx
   ·exact ihb h2 x hx
 | _=>intro vs cs hr; cases vs <;> exact hr.elim
theorem vR.ofRow {h:List Obj} {m:MM} {σ:Ty} {j:Nat} (hT:zbg h j = some σ) (hy:zh P h m F (.ow j) u):vR P h m F (.sl σ) (.ow j) [u]:=by
 refine ⟨σ,u,rfl,rfl,hy,.inr hT,?_⟩
 rcases hy with hg | ⟨o,τ,len,ho,hTL,hq⟩
 ·unfold zbg at hT; rw [hg] at hT; cases hT
 ·split at hq
  ·obtain ⟨cap,_,_,rfl⟩:=hq; exact ⟨_,_,_,rfl⟩
  ·obtain ⟨_,ad,rfl⟩:=hq; exact ⟨_,_,_,rfl⟩
def zsI (P:Program) (F:FH) (b:Ty) (vs:List AV) (u:AV):Prop:=bxT u = some (.st b) ∧ ∀ (h:List Obj) (m:MM) (w:World) (i bk n:Nat) (el:TypeId) (fr:Nat × Nat) (cs:Array Value),
 m i = some (bk,n)→w.heap[bk]? = some (.cells cs el fr)→z6 P h m F w i (.bx u false)→zX P h m F b vs cs.toList
theorem zsI.fld (b:Ty) (vs:List AV):zsI P F b vs (.fld b vs):=by
 refine ⟨rfl,fun h m w i bk n el fr cs h1 h2 hr=>?_⟩
 obtain ⟨b',n',el',fr',cs',g1,g2,g3,_⟩:=hr
 rw [h1] at g1; cases g1
 rw [h2] at g2; cases g2
 exact g3
theorem zsI.dat {b:Ty} {x:b.I} (hb:b.chn = true):zsI P F b (zqo b x) (.dat (.st b) x):=by
 refine ⟨rfl,fun h m w i bk n el fr cs h1 h2 hr=>?_⟩
 obtain ⟨b',n',el',fr',cs',g1,g2,g3,_⟩:=hr
 rw [h1] at g1; cases g1
 rw [h2] at g2; cases g2
 exact zDv hb (show Rep P F b x cs.toList from g3)
theorem zC1 {t:TypeId} {id off:Nat} {b:Ty} {u0:AV} {us:List AV} {q:Value} {c:List Value} {bk n:Nat} {cs:Array Value} {el:TypeId} {fr:Nat × Nat} (h:Rel P nt F0 w0 st m F a w) (ho:atN st.h id = some (.bx u0 false)) (hu:bxT u0 = some (.st b))
 (hmi:m id = some (bk,n)) (hw:w.heap[bk]? = some (.cells cs el fr)) (hsz:(sizeOf t).run P w = .ok c.length w) (hq:q.cells.toList = c) (h1:∀ x ∈ c,x.oneCell' = true) (hl:off + c.length ≤ cs.size)
 (hr:zX P st.h m F b us (zB cs.toList off c)) :
 ∃ w',(Instr.storeAt t (.pointer (some ⟨bk,off,none⟩)) q).run P w = .ok () w' ∧ Rel P nt F0 w0 ⟨st.fr,zf st.h id (.bx (.fld b us) false)⟩ m F a w':=by
 obtain ⟨b',n',el',fr',cs',g1,g2,g3,hFb,g5⟩:=h.obs id _ ho
 rw [hmi] at g1; cases g1
 rw [hw] at g2; cases g2
 cases g5
 have hrun:=zaz (P:=P) (w:=w) (t:=t) (b:=bk) (off:=off) (q:=q) hsz hq h1 hw hl
 refine ⟨_,zfO hrun,?_⟩
 have hlk:(Obj.bx u0 false).like (.bx (.fld b us) false):=.inr hu
 refine h.turn ho hlk (fun _=>rfl) rfl rfl rfl (by simp) (fun k hk=>setRow_other w bk k _ (fun e=>hk n (e ▸ hmi))) (fun b' n' hb'=>by rw [hmi] at hb'; cases hb'; exact hFb) ?_
 refine ⟨bk,n,el,(0,0),_,hmi,setRow_heap w bk _ _ el _ hw,?_,hFb,rfl⟩
 have:=hr.mono' (HLe.set ho hlk) (fun _ _ _ _=>jc.refl _ _ _ _) (.refl F)
 simpa using this
theorem zsJ {t:TypeId} {id:Nat} {pth:List Nat} {b:Ty} {vs:List AV} {u0:AV} {y:AV} {p q:Value} (hE:EnvOk P G E) (h:Rel P nt F0 w0 st m F a w) (hx:zh P st.h m F (.bp id pth) p) (hy:zh P st.h m F y q)
 (ho:atN st.h id = some (.bx u0 false)) (hu:zsI P F b vs u0) (he:zc5 E t id b vs y pth st pk = some (v,st')):∃ w',(Instr.storeAt t p q).run P w = .ok () w' ∧ jR P nt F0 w0 st' a F v undef w':=by
 unfold zc5 at he
 obtain ⟨bk,n,off,hmi,rfl,hoff⟩:=hx.bpAt ho
 rw [hu.1] at hoff
 obtain ⟨σ0,hσ⟩:=hoff
 have hob:=h.obs id _ ho
 obtain ⟨b',n',el,fr,cs,g1,g2,_⟩:=(show _ from hob:z6 P st.h m F w id (.bx u0 false))
 rw [hmi] at g1; cases g1
 have hcs:=hu.2 _ _ _ _ _ _ _ _ _ hmi g2 hob
 split at he
 ·simp only [qa,Option.some.injEq,Prod.mk.injEq] at hσ
  obtain ⟨rfl,rfl⟩:=hσ
  have whole:∀ (us:List AV),zX P st.h m F b us q.cells.toList→E.is t (.st b) = true→∃ w',(Instr.storeAt t (.pointer (some ⟨bk,0,none⟩)) q).run P w = .ok () w' ∧ Rel P nt F0 w0 ⟨st.fr,zf st.h id (.bx (.fld b us) false)⟩ m F a w':=by
   intro us hus ht
   obtain ⟨i,hi,hsz⟩:=(hE.types t _ (Env.is_spec ht)).size (by intro a b e; cases e)
   have hl1:=hus.length
   have hl2:=hcs.length
   refine zC1 h ho hu.1 hmi g2 (c:=q.cells.toList) (by rw [z3 hi,hsz,hl1]; rfl) rfl hus.one (by rw [← Array.length_toList] at *; omega) ?_
   have:zB cs.toList 0 q.cells.toList = q.cells.toList:=by unfold zB; simp; rw [← Array.length_toList,hl2,← hl1]; simp
   rw [this]; exact hus
  split at he
  ·rename_i c us
   obtain ⟨h8,h9⟩:=zb he
   cases h9
   simp only [Bool.and_eq_true,decide_eq_true_eq] at h8
   obtain ⟨rfl,h8⟩:=h8
   obtain ⟨cq,rfl,h1⟩:=hy
   obtain ⟨w',g3,g4⟩:=whole us (by simpa [Value.cells] using h1) h8
   exact ⟨w',g3,m,F,.refl F,g4,vp⟩
  ·rename_i c x
   obtain ⟨h8,h9⟩:=zb he
   cases h9
   simp only [Bool.and_eq_true,decide_eq_true_eq] at h8
   obtain ⟨rfl,h8⟩:=h8
   obtain ⟨w',g3,g4⟩:=whole (zqo b x) (zDv (hE.types t _ (Env.is_spec h8)).chn (show Rep P F b x q.cells.toList from hy.1)) h8
   exact ⟨w',g3,m,F,.refl F,g4,vp⟩
  ·cases he
 ·rename_i i pth
  split at he
  ·rename_i jd
   obtain ⟨h8,h9⟩:=zb he
   cases h9
   simp only [Bool.and_eq_true] at h8
   obtain ⟨h8,h10⟩:=h8
   unfold zng at h10
   split at h10
   ·rename_i τ hT
    obtain ⟨o,hn⟩:=zqz h10
    simp only [qa,hn,Option.bind_some,Option.map_some,Option.some.injEq,Prod.mk.injEq] at hσ
    obtain ⟨rfl,rfl⟩:=hσ
    have hrf:=vR.ofRow hT hy
    obtain ⟨k1,k2⟩:=zno hcs hn hrf
    have hq1:q.cells.toList = [q]:=by
     obtain ⟨_,_,_,e2,_,_,ad,l,c,rfl⟩:=hrf
     cases e2; rfl
    obtain ⟨w',g3,g4⟩:=zC1 h ho hu.1 hmi g2 (off:=o + 0) (c:=[q]) (zBb hE h8) hq1 hrf.one (by rw [← Array.length_toList]; omega) k1
    exact ⟨w',g3,m,F,.refl F,g4,vp⟩
   ·cases h10
  ·split at he
   ·rename_i ρ y' st1 hfz
    obtain ⟨m1,F',hrel,hrv,hext⟩:=vT hfz h hy
    split at he
    ·rename_i c vs1 ho1
     obtain ⟨bk',n',off',hmi',hp',hoff'⟩:=(hx.ext hext).bpAt ho1
     cases hp'
     obtain ⟨σ1,hσ1⟩:=hoff'
     obtain ⟨b',n'',el',fr',cs',k1,k2,k3,hFb,k5⟩:=hrel.obs id _ ho1
     rw [hmi'] at k1; cases k1
     have hlc:=Rep.length hrv.1
     split at he
     ·rename_i τ z hv
      obtain ⟨o,t',c0,e1,⟨e2,e3⟩,e4⟩:=y8 k3 hv
      subst e2
      simp only [qa,e1,Option.bind_some,Option.map_eq_some_iff,Prod.mk.injEq,Prod.exists] at hσ1
      obtain ⟨o',σ',f1,f2,f3⟩:=hσ1
      subst f3
      split at he
      ·rename_i x' hset
       obtain ⟨h8,h9⟩:=zb he
       cases h9
       obtain ⟨g3,g4,g5⟩:=zjq hset f1 e3 hrv.1
       have hty:=hE.types t _ (Env.is_spec h8)
       obtain ⟨i',hi,hsz⟩:=hty.size (Env.is_np h8)
       obtain ⟨q1,q2⟩:=zno k3 e1 (show vR P st1.h m1 F' τ (.dat τ x') (zB c0 o' q.cells.toList) from ⟨rfl,g4⟩)
       have hll:=e3.length
       rw [jN g5] at q2
       rw [zb8 e4 g5 q2] at q1
       obtain ⟨w',r1,r2⟩:=zC1 hrel ho1 rfl hmi' k2 (off:=o + o') (c:=q.cells.toList) (by rw [z3 hi,hsz,hlc]) rfl (Rep.one hrv.1) (by rw [← Array.length_toList]; omega) q1
       rw [f2] at r1
       exact ⟨w',r1,m1,F',hext.le,r2,vp⟩
      ·cases he
     ·rename_i jd hv
      obtain ⟨o,t',c0,e1,hrf,e4⟩:=y8 k3 hv
      simp only [qa,e1,Option.bind_some,Option.map_eq_some_iff,Prod.mk.injEq,Prod.exists] at hσ1
      obtain ⟨o',σ',f1,f2,f3⟩:=hσ1
      split at he
      ·obtain ⟨h8,h9⟩:=zb he
       cases h9
       simp only [Bool.and_eq_true] at h8
       obtain ⟨h8,h10⟩:=h8
       obtain ⟨o2,hn⟩:=zqz h10
       rw [e1] at hn
       simp only [Option.some.injEq,Prod.mk.injEq] at hn
       obtain ⟨rfl,rfl⟩:=hn
       simp only [qa,Option.some.injEq,Prod.mk.injEq] at f1
       obtain ⟨rfl,rfl⟩:=f1
       have hty:=hE.types t _ (Env.is_spec h8)
       obtain ⟨i',hi,hsz⟩:=hty.size (Env.is_np h8)
       obtain ⟨q1,q2⟩:=zno k3 e1 (show vR P st1.h m1 F' t' (.dat t' y') q.cells.toList from ⟨rfl,hrv.1⟩)
       obtain ⟨w',r1,r2⟩:=zC1 hrel ho1 rfl hmi' k2 (off:=o) (c:=q.cells.toList) (by rw [z3 hi,hsz,hlc]) rfl (Rep.one hrv.1) (by rw [← Array.length_toList]; omega) q1
       rw [← f2]
       exact ⟨w',r1,m1,F',hext.le,r2,vp⟩
      ·cases he
     ·cases he
    ·cases he
   ·cases he
theorem zBd {t:TypeId} {id i:Nat} {pth:List Nat} {τ ρ:Ty} {xs:List τ.I} {x':τ.I} {y':ρ.I} {p q:Value} (hE:EnvOk P G E) (h:Rel P nt F0 w0 st m F a w) (hx:zh P st.h m F (.rp id i pth) p) (ho:atN st.h id = some (.row τ xs false))
 (hset:j6 pth τ (xs.getD i (ze τ)) ρ y' = some x') (hrv:zV P F ρ y' q) (h8:E.is t ρ = true) :
 ∃ w',(Instr.storeAt t p q).run P w = .ok () w' ∧ Rel P nt F0 w0 ⟨st.fr,zf st.h id (.row τ (xs.set i x') false)⟩ m F a w':=by
 obtain ⟨b,n,off,σ,hmi,hlt,hσ,rfl⟩:=hx.rpAt ho rfl
 obtain ⟨el,fr,cs,c,d,h1,h2,h3,h4,h5⟩:=h.row ho hmi
 obtain ⟨hFb,rfl⟩:=h5
 have hn:∀ (z:τ.I) c,Rep P F τ z c→c.length = nc τ:=fun z c h=>Rep.length h
 have hxi:xs[i]? = some (xs.getD i (ze τ)):=by simp [List.getD,hlt]
 obtain ⟨c1,hc1,hc2⟩:=RepL.get hn _ _ h4 i _ hxi
 obtain ⟨e1,e2,e3⟩:=zjq hset hσ hc1 hrv.1
 have hty:=hE.types t _ (Env.is_spec h8)
 obtain ⟨ii,hi,hsz⟩:=hty.size (Env.is_np h8)
 have hlc:=Rep.length hrv.1
 have hL:=RepL.length hn _ _ h4
 have hl1:=hn _ _ hc1
 have hb:i * nc τ + nc τ ≤ c.length:=by
  rw [hL]
  calc i * nc τ + nc τ = (i + 1) * nc τ:=by rw [Nat.add_mul]; omega
   _ ≤ xs.length * nc τ:=Nat.mul_le_mul_right _ (by omega)
 have hcsl:cs.size = c.length + d.length:=by rw [← Array.length_toList,h3]; simp
 have hrun:=zaz (P:=P) (w:=w) (t:=t) (b:=b) (off:=i * nc τ + off) (q:=q) (by rw [z3 hi,hsz,hlc]) rfl (Rep.one hrv.1) h1 (by omega)
 refine ⟨_,zfO hrun,?_⟩
 refine h.turn ho (.inr ⟨⟨_,_,rfl⟩,by simp [rowTL]⟩) (fun _=>rfl) rfl rfl rfl (by simp) (fun k hk=>setRow_other w b k _ (fun e=>hk n (e ▸ hmi))) (fun b' n' hb'=>by rw [hmi] at hb'; cases hb'; exact hFb) ?_
 simp only [z6,hmi]
 have hspl:zB cs.toList (i * nc τ + off) q.cells.toList = zB c (i * nc τ) (zB c1 off q.cells.toList) ++ d:=by
  rw [h3,zb7 (by omega),zb8 hc2 e3 (by omega)]
 refine ⟨el,(0,0),_,_,d,setRow_heap w b _ _ el _ h1,?_,by simpa using hspl,RepL.set hn _ _ h4 i x' _ hlt e2,hFb,rfl⟩
 have e3':off + q.cells.size ≤ c1.length:=by simpa using e3
 simp only [List.size_toArray]
 rw [jN (by simp; omega)]
 simpa using h2
theorem zDw (h:Rel P nt F0 w0 st m F a w) {id k:Nat} {τ:Ty} {xs:List τ.I} (ho:atN st.h id = some (.drow τ xs k)):τ.dst = true:=by
 have:=(h.drowk ho).2
 unfold Ty.deep at this
 simp only [Bool.and_eq_true] at this
 exact this.2
theorem Rel.shallow (h:Rel P nt F0 w0 st m F a w) {id k:Nat} {τ:Ty} {xs:List τ.I} (ho:atN st.h id = some (.drow τ xs k)) :
 ∃ m' F',Rel P nt F0 w0 ⟨st.fr,zf st.h id (.row τ xs false)⟩ m' F' a w ∧ Ext st.h (zf st.h id (.row τ xs false)) m m' F F':=by
 have hS0:∀ k,(∃ j p n,m.d id j p = some (k,n))→F k = none:=by
  rintro k ⟨j,p,n',hp⟩
  exact (h.dok _ _ _ _ _ hp).2.2.2.1
 have hle:F.le (F.add w fun k=>∃ j p n,m.d id j p = some (k,n)):=FH.add_le hS0
 refine ⟨_,_,h.freezeD (o':=.row _ xs false) (S:=fun k=>∃ j p n,m.d id j p = some (k,n)) ho zkR (fun j=>rfl) (fun k hk=>.inr hk) (fun j p k n hp=>⟨j,p,n,hp⟩) ?_⟩
 simp only [z6,MM.drop]
 cases hmi:m id with
 | none=>exact h.drow0 ho hmi
 | some bn =>
  obtain ⟨b,n⟩:=bn
  obtain ⟨el,cs,c,d,h1,h2,h3,h4,h5⟩:=h.drow ho hmi
  refine ⟨el,(0,0),cs,c,d,h1,h2,h3,z5.toL (fun j x c' _ _ hx=>?_) h5,?_,rfl⟩
  ·unfold DE at hx
   split at hx
   ·exact zxy P hle (fun p b' n' hp c el hc=>by rw [FH.add_in ⟨j,p,n',hp⟩]; exact FH.of_some hc) _ _ _ hx
   ·exact Rep.mono hle hx
  ·rw [FH.add_out]
   ·exact h4
   ·rintro ⟨j,p,n',hp⟩
    exact (h.dok _ _ _ _ _ hp).2.2.2.2 _ _ hmi
theorem zxD {t:TypeId} {id i:Nat} {pth:List Nat} {y:AV} {p q:Value} (hE:EnvOk P G E) (h:Rel P nt F0 w0 st m F a w) (hx:zh P st.h m F (.rp id i pth) p) (hy:zh P st.h m F y q)
 (he:zgt E t id i pth y st pk = some (v,st')):∃ w',(Instr.storeAt t p q).run P w = .ok () w' ∧ jR P nt F0 w0 st' a F v undef w':=by
 unfold zgt at he
 split at he
 ·rename_i ρ y' st1 hfz
  obtain ⟨m1,F1,hrel,hrv,hext⟩:=vT hfz h hy
  split at he
  ·rename_i τ xs k ho
   split at he
   ·rename_i x' hset
    obtain ⟨h8,h9⟩:=zb he
    cases h9
    cases hdl:ρ.dl with
    | true =>
     obtain ⟨m2,F2,hrel2,hext2⟩:=hrel.shallow ho
     obtain ⟨w',r1,r2⟩:=zBd hE hrel2 ((hx.ext hext).ext hext2) (vw ho) hset (hrv.mono hext2.le) h8
     refine ⟨w',r1,m2,F2,hext.le.trans hext2.le,?_,vp⟩
     rw [zeI] at r2
     exact r2
    | false =>
     obtain ⟨b,n,off,σ,hmi,hlt,hσ,rfl⟩:=(hx.ext hext).rpAt ho rfl
     obtain ⟨el,cs,c,d,h1,h2,h3,h4,h5⟩:=hrel.drow ho hmi
     have hdst:=zDw hrel ho
     have hn:∀ (i:Nat) (x:τ.I) c,DE P F1 w (m1.d id) τ k i x c→c.length = nc τ:=fun i x c h=>DE.length h
     have hxi:xs[i]? = some (xs.getD i (ze τ)):=by simp [List.getD,hlt]
     obtain ⟨c1,hc1,hc2⟩:=z5.get hn xs 0 c h5 i _ hxi
     rw [Nat.zero_add] at hc1
     have hl1:=hc1.length
     have e23:DE P F1 w (m1.d id) τ k i x' (zB c1 off q.cells.toList) ∧ off + q.cells.toList.length ≤ c1.length:=by
      unfold DE at hc1 ⊢
      split at hc1
      ·rename_i hik
       obtain ⟨_,e2,e3⟩:=zLE hset hσ hdl hc1 hrv.1
       rw [if_pos hik]; exact ⟨e2,e3⟩
      ·rename_i hik
       obtain ⟨_,e2,e3⟩:=zjq hset hσ hc1 hrv.1
       rw [if_neg hik]; exact ⟨e2,e3⟩
     obtain ⟨e2,e3⟩:=e23
     have hty:=hE.types t _ (Env.is_spec h8)
     obtain ⟨ii,hi,hsz⟩:=hty.size (Env.is_np h8)
     have hlc:=Rep.length hrv.1
     have hL:=z5.length hn xs 0 c h5
     have hb:i * nc τ + nc τ ≤ c.length:=by
      rw [hL]
      calc i * nc τ + nc τ = (i + 1) * nc τ:=by rw [Nat.add_mul]; omega
       _ ≤ xs.length * nc τ:=Nat.mul_le_mul_right _ (by omega)
     have hcsl:cs.size = c.length + d.length:=by rw [← Array.length_toList,h3]; simp
     have hrun:=zaz (P:=P) (w:=w) (t:=t) (b:=b) (off:=i * nc τ + off) (q:=q) (by rw [z3 hi,hsz,hlc]) rfl (Rep.one hrv.1) h1 (by omega)
     refine ⟨_,zfO hrun,m1,F1,hext.le,?_,vp⟩
     have hlk:(Obj.drow τ xs k).like (.drow τ (xs.set i x') k):=.inr ⟨by simp [rowTL],Nat.le_refl _,rfl,fun j pp hj=>by
      by_cases e:i = j
      ·subst e
       have:(xs.set i x').getD i (ze τ) = x':=by simp [List.getD,hlt]
       rw [this]
       exact zBa hdst hset (.inl hdl) pp
      ·have:(xs.set i x').getD j (ze τ) = xs.getD j (ze τ):=by simp [List.getD,List.getElem?_set_ne e]
       rw [this]⟩
     have hoth:∀ k',k' ≠ b→(w.setRow b (zB cs.toList (i * nc τ + off) q.cells.toList).toArray).heap[k']? = w.heap[k']?:=fun k' hk=>setRow_other w b k' _ hk
     refine hrel.turnD ho hlk rfl rfl rfl (by simp) (fun _ e=>e) (fun b' hb1 _=>hoth b' (fun e=>hb1 n (e ▸ hmi))) (fun b' n' hb' _=>by rw [hmi] at hb'; cases hb'; exact h4) ?_
     refine ⟨by simpa using (hrel.drowk ho).1,(hrel.drowk ho).2,?_⟩
     rw [hmi]
     have hspl:zB cs.toList (i * nc τ + off) q.cells.toList = zB c (i * nc τ) (zB c1 off q.cells.toList) ++ d:=by
      rw [h3,zb7 (by omega),zb8 hc2 e3 (by omega)]
     have e3':off + q.cells.size ≤ c1.length:=by simpa using e3
     have hmono:∀ j y c,DE P F1 w (m1.d id) τ k j y c→DE P F1 (w.setRow b (zB cs.toList (i * nc τ + off) q.cells.toList).toArray) (m1.d id) τ k j y c:=fun j y c hy =>
      hy.mono (.refl _) (fun _=>rfl) fun pp b' n' hp=>⟨hoth b' (fun e=>(hrel.dok _ _ _ _ _ hp).2.2.2.2 _ _ (e ▸ hmi)),fun hn=>hn⟩
     refine ⟨el,_,_,d,setRow_heap w b _ _ el _ h1,?_,by simpa using hspl,h4,?_⟩
     ·simp only [List.size_toArray]
      rw [jN (by simp; omega)]
      simpa using h2
     ·refine z5.set hn xs 0 c h5 i x' _ hlt (by rw [Nat.zero_add]; exact hmono _ _ _ e2) (by rw [jN e3,hl1]) fun j y c _ _ hy=>hmono _ _ _ hy
   ·cases he
  ·cases he
 ·cases he
end
end Go.Ev
end
section
namespace Go.Ev
open Go.RowKit
section
variable {P:Program} {nt:Up} {F0 F G:FH} {w0 w:World} {st st':St} {m:MM} {a:Act} {E:Env} {v:AV} {u:Value}
def MM.kill (m:MM) (j:Nat):MM:=⟨fun i=>if i = j then none else m i,fun i=>if i = j then fun _ _=>none else m.d i⟩
theorem MM.kill_f {m:MM} {i j:Nat} {b:Nat × Nat} (h:(m.kill j) i = some b):i ≠ j ∧ m i = some b:=by
 simp only [MM.kill] at h
 by_cases e:i = j
 ·rw [if_pos e] at h; cases h
 ·rw [if_neg e] at h; exact ⟨e,h⟩
theorem MM.kill_d {m:MM} {i j k:Nat} {p:List Nat} {b:Nat × Nat} (h:(m.kill j).d i k p = some b):i ≠ j ∧ m.d i k p = some b:=by
 simp only [MM.kill] at h
 by_cases e:i = j
 ·rw [if_pos e] at h; cases h
 ·rw [if_neg e] at h; exact ⟨e,h⟩
theorem Rel.kill (h:Rel P nt F0 w0 st m F a w) {j:Nat} {o:Obj} (ho:atN st.h j = some o):Rel P nt F0 w0 ⟨st.fr,zf st.h j .gone⟩ (m.kill j) F a w ∧ Ext st.h (zf st.h j .gone) m (m.kill j) F F:=by
 have hh:HLe st.h (zf st.h j .gone):=HLe.set ho (.inl rfl)
 have hx:Ext st.h (zf st.h j .gone) m (m.kill j) F F:=⟨hh,fun i u hu hg=>by
  by_cases e:i = j
  ·subst e; exact absurd (vw ho) hg
  ·exact ⟨by simp only [MM.kill,e,if_false],fun _ _ _ _=>by simp only [MM.kill,e,if_false]⟩,.refl F⟩
 refine ⟨⟨h.nt,fun t v ht=>(h.fr t v ht).ext hx,fun v u hv=>(h.up v u hv).ext hx,h.lo.trans hx.le,fun i u hu=>?_,fun i i' b n n' h1 h2=>h.inj _ _ _ _ _ (MM.kill_f h1).2 (MM.kill_f h2).2,fun i b n hi=>?_,fun i k p b n hp=>?_,fun i1 j1 p1 b n i2 j2 p2 n' h1 h2=>h.din _ _ _ _ _ _ _ _ _ (MM.kill_d h1).2 (MM.kill_d h2).2,h.fok,h.gro,h.bel,h.dfr⟩,hx⟩
 ·by_cases e:j = i
  ·subst e
   rw [vw ho] at hu
   cases hu
   trivial
  ·have hu':atN st.h i = some u:=by rw [qp e] at hu; exact hu
   have hne:i ≠ j:=Ne.symm e
   exact z6.mono' hh (fun i u hu hg=>hx.sm i u hu hg) (.refl F) (by simp only [MM.kill,hne,if_false]) (fun k p _=>by simp only [MM.kill,hne,if_false]) (fun _ _ _=>rfl) (fun _ _ _ hn=>hn) (fun _ _ _ _ _ _=>⟨rfl,fun hn=>hn⟩) (h.obs i u hu')
 ·have:=h.rng i b n (MM.kill_f hi).2
  simp only [qS,List.length_set]
  exact this
 ·obtain ⟨e,hp'⟩:=MM.kill_d hp
  obtain ⟨⟨u,h1,h2⟩,h3,h4,h5,h6⟩:=h.dok _ _ _ _ _ hp'
  exact ⟨⟨u,by rw [qp (Ne.symm e)]; exact h1,h2⟩,h3,h4,h5,fun i' n' hi'=>h6 _ _ (MM.kill_f hi').2⟩
def zqA (m:MM) (F:FH) (w0 w:World) (o:Option (Nat × Nat)):Prop:=∀ b n,o = some (b,n)→F b = none ∧ w0.heap.size ≤ b ∧ b < w.heap.size ∧ (∀ i n',m i ≠ some (b,n')) ∧ ∀ i j p n',m.d i j p ≠ some (b,n')
theorem zqA.sub {m m':MM} {o:Option (Nat × Nat)} (h:zqA m F w0 w o) (h1:∀ i b,m' i = some b→m i = some b) (h2:∀ i j p b,m'.d i j p = some b→m.d i j p = some b):zqA m' F w0 w o:=fun b n e=>by
 obtain ⟨g1,g2,g3,g4,g5⟩:=h b n e
 exact ⟨g1,g2,g3,fun i n' hi=>g4 i n' (h1 _ _ hi),fun i j p n' hi=>g5 i j p n' (h2 _ _ _ _ hi)⟩
structure Sub (h h':List Obj) (m m':MM):Prop where
 f:∀ i b,m' i = some b→m i = some b
 d:∀ i j p b,m'.d i j p = some b→m.d i j p = some b
 ob:∀ i o,atN h i = some o→(∀ τ xs,o ≠ .row τ xs false)→(∀ τ xs k,o = .drow τ xs k→τ.dl = true)→atN h' i = some o
theorem Sub.refl (h:List Obj) (m:MM):Sub h h m m:=⟨fun _ _ h=>h,fun _ _ _ _ h=>h,fun _ _ h _ _=>h⟩
theorem Sub.trans {h h1 h2:List Obj} {m m1 m2:MM} (a:Sub h h1 m m1) (b:Sub h1 h2 m1 m2):Sub h h2 m m2 :=
 ⟨fun i x hx=>a.f _ _ (b.f _ _ hx),fun i j p x hx=>a.d _ _ _ _ (b.d _ _ _ _ hx),fun i o ho h1 h2=>b.ob _ _ (a.ob _ _ ho h1 h2) h1 h2⟩
theorem zBe {t:Ty} {x:t.I} {v:AV} {c:List Value} {h1:List Obj} (h:Rel P nt F0 w0 st m F a w) (hv:vR P st.h m F t v c) (hz:zoq st.h t v = some (x,h1)) :
 ∃ m1 o,Rel P nt F0 w0 ⟨st.fr,h1⟩ m1 F a w ∧ Ext st.h h1 m m1 F F ∧ Sub st.h h1 m m1 ∧ DFl P F w o t x c ∧ zqA m1 F w0 w o ∧ ∀ b,o = some b→∃ i,m i = some b:=by
 cases v with
 | dat τ y =>
  obtain ⟨rfl,hr⟩:=hv
  simp only [zoq] at hz
  obtain ⟨hdl,hz⟩:=qs hz
  simp only [qK,dite_true] at hz
  cases hz
  exact ⟨m,none,h,.refl _ _ _,.refl _ _,by rw [DFl.flat (fun σ e=>by subst e; cases hdl)]; exact hr,fun b n e=>(nomatch e),fun b e=>(nomatch e)⟩
 | ow id =>
  obtain ⟨σ,u,rfl,rfl,hs,hT,_⟩:=hv
  simp only [zoq] at hz
  split at hz
  ·rename_i τ xs ho
   split at hz
   ·rename_i y hc
    cases hz
    obtain ⟨e,rfl⟩:=zP hc
    cases e
    obtain ⟨g1,g2⟩:=h.kill ho
    have hsub:Sub st.h (zf st.h id .gone) m (m.kill id):=⟨fun i b hi=>(MM.kill_f hi).2,fun i j p b hi=>(MM.kill_d hi).2,fun i o hi hn _=>by
     by_cases e:id = i
     ·subst e; rw [ho] at hi; cases hi; exact absurd rfl (hn _ _)
     ·rw [qp e]; exact hi⟩
    have hq:=zF.owAt ho rfl hs
    cases hmi:m id with
    | none =>
     rw [hmi] at hq
     obtain ⟨hlen,ad,rfl⟩:=hq
     have hxs:xs = []:=List.length_eq_zero_iff.1 hlen
     subst hxs
     exact ⟨_,none,g1,g2,hsub,⟨rfl,ad,rfl⟩,fun b n e=>(nomatch e),fun b e=>(nomatch e)⟩
    | some bn =>
     obtain ⟨b,n⟩:=bn
     rw [hmi] at hq
     obtain ⟨cap,hn,hcap,rfl⟩:=hq
     obtain ⟨el,fr,cs,c,d,k1,k2,k3,k4,k5⟩:=h.row ho hmi
     obtain ⟨k5,rfl⟩:=k5
     have hr:=h.rng _ _ _ hmi
     refine ⟨_,some (b,n),g1,g2,hsub,⟨cap,hn,hcap,rfl,el,cs,c,d,k1,k2,k3,k5,k4⟩,fun b' n' e=>?_,fun b' e=>⟨id,by cases e; exact hmi⟩⟩
     cases e
     refine ⟨k5,hr.2.1,hr.2.2,fun i n' hi=>?_,fun i j p n' hi=>?_⟩
     ·obtain ⟨e,hi⟩:=MM.kill_f hi
      exact e (h.inj _ _ _ _ _ hi hmi)
     ·exact (h.dok _ _ _ _ _ (MM.kill_d hi).2).2.2.2.2 _ _ hmi
   ·cases hz
  ·cases hz
 | ds id i p=>simp [zoq] at hz
 | clo f l=>simp [zoq] at hz
 | _=>exact hv.elim
def zHH (D:Nat→Option (Nat × Nat)):List Nat→Option (Nat × Nat)
 | [f]=>D f
 | _=>none
theorem zMr {D D':Nat→Option (Nat × Nat)}:∀ {a:Ty} {i:Nat} {x:a.I} {cs:List Value},(∀ j,i ≤ j→D' j = D j)→DC P F w (zHH D) a i x cs→DC P F w (zHH D') a i x cs:=by
 intro a
 induction a with
 | pair a b _ ihb =>
  rintro i x cs hD ⟨c,d,e,h1,h2⟩
  exact ⟨c,d,e,by show DFl P F w (D' i) a x.1 c; rw [hD i (Nat.le_refl _)]; exact h1,ihb (fun j hj=>hD j (by omega)) h2⟩
 | unit=>intro i x cs _ h; exact h
 | _=>intro i x cs _ h; exact h.elim
theorem zJr:∀ {t:Ty} {x:t.I} {vs:List AV} {cs:List Value} {st:St} {m:MM} {h1:List Obj} (i0:Nat),Rel P nt F0 w0 st m F a w→zX P st.h m F t vs cs→zzG t vs st.h = some (x,h1) →
 ∃ m1 D,Rel P nt F0 w0 ⟨st.fr,h1⟩ m1 F a w ∧ Ext st.h h1 m m1 F F ∧ Sub st.h h1 m m1 ∧ DC P F w (zHH D) t i0 x cs ∧ (∀ f,zqA m1 F w0 w (D f)) ∧ (∀ f b,D f = some b→i0 ≤ f ∧ ∃ i,m i = some b) ∧ ∀ f f' b n n',D f = some (b,n)→D f' = some (b,n')→f = f':=by
 intro t
 induction t with
 | unit =>
  intro x vs cs st m h1 i0 h hv hz
  cases vs with
  | nil =>
   have hz:(some ((),st.h):Option (Ty.unit.I × List Obj)) = some (x,h1):=hz
   cases hz
   exact ⟨m,fun _=>none,h,.refl _ _ _,.refl _ _,hv,fun f b n e=>(nomatch e),fun f b e=>(nomatch e),fun f f' b n n' e=>(nomatch e)⟩
  | cons _ _=>exact hv.elim
 | pair a0 b _ ihb =>
  intro x vs cs st m h1 i0 h hv hz
  cases vs with
  | nil=>exact hv.elim
  | cons v vs =>
   obtain ⟨c,d,rfl,hv1,hv2⟩:=hv
   simp only [zzG] at hz
   split at hz
   ·rename_i y h2 hy
    split at hz
    ·rename_i ys h3 hys
     cases hz
     obtain ⟨m1,o,g1,g2,g3,g4,g5,g6⟩:=zBe h hv1 hy
     obtain ⟨m2,D,k1,k2,k3,k4,k5,k6,k7⟩:=ihb (st:=⟨st.fr,h2⟩) (i0 + 1) g1 (hv2.ext g2) hys
     refine ⟨m2,fun f=>if f = i0 then o else D f,k1,g2.trans k2,g3.trans k3,⟨c,d,rfl,?_,?_⟩,fun f=>?_,fun f b hf=>?_,fun f f' b n n' hf hf'=>?_⟩
     ·show DFl P F w (if i0 = i0 then o else D i0) a0 y c
      rw [if_pos rfl]; exact g4
     ·exact zMr (fun j hj=>by rw [if_neg (by omega)]) k4
     ·by_cases e:f = i0
      ·simp only [e,if_true]; exact g5.sub k3.f k3.d
      ·simp only [e,if_false]; exact k5 f
     ·by_cases e:f = i0
      ·simp only [e,if_true] at hf
       exact ⟨by omega,g6 _ hf⟩
      ·simp only [e,if_false] at hf
       obtain ⟨e1,i,hi⟩:=k6 f b hf
       exact ⟨by omega,i,g3.f _ _ hi⟩
     ·by_cases e:f = i0 <;> by_cases e':f' = i0
      ·omega
      ·simp only [e,if_true] at hf
       simp only [e',if_false] at hf'
       obtain ⟨_,i,hi⟩:=k6 f' _ hf'
       exact absurd hi ((g5 _ _ hf).2.2.2.1 _ _)
      ·simp only [e,if_false] at hf
       simp only [e',if_true] at hf'
       obtain ⟨_,i,hi⟩:=k6 f _ hf
       exact absurd hi ((g5 _ _ hf').2.2.2.1 _ _)
      ·simp only [e,if_false] at hf
       simp only [e',if_false] at hf'
       exact k7 _ _ _ _ _ hf hf'
    ·cases hz
   ·cases hz
 | _=>intro x vs cs st m h1 i0 h hv hz; cases vs <;> exact hv.elim
theorem zBf {τ:Ty} {x:τ.I} {v:AV} {q:Value} {h1:List Obj} (h:Rel P nt F0 w0 st m F a w) (hv:zh P st.h m F v q) (hz:zvY τ v st.h = some (x,h1)) :
 ∃ m1 D,Rel P nt F0 w0 ⟨st.fr,h1⟩ m1 F a w ∧ Ext st.h h1 m m1 F F ∧ Sub st.h h1 m m1 ∧ DR P F w D τ x q.cells.toList ∧ (∀ p,zqA m1 F w0 w (D p)) ∧ (∀ p p' b n n',D p = some (b,n)→D p' = some (b,n')→p = p') ∧ (∀ x ∈ q.cells.toList,x.oneCell' = true):=by
 unfold zvY at hz
 split at hz
 ·rename_i a0 b vs
  obtain ⟨e,hz2⟩:=zb hz
  clear hz
  simp only [decide_eq_true_eq] at e
  subst e
  obtain ⟨cs,rfl,hr⟩:=hv
  obtain ⟨m1,D,g1,g2,g3,g4,g5,g6,g7⟩:=zJr 0 h hr hz2
  refine ⟨m1,zHH D,g1,g2,g3,g4,fun p=>?_,fun p p' b n n' h1 h2=>?_,by simpa [Value.cells] using hr.one⟩
  ·match p with
   | [f]=>exact g5 f
   | []=>exact fun b n e=>(nomatch e)
   | _ :: _ :: _=>exact fun b n e=>(nomatch e)
  ·match p,p',h1,h2 with
   | [f],[f'],h1,h2=>rw [g7 f f' b n n' h1 h2]
   | [f],[],_,h2=>cases h2
   | [f],_ :: _ :: _,_,h2=>cases h2
   | [],_,h1,_=>cases h1
   | _ :: _ :: _,_,h1,_=>cases h1
 ·rename_i σ id
  have hT:zbg st.h id = some σ:=by
   simp only [zoq] at hz
   split at hz
   ·rename_i τ xs ho
    split at hz
    ·rename_i y hc
     obtain ⟨e,_⟩:=zP hc
     cases e
     rw [zul ho]; rfl
    ·cases hz
   ·cases hz
  have hrf:=vR.ofRow hT hv
  obtain ⟨m1,o,g1,g2,g3,g4,g5,_⟩:=zBe h hrf hz
  have hq1:q.cells.toList = [q]:=by
   obtain ⟨_,_,_,e2,_,_,ad,l,c,rfl⟩:=hrf
   cases e2; rfl
  refine ⟨m1,fun p=>if p = [] then o else none,g1,g2,g3,?_,fun p=>?_,fun p p' b n n' h1 h2=>?_,by rw [hq1]; exact hrf.one⟩
  ·rw [hq1]
   show DSl P F w (if ([]:List Nat) = [] then o else none) σ x [q]
   rw [if_pos rfl]; exact g4
  ·show zqA m1 F w0 w (if p = [] then o else none)
   by_cases e:p = []
   ·rw [if_pos e]; exact g5
   ·rw [if_neg e]; exact fun b n e=>(nomatch e)
  ·replace h1:(if p = [] then o else none) = some (b,n):=h1
   replace h2:(if p' = [] then o else none) = some (b,n'):=h2
   by_cases e:p = []
   ·by_cases e':p' = []
    ·rw [e,e']
    ·rw [if_neg e'] at h2; cases h2
   ·rw [if_neg e] at h1; cases h1
 ·cases hz
theorem zxE {t:TypeId} {id i:Nat} {y:AV} {p q:Value} (hE:EnvOk P G E) (h:Rel P nt F0 w0 st m F a w) (hx:zh P st.h m F (.rp id i []) p) (hy:zh P st.h m F y q)
 (he:zhT E t id i y st pk = some (v,st')):∃ w',(Instr.storeAt t p q).run P w = .ok () w' ∧ jR P nt F0 w0 st' a F v undef w':=by
 unfold zhT at he
 split at he
 ·rename_i τ xs k ho
  split at he
  ·rename_i x h1 habs
   obtain ⟨hik,he⟩:=zb he
   obtain ⟨h8,h9⟩:=zb he
   cases h9
   simp only [decide_eq_true_eq] at hik
   subst hik
   have hdl:τ.dl = true:=by
    have:=(h.drowk ho).2
    unfold Ty.deep at this
    simp only [Bool.and_eq_true] at this
    exact this.1
   obtain ⟨m1,D,g1,g2,g3,g4,g5,g6,g7⟩:=zBf h hy habs
   have ho1:atN h1 id = some (.drow τ xs i):=g3.ob _ _ ho (fun _ _ e=>by cases e) (fun τ' xs' k' e=>by cases e; exact hdl)
   obtain ⟨b,n,off,σ,hmi,hlt,hσ,rfl⟩:=(hx.ext g2).rpAt ho1 rfl
   simp only [qa,Option.some.injEq,Prod.mk.injEq] at hσ
   obtain ⟨rfl,rfl⟩:=hσ
   obtain ⟨el,cs,c,d,k1,k2,k3,k4,k5⟩:=g1.drow ho1 hmi
   have hn:∀ (j:Nat) (x:τ.I) c,DE P F w (m1.d id) τ i j x c→c.length = nc τ:=fun j x c h=>DE.length h
   have hL:=z5.length hn xs 0 c k5
   have hlq:=g4.length
   have hb:i * nc τ + nc τ ≤ c.length:=by
    rw [hL]
    calc i * nc τ + nc τ = (i + 1) * nc τ:=by rw [Nat.add_mul]; omega
     _ ≤ xs.length * nc τ:=Nat.mul_le_mul_right _ (by omega)
   have hcsl:cs.size = c.length + d.length:=by rw [← Array.length_toList,k3]; simp
   have hty:=hE.types t _ (Env.is_spec h8)
   obtain ⟨ii,hi,hsz⟩:=hty.size (Env.is_np h8)
   have hrun:=zaz (P:=P) (w:=w) (t:=t) (b:=b) (off:=i * nc τ + 0) (q:=q) (by rw [z3 hi,hsz,hlq]) rfl g7 k1 (by omega)
   refine ⟨_,zfO hrun,⟨m1.f,fun i'=>if i' = id then (fun j p=>if j = i then D p else m1.d id j p) else m1.d i'⟩,F,.refl F,?_,vp⟩
   have hoth:∀ k',k' ≠ b→(w.setRow b (zB cs.toList (i * nc τ + 0) q.cells.toList).toArray).heap[k']? = w.heap[k']?:=fun k' hk=>setRow_other w b k' _ hk
   have hlk:(Obj.drow τ xs i).like (.drow τ (xs.set i x) (i + 1)):=.inr ⟨by simp [rowTL],by omega,rfl,fun j pp hj=>by
    have:(xs.set i x).getD j (ze τ) = xs.getD j (ze τ):=by simp [List.getD,List.getElem?_set_ne (show i ≠ j by omega)]
    rw [this]⟩
   refine g1.turnX ho1 hlk rfl rfl rfl (by simp) rfl (fun i' e=>by simp only [e,if_false]) (fun j p hj _=>?_) (fun j p b' n' hp=>?_) (fun j p b' n' j' p' n'' hp hp'=>?_) (fun b' hb1 _=>hoth b' (fun e=>hb1 n (e ▸ hmi))) (fun b' n' hb' _=>by rw [hmi] at hb'; cases hb'; exact k4) ?_
   ·simp only [Obj.deepAt,decide_eq_true_eq] at hj
    simp only [if_true]
    rw [if_neg (by omega)]
   ·simp only [if_true] at hp
    by_cases e:j = i
    ·rw [if_pos e] at hp
     obtain ⟨f1,f2,f3,f4,f5⟩:=g5 p _ _ hp
     exact ⟨by simp [Obj.deepAt,e],f2,f3,f1,f4,fun i' j' p' n'' _=>f5 _ _ _ _⟩
    ·rw [if_neg e] at hp
     obtain ⟨⟨u,f1,f2⟩,f3,f4,f5,f6⟩:=g1.dok _ _ _ _ _ hp
     rw [ho1] at f1; cases f1
     simp only [Obj.deepAt,decide_eq_true_eq] at f2
     exact ⟨by simp only [Obj.deepAt,decide_eq_true_eq]; omega,f3,f4,f5,f6,fun i' j' p' n'' e' hp'=>e' (g1.din _ _ _ _ _ _ _ _ _ hp' hp).1⟩
   ·simp only [if_true] at hp hp'
    by_cases e:j = i <;> by_cases e':j' = i
    ·rw [if_pos e] at hp; rw [if_pos e'] at hp'
     exact ⟨by omega,g6 _ _ _ _ _ hp hp'⟩
    ·rw [if_pos e] at hp; rw [if_neg e'] at hp'
     exact absurd hp' ((g5 p _ _ hp).2.2.2.2 _ _ _ _)
    ·rw [if_neg e] at hp; rw [if_pos e'] at hp'
     exact absurd hp ((g5 p' _ _ hp').2.2.2.2 _ _ _ _)
    ·rw [if_neg e] at hp; rw [if_neg e'] at hp'
     exact (g1.din _ _ _ _ _ _ _ _ _ hp hp').2
   ·refine ⟨by simp only [List.length_set]; omega,(h.drowk ho).2,?_⟩
    show match m1 id with | some (b,n)=>_ | none=>_
    rw [hmi]
    simp only [if_true]
    refine ⟨el,_,_,d,setRow_heap w b _ _ el _ k1,?_,by rw [Nat.add_zero,k3,zb7 (by omega)],k4,?_⟩
    ·simp only [List.size_toArray]
     rw [jN (by rw [Array.length_toList] at hlq; simp only [List.length_append,Array.length_toList,List.size_toArray]; omega)]
     simpa using k2
    ·refine z5.set hn xs 0 c k5 i x _ hlt ?_ hlq fun j y c _ hj hy=>?_
     ·rw [Nat.zero_add]
      unfold DE
      rw [if_pos (by omega)]
      refine zlQ P (.refl F) (D:=D) (fun p=>by simp only [if_true]) (fun p b' n' hp=>⟨hoth b' (fun e=>(g5 p _ _ hp).2.2.2.1 _ _ (e ▸ hmi)),fun hn=>hn⟩) _ _ _ g4
     ·rw [Nat.zero_add] at hj
      unfold DE at hy ⊢
      by_cases e:j < i
      ·rw [if_pos e] at hy
       rw [if_pos (by omega)]
       exact zlQ P (.refl F) (fun p=>by simp only [hj,if_false]) (fun p b' n' hp=>⟨hoth b' (fun e=>(g1.dok _ _ _ _ _ hp).2.2.2.2 _ _ (e ▸ hmi)),fun hn=>hn⟩) _ _ _ hy
      ·rw [if_neg e] at hy
       rw [if_neg (by omega)]
       exact hy
  ·cases he
 ·cases he
theorem zxF (c:List Value) (n:Nat):zB c n [] = c:=by unfold zB; simp
theorem zKD {t:TypeId} {id i j:Nat} {pth qth:List Nat} {y:AV} {p q:Value} (hE:EnvOk P G E) (h:Rel P nt F0 w0 st m F a w) (hx:zh P st.h m F (.dp id i pth j qth) p) (hy:zh P st.h m F y q)
 (he:qY E t (.dp id i pth j qth) y st pk = some (v,st')):∃ w',(Instr.storeAt t p q).run P w = .ok () w' ∧ jR P nt F0 w0 st' a F v undef w':=by
 simp only [qY] at he
 split at he
 ·rename_i ρ y' st1 hfz
  obtain ⟨m1,F1,hrel,hrv,hext⟩:=vT hfz h hy
  split at he
  ·rename_i τ xs k ho
   split at he
   ·rename_i σ' ys hz
    split at he
    ·rename_i z hs1
     split at he
     ·rename_i x' hs2
      obtain ⟨h8,h9⟩:=zb he
      cases h9
      obtain ⟨o,ho',hx'⟩:=hx.ext hext
      rw [ho] at ho'
      cases ho'
      obtain ⟨hik,σ,len,off,ρ0,b,n,hlen,hj,hd,hq,rfl⟩:=hx'.2 _ _ _ rfl
      unfold zbS at hlen
      rw [hz] at hlen
      simp only [Option.some.injEq,Prod.mk.injEq] at hlen
      obtain ⟨rfl,rfl⟩:=hlen
      have hdst:=zDw hrel ho
      have hmi:∃ bn,m1 id = some bn:=by
       cases hm:m1 id with
       | none =>
        have:=hrel.drow0 ho hm
        subst this
        have:=(hrel.drowk ho).1
        simp at this
        omega
       | some bn=>exact ⟨bn,rfl⟩
      obtain ⟨⟨b0,n0⟩,hmi⟩:=hmi
      obtain ⟨el,cs,c,d,h1,h2,h3,h4,h5⟩:=hrel.drow ho hmi
      have hkx:=(hrel.drowk ho).1
      have hlt:i < xs.length:=by omega
      have hn:∀ (i:Nat) (x:τ.I) c,DE P F1 w (m1.d id) τ k i x c→c.length = nc τ:=fun i x c h=>DE.length h
      have hxi:xs[i]? = some (xs.getD i (ze τ)):=by simp [List.getD,hlt]
      obtain ⟨c1,hc1,hc2⟩:=z5.get hn xs 0 c h5 i _ hxi
      rw [Nat.zero_add] at hc1
      have hl1:=hc1.length
      unfold DE at hc1
      rw [if_pos hik] at hc1
      obtain ⟨o1,ho1⟩:=zDu hdst hz
      obtain ⟨u,_,_,hds⟩:=zzK hdst hz ho1 hc1
      rw [hd] at hds
      obtain ⟨cap,hcn,hcap,_,el',cs',c',d',k1,k2,k3,k4,k5⟩:=hds
      have hn':∀ (z:σ'.I) c,Rep P F1 σ' z c→c.length = nc σ':=fun z c h=>Rep.length h
      have hyj:ys[j]? = some (List.getD ys j (ze σ')):=by simp [List.getD,hj]
      obtain ⟨c2,hc3,hc4⟩:=RepL.get hn' _ _ k5 j _ hyj
      obtain ⟨e1,e2,e3⟩:=zjq hs1 hq hc3 hrv.1
      have hty:=hE.types t _ (Env.is_spec h8)
      obtain ⟨ii,hi,hsz⟩:=hty.size (Env.is_np h8)
      have hlc:=Rep.length hrv.1
      have hL:=RepL.length hn' _ _ k5
      have hl2:=hn' _ _ hc3
      have hb:j * nc σ' + nc σ' ≤ c'.length:=by
       rw [hL]
       calc j * nc σ' + nc σ' = (j + 1) * nc σ':=by rw [Nat.add_mul]; omega
        _ ≤ List.length ys * nc σ':=Nat.mul_le_mul_right _ (by omega)
      have hcsl:cs'.size = c'.length + d'.length:=by rw [← Array.length_toList,k3]; simp
      have hrun:=zaz (P:=P) (w:=w) (t:=t) (b:=b) (off:=j * nc σ' + off) (q:=q) (by rw [z3 hi,hsz,hlc]) rfl (Rep.one hrv.1) k1 (by omega)
      refine ⟨_,zfO hrun,m1,F1,hext.le,?_,vp⟩
      have hlk:(Obj.drow τ xs k).like (.drow τ (xs.set i x') k):=.inr ⟨by simp [rowTL],Nat.le_refl _,rfl,fun j' pp hj=>by
       by_cases e:i = j'
       ·subst e
        have:(xs.set i x').getD i (ze τ) = x':=by simp [List.getD,hlt]
        rw [this]
        exact zBa hdst hs2 (.inr ⟨σ',List.set ys j z,rfl,by unfold zbS; rw [hz]; simp⟩) pp
       ·have:(xs.set i x').getD j' (ze τ) = xs.getD j' (ze τ):=by simp [List.getD,List.getElem?_set_ne e]
        rw [this]⟩
      have hoth:∀ k',k' ≠ b→(w.setRow b (zB cs'.toList (j * nc σ' + off) q.cells.toList).toArray).heap[k']? = w.heap[k']?:=fun k' hk=>setRow_other w b k' _ hk
      have hb0:b0 ≠ b:=fun e=>(hrel.dok _ _ _ _ _ hd).2.2.2.2 _ _ (e ▸ hmi)
      refine hrel.turnD ho hlk rfl rfl rfl (by simp) (fun _ e=>e) (fun b' _ hb1=>hoth b' (fun e=>hb1 _ _ n (e ▸ hd))) (fun b' n' hb' _=>by rw [hmi] at hb'; cases hb'; exact h4) ?_
      refine ⟨by simpa using hkx,(hrel.drowk ho).2,?_⟩
      rw [hmi]
      refine ⟨el,cs,c,d,by rw [hoth _ hb0]; exact h1,h2,h3,h4,?_⟩
      have hcc:zB c (i * nc τ) c1 = c:=by
       have hLc:=z5.length hn xs 0 c h5
       have hbb:i * nc τ + nc τ ≤ c.length:=by
        rw [hLc]
        calc i * nc τ + nc τ = (i + 1) * nc τ:=by rw [Nat.add_mul]; omega
         _ ≤ xs.length * nc τ:=Nat.mul_le_mul_right _ (by omega)
       have:=zb8 hc2 (off:=0) (new:=[]) (by simp) (by omega)
       rw [zxF,zxF] at this
       exact this
      rw [← hcc]
      refine z5.set hn xs 0 c h5 i x' c1 hlt ?_ hl1 fun j' y' c3 _ hj' hy'=>?_
      ·rw [Nat.zero_add]
       unfold DE
       rw [if_pos hik]
       refine zLF hdst hz hs2 hc1 (fun u hu=>?_) fun q' τ' z' c3 hq' hf=>?_
       ·rw [hd] at hu ⊢
        obtain ⟨cap,g1,g2,g3,_⟩:=hu
        refine ⟨cap,g1,by simpa using g2,by simpa using g3,el',(zB cs'.toList (j * nc σ' + off) q.cells.toList).toArray,zB c' (j * nc σ') (zB c2 off q.cells.toList),d',setRow_heap w b _ _ el' _ k1,?_,?_,k4,RepL.set hn' _ _ k5 j z _ hj e2⟩
        ·have e3':off + q.cells.size ≤ c2.length:=by simpa using e3
         simp only [List.size_toArray]
         rw [jN (by simp; omega)]
         simpa using k2
        ·show zB cs'.toList (j * nc σ' + off) q.cells.toList = _
         rw [k3,zb7 (by omega),zb8 hc4 e3 (by omega)]
       ·exact hf.mono (.refl F1) fun b' n' hb'=>⟨hoth b' (fun e=>hq' (hrel.din _ _ _ _ _ _ _ _ _ (e ▸ hb') hd).2.2),fun hn=>hn⟩
      ·rw [Nat.zero_add] at hj'
       exact hy'.mono (.refl F1) (fun _=>rfl) fun p' b' n' hb'=>⟨hoth b' (fun e=>hj' (hrel.din _ _ _ _ _ _ _ _ _ (e ▸ hb') hd).2.1),fun hn=>hn⟩
     ·cases he
    ·cases he
   ·cases he
  ·cases he
 ·cases he
theorem zHI {t:TypeId} {id:Nat} {pth:List Nat} {av y:AV} {p q:Value}
 (he:(match pth with
  | []=>cond (E.flat t) (match y with
   | .ow i=>cond (j7 st.h i) (pk (.tup []) ⟨st.fr,zf st.h id (.bx (.ow i) false)⟩) none
   | .om i=>cond (j7 st.h i) (pk (.tup []) ⟨st.fr,zf st.h id (.bx (.om i) false)⟩) none
   | .clip τ xs=>pk (.tup []) ⟨st.fr,zf st.h id (.bx (.clip τ xs) false)⟩
   | _=>none) none
  | _=>none) = some (v,st'))
 (hE:EnvOk P G E) (h:Rel P nt F0 w0 st m F a w) (hx:zh P st.h m F (.bp id pth) p) (hy:zh P st.h m F y q)
 (ho:atN st.h id = some (.bx av false)) (hnd:bxT av = none):∃ w',(Instr.storeAt t p q).run P w = .ok () w' ∧ jR P nt F0 w0 st' a F v undef w':=by
 split at he
 ·obtain ⟨h8,h9⟩:=zb he
  obtain ⟨b,n,off,hmi,rfl,hoff⟩:=hx.bpAt ho
  rw [hnd] at hoff
  obtain ⟨_,rfl⟩:=hoff
  obtain ⟨b',n',el,fr,cs,h1,h2,h3,h4⟩:=h.obs id _ ho
  rw [hmi] at h1
  cases h1
  obtain ⟨hFb,rfl⟩:=h4
  have hcs:∃ x,cs = #[x]:=by
   cases av with
   | dat τ y=>cases hnd
   | fld a vs=>cases hnd
   | clip τ xs=>exact ⟨_,h3.choose_spec.1⟩
   | ow id=>exact ⟨_,h3.choose_spec.1⟩
   | om id=>exact ⟨_,h3.choose_spec.1⟩
   | dead =>
    match cs,h3 with
    | ⟨[x]⟩,_=>exact ⟨x,rfl⟩
   | _=>exact h3.elim
  obtain ⟨x0,rfl⟩:=hcs
  have hone:(∃ ad l c,q = .slice ad l c) ∨ (∃ r,q = .map r)→(Instr.storeAt t (.pointer (some ⟨b,0,none⟩)) q).run P w = .ok () (w.setRow b #[q]):=by
   intro hq
   have hq1:q.cells.toList = [q] ∧ q.oneCell' = true:=by rcases hq with ⟨_,_,_,rfl⟩ | ⟨_,rfl⟩ <;> exact ⟨rfl,rfl⟩
   have:=zaz (P:=P) (w:=w) (t:=t) (b:=b) (off:=0) (q:=q) (c:=[q]) (zBb hE h8) hq1.1 (by simpa using hq1.2) h2 (by simp)
   simpa [Instr.storeAt,Instr.sureAddr,zB] using this
  have hfin:∀ (nv:AV),bxT nv = none→((∃ ad l c,q = .slice ad l c) ∨ (∃ r,q = .map r))→z6 P (zf st.h id (.bx nv false)) m F (w.setRow b #[q]) id (.bx nv false)→v = .tup []→st' = ⟨st.fr,zf st.h id (.bx nv false)⟩ →
   ∃ w',(Instr.storeAt t (.pointer (some ⟨b,0,none⟩)) q).run P w = .ok () w' ∧ jR P nt F0 w0 st' a F v undef w':=by
   rintro nv hnv hq hro rfl rfl
   refine ⟨_,hone hq,m,F,.refl F,?_,vp⟩
   exact h.turn (o':=.bx nv false) ho (.inr (hnd.trans hnv.symm)) (fun _=>rfl) rfl rfl rfl (by simp) (fun k hk=>setRow_other w b k _ (fun e=>hk n (e ▸ hmi))) (fun b' n' hb'=>by rw [hmi] at hb'; cases hb'; exact hFb) hro
  have hmono:∀ nv,bxT nv = none→∀ {v:AV} {u:Value},zE P st.h m F v u→zE P (zf st.h id (.bx nv false)) m F v u:=fun nv hnv _ _ hr=>zE.mono (HLe.set ho (show (Obj.bx av false).like (.bx nv false) from .inr (hnd.trans hnv.symm))) (fun _ _ _=>jc.refl _ _ _ _) (.refl F) hr
  split at h9
  ·rename_i i
   obtain ⟨hlive,h9⟩:=zb h9
   cases h9
   have hy':=hmono (.ow i) rfl (show zE P st.h m F (.ow i) q from hy)
   refine hfin (.ow i) rfl ?_ ⟨b,n,el,(0,0),_,hmi,setRow_heap w b _ _ el _ h2,⟨q,rfl,hy'⟩,hFb,rfl⟩ rfl rfl
   obtain ⟨o,τ,len,_,_,hq⟩:=(show zF P st.h m F (.ow i) q from hy).resolve_left (zjr hlive)
   left
   split at hq
   ·obtain ⟨cap,_,_,rfl⟩:=hq; exact ⟨_,_,_,rfl⟩
   ·obtain ⟨_,ad,rfl⟩:=hq; exact ⟨_,_,_,rfl⟩
  ·rename_i i
   obtain ⟨hlive,h9⟩:=zb h9
   cases h9
   have hy':=hmono (.om i) rfl (show zE P st.h m F (.om i) q from hy)
   refine hfin (.om i) rfl ?_ ⟨b,n,el,(0,0),_,hmi,setRow_heap w b _ _ el _ h2,⟨q,rfl,hy'⟩,hFb,rfl⟩ rfl rfl
   obtain ⟨b,n,κ,σ,es,_,_,rfl⟩:=(show zF P st.h m F (.om i) q from hy).resolve_left (zjr hlive)
   exact .inr ⟨_,rfl⟩
  ·rename_i τ xs
   cases h9
   have hy':=hmono (.clip τ xs) rfl (show zE P st.h m F (.clip τ xs) q from hy)
   refine hfin (.clip τ xs) rfl ?_ ⟨b,n,el,(0,0),_,hmi,setRow_heap w b _ _ el _ h2,⟨q,rfl,hy'⟩,hFb,rfl⟩ rfl rfl
   obtain ⟨ad,rfl,_⟩:=(show zF P st.h m F (.clip τ xs) q from hy)
   exact .inl ⟨_,_,_,rfl⟩
  ·cases h9
 ·cases he
theorem zF2 {t:TypeId} {x y:AV} {p q:Value} (hE:EnvOk P G E) (h:Rel P nt F0 w0 st m F a w) (hx:zh P st.h m F x p) (hy:zh P st.h m F y q) (he:qY E t x y st pk = some (v,st')) :
 ∃ w',(Instr.storeAt t p q).run P w = .ok () w' ∧ jR P nt F0 w0 st' a F v undef w':=by
 cases x with
 | dp id i pth j qth=>exact zKD hE h hx hy he
 | rp id i pth =>
  simp only [qY] at he
  split at he
  ·cases hd:E.deep with
   | false=>rw [hd] at he; exact zxD hE h hx hy he
   | true =>
    rw [hd] at he
    simp only [cond] at he
    split at he
    ·exact zxE hE h hx hy he
    ·exact zxE hE h hx hy he
    ·exact zxD hE h hx hy he
  ·split at he
   ·rename_i ρ y' st1 hfz
    obtain ⟨m1,F1,hrel,hrv,hext⟩:=vT hfz h hy
    split at he
    ·rename_i τ xs ho
     split at he
     ·rename_i x' hset
      obtain ⟨h8,h9⟩:=zb he
      cases h9
      obtain ⟨w',g1,g2⟩:=zBd hE hrel (hx.ext hext) ho hset hrv h8
      exact ⟨w',g1,m1,F1,hext.le,g2,vp⟩
     ·cases he
    ·cases he
   ·cases he
 | bp id pth =>
  simp only [qY] at he
  split at he
  ·rename_i τ x fz ho
   cases hd:E.deep with
   | false=>rw [hd] at he; exact zBc hE h hx hy he
   | true =>
    rw [hd] at he
    simp only [cond] at he
    split at he
    ·obtain ⟨hc,he⟩:=zb he
     exact zsJ hE h hx hy ho (zsI.dat hc) he
    ·obtain ⟨hc,he⟩:=zb he
     exact zsJ hE h hx hy ho (zsI.dat hc) he
    ·exact zBc hE h hx hy he
  ·rename_i b vs ho
   exact zsJ hE h hx hy ho (zsI.fld b vs) he
  ·rename_i av hn1 hn2 ho
   refine zHI he hE h hx hy ho ?_
   cases av <;> first | rfl | exact absurd rfl (hn1 _ _) | exact absurd rfl (hn2 _ _)
  ·cases he
 | _=>cases he
end
end Go.Ev
end
section
namespace Go.Ev
open Go.RowKit
theorem za4:∀ {p:List Nat} {τ σ ρ:Ty} {i off o:Nat},qa p τ = some (off,σ)→qa [i] σ = some (o,ρ)→qa (p ++ [i]) τ = some (off + o,ρ):=by
 intro p
 induction p with
 | nil =>
  intro τ σ ρ i off o h1 h2
  simp only [qa,Option.some.injEq,Prod.mk.injEq] at h1
  obtain ⟨rfl,rfl⟩:=h1
  simpa using h2
 | cons j p ih =>
  intro τ σ ρ i off o h1 h2
  cases τ with
  | st a =>
   simp only [qa,Option.bind_eq_some_iff,Option.map_eq_some_iff,Prod.mk.injEq,Prod.exists] at h1
   obtain ⟨o1,τ1,h3,o2,τ2,h4,h5,h6⟩:=h1
   subst h6
   have:=ih h4 h2
   rw [List.cons_append,qa,h3,Option.bind_some]
   simp only [this,Option.map_some]
   rw [← h5,Nat.add_assoc]
  | arr n a =>
   simp only [qa] at h1
   split at h1
   ·rename_i hj
    simp only [Option.map_eq_some_iff,Prod.mk.injEq,Prod.exists] at h1
    obtain ⟨o2,τ2,h4,h5,h6⟩:=h1
    subst h6
    have:=ih h4 h2
    rw [List.cons_append,qa,if_pos hj]
    simp only [this,Option.map_some]
    rw [← h5,Nat.add_assoc]
   ·cases h1
  | _=>simp [qa] at h1
theorem zlR {a σ:Ty} {i o:Nat} (h:jt a i = some (o,σ)):qa [i] (.st a) = some (o,σ):=by
 simp [qa,h]
theorem zqB {a:Ty} {n i:Nat} (h:i < n):qa [i] (.arr n a) = some (i * nc a,a):=by
 simp [qa,h]
theorem At.sub {F:FH} {d:Addr} {cc c:List Value} {o:Nat} (h:At F d cc) (hs:∀ (j:Nat) (u:Value),c[j]? = some u→cc[o + j]? = some u):At F (d.add o) c:=by
 obtain ⟨h1,x,h2,h3⟩:=h
 rw [zqw h1]
 exact ⟨rfl,x,h2,fun j v hj=>by rw [Nat.add_assoc]; exact h3 _ _ (hs j v hj)⟩
theorem zqC:∀ {a:Ty} {x:a.I} {i:Nat} {v:AV},nth a x i = some v→∃ o σ,jt a i = some (o,σ):=by
 intro a
 induction a with
 | pair a b _ ihb =>
  intro x i v h
  cases i with
  | zero=>exact ⟨0,a,rfl⟩
  | succ i=>obtain ⟨o,σ,h1⟩:=ihb (show nth b x.2 i = some v from h); exact ⟨nc a + o,σ,by simp [jt,h1]⟩
 | _=>intro x i v h; simp [nth] at h
theorem zhA:∀ {p:List Nat} {τ:Ty} {x:τ.I} {σ ρ:Ty} {y:σ.I} {off:Nat},zW p τ x = some (.dat σ y)→qa p τ = some (off,ρ)→ρ = σ:=by
 intro p
 induction p with
 | nil =>
  intro τ x σ ρ y off h1 h2
  simp only [zW,Option.some.injEq] at h1
  simp only [qa,Option.some.injEq,Prod.mk.injEq] at h2
  cases h1
  exact h2.2.symm
 | cons i p ih =>
  intro τ x σ ρ y off h1 h2
  cases τ with
  | st a =>
   simp only [zW] at h1
   split at h1
   ·rename_i τ1 z hz
    obtain ⟨o,ho⟩:=zG8 hz
    simp only [qa,ho,Option.bind_some,Option.map_eq_some_iff,Prod.mk.injEq,Prod.exists] at h2
    obtain ⟨o2,τ2,h3,h4,h5⟩:=h2
    subst h5
    exact ih h1 h3
   ·cases h1
  | arr n a =>
   simp only [qa] at h2
   split at h2
   ·simp only [Option.map_eq_some_iff,Prod.mk.injEq,Prod.exists] at h2
    obtain ⟨o2,τ2,h3,h4,h5⟩:=h2
    subst h5
    exact ih (show zW p a _ = _ from h1) h3
   ·cases h2
  | _=>simp [zW] at h1
section
variable {P:Program} {nt:Up} {F0 F G:FH} {w0 w:World} {st st':St} {m:MM} {a:Act} {E:Env} {v:AV} {u:Value}
theorem zeJ {t:TypeId} {c σ:Ty} {i o:Nat} {d:Addr} (h:zY P t (.st c)) (hn:jt c i = some (o,σ)) (hd:d.spot = none) :
 (Instr.fieldAt t (.pointer (some d)) i).run P w = .ok (.pointer (some (d.add o))) w:=by
 obtain ⟨fs,h1,h2,_⟩:=h.st
 obtain ⟨f,h3,h4,h5,h6,h7,_⟩:=zqt h2 hn
 obtain ⟨i',hi,hsz⟩:=h5.size (Ty.np_spec h7)
 have hne:i'.size ≠ 0:=by omega
 unfold Instr.fieldAt
 simp only [Sem.run_bind,zj h1,Result.andThen_ok]
 rw [show fs[i]? = some f by rw [← Array.getElem?_toList]; exact h3]
 simp only [Sem.run_bind,Instr.sureAddr,Sem.run_pure,Result.andThen_ok,fieldPlace,z3 hi,hne,if_false,h4,Nat.zero_add]
theorem znp {t:TypeId} {x:AV} {p:Value} {f:Nat} (hE:EnvOk P G E) (h:Rel P nt F0 w0 st m F a w) (hx:zh P st.h m F x p) (he:qB E t x f st pk = some (v,st')) :
 ∃ u,(Instr.fieldAt t p f).run P w = .ok u w ∧ st' = st ∧ zh P st.h m F v u:=by
 unfold qB at he
 split at he
 ·rename_i c y
  obtain ⟨y,rfl,he⟩:=Option.bind_eq_some_iff.1 he
  obtain ⟨h1,h2⟩:=zb he
  obtain ⟨d,cc,rfl,h3,h4⟩:=hx.ptr
  split at h2
  ·rename_i σ z hz
   cases h2
   obtain ⟨o,σ',y',c',h5,h6,h7,h8⟩:=zuj (a:=c) hz h4
   cases h6
   refine ⟨_,zeJ (hE.types t _ (Env.is_spec h1)) h5 h3.1,rfl,?_⟩
   exact ⟨⟨_,c',rfl,h3.sub h8,h7⟩,rfl⟩
  ·cases h2
 ·rename_i id pth
  split at he
  ·rename_i τ y fz ho
   obtain ⟨b,n,off,hmi,rfl,σ,hσ⟩:=hx.bpAt ho
   split at he
   ·rename_i c z hz
    obtain rfl:=zhA hz hσ
    obtain ⟨h8,h9⟩:=zb he
    split at h9
    ·rename_i nv hnv
     cases h9
     obtain ⟨o',σ',h10⟩:=zqC (a:=c) hnv
     refine ⟨_,zeJ (hE.types t _ (Env.is_spec h8)) h10 rfl,rfl,?_⟩
     exact .inr ⟨b,n,_,off + o',hmi,ho,by rw [qw],σ',za4 hσ (zlR h10)⟩
    ·cases h9
   ·cases he
  ·rename_i bt vs fz ho
   obtain ⟨b,n,off,hmi,rfl,σ,hσ⟩:=hx.bpAt ho
   obtain ⟨b',n',el,fr,cs,h1,h2,h3,h4⟩:=h.obs id _ ho
   split at he
   ·obtain ⟨h8,h9⟩:=zb he
    split at h9
    ·rename_i nv hnv
     cases h9
     obtain ⟨o',σ',c0,h10,_,_⟩:=y8 h3 hnv
     simp only [qa,Option.some.injEq,Prod.mk.injEq] at hσ
     obtain ⟨rfl,rfl⟩:=hσ
     refine ⟨_,zeJ (hE.types t _ (Env.is_spec h8)) h10 rfl,rfl,?_⟩
     exact .inr ⟨b,n,_,0 + o',hmi,ho,by rw [qw],σ',by rw [Nat.zero_add]; exact zlR h10⟩
    ·cases h9
   ·rename_i i pth
    split at he
    ·rename_i σ1 y hv
     obtain ⟨o1,t1,c0,e1,⟨rfl,_⟩,_⟩:=y8 h3 hv
     split at he
     ·rename_i c z hz
      have hσ0:=hσ
      simp only [qa,e1,Option.bind_some,Option.map_eq_some_iff,Prod.mk.injEq,Prod.exists] at hσ
      obtain ⟨o2,σ2,f1,f2,rfl⟩:=hσ
      obtain rfl:=zhA hz f1
      obtain ⟨h8,h9⟩:=zb he
      split at h9
      ·rename_i nv hnv
       cases h9
       obtain ⟨o',σ',h10⟩:=zqC (a:=c) hnv
       refine ⟨_,zeJ (hE.types t _ (Env.is_spec h8)) h10 rfl,rfl,?_⟩
       exact .inr ⟨b,n,_,off + o',hmi,ho,by rw [qw],σ',za4 hσ0 (zlR h10)⟩
      ·cases h9
     ·cases he
    ·cases he
  ·cases he
 ·rename_i id i pth
  have go:∀ (o:Obj) (τ:Ty) (xs:List τ.I),atN st.h id = some o→rowTL o = some (τ,xs.length)→(match zW pth τ (xs.getD i (ze τ)) with
   | some (.dat (.st a) z)=>cond (E.is t (.st a)) (match nth a z f with | some _=>pk (.rp id i (pth ++ [f])) st | none=>none) none
   | _=>none) = some (v,st')→∃ u,(Instr.fieldAt t p f).run P w = .ok u w ∧ st' = st ∧ zh P st.h m F v u:=by
   intro o τ xs ho hT he
   obtain ⟨b,n,off,σ,hmi,hlt,hσ,rfl⟩:=hx.rpAt ho hT
   split at he
   ·rename_i c z hz
    obtain rfl:=zhA hz hσ
    obtain ⟨h8,h9⟩:=zb he
    split at h9
    ·rename_i nv hnv
     cases h9
     obtain ⟨o',σ',h10⟩:=zqC (a:=c) hnv
     refine ⟨_,zeJ (hE.types t _ (Env.is_spec h8)) h10 rfl,rfl,?_⟩
     exact .inr ⟨b,n,o,τ,xs.length,off + o',σ',hmi,ho,hT,hlt,za4 hσ (zlR h10),by rw [qw,Nat.add_assoc]⟩
    ·cases h9
   ·cases he
  split at he
  ·rename_i τ xs fz ho
   exact go _ τ xs ho rfl he
  ·rename_i τ xs k ho
   exact go _ τ xs ho rfl he
  ·cases he
 ·rename_i id i pth j q
  split at he
  ·rename_i τ xs k ho
   obtain ⟨o,ho',hx⟩:=hx
   rw [ho] at ho'
   cases ho'
   obtain ⟨hik,σ,len,off,ρ,b,n,hlen,hj,hd,hq,rfl⟩:=hx.2 _ _ _ rfl
   split at he
   ·rename_i σ' ys hz
    have hlen':=hlen
    unfold zbS at hlen
    rw [hz] at hlen
    simp only [Option.some.injEq,Prod.mk.injEq] at hlen
    obtain ⟨rfl,rfl⟩:=hlen
    split at he
    ·rename_i c z hz2
     obtain rfl:=zhA hz2 hq
     obtain ⟨h8,h9⟩:=zb he
     split at h9
     ·rename_i nv hnv
      cases h9
      obtain ⟨o',ρ',h10⟩:=zqC (a:=c) hnv
      refine ⟨_,zeJ (hE.types t _ (Env.is_spec h8)) h10 rfl,rfl,_,ho,fun e=>(by cases e),fun τ2 xs2 k2 e=>?_⟩
      cases e
      exact ⟨hik,σ',_,off + o',ρ',b,n,hlen',hj,hd,za4 hq (zlR h10),by rw [qw,Nat.add_assoc]⟩
     ·cases h9
    ·cases he
   ·cases he
  ·cases he
 ·cases he
theorem jH {n:Int} {len:Nat} {α:Type} {k:Nat→Option α} {y:α} (h:zcL n len k = some y):∃ i:Nat,n = i ∧ i < len ∧ k i = some y:=by
 unfold zcL at h
 obtain ⟨h1,h2⟩:=zb h
 obtain ⟨h3,h4⟩:=zb h2
 simp only [decide_eq_true_eq] at h1 h3
 exact ⟨n.toNat,by omega,by omega,h4⟩
theorem run_indexAt_slice {t e:TypeId} {i:TypeInfo} {d:Addr} {len cap j:Nat} {k:IntKind} (hu:P.underlying t = some (.slice e)) (hi:P.info? e = some i) (hj:j < len) :
 (Instr.indexAt t (.slice (some d) len cap) (.int k j)).run P w = .ok (.pointer (some (d.add (j * i.size)))) w:=by
 unfold Instr.indexAt
 have h1:(0:Int) ≤ j ∧ (j:Int) < len:=by omega
 simp only [Sem.run_bind,asIntOf,Sem.run_pure,Result.andThen_ok,zj hu,h1,and_self,if_true,z3 hi,Int.toNat_natCast]
theorem run_indexAt_array {t e:TypeId} {i:TypeInfo} {d:Addr} {n j:Nat} {k:IntKind} (hu:P.underlying t = some (.array n e)) (hi:P.info? e = some i) (hj:j < n) :
 (Instr.indexAt t (.pointer (some d)) (.int k j)).run P w = .ok (.pointer (some (d.add (j * i.size)))) w:=by
 unfold Instr.indexAt
 have h1:(0:Int) ≤ j ∧ (j:Int) < n:=by omega
 simp only [Sem.run_bind,asIntOf,Sem.run_pure,Result.andThen_ok,zj hu,Instr.sureAddr,h1,and_self,if_true,z3 hi,Int.toNat_natCast]
theorem zqD {F:FH} {τ:Ty} {xs:List τ.I} {d:Addr} {cc:List Value} {j:Nat} (h1:At F d cc) (h2:RepL (Rep P F τ) xs cc) (hj:j < xs.length) :
 zV P F (.ptr τ) (some (xs.getD j (ze τ))) (.pointer (some (d.add (j * nc τ)))):=by
 have hn:∀ (z:τ.I) c,Rep P F τ z c→c.length = nc τ:=fun z c h=>Rep.length h
 have hxi:xs[j]? = some (xs.getD j (ze τ)):=by simp [List.getD,hj]
 obtain ⟨c1,hc1,hc2⟩:=RepL.get hn _ _ h2 j _ hxi
 exact ⟨⟨_,c1,rfl,h1.sub hc2,hc1⟩,rfl⟩
theorem zDx:∀ {k:Nat} {a:Ty} {j:Nat},zDl k a = true→j < k→∃ σ,jt a j = some (j,σ)
 | 0,_,_,_,h=>by omega
 | k + 1,.pair (.fn x y) b,0,_,_=>⟨.fn x y,rfl⟩
 | k + 1,.pair (.fn x y) b,j + 1,h,hj=>by
  obtain ⟨σ,hs⟩:=zDx (k:=k) (a:=b) (j:=j) h (by omega)
  exact ⟨σ,by simp [jt,hs,nc,Nat.add_comm]⟩
theorem zDy {o:Option Ty} {τ:Ty} (h:o.bind slT = some τ):o = some (.sl τ):=by
 obtain ⟨σ,rfl,h2⟩:=Option.bind_eq_some_iff.1 h
 unfold slT at h2
 split at h2
 ·cases h2; rfl
 ·cases h2
theorem zF.gsAt {id k:Nat} {u:AV} {fz:Bool} {p:Value} (ho:atN st.h id = some (.bx u fz)) (hx:zF P st.h m F (.gs id k) p) :
 ∃ b n a,m id = some (b,n) ∧ bxT u = some (.st a) ∧ zDl k a = true ∧ p = .slice (some ⟨b,0,none⟩) k k:=by
 rcases hx with hg | ⟨b,n,a,u',fz',h1,h2,h3,h4,h5⟩
 ·rw [ho] at hg; cases hg
 ·rw [ho] at h2; cases h2
  exact ⟨b,n,a,h1,h3,h4,h5⟩
theorem znq {t:TypeId} {x y:AV} {p q:Value} (hE:EnvOk P G E) (h:Rel P nt F0 w0 st m F a w) (hx:zh P st.h m F x p) (hy:zh P st.h m F y q) (he:qA E t x y st pk = some (v,st')) :
 ∃ u,(Instr.indexAt t p q).run P w = .ok u w ∧ st' = st ∧ zh P st.h m F v u:=by
 unfold qA at he
 split at he
 ·rename_i τ xs k n
  obtain ⟨h1,h2⟩:=zb he
  obtain ⟨j,rfl,hj,h3⟩:=jH h2
  cases h3
  obtain rfl:=hy.int
  obtain ⟨e,he1,he2,_,hnp⟩:=(hE.types t _ (Env.is_spec h1)).sl
  obtain ⟨i,hi,hsz⟩:=he2.size (Ty.np_spec hnp)
  obtain ⟨ad,cap,rfl,hcap,h4⟩:=hx.sl
  obtain ⟨d,cc,rfl,h5,h6⟩:=h4 (by rintro rfl; simp at hj)
  refine ⟨_,run_indexAt_slice he1 hi hj,rfl,?_⟩
  rw [hsz]
  exact zqD h5 h6 hj
 ·rename_i τ xs k n
  obtain ⟨h1,h2⟩:=zb he
  obtain ⟨j,rfl,hj,h3⟩:=jH h2
  cases h3
  obtain rfl:=hy.int
  obtain ⟨e,he1,he2,_,hnp⟩:=(hE.types t _ (Env.is_spec h1)).sl
  obtain ⟨i,hi,hsz⟩:=he2.size (Ty.np_spec hnp)
  obtain ⟨ad,rfl,h4⟩:=(show zF P st.h m F (.clip τ xs) p from hx)
  obtain ⟨d,cc,rfl,h5,h6⟩:=h4 (by rintro rfl; simp at hj)
  refine ⟨_,run_indexAt_slice he1 hi hj,rfl,?_⟩
  rw [hsz]
  exact zqD h5 h6 hj
 ·rename_i id mm k n
  split at he
  ·rename_i u fz xy ho hT
   obtain ⟨τ,hτ,hf⟩:=Option.bind_eq_some_iff.1 hT
   have hτ:=zDy hτ
   obtain ⟨x,y⟩:=xy
   have hf:=zqx hf
   subst hf
   obtain ⟨j,rfl,hj,h3⟩:=jH he
   cases h3
   obtain rfl:=hy.int
   obtain ⟨e,he1,he2,_,hnp⟩:=(hE.types t _ hτ).sl
   obtain ⟨i,hi,hsz⟩:=he2.size (Ty.np_spec hnp)
   obtain ⟨b,n',a',g1,g2,g3,rfl⟩:=zF.gsAt ho (show zF P st.h m F (.gs id mm) p from hx)
   refine ⟨_,run_indexAt_slice he1 hi hj,rfl,?_⟩
   rw [hsz,qw]
   obtain ⟨σ,hs⟩:=zDx g3 hj
   refine .inr ⟨b,n',.bx u fz,j,g1,ho,by simp [nc],?_⟩
   simp only [g2]
   exact ⟨σ,zlR hs⟩
  ·cases he
 ·rename_i id k n
  have go:∀ (o:Obj) (τ:Ty) (len:Nat),atN st.h id = some o→rowTL o = some (τ,len)→cond (E.is t (.sl τ)) (zcL n len fun n=>pk (.rp id n []) st) none = some (v,st') →
   ∃ u,(Instr.indexAt t p q).run P w = .ok u w ∧ st' = st ∧ zh P st.h m F v u:=by
   intro o τ len ho hT he
   obtain ⟨h1,h2⟩:=zb he
   obtain ⟨j,rfl,hj,h3⟩:=jH h2
   cases h3
   obtain rfl:=hy.int
   obtain ⟨e,he1,he2,_,hnp⟩:=(hE.types t _ (Env.is_spec h1)).sl
   obtain ⟨i,hi,hsz⟩:=he2.size (Ty.np_spec hnp)
   have hu:=hx.owAt ho hT
   cases hmi:m id with
   | none=>rw [hmi] at hu; obtain ⟨rfl,_⟩:=hu; simp at hj
   | some bn =>
    obtain ⟨b,n⟩:=bn
    rw [hmi] at hu
    obtain ⟨cap,_,_,rfl⟩:=hu
    refine ⟨_,run_indexAt_slice he1 hi hj,rfl,?_⟩
    rw [hsz,qw]
    exact .inr ⟨b,n,o,τ,len,0,τ,hmi,ho,hT,hj,rfl,by simp⟩
  split at he
  ·rename_i τ xs fz ho
   exact go _ τ xs.length ho rfl he
  ·rename_i τ xs kk ho
   exact go _ τ xs.length ho rfl he
  ·cases he
 ·rename_i id i pth k n
  split at he
  ·rename_i τ xs kk ho
   obtain ⟨o,ho',hx⟩:=hx
   rw [ho] at ho'
   cases ho'
   obtain ⟨hik,σ,len,hlen,hd⟩:=hx.2 _ _ _ rfl
   split at he
   ·rename_i σ' ys hz
    have hlen':=hlen
    unfold zbS at hlen
    rw [hz] at hlen
    simp only [Option.some.injEq,Prod.mk.injEq] at hlen
    obtain ⟨rfl,rfl⟩:=hlen
    obtain ⟨h1,h2⟩:=zb he
    obtain ⟨j,rfl,hj,h3⟩:=jH h2
    cases h3
    obtain rfl:=hy.int
    obtain ⟨e,he1,he2,_,hnp⟩:=(hE.types t _ (Env.is_spec h1)).sl
    obtain ⟨ii,hi,hsz⟩:=he2.size (Ty.np_spec hnp)
    unfold zsG at hd
    split at hd
    ·rename_i b n hmd
     obtain ⟨cap,_,_,rfl⟩:=hd
     refine ⟨_,run_indexAt_slice he1 hi hj,rfl,_,ho,fun e=>(by cases e),fun τ2 xs2 k2 e=>?_⟩
     cases e
     exact ⟨hik,σ',_,0,σ',b,n,hlen',hj,hmd,rfl,by rw [hsz,qw,Nat.zero_add,Nat.add_zero]⟩
    ·obtain ⟨e,_⟩:=hd
     omega
   ·cases he
  ·cases he
 ·rename_i id i pth k n
  have go:∀ (o:Obj) (τ:Ty) (xs:List τ.I),atN st.h id = some o→rowTL o = some (τ,xs.length)→(match zW pth τ (xs.getD i (ze τ)) with
   | some (.dat (.arr m σ) _)=>cond (E.is t (.arr m σ)) (zcL n m fun n=>pk (.rp id i (pth ++ [n])) st) none
   | _=>none) = some (v,st')→∃ u,(Instr.indexAt t p q).run P w = .ok u w ∧ st' = st ∧ zh P st.h m F v u:=by
   intro o τ xs ho hT he
   obtain ⟨b,nn,off,σ,hmi,hlt,hσ,rfl⟩:=hx.rpAt ho hT
   split at he
   ·rename_i mm ρ z hz
    obtain rfl:=zhA hz hσ
    obtain ⟨h8,h9⟩:=zb he
    obtain ⟨j,rfl,hj,h10⟩:=jH h9
    cases h10
    obtain rfl:=hy.int
    obtain ⟨e,he1,he2,_,hnp,_⟩:=(hE.types t _ (Env.is_spec h8)).arr
    obtain ⟨ii,hi,hsz⟩:=he2.size (Ty.np_spec hnp)
    refine ⟨_,run_indexAt_array he1 hi hj,rfl,?_⟩
    exact .inr ⟨b,nn,o,τ,xs.length,off + j * nc ρ,ρ,hmi,ho,hT,hlt,za4 hσ (zqB hj),by rw [qw,hsz,Nat.add_assoc]⟩
   ·cases he
  split at he
  ·rename_i τ xs fz ho
   exact go _ τ xs ho rfl he
  ·rename_i τ xs kk ho
   exact go _ τ xs ho rfl he
  ·cases he
 ·rename_i id i pth j0 q0 k n
  split at he
  ·rename_i τ xs kk ho
   obtain ⟨o,ho',hx⟩:=hx
   rw [ho] at ho'
   cases ho'
   obtain ⟨hik,σ,len,off,ρ,b,nn,hlen,hj0,hd,hq,rfl⟩:=hx.2 _ _ _ rfl
   split at he
   ·rename_i σ' ys hz
    have hlen':=hlen
    unfold zbS at hlen
    rw [hz] at hlen
    simp only [Option.some.injEq,Prod.mk.injEq] at hlen
    obtain ⟨rfl,rfl⟩:=hlen
    split at he
    ·rename_i mm ρ' z hz2
     obtain rfl:=zhA hz2 hq
     obtain ⟨h8,h9⟩:=zb he
     obtain ⟨j,rfl,hj,h10⟩:=jH h9
     cases h10
     obtain rfl:=hy.int
     obtain ⟨e,he1,he2,_,hnp,_⟩:=(hE.types t _ (Env.is_spec h8)).arr
     obtain ⟨ii,hi,hsz⟩:=he2.size (Ty.np_spec hnp)
     refine ⟨_,run_indexAt_array he1 hi hj,rfl,_,ho,fun e=>(by cases e),fun τ2 xs2 k2 e=>?_⟩
     cases e
     exact ⟨hik,σ',_,off + j * nc ρ',ρ',b,nn,hlen',hj0,hd,za4 hq (zqB hj),by rw [qw,hsz,Nat.add_assoc]⟩
    ·cases he
   ·cases he
  ·cases he
 ·rename_i n τ xs k i
  obtain ⟨xs,rfl,he⟩:=Option.bind_eq_some_iff.1 he
  obtain ⟨h1,h2⟩:=zb he
  obtain ⟨j,rfl,hj,h3⟩:=jH h2
  cases h3
  obtain rfl:=hy.int
  obtain ⟨e,he1,he2,_,hnp,_⟩:=(hE.types t _ (Env.is_spec h1)).arr
  obtain ⟨i,hi,hsz⟩:=he2.size (Ty.np_spec hnp)
  obtain ⟨d,cc,rfl,h5,hl,h6⟩:=hx.ptr
  refine ⟨_,run_indexAt_array he1 hi hj,rfl,?_⟩
  rw [hsz]
  exact zqD h5 h6 (by omega)
 ·rename_i id pth k n
  split at he
  ·rename_i τ y fz ho
   obtain ⟨b,nn,off,hmi,rfl,σ,hσ⟩:=hx.bpAt ho
   split at he
   ·rename_i mm ρ z hz
    obtain rfl:=zhA hz hσ
    obtain ⟨h8,h9⟩:=zb he
    obtain ⟨j,rfl,hj,h10⟩:=jH h9
    cases h10
    obtain rfl:=hy.int
    obtain ⟨e,he1,he2,_,hnp,_⟩:=(hE.types t _ (Env.is_spec h8)).arr
    obtain ⟨i,hi,hsz⟩:=he2.size (Ty.np_spec hnp)
    refine ⟨_,run_indexAt_array he1 hi hj,rfl,?_⟩
    exact .inr ⟨b,nn,_,off + j * nc ρ,hmi,ho,by rw [qw,hsz],ρ,za4 hσ (zqB hj)⟩
   ·cases he
  ·rename_i bt vs fz ho
   obtain ⟨b,nn,off,hmi,rfl,σ,hσ⟩:=hx.bpAt ho
   obtain ⟨b',n',el,fr,cs,h1,h2,h3,h4⟩:=h.obs id _ ho
   split at he
   ·rename_i f pth
    split at he
    ·rename_i σ1 y hv
     obtain ⟨o1,t1,c0,e1,⟨rfl,_⟩,_⟩:=y8 h3 hv
     split at he
     ·rename_i mm ρ z hz
      have hσ0:=hσ
      simp only [qa,e1,Option.bind_some,Option.map_eq_some_iff,Prod.mk.injEq,Prod.exists] at hσ
      obtain ⟨o2,σ2,f1,f2,rfl⟩:=hσ
      obtain rfl:=zhA hz f1
      obtain ⟨h8,h9⟩:=zb he
      obtain ⟨j,rfl,hj,h10⟩:=jH h9
      cases h10
      obtain rfl:=hy.int
      obtain ⟨e,he1,he2,_,hnp,_⟩:=(hE.types t _ (Env.is_spec h8)).arr
      obtain ⟨i,hi,hsz⟩:=he2.size (Ty.np_spec hnp)
      refine ⟨_,run_indexAt_array he1 hi hj,rfl,?_⟩
      exact .inr ⟨b,nn,_,off + j * nc ρ,hmi,ho,by rw [qw,hsz],ρ,za4 hσ0 (zqB hj)⟩
     ·cases he
    ·cases he
   ·cases he
  ·cases he
 ·cases he
theorem zF3 {t:TypeId} {x y:AV} {p q:Value} (hE:EnvOk P G E) (hx:zh P st.h m F x p) (hy:zh P st.h m F y q) (he:zfI E t x y st pk = some (v,st')) :
 ∃ u,(Instr.index t p q).run P w = .ok u w ∧ st' = st ∧ zh P st.h m F v u:=by
 unfold zfI at he
 split at he
 ·rename_i n τ xs k i
  obtain ⟨h1,h2⟩:=zb he
  obtain ⟨j,rfl,hj,h3⟩:=jH h2
  obtain ⟨rfl,rfl⟩:=jG h3
  obtain rfl:=hy.int
  obtain ⟨e,he1,he2,_,hnp,_⟩:=(hE.types t _ (Env.is_spec h1)).arr
  obtain ⟨i,hi,hsz⟩:=he2.size (Ty.np_spec hnp)
  obtain ⟨cs,rfl,hl,h4⟩:=hx.agg rfl
  have hn:∀ (z:τ.I) c,Rep P F τ z c→c.length = nc τ:=fun z c h=>Rep.length h
  have hxi:xs[j]? = some (xs.getD j (ze τ)):=by
   have:j < xs.length:=by omega
   simp [List.getD,this]
  obtain ⟨c1,hc1,hc2⟩:=RepL.get hn _ _ h4 j _ hxi
  obtain ⟨u,h5,h6⟩:=zfd (w:=w) he2 (Ty.np_spec hnp) hc1 (cs:=cs) (o:=j * nc τ) hc2
  refine ⟨u,?_,rfl,h6⟩
  unfold Instr.index
  have h7:(0:Int) ≤ j ∧ (j:Int) < n:=by omega
  simp only [Sem.run_bind,asIntOf,Sem.run_pure,Result.andThen_ok,zj he1,h7,and_self,if_true,z3 hi,Int.toNat_natCast,hsz]
  exact h5
 ·rename_i s k i
  obtain ⟨h1,h2⟩:=zb he
  obtain ⟨j,rfl,hj,h3⟩:=jH h2
  cases h3
  obtain rfl:=hy.int
  obtain rfl:=hx.str
  have hty:=hE.types t _ (Env.is_spec h1)
  have hu:P.underlying t = some .string:=by
   simp only [zY,tyB,Bool.and_eq_true] at hty
   have h:=hty.2
   split at h
   ·rename_i he; exact he
   ·cases h
  refine ⟨.int .u8 _,?_,rfl,.mkInt⟩
  unfold Instr.index
  have h7:(0:Int) ≤ j:=by omega
  simp only [Sem.run_bind,asIntOf,Sem.run_pure,Result.andThen_ok,zj hu,h7,if_true,Int.toNat_natCast]
  have h8:(s:ByteArray)[j]? = some (s[j]'hj):=getElem?_pos s j hj
  rw [h8]
  simp only [Sem.run_pure]
  congr 2
  obtain ⟨⟨l⟩⟩:=s
  have:j < l.length:=hj
  simp [List.getD,this]
  rfl
 ·cases he
end
end Go.Ev
end
section
namespace Go.Ev
open Go.RowKit
theorem zsK {z v:Value} (h:z.cells.toList = [v]) (ha:isAggV z = false):z = v:=by
 cases z <;> first | (cases ha; done) | (simpa [Value.cells] using h)
theorem zY.sl_zero {P:Program} {t:TypeId} {a:Ty} (h:zY P t (.sl a)):∃ i,P.info? t = some i ∧ i.zero = some (.slice none 0 0):=by
 have hh:=h.head (by intro a b e; cases e)
 unfold zbJ at hh
 split at hh
 ·rename_i i hi
  simp only [Bool.and_eq_true] at hh
  obtain ⟨_,h3⟩:=hh
  split at h3
  ·rename_i z hz
   simp only [Bool.and_eq_true,beq_iff_eq] at h3
   obtain ⟨h4,h5⟩:=h3
   split at h5
   ·rename_i hzc
    obtain ⟨v,hv,hq⟩:=zca hzc
    have hv':z.cells.toList = [v]:=hv
    refine ⟨i,hi,?_⟩
    split at hq
    ·rw [hz,zsK hv' h4]
    ·cases hq
   ·cases h5
  ·cases h3
 ·cases hh
section
variable {P:Program} {nt:Up} {F0 F G:FH} {w0 w:World} {st st':St} {m:MM} {a:Act} {E:Env} {v:AV} {u:Value}
theorem zKE (w:World) (o:Go.Obj):(w.alloc o).heap[w.heap.size]? = some o:=by
 show (w.heap.push o)[w.heap.size]? = some o
 simp
theorem zdT {nv:AV} {cs:Array Value} {el:TypeId} (h:Rel P nt F0 w0 st m F a w)
 (hb:match nv with
  | .dat τ x=>Rep P F τ x cs.toList
  | .fld b vs=>zX P st.h m F b vs cs.toList
  | .clip τ xs=>∃ u,cs = #[u] ∧ zE P st.h m F (.clip τ xs) u
  | .ow id=>∃ u,cs = #[u] ∧ zE P st.h m F (.ow id) u
  | _=>False) :
 Rel P nt F0 w0 ⟨st.fr,st.h ++ [.bx nv false]⟩ (m.put st.h.length (w.heap.size,cs.size)) F a (w.alloc (.cells cs el)) ∧
 zh P (st.h ++ [.bx nv false]) (m.put st.h.length (w.heap.size,cs.size)) F (.bp st.h.length []) (.pointer (some ⟨w.heap.size,0,none⟩)):=by
 have hm:(m.put st.h.length (w.heap.size,cs.size)) st.h.length = some (w.heap.size,cs.size):=by simp [MM.put]
 have hmm:∀ j o,atN st.h j = some o→jc (st.h ++ [.bx nv false]) m (m.put st.h.length (w.heap.size,cs.size)) j o:=fun j o hj=>by
  have:=je hj
  exact ⟨by simp only [MM.put]; rw [if_neg (by omega)],fun _ _ _ _=>rfl⟩
 have hmono:∀ {x:AV} {u:Value},zE P st.h m F x u→zE P (st.h ++ [.bx nv false]) (m.put st.h.length (w.heap.size,cs.size)) F x u:=fun hx=>zE.mono (HLe.append _ _) hmm (.refl F) hx
 refine ⟨h.alloc (ob:=.cells cs el) rfl rfl rfl rfl ⟨_,_,el,(0,0),cs,hm,zKE w _,?_,h.noF,rfl⟩,?_⟩
 ·cases nv with
  | dat τ x=>exact hb
  | fld b vs=>exact zX.mono' (HLe.append _ _) (fun j o hj _=>hmm j o hj) (.refl F) hb
  | clip τ xs=>obtain ⟨u,e,hu⟩:=hb; exact ⟨u,e,hmono hu⟩
  | ow id=>obtain ⟨u,e,hu⟩:=hb; exact ⟨u,e,hmono hu⟩
  | _=>exact hb.elim
 ·refine .inr ⟨w.heap.size,cs.size,.bx nv false,0,hm,ju _ _,rfl,?_⟩
  cases nv with
  | dat τ x=>exact ⟨τ,rfl⟩
  | fld b vs=>exact ⟨.st b,rfl⟩
  | clip τ xs=>exact ⟨rfl,rfl⟩
  | ow id=>exact ⟨rfl,rfl⟩
  | _=>exact hb.elim
theorem zqE (τ:Ty) (xs:List τ.I):rowTL (qQ τ xs) = some (τ,xs.length):=by
 unfold qQ
 cases τ.deep <;> rfl
theorem zLH {h:List Obj} {i:Nat} {τ:Ty} {xs:List τ.I} (ho:atN h i = some (qQ τ xs)):zbg h i = some τ:=by
 unfold zbg
 rw [ho]
 unfold qQ
 cases τ.deep <;> rfl
theorem zBg {h:List Obj} {i b:Nat} {τ:Ty} {xs:List τ.I} {cs:Array Value} {el:TypeId} {c d:List Value} (hm:m i = some (b,cs.size)) (hw:w.heap[b]? = some (.cells cs el)) (hc:cs.toList = c ++ d) (hr:RepL (Rep P F τ) xs c) (hF:F b = none) :
 z6 P h m F w i (qQ τ xs):=by
 unfold qQ
 cases hd:τ.deep with
 | false =>
  simp only [cond_false,z6,hm]
  exact ⟨el,(0,0),cs,c,d,hw,rfl,hc,hr,hF,rfl⟩
 | true =>
  simp only [cond_true,z6,hm]
  exact ⟨Nat.zero_le _,hd,el,cs,c,d,hw,rfl,hc,hF,z5.ofL (fun j x c _ hx=>by unfold DE; rw [if_neg (by omega)]; exact hx) hr⟩
theorem zHJ {h:List Obj} {i:Nat} {τ:Ty} (hm:m i = none):z6 P h m F w i (qQ τ []):=by
 unfold qQ
 cases hd:τ.deep with
 | false=>simp only [cond_false,z6,hm]
 | true=>simp only [cond_true,z6,hm]; exact ⟨Nat.zero_le _,hd,trivial⟩
theorem Ext.put (h:Rel P nt F0 w0 st m F a w) (o:Obj) (b:Nat × Nat):Ext st.h (st.h ++ [o]) m (m.put st.h.length b) F F :=
 ⟨HLe.append _ _,fun j u hj _=>⟨by have:=je hj; simp only [MM.put]; rw [if_neg (by omega)],fun _ _ _ _=>rfl⟩,.refl F⟩
theorem znr {τ:Ty} {xs:List τ.I} {cs:Array Value} {el:TypeId} {c d:List Value} {cap:Nat} (h:Rel P nt F0 w0 st m F a w) (hc:cs.toList = c ++ d) (hr:RepL (Rep P F τ) xs c) (hn:cs.size = cap * nc τ) (hcap:xs.length ≤ cap) {w':World}
 (hos:w'.os = w.os) (htape:w'.tape = w.tape) (hout:w'.output = w.output) (hheap:w'.heap = w.heap.push (.cells cs el)) :
 Rel P nt F0 w0 ⟨st.fr,st.h ++ [qQ τ xs]⟩ (m.put st.h.length (w.heap.size,cs.size)) F a w' ∧
 zh P (st.h ++ [qQ τ xs]) (m.put st.h.length (w.heap.size,cs.size)) F (.ow st.h.length) (.slice (some ⟨w.heap.size,0,none⟩) xs.length cap):=by
 have hm:(m.put st.h.length (w.heap.size,cs.size)) st.h.length = some (w.heap.size,cs.size):=by simp [MM.put]
 have hw:w'.heap[w.heap.size]? = some (.cells cs el):=by rw [hheap]; simp
 constructor
 ·exact h.alloc hos htape hout hheap (zBg hm hw hc hr h.noF)
 ·refine .inr ⟨_,τ,xs.length,ju _ _,zqE _ _,?_⟩
  rw [hm]
  exact ⟨cap,hn,hcap,rfl⟩
theorem zfP (τ:Ty) (ad:Option Addr) (h:Rel P nt F0 w0 st m F a w) :
 Rel P nt F0 w0 ⟨st.fr,st.h ++ [qQ τ []]⟩ m F a w ∧ zh P (st.h ++ [qQ τ []]) m F (.ow st.h.length) (.slice ad 0 0) ∧ Ext st.h (st.h ++ [qQ τ []]) m m F F:=by
 have hm:=h.fresh
 have hh:HLe st.h (st.h ++ [qQ τ []]):=HLe.append _ _
 have hS:∀ j u,atN st.h j = some u→jc (st.h ++ [qQ τ []]) m m j u:=fun _ _ _=>jc.refl _ _ _ _
 refine ⟨⟨h.nt,fun t v ht=>(h.fr t v ht).mono hh hS (.refl F),fun v u hv=>(h.up v u hv).mono hh hS (.refl F),h.lo,fun j u hu=>?_,h.inj,fun j b n hj=>?_,fun i j p b n hp=>?_,h.din,h.fok,h.gro,h.bel,h.dfr⟩,.inr ⟨_,τ,0,ju _ _,zqE _ _,?_⟩,hh,fun j u hu _=>hS j u hu,.refl F⟩
 ·by_cases e:j = st.h.length
  ·subst e
   rw [ju] at hu
   cases hu
   exact zHJ hm
  ·have hu':=zv1 hu e
   exact (h.obs j u hu').mono hh hS (.refl F) hu' hu (fun b n hb=>rfl) (fun _ _ _ hn=>hn) (fun _ _ _ _ _ _=>⟨rfl,fun hn=>hn⟩)
 ·have:=h.rng _ _ _ hj
  simp only [List.length_append]
  omega
 ·obtain ⟨⟨u,h1,h2⟩,h3⟩:=h.dok _ _ _ _ _ hp
  exact ⟨⟨u,by rw [vS (je h1)]; exact h1,h2⟩,h3⟩
 ·rw [hm]
  exact ⟨rfl,ad,rfl⟩
theorem zqF:∀ {b:Ty} {st:St} {vs:List AV} {h':List Obj} {l r:List Value},b.chn = true→jZ st.h b = (vs,h')→zcB b l = some r→Rel P nt F0 w0 st m F a w →
 ∃ c,l = c ++ r ∧ Rel P nt F0 w0 ⟨st.fr,h'⟩ m F a w ∧ Ext st.h h' m m F F ∧ zX P h' m F b vs c:=by
 intro b
 induction b with
 | unit =>
  intro st vs h' l r _ hz hc h
  cases hz
  simp only [zcB,Option.some.injEq] at hc
  exact ⟨[],by simp [hc],h,.refl _ _ _,rfl⟩
 | pair t b _ ihb =>
  intro st vs h' l r hch hz hc h
  simp only [zcB,Option.bind_eq_some_iff] at hc
  obtain ⟨l1,hc1,hc2⟩:=hc
  have other:∀ vs1 h1,jZ st.h b = (vs1,h1)→∃ c,l = c ++ r ∧ Rel P nt F0 w0 ⟨st.fr,h1⟩ m F a w ∧ Ext st.h h1 m m F F ∧ zX P h1 m F (.pair t b) (.dat t (ze t) :: vs1) c:=by
   intro vs1 h1 hz1
   obtain ⟨c1,rfl,g1⟩:=zDq P F t l l1 hc1
   obtain ⟨c2,rfl,g2,g3,g4⟩:=ihb (st:=st) hch hz1 hc2 h
   exact ⟨c1 ++ c2,by rw [List.append_assoc],g2,g3,c1,c2,rfl,⟨rfl,g1⟩,g4⟩
  cases t with
  | sl σ =>
   simp only [jZ] at hz
   obtain ⟨x,rfl,hx⟩:=zca hc1
   split at hx
   ·obtain ⟨k1,k2,k3⟩:=zfP σ none h
    obtain ⟨c2,rfl,g2,g3,g4⟩:=ihb (st:=⟨st.fr,st.h ++ [qQ σ []]⟩) (vs:=(jZ (st.h ++ [qQ σ []]) b).1) (h':=(jZ (st.h ++ [qQ σ []]) b).2) hch rfl hc2 k1
    cases hz
    refine ⟨.slice none 0 0 :: c2,rfl,g2,k3.trans g3,[.slice none 0 0],c2,rfl,?_,g4⟩
    refine ⟨σ,_,rfl,rfl,k2.ext g3,?_,none,0,0,rfl⟩
    obtain ⟨o,ho,hl⟩:=g3.hh _ _ (ju _ _)
    rcases hl with rfl | hl
    ·exact .inl ho
    ·right
     have:=hl.rowTL
     rw [zqE] at this
     unfold zbg
     rw [ho]
     cases o with
     | row _ _ _=>simp only [rowTL,Option.some.injEq,Prod.mk.injEq] at this; simp [this.1]
     | drow _ _ _=>simp only [rowTL,Option.some.injEq,Prod.mk.injEq] at this; simp [this.1]
     | _=>cases this
   ·cases hx
  | _ =>
   simp only [jZ] at hz
   cases hz
   exact other _ _ rfl
 | _=>intro st vs h' l r hch; cases hch
theorem zlw (t:TypeId) (z:Value):(newVar t z).run P w = .ok ⟨w.heap.size,0,none⟩ (w.alloc (.cells z.cells t)):=by
 unfold newVar newRow
 simp
theorem zrq {e:TypeId} {τ:Ty} (hE:EnvOk P G E) (h:Rel P nt F0 w0 st m F a w) (ht:qm E.types e = some τ) (hp:∀ a b,τ ≠ .pair a b) (hs:∀ a,τ ≠ .sl a) (he:zam (.dat τ (ze τ)) st pk = some (v,st')) :
 ∃ u w',(Instr.alloc e true (.tuple #[])).run P w = .ok u w' ∧ jR P nt F0 w0 st' a F v u w':=by
 cases he
 obtain ⟨i,z,h1,h2,h3,h4,h5⟩:=jQ ((hE.types e τ ht).head hp)
 obtain ⟨h6,h7⟩:=zdT (nv:=.dat τ (ze τ)) (cs:=z.cells) (el:=e) h (h5 F).1
 refine ⟨_,_,?_,_,F,.refl F,h6,h7⟩
 unfold Instr.alloc
 simp only [Sem.run_bind,qC h1 h4,Result.andThen_ok,zlw,Sem.run_pure]
theorem zHK {e:TypeId} {τ:Ty} (hE:EnvOk P G E) (h:Rel P nt F0 w0 st m F a w) (ht:qm E.types e = some (.sl τ)) (he:zam (.ow st.h.length) ⟨st.fr,st.h ++ [qQ τ []]⟩ pk = some (v,st')) :
 ∃ u w',(Instr.alloc e true (.tuple #[])).run P w = .ok u w' ∧ jR P nt F0 w0 st' a F v u w':=by
 cases he
 obtain ⟨i,h1,h4⟩:=(hE.types e _ ht).sl_zero
 obtain ⟨g1,g2,g3⟩:=zfP τ none h
 obtain ⟨h6,h7⟩:=zdT (nv:=.ow st.h.length) (cs:=#[.slice none 0 0]) (el:=e) g1 ⟨_,rfl,g2⟩
 refine ⟨_,_,?_,_,F,.refl F,h6,h7⟩
 unfold Instr.alloc
 simp only [Sem.run_bind,qC h1 h4,Result.andThen_ok,zlw,Sem.run_pure]
 rfl
theorem zv5 {P:Program} {t:TypeId} {τ:Ty} (h:zbJ P t τ = true):∃ i z,P.info? t = some i ∧ i.zero = some z ∧ zcB τ z.cells.toList = some [] ∧ isAggV z = τ.agg:=by
 unfold zbJ at h
 split at h
 ·rename_i i hi
  simp only [Bool.and_eq_true] at h
  obtain ⟨_,h3⟩:=h
  split at h3
  ·rename_i z hz
   simp only [Bool.and_eq_true,beq_iff_eq] at h3
   obtain ⟨h4,h5⟩:=h3
   split at h5
   ·rename_i hzc
    exact ⟨i,z,hi,hz,hzc,h4⟩
   ·cases h5
  ·cases h3
 ·cases h
theorem zHL {e:TypeId} {b:Ty} (hE:EnvOk P G E) (h:Rel P nt F0 w0 st m F a w) (ht:qm E.types e = some (.st b)) (he:(match jZ st.h b with | (vs,h)=>zam (.fld b vs) ⟨st.fr,h⟩ pk) = some (v,st')) :
 ∃ u w',(Instr.alloc e true (.tuple #[])).run P w = .ok u w' ∧ jR P nt F0 w0 st' a F v u w':=by
 split at he
 rename_i vs h1 hz
 cases he
 have hty:=hE.types e _ ht
 obtain ⟨i,z,g1,g2,g3,_⟩:=zv5 (hty.head (by intro a b e; cases e))
 obtain ⟨c,k1,k2,k3,k4⟩:=zqF hty.chn hz (show zcB b z.cells.toList = some [] from g3) h
 rw [List.append_nil] at k1
 obtain ⟨h6,h7⟩:=zdT (nv:=.fld b vs) (cs:=z.cells) (el:=e) k2 (by rw [k1]; exact k4)
 refine ⟨_,_,?_,_,F,.refl F,h6,h7⟩
 unfold Instr.alloc
 simp only [Sem.run_bind,qC g1 g2,Result.andThen_ok,zlw,Sem.run_pure]
theorem zup (e:TypeId) (q:Value):(Instr.box e q).run P w = .ok (.pointer (some ⟨w.heap.size,0,none⟩)) (w.alloc (.cells q.cells e)):=by
 unfold Instr.box
 simp only [Sem.run_bind,zlw,Result.andThen_ok,Sem.run_pure]
theorem zha {place:Nat→Option (Nat × Nat)} {cells:Array Value} {i off size:Nat} {q:Value} {rest:List (Nat × Value)} (hp:place i = some (off,size)) (hs:q.cells.size = size) (hl:off + q.cells.size ≤ cells.size) :
 Instr.fill place cells ((i,q) :: rest) = Instr.fill place (zB cells.toList off q.cells.toList).toArray rest:=by
 have:¬ (q.cells.size ≠ size ∨ off + q.cells.size > cells.size):=by omega
 simp only [Instr.fill,hp,hs,ne_eq,not_true_eq_false,decide_false,Bool.false_or,decide_eq_true_eq]
 rw [if_neg (by omega)]
 congr 1
 have key:∀ (l:List Value) (k:Nat) (cs:Array Value),off + k + l.length ≤ cs.size→(l.zipIdx k).foldl (fun cs (p:Value × Nat)=>cs.setIfInBounds (off + p.2) p.1) cs = (zB cs.toList (off + k) l).toArray:=by
  intro l
  induction l with
  | nil=>intro k cs h; simp [zB]
  | cons x l ih =>
   intro k cs h
   simp only [List.zipIdx_cons,List.foldl_cons]
   rw [ih (k + 1) _ (by simp at h ⊢; omega)]
   congr 1
   apply List.ext_getElem?
   intro j
   simp at h
   rw [zfM (by simp; omega),zfM (by simp; omega)]
   simp only [Array.toList_setIfInBounds,List.length_cons]
   by_cases h1:off + (k + 1) ≤ j ∧ j < off + (k + 1) + l.length
   ·rw [if_pos h1,if_pos (by omega),show j - (off + k) = (j - (off + (k + 1))) + 1 by omega,List.getElem?_cons_succ]
   ·rw [if_neg h1]
    by_cases h2:j = off + k
    ·subst h2
     rw [if_pos (by omega),List.getElem?_set_self (by simp; omega)]
     simp
    ·rw [if_neg (by omega),List.getElem?_set_ne (by omega)]
 have:=key q.cells.toList 0 cells (by simp; omega)
 rw [Nat.add_zero] at this
 rw [← this,← Array.foldl_toList,Array.toList_zipIdx]
def zjZ (P:Program) (h:List Obj) (m:MM) (F:FH):List (Nat × Option AV)→List (Nat × Value)→Prop
 | [],us=>us = []
 | (i,some v) :: ps,us=>∃ u r,us = (i,u) :: r ∧ zh P h m F v u ∧ zjZ P h m F ps r
 | (_,none) :: _,_=>False
theorem zjZ.ext {h h':List Obj} {m m':MM} {F F':FH} (e:Ext h h' m m' F F'):∀ {ps:List (Nat × Option AV)} {us:List (Nat × Value)},zjZ P h m F ps us→zjZ P h' m' F' ps us
 | [],_,e=>e
 | (_,some _) :: _,_,⟨u,r,e',h1,h2⟩=>⟨u,r,e',h1.ext e,zjZ.ext e h2⟩
 | (_,none) :: _,_,hps=>hps.elim
theorem zxG {q:Bool} {c:Ty} {place:Nat→Option (Nat × Nat)} (hplace:∀ i o σ,jt c i = some (o,σ)→place i = some (o,nc σ)) :
 ∀ {ps:List (Nat × Option AV)} {us:List (Nat × Value)} {x x':(Ty.st c).I} {st st':St} {m:MM} {F:FH} {cells:Array Value},za8 q (.st c) x ps st = some (x',st')→Rel P nt F0 w0 st m F a w→zjZ P st.h m F ps us→Rep P F (.st c) x cells.toList →
  ∃ m' F' cells',Ext st.h st'.h m m' F F' ∧ Rel P nt F0 w0 st' m' F' a w ∧ Instr.fill place cells us = some cells' ∧ Rep P F' (.st c) x' cells'.toList
 | [],us,x,x',st,st',m,F,cells,he,h,hps,hr=>by
  cases he
  cases hps
  exact ⟨m,F,cells,.refl _ _ _,h,rfl,hr⟩
 | (i,none) :: ps,us,x,x',st,st',m,F,cells,he,h,hps,hr=>hps.elim
 | (i,some v) :: ps,us,x,x',st,st',m,F,cells,he,h,hps,hr=>by
  obtain ⟨u,r,rfl,h1,h2⟩:=hps
  simp only [za8] at he
  split at he
  ·rename_i σ y st1 hz
   obtain ⟨m1,F1,e2,e3,e4⟩:=vT hz h h1
   split at he
   ·rename_i x1 hs
    have hr':Rep P F1 c x cells.toList:=Rep.mono (τ:=c) e4.le hr
    obtain ⟨o,f1,f2,f3⟩:=zxs (P:=P) (F:=F1) (a:=c) hs hr' e3.1
    obtain ⟨m2,F2,cells',g1,g2,g3,g4⟩:=zxG hplace (cells:=(zB cells.toList o u.cells.toList).toArray) he e2 (h2.ext e4) (show Rep P F1 (.st c) x1 _ by rw [List.toList_toArray]; exact f2)
    have hl:=Rep.length e3.1
    refine ⟨m2,F2,cells',e4.trans g1,g2,?_,g4⟩
    rw [zha (hplace _ _ _ f1) (by simpa using hl) (by simpa using f3)]
    exact g3
   ·cases he
  ·cases he
theorem zvh {q:Bool} {n:Nat} {c:Ty} :
 ∀ {ps:List (Nat × Option AV)} {us:List (Nat × Value)} {x x':(Ty.arr n c).I} {st st':St} {m:MM} {F:FH} {cells:Array Value},za8 q (.arr n c) x ps st = some (x',st')→Rel P nt F0 w0 st m F a w→zjZ P st.h m F ps us→Rep P F (.arr n c) x cells.toList →
  ∃ m' F' cells',Ext st.h st'.h m m' F F' ∧ Rel P nt F0 w0 st' m' F' a w ∧ Instr.fill (fun i=>some (i * nc c,nc c)) cells us = some cells' ∧ Rep P F' (.arr n c) x' cells'.toList
 | [],us,x,x',st,st',m,F,cells,he,h,hps,hr=>by
  cases he
  cases hps
  exact ⟨m,F,cells,.refl _ _ _,h,rfl,hr⟩
 | (i,none) :: ps,us,x,x',st,st',m,F,cells,he,h,hps,hr=>hps.elim
 | (i,some v) :: ps,us,x,x',st,st',m,F,cells,he,h,hps,hr=>by
  obtain ⟨u,r,rfl,h1,h2⟩:=hps
  simp only [za8] at he
  split at he
  ·rename_i σ y st1 hz
   obtain ⟨m1,F1,e2,e3,e4⟩:=vT hz h h1
   split at he
   ·rename_i x1 hs
    split at hs
    ·rename_i y' hc
     obtain ⟨rfl,rfl⟩:=zP hc
     obtain ⟨h3,h4⟩:=zb hs
     simp only [decide_eq_true_eq] at h3
     cases h4
     obtain ⟨hlen,hl⟩:=Rep.mono (τ:=.arr n σ) e4.le hr
     have hn:∀ (z:σ.I) c,(RR P σ).1 F1 z c→c.length = nc σ:=fun z c h=>Rep.length (P:=P) (F:=F1) (x:=z) h
     have hL:=RepL.length hn _ _ hl
     have hcl:=Rep.length e3.1
     have hset:=RepL.set hn _ _ hl i y _ (by omega) e3.1
     have hb:i * nc σ + nc σ ≤ cells.toList.length:=by
      rw [hL,hlen]
      calc i * nc σ + nc σ = (i + 1) * nc σ:=by rw [Nat.add_mul]; omega
       _ ≤ n * nc σ:=Nat.mul_le_mul_right _ (by omega)
     obtain ⟨m2,F2,cells',g1,g2,g3,g4⟩:=zvh (cells:=(zB cells.toList (i * nc σ) u.cells.toList).toArray) he e2 (h2.ext e4) ⟨by simpa [qS] using hlen,by simpa [qS] using hset⟩
     refine ⟨m2,F2,cells',e4.trans g1,g2,?_,g4⟩
     rw [zha rfl (by simpa using hcl) (by simp at hcl hb ⊢; omega)]
     exact g3
    ·cases hs
   ·cases he
  ·cases he
theorem zns {q:Bool} {c:Ty} :
 ∀ {ps:List (Nat × Option AV)} {us:List (Nat × Value)} {x x':List c.I} {st st':St} {m:MM} {F:FH} {cells:Array Value},vQ q c x ps st = some (x',st')→Rel P nt F0 w0 st m F a w→zjZ P st.h m F ps us→RepL (Rep P F c) x cells.toList →
  ∃ m' F' cells',Ext st.h st'.h m m' F F' ∧ Rel P nt F0 w0 st' m' F' a w ∧ Instr.fill (fun i=>some (i * nc c,nc c)) cells us = some cells' ∧ RepL (Rep P F' c) x' cells'.toList ∧ x'.length = x.length
 | [],us,x,x',st,st',m,F,cells,he,h,hps,hr=>by
  cases he
  cases hps
  exact ⟨m,F,cells,.refl _ _ _,h,rfl,hr,rfl⟩
 | (i,none) :: ps,us,x,x',st,st',m,F,cells,he,h,hps,hr=>hps.elim
 | (i,some v) :: ps,us,x,x',st,st',m,F,cells,he,h,hps,hr=>by
  obtain ⟨u,r,rfl,h1,h2⟩:=hps
  simp only [vQ] at he
  split at he
  ·rename_i y st1 hz
   obtain ⟨m1,F1,e2,e3,e4⟩:=zxz hz h h1
   obtain ⟨h3,h4⟩:=zb he
   simp only [decide_eq_true_eq] at h3
   have hl:RepL (Rep P F1 c) x cells.toList:=RepL.mono (fun _ _ h=>Rep.mono e4.le h) _ _ hr
   have hn:∀ (z:c.I) d,Rep P F1 c z d→d.length = nc c:=fun z d h=>Rep.length h
   have hL:=RepL.length hn _ _ hl
   have hcl:=Rep.length e3.1
   have hset:=RepL.set hn _ _ hl i y _ h3 e3.1
   have hb:i * nc c + nc c ≤ cells.toList.length:=by
    rw [hL]
    calc i * nc c + nc c = (i + 1) * nc c:=by rw [Nat.add_mul]; omega
     _ ≤ x.length * nc c:=Nat.mul_le_mul_right _ (by omega)
   obtain ⟨m2,F2,cells',g1,g2,g3,g4,g5⟩:=zns (cells:=(zB cells.toList (i * nc c) u.cells.toList).toArray) h4 e2 (h2.ext e4) (by simpa [qS] using hset)
   refine ⟨m2,F2,cells',e4.trans g1,g2,?_,g4,by rw [g5]; simp [qS]⟩
   rw [zha rfl (by simpa using hcl) (by simp at hcl hb ⊢; omega)]
   exact g3
  ·cases he
theorem zsL {q:Bool} {c:Ty} {place:Nat→Option (Nat × Nat)} (hplace:∀ i o σ,jt c i = some (o,σ)→place i = some (o,nc σ)) :
 ∀ {ps:List (Nat × Option AV)} {us:List (Nat × Value)} {vs vs':List AV} {st st':St} {m:MM} {F:FH} {cells:Array Value},zax q c vs ps st = some (vs',st')→Rel P nt F0 w0 st m F a w→zjZ P st.h m F ps us→zX P st.h m F c vs cells.toList →
  ∃ m' F' cells',Ext st.h st'.h m m' F F' ∧ Rel P nt F0 w0 st' m' F' a w ∧ Instr.fill place cells us = some cells' ∧ zX P st'.h m' F' c vs' cells'.toList
 | [],us,vs,vs',st,st',m,F,cells,he,h,hps,hr=>by
  simp only [zax,Option.some.injEq,Prod.mk.injEq] at he
  obtain ⟨rfl,rfl⟩:=he
  cases hps
  exact ⟨m,F,cells,.refl _ _ _,h,rfl,hr⟩
 | (i,none) :: ps,us,vs,vs',st,st',m,F,cells,he,h,hps,hr=>hps.elim
 | (i,some v) :: ps,us,vs,vs',st,st',m,F,cells,he,h,hps,hr=>by
  obtain ⟨u,r,rfl,h1,h2⟩:=hps
  have one:∀ {st1:St} {m1:MM} {F1:FH} {σ:Ty} {x:AV},Ext st.h st1.h m m1 F F1→Rel P nt F0 w0 st1 m1 F1 a w→zb5 c i σ = true→vR P st1.h m1 F1 σ x u.cells.toList→zax q c (zf vs i x) ps st1 = some (vs',st') →
   ∃ m' F' cells',Ext st.h st'.h m m' F F' ∧ Rel P nt F0 w0 st' m' F' a w ∧ Instr.fill place cells ((i,u) :: r) = some cells' ∧ zX P st'.h m' F' c vs' cells'.toList:=by
   intro st1 m1 F1 σ x e1 h1' hn hx he
   obtain ⟨o,ho⟩:=zqz hn
   obtain ⟨k1,k2⟩:=zno (hr.ext e1) ho hx
   obtain ⟨m2,F2,cells',g1,g2,g3,g4⟩:=zsL hplace (cells:=(zB cells.toList o u.cells.toList).toArray) he h1' (h2.ext e1) (by simpa using k1)
   have hl:=hx.length
   refine ⟨m2,F2,cells',e1.trans g1,g2,?_,g4⟩
   rw [zha (hplace _ _ _ ho) (by simpa using hl) (by simpa using k2)]
   exact g3
  have dat:(match frz q st v with
   | some ⟨σ,y,st⟩=>cond (zb5 c i σ) (zax q c (zf vs i (.dat σ y)) ps st) none
   | none=>none) = some (vs',st')→∃ m' F' cells',Ext st.h st'.h m m' F F' ∧ Rel P nt F0 w0 st' m' F' a w ∧ Instr.fill place cells ((i,u) :: r) = some cells' ∧ zX P st'.h m' F' c vs' cells'.toList:=by
   intro he
   split at he
   ·rename_i σ y st1 hz
    obtain ⟨h3,h4⟩:=zb he
    obtain ⟨m1,F1,e2,e3,e4⟩:=vT hz h h1
    exact one e4 e2 h3 (x:=.dat σ y) ⟨rfl,e3.1⟩ h4
   ·cases he
  cases v with
  | ow j =>
   simp only [zax] at he
   obtain ⟨h3,h4⟩:=zb he
   unfold zng at h3
   split at h3
   ·rename_i τ hT
    have hrf:=vR.ofRow hT h1
    have hq1:u.cells.toList = [u]:=by
     obtain ⟨_,_,_,e2,_,_,ad,l,c,rfl⟩:=hrf
     cases e2; rfl
    exact one (.refl _ _ _) h h3 (x:=.ow j) (by rw [hq1]; exact hrf) h4
   ·cases h3
  | clip σ xs =>
   cases xs with
   | nil =>
    simp only [zax] at he
    obtain ⟨h3,h4⟩:=zb he
    obtain ⟨ad,rfl,_⟩:=(show zF P st.h m F (.clip σ []) u from h1)
    obtain ⟨k1,k2,k3⟩:=zfP σ ad h
    refine one (st1:=⟨st.fr,st.h ++ [qQ σ []]⟩) k3 k1 h3 (x:=.ow st.h.length) ?_ h4
    exact vR.ofRow (zLH (ju _ _)) k2
   | cons x xs=>exact dat he
  | _=>exact dat he
end
end Go.Ev
end
section
namespace Go.Ev
open Go.RowKit
theorem zsM (n:Nat):∀ (r c B:Nat),c ≤ B→n + (n + 768) / 4 ≤ B→Builtin.growBy n r c ≤ B
 | 0,c,B,h,_=>h
 | r + 1,c,B,h,hB=>by
  simp only [Builtin.growBy]
  split
  ·exact h
  ·exact zsM n r _ B (by omega) hB
theorem zHM (need cap:Nat) (h:cap < need):Builtin.nextslicecap need cap ≤ 2 * need + 1000:=by
 unfold Builtin.nextslicecap
 split
 ·omega
 ·split
  ·omega
  ·exact zsM need 4 cap _ (by omega) (by omega)
theorem zF4 (need cap:Nat) (h:cap < need):Builtin.nextslicecap need cap ≤ 2 * need:=by
 unfold Builtin.nextslicecap
 split
 ·omega
 ·split
  ·omega
  ·exact zsM need 4 cap _ (by omega) (by omega)
section
variable {P:Program} {nt:Up} {F0 F G:FH} {w0 w:World} {st st':St} {m:MM} {a:Act} {E:Env} {v:AV} {u:Value}
theorem zY.str {t:TypeId} (h:zY P t .str):P.underlying t = some .string:=by
 simp only [zY,tyB,Bool.and_eq_true] at h
 have h:=h.2
 split at h
 ·rename_i he; exact he
 ·cases h
theorem zY.int {t:TypeId} {k:IntKind} (h:zY P t (.int k)):P.underlying t = some (.int k):=by
 simp only [zY,tyB,Bool.and_eq_true] at h
 have h:=h.2
 split at h
 ·rename_i k' he
  simp only [decide_eq_true_eq] at h
  rw [he,h]
 ·cases h
theorem zY.mp {t:TypeId} {κ σ:Ty} (h:zY P t (.pair κ σ)):∃ k e,P.underlying t = some (.map k e) ∧ zY P k κ ∧ zY P e σ:=by
 simp only [zY,tyB,Bool.and_eq_true] at h
 have h:=h.1
 split at h
 ·rename_i k e he
  simp only [Bool.and_eq_true] at h
  exact ⟨k,e,he,h.1,h.2⟩
 ·cases h
theorem zBh {t:TypeId} {ts:Array TypeId} {x:AV} {p:Value} {ty:TypeId} (hE:EnvOk P G E) (h:Rel P nt F0 w0 st m F a w) (hx:zh P st.h m F x p) (hts:ts.toList = [t]) (he:zc6 E t x st pk = some (v,st')) :
 ∃ u,(Builtin.len_ ts ty #[p]).run P w = .ok u w ∧ st' = st ∧ zh P st.h m F v u:=by
 have ht0:ts[0]? = some t:=by rw [← Array.getElem?_toList,hts]; rfl
 have hp0:(#[p]:Array Value)[0]? = some p:=rfl
 unfold zc6 at he
 split at he
 ·obtain ⟨h1,h2⟩:=zb he
  cases h2
  obtain rfl:=hx.str
  refine ⟨_,?_,rfl,.mkInt⟩
  unfold Builtin.len_
  simp only [ht0,hp0,Sem.run_bind,zj (hE.types t _ (Env.is_spec h1)).str,Result.andThen_ok,Sem.run_pure]
  rfl
 ·obtain ⟨h1,h2⟩:=zb he
  cases h2
  obtain ⟨ad,cap,rfl,_⟩:=hx.sl
  obtain ⟨e,hu,_⟩:=(hE.types t _ (Env.is_spec h1)).sl
  refine ⟨_,?_,rfl,.mkInt⟩
  unfold Builtin.len_
  simp only [ht0,hp0,Sem.run_bind,zj hu,Result.andThen_ok,Sem.run_pure]
  rfl
 ·obtain ⟨h1,h2⟩:=zb he
  cases h2
  obtain ⟨ad,rfl,_⟩:=(show zF P st.h m F (.clip _ _) p from hx)
  obtain ⟨e,hu,_⟩:=(hE.types t _ (Env.is_spec h1)).sl
  refine ⟨_,?_,rfl,.mkInt⟩
  unfold Builtin.len_
  simp only [ht0,hp0,Sem.run_bind,zj hu,Result.andThen_ok,Sem.run_pure]
  rfl
 ·rename_i id
  have go:∀ (o:Obj) (τ:Ty) (len:Nat),atN st.h id = some o→rowTL o = some (τ,len)→cond (E.is t (.sl τ)) (pk (.dat (.int .i64) (len:Int)) st) none = some (v,st') →
   ∃ u,(Builtin.len_ ts ty #[p]).run P w = .ok u w ∧ st' = st ∧ zh P st.h m F v u:=by
   intro o τ len ho hT he
   obtain ⟨h1,h2⟩:=zb he
   cases h2
   obtain ⟨e,hu,_⟩:=(hE.types t _ (Env.is_spec h1)).sl
   have hq:=hx.owAt ho hT
   have hp:∃ ad cap,p = .slice ad len cap:=by
    split at hq
    ·obtain ⟨cap,_,_,rfl⟩:=hq; exact ⟨_,cap,rfl⟩
    ·obtain ⟨rfl,ad,rfl⟩:=hq; exact ⟨ad,0,rfl⟩
   obtain ⟨ad,cap,rfl⟩:=hp
   refine ⟨_,?_,rfl,.mkInt⟩
   unfold Builtin.len_
   simp only [ht0,hp0,Sem.run_bind,zj hu,Result.andThen_ok,Sem.run_pure]
   rfl
  split at he
  ·rename_i τ xs fz ho
   exact go _ τ xs.length ho rfl he
  ·rename_i τ xs k ho
   exact go _ τ xs.length ho rfl he
  ·cases he
 ·rename_i id i pth
  split at he
  ·rename_i τ xs k ho
   obtain ⟨o,ho',hx⟩:=hx
   rw [ho] at ho'
   cases ho'
   obtain ⟨hik,σ,len,hlen,hd⟩:=hx.2 _ _ _ rfl
   split at he
   ·rename_i σ' ys hz
    unfold zbS at hlen
    rw [hz] at hlen
    simp only [Option.some.injEq,Prod.mk.injEq] at hlen
    obtain ⟨rfl,rfl⟩:=hlen
    obtain ⟨h1,h2⟩:=zb he
    cases h2
    obtain ⟨e,hu,_⟩:=(hE.types t _ (Env.is_spec h1)).sl
    unfold zsG at hd
    have hp:∃ ad cap,p = .slice ad (List.length ys) cap:=by
     split at hd
     ·obtain ⟨cap,_,_,rfl⟩:=hd; exact ⟨_,cap,rfl⟩
     ·obtain ⟨e,ad,rfl⟩:=hd; exact ⟨ad,0,by rw [e]⟩
    obtain ⟨ad,cap,rfl⟩:=hp
    refine ⟨_,?_,rfl,.mkInt⟩
    unfold Builtin.len_
    simp only [ht0,hp0,Sem.run_bind,zj hu,Result.andThen_ok,Sem.run_pure]
    rfl
   ·cases he
  ·cases he
 ·rename_i id
  split at he
  ·rename_i κ σ es ho
   obtain ⟨h1,h2⟩:=zb he
   cases h2
   obtain ⟨k,e,hu,_⟩:=(hE.types t _ (Env.isM_spec h1)).mp
   obtain ⟨b,n,hmi,rfl⟩:=hx.omAt ho
   obtain ⟨b',n',ents,clock,h3,h4,h5,h6⟩:=h.obs id _ ho
   rw [hmi] at h3
   cases h3
   refine ⟨_,?_,rfl,.mkInt⟩
   unfold Builtin.len_
   have hg:(getObj b).run P w = .ok (.map ents clock) w:=by simp [getObj,Sem.run,h4]
   simp only [ht0,hp0,Sem.run_bind,zj hu,Result.andThen_ok,hg,Sem.run_pure]
   rw [show ents.size = es.length by rw [h5.1]; simp]
   rfl
  ·cases he
 ·rename_i id k
  split at he
  ·rename_i u fz τ ho hT
   cases he
   obtain ⟨b,n',a',g1,g2,g3,rfl⟩:=zF.gsAt ho (show zF P st.h m F (.gs id k) p from hx)
   obtain ⟨e,hu,_⟩:=(hE.types t _ (zDy hT)).sl
   refine ⟨_,?_,rfl,.mkInt⟩
   unfold Builtin.len_
   simp only [ht0,hp0,Sem.run_bind,zj hu,Result.andThen_ok,Sem.run_pure]
   rfl
  ·cases he
 ·cases he
theorem zdY {x:Option (Option AV)} {d most:Nat} {α:Type} {k:Nat→Option α} {y:α} (h:bnd x d most k = some y) :
 (x = none ∧ k d = some y) ∨ ∃ (κ:IntKind) (j:Nat),x = some (some (.dat (.int κ) (j:Int))) ∧ j ≤ most ∧ k j = some y:=by
 unfold bnd at h
 split at h
 ·exact .inl ⟨rfl,h⟩
 ·rename_i κ n
  obtain ⟨h1,h2⟩:=zb h
  obtain ⟨h3,h4⟩:=zb h2
  have h1':(0:Int) ≤ (show Int from n):=of_decide_eq_true h1
  have h3':(show Int from n) ≤ (most:Int):=of_decide_eq_true h3
  refine .inr ⟨κ,Int.toNat n,?_,Int.toNat_le.2 h3',h4⟩
  rw [Int.toNat_of_nonneg h1']
 ·cases h
theorem vx {κ:IntKind} {j most:Nat} {code:BoundsCode} (h:j ≤ most):(Instr.sliceBound (.int κ j) most code).run P w = .ok j w:=by
 unfold Instr.sliceBound
 have:(0:Int) ≤ j ∧ (j:Int) ≤ most:=by omega
 simp only [Sem.run_bind,asIntOf,Sem.run_pure,Result.andThen_ok,this,and_self,if_true,Int.toNat_natCast]
def zkS (P:Program) (h:List Obj) (m:MM) (F:FH):Option (Option AV)→Option Value→Prop
 | none,o=>o = none
 | some (some v),o=>∃ u,o = some u ∧ zh P h m F v u
 | some none,_=>True
theorem At.drop {F:FH} {d:Addr} {τ:Ty} {xs:List τ.I} {cc:List Value} (h1:At F d cc) (h2:RepL (Rep P F τ) xs cc) (l h:Nat) (hl:l ≤ xs.length) :
 ∃ cc',At F (d.add (l * nc τ)) cc' ∧ RepL (Rep P F τ) (List.drop l (List.take h xs)) cc':=by
 have hn:∀ (z:τ.I) c,Rep P F τ z c→c.length = nc τ:=fun z c h=>Rep.length h
 have key:∀ (l h:Nat) (xs:List τ.I) (cc:List Value),RepL (Rep P F τ) xs cc→l ≤ xs.length→∃ cc',RepL (Rep P F τ) (List.drop l (List.take h xs)) cc' ∧ ∀ (j:Nat) (u:Value),cc'[j]? = some u→cc[l * nc τ + j]? = some u:=by
  intro l
  induction l with
  | zero =>
   intro h
   induction h with
   | zero=>intro xs cc _ _; exact ⟨[],by simp [RepL],fun j u hj=>by simp at hj⟩
   | succ h ih =>
    intro xs cc hr _
    cases xs with
    | nil=>exact ⟨[],by simp [RepL],fun j u hj=>by simp at hj⟩
    | cons x xs =>
     obtain ⟨c,d,rfl,h3,h4⟩:=hr
     obtain ⟨cc',h5,h6⟩:=ih xs d h4 (by omega)
     refine ⟨c ++ cc',⟨c,cc',rfl,h3,by simpa using h5⟩,fun j u hj=>?_⟩
     rw [Nat.zero_mul,Nat.zero_add]
     by_cases hjc:j < c.length
     ·rw [List.getElem?_append_left hjc] at hj ⊢; exact hj
     ·rw [List.getElem?_append_right (by omega)] at hj ⊢
      have:=h6 _ u hj
      simpa using this
  | succ l ih =>
   intro h xs cc hr hl
   cases xs with
   | nil=>simp at hl
   | cons x xs =>
    obtain ⟨c,d,rfl,h3,h4⟩:=hr
    cases h with
    | zero=>exact ⟨[],by simp [RepL],fun j u hj=>by simp at hj⟩
    | succ h =>
     obtain ⟨cc',h5,h6⟩:=ih h xs d h4 (by simpa using hl)
     refine ⟨cc',by simpa using h5,fun j u hj=>?_⟩
     have hc:=hn _ _ h3
     rw [List.getElem?_append_right (by rw [hc,Nat.add_mul]; omega),hc,show (l + 1) * nc τ + j - nc τ = l * nc τ + j by rw [Nat.add_mul]; omega]
     exact h6 j u hj
 obtain ⟨cc',h3,h4⟩:=key l h xs cc h2 hl
 exact ⟨cc',h1.sub h4,h3⟩
theorem zkS.val {κ:IntKind} {j:Nat} {o:Option Value} (h:zkS P st.h m F (some (some (.dat (.int κ) (j:Int)))) o):o = some (.int κ j):=by
 obtain ⟨u,rfl,hu⟩:=h
 rw [hu.int]
theorem zDz {t e:TypeId} {τ:Ty} {xs:List τ.I} {lo hi mx:Option (Option AV)} {lo' hi' mx':Option Value} {ad:Option Addr} {cap:Nat} {i:TypeInfo}
 (hu:P.underlying t = some (.slice e)) (hi1:P.info? e = some i) (hsz:i.size = nc τ) (hcap:xs.length ≤ cap) (hm:xs ≠ []→∃ d cc,ad = some d ∧ At F d cc ∧ RepL (Rep P F τ) xs cc)
 (hlo:zkS P st.h m F lo lo') (hhi:zkS P st.h m F hi hi') (hmx:zkS P st.h m F mx mx') (he:zlY τ xs lo hi mx st pk = some (v,st')) :
 ∃ u,(Instr.sliceAt t (.slice ad xs.length cap) lo' hi' mx').run P w = .ok u w ∧ st' = st ∧ zh P st.h m F v u:=by
 have hmem:∀ l h c:Nat,l ≤ h→h ≤ xs.length→h ≤ c→List.drop l (List.take h xs) ≠ []→∃ d cc,(if c = l then ad else ad.map (·.add (l * i.size))) = some d ∧ At F d cc ∧ RepL (Rep P F τ) (List.drop l (List.take h xs)) cc:=by
  intro l h c hlh hh hc hne
  have hlt:c ≠ l:=by
   rintro rfl
   apply hne
   apply List.length_eq_zero_iff.1
   simp; omega
  have hx:xs ≠ []:=by rintro rfl; simp at hne
  obtain ⟨d,cc,rfl,h1,h2⟩:=hm hx
  obtain ⟨cc',h3,h4⟩:=At.drop h1 h2 l h (by omega)
  refine ⟨d.add (l * nc τ),cc',?_,h3,h4⟩
  rw [if_neg hlt,hsz]; rfl
 have hlen:∀ l h:Nat,l ≤ h→h ≤ xs.length→(List.drop l (List.take h xs)).length = h - l:=by intro l h h1 h2; simp; omega
 unfold zlY at he
 split at he
 ·
  obtain rfl:=hmx
  have hfin:∀ l h:Nat,l ≤ h→h ≤ xs.length→pk (.dat (.sl τ) (List.drop l (List.take h xs))) st = some (v,st') →
   (Instr.sliceBounds true xs.length cap lo' hi' none).run P w = .ok (l,h,cap) w →
   ∃ u,(Instr.sliceAt t (.slice ad xs.length cap) lo' hi' none).run P w = .ok u w ∧ st' = st ∧ zh P st.h m F v u:=by
   intro l h hlh hh hk hb
   cases hk
   refine ⟨.slice (if cap = l then ad else ad.map (·.add (l * i.size))) (h - l) (cap - l),?_,rfl,?_⟩
   ·unfold Instr.sliceAt Instr.slice
    simp only [Sem.run_bind,zj hu,Result.andThen_ok,hb,z3 hi1,Sem.run_pure]
   ·refine ⟨⟨(if cap = l then ad else ad.map (·.add (l * i.size))),cap - l,?_,?_,fun hne=>hmem l h cap hlh hh (by omega) hne⟩,rfl⟩
    ·simp only [Value.cells]; rw [hlen l h hlh hh]
    ·rw [hlen l h hlh hh]; omega
  rcases zdY he with ⟨rfl,h1⟩ | ⟨κ,j,rfl,hj,h1⟩
  ·obtain rfl:=hhi
   rcases zdY h1 with ⟨rfl,h2⟩ | ⟨κ',j',rfl,hj',h2⟩
   ·obtain rfl:=hlo
    exact hfin 0 xs.length (by omega) (by omega) h2 (by unfold Instr.sliceBounds; simp)
   ·obtain rfl:=hlo.val
    exact hfin j' xs.length (by omega) (by omega) h2 (by unfold Instr.sliceBounds; simp [vx hj'])
  ·obtain rfl:=hhi.val
   have hjc:j ≤ cap:=by omega
   rcases zdY h1 with ⟨rfl,h2⟩ | ⟨κ',j',rfl,hj',h2⟩
   ·obtain rfl:=hlo
    exact hfin 0 j (by omega) (by omega) h2 (by unfold Instr.sliceBounds; simp [vx hjc])
   ·obtain rfl:=hlo.val
    exact hfin j' j (by omega) (by omega) h2 (by unfold Instr.sliceBounds; simp [vx hj',vx hjc])
 ·
  rename_i mv
  split at he
  ·cases he
  rename_i hv
  rcases zdY he with ⟨hh,_⟩ | ⟨κ0,mm,hmm,hm1,h0⟩
  ·cases hh
  ·cases hmm
   obtain rfl:=hmx.val
   have hfin:∀ l h:Nat,l ≤ h→h ≤ mm→cond (decide (h = mm)) (pk (.clip τ (List.drop l (List.take h xs))) st) none = some (v,st') →
    (Instr.sliceBounds true xs.length cap lo' hi' (some (.int κ0 mm))).run P w = .ok (l,h,mm) w →
    ∃ u,(Instr.sliceAt t (.slice ad xs.length cap) lo' hi' (some (.int κ0 mm))).run P w = .ok u w ∧ st' = st ∧ zh P st.h m F v u:=by
    intro l h hlh hh hk0 hb
    obtain ⟨hhm,hk⟩:=zb hk0
    clear hk0
    simp only [decide_eq_true_eq] at hhm
    subst hhm
    cases hk
    refine ⟨.slice (if h = l then ad else ad.map (·.add (l * i.size))) (h - l) (h - l),?_,rfl,?_⟩
    ·unfold Instr.sliceAt Instr.slice
     simp only [Sem.run_bind,zj hu,Result.andThen_ok,hb,z3 hi1,Sem.run_pure]
    ·refine ⟨(if h = l then ad else ad.map (·.add (l * i.size))),?_,fun hne=>hmem l h h hlh hm1 (Nat.le_refl _) hne⟩
     rw [hlen l h hlh hm1]
   have hmc:mm ≤ cap:=by omega
   rcases zdY h0 with ⟨hh,_⟩ | ⟨κ,j,hjj,hj,h1⟩
   ·cases hh
   ·cases hjj
    obtain rfl:=hhi.val
    rcases zdY h1 with ⟨rfl,h2⟩ | ⟨κ',j',rfl,hj',h2⟩
    ·obtain rfl:=hlo
     exact hfin 0 j (by omega) (by omega) h2 (by unfold Instr.sliceBounds; simp [vx hj,vx hmc])
    ·obtain rfl:=hlo.val
     exact hfin j' j (by omega) (by omega) h2 (by unfold Instr.sliceBounds; simp [vx hj',vx hj,vx hmc])
end
end Go.Ev
end
section
namespace Go.Ev
open Go.RowKit
section
variable {P:Program} {nt:Up} {F0 F G:FH} {w0 w:World} {st st':St} {m:MM} {a:Act} {E:Env} {v:AV} {u:Value}
theorem zkS.ext {h h':List Obj} {m m':MM} {F F':FH} (e:Ext h h' m m' F F') {x:Option (Option AV)} {o:Option Value} (hb:zkS P h m F x o):zkS P h' m' F' x o:=by
 match x,hb with
 | none,hb=>exact hb
 | some none,_=>trivial
 | some (some v),⟨u,e',hu⟩=>exact ⟨u,e',hu.ext e⟩
theorem zV.sl' {τ:Ty} {xs:List τ.I} {p:Value} (h:zV P F (.sl τ) xs p):∃ ad cap,p = .slice ad xs.length cap ∧ xs.length ≤ cap ∧ (xs ≠ []→∃ d cc,ad = some d ∧ At F d cc ∧ RepL (Rep P F τ) xs cc):=by
 obtain ⟨ad,cap,e,h1,h2⟩:=zV.one' rfl h
 exact ⟨ad,cap,by simpa using e,h1,h2⟩
theorem zV.str' {s:ByteArray} {p:Value} (h:zV P F .str s p):p = .string s:=by
 have:=zV.one' rfl h; simpa [Rep,RR] using this
theorem zF5 {q:Bool} {t:TypeId} {x:AV} {p:Value} {lo hi mx:Option (Option AV)} {lo' hi' mx':Option Value} (hE:EnvOk P G E) (h:Rel P nt F0 w0 st m F a w) (hx:zh P st.h m F x p)
 (hlo:zkS P st.h m F lo lo') (hhi:zkS P st.h m F hi hi') (hmx:zkS P st.h m F mx mx') (he:zfJ q E t x lo hi mx st pk = some (v,st')) :
 ∃ u,(Instr.sliceAt t p lo' hi' mx').run P w = .ok u w ∧ jR P nt F0 w0 st' a F v u w:=by
 unfold zfJ at he
 split at he
 ·rename_i s st1 hz
  obtain ⟨m1,F',h2,h3,h4⟩:=vT hz h hx
  split at he
  ·obtain ⟨h5,h6⟩:=zb he
   obtain rfl:=h3.str'
   obtain rfl:=hmx
   have hu:=(hE.types t _ (Env.is_spec h5)).str
   have hfin:∀ l hh:Nat,pk (.dat .str (ByteArray.extract s l hh)) st1 = some (v,st')→(Instr.sliceBounds false (ByteArray.size s) (ByteArray.size s) lo' hi' none).run P w = .ok (l,hh,ByteArray.size s) w →
    ∃ u,(Instr.sliceAt t (.string s) lo' hi' none).run P w = .ok u w ∧ jR P nt F0 w0 st' a F v u w:=by
    intro l hh hk hb
    cases hk
    refine ⟨.string (ByteArray.extract s l hh),?_,m1,F',h4.le,h2,.mkStr⟩
    unfold Instr.sliceAt Instr.slice
    simp only [Sem.run_bind,zj hu,Result.andThen_ok,Option.isSome_none,Bool.false_eq_true,if_false,Sem.run_pure,hb]
   rcases zdY h6 with ⟨rfl,h7⟩ | ⟨κ,j,rfl,hj,h7⟩
   ·obtain rfl:=hhi
    rcases zdY h7 with ⟨rfl,h8⟩ | ⟨κ',j',rfl,hj',h8⟩
    ·obtain rfl:=hlo
     exact hfin _ _ h8 (by unfold Instr.sliceBounds; simp)
    ·obtain rfl:=hlo.val
     exact hfin _ _ h8 (by unfold Instr.sliceBounds; simp [vx hj'])
   ·obtain rfl:=hhi.val
    rcases zdY h7 with ⟨rfl,h8⟩ | ⟨κ',j',rfl,hj',h8⟩
    ·obtain rfl:=hlo
     exact hfin _ _ h8 (by unfold Instr.sliceBounds; simp [vx hj])
    ·obtain rfl:=hlo.val
     exact hfin _ _ h8 (by unfold Instr.sliceBounds; simp [vx hj',vx hj])
  ·cases he
 ·rename_i τ xs st1 hz
  obtain ⟨m1,F',h2,h3,h4⟩:=vT hz h hx
  obtain ⟨h5,h6⟩:=zb he
  obtain ⟨ad,cap,rfl,hcap,hm⟩:=h3.sl'
  obtain ⟨e,hu,he2,_,hnp⟩:=(hE.types t _ (Env.is_spec h5)).sl
  obtain ⟨i,hi1,hsz⟩:=he2.size (Ty.np_spec hnp)
  obtain ⟨u,h7,rfl,h8⟩:=zDz (w:=w) hu hi1 hsz hcap hm (hlo.ext h4) (hhi.ext h4) (hmx.ext h4) h6
  exact ⟨u,h7,m1,F',h4.le,h2,h8⟩
 ·cases he
theorem zxH {d:Addr} {xs:List Int} {cc:List Value} (hc:∀ (j:Nat) (x:Value),cc[j]? = some x→w.cell? (d.add j) = some x) (hr:RepL (Rep P F (.int .u8)) xs cc) :
 (loadCells d xs.length).run P w = .ok (xs.map (Value.int .u8)).toArray w:=by
 have hcc:cc = xs.map (Value.int .u8):=by
  have:∀ (xs:List Int) cc,RepL (Rep P F (.int .u8)) xs cc→cc = xs.map (Value.int .u8):=by
   intro xs
   induction xs with
   | nil=>intro cc h; exact h
   | cons x xs ih =>
    rintro cc ⟨c,d,rfl,h1,h2⟩
    rw [ih d h2,show c = [.int .u8 x] from h1]; rfl
  exact this xs cc hr
 subst hcc
 have:=run_loadCells_list (P:=P) w d _ hc
 simpa using this
theorem Rel.freezeAt (h:Rel P nt F0 w0 st m F a w) {i b n:Nat} {o o':Obj} {el:TypeId} {fz:Nat × Nat} {cs:Array Value} {w':World} (ho:atN st.h i = some o) (hl:o.like o') (hd:∀ j,o.deepAt j = false)
 (hm:m i = some (b,n)) (hF:F b = none) (hos:w'.os = w.os) (htape:w'.tape = w.tape) (hout:w'.output = w.output) (hsz:w'.heap.size = w.heap.size) (hbl:∀ k,k ≠ b→w'.heap[k]? = w.heap[k]?)
 (hw:w'.heap[b]? = some (.cells cs el fz)) (hnew:z6 P (zf st.h i o') m (F.put b cs) w' i o') :
 Rel P nt F0 w0 ⟨st.fr,zf st.h i o'⟩ m (F.put b cs) a w' ∧ F.le (F.put b cs):=by
 have hh:HLe st.h (zf st.h i o'):=HLe.set ho hl
 have hle:F.le (F.put b cs):=FH.put_le b cs hF
 have hr:=h.rng _ _ _ hm
 have hS:∀ j u,atN st.h j = some u→jc (zf st.h i o') m m j u:=fun j u _=>jc.refl _ _ _ _
 have hput:∀ k,k ≠ b→(F.put b cs) k = F k:=fun k hk=>by unfold FH.put; rw [if_neg hk]
 refine ⟨⟨h.nt,fun t v ht=>(h.fr t v ht).mono hh hS hle,fun v u hv=>(h.up v u hv).mono hh hS hle,h.lo.trans hle,fun j u hu=>?_,h.inj,fun j b n hj=>?_,fun i' j p b' n' hp=>?_,h.din,fun k c hk=>?_,⟨h.gro.1.trans hle,fun k hk=>?_⟩,h.bel.trans ⟨hos,htape,hout,by omega,fun k hk=>hbl k (by omega)⟩,h.dfr⟩,hle⟩
 ·by_cases e:i = j
  ·subst e
   rw [vw ho] at hu
   cases hu
   exact hnew
  ·have hu':atN st.h j = some u:=by rw [qp e] at hu; exact hu
   have hne:∀ b' n',m j = some (b',n')→b' ≠ b:=by rintro b' n' hb rfl; exact e (h.inj _ _ _ _ _ hm hb)
   have hnd:∀ k p b' n',m.d j k p = some (b',n')→b' ≠ b:=by rintro k p b' n' hp rfl; exact (h.dok _ _ _ _ _ hp).2.2.2.2 _ _ hm
   refine (h.obs j u hu').mono hh hS hle hu' hu (fun b' n' hb=>hbl b' (hne b' n' hb)) (fun b' n' hb hn=>by rw [hput _ (hne b' n' hb)]; exact hn) (fun k p b' n' hk hp=>⟨hbl b' (hnd _ _ _ _ hp),fun hn=>by rw [hput _ (hnd _ _ _ _ hp)]; exact hn⟩)
 ·have:=h.rng j b n hj
  simp only [qS,List.length_set]
  omega
 ·obtain ⟨⟨u,h1,h2⟩,h3,h4,h5,h6⟩:=h.dok _ _ _ _ _ hp
  refine ⟨?_,h3,by omega,?_,h6⟩
  ·by_cases e:i = i'
   ·subst e; rw [ho] at h1; cases h1; rw [hd] at h2; cases h2
   ·exact ⟨u,by rw [qp e]; exact h1,h2⟩
  ·rw [hput]
   ·exact h5
   ·rintro rfl; exact h6 _ _ hm
 ·unfold FH.put at hk
  by_cases e:k = b
  ·subst e; rw [if_pos rfl] at hk; cases hk; exact ⟨el,fz,hw⟩
  ·rw [if_neg e] at hk; rw [hbl k e]; exact h.fok k c hk
 ·rw [hput _ (by omega)]
  exact h.gro.2 k hk
theorem zBO {q:Bool} {s d:TypeId} {x:AV} {p:Value} (hE:EnvOk P G E) (h:Rel P nt F0 w0 st m F a w) (hx:zh P st.h m F x p) (he:zdS q E s d x st pk = some (v,st')) :
 ∃ u w',(convert s d p).run P w = .ok u w' ∧ jR P nt F0 w0 st' a F v u w':=by
 unfold zdS at he
 split at he
 ·rename_i k0 k k1 n hs hd
  cases he
  obtain rfl:=hx.int
  have h1:=(hE.types _ _ hs).int
  have h2:=(hE.types _ _ hd).int
  exact ⟨_,w,by simp [convert,zj h1,zj h2,Conv.intToInt],m,F,.refl F,h,.mkInt⟩
 ·rename_i sv hs hd
  cases he
  obtain rfl:=hx.str
  have h1:=(hE.types _ _ hs).str
  have h2:=(hE.types _ _ hd).str
  exact ⟨_,w,by simp [convert,zj h1,zj h2],m,F,.refl F,h,.mkStr⟩
 ·rename_i sv hs hd
  obtain ⟨_,he⟩:=qs he
  cases he
  obtain rfl:=hx.str
  have h1:=(hE.types _ _ hs).str
  obtain ⟨e,h2,h3,_⟩:=(hE.types _ _ hd).sl
  have h3:=h3.int
  let cap:=Question.cut (.appendCap (ByteArray.size sv) 0 e) (w.tape w.drawn (.appendCap (ByteArray.size sv) 0 e))
  have hcap:ByteArray.size sv ≤ cap:=by simp only [cap,Question.cut]; omega
  let elems:Array Value:=(ByteArray.data sv).map fun b=>.int .u8 b.toNat
  let cs:Array Value:=elems ++ Array.replicate (cap - ByteArray.size sv) (.int .u8 0)
  have hcs:cs.size = cap:=by
   simp only [cs,elems,Array.size_append,Array.size_map,Array.size_replicate]
   have:(ByteArray.data sv).size = ByteArray.size sv:=rfl
   omega
  let w1:World:={ w with drawn:=w.drawn + 1 }
  let w2:World:={ w1 with heap:=w.heap.push (.cells cs e) }
  let w3:=w2.freeze ⟨w.heap.size,cs.size,none⟩ 1
  have hrel1:Rel P nt F0 w0 st m F a w1:=h.drew
  let xs:List Int:=(ByteArray.data sv).toList.map fun b=>(b.toNat:Int)
  have hxl:xs.length = ByteArray.size sv:=by simp only [xs,List.length_map]; rfl
  have hrep:RepL (Rep P F (.int .u8)) xs elems.toList:=by
   have:∀ l:List UInt8,RepL (Rep P F (.int .u8)) (l.map fun b=>(b.toNat:Int)) (l.map fun b=>Value.int .u8 b.toNat):=by
    intro l
    induction l with
    | nil=>rfl
    | cons b l ih=>exact ⟨[_],_,rfl,rfl,ih⟩
   have:=this (ByteArray.data sv).toList
   simpa [xs,elems] using this
  have hheap3:w3.heap[w.heap.size]? = some (.cells cs e (cs.size,cs.size + 1)):=by
   simp only [w3,World.freeze,w2,Nat.one_ne_zero,if_false]
   rw [Array.getElem?_modify,if_pos rfl,Array.getElem?_push,if_pos rfl]
   rfl
  have hother:∀ k,k ≠ w.heap.size→w3.heap[k]? = w2.heap[k]?:=by
   intro k hk
   simp only [w3,World.freeze,Nat.one_ne_zero,if_false]
   rw [Array.getElem?_modify,if_neg (Ne.symm hk)]
  have hrun:(convert s d (.string sv)).run P w = .ok (.slice (some ⟨w.heap.size,0,none⟩) (ByteArray.size sv) cap) w3:=by
   simp only [convert,Sem.run_bind,zj h1,zj h2,zj h3,Result.andThen_ok,Conv.stringToBytes,run_choose,Question.forced,Bool.false_eq_true,if_false,newRow,run_newObj,markStringish,run_shape,Sem.run_pure]
   have hshape:w2.shape? w.heap.size = some (e,cs.size):=by simp [World.shape?,w2]
   change ((Sem.run P (match w2.shape? w.heap.size with | some (_,n)=>freeze ⟨w.heap.size,n,none⟩ 1 | _=>pure ()) w2).andThen fun _ w'=>.ok (Value.slice (some ⟨w.heap.size,0,none⟩) (ByteArray.size sv) cap) w') = _
   rw [hshape]
   simp only [run_freeze,Result.andThen_ok]
   rfl
  obtain ⟨h5,h6⟩:=znr (τ:=.int .u8) (xs:=xs) (cs:=cs) (el:=e) (c:=elems.toList) (d:=List.replicate (cap - ByteArray.size sv) (.int .u8 0)) (cap:=cap) (w':=w2) hrel1 (by simp [cs]) hrep (by simp [nc,hcs]) (by omega) rfl rfl rfl rfl
  change Rel P nt F0 w0 ⟨st.fr,st.h ++ [.row (.int .u8) xs false]⟩ _ F a w2 at h5
  change zh P (st.h ++ [.row (.int .u8) xs false]) _ F _ _ at h6
  have hat:atN (st.h ++ [.row (.int .u8) xs false]) st.h.length = some (.row (.int .u8) xs false):=ju _ _
  have hmb:(m.put st.h.length (w.heap.size,cs.size)) st.h.length = some (w.heap.size,cs.size):=by simp [MM.put]
  have hle:=FH.put_le (F:=F) w.heap.size cs h.noF
  obtain ⟨h7,h8⟩:=h5.freezeAt (o':=.row (.int .u8) xs true) (w':=w3) hat (.inr ⟨⟨_,_,rfl⟩,rfl⟩) (fun _=>rfl) hmb h.noF (by simp [w3,World.freeze]) (by simp [w3,World.freeze]) (by simp [w3,World.freeze]) (by simp [w3,World.freeze]) hother hheap3 (by
   simp only [z6]
   rw [show (m.put st.h.length (w1.heap.size,cs.size)) st.h.length = some (w.heap.size,cs.size) from hmb]
   exact ⟨e,_,cs,elems.toList,List.replicate (cap - ByteArray.size sv) (.int .u8 0),hheap3,rfl,by simp [cs],RepL.mono (fun _ _ h=>Rep.mono hle h) _ _ hrep,by simp [zHz,FH.put]⟩)
  have hset:zf (st.h ++ [.row (.int .u8) xs false]) st.h.length (.row (.int .u8) xs true) = st.h ++ [.row (.int .u8) xs true]:=by
   rw [qS]
   simp
  rw [hset] at h7
  refine ⟨_,w3,hrun,_,_,h8,h7,?_⟩
  rw [← hxl]
  exact zh.mono (by rw [← hset]; exact HLe.set hat (.inr ⟨⟨_,_,rfl⟩,rfl⟩)) (fun _ _ _=>jc.refl _ _ _ _) h8 h6
 ·rename_i xs hs hd
  cases he
  obtain ⟨ad,cap,rfl,hcap,hm⟩:=hx.sl
  obtain ⟨e,h1,h3,_⟩:=(hE.types _ _ hs).sl
  have h3:=h3.int
  have h2:=(hE.types _ _ hd).str
  refine ⟨.string (bytesOf xs),w,?_,m,F,.refl F,h,.mkStr⟩
  rw [run_convert_bytes_string w s d e ad _ cap h1 h3 h2]
  cases xs with
  | nil =>
   cases ad with
   | none=>simp [Conv.bytesToString,bytesOf]
   | some d=>exact run_bytesToString w d _ cap [] (by simp [loadCells,loadCellsFrom])
  | cons x xs =>
   obtain ⟨d,cc,rfl,h4,h5⟩:=hm (by simp)
   exact run_bytesToString w d _ cap _ (zxH (zv3 h.fok h4) h5)
 ·rename_i id hs hd
  split at he
  ·rename_i xs fz ho
   cases he
   obtain ⟨e,h1,h3,_⟩:=(hE.types _ _ hs).sl
   have h3:=h3.int
   have h2:=(hE.types _ _ hd).str
   have hq:=hx.owAt ho rfl
   refine ⟨.string (bytesOf xs),w,?_,m,F,.refl F,h,.mkStr⟩
   cases hmi:m id with
   | none =>
    rw [hmi] at hq
    obtain ⟨hxl,ad,rfl⟩:=hq
    obtain rfl:=List.length_eq_zero_iff.1 hxl
    rw [run_convert_bytes_string w s d e ad _ 0 h1 h3 h2]
    cases ad with
    | none=>simp [Conv.bytesToString,bytesOf]
    | some d=>exact run_bytesToString w d _ 0 [] (by simp [loadCells,loadCellsFrom])
   | some bn =>
    obtain ⟨b,n⟩:=bn
    rw [hmi] at hq
    obtain ⟨cap,_,_,rfl⟩:=hq
    obtain ⟨el,fr,cs,c,dd,h4,h5,h6,h7,_⟩:=h.row ho hmi
    rw [run_convert_bytes_string w s d e _ _ cap h1 h3 h2]
    refine run_bytesToString w _ _ cap _ (zxH (fun j x hj=>?_) h7)
    rw [qw,jy h4,h6,Nat.zero_add,List.getElem?_append_left (List.getElem?_eq_some_iff.1 hj).1]
    exact hj
  ·cases he
 ·cases he
end
end Go.Ev
end
section
namespace Go.Ev
open Go.RowKit
section
variable {P:Program} {nt:Up} {F0 F G:FH} {w0 w:World} {st st':St} {m:MM} {a:Act} {E:Env} {v:AV} {u:Value}
structure zxI (P:Program) (ts:Array TypeId) (e:TypeId) (i:TypeInfo) (z:Value) (x:Value) (newc:List Value) (n:Nat) (w:World):Prop where
  t0:∃ t,ts[0]? = some t ∧ P.underlying t = some (.slice e)
  t1:∃ t,ts[1]? = some t ∧ ((∃ e',P.underlying t = some (.slice e')) ∨ P.underlying t = some .string)
  hi:P.info? e = some i
  hz:i.zero = some z
  pos:0 < i.bytes
  small:i.bytes ≤ 16384
  len:∀ w',(Builtin.lenOf x).run P w' = .ok n w'
  first:∀ w',w'.heap = w.heap→(Builtin.firstCells i.size n x).run P w' = .ok newc.toArray w'
def zo4 (base:Option Addr) (o:Nat) (newc:List Value):Sem Unit :=
  match base with
  | some a=>storeCells (a.add o) newc
  | none=>pure ()
theorem zhW {ts:Array TypeId} {ty e:TypeId} {i:TypeInfo} {z x:Value} {newc:List Value} {n len cap:Nat} {base:Option Addr} (h:zxI P ts e i z x newc n w) (hn:len + n ≤ cap) :
    (Builtin.append_ ts ty #[.slice base len cap,x]).run P w = ((zo4 base (len * i.size) newc).run P w).andThen fun _ w'=>.ok (.slice base (len + n) cap) w':=by
  obtain ⟨t,h0,h0'⟩:=h.t0
  obtain ⟨t',h1,h1'⟩:=h.t1
  have e0:(#[Value.slice base len cap,x]:Array Value)[0]? = some (.slice base len cap):=rfl
  have e1:(#[Value.slice base len cap,x]:Array Value)[1]? = some x:=rfl
  unfold Builtin.append_
  rcases h1' with ⟨e',h1'⟩ | h1' <;>
    (simp only [h0,e0,e1,Sem.run_bind,zj h0',Result.andThen_ok,z3 h.hi,h1,zj h1',Sem.run_pure,h.len,Bool.false_eq_true,if_false,hn,if_true,Bool.not_false,h.first w rfl]
     cases base <;> simp [zo4])
theorem zG9 {n len cap b:Nat} (hn:cap < len + n) (hlim:len + n ≤ lim) (h3:b ≤ 16384):¬ Builtin.nextslicecap (len + n) cap * b > 2 ^ 48:=by
  have h2:=zHM (len + n) cap hn
  have h4:Builtin.nextslicecap (len + n) cap * b ≤ (2 * lim + 1000) * 16384:=Nat.mul_le_mul (by omega) h3
  have h5:(2 * lim + 1000) * 16384 ≤ 2 ^ 48:=by decide
  omega
theorem zHa {big:Bool} {τ:Ty} {m cap b:Nat} (h:j8 big τ m = true) (hn:cap < m) (h3:b ≤ 16384) (hb:b = τ.bts):¬ Builtin.nextslicecap m cap * b > 2 ^ 48:=by
  unfold j8 at h
  cases big with
  | true =>
    have h1:m * τ.bts ≤ zDe:=of_decide_eq_true h
    have h2:=Nat.mul_le_mul_right b (zF4 m cap hn)
    have h4:zDe = 2 ^ 47:=by decide
    rw [← hb] at h1
    have h5:2 * m * b = 2 * (m * b):=Nat.mul_assoc ..
    omega
  | false =>
    have h1:m ≤ lim:=of_decide_eq_true h
    have h2:=zG9 (n:=m) (len:=0) (cap:=cap) (b:=b) (by omega) (by omega) h3
    rw [Nat.zero_add] at h2
    exact h2
theorem znt {ts:Array TypeId} {ty e:TypeId} {i:TypeInfo} {z x:Value} {newc oldc:List Value} {n len cap:Nat} {base:Option Addr} (h:zxI P ts e i z x newc n w) (hn:cap < len + n) (hcap:¬ Builtin.nextslicecap (len + n) cap * i.bytes > 2 ^ 48)
    (hold:∀ w',w'.heap = w.heap→(Builtin.firstCells i.size len (.slice base len cap)).run P w' = .ok oldc.toArray w') :
    ∃ ncap,len + n ≤ ncap ∧ (Builtin.append_ ts ty #[.slice base len cap,x]).run P w =
      .ok (.slice (some ⟨w.heap.size,0,none⟩) (len + n) ncap) { w with drawn:=w.drawn + 1,heap:=w.heap.push (.cells (oldc.toArray ++ newc.toArray ++ Builtin.zeroCells z.cells (ncap - (len + n))) e) }:=by
  obtain ⟨t,h0,h0'⟩:=h.t0
  obtain ⟨t',h1,h1'⟩:=h.t1
  have e0:(#[Value.slice base len cap,x]:Array Value)[0]? = some (.slice base len cap):=rfl
  have e1:(#[Value.slice base len cap,x]:Array Value)[1]? = some x:=rfl
  refine ⟨Question.cut (.appendCap (len + n) cap e) (w.tape w.drawn (.appendCap (len + n) cap e)),by simp only [Question.cut]; omega,?_⟩
  have hb:¬ (((len + n:Nat):Int) > IntKind.i64.max ∧ (False ∨ i.bytes = 0)):=by
    rintro ⟨_,h | h'⟩
    · exact h
    · have:=h.pos; omega
  have hnb:i.bytes ≠ 0:=by have:=h.pos; omega
  unfold Builtin.append_
  rcases h1' with ⟨e',h1'⟩ | h1' <;>
    (simp only [h0,e0,e1,Sem.run_bind,zj h0',Result.andThen_ok,z3 h.hi,h1,zj h1',Sem.run_pure,h.len,Bool.false_eq_true,if_false,show ¬ (len + n ≤ cap) by omega,zgT h.hi,false_or,hnb,and_false,hcap,run_choose,Question.forced,
      run_askRoom,Bool.not_false,if_true,qC h.hi h.hz]
     rw [hold { w with drawn:=w.drawn + 1 } rfl]
     simp only [Result.andThen_ok]
     rw [h.first { w with drawn:=w.drawn + 1 } rfl]
     simp only [Result.andThen_ok,newRow,Sem.run_bind,run_newObj,Sem.run_pure,qC h.hi h.hz])
theorem zvi {τ:Ty} {ys:List τ.I} {q:Value} (hq:zV P F (.sl τ) ys q) (hk:F.ok w) :
    ∃ c,RepL (Rep P F τ) ys c ∧ (∀ w',(Builtin.lenOf q).run P w' = .ok ys.length w') ∧ ∀ w',w'.heap = w.heap→(Builtin.firstCells (nc τ) ys.length q).run P w' = .ok c.toArray w':=by
  obtain ⟨ad,cap,rfl,hcap,hm⟩:=hq.sl'
  cases ys with
  | nil =>
    refine ⟨[],rfl,fun w'=>rfl,fun w' hw'=>?_⟩
    cases ad with
    | none=>rfl
    | some d=>simp [Builtin.firstCells,loadCells,loadCellsFrom]
  | cons y ys =>
    obtain ⟨d,cc,rfl,h1,h2⟩:=hm (by simp)
    refine ⟨cc,h2,fun w'=>rfl,fun w' hw'=>?_⟩
    have hl:=RepL.length (fun x c h=>Rep.length (P:=P) (F:=F) (x:=x) h) _ _ h2
    have:=run_loadCells_list (P:=P) w' d cc (fun j x hj=>by
      have:=zv3 hk h1 j x hj
      unfold World.cell? at this ⊢
      rw [hw']; exact this)
    rw [hl] at this
    exact this
theorem zJs {s:ByteArray}:∃ c,RepL (Rep P F (.int .u8)) ((ByteArray.data s).toList.map fun b=>(b.toNat:Int)) c ∧ (∀ w',(Builtin.lenOf (.string s)).run P w' = .ok (ByteArray.size s) w') ∧
    ∀ w':World,(Builtin.firstCells 1 (ByteArray.size s) (.string s)).run P w' = .ok c.toArray w':=by
  refine ⟨(ByteArray.data s).toList.map fun b=>Value.int .u8 b.toNat,?_,fun w'=>rfl,fun w'=>?_⟩
  · have:∀ l:List UInt8,RepL (Rep P F (.int .u8)) (l.map fun b=>(b.toNat:Int)) (l.map fun b=>Value.int .u8 b.toNat):=by
      intro l
      induction l with
      | nil=>rfl
      | cons b l ih=>exact ⟨[_],_,rfl,rfl,ih⟩
    exact this _
  · simp only [Builtin.firstCells,Sem.run_pure]
    congr 1
    have:s.extract 0 s.size = s:=by simp
    rw [this]
    apply Array.ext'
    simp
theorem zo5 (z:Array Value) (n:Nat):(Builtin.zeroCells z n).size = n * z.size:=by
  simp [Builtin.zeroCells]
def MM.put2 (m:MM) (L:Nat) (x:Option (Nat × Nat)) (D:Nat→List Nat→Option (Nat × Nat)):MM:=⟨fun j=>if j = L then x else m j,fun j=>if j = L then D else m.d j⟩
theorem MM.put2_f (m:MM) (L:Nat) (x:Option (Nat × Nat)) (D:Nat→List Nat→Option (Nat × Nat)):(m.put2 L x D) L = x:=by show (if L = L then x else m L) = x; rw [if_pos rfl]
theorem MM.put2_d (m:MM) (L:Nat) (x:Option (Nat × Nat)) (D:Nat→List Nat→Option (Nat × Nat)):(m.put2 L x D).d L = D:=by show (if L = L then D else m.d L) = D; rw [if_pos rfl]
theorem MM.put2_fn (m:MM) {L j:Nat} (x:Option (Nat × Nat)) (D:Nat→List Nat→Option (Nat × Nat)) (e:j ≠ L):(m.put2 L x D) j = m j:=by show (if j = L then x else m j) = m j; rw [if_neg e]
theorem MM.put2_dn (m:MM) {L j:Nat} (x:Option (Nat × Nat)) (D:Nat→List Nat→Option (Nat × Nat)) (e:j ≠ L):(m.put2 L x D).d j = m.d j:=by show (if j = L then D else m.d j) = m.d j; rw [if_neg e]
theorem Rel.adopt (h:Rel P nt F0 w0 st m F a w) {o:Obj} {w':World} {x:Option (Nat × Nat)} {D:Nat→List Nat→Option (Nat × Nat)}
    (hos:w'.os = w.os) (htape:w'.tape = w.tape) (hout:w'.output = w.output) (hsz:w.heap.size ≤ w'.heap.size)
    (hbl:∀ b,b < w.heap.size→(∀ n,x ≠ some (b,n))→w'.heap[b]? = w.heap[b]?)
    (hx:∀ b n,x = some (b,n)→w0.heap.size ≤ b ∧ b < w'.heap.size ∧ F b = none ∧ (∀ i n',m i ≠ some (b,n')) ∧ ∀ i j p n',m.d i j p ≠ some (b,n'))
    (hD:∀ j p b n,D j p = some (b,n)→o.deepAt j = true ∧ w0.heap.size ≤ b ∧ b < w'.heap.size ∧ F b = none ∧ (∀ n',x ≠ some (b,n')) ∧ (∀ i n',m i ≠ some (b,n')) ∧ ∀ i j p n',m.d i j p ≠ some (b,n'))
    (hDi:∀ j p b n j' p' n',D j p = some (b,n)→D j' p' = some (b,n')→j = j' ∧ p = p')
    (hnew:z6 P (st.h ++ [o]) (m.put2 st.h.length x D) F w' st.h.length o) :
    Rel P nt F0 w0 ⟨st.fr,st.h ++ [o]⟩ (m.put2 st.h.length x D) F a w' ∧ Ext st.h (st.h ++ [o]) m (m.put2 st.h.length x D) F F:=by
  have hh:HLe st.h (st.h ++ [o]):=HLe.append _ _
  have hne:∀ {j u},atN st.h j = some u→j ≠ st.h.length:=fun hj=>by have:=je hj; omega
  have hS:∀ j u,atN st.h j = some u→jc (st.h ++ [o]) m (m.put2 st.h.length x D) j u:=fun j u hu=>⟨m.put2_fn _ _ (hne hu),fun k p _ _=>by rw [m.put2_dn _ _ (hne hu)]⟩
  have hfb:∀ b,(∀ n,x ≠ some (b,n)) ∨ ∃ n,x = some (b,n):=fun b=>by
    by_cases e:∃ n,x = some (b,n)
    · exact .inr e
    · exact .inl fun n hn=>e ⟨n,hn⟩
  refine ⟨⟨h.nt,fun t v ht=>(h.fr t v ht).mono hh hS (.refl F),fun v u hv=>(h.up v u hv).mono hh hS (.refl F),h.lo,fun j u hu=>?_,fun i j b n1 n2 hi hj=>?_,fun j b n' hj=>?_,fun i' j p b' n' hp=>?_,fun i1 j1 p1 b n i2 j2 p2 n' h1 h2=>?_,fun k c hk=>?_,h.gro,?_,h.dfr⟩,hh,fun j u hu _=>hS j u hu,.refl F⟩
  · by_cases e:j = st.h.length
    · subst e
      rw [ju] at hu
      cases hu
      exact hnew
    · have hu':=zv1 hu e
      refine (h.obs j u hu').mono hh hS (.refl F) hu' hu (fun b n hb=>hbl b (h.rng _ _ _ hb).2.2 fun n' hn'=>(hx _ _ hn').2.2.2.1 _ _ hb) (fun _ _ _ hn=>hn) (fun k p b' n' hk hp=>⟨hbl _ (h.dok _ _ _ _ _ hp).2.2.1 fun n' hn'=>(hx _ _ hn').2.2.2.2 _ _ _ _ hp,fun hn=>hn⟩)
  · by_cases e1:i = st.h.length <;> by_cases e2:j = st.h.length
    · omega
    · subst e1
      rw [m.put2_f] at hi
      rw [m.put2_fn _ _ e2] at hj
      exact absurd hj ((hx _ _ hi).2.2.2.1 _ _)
    · subst e2
      rw [m.put2_f] at hj
      rw [m.put2_fn _ _ e1] at hi
      exact absurd hi ((hx _ _ hj).2.2.2.1 _ _)
    · rw [m.put2_fn _ _ e1] at hi
      rw [m.put2_fn _ _ e2] at hj
      exact h.inj _ _ _ _ _ hi hj
  · simp only [List.length_append,List.length_cons,List.length_nil]
    by_cases e:j = st.h.length
    · subst e
      rw [m.put2_f] at hj
      have:=hx _ _ hj
      exact ⟨by omega,this.1,this.2.1⟩
    · rw [m.put2_fn _ _ e] at hj
      have:=h.rng _ _ _ hj
      omega
  · by_cases e:i' = st.h.length
    · subst e
      rw [m.put2_d] at hp
      obtain ⟨g1,g2,g3,g4,g5,g6,_⟩:=hD _ _ _ _ hp
      refine ⟨⟨o,ju _ _,g1⟩,g2,g3,g4,fun i'' n''=>?_⟩
      by_cases e:i'' = st.h.length
      · subst e; rw [m.put2_f]; exact g5 _
      · rw [m.put2_fn _ _ e]; exact g6 _ _
    · rw [m.put2_dn _ _ e] at hp
      obtain ⟨⟨u,h1,h2⟩,h3,h4,h5,h6⟩:=h.dok _ _ _ _ _ hp
      refine ⟨⟨u,by rw [vS (je h1)]; exact h1,h2⟩,h3,by omega,h5,fun i'' n''=>?_⟩
      by_cases e:i'' = st.h.length
      · subst e
        rw [m.put2_f]
        intro hx'
        exact (hx _ _ hx').2.2.2.2 _ _ _ _ hp
      · rw [m.put2_fn _ _ e]; exact h6 _ _
  · by_cases e1:i1 = st.h.length <;> by_cases e2:i2 = st.h.length
    · subst e1; subst e2
      rw [m.put2_d] at h1 h2
      obtain ⟨g1,g2⟩:=hDi _ _ _ _ _ _ _ h1 h2
      exact ⟨rfl,g1,g2⟩
    · subst e1
      rw [m.put2_d] at h1
      rw [m.put2_dn _ _ e2] at h2
      exact absurd h2 ((hD _ _ _ _ h1).2.2.2.2.2.2 _ _ _ _)
    · subst e2
      rw [m.put2_d] at h2
      rw [m.put2_dn _ _ e1] at h1
      exact absurd h1 ((hD _ _ _ _ h2).2.2.2.2.2.2 _ _ _ _)
    · rw [m.put2_dn _ _ e1] at h1
      rw [m.put2_dn _ _ e2] at h2
      exact h.din _ _ _ _ _ _ _ _ _ h1 h2
  · obtain ⟨el,fz,hw⟩:=h.fok k c hk
    have hlt:k < w.heap.size:=(Array.getElem?_eq_some_iff.1 hw).1
    refine ⟨el,fz,?_⟩
    rw [hbl k hlt fun n hn=>by have:=(hx _ _ hn).2.2.1; rw [this] at hk; cases hk]
    exact hw
  · have hs:=h.bel.size
    refine h.bel.trans ⟨hos,htape,hout,hsz,fun k hk=>hbl k (by omega) fun n hn=>?_⟩
    have:=(hx _ _ hn).1
    omega
def mkO (τ:Ty) (k:Option Nat) (xs:List τ.I):Obj:=match k with | none=>.row τ xs false | some n=>.drow τ xs n
def kOk (τ:Ty) (k:Option Nat) (xs:List τ.I):Prop:=match k with | none=>True | some n=>n ≤ xs.length ∧ τ.deep = true
theorem zo6 (τ:Ty) (k:Option Nat) (xs:List τ.I):rowTL (mkO τ k xs) = some (τ,xs.length):=by cases k <;> rfl
theorem zqG {h:List Obj} {i b n:Nat} {τ:Ty} {k:Option Nat} {xs:List τ.I} (hr:z6 P h m F w i (mkO τ k xs)) (hm:m i = some (b,n)):zkP P F w b n (RC P F w (m.d i) τ k xs):=by
  cases k with
  | none =>
    simp only [mkO,z6,hm] at hr
    obtain ⟨el,fr,cs,c,d,h1,h2,h3,h4,h5,rfl⟩:=hr
    exact ⟨el,cs,c,d,h1,h2,h3,h5,h4⟩
  | some k =>
    simp only [mkO,z6,hm] at hr
    exact hr.2.2
theorem zDA {h:List Obj} {i:Nat} {τ:Ty} {k:Option Nat} {xs:List τ.I} (hr:z6 P h m F w i (mkO τ k xs)) (hm:m i = none):xs = []:=by
  cases k with
  | none=>simp only [mkO,z6,hm] at hr; exact hr
  | some k=>simp only [mkO,z6,hm] at hr; exact hr.2.2
theorem zMS {h:List Obj} {i:Nat} {τ:Ty} {k:Option Nat} {xs:List τ.I} (hr:z6 P h m F w i (mkO τ k xs)):kOk τ k xs:=by
  cases k with
  | none=>trivial
  | some k=>exact ⟨hr.1,hr.2.1⟩
theorem zJt {h:List Obj} {i b n:Nat} {τ:Ty} {k:Option Nat} {xs:List τ.I} (hk:kOk τ k xs) (hm:m i = some (b,n)) (hr:zkP P F w b n (RC P F w (m.d i) τ k xs)):z6 P h m F w i (mkO τ k xs):=by
  cases k with
  | none =>
    obtain ⟨el,cs,c,d,h1,h2,h3,h4,h5⟩:=hr
    simp only [mkO,z6,hm]
    exact ⟨el,(0,0),cs,c,d,h1,h2,h3,h5,h4,rfl⟩
  | some k =>
    simp only [mkO,z6,hm]
    exact ⟨hk.1,hk.2,hr⟩
theorem zHb {h:List Obj} {i:Nat} {τ:Ty} {k:Option Nat} (hk:kOk τ k []) (hm:m i = none):z6 P h m F w i (mkO τ k []):=by
  cases k with
  | none=>simp only [mkO,z6,hm]
  | some k=>simp only [mkO,z6,hm]; exact ⟨hk.1,hk.2,trivial⟩
theorem RC.length {D:Nat→List Nat→Option (Nat × Nat)} {τ:Ty} {k:Option Nat} {xs:List τ.I} {c:List Value} (h:RC P F w D τ k xs c):c.length = xs.length * nc τ:=by
  cases k with
  | none=>exact RepL.length (fun z c h=>Rep.length (P:=P) (F:=F) (x:=z) h) _ _ h
  | some k=>exact z5.length (fun i x c h=>DE.length h) _ _ _ h
theorem z5.append {α:Type} {R:Nat→α→List Value→Prop}:∀ {xs ys:List α} {i:Nat} {c d:List Value},z5 R i xs c→z5 R (i + xs.length) ys d→z5 R i (xs ++ ys) (c ++ d)
  | [],ys,i,c,d,h1,h2=>by cases h1; simpa using h2
  | x :: xs,ys,i,_,d,⟨c1,c2,e,h1,h2⟩,h3=>by
    subst e
    refine ⟨c1,c2 ++ d,by rw [List.append_assoc],h1,z5.append h2 ?_⟩
    rw [show i + 1 + xs.length = i + (x :: xs).length by simp only [List.length_cons]; omega]
    exact h3
theorem RC.append {D:Nat→List Nat→Option (Nat × Nat)} {τ:Ty} {k:Option Nat} {xs ys:List τ.I} {c d:List Value} (hk:kOk τ k xs) (h:RC P F w D τ k xs c) (h':RepL (Rep P F τ) ys d):RC P F w D τ k (xs ++ ys) (c ++ d):=by
  cases k with
  | none=>exact RepL.append _ _ _ _ h h'
  | some k =>
    refine z5.append h (z5.ofL (fun j x c hj hx=>?_) h')
    unfold DE
    rw [if_neg (by have:=hk.1; omega)]
    exact hx
theorem RC.mono {w':World} {D:Nat→List Nat→Option (Nat × Nat)} {τ:Ty} {k:Option Nat} {xs:List τ.I} {c:List Value} (hw:∀ j p b n,D j p = some (b,n)→w'.heap[b]? = w.heap[b]?) (h:RC P F w D τ k xs c):RC P F w' D τ k xs c:=by
  cases k with
  | none=>exact h
  | some k=>exact z5.mono (fun j x c _ _ hx=>hx.mono (.refl F) (fun _=>rfl) fun p b n hp=>⟨hw _ _ _ _ hp,fun hn=>hn⟩) h
theorem zHN {τ:Ty} {k:Option Nat} {xs ys:List τ.I} {j:Nat}:(mkO τ k xs).deepAt j = (mkO τ k ys).deepAt j:=by cases k <;> rfl
end
end Go.Ev
end
section
namespace Go.Ev
open Go.RowKit
section
variable {P:Program} {nt:Up} {F0 F G:FH} {w0 w:World} {st st':St} {m:MM} {a:Act} {E:Env} {v:AV} {u:Value}
def zKF (P:Program) (F:FH) (w w':World) (m:MM) (id:Nat) (τ:Ty) (k:Option Nat) (xs0:List τ.I) (newc:List Value) (n:Nat) (u:Value):Option (Nat × Nat)→Prop
 | some (b,nn)=>((∃ n0,m id = some (b,n0)) ∨ w.heap.size ≤ b) ∧ b < w'.heap.size ∧ F b = none ∧ (∃ cap,nn = cap * nc τ ∧ xs0.length + n ≤ cap ∧ u = .slice (some ⟨b,0,none⟩) (xs0.length + n) cap) ∧
  ∃ c el cs d,w'.heap[b]? = some (.cells cs el (0,0)) ∧ cs.size = nn ∧ cs.toList = (c ++ newc) ++ d ∧ RC P F w (m.d id) τ k xs0 c
 | none=>n = 0 ∧ xs0 = [] ∧ ∃ ad,u = .slice ad 0 0
theorem zvj {ts:Array TypeId} {ty e:TypeId} {i:TypeInfo} {z q p:Value} {τ:Ty} {id n:Nat} {k:Option Nat} {xs0:List τ.I} {newc:List Value} (h:Rel P nt F0 w0 st m F a w) (ho:atN st.h id = some (mkO τ k xs0)) (hx:zh P st.h m F (.ow id) p)
 (hok:zxI P ts e i z q newc n w) (hsz:i.size = nc τ) (hzc:z.cells.size = nc τ) (hnl:newc.length = n * nc τ) (hone:∀ x ∈ newc,x.oneCell' = true) (hnil:n = 0→newc = []) (hlim:∀ cap,cap < xs0.length + n→¬ Builtin.nextslicecap (xs0.length + n) cap * i.bytes > 2 ^ 48) :
 ∃ u w' x,(Builtin.append_ ts ty #[p,q]).run P w = .ok u w' ∧ w'.os = w.os ∧ w'.tape = w.tape ∧ w'.output = w.output ∧ w.heap.size ≤ w'.heap.size ∧ (∀ b,b < w.heap.size→(∀ n,x ≠ some (b,n))→w'.heap[b]? = w.heap[b]?) ∧
  zKF P F w w' m id τ k xs0 newc n u x:=by
 have hob:=h.obs id _ ho
 have hq:=hx.owAt ho (zo6 τ k xs0)
 have hgrow:∀ (ad:Option Addr) (cap:Nat) (oldc:List Value),p = .slice ad xs0.length cap→cap < xs0.length + n→RC P F w (m.d id) τ k xs0 oldc →
  (∀ w',w'.heap = w.heap→(Builtin.firstCells i.size xs0.length (.slice ad xs0.length cap)).run P w' = .ok oldc.toArray w') →
  ∃ u w' x,(Builtin.append_ ts ty #[p,q]).run P w = .ok u w' ∧ w'.os = w.os ∧ w'.tape = w.tape ∧ w'.output = w.output ∧ w.heap.size ≤ w'.heap.size ∧ (∀ b,b < w.heap.size→(∀ n,x ≠ some (b,n))→w'.heap[b]? = w.heap[b]?) ∧
  zKF P F w w' m id τ k xs0 newc n u x:=by
  rintro ad cap oldc rfl hcap ho1 ho2
  obtain ⟨ncap,hn1,hrun⟩:=znt (ty:=ty) (base:=ad) hok (len:=xs0.length) (cap:=cap) (oldc:=oldc) hcap (hlim cap hcap) ho2
  have hol:=ho1.length
  refine ⟨_,_,some (w.heap.size,ncap * nc τ),hrun,rfl,rfl,rfl,by simp,fun b hb _=>by simp [Array.getElem?_push]; omega,.inr (Nat.le_refl _),by simp,h.noF,⟨ncap,rfl,hn1,rfl⟩,oldc,e,oldc.toArray ++ newc.toArray ++ Builtin.zeroCells z.cells (ncap - (xs0.length + n)),(Builtin.zeroCells z.cells (ncap - (xs0.length + n))).toList,by simp,?_,by simp,ho1⟩
  simp only [Array.size_append,List.size_toArray,zo5,hzc,hol,hnl]
  rw [← Nat.add_mul,← Nat.add_mul]
  congr 1
  omega
 cases hmi:m id with
 | none =>
  rw [hmi] at hq
  obtain ⟨hl0,ad,rfl⟩:=hq
  obtain rfl:=List.length_eq_zero_iff.1 hl0
  have hrc:RC P F w (m.d id) τ k [] []:=by cases k <;> rfl
  by_cases hn:n = 0
  ·subst hn
   have hnc:=hnil rfl
   have hroom:=zhW (ty:=ty) (base:=ad) (len:=0) (cap:=0) hok (by omega)
   have hst:(zo4 ad (0 * i.size) newc).run P w = .ok () w:=by
    rw [hnc]; cases ad <;> rfl
   rw [hst] at hroom
   simp only [Result.andThen_ok,Nat.add_zero] at hroom
   exact ⟨_,w,none,hroom,rfl,rfl,rfl,Nat.le_refl _,fun _ _ _=>rfl,rfl,rfl,ad,rfl⟩
  ·exact hgrow ad 0 [] rfl (by simp; omega) hrc (fun w' _=>by cases ad <;> simp [Builtin.firstCells,loadCells,loadCellsFrom])
 | some bn =>
  obtain ⟨b,nn⟩:=bn
  rw [hmi] at hq
  obtain ⟨cap,hncap,hcap,rfl⟩:=hq
  obtain ⟨el,cs,c,d,h1,h2,h3,hFb,h4⟩:=zqG hob hmi
  have hcl:=h4.length
  by_cases hroom:xs0.length + n ≤ cap
  ·have hrun:=zhW (ty:=ty) (base:=some ⟨b,0,none⟩) (len:=xs0.length) (cap:=cap) hok hroom
   have hcsl:cs.size = c.length + d.length:=by rw [← Array.length_toList,h3]; simp
   have hfit:xs0.length * nc τ + newc.length ≤ cs.size:=by
    rw [hnl,← Nat.add_mul,h2,hncap]
    exact Nat.mul_le_mul_right _ hroom
   have hst:=run_storeCells_at (P:=P) b (xs0.length * nc τ) el newc 0 cs w h1 (by omega) hone
   simp only [zo4] at hrun
   rw [qw,Nat.zero_add,hsz] at hrun
   rw [hst] at hrun
   simp only [Result.andThen_ok,Nat.add_zero] at hrun
   have hr:=h.rng _ _ _ hmi
   refine ⟨_,_,some (b,nn),hrun,rfl,rfl,rfl,by simp,fun k hk hne=>setRow_other w b k _ (fun e=>hne nn (by rw [e])),.inl ⟨_,hmi⟩,by simpa using hr.2.2,hFb,⟨cap,hncap,hroom,rfl⟩,c,el,_,d.drop newc.length,setRow_heap w b _ _ el _ h1,?_,?_,h4⟩
   ·simp only [List.size_toArray,List.length_append,List.length_take,List.length_drop,Array.length_toList]
    omega
   ·have e1:cs.toList.take (xs0.length * nc τ) = c:=by rw [h3,← hcl,List.take_left']; rfl
    have e2:cs.toList.drop (xs0.length * nc τ + newc.length) = d.drop newc.length:=by rw [h3,← hcl,List.drop_length_add_append]
    rw [e1,e2]
  ·refine hgrow (some ⟨b,0,none⟩) cap c rfl (by omega) h4 (fun w' hw'=>?_)
   have:=run_loadCells_list (P:=P) w' ⟨b,0,none⟩ c (fun j x hj=>by
    have hlt:=(List.getElem?_eq_some_iff.1 hj).1
    rw [qw]
    have h1':w'.heap[b]? = some (.cells cs el (0,0)):=by rw [hw']; exact h1
    rw [jy h1',h3,Nat.zero_add,List.getElem?_append_left hlt]; exact hj)
   rw [hcl,← hsz] at this
   exact this
theorem RepL.one {τ:Ty}:∀ {ys:List τ.I} {c:List Value},RepL (Rep P F τ) ys c→∀ x ∈ c,x.oneCell' = true
 | [],c,h=>by cases h; simp
 | y :: ys,_,⟨c1,d1,e,g1,g2⟩=>by
  subst e
  intro x hx
  rcases List.mem_append.1 hx with hx | hx
  ·exact Rep.one g1 x hx
  ·exact RepL.one g2 x hx
theorem zxJ {τ:Ty} {id n:Nat} {k k':Option Nat} {xs0 zs:List τ.I} {newc:List Value} {u:Value} {w':World} {x:Option (Nat × Nat)} {D:Nat→List Nat→Option (Nat × Nat)} (h:Rel P nt F0 w0 st m F a w) (ho:atN st.h id = some (mkO τ k xs0))
 (hos:w'.os = w.os) (htape:w'.tape = w.tape) (hout:w'.output = w.output) (hsz:w.heap.size ≤ w'.heap.size) (hbl:∀ b,b < w.heap.size→(∀ n,x ≠ some (b,n))→w'.heap[b]? = w.heap[b]?)
 (hx:zKF P F w w' m id τ k xs0 newc n u x)
 (hzl:zs.length = xs0.length + n) (hk':kOk τ k' zs) (hrc:∀ c,RC P F w (m.d id) τ k xs0 c→RC P F w' D τ k' zs (c ++ newc)) (hz0:xs0 = []→n = 0→zs = [])
 (hDd:∀ j p b n,D j p = some (b,n)→(mkO τ k' zs).deepAt j = true ∧ w0.heap.size ≤ b ∧ b < w.heap.size ∧ F b = none ∧ (∀ i n',m i ≠ some (b,n')) ∧ ∀ i j p n',i ≠ id→m.d i j p ≠ some (b,n'))
 (hDi:∀ j p b n j' p' n',D j p = some (b,n)→D j' p' = some (b,n')→j = j' ∧ p = p') :
 ∃ m',Rel P nt F0 w0 ⟨st.fr,zf st.h id .gone ++ [mkO τ k' zs]⟩ m' F a w' ∧ zh P (zf st.h id .gone ++ [mkO τ k' zs]) m' F (.ow st.h.length) u:=by
 obtain ⟨g1,g2⟩:=h.kill ho
 have hl:(zf st.h id .gone).length = st.h.length:=by simp [qS]
 have hkf:∀ i b,(m.kill id) i = some b→i ≠ id ∧ m i = some b:=fun i b hb=>MM.kill_f hb
 have hkd:∀ i j p b,(m.kill id).d i j p = some b→i ≠ id ∧ m.d i j p = some b:=fun i j p b hb=>MM.kill_d hb
 have had:=g1.adopt (o:=mkO τ k' zs) (w':=w') (x:=x) (D:=D) hos htape hout hsz hbl (fun b nn hxb=>?_) (fun j p b n' hp=>?_) hDi ?_
 ·simp only [hl] at had
  refine ⟨_,had.1,.inr ⟨_,τ,zs.length,by rw [← hl]; exact ju _ _,zo6 _ _ _,?_⟩⟩
  rw [MM.put2_f]
  match x,hx with
  | some (b,nn),hx =>
   obtain ⟨_,_,_,⟨cap,e1,e2,e3⟩,_⟩:=hx
   exact ⟨cap,e1,by omega,by rw [hzl]; exact e3⟩
  | none,hx =>
   obtain ⟨e1,e2,ad,e3⟩:=hx
   exact ⟨by rw [hzl,e2,e1]; rfl,ad,e3⟩
 ·subst hxb
  obtain ⟨e1,e2,e3,_⟩:=hx
  have hs:=h.bel.size
  have hb0:w0.heap.size ≤ b:=by
   rcases e1 with ⟨n0,hn0⟩ | e1
   ·exact (h.rng _ _ _ hn0).2.1
   ·omega
  refine ⟨hb0,e2,e3,fun i n' hi=>?_,fun i j p n' hp=>?_⟩
  ·obtain ⟨hne,hi⟩:=hkf _ _ hi
   rcases e1 with ⟨n0,hn0⟩ | e1
   ·exact hne (h.inj _ _ _ _ _ hi hn0)
   ·have:=h.rng _ _ _ hi; omega
  ·obtain ⟨hne,hp⟩:=hkd _ _ _ _ hp
   have hd:=h.dok _ _ _ _ _ hp
   rcases e1 with ⟨n0,hn0⟩ | e1
   ·exact hd.2.2.2.2 _ _ hn0
   ·have:=hd.2.2.1; omega
 ·obtain ⟨f1,f2,f3,f4,f5,f6⟩:=hDd _ _ _ _ hp
  refine ⟨f1,f2,by omega,f4,fun n'' hx'=>?_,fun i n'' hi=>f5 i n'' (hkf _ _ hi).2,fun i j' p' n'' hp'=>?_⟩
  ·subst hx'
   obtain ⟨e1,_⟩:=hx
   rcases e1 with ⟨n0,hn0⟩ | e1
   ·exact f5 _ _ hn0
   ·omega
  ·obtain ⟨hne,hp'⟩:=hkd _ _ _ _ hp'
   exact f6 _ _ _ _ hne hp'
 ·cases x with
  | none =>
   obtain ⟨e1,e2,_⟩:=hx
   obtain rfl:=hz0 e2 e1
   refine zHb hk' ?_
   rw [MM.put2_f]
  | some bn =>
   obtain ⟨b,nn⟩:=bn
   obtain ⟨_,_,e3,_,c,el,cs,d,f1,f2,f3,f4⟩:=hx
   refine zJt (b:=b) (n:=nn) hk' (by rw [MM.put2_f]) ?_
   rw [MM.put2_d]
   exact ⟨el,cs,c ++ newc,d,f1,f2,f3,e3,hrc c f4⟩
theorem znu {big:Bool} {ts:Array TypeId} {ty e:TypeId} {i:TypeInfo} {z q:Value} {τ:Ty} {x:AV} {p:Value} {ys:List τ.I} {newc:List Value} (h:Rel P nt F0 w0 st m F a w) (hx:zh P st.h m F x p)
 (hok:zxI P ts e i z q newc ys.length w) (hsz:i.size = nc τ) (hzc:z.cells.size = nc τ) (hbt:i.bytes = τ.bts) (hr:RepL (Rep P F τ) ys newc) (he:yW big τ x ys st pk = some (v,st')) :
 ∃ u w',(Builtin.append_ ts ty #[p,q]).run P w = .ok u w' ∧ jR P nt F0 w0 st' a F v u w':=by
 have hn:∀ (z:τ.I) c,Rep P F τ z c→c.length = nc τ:=fun z c h=>Rep.length h
 have hnl:=RepL.length hn _ _ hr
 have own:∀ (id:Nat) (k:Option Nat) (xs0:List τ.I),x = .ow id→atN st.h id = some (mkO τ k xs0)→j8 big τ (xs0.length + ys.length) = true→v = .ow st.h.length→st' = ⟨st.fr,zf st.h id .gone ++ [mkO τ k (xs0 ++ ys)]⟩ →
  ∃ u w',(Builtin.append_ ts ty #[p,q]).run P w = .ok u w' ∧ jR P nt F0 w0 st' a F v u w':=by
  rintro id k xs0 rfl ho hlim rfl rfl
  have hob:=h.obs id _ ho
  have hk:=zMS hob
  obtain ⟨u,w',x,hrun,f1,f2,f3,f4,f5,f6⟩:=zvj (ty:=ty) h ho hx hok hsz hzc hnl hr.one (fun e=>by obtain rfl:=List.length_eq_zero_iff.1 e; exact hr) (fun cap hcap=>zHa hlim hcap hok.small hbt)
  have hk2:kOk τ k (xs0 ++ ys):=by
   cases k with
   | none=>trivial
   | some k=>exact ⟨by rw [List.length_append]; have:=hk.1; omega,hk.2⟩
  have hput:=zxJ (zs:=xs0 ++ ys) (k':=k) (D:=m.d id) (n:=ys.length) (newc:=newc) (u:=u) (x:=x) (w':=w') h ho f1 f2 f3 f4 f5 f6 (by simp) hk2 (fun c hc=>?_) (fun e1 e2=>by rw [e1,List.length_eq_zero_iff.1 e2]; exact List.nil_append _) (fun j pp b nn hp=>?_) (fun j pp b nn j' pp' nn' h1 h2=>(h.din _ _ _ _ _ _ _ _ _ h1 h2).2)
  ·obtain ⟨m',r1,r2⟩:=hput
   exact ⟨u,w',hrun,m',F,.refl F,r1,r2⟩
  ·refine (RC.append hk hc hr).mono fun j pp b nn hp=>f5 b (h.dok _ _ _ _ _ hp).2.2.1 fun n' hx'=>?_
   subst hx'
   rcases f6.1 with ⟨n0,hn0⟩ | e1
   ·exact (h.dok _ _ _ _ _ hp).2.2.2.2 _ _ hn0
   ·have:=(h.dok _ _ _ _ _ hp).2.2.1; omega
  ·obtain ⟨⟨u',g1,g2⟩,g3,g4,g5,g6⟩:=h.dok _ _ _ _ _ hp
   rw [ho] at g1; cases g1
   exact ⟨by rw [zHN (ys:=xs0)]; exact g2,g3,g4,g5,g6,fun i' j' p' n' hne hp'=>hne (h.din _ _ _ _ _ _ _ _ _ hp' hp).1⟩
 have hgrown:∀ (xs:List τ.I) (oldc:List Value) (ncap:Nat),RepL (Rep P F τ) xs oldc→xs.length + ys.length ≤ ncap →
  RepL (Rep P F τ) (xs ++ ys) (oldc ++ newc) ∧ (oldc.toArray ++ newc.toArray ++ Builtin.zeroCells z.cells (ncap - (xs.length + ys.length))).toList = (oldc ++ newc) ++ (Builtin.zeroCells z.cells (ncap - (xs.length + ys.length))).toList ∧
   (oldc.toArray ++ newc.toArray ++ Builtin.zeroCells z.cells (ncap - (xs.length + ys.length))).size = ncap * nc τ:=by
  intro xs oldc ncap h1 h2
  have hol:=RepL.length hn _ _ h1
  refine ⟨RepL.append _ _ _ _ h1 hr,by simp,?_⟩
  simp only [Array.size_append,List.size_toArray,zo5,hzc,hol,hnl]
  rw [← Nat.add_mul,← Nat.add_mul]
  congr 1
  omega
 unfold yW at he
 split at he
 ·rename_i σ xs0
  split at he
  ·rename_i xs hc
   obtain ⟨e1,e2⟩:=zP hc
   cases e1
   cases e2
   obtain ⟨hlim,he⟩:=zb he
   have hcp:xs0.length < xs0.length + ys.length→¬ Builtin.nextslicecap (xs0.length + ys.length) xs0.length * i.bytes > 2 ^ 48:=fun hlt=>zHa hlim hlt hok.small hbt
   obtain ⟨ad,rfl,hm⟩:=(show zF P st.h m F (.clip τ xs0) p from hx)
   have hold:∃ oldc,RepL (Rep P F τ) xs0 oldc ∧ ∀ w',w'.heap = w.heap→(Builtin.firstCells i.size xs0.length (.slice ad xs0.length xs0.length)).run P w' = .ok oldc.toArray w':=by
    obtain ⟨c,h1,_,h3⟩:=zvi (P:=P) (F:=F) (w:=w) (τ:=τ) (ys:=xs0) (q:=.slice ad xs0.length xs0.length) ⟨⟨ad,_,rfl,Nat.le_refl _,hm⟩,rfl⟩ h.fok
    exact ⟨c,h1,by rw [hsz]; exact h3⟩
   obtain ⟨oldc,ho1,ho2⟩:=hold
   cases hys:ys with
   | nil =>
    have hnc:newc = []:=by rw [hys] at hr; exact hr
    have hroom:=zhW (ty:=ty) (base:=ad) (len:=xs0.length) (cap:=xs0.length) hok (by rw [hys]; simp)
    have hst:(zo4 ad (xs0.length * i.size) newc).run P w = .ok () w:=by
     rw [hnc]; cases ad <;> rfl
    rw [hst] at hroom
    simp only [Result.andThen_ok,hys,List.length_nil,Nat.add_zero] at hroom
    rw [hys] at he
    refine ⟨_,w,hroom,?_⟩
    cases xs0 with
    | nil =>
     simp only [List.isEmpty_nil,cond_true] at he
     cases he
     obtain ⟨h5,h6,_⟩:=zfP τ ad h
     exact ⟨m,F,.refl F,h5,h6⟩
    | cons y xs1 =>
     simp only [List.isEmpty_cons,cond_false,List.isEmpty_nil,cond_true] at he
     cases he
     exact ⟨m,F,.refl F,h,ad,rfl,hm⟩
   | cons y ys1 =>
    have hpos:0 < ys.length:=by rw [hys]; simp
    obtain ⟨ncap,hn1,hrun⟩:=znt (ty:=ty) (base:=ad) hok (len:=xs0.length) (cap:=xs0.length) (oldc:=oldc) (by omega) (hcp (by omega)) ho2
    obtain ⟨h3,h4,h5⟩:=hgrown xs0 oldc ncap ho1 hn1
    refine ⟨_,_,hrun,?_⟩
    have hst':v = .ow st.h.length ∧ st' = ⟨st.fr,st.h ++ [qQ τ (xs0 ++ ys)]⟩:=by
     cases xs0 with
     | nil=>simp only [List.isEmpty_nil,cond_true,List.nil_append] at he ⊢; cases he; exact ⟨rfl,rfl⟩
     | cons y' xs1=>rw [hys] at he ⊢; simp only [List.isEmpty_cons,cond_false] at he; cases he; exact ⟨rfl,rfl⟩
    obtain ⟨rfl,rfl⟩:=hst'
    obtain ⟨h6,h7⟩:=znr (w':={ w with drawn:=w.drawn + 1,heap:=w.heap.push (.cells (oldc.toArray ++ newc.toArray ++ Builtin.zeroCells z.cells (ncap - (xs0.length + ys.length))) e) }) (el:=e) (xs:=xs0 ++ ys) (cap:=ncap) h h4 h3 h5 (by simp; omega) rfl rfl rfl rfl
    refine ⟨_,F,.refl F,h6,?_⟩
    have:=h7
    rw [List.length_append] at this
    exact this
  ·cases he
 ·rename_i id
  split at he
  ·rename_i σ xs0 ho
   split at he
   ·rename_i xs hc
    obtain ⟨e1,e2⟩:=zP hc
    cases e1
    cases e2
    obtain ⟨hlim,he⟩:=zb he
    cases he
    exact own id none xs0 rfl ho hlim rfl rfl
   ·cases he
  ·rename_i σ xs0 k ho
   split at he
   ·rename_i xs hc
    obtain ⟨e1,e2⟩:=zP hc
    cases e1
    cases e2
    obtain ⟨hlim,he⟩:=zb he
    cases he
    exact own id (some k) xs0 rfl ho hlim rfl rfl
   ·cases he
  ·cases he
 ·cases he
theorem zaA {τ:Ty} {z:Value} (h:zV P F τ (ze τ) z):z.cells.size = nc τ:=by
 have:=Rep.length h.1; simpa using this
theorem zDB {t:TypeId} {b:Nat} {i:TypeInfo} (h:P.bytesOf t = b) (hi:P.info? t = some i):i.bytes = b:=by
 unfold Program.bytesOf at h
 rw [hi] at h
 exact h
theorem zrr {t t':TypeId} {ts:Array TypeId} {ty:TypeId} {x y:AV} {p q:Value} (hE:EnvOk P G E) (h:Rel P nt F0 w0 st m F a w) (hx:zh P st.h m F x p) (hy:zh P st.h m F y q)
 (hts:ts.toList = [t,t']) (he:za1 E t t' x y st pk = some (v,st')) :
 ∃ u w',(Builtin.append_ ts ty #[p,q]).run P w = .ok u w' ∧ jR P nt F0 w0 st' a F v u w':=by
 have ht0:ts[0]? = some t:=by rw [← Array.getElem?_toList,hts]; rfl
 have ht1:ts[1]? = some t':=by rw [← Array.getElem?_toList,hts]; rfl
 unfold za1 at he
 split at he
 ·rename_i τ ys st1 hz
  obtain ⟨h1,h2⟩:=zb he
  simp only [Bool.and_eq_true] at h1
  obtain ⟨m1,F',h4,h5,h6⟩:=vT hz h hy
  obtain ⟨e,hu,he2,hpos,hnp⟩:=(hE.types t _ (Env.is_spec h1.1)).sl
  obtain ⟨e',hu',_⟩:=(hE.types t' _ (Env.is_spec h1.2)).sl
  obtain ⟨i,z,g1,g2,g3,g4,g5⟩:=jQ (he2.head (Ty.np_spec hnp))
  obtain ⟨newc,k1,k2,k3⟩:=zvi h5 h4.fok
  have hbytes:=zos (he2.head (Ty.np_spec hnp)) g1
  obtain ⟨u,w',hrun,m',F2,r1,r2,r3⟩:=znu (ty:=ty) h4 (hx.ext h6) ⟨⟨t,ht0,hu⟩,⟨t',ht1,.inl ⟨e',hu'⟩⟩,g1,g4,hbytes,g3,k2,by rw [g2]; exact k3⟩ g2 (zaA (g5 F')) (zDB (he2.bts (Ty.np_spec hnp)) g1) k1 h2
  exact ⟨u,w',hrun,m',F2,h6.le.trans r1,r2,r3⟩
 ·rename_i s st1 hz
  obtain ⟨h1,h2⟩:=zb he
  simp only [Bool.and_eq_true] at h1
  obtain ⟨m1,F',h4,h5,h6⟩:=vT hz h hy
  obtain ⟨e,hu,he2,hpos,hnp⟩:=(hE.types t _ (Env.is_spec h1.1)).sl
  have hu':=(hE.types t' _ (Env.is_spec h1.2)).str
  obtain ⟨i,z,g1,g2,g3,g4,g5⟩:=jQ (he2.head (Ty.np_spec hnp))
  obtain rfl:=h5.str'
  obtain ⟨newc,k1,k2,k3⟩:=zJs (P:=P) (F:=F') (s:=s)
  have hbytes:=zos (he2.head (Ty.np_spec hnp)) g1
  have hl:((ByteArray.data s).toList.map fun b=>(b.toNat:Int)).length = ByteArray.size s:=by rw [List.length_map]; rfl
  obtain ⟨u,w',hrun,m',F2,r1,r2,r3⟩:=znu (ty:=ty) (τ:=.int .u8) h4 (hx.ext h6) ⟨⟨t,ht0,hu⟩,⟨t',ht1,.inr hu'⟩,g1,g4,hbytes,g3,by rw [hl]; exact k2,by rw [g2,hl]; exact fun w' _=>k3 w'⟩ g2 (zaA (g5 F')) (zDB (he2.bts (Ty.np_spec hnp)) g1) k1 h2
  exact ⟨u,w',hrun,m',F2,h6.le.trans r1,r2,r3⟩
 ·cases he
theorem DSl.one {o:Option (Nat × Nat)} {σ:Ty} {xs:List σ.I} {cs:List Value} (h:DSl P F w o σ xs cs):∀ x ∈ cs,x.oneCell' = true:=by
 unfold DSl at h
 split at h
 ·obtain ⟨cap,_,_,rfl,_⟩:=h; intro x hx; simp only [List.mem_singleton] at hx; subst hx; rfl
 ·obtain ⟨_,ad,rfl⟩:=h; intro x hx; simp only [List.mem_singleton] at hx; subst hx; rfl
theorem DFl.one {o:Option (Nat × Nat)} {τ:Ty} {x:τ.I} {cs:List Value} (h:DFl P F w o τ x cs):∀ x ∈ cs,x.oneCell' = true:=by
 by_cases e:∃ σ,τ = .sl σ
 ·obtain ⟨σ,rfl⟩:=e
  exact DSl.one h
 ·rw [DFl.flat (fun σ hσ=>e ⟨σ,hσ⟩)] at h
  exact Rep.one h
theorem DC.one {D:List Nat→Option (Nat × Nat)}:∀ {b:Ty} {i:Nat} {x:b.I} {cs:List Value},DC P F w D b i x cs→∀ x ∈ cs,x.oneCell' = true:=by
 intro b
 induction b with
 | pair a b _ ihb =>
  rintro i x cs ⟨c,d,rfl,h1,h2⟩ y hy
  rcases List.mem_append.1 hy with hy | hy
  ·exact h1.one y hy
  ·exact ihb h2 y hy
 | unit=>intro i x cs h; cases h; simp
 | _=>intro i x cs h; exact h.elim
theorem DE.one {D:Nat→List Nat→Option (Nat × Nat)} {τ:Ty} {k i:Nat} {x:τ.I} {cs:List Value} (h:DE P F w D τ k i x cs):∀ x ∈ cs,x.oneCell' = true:=by
 unfold DE at h
 split at h
 ·cases τ with
  | sl σ=>exact DSl.one h
  | st b=>exact DC.one (b:=b) h
  | _=>exact h.elim
 ·exact Rep.one h
theorem z5.all {α:Type} {R:Nat→α→List Value→Prop} (hR:∀ i x c,R i x c→∀ y ∈ c,y.oneCell' = true):∀ {xs:List α} {i:Nat} {c:List Value},z5 R i xs c→∀ y ∈ c,y.oneCell' = true
 | [],_,_,e=>by cases e; simp
 | x :: xs,i,_,⟨c,d,e,h1,h2⟩=>by
  subst e
  intro y hy
  rcases List.mem_append.1 hy with hy | hy
  ·exact hR _ _ _ h1 y hy
  ·exact z5.all hR h2 y hy
theorem z5.shift {α:Type} {R R':Nat→α→List Value→Prop} {k:Nat} (hR:∀ j x c,R j x c→R' (k + j) x c):∀ {xs:List α} {i:Nat} {c:List Value},z5 R i xs c→z5 R' (k + i) xs c
 | [],_,_,e=>e
 | x :: xs,i,_,⟨c,d,e,h1,h2⟩=>⟨c,d,e,hR _ _ _ h1,z5.shift hR h2⟩
theorem zv6 {t t':TypeId} {ts:Array TypeId} {ty:TypeId} {id jd n mm:Nat} {τ σ:Ty} {xs:List τ.I} {ys:List σ.I} {p q:Value} (hE:EnvOk P G E) (h:Rel P nt F0 w0 st m F a w) (hx:zh P st.h m F (.ow id) p) (hy:zh P st.h m F (.ow jd) q)
 (ho:atN st.h id = some (.drow τ xs n)) (hoj:atN st.h jd = some (.drow σ ys (mm + 1))) (hts:ts.toList = [t,t']) (he:y7 E t t' id τ xs n jd σ ys (mm + 1) st pk = some (v,st')) :
 ∃ u w',(Builtin.append_ ts ty #[p,q]).run P w = .ok u w' ∧ jR P nt F0 w0 st' a F v u w':=by
 have ht0:ts[0]? = some t:=by rw [← Array.getElem?_toList,hts]; rfl
 have ht1:ts[1]? = some t':=by rw [← Array.getElem?_toList,hts]; rfl
 unfold y7 at he
 split at he
 ·rename_i xs1 hc
  obtain ⟨e1,e2⟩:=zP hc
  cases e1
  cases e2
  obtain ⟨h1,he⟩:=zb he
  obtain ⟨hlim,he⟩:=zb he
  obtain ⟨hn,he⟩:=zb he
  obtain ⟨hmm,he⟩:=zb he
  cases he
  simp only [Bool.and_eq_true,Bool.not_eq_true'] at h1
  obtain ⟨h1,h2,h3⟩:=h1
  have hne:id ≠ jd:=by rintro rfl; simp at h3
  have hlim:List.length xs + ys.length ≤ lim:=of_decide_eq_true hlim
  have hn:n = List.length xs:=of_decide_eq_true hn
  have hmm:mm + 1 = ys.length:=of_decide_eq_true hmm
  obtain ⟨e,hu,he2,hpos,hnp⟩:=(hE.types t _ (Env.is_spec h1)).sl
  obtain ⟨e',hu',_⟩:=(hE.types t' _ (Env.is_spec h2)).sl
  obtain ⟨i,z,g1,g2,g3,g4,g5⟩:=jQ (he2.head (Ty.np_spec hnp))
  have hbytes:=zos (he2.head (Ty.np_spec hnp)) g1
  have hq:=hy.owAt hoj rfl
  cases hmj:m jd with
  | none =>
   have:=h.drow0 hoj hmj
   subst this
   simp at hmm
  | some bn =>
   obtain ⟨b2,n2⟩:=bn
   rw [hmj] at hq
   obtain ⟨cap2,hc1,hc2,rfl⟩:=hq
   obtain ⟨el2,cs2,c2,d2,k1,k2,k3,k4,k5⟩:=h.drow hoj hmj
   have hcl:c2.length = ys.length * nc τ:=z5.length (fun i x c h=>DE.length h) _ _ _ k5
   have hok:zxI P ts e i z (.slice (some ⟨b2,0,none⟩) ys.length cap2) c2 ys.length w:=by
    refine ⟨⟨t,ht0,hu⟩,⟨t',ht1,.inl ⟨e',hu'⟩⟩,g1,g4,hbytes,g3,fun _=>rfl,fun w' hw'=>?_⟩
    have:=run_loadCells_list (P:=P) w' ⟨b2,0,none⟩ c2 (fun j x hj=>by
     have hlt:=(List.getElem?_eq_some_iff.1 hj).1
     rw [qw]
     have h1':w'.heap[b2]? = some (.cells cs2 el2 (0,0)):=by rw [hw']; exact k1
     rw [jy h1',k3,Nat.zero_add,List.getElem?_append_left hlt]; exact hj)
    rw [hcl,← g2] at this
    exact this
   obtain ⟨r1,r2⟩:=h.kill hoj
   have ho':atN (zf st.h jd .gone) id = some (mkO τ (some n) xs):=by rw [qp (Ne.symm hne)]; exact ho
   have hko:=(h.drowk ho)
   have hkf:∀ i b,(m.kill jd) i = some b→i ≠ jd ∧ m i = some b:=fun i b hb=>MM.kill_f hb
   have hkd:∀ i j p b,(m.kill jd).d i j p = some b→i ≠ jd ∧ m.d i j p = some b:=fun i j p b hb=>MM.kill_d hb
   have hkdi:∀ j p,(m.kill jd).d id j p = m.d id j p:=fun j p=>by simp only [MM.kill,hne,if_false]
   obtain ⟨u,w',x,hrun,f1,f2,f3,f4,f5,f6⟩:=zvj (ty:=ty) r1 ho' (hx.ext r2) hok g2 (zaA (g5 F)) hcl (z5.all (fun i x c hx=>DE.one hx) k5) (fun e=>by omega) (fun cap hcap=>zG9 hcap hlim hok.small)
   have hxb:∀ b nn,x = some (b,nn)→(∃ n0,m id = some (b,n0)) ∨ w.heap.size ≤ b:=fun b nn hxe=>by
    subst hxe
    rcases f6.1 with ⟨n0,hn0⟩ | h'
    ·exact .inl ⟨n0,(hkf _ _ hn0).2⟩
    ·exact .inr h'
   have hun:∀ i j p b nn,m.d i j p = some (b,nn)→w'.heap[b]? = w.heap[b]?:=fun i j p b nn hp=>f5 b (h.dok _ _ _ _ _ hp).2.2.1 fun n' hx'=>by
    rcases hxb _ _ hx' with ⟨n0,hn0⟩ | h'
    ·exact (h.dok _ _ _ _ _ hp).2.2.2.2 _ _ hn0
    ·have:=(h.dok _ _ _ _ _ hp).2.2.1; omega
   have hput:=zxJ (zs:=xs ++ ys) (k':=some (n + (mm + 1))) (D:=fun j p=>if j < n then m.d id j p else m.d jd (j - n) p) (n:=ys.length) (newc:=c2) (u:=u) (x:=x) (w':=w') r1 ho' f1 f2 f3 f4 f5 f6 (by simp) ⟨by rw [List.length_append]; omega,hko.2⟩ (fun c hc=>?_) (fun e1 e2=>by omega) (fun j pp b nn hp=>?_) (fun j pp b nn j' pp' nn' q1 q2=>?_)
   ·obtain ⟨m',s1,s2⟩:=hput
    have hcomm:zf (zf st.h jd .gone) id .gone = zf (zf st.h id .gone) jd .gone:=by simp only [qS]; rw [List.set_comm _ _ (Ne.symm hne)]
    have hll:(zf st.h jd .gone).length = st.h.length:=by simp [qS]
    simp only [hcomm,hll] at s1 s2
    exact ⟨u,w',hrun,m',F,.refl F,s1,s2⟩
   ·have hc':z5 (DE P F w ((m.kill jd).d id) τ n) 0 xs c:=hc
    show z5 (DE P F w' _ τ (n + (mm + 1))) 0 (xs ++ ys) (c ++ c2)
    refine z5.append (z5.mono (fun j x c hj1 hj2 hx=>?_) hc') ?_
    ·unfold DE at hx ⊢
     rw [if_pos (by omega)] at hx
     rw [if_pos (by omega)]
     exact zlQ P (.refl F) (fun p=>by rw [hkdi]; simp only [show j < n by omega,if_true]) (fun p b nn hp=>⟨hun _ _ _ _ _ (hkd _ _ _ _ hp).2,fun hn=>hn⟩) _ _ _ hx
    ·rw [Nat.add_comm 0]
     refine z5.shift (R:=DE P F w (m.d jd) τ (mm + 1)) (fun j x c hx=>?_) k5
     unfold DE at hx ⊢
     by_cases e:j < mm + 1
     ·rw [if_pos e] at hx
      rw [if_pos (by omega)]
      exact zlQ P (.refl F) (fun p=>by simp only [show ¬ (xs.length + j < n) by omega,if_false,show xs.length + j - n = j by omega]) (fun p b nn hp=>⟨hun _ _ _ _ _ hp,fun hn=>hn⟩) _ _ _ hx
     ·rw [if_neg e] at hx
      rw [if_neg (by omega)]
      exact hx
   ·
    have key:∀ i0 j0,(i0 = id ∨ i0 = jd)→m.d i0 j0 pp = some (b,nn)→w0.heap.size ≤ b ∧ b < w.heap.size ∧ F b = none ∧ (∀ i n',(m.kill jd) i ≠ some (b,n')) ∧ ∀ i j p n',i ≠ id→(m.kill jd).d i j p ≠ some (b,n'):=by
     intro i0 j0 hi0 hp
     obtain ⟨_,l1,l2,l3,l4⟩:=h.dok _ _ _ _ _ hp
     refine ⟨l1,l2,l3,fun i n' hi=>l4 _ _ (hkf _ _ hi).2,fun i j p n' hne' hp'=>?_⟩
     obtain ⟨l5,l6⟩:=hkd _ _ _ _ hp'
     have:=(h.din _ _ _ _ _ _ _ _ _ l6 hp).1
     rcases hi0 with rfl | rfl <;> omega
    by_cases e:j < n
    ·simp only [e,if_true] at hp
     exact ⟨by simp only [mkO,Obj.deepAt,decide_eq_true_eq]; omega,key id _ (.inl rfl) hp⟩
    ·simp only [e,if_false] at hp
     obtain ⟨⟨o2,l1,l2⟩,_⟩:=h.dok _ _ _ _ _ hp
     rw [hoj] at l1; cases l1
     simp only [Obj.deepAt,decide_eq_true_eq] at l2
     exact ⟨by simp only [mkO,Obj.deepAt,decide_eq_true_eq]; omega,key jd _ (.inr rfl) hp⟩
   ·by_cases e:j < n <;> by_cases e':j' < n
    ·simp only [e,if_true] at q1
     simp only [e',if_true] at q2
     exact (h.din _ _ _ _ _ _ _ _ _ q1 q2).2
    ·simp only [e,if_true] at q1
     simp only [e',if_false] at q2
     exact absurd (h.din _ _ _ _ _ _ _ _ _ q1 q2).1 hne
    ·simp only [e,if_false] at q1
     simp only [e',if_true] at q2
     exact absurd (h.din _ _ _ _ _ _ _ _ _ q1 q2).1 (Ne.symm hne)
    ·simp only [e,if_false] at q1
     simp only [e',if_false] at q2
     have:=(h.din _ _ _ _ _ _ _ _ _ q1 q2).2
     exact ⟨by omega,this.2⟩
 ·cases he
theorem zDC {t t':TypeId} {ts:Array TypeId} {ty:TypeId} {x y:AV} {p q:Value} (hE:EnvOk P G E) (h:Rel P nt F0 w0 st m F a w) (hx:zh P st.h m F x p) (hy:zh P st.h m F y q)
 (hts:ts.toList = [t,t']) (he:zdW E t t' x y st pk = some (v,st')) :
 ∃ u w',(Builtin.append_ ts ty #[p,q]).run P w = .ok u w' ∧ jR P nt F0 w0 st' a F v u w':=by
 unfold zdW at he
 split at he
 ·split at he
  ·rename_i τ xs n σ ys mm ho hoj
   exact zv6 hE h hx hy ho hoj hts he
  ·exact zrr hE h hx hy hts he
 ·exact zrr hE h hx hy hts he
end
end Go.Ev
end
section
namespace Go.Ev
open Go.RowKit
theorem zBi {P:Program} {F:FH}:∀ {b:Ty} {x:b.I} {c:Ty} {y:c.I} {us vs:List Value},RepA P F b x us→RepA P F c y vs→RepA P F (b.join c) (zuh b x c y) (us ++ vs):=by
 intro b
 induction b with
 | unit=>intro x c y us vs h1 h2; cases h1; exact h2
 | pair a b _ ihb =>
  rintro x c y us vs ⟨v,r,rfl,h1,h2,h3⟩ h4
  exact ⟨v,r ++ vs,rfl,h1,h2,ihb h3 h4⟩
 | _=>intro x c y us vs h1 _; exact h1.elim
def zj0 (P:Program) (h:List Obj) (m:MM) (F:FH):List AV→List Value→Prop
 | [],us=>us = []
 | v :: vs,us=>∃ u r,us = u :: r ∧ zE P h m F v u ∧ zj0 P h m F vs r
theorem zj0.length {P:Program} {h:List Obj} {m:MM} {F:FH}:∀ {vs:List AV} {us:List Value},zj0 P h m F vs us→us.length = vs.length
 | [],_,e=>by cases e; rfl
 | _ :: _,_,⟨u,r,rfl,_,h2⟩=>by simp [zj0.length h2]
theorem zj0.get {P:Program} {h:List Obj} {m:MM} {F:FH}:∀ {vs:List AV} {us:List Value},zj0 P h m F vs us→∀ (i:Nat) (v:AV),vs[i]? = some v→∃ u,us[i]? = some u ∧ zE P h m F v u
 | [],_,e,i,v,hv=>by simp at hv
 | _ :: _,_,⟨u,r,rfl,h1,h2⟩,0,v,hv=>by
  simp only [List.getElem?_cons_zero,Option.some.injEq] at hv
  subst hv
  exact ⟨u,rfl,h1⟩
 | _ :: _,_,⟨u,r,rfl,h1,h2⟩,i + 1,v,hv=>by
  obtain ⟨x,hx,hr⟩:=zj0.get h2 i v (by simpa using hv)
  exact ⟨x,by simpa using hx,hr⟩
theorem zdh {P:Program} {h:List Obj} {m:MM} {F:FH} {vs:List AV} {us:List Value} (hr:zj0 P h m F vs us):zh P h m F (unT vs) (zqs us):=by
 have hl:=hr.length
 have hg:=hr.get
 have htup:zh P h m F (.tup vs) (.tuple us.toArray):=⟨us.toArray,rfl,by simpa using hl,fun i v hv=>by
  obtain ⟨x,hx,hx'⟩:=hg i v hv
  exact ⟨x,by simpa using hx,hx'⟩⟩
 match vs,us,hr,htup with
 | [],[],_,htup=>exact htup
 | [v],[u],⟨_,_,e,h1,_⟩,_=>cases e; exact zh.of1 h1
 | _ :: _ :: _,_ :: _ :: _,_,htup=>exact htup
 | [],_ :: _,e,_=>cases e
 | [_],[],⟨_,_,e,_⟩,_=>cases e
 | [_],_ :: _ :: _,⟨_,_,e,_,h2⟩,_=>cases e; cases h2
 | _ :: _ :: _,[],⟨_,_,e,_⟩,_=>cases e
 | _ :: _ :: _,[_],⟨_,_,e,_,_,_,e2,_⟩,_=>cases e; cases e2
theorem yX {P:Program} {h:List Obj} {m:MM} {F:FH}:∀ {τ:Ty} {x:τ.I} {us:List Value},RepA P F τ x us→zj0 P h m F (zb3 τ x) us:=by
 intro τ
 induction τ with
 | unit=>intro x us h1; exact h1
 | pair a b _ ihb=>rintro x us ⟨v,r,rfl,h1,h2,h3⟩; exact ⟨v,r,rfl,⟨h1,h2⟩,ihb h3⟩
 | _=>intro x us h1; exact h1.elim
section
variable {P:Program} {nt:Up} {F0 F G:FH} {w0 w:World} {st st':St} {m:MM} {a:Act} {E:Env} {v:AV} {u:Value}
theorem zqH {q:Bool}:∀ {vs:List AV} {us:List Value} {τ:Ty} {x:τ.I} {st st':St} {m:MM} {F:FH},chain q vs st = some ⟨τ,x,st'⟩→Rel P nt F0 w0 st m F a w→jx P st.h m F vs us →
 ∃ m' F',Rel P nt F0 w0 st' m' F' a w ∧ RepA P F' τ x us ∧ Ext st.h st'.h m m' F F'
 | [],us,τ,x,st,st',m,F,hz,h,hv=>by
  simp only [chain,Option.some.injEq] at hz
  cases hz
  exact ⟨m,F,h,hv,.refl _ _ _⟩
 | v :: vs,us,τ,x,st,st',m,F,hz,h,hv=>by
  obtain ⟨u,r,rfl,h1,h2⟩:=hv
  simp only [chain] at hz
  split at hz
  ·rename_i a y st1 hy
   split at hz
   ·rename_i b ys st2 hys
    cases hz
    obtain ⟨m1,F1,e2,e3,e4⟩:=vT hy h h1
    obtain ⟨m2,F2,f2,f3,f4⟩:=zqH hys e2 (h2.ext e4)
    exact ⟨m2,F2,f2,⟨u,r,rfl,(e3.mono f4.le).1,e3.2,f3⟩,e4.trans f4⟩
   ·cases hz
  ·cases hz
theorem zvk:∀ {xs:List Operand} {l:List Nat},zsD (xs.map (rd E st none)) = some l→xs.length = l.length ∧ ∀ (i id:Nat),l[i]? = some id→∃ x,xs[i]? = some x ∧ rd E st none x = some (.bp id [])
 | [],l,h=>by cases h; exact ⟨rfl,fun i id hi=>by simp at hi⟩
 | x :: xs,l,h=>by
  simp only [List.map_cons] at h
  unfold zsD at h
  split at h
  ·rename_i e; cases e
  ·rename_i id l' e
   simp only [List.cons.injEq] at e
   obtain ⟨e1,rfl⟩:=e
   obtain ⟨r,hr,rfl⟩:=Option.map_eq_some_iff.1 h
   obtain ⟨g1,g2⟩:=zvk hr
   refine ⟨by simp [g1],fun i id' hi=>?_⟩
   cases i with
   | zero=>simp only [List.getElem?_cons_zero,Option.some.injEq] at hi; subst hi; exact ⟨x,rfl,e1⟩
   | succ i=>exact g2 i id' (by simpa using hi)
  ·cases h
theorem zzL {q:Bool} {ty:TypeId} {fn:Fn} {first caps:Array Operand} (hE:EnvOk P G E) (hG:G.le F0) (h:Rel P nt F0 w0 st m F a w)
 (he:zaL q E ty fn (first.toList.map (rd E st none)) (caps.toList.map (rd E st none)) st pk = some (v,st')) :
 ∃ u,(Instr.makeFunc fn (first.map a.eval) (caps.map a.eval)).run P w = .ok u w ∧ jR P nt F0 w0 st' a F v u w:=by
 unfold zaL at he
 split at he
 ·rename_i f a' r hty
  split at he
  ·obtain ⟨_,he⟩:=qs he
   obtain ⟨h1,he⟩:=zb he
   split at he
   ·rename_i l hl
    cases he
    obtain ⟨g1,g2⟩:=zvk hl
    have hf0:first = #[]:=by
     have:first.toList = []:=by
      cases hfl:first.toList with
      | nil=>rfl
      | cons x y=>rw [hfl] at h1; cases h1
     exact Array.ext' this
    subst hf0
    have h0:(#[]:Array Operand).map a.eval = #[]:=by simp
    rw [h0]
    refine ⟨.func (.func f) #[] (caps.map a.eval),rfl,m,F,.refl F,h,caps.map a.eval,rfl,by simpa using g1,fun i id hi=>?_⟩
    obtain ⟨x,hx,hr⟩:=g2 i id hi
    exact ⟨a.eval x,by simpa using ⟨x,by simpa using hx,rfl⟩,zv hE hG h hr⟩
   ·cases he
  split at he
  ·rename_i Fn b x st1 hf hch
   split at he
   ·rename_i c y st2 hch2
    split at he
    ·rename_i heq
     obtain ⟨hall,he⟩:=zb he
     simp only [Bool.and_eq_true] at hall
     cases he
     have hs:=hE.funs f Fn hf
     obtain ⟨m1,F1,e2,e3,e4⟩:=zqH hch h (zcN hE hG h hall.1)
     obtain ⟨m2,F2,f2,f3,f4⟩:=zqH hch2 e2 ((zcN hE hG h hall.2).ext e4)
     refine ⟨.func (.func f) (first.map a.eval) (caps.map a.eval),rfl,m2,F2,e4.le.trans f4.le,f2,⟨f,_,_,rfl,hs.1,fun z z' hz F' w' vs hle hok hvs=>?_⟩,rfl⟩
     obtain ⟨id,fa,fr,md,spec⟩:=Fn
     obtain ⟨hfa,hfr⟩:=heq
     simp only at hfa hfr hz hs
     subst hfa
     subst hfr
     have hrep:RepA P F' (b.join (a'.join c)) (zuh b x _ (zuh a' z c y)) (first.toList.map a.eval ++ (vs ++ caps.toList.map a.eval)) :=
      zBi ((e3.mono f4.le).mono hle) (zBi hvs (f3.mono hle))
     have hGF:G.le F':=(hG.trans f2.gro.1).trans hle
     have:=hs.frozen hz hGF hok hrep
     have hargs:(first.toList.map a.eval ++ (vs ++ caps.toList.map a.eval)).toArray = first.map a.eval ++ vs.toArray ++ caps.map a.eval:=by
      apply Array.ext'
      simp
     rw [hargs] at this
     exact this
    ·cases he
   ·cases he
  ·cases he
 ·cases he
theorem RepL.plain {τ:Ty} {F F':FH} (hp:∀ (x:τ.I) cs,Rep P F τ x cs→Rep P F' τ x cs):∀ {xs:List τ.I} {cs:List Value},RepL (Rep P F τ) xs cs→RepL (Rep P F' τ) xs cs:=fun h=>RepL.mono hp _ _ h
theorem Rep.plain {F F':FH}:∀ {τ:Ty} {x:τ.I} {cs:List Value},τ.plain = true→Rep P F τ x cs→Rep P F' τ x cs:=by
 intro τ
 induction τ with
 | unit=>intro x cs _ h; exact h
 | bool=>intro x cs _ h; exact h
 | int k=>intro x cs _ h; exact h
 | str=>intro x cs _ h; exact h
 | pair a b iha ihb =>
  rintro x cs hp ⟨c,d,e,h1,h2⟩
  simp only [Ty.plain,Bool.and_eq_true] at hp
  exact ⟨c,d,e,iha hp.1 h1,ihb hp.2 h2⟩
 | st a ih=>intro x cs hp h; exact ih (x:=x) (show a.plain = true from hp) h
 | arr n a ih=>rintro x cs hp ⟨h1,h2⟩; exact ⟨h1,RepL.mono (fun y c hy=>ih (x:=y) (show a.plain = true from hp) hy) _ _ h2⟩
 | _=>intro x cs hp; cases hp
theorem RepA.plain {F F':FH}:∀ {τ:Ty} {x:τ.I} {us:List Value},τ.plain = true→RepA P F τ x us→RepA P F' τ x us:=by
 intro τ
 induction τ with
 | unit=>intro x us _ h; exact h
 | pair a b _ ihb =>
  rintro x us hp ⟨v,r,e,h1,h2,h3⟩
  simp only [Ty.plain,Bool.and_eq_true] at hp
  exact ⟨v,r,e,Rep.plain hp.1 h1,h2,ihb hp.2 h3⟩
 | _=>intro x us _ h; exact h.elim
theorem Rel.looked (h:Rel P nt F0 w0 st m F a w) {w':World} (hb:Below w.heap.size w w'):Rel P nt F0 w0 st m F a w':=by
 refine h.step hb ⟨.refl F,fun _ _=>rfl⟩ (fun k c hk=>?_)
 obtain ⟨el,fz,hw⟩:=h.fok k c hk
 exact ⟨el,fz,by rw [hb.block k (Array.getElem?_eq_some_iff.1 hw).1]; exact hw⟩
theorem zMs (σ:Ty) (xs:List σ.I):cond σ.deep (Obj.drow σ xs xs.length) (.row σ xs false) = mkO σ (bif σ.deep then some xs.length else none) xs:=by cases σ.deep <;> rfl
theorem zKG {h h':List Obj} {m m':MM} {F F':FH} (e:Ext h h' m m' F F') {i:Nat} {σ:Ty} (hT:zbg h i = some σ):atN h' i = some .gone ∨ zbg h' i = some σ:=by
 cases ho:atN h i with
 | none=>unfold zbg at hT; rw [ho] at hT; cases hT
 | some o =>
  have hTL:∃ l,rowTL o = some (σ,l):=by
   unfold zbg at hT
   rw [ho] at hT
   cases o with
   | row τ xs f=>cases hT; exact ⟨_,rfl⟩
   | drow τ xs f=>cases hT; exact ⟨_,rfl⟩
   | _=>cases hT
  obtain ⟨l,hTL⟩:=hTL
  obtain ⟨o',ho',hl⟩:=e.hh _ _ ho
  rcases hl with rfl | hl
  ·exact .inl ho'
  ·right
   have:=hl.rowTL
   rw [hTL] at this
   unfold zbg
   rw [ho']
   cases o' with
   | row _ _ _=>simp only [rowTL,Option.some.injEq,Prod.mk.injEq] at this; simp [this.1]
   | drow _ _ _=>simp only [rowTL,Option.some.injEq,Prod.mk.injEq] at this; simp [this.1]
   | _=>cases this
theorem zsN {M:Nat→Option (Nat × Nat)} {D:Nat→Nat→List Nat→Option (Nat × Nat)} {lo:Nat} (hB:zDm F w lo M D) (hlo:w0.heap.size ≤ lo):∀ {b:Ty} {i:Nat} {x:b.I} {cs:List Value} {st:St} {m:MM} {vs:List AV} {h':List Obj},zaK st.h b x = (vs,h')→zhV P F w M D b i x cs →
 Rel P nt F0 w0 st m F a w→(∀ f bk n,i ≤ f→M f = some (bk,n)→(∀ i n',m i ≠ some (bk,n')) ∧ ∀ i j p n',m.d i j p ≠ some (bk,n'))→(∀ f j p bk n,i ≤ f→D f j p = some (bk,n)→(∀ i n',m i ≠ some (bk,n')) ∧ ∀ i j p n',m.d i j p ≠ some (bk,n')) →
 ∃ m',Rel P nt F0 w0 ⟨st.fr,h'⟩ m' F a w ∧ Ext st.h h' m m' F F ∧ zX P h' m' F b vs cs:=by
 intro b
 induction b with
 | unit=>intro i x cs st m vs h' hz ho h _ _; cases hz; exact ⟨m,h,.refl _ _ _,ho⟩
 | pair t b _ ihb =>
  intro i x cs st m vs h' hz ho h hM hD
  cases t with
  | sl σ =>
   obtain ⟨u,d,rfl,h1,h2⟩:=ho
   obtain ⟨h0,h1⟩:=h1
   simp only [zaK] at hz
   have hob:rowTL (mkO σ (bif σ.deep then some (List.length x.1) else none) x.1) = some (σ,List.length x.1):=zo6 _ _ _
   have had:=h.adopt (o:=mkO σ (bif σ.deep then some (List.length x.1) else none) x.1) (w':=w) (x:=M i) (D:=D i) rfl rfl rfl (Nat.le_refl _) (fun _ _ _=>rfl)
    (fun bk n hx=>by
     have:=hB.rM _ _ _ hx
     exact ⟨by omega,this.2.1,this.2.2,hM i _ _ (Nat.le_refl _) hx⟩)
    (fun j p bk n hp=>by
     have:=hB.rD _ _ _ _ _ hp
     obtain ⟨g1,g2⟩:=h0 _ _ _ _ hp
     refine ⟨?_,by omega,this.2.1,this.2.2,fun n' hx=>hB.dis _ _ _ _ _ _ _ hx hp,hD i _ _ _ _ (Nat.le_refl _) hp⟩
     rw [g1]
     simpa [mkO,Obj.deepAt] using g2)
    (fun j p bk n j' p' n' q1 q2=>(hB.iD _ _ _ _ _ _ _ _ _ q1 q2).2) (by
     have hk:kOk σ (bif σ.deep then some (List.length x.1) else none) x.1:=by
      cases hd:σ.deep with
      | false=>trivial
      | true=>exact ⟨Nat.le_refl _,hd⟩
     cases hMi:M i with
     | none =>
      rw [hMi] at h1
      obtain ⟨hx0,_⟩:=h1
      rw [hx0] at hk ⊢
      exact zHb hk (MM.put2_f _ _ _ _)
     | some bn =>
      obtain ⟨bk,n⟩:=bn
      rw [hMi] at h1
      obtain ⟨cap,_,_,_,h5⟩:=h1
      refine zJt hk (MM.put2_f _ _ _ _) ?_
      rw [MM.put2_d]; exact h5)
   have hne:∀ {j u},atN st.h j = some u→j ≠ st.h.length:=fun hj=>by have:=je hj; omega
   have hnew:∀ bk,(∀ n,M i ≠ some (bk,n))→(∀ j p n,D i j p ≠ some (bk,n))→(∀ i n',m i ≠ some (bk,n')) ∧ (∀ i j p n',m.d i j p ≠ some (bk,n'))→(∀ i' n',(m.put2 st.h.length (M i) (D i)) i' ≠ some (bk,n')) ∧ ∀ i' j p n',(m.put2 st.h.length (M i) (D i)).d i' j p ≠ some (bk,n'):=by
    intro bk q1 q2 ⟨q3,q4⟩
    refine ⟨fun i' n'=>?_,fun i' j p n'=>?_⟩
    ·by_cases e:i' = st.h.length
     ·subst e; rw [MM.put2_f]; exact q1 _
     ·rw [MM.put2_fn _ _ _ e]; exact q3 _ _
    ·by_cases e:i' = st.h.length
     ·subst e; rw [MM.put2_d]; exact q2 _ _ _
     ·rw [MM.put2_dn _ _ _ e]; exact q4 _ _ _ _
   have hz2:zaK (st.h ++ [mkO σ (bif σ.deep then some (List.length x.1) else none) x.1]) b x.2 = ((zaK (st.h ++ [mkO σ (bif σ.deep then some (List.length x.1) else none) x.1]) b x.2).1,(zaK (st.h ++ [mkO σ (bif σ.deep then some (List.length x.1) else none) x.1]) b x.2).2):=rfl
   obtain ⟨m',g1,g2,g3⟩:=ihb (st:=⟨st.fr,st.h ++ [mkO σ (bif σ.deep then some (List.length x.1) else none) x.1]⟩) hz2 h2 had.1
    (fun f bk n hf hx=>hnew bk (fun n' hx'=>by have:=hB.iM _ _ _ _ _ hx hx'; omega) (fun j p n' hp=>hB.dis _ _ _ _ _ _ _ hx hp) (hM f bk n (by omega) hx))
    (fun f j p bk n hf hp=>hnew bk (fun n' hx'=>hB.dis _ _ _ _ _ _ _ hx' hp) (fun j' p' n' hp'=>by have:=(hB.iD _ _ _ _ _ _ _ _ _ hp hp').1; omega) (hD f j p bk n (by omega) hp))
   rw [zMs] at hz
   cases hz
   refine ⟨m',g1,had.2.trans g2,[u],d,rfl,?_,g3⟩
   have hrow:zF P (st.h ++ [mkO σ (bif σ.deep then some (List.length x.1) else none) x.1]) (m.put2 st.h.length (M i) (D i)) F (.ow st.h.length) u:=by
    refine .inr ⟨_,σ,List.length x.1,ju _ _,hob,?_⟩
    rw [MM.put2_f]
    cases hMi:M i with
    | none =>
     rw [hMi] at h1
     obtain ⟨hx0,ad,rfl⟩:=h1
     exact ⟨by rw [hx0]; rfl,ad,rfl⟩
    | some bn =>
     obtain ⟨bk,n⟩:=bn
     rw [hMi] at h1
     obtain ⟨cap,q1,q2,q3,_⟩:=h1
     exact ⟨cap,q1,q2,q3⟩
   have hT:zbg (st.h ++ [mkO σ (bif σ.deep then some (List.length x.1) else none) x.1]) st.h.length = some σ:=by
    unfold zbg
    rw [ju]
    cases σ.deep <;> rfl
   have hrf:=vR.ofRow (P:=P) (m:=m.put2 st.h.length (M i) (D i)) (F:=F) (u:=u) hT hrow
   obtain ⟨σ',u',e1,e2,_,_,e5⟩:=hrf
   cases e1
   cases e2
   exact ⟨σ,u,rfl,rfl,(show zh P _ _ F (.ow st.h.length) u from hrow).ext g2,zKG g2 hT,e5⟩
  | _ =>
   obtain ⟨c,d,rfl,h1,h2⟩:=ho
   simp only [zaK] at hz
   obtain ⟨m',g1,g2,g3⟩:=ihb (st:=st) (vs:=(zaK st.h b x.2).1) (h':=(zaK st.h b x.2).2) rfl h2 h (fun f bk n hf=>hM f bk n (by omega)) (fun f j p bk n hf=>hD f j p bk n (by omega))
   cases hz
   exact ⟨m',g1,g2,c,d,rfl,⟨rfl,h1⟩,g3⟩
 | _=>intro i x cs st m vs h' hz ho; exact ho.elim
theorem zfe {f:FuncId} {args:Array Value} (h:zsF P f):(callFunc f args).run P w = .ok (.enter f args) w:=by
 obtain ⟨fn,h1,h2,h3⟩:=h
 unfold callFunc
 simp only [Sem.run_bind,run_program,Result.andThen_ok,h1,h2,Bool.false_eq_true,if_false,h3,Sem.run_pure]
theorem DSl.down {F F':FH} {o:Option (Nat × Nat)} {σ:Ty} {xs:List σ.I} {cs:List Value} (hF:∀ b,F' b = none→F b = none) (hp:σ.plain = true) (h:DSl P F' w o σ xs cs):DSl P F w o σ xs cs:=by
 unfold DSl at h ⊢
 cases o with
 | none=>exact h
 | some bn =>
  obtain ⟨b,n⟩:=bn
  obtain ⟨cap,h1,h2,h3,h4⟩:=h
  exact ⟨cap,h1,h2,h3,h4.mono (fun c hc=>RepL.plain (fun _ _ h=>Rep.plain hp h) hc) rfl (hF b)⟩
theorem DC.down {F F':FH} {D:List Nat→Option (Nat × Nat)} (hF:∀ b,F' b = none→F b = none):∀ {a:Ty} {i:Nat} {x:a.I} {cs:List Value},a.ownC = true→DC P F' w D a i x cs→DC P F w D a i x cs:=by
 intro a
 induction a with
 | unit=>intro i x cs _ h; exact h
 | pair a b _ ihb =>
  rintro i x cs hp ⟨c,d,e,h1,h2⟩
  cases a with
  | sl σ =>
   simp only [Ty.ownC,Bool.and_eq_true] at hp
   exact ⟨c,d,e,DSl.down hF hp.1 h1,ihb hp.2 h2⟩
  | _ =>
   simp only [Ty.ownC,Bool.and_eq_true] at hp
   exact ⟨c,d,e,Rep.plain hp.1 h1,ihb hp.2 h2⟩
 | _=>intro i x cs _ h; exact h.elim
theorem DR.down {F F':FH} {D:List Nat→Option (Nat × Nat)} (hF:∀ b,F' b = none→F b = none) {τ:Ty} {x:τ.I} {cs:List Value} (hp:τ.ownE = true) (h:DR P F' w D τ x cs):DR P F w D τ x cs:=by
 cases τ with
 | sl σ=>exact DSl.down hF hp h
 | st a=>exact DC.down (a:=a) hF hp h
 | _=>exact h.elim
theorem zv0.down {F F':FH} {M:Option (Nat × Nat)} {D:Nat→List Nat→Option (Nat × Nat)} {σ:Ty} {xs:List σ.I} {u:Value} (hF:∀ b,F' b = none→F b = none) (hp:(bif σ.deep then σ.ownE else σ.plain) = true) (h:zv0 P F' w M D σ xs u):zv0 P F w M D σ xs u:=by
 refine ⟨h.1,?_⟩
 have h:=h.2
 cases M with
 | none=>exact h
 | some bn =>
  obtain ⟨b,n⟩:=bn
  obtain ⟨cap,h1,h2,h3,h4⟩:=h
  refine ⟨cap,h1,h2,h3,h4.mono (fun c hc=>?_) rfl (hF b)⟩
  cases hd:σ.deep with
  | false =>
   rw [hd] at hc hp
   exact RepL.plain (fun _ _ h=>Rep.plain hp h) (show RepL (Rep P F' σ) xs c from hc)
  | true =>
   rw [hd] at hc hp
   refine z5.mono (fun j x c _ hj hx=>?_) (show z5 (DE P F' w D σ xs.length) 0 xs c from hc)
   unfold DE at hx ⊢
   rw [if_pos (by omega)] at hx ⊢
   exact DR.down hF hp hx
theorem zhV.down {F F':FH} {M:Nat→Option (Nat × Nat)} {D:Nat→Nat→List Nat→Option (Nat × Nat)} (hF:∀ b,F' b = none→F b = none):∀ {a:Ty} {i:Nat} {x:a.I} {cs:List Value},a.ownF = true→zhV P F' w M D a i x cs→zhV P F w M D a i x cs:=by
 intro a
 induction a with
 | unit=>intro i x cs _ h; exact h
 | pair a b _ ihb =>
  intro i x cs hp h
  cases a with
  | sl σ =>
   simp only [Ty.ownF,Bool.and_eq_true] at hp
   obtain ⟨u,d,e,h1,h2⟩:=h
   exact ⟨u,d,e,zv0.down hF hp.1 h1,ihb hp.2 h2⟩
  | _ =>
   simp only [Ty.ownF,Bool.and_eq_true] at hp
   obtain ⟨c,d,e,h1,h2⟩:=h
   exact ⟨c,d,e,Rep.plain hp.1 h1,ihb hp.2 h2⟩
 | _=>intro i x cs _ h; exact h.elim
theorem zBj {f:FuncId} {H:Hd} {o:Oper} {vs:List (Option AV)} {us:List Value} (hE:EnvOk P G E) (hG:G.le F0) (h:Rel P nt F0 w0 st m F a w) (hf:E.hnd f = some H)
 (hrun:(execOp a.eval o).run P w = .ok (.enter f us.toArray) w) (hr:jx P st.h m F (vs.filterMap id) us) (he:zfK H.g vs st pk = some (v,st')):z8 P o a w (jR P nt F0 w0 st' a F v):=by
 unfold zfK at he
 obtain ⟨_,he⟩:=zb he
 rw [H.nat] at he
 obtain ⟨⟨v1,h1⟩,e1,e2⟩:=Option.bind_eq_some_iff.1 he
 obtain ⟨rfl,rfl⟩:=jG e2
 refine z8.enter hrun ?_
 refine ((hE.hnd f H hf).2 _ _ _ _ e1 nt F0 w0 st.fr m F a w us hG h hr).mono ?_
 rintro e w' ⟨u,m',F',rfl,g1,g2,g3⟩
 exact ⟨u,rfl,m',F',g1,g2,g3⟩
theorem jx.append:∀ {vs vs':List AV} {us us':List Value},jx P st.h m F vs us→jx P st.h m F vs' us'→jx P st.h m F (vs ++ vs') (us ++ us')
 | [],_,us,_,h,h'=>by cases h; exact h'
 | _ :: _,_,_,_,⟨u,r,e,h1,h2⟩,h'=>⟨u,_,by rw [e]; rfl,h1,jx.append h2 h'⟩
theorem jx.caps:∀ {l:List Nat} {us:List Value},us.length = l.length→(∀ (i id:Nat),l[i]? = some id→∃ u,us[i]? = some u ∧ zb9 st.h m id [] u)→jx P st.h m F ((l.map fun i=>some (AV.bp i [])).filterMap id) us
 | [],[],_,_=>rfl
 | [],_ :: _,h,_=>by simp at h
 | _ :: _,[],h,_=>by simp at h
 | i :: l,u :: us,h,hb=>by
  obtain ⟨u',hu,h1⟩:=hb 0 i rfl
  cases hu
  exact ⟨u,us,rfl,h1,jx.caps (by simpa using h) fun j id hj=>hb (j + 1) id (by simpa using hj)⟩
theorem zzM {q:Bool} {f:FuncId} {Fn:Fun} {o:Oper} {args:Array Operand} (hE:EnvOk P G E) (hG:G.le F0) (h:Rel P nt F0 w0 st m F a w) (hf:look E.funs f = some Fn)
 (hrun:(execOp a.eval o).run P w = .ok (.enter f (args.map a.eval)) w)
 (he:zbV q Fn.a Fn.r Fn.md Fn.spec (args.toList.map (rd E st none)) st pk = some (v,st')):z8 P o a w (jR P nt F0 w0 st' a F v):=by
 unfold zbV at he
 obtain ⟨hall,he⟩:=zb he
 have hargs:(args.toList.map a.eval).toArray = args.map a.eval:=by apply Array.ext'; simp
 have hs:=hE.funs f Fn hf
 cases hpl:(Fn.r.plain && Nat.beq Fn.md 0) with
 | true =>
  rw [hpl] at he
  simp only [cond_true] at he
  simp only [Bool.and_eq_true] at hpl
  split at he
  ·rename_i x hvw
   simp only [Option.bind_eq_some_iff] at he
   obtain ⟨y,hy,he⟩:=he
   obtain ⟨rfl,rfl⟩:=jG he
   have hrep:=zqv h hvw (zcN hE hG h hall)
   refine z8.enter hrun ?_
   have:=hs.frozen hy ((hG.trans h.gro.1).trans (FH.le_of h.fok)) (FH.of_ok w) hrep
   rw [hargs] at this
   refine this.mono ?_
   rintro e w' ⟨us,F',rfl,hb,hg,hk,hres⟩
   exact ⟨_,rfl,m,F,.refl F,h.looked hb,zdh (yX (RepA.plain hpl.1 hres))⟩
  ·cases he
 | false =>
 rw [hpl] at he
 simp only [cond_false] at he
 cases hpo:(Fn.r.ownRes && Nat.beq Fn.md 3) with
 | true =>
  rw [hpo] at he
  simp only [cond_true] at he
  simp only [Bool.and_eq_true] at hpo
  split at he
  ·rename_i x hvw
   simp only [Option.bind_eq_some_iff] at he
   obtain ⟨y,hy,he⟩:=he
   obtain ⟨rfl,rfl⟩:=jG he
   have hrep:=zqv h hvw (zcN hE hG h hall)
   refine z8.enter hrun ?_
   obtain ⟨id,fa,fr,md,spec⟩:=Fn
   simp only at hs hy hpo hrep ⊢
   obtain rfl:md = 3:=Nat.eq_of_beq_eq_true hpo.2
   have:=hs.2 x y hy (FH.of w) w _ ((hG.trans h.gro.1).trans (FH.le_of h.fok)) (FH.of_ok w) hrep
   rw [hargs] at this
   refine this.mono ?_
   rintro e w' ⟨us,F',rfl,hb,hg,hk,hres⟩
   simp only [zjs] at hres
   split at hres
   ·rename_i a' b y' _ _
    obtain ⟨v,r,cs,M,D,rfl,h3,rfl,h4,h5⟩:=hres
    simp only [Ty.ownRes,Bool.and_eq_true] at hpo
    have hF:∀ b,F' b = none→F b = none:=fun b hb'=>by
     cases hFb:F b with
     | none=>rfl
     | some c=>rw [hg.1 b c (FH.le_of h.fok b c hFb)] at hb'; cases hb'
    have hst:=h.looked hb
    have hs0:=h.bel.size
    have h4':=zhV.down hF hpo.1.1 h4
    have h5':zDm F w' w.heap.size M D:=⟨fun f b n hx=>by have:=h5.rM f b n hx; exact ⟨this.1,this.2.1,hF _ this.2.2⟩,fun f j p b n hx=>by have:=h5.rD f j p b n hx; exact ⟨this.1,this.2.1,hF _ this.2.2⟩,h5.iM,h5.iD,h5.dis⟩
    have hfree:∀ bk,w.heap.size ≤ bk→(∀ i n',m i ≠ some (bk,n')) ∧ ∀ i j p n',m.d i j p ≠ some (bk,n'):=fun bk hbk =>
     ⟨fun i n' hi=>by have:=h.rng _ _ _ hi; omega,fun i j p n' hp=>by have:=(h.dok _ _ _ _ _ hp).2.2.1; omega⟩
    obtain ⟨m',g1,g2,g3⟩:=zsN h5' hs0 (vs:=(zaK st.h a' y'.1).1) (h':=(zaK st.h a' y'.1).2) rfl h4' hst (fun f bk n _ hx=>hfree bk (h5.rM _ _ _ hx).1) (fun f j p bk n _ hp=>hfree bk (h5.rD _ _ _ _ _ hp).1)
    refine ⟨_,rfl,m',F,.refl F,g1,?_⟩
    show zh P (zaK st.h a' y'.1).2 m' F (unT (.fld a' (zaK st.h a' y'.1).1 :: zb3 b y'.2)) _
    exact zdh ⟨_,r,rfl,⟨cs,rfl,g3⟩,yX (RepA.plain hpo.1.2 h3)⟩
   ·exact hres.elim
  ·cases he
 | false =>
 rw [hpo] at he
 simp only [cond_false] at he
 split at he
 ·rename_i x st1 hpk
  obtain ⟨m1,F1,e2,e3,e4⟩:=zeH hpk h (zcN hE hG h hall)
  simp only [Option.bind_eq_some_iff] at he
  obtain ⟨y,hy,he⟩:=he
  obtain ⟨rfl,rfl⟩:=jG he
  have hGF:G.le F1:=hG.trans e2.gro.1
  have e1:=e4.le
  refine z8.enter hrun ?_
  have hfroz:Calls P f (args.map a.eval) w fun e w'=>∃ u,e = .returned u ∧ jR P nt F0 w0 ⟨st1.fr,st1.h⟩ a F (unT (zb3 Fn.r y)) u w':=by
   have:=hs.frozen hy hGF e2.fok e3
   rw [hargs] at this
   refine this.mono ?_
   rintro e w' ⟨us,F',rfl,hb,hg,hk,hres⟩
   exact ⟨_,rfl,m1,F',e1.trans hg.1,e2.step hb hg hk,zdh (yX hres)⟩
  obtain ⟨id,fa,fr,md,spec⟩:=Fn
  simp only at hfroz hs hy ⊢
  generalize hmd:(bif q && Nat.beq md 1 then 0 else md) = md' at *
  have hmde:∀ k,k ≠ 0→md' = k→md = k:=by
   intro k hk e
   cases hq:(q && Nat.beq md 1) with
   | true=>rw [hq] at hmd; simp only [cond_true] at hmd; omega
   | false=>rw [hq] at hmd; simp only [cond_false] at hmd; omega
  by_cases h1:md' = 1
  ·subst h1
   have hmd1:md = 1:=hmde 1 (by omega) rfl
   subst hmd1
   have:=hs.2 x y hy F1 w _ hGF e2.fok e3
   rw [hargs] at this
   refine this.mono ?_
   rintro e w' ⟨us,F',rfl,hb,hg,hk,hres⟩
   simp only [zjs] at hres
   split at hres
   ·rename_i a' b y' _ _
    obtain ⟨v,r,rfl,h3,h4⟩:=hres
    have hst:=e2.step hb hg hk
    refine ⟨_,rfl,?_⟩
    rcases h4 with ⟨bk,cap,el,cs,c,d,rfl,hcap,hlo,hw,hFb,hsz,hcd,hrep⟩ | ⟨hy0,ad,rfl⟩
    ·
     have hlt:bk < w'.heap.size:=(Array.getElem?_eq_some_iff.1 hw).1
     have hs0:=e2.bel.size
     obtain ⟨hrel,hext⟩:=hst.adopt (o:=qQ a' y'.1) (w':=w') (x:=some (bk,cs.size)) (D:=fun _ _=>none) rfl rfl rfl (Nat.le_refl _) (fun _ _ _=>rfl)
      (fun b n hx=>by
       cases hx
       exact ⟨by omega,hlt,hFb,fun i n' hi=>by have:=e2.rng _ _ _ hi; omega,fun i j p n' hp=>by have:=(e2.dok _ _ _ _ _ hp).2.2.1; omega⟩)
      (fun j p b n hp=>nomatch hp) (fun j p b n j' p' n' hp=>nomatch hp) (zBg (MM.put2_f _ _ _ _) hw hcd hrep hFb)
     refine ⟨_,F',e1.trans hg.1,hrel,?_⟩
     show zh P (st1.h ++ [qQ a' y'.1]) _ F' (unT (.ow st1.h.length :: zb3 b y'.2)) _
     refine zdh ⟨_,r,rfl,.inr ⟨_,a',List.length y'.1,ju _ _,zqE _ _,?_⟩,yX h3⟩
     rw [MM.put2_f]
     exact ⟨cap,hsz,hcap,rfl⟩
    ·obtain ⟨h5,h6,_⟩:=zfP a' ad hst
     refine ⟨m1,F',e1.trans hg.1,by simp only [zkg]; rw [hy0]; exact h5,?_⟩
     simp only [zkg]
     rw [hy0]
     exact zdh ⟨_,r,rfl,h6,yX h3⟩
   ·exact hres.elim
  ·by_cases h2:md' = 2
   ·subst h2
    have hmd1:md = 2:=hmde 2 (by omega) rfl
    subst hmd1
    have:=hs.2 x y hy F1 w _ hGF e2.fok e3
    rw [hargs] at this
    refine this.mono ?_
    rintro e w' ⟨us,F',rfl,hb,hg,hk,hres⟩
    simp only [zjs] at hres
    split at hres
    ·rename_i a' b y' _ _
     obtain ⟨v,r,ad,rfl,h3,rfl,h4⟩:=hres
     exact ⟨_,rfl,m1,F',e1.trans hg.1,e2.step hb hg hk,zdh ⟨_,r,rfl,⟨ad,rfl,h4⟩,yX h3⟩⟩
    ·exact hres.elim
   ·by_cases h3:md' = 3
    ·subst h3
     have hmd1:md = 3:=hmde 3 (by omega) rfl
     subst hmd1
     have:=hs.2 x y hy F1 w _ hGF e2.fok e3
     rw [hargs] at this
     refine this.mono ?_
     rintro e w' ⟨us,F',rfl,hb,hg,hk,hres⟩
     simp only [zjs] at hres
     split at hres
     ·rename_i a' b y' _ _
      obtain ⟨v,r,cs,M,D,rfl,h3,rfl,h4,h5⟩:=hres
      have hst:=e2.step hb hg hk
      have hs0:=e2.bel.size
      have hfree:∀ bk,w.heap.size ≤ bk→(∀ i n',m1 i ≠ some (bk,n')) ∧ ∀ i j p n',m1.d i j p ≠ some (bk,n'):=fun bk hbk =>
       ⟨fun i n' hi=>by have:=e2.rng _ _ _ hi; omega,fun i j p n' hp=>by have:=(e2.dok _ _ _ _ _ hp).2.2.1; omega⟩
      obtain ⟨m',g1,g2,g3⟩:=zsN h5 hs0 (vs:=(zaK st1.h a' y'.1).1) (h':=(zaK st1.h a' y'.1).2) rfl h4 hst (fun f bk n _ hx=>hfree bk (h5.rM _ _ _ hx).1) (fun f j p bk n _ hp=>hfree bk (h5.rD _ _ _ _ _ hp).1)
      refine ⟨_,rfl,m',F',e1.trans hg.1,g1,?_⟩
      show zh P (zaK st1.h a' y'.1).2 m' F' (unT (.fld a' (zaK st1.h a' y'.1).1 :: zb3 b y'.2)) _
      exact zdh ⟨_,r,rfl,⟨cs,rfl,g3⟩,yX h3⟩
     ·exact hres.elim
    ·by_cases h4:md' = 4
     ·subst h4
      have hmd1:md = 4:=hmde 4 (by omega) rfl
      subst hmd1
      have:=hs.2 x y hy F1 w _ hGF e2.fok e3
      rw [hargs] at this
      refine this.mono ?_
      rintro e w' ⟨us,F',rfl,hb,hg,hk,hres⟩
      simp only [zjs] at hres
      split at hres
      ·rename_i a' b y' _ _
       obtain ⟨v,r,M,D,rfl,h3,h4,h5⟩:=hres
       have hst:=e2.step hb hg hk
       have hs0:=e2.bel.size
       have hfree:∀ bk,w.heap.size ≤ bk→(∀ i n',m1 i ≠ some (bk,n')) ∧ ∀ i j p n',m1.d i j p ≠ some (bk,n'):=fun bk hbk =>
        ⟨fun i n' hi=>by have:=e2.rng _ _ _ hi; omega,fun i j p n' hp=>by have:=(e2.dok _ _ _ _ _ hp).2.2.1; omega⟩
       obtain ⟨m',g1,g2,g3⟩:=zsN h5 hs0 (vs:=(zaK st1.h (.pair (.sl a') .unit) (y'.1,())).1) (h':=(zaK st1.h (.pair (.sl a') .unit) (y'.1,())).2) rfl h4 hst (fun f bk n _ hx=>hfree bk (h5.rM _ _ _ hx).1) (fun f j p bk n _ hp=>hfree bk (h5.rD _ _ _ _ _ hp).1)
       refine ⟨_,rfl,m',F',e1.trans hg.1,g1,?_⟩
       show zh P (zaK st1.h (.pair (.sl a') .unit) (y'.1,())).2 m' F' (unT ((zaK st1.h (.pair (.sl a') .unit) (y'.1,())).1 ++ zb3 b y'.2)) _
       obtain ⟨c,d,e6,e7,e8⟩:=(show zX P _ m' F' (.pair (.sl a') .unit) (.ow st1.h.length :: []) [v] from g3)
       obtain ⟨σ,u,e9,e10,e11,_⟩:=e7
       subst e10
       have e8':d = []:=e8
       subst e8'
       simp only [List.cons_append,List.nil_append,List.cons.injEq,and_true] at e6
       subst e6
       exact zdh ⟨_,r,rfl,e11,yX h3⟩
      ·exact hres.elim
     ·have hl:zkg md' fr y st1.h = (unT (zb3 fr y),st1.h):=by
       unfold zkg
       split
       ·exact absurd rfl h1
       ·exact absurd rfl h3
       ·exact absurd rfl h2
       ·exact absurd rfl h4
       ·rfl
      rw [hl]
      exact hfroz
 ·cases he
theorem zBP {q:Bool} {τ σ:Ty} {g:τ.I→Option σ.I} {o:Oper} {args:Array Operand} {p:Value} (hE:EnvOk P G E) (hG:G.le F0) (h:Rel P nt F0 w0 st m F a w) (hp:zh P st.h m F (.dat (.fn τ σ) (some g)) p)
 (hrun:∀ f first caps,p = .func (.func f) first caps→zsF P f→(execOp a.eval o).run P w = .ok (.enter f (first ++ args.map a.eval ++ caps)) w)
 (he:zbV q τ σ 0 g (args.toList.map (rd E st none)) st pk = some (v,st')):z8 P o a w (jR P nt F0 w0 st' a F v):=by
 unfold zbV at he
 obtain ⟨hall,he⟩:=zb he
 obtain ⟨f,first,caps,hpe,hent,hc⟩:=zh.one rfl hp
 simp only [List.cons.injEq,and_true] at hpe
 have hargs:first ++ (args.toList.map a.eval).toArray ++ caps = first ++ args.map a.eval ++ caps:=by congr 2; apply Array.ext'; simp
 cases hpl:(σ.plain && Nat.beq 0 0) with
 | true =>
  rw [hpl] at he
  simp only [cond_true] at he
  simp only [Bool.and_eq_true] at hpl
  split at he
  ·rename_i x hvw
   simp only [Option.bind_eq_some_iff] at he
   obtain ⟨y,hy,he⟩:=he
   obtain ⟨rfl,rfl⟩:=jG he
   have hrep:=zqv h hvw (zcN hE hG h hall)
   refine z8.enter (hrun f first caps hpe hent) ?_
   have:=hc x y hy (FH.of w) w _ (FH.le_of h.fok) (FH.of_ok w) hrep
   rw [hargs] at this
   refine this.mono ?_
   rintro e w' ⟨us,F',rfl,hb,hg,hk,hres⟩
   exact ⟨_,rfl,m,F,.refl F,h.looked hb,zdh (yX (RepA.plain hpl.1 hres))⟩
  ·cases he
 | false =>
 rw [hpl] at he
 simp only [cond_false] at he
 rw [show (σ.ownRes && Nat.beq 0 3) = false from Bool.and_false _] at he
 simp only [cond_false] at he
 split at he
 ·rename_i x st1 hpk
  obtain ⟨m1,F1,e2,e3,e4⟩:=zeH hpk h (zcN hE hG h hall)
  simp only [Option.bind_eq_some_iff] at he
  obtain ⟨y,hy,he⟩:=he
  obtain ⟨rfl,rfl⟩:=jG he
  refine z8.enter (hrun f first caps hpe hent) ?_
  have:=hc x y hy F1 w _ e4.le e2.fok e3
  rw [hargs] at this
  refine this.mono ?_
  rintro e w' ⟨us,F',rfl,hb,hg,hk,hres⟩
  have hl:zkg (bif q && Nat.beq 0 1 then 0 else 0) σ y st1.h = (unT (zb3 σ y),st1.h):=by
   cases q <;> rfl
  rw [hl]
  exact ⟨_,rfl,m1,F',e4.le.trans hg.1,e2.step hb hg hk,zdh (yX hres)⟩
 ·cases he
end
end Go.Ev
end
section
namespace Go.Ev
open Go.RowKit
theorem zxK:∀ {κ:Ty} {x y:κ.I},zui κ = true→eqI κ x y = true→x = y:=by
 intro κ x y hk h
 cases κ with
 | int k=>simpa [eqI] using h
 | bool=>simpa [eqI] using h
 | str =>
  have h:(x:ByteArray).toList = (y:ByteArray).toList:=by simpa [eqI] using h
  rw [ByteArray.toList_eq,ByteArray.toList_eq] at h
  obtain ⟨⟨a⟩⟩:=x
  obtain ⟨⟨b⟩⟩:=y
  have:a = b:=h
  rw [this]
 | _=>cases hk
theorem zhb:∀ {κ:Ty} (x:κ.I),zui κ = true→eqI κ x x = true:=by
 intro κ x hk
 cases κ <;> first | (cases hk; done) | simp [eqI]
section
variable {P:Program} {nt:Up} {F0 F G:FH} {w0 w:World} {st st':St} {m:MM} {a:Act} {E:Env} {v:AV} {u:Value}
theorem zzN {κ:Ty} {k:TypeId} (hk:zui κ = true) (hty:zY P k κ):∃ d,P.underlying k = some d ∧ ∀ (x y:κ.I) (p q:Value),zV P F κ x p→zV P F κ y q →
 Instr.sameNow d p q = some (eqI κ x y) ∧ (eqI κ x y = true→Instr.sameBits 10000 q p = true) ∧ (∀ e,(Instr.checkKey e 10000 k p).run P w = .ok () w):=by
 cases κ with
 | int kk =>
  have hu:=hty.int
  refine ⟨_,hu,fun x y p q hp hq=>?_⟩
  have:=zV.one' rfl hp; have:=zV.one' rfl hq
  simp only [Rep,RR,List.cons.injEq,and_true] at *
  subst_vars
  refine ⟨by simp [Instr.sameNow,eqI],fun h=>?_,fun e=>?_⟩
  ·have h:(x:Int) = y:=by simpa [eqI] using h
   simp [Instr.sameBits,h]
  ·unfold Instr.checkKey; simp [zj hu]
 | bool =>
  have hu:P.underlying k = some .bool:=by
   simp only [zY,tyB,Bool.and_eq_true] at hty
   have h:=hty.2
   split at h
   ·rename_i he; exact he
   ·cases h
  refine ⟨_,hu,fun x y p q hp hq=>?_⟩
  have:=zV.one' rfl hp; have:=zV.one' rfl hq
  simp only [Rep,RR,List.cons.injEq,and_true] at *
  subst_vars
  refine ⟨by simp [Instr.sameNow,eqI],fun h=>?_,fun e=>?_⟩
  ·have h:(x:Bool) = y:=by simpa [eqI] using h
   simp [Instr.sameBits,h]
  ·unfold Instr.checkKey; simp [zj hu]
 | str =>
  have hu:=hty.str
  refine ⟨_,hu,fun x y p q hp hq=>?_⟩
  have:=zV.one' rfl hp; have:=zV.one' rfl hq
  simp only [Rep,RR,List.cons.injEq,and_true] at *
  subst_vars
  refine ⟨by simp [Instr.sameNow,eqI,beq_toListBytes],fun h=>?_,fun e=>?_⟩
  ·have h:=zxK (κ:=.str) rfl h
   subst h
   simp [Instr.sameBits,beq_toListBytes]
  ·unfold Instr.checkKey; simp [zj hu]
 | _=>cases hk
theorem zdf.cons {κ σ:Ty} {p:κ.I × σ.I} {es:List (κ.I × σ.I)} {ents:List MapEntry} (h:zdf P F κ σ (p :: es) ents):∃ e r,ents = e :: r ∧ zV P F κ p.1 e.key ∧ zV P F σ p.2 e.val ∧ zdf P F κ σ es r:=by
 obtain ⟨h1,h2⟩:=h
 cases ents with
 | nil=>simp at h1
 | cons e r =>
  obtain ⟨h3,h4⟩:=h2 0 p e rfl rfl
  exact ⟨e,r,rfl,h3,h4,by simpa using h1,fun i q f hq hf=>h2 (i + 1) q f (by simpa using hq) (by simpa using hf)⟩
theorem zdf.nil {κ σ:Ty} {ents:List MapEntry} (h:zdf P F κ σ [] ents):ents = []:=List.length_eq_zero_iff.1 h.1.symm
theorem zdf.mkCons {κ σ:Ty} {p:κ.I × σ.I} {es:List (κ.I × σ.I)} {e:MapEntry} {r:List MapEntry} (h1:zV P F κ p.1 e.key) (h2:zV P F σ p.2 e.val) (h3:zdf P F κ σ es r):zdf P F κ σ (p :: es) (e :: r) :=
 ⟨by simp [h3.1],fun i q f hq hf=>by
  cases i with
  | zero=>simp at hq hf; subst hq; subst hf; exact ⟨h1,h2⟩
  | succ i=>exact h3.2 i q f (by simpa using hq) (by simpa using hf)⟩
theorem zBk {κ σ:Ty} {k:TypeId} {x:κ.I} {p:Value} (hk:zui κ = true) (hty:zY P k κ) (hp:zV P F κ x p) :
 ∃ d,P.underlying k = some d ∧ ∀ (es:List (κ.I × σ.I)) (ents:List MapEntry) (i0:Nat) (y:σ.I) (q:Value) (born:Nat),zdf P F κ σ es ents→zV P F σ y q →
  (Instr.findNow d p ents i0 = some none ∧ zaM κ es x = false ∧ zcM κ (ze σ) es x = ze σ ∧ zdf P F κ σ (yJ κ es x y) (ents ++ [{ key:=p,val:=q,born }])) ∨
  (∃ i z old,Instr.findNow d p ents i0 = some (some (i0 + i,z)) ∧ zaM κ es x = true ∧ zV P F σ (zcM κ (ze σ) es x) z ∧ (ents[i]?).map (·.key) = some old ∧ Instr.sameBits 10000 old p = true ∧
   zdf P F κ σ (yJ κ es x y) (ents.modify i fun e=>{ e with key:=p,val:=q })):=by
 obtain ⟨d,hd,hnow⟩:=zzN (F:=F) (w:=default) hk hty
 refine ⟨d,hd,fun es=>?_⟩
 induction es with
 | nil =>
  intro ents i0 y q born he hq
  obtain rfl:=he.nil
  exact .inl ⟨rfl,rfl,rfl,by simpa [yJ] using zdf.mkCons (p:=(x,y)) (e:={ key:=p,val:=q,born }) hp hq he⟩
 | cons e0 es ih =>
  intro ents i0 y q born he hq
  obtain ⟨e,r,rfl,h1,h2,h3⟩:=he.cons
  obtain ⟨h4,h5,_⟩:=hnow x e0.1 p e.key hp h1
  cases heq:eqI κ x e0.1 with
  | true =>
   right
   rw [heq] at h4
   have hx:=zxK hk heq
   refine ⟨0,e.val,e.key,by simp [Instr.findNow,h4],by simp [zaM,heq],by simpa [zcM,heq] using h2,rfl,h5 heq,?_⟩
   simp only [yJ,heq,cond_true,List.modify_zero_cons]
   exact zdf.mkCons (by rw [← hx]; exact hp) hq h3
  | false =>
   rw [heq] at h4
   rcases ih r (i0 + 1) y q born h3 hq with ⟨g1,g2,g3,g4⟩ | ⟨i,z,old,g1,g2,g3,g4,g5,g6⟩
   ·left
    refine ⟨by simp [Instr.findNow,h4,g1],by simp [zaM,heq,g2],by simp [zcM,heq,g3],?_⟩
    simp only [yJ,heq,cond_false,List.cons_append]
    exact zdf.mkCons h1 h2 g4
   ·right
    refine ⟨i + 1,z,old,by simp [Instr.findNow,h4,g1]; omega,by simp [zaM,heq,g2],by simpa [zcM,heq] using g3,by simpa using g4,g5,?_⟩
    simp only [yJ,heq,cond_false,List.modify_succ_cons]
    exact zdf.mkCons h1 h2 g6
theorem zsO {t:TypeId} {x y:AV} {p q:Value} {ok:Bool} (hE:EnvOk P G E) (h:Rel P nt F0 w0 st m F a w) (hx:zh P st.h m F x p) (hy:zh P st.h m F y q) (he:zaw E t x y ok st pk = some (v,st')) :
 ∃ u,(Instr.lookup t p q ok).run P w = .ok u w ∧ st' = st ∧ zh P st.h m F v u:=by
 unfold zaw at he
 split at he
 ·rename_i id
  split at he
  ·rename_i κ σ es ho
   split at he
   ·rename_i ρ k
    split at he
    ·rename_i k' hc
     obtain ⟨rfl,rfl⟩:=zP hc
     obtain ⟨h1,h2⟩:=zb he
     simp only [Bool.and_eq_true] at h1
     obtain ⟨kt,et,hu,hkt,het⟩:=(hE.types t _ (Env.isM_spec h1.1.2)).mp
     obtain ⟨b,n,hmi,rfl⟩:=hx.omAt ho
     obtain ⟨b',n',ents,clock,h3,h4,h5,h6⟩:=h.obs id _ ho
     rw [hmi] at h3
     cases h3
     have hg:(getObj b).run P w = .ok (.map ents clock) w:=by simp [getObj,Sem.run,h4]
     have hnp:=Ty.np_spec h1.2
     obtain ⟨i,z,g1,g2,g3,g4,g5⟩:=jQ (het.head hnp)
     obtain ⟨d,hd,hf⟩:=zBk (σ:=σ) h1.1.1 hkt hy
     obtain ⟨d',hd',hnow⟩:=zzN (F:=F) (w:=w) h1.1.1 hkt
     have hck:=(hnow k k q q hy hy).2.2 ents.isEmpty
     have hfk:∀ r,Instr.findNow d q ents.toList 0 = some r→(Instr.findKey kt q ents.toList).run P w = .ok r w:=fun r hr=>by
      unfold Instr.findKey
      simp [zj hd,hr]
     have hfin:∀ (z':Value) (okb:Bool),zV P F σ (zcM ρ (ze σ) es k) z'→zaM ρ es k = okb→(∃ r,Instr.findNow d q ents.toList 0 = some r ∧ (match r with | some (_,v)=>z' = v ∧ okb = true | none=>z' = z ∧ okb = false)) →
      ∃ u,(Instr.lookup t (.map (some b)) q ok).run P w = .ok u w ∧ st' = st ∧ zh P st.h m F v u:=by
      rintro z' okb hz' hok ⟨r,hr,hm⟩
      have hrun:(Instr.lookup t (.map (some b)) q ok).run P w = .ok (if ok then .tuple #[z',.bool okb] else z') w:=by
       unfold Instr.lookup
       simp only [Sem.run_bind,zj hu,Result.andThen_ok,hg,hck,hfk r hr,Sem.run_pure]
       cases r with
       | some jv=>obtain ⟨rfl,rfl⟩:=hm; simp
       | none=>obtain ⟨rfl,rfl⟩:=hm; simp [qC g1 g4]
      refine ⟨_,hrun,?_⟩
      cases ok with
      | false =>
       obtain ⟨rfl,rfl⟩:=jG h2
       exact ⟨rfl,hz'⟩
      | true =>
       cases h2
       refine ⟨rfl,#[z',.bool okb],rfl,rfl,fun i u hu=>?_⟩
       match i,hu with
       | 0,hu=>simp at hu; subst hu; exact ⟨z',rfl,hz'⟩
       | 1,hu=>simp at hu; subst hu; exact ⟨.bool okb,rfl,by rw [← hok]; exact ⟨rfl,rfl⟩⟩
     rcases hf es ents.toList 0 (ze σ) z 0 h5 (g5 F) with ⟨k1,k2,k3,_⟩ | ⟨i,z',old,k1,k2,k3,_⟩
     ·exact hfin z false (by rw [k3]; exact g5 F) k2 ⟨none,k1,rfl,rfl⟩
     ·exact hfin z' true k3 k2 ⟨_,k1,rfl,rfl⟩
    ·cases he
   ·cases he
  ·cases he
 ·cases he
theorem zxL {t:TypeId} {x y z:AV} {p q r:Value} (hE:EnvOk P G E) (h:Rel P nt F0 w0 st m F a w) (hx:zh P st.h m F x p) (hy:zh P st.h m F y q) (hz:zh P st.h m F z r) (he:za2 E t x y z st pk = some (v,st')) :
 ∃ w',(Instr.mapUpdate t p q r).run P w = .ok () w' ∧ jR P nt F0 w0 st' a F v undef w':=by
 unfold za2 at he
 split at he
 ·rename_i id
  split at he
  ·rename_i κ σ es ho
   split at he
   ·rename_i ρ k τ yv
    split at he
    ·rename_i k' yv' hc hc2
     obtain ⟨rfl,rfl⟩:=zP hc
     obtain ⟨rfl,rfl⟩:=zP hc2
     obtain ⟨h1,h2⟩:=zb he
     simp only [Bool.and_eq_true] at h1
     cases h2
     obtain ⟨kt,et,hu,hkt,het⟩:=(hE.types t _ (Env.isM_spec h1.1.2)).mp
     obtain ⟨b,n,hmi,rfl⟩:=hx.omAt ho
     obtain ⟨b',n',ents,clock,h3,h4,h5,h6⟩:=h.obs id _ ho
     rw [hmi] at h3
     cases h3
     have hg:(getObj b).run P w = .ok (.map ents clock) w:=by simp [getObj,Sem.run,h4]
     obtain ⟨d,hd,hf⟩:=zBk (σ:=τ) h1.1.1 hkt hy
     obtain ⟨d',hd',hnow⟩:=zzN (F:=F) (w:=w) h1.1.1 hkt
     have hck:=(hnow k k q q hy hy).2.2 false
     have hfk:∀ r,Instr.findNow d q ents.toList 0 = some r→(Instr.findKey kt q ents.toList).run P w = .ok r w:=fun r hr=>by
      unfold Instr.findKey
      simp [zj hd,hr]
     have hset:∀ (ents':Array MapEntry) (clock':Nat),(setObj b (.map ents' clock')).run P w = .ok () { w with heap:=w.heap.setIfInBounds b (.map ents' clock') }:=fun ents' clock'=>by
      simp [setObj,Sem.run,h4]
     have hblt:b < w.heap.size:=(Array.getElem?_eq_some_iff.1 h4).1
     have hfin:∀ (ents':Array MapEntry) (clock':Nat),zdf P F ρ τ (yJ ρ es k yv) ents'.toList→(Instr.mapUpdate t (.map (some b)) q r).run P w = (setObj b (.map ents' clock')).run P w →
      ∃ w',(Instr.mapUpdate t (.map (some b)) q r).run P w = .ok () w' ∧ jR P nt F0 w0 ⟨st.fr,zf st.h id (.mp ρ τ (yJ ρ es k yv))⟩ a F (.tup []) undef w':=by
      intro ents' clock' hre hrun
      rw [hset] at hrun
      refine ⟨_,hrun,m,F,.refl F,?_,vp⟩
      refine h.turn ho (.inr ⟨rfl,rfl⟩) (fun _=>rfl) rfl rfl rfl (by simp) (fun k' hk'=>?_) (fun b' n' hb'=>by rw [hmi] at hb'; cases hb'; exact h6) ?_
      ·have:k' ≠ b:=fun e=>hk' n (e ▸ hmi)
       simp [Array.getElem?_setIfInBounds_ne (Ne.symm this)]
      ·exact ⟨b,n,ents',clock',hmi,by simp [hblt],hre,h6⟩
     rcases hf es ents.toList 0 yv r clock h5 hz with ⟨k1,k2,k3,k4⟩ | ⟨i,z',old,k1,k2,k3,k4,k5,k6⟩
     ·refine hfin (ents.push { key:=q,val:=r,born:=clock }) (clock + 1) (by simpa using k4) ?_
      unfold Instr.mapUpdate
      simp only [Sem.run_bind,zj hu,Result.andThen_ok,hg,hck,hfk _ k1]
     ·refine hfin (ents.modify i fun e=>{ e with key:=q,val:=r }) clock (by simpa [Array.toList_modify] using k6) ?_
      unfold Instr.mapUpdate
      have hold:((ents[i]?).map (·.key)).getD q = old:=by
       rw [← Array.getElem?_toList,k4]; rfl
      simp only [Sem.run_bind,zj hu,Result.andThen_ok,hg,hck,hfk _ k1,Nat.zero_add,hold,Instr.keyThatStays,k5,if_true,Sem.run_pure]
    ·cases he
   ·cases he
  ·cases he
 ·cases he
end
end Go.Ev
end
