/- Part 24 of the proof: contracts of the functions that the law reaches -/
import Derived.Test.YthdimklenlikgaaGreatDw23
set_option linter.unusedVariables false
set_option linter.unusedSimpArgs false
namespace Go.Ab
open Go
def B4U (P:Program) (T:G4) (M:H1) (frz:List Nat) (ops:List Oper) (i:Nat) (keep:List Nat) (pd:A4x) (K:KA) (A:List AV) (st:St):Prop :=
 match ops[i]? with
 | none=>False
 | some o=>A5m ops o A (xOp P T M (inF frz o.dst) o.op A st fun v st'=>A6Y keep st st' (A0U A o.dst v fun A'=>K A' st') pd) (A0U A o.dst (.tuple []) fun A'=>K A' st)
def A4n (P:Program) (T:G4) (M:H1) (frz:List Nat) (ops:List Oper):PT→A4x→List AV→St→KA→Prop
 | .done,_,A,st,k=>k A st
 | .qui i t,pd,A,st,k=>match ops[i]? with
  | none=>False
  | some o=>A5m ops o A
   (match X5 o.op with
    | true=>xOp P T M (inF frz o.dst) o.op A st fun v _=>A0U A o.dst v fun A'=>A4n P T M frz ops t pd A' st k
    | false=>∃ (v:AV) (C:St→Prop),C st∧(∀ s,C s→xOp P T M (inF frz o.dst) o.op A s fun v' s'=>v'=v∧s'=s)∧A0U A o.dst v fun A'=>A4n P T M frz ops t ((i,C)::pd) A' st k)
   (A0U A o.dst (.tuple []) fun A'=>A4n P T M frz ops t pd A' st k)
 | .eff i keep t,pd,A,st,k=>B4U P T M frz ops i keep pd (fun A' st'=>A4n P T M frz ops t pd A' st' k) A st
 | .two i j ki kj t u,pd,A,st,k=>B4U P T M frz ops i ki pd (fun A' st'=>A4n P T M frz ops t pd A' st' k) A st∧B4U P T M frz ops j kj pd (fun A' st'=>A4n P T M frz ops u pd A' st' k) A st
theorem A6j {keep:List Nat} {st st':St} {k k':Prop} (hk:k→k'):∀ {pd:A4x},A6Y keep st st' k pd→A6Y keep st st' k' pd
 | [],h=>hk h
 | (i,C)::l,h=>by
  unfold A6Y at h ⊢
  split at h
  ·exact ⟨h.1,A6j hk h.2⟩
  ·exact A6j hk h
theorem B3f {P:Program} {T:G4} {M:H1} {frz:List Nat} {ops:List Oper} {i:Nat} {keep:List Nat} {pd:A4x} {K K':KA} {A:List AV} {st:St} (hK:∀ A st,K A st→K' A st) (h:B4U P T M frz ops i keep pd K A st):B5m P T M ops i keep pd K' A st:=by
 unfold B4U at h
 unfold B5m
 cases ho:ops[i]? with
 | none=>rw [ho] at h;exact h.elim
 | some o =>
  rw [ho] at h
  simp only at h ⊢
  obtain ⟨b,hb,h1,h2⟩:=A3w h
  rw [hb]
  refine ⟨fun e=>?_,fun e=>?_⟩
  ·exact L6 (fun v st' hk=>A6j (fun hk=>by rw [Q7] at hk;exact hK _ _ hk) hk) (A2C (h1 e))
  ·have:=h2 e
   rw [Q7] at this;exact hK _ _ this
theorem C0n {op:Op} (h:X5 op=true):A5U op=true:=by unfold A5U;rw [h];rfl
theorem A2D {P:Program} {T:G4} {M:H1} {frz:List Nat} {ops:List Oper}:∀ (t:PT) (pd:A4x) (A:List AV) (st:St) (k:KA),A4n P T M frz ops t pd A st k→A4F P T M ops t pd A st (A6F k)
 | .done,pd,A,st,k,h=>⟨A,st,A4A.refl A st,h⟩
 | .eff i keep t,pd,A,st,k,h=>B3f (fun A st h=>A2D t pd A st k h) h
 | .two i j ki kj t u,pd,A,st,k,h=>⟨B3f (fun A st h=>A2D t pd A st k h) h.1,B3f (fun A st h=>A2D u pd A st k h) h.2⟩
 | .qui i t,pd,A,st,k,h=>by
  unfold A4n at h
  unfold A4F
  cases ho:ops[i]? with
  | none=>rw [ho] at h;exact h.elim
  | some o =>
   rw [ho] at h
   simp only at h ⊢
   obtain ⟨b,hb,h1,h2⟩:=A3w h
   rw [hb]
   simp only
   refine ⟨fun e=>?_,fun e=>?_⟩
   ·have h1:=h1 e
    split at h1
    ·rename_i hp
     rw [hp]
     obtain ⟨v,hv,hk⟩:=B2f (C0n hp) (A2C h1)
     rw [Q7] at hk
     exact ⟨v,hv,A2D t pd _ _ _ hk⟩
    ·rename_i hp
     rw [hp]
     obtain ⟨v,C,hC,hv,hk⟩:=h1
     rw [Q7] at hk
     exact ⟨v,C,hC,fun s hs=>A2C (hv s hs),A2D t _ _ _ _ hk⟩
   ·have:=h2 e
    rw [Q7] at this;exact A2D t pd _ _ _ this
noncomputable def C3w (P:Program) (T:G4) (M:H1) (frz:List Nat) (ops:List Oper) (t:PT):A4x→List AV→St→KA→Prop :=
 PT.rec (motive:=fun _=>A4x→List AV→St→KA→Prop) (fun _ A st k=>k A st)
  (fun i _ ih pd A st k=>match ops[i]? with
   | none=>False
   | some o=>A5m ops o A
    (match X5 o.op with
     | true=>xOp P T M (inF frz o.dst) o.op A st fun v _=>A0U A o.dst v fun A'=>ih pd A' st k
     | false=>∃ (v:AV) (C:St→Prop),C st∧(∀ s,C s→xOp P T M (inF frz o.dst) o.op A s fun v' s'=>v'=v∧s'=s)∧A0U A o.dst v fun A'=>ih ((i,C)::pd) A' st k)
    (A0U A o.dst (.tuple []) fun A'=>ih pd A' st k))
  (fun i keep _ ih pd A st k=>B4U P T M frz ops i keep pd (fun A' st'=>ih pd A' st' k) A st)
  (fun i j ki kj _ _ iht ihu pd A st k=>B4U P T M frz ops i ki pd (fun A' st'=>iht pd A' st' k) A st∧B4U P T M frz ops j kj pd (fun A' st'=>ihu pd A' st' k) A st) t
theorem A5n {P:Program} {T:G4} {M:H1} {frz:List Nat} {ops:List Oper}:∀ t,C3w P T M frz ops t=A4n P T M frz ops t
 | .done=>by funext pd A st k;rfl
 | .qui i t=>by
  funext pd A st k
  conv=>rhs;unfold A4n
  rw [←A5n t];rfl
 | .eff i keep t=>by
  funext pd A st k
  conv=>rhs;unfold A4n
  rw [←A5n t];rfl
 | .two i j ki kj t u=>by
  funext pd A st k
  conv=>rhs;unfold A4n
  rw [←A5n t,←A5n u];rfl
noncomputable def yDp (P:Program) (T:G4) (M:H1) (frz:List Nat) (ops:List Oper) (A:List AV) (st:St) (k:KA):Prop :=
 yDr P T M frz ops A st k∨∃ (eff:List Nat) (t:PT),(Region.noSelect ops.toArray&&okP ops.toArray eff t [] ops.length (Array.replicate ops.length false))=true∧C3w P T M frz ops t [] A st k
theorem C4N {P:Program} {T:G4} {M:H1} {frz:List Nat} {ops:List Oper} {A:List AV} {st:St} {k:KA} (h:yDp P T M frz ops A st k):Dp P T M ops A st (A6F k):=by
 refine ⟨A6F k,fun _ _ h=>h,?_⟩
 rcases h with h | ⟨eff,t,h1,h2⟩
 ·rw [C1l] at h;exact .inl (C1i h)
 ·rw [A5n] at h2;exact .inr ⟨eff,t,h1,A2D t _ _ _ _ h2⟩
noncomputable def Z (P:Program) (T:G4) (M:H1) (frz:List Nat) (c:Code):List AV→St→(Exit→KA)→Prop :=
 Code.rec (motive:=fun _=>List AV→St→(Exit→KA)→Prop)
  (fun A st K=>K .normal A st)
  (fun _ ops draw A st K=>match draw with
   | false=>C1m P T M frz ops.toList ops.toList A st (K .normal)
   | true=>yDp P T M frz ops.toList A st (K .normal))
  (fun _ _ x y A st K=>x A st fun e A' st'=>match e with
   | .normal=>y A' st' K
   | e=>K e A' st')
  (fun c _ _ x y A st K=>evK A c fun v=>match v with
   | .bool b=>A2K b (x A st K) (y A st K)
   | .ubool=>x A st K∧y A st K
   | _=>False)
  (fun id _ c A st K=>c A st fun e A' st'=>match e with
   | .exit j=>(match Nat.beq j id with | true=>K .normal A' st' | false=>K (.exit j) A' st')
   | e=>K e A' st')
  (fun _ c A st K=>∃ (keep:List Nat) (I:Nat→KA),(A3m A keep fun us=>∃ m,I m us st)∧∀ m vs st',I m vs st'→B1B A.length fun B=>A8p keep vs B fun A'=>c A' st' fun e A'' st''=>match e with
   | .normal=>A''.length=A.length∧A3m A'' keep fun us=>∃ m',m'<m∧I m' us st''
   | e=>K e A'' st'')
  (fun _ _ _ _ _ _ A st K=>False)
  (fun id A st K=>K (.exit id) A st)
  (fun _ _ A st K=>False)
  (fun _ A st K=>False)
  (fun _ A st K=>False)
  (fun A st K=>K .ret A st)
  (fun _ A st K=>False) c
theorem A8H {P:Program} {T:G4} {M:H1}:∀ (c:Code) (A:List AV) (st:St) (K K':Exit→KA),(∀ e A st,K e A st→K' e A st)→W P T M (Dp P T M) c A st K→W P T M (Dp P T M) c A st K':=by
 have hops:∀ (ops l:List Oper) (A:List AV) (st:St) (k k':KA),(∀ A st,k A st→k' A st)→A5M P T M ops l A st k→A5M P T M ops l A st k':=by
  intro ops l
  induction l with
  | nil=>intro A st k k' hk h;exact hk _ _ h
  | cons o l ih =>
   intro A st k k' hk h
   unfold A5M at h ⊢
   split at h
   ·exact h.elim
   ·exact ⟨fun e=>L6 (fun v st h=>ih _ _ _ _ hk h) (h.1 e),fun e=>ih _ _ _ _ hk (h.2 e)⟩
 intro c
 induction c with
 | skip=>intro A st K K' hK h;exact hK _ _ _ h
 | region id ops draw =>
  intro A st K K' hK h
  unfold W at h ⊢
  cases draw with
  | false=>exact hops _ _ _ _ _ _ (fun A st ⟨A',st',h1,h2⟩=>⟨A',st',h1,hK _ _ _ h2⟩) h
  | true =>
   obtain ⟨k',h1,h2⟩:=h
   exact ⟨k',fun A st h=>by obtain ⟨A',st',h3,h4⟩:=h1 A st h;exact ⟨A',st',h3,hK _ _ _ h4⟩,h2⟩
 | seq x y ihx ihy =>
  intro A st K K' hK h
  unfold W at h ⊢
  refine ihx _ _ _ _ (fun e A st h=>?_) h
  cases e<;>first | exact hK _ _ _ h | exact ihy _ _ _ _ hK h
 | cond c x y ihx ihy =>
  intro A st K K' hK h
  unfold W at h ⊢
  split at h
  ·exact ⟨fun e=>ihx _ _ _ _ hK (h.1 e),fun e=>ihy _ _ _ _ hK (h.2 e)⟩
  ·exact ⟨ihx _ _ _ _ hK h.1,ihy _ _ _ _ hK h.2⟩
  ·exact h
 | block id c ih =>
  intro A st K K' hK h
  unfold W at h ⊢
  refine ih _ _ _ _ (fun e A st h=>?_) h
  cases e<;>simp only at h ⊢<;>try exact hK _ _ _ h
  split at h
  ·rename_i e;rw [if_pos e];exact hK _ _ _ h
  ·rename_i e;rw [if_neg e];exact hK _ _ _ h
 | loop c ih =>
  intro A st K K' hK h
  unfold W at h ⊢
  obtain ⟨keep,I,h0,hI⟩:=h
  refine ⟨keep,I,h0,fun m vs st' hi=>ih _ _ _ _ (fun e A st h=>?_) (hI m vs st' hi)⟩
  cases e<;>first | exact hK _ _ _ h | exact h
 | exit id=>intro A st K K' hK h;exact hK _ _ _ h
 | ret=>intro A st K K' hK h;exact hK _ _ _ h
 | rangeFunc _ _ _ _=>intro A st K K' hK h;exact h
 | scope _=>intro A st K K' hK h;exact h
 | label _=>intro A st K K' hK h;exact h
 | goto _=>intro A st K K' hK h;exact h
 | refuse _=>intro A st K K' hK h;exact h
theorem Z_W {P:Program} {T:G4} {M:H1} {frz:List Nat}:∀ (c:Code) (A:List AV) (st:St) (K:Exit→KA),Z P T M frz c A st K→W P T M (Dp P T M) c A st K:=by
 intro c
 induction c with
 | skip=>intro A st K h;exact h
 | region id ops draw =>
  intro A st K h
  unfold W
  cases draw with
  | false =>
   have h:C1m P T M frz ops.toList ops.toList A st (K .normal):=h
   rw [B3i] at h
   exact A8V _ _ _ _ h
  | true=>exact C4N h
 | seq x y ihx ihy =>
  intro A st K h
  unfold W
  refine A8H _ _ _ _ _ (fun e A st h=>?_) (ihx _ _ _ h)
  cases e<;>first | exact h | exact ihy _ _ _ h
 | cond c x y ihx ihy =>
  intro A st K h
  have h:evK A c fun v=>match v with
   | .bool b=>A2K b (Z P T M frz x A st K) (Z P T M frz y A st K)
   | .ubool=>Z P T M frz x A st K∧Z P T M frz y A st K
   | _=>False:=h
  unfold W
  rw [A2W] at h
  split at h
  ·rename_i b hb
   rw [hb]
   obtain ⟨h1,h2⟩:=(W1 _ _ _).1 h
   exact ⟨fun e=>ihx _ _ _ (h1 e),fun e=>ihy _ _ _ (h2 e)⟩
  ·rename_i hb
   rw [hb]
   exact ⟨ihx _ _ _ h.1,ihy _ _ _ h.2⟩
  ·exact h.elim
 | block id c ih =>
  intro A st K h
  unfold W
  refine A8H _ _ _ _ _ (fun e A st h=>?_) (ih _ _ _ h)
  cases e<;>simp only at h ⊢<;>try exact h
  split at h
  ·rename_i e;rw [if_pos (Nat.eq_of_beq_eq_true e)];exact h
  ·rename_i e;rw [if_neg (Nat.ne_of_beq_eq_false e)];exact h
 | loop c ih =>
  intro A st K h
  unfold W
  obtain ⟨keep,I,h0,hI⟩:=h
  rw [A0L] at h0
  refine ⟨keep,I,h0,fun m vs st' hi=>?_⟩
  have h1:=hI m vs st' hi
  rw [A9Z,B0h] at h1
  refine A8H _ _ _ _ _ (fun e A st h=>?_) (ih _ _ _ h1)
  cases e<;>first | exact h | (rw [A0L] at h;exact h)
 | exit id=>intro A st K h;exact h
 | ret=>intro A st K h;exact h
 | rangeFunc _ _ _ _=>intro A st K h;exact h
 | scope _=>intro A st K h;exact h
 | label _=>intro A st K h;exact h
 | goto _=>intro A st K h;exact h
 | refuse _=>intro A st K h;exact h
theorem A7y {P:Program} {T:G4} {M:H1} (frz:List Nat) (hG:A6B P T M) (hm:P.follows .mixedOrders=true) {f:FuncId} {fn:Func} {c:Code} {args:List AV} {st:St} {post:KK} {n:Nat} {rs:Array ResultVar}
  (hf : P.funcs[f]? = some fn) (hname : (fn.name == "runtime.NumGoroutine") = false) (hb : fn.body = some c) (hn : fn.ntmps = n) (hr : fn.results = rs)
  (h:A6s args n fun A=>Z P T M frz c A st (C4J T rs.toList post)):S P f args st post:=by
 subst hn;subst hr
 rw [A7Z] at h
 refine B9b hG (C4U hG hm) hf hname hb (A8H _ _ _ _ _ (fun e A st h=>?_) (Z_W _ _ _ _ h))
 cases e<;>first | exact h | (exact A7w _ _ h)
end Go.Ab
set_option maxRecDepth 100000
namespace Go.Proofs.YthdimklenlikgaaGreat
open Go Go.Ab
attribute [local irreducible] upd del
theorem B2.arr1 {e:Nat} {f g:Nat→AV} {st:St} (h:f 0=g 0):B2 [.arr e 1 f] st [.arr e 1 g] st:=B2.arr fun i hi=>by
 obtain rfl:i=0:=by omega
 exact h
structure O2 where
 r:E8
 codes:List D7
 lines:List F0
 places:List Int
 scopes:List O4
 opens:List (List Int)
def A2I (d:O2) (lv pv cv ov:AV):AV:=.agg [A7 4 E3 d.r.items,A7 15 B8 d.r.promos,eB d.r.tax.incl,eB d.r.tax.byOrder,eI d.r.tax.round,A7 4 S8 d.r.tax.zones,eI d.r.ship.fee,eI d.r.ship.free,eI d.r.policy.window,eI d.r.policy.grace,eI d.r.policy.mode,eI d.r.policy.restock,B3 d.r.policy.order,B3 d.r.policy.credit,D3 d.codes,lv,pv,cv,ov]
abbrev A5R (d:O2) (ov:AV):AV:=A2I d (A7 3 E4 d.lines) (B3 d.places) (A7 2 J3 d.scopes) ov
abbrev A9H (d:O2) (ov:AV):St→St→Prop:=fun s t=>ROut F2 29 1 (fun k=>B3 (d.opens.getD k default)) d.opens.length s ov t
def C3A (d:O2) (ov:AV) (y:Q5):Prop:=∃ f,y=⟨171,19,1,f⟩∧f 0=A5R d ov
def A0F (bd:Nat) (d:O2):St→St→Prop:=fun s t=>∃ ov,A0Z bd (C3A d ov) (A9H d ov) s t
theorem X2 (bd:Nat) (d:O2):G7 (A0F bd d):=B3t fun _=>A1T (M9 C5 _ _ _ _ _)
theorem A0F.at {bd:Nat} {d:O2} {s t:St} (h:A0F bd d s t):∃ ov f,t bd=some ⟨171,19,1,f⟩∧f 0=A5R d ov∧s bd=none∧A9H d ov (upd s bd ⟨171,19,1,f⟩) t:=by
 obtain ⟨ov,h1,y,⟨f,rfl,hf⟩,h3⟩:=h
 exact ⟨ov,f,ROut.sup C5 h3 bd _ (A0 ..),hf,h1,h3⟩
theorem A0F.more {bd:Nat} {d:O2} {s t t':St} (h:A0F bd d s t) (hs:F2 t t'):A0F bd d s t':=by
 obtain ⟨ov,h1,y,h2,s0,h3,h4⟩:=h
 exact ⟨ov,h1,y,h2,s0,h3,h4.trans hs⟩
structure A6b (d:O2):Prop where
 items:d.r.items.length≤100000
 nplaces:d.places.length=d.scopes.length
 few:d.scopes.length≤100000
 scopes:∀ s∈d.scopes,s.skus.length≤20∧s.cats.length≤20
 lines:d.lines.length≤1000
 nopens:d.opens.length=d.lines.length
def A6g (d:O2) (sku:D7):List Int:=(A0Y d.scopes (d.r.items.getD (V8 d.r.items sku).toNat default) d.scopes.length).map fun k=>gI d.places k.toNat
set_option maxHeartbeats 2000000 in
theorem C1G (bd:Nat) (d:O2) (x:F0) (hok:A6b d) (hk:known d.r.items x.sku=true) (t:St) (f:Nat→AV) (lv ov:AV) (atd:t bd=some ⟨171,19,1,f⟩) (hf:f 0=A2I d lv (B3 d.places) (A7 2 J3 d.scopes) ov):S P 110 [.optr 19 bd 0 0,E4 x] t fun v t'=>v=B3 (A6g d x.sku)∧t'=t:=by
 have hit:=hok.items
 have hfew:=hok.few
 have hnp:=hok.nplaces
 have hfd:=fun u=>B5u d.r.items x.sku (by omega) u
 have hk0:0≤V8 d.r.items x.sku:=of_decide_eq_true hk
 have hk1:V8 d.r.items x.sku<d.r.items.length:=(A9u _ _).2
 have eA:A6g d x.sku=(A0Y d.scopes (d.r.items.getD (V8 d.r.items x.sku).toNat default) d.scopes.length).map fun k=>gI d.places k.toNat:=rfl
 generalize V8 d.r.items x.sku=I at hfd hk0 hk1 eA
 have hix:=fun u=>B9N (d.r.items.getD I.toNat default) d.scopes hfew hok.scopes u
 obtain ⟨it,hite⟩:∃ it,d.r.items.getD I.toNat default=it:=⟨_,rfl⟩
 rw [hite] at hix eA
 have hul:=B1n d.scopes it d.scopes.length
 have hum:∀ k,k∈A0Y d.scopes it d.scopes.length→0≤k∧k.toNat<d.places.length:=fun k hk=>by
  obtain ⟨j,hj,rfl⟩:=List.mem_map.1 hk
  have:=List.mem_range.1 (List.mem_filter.1 hj).1
  exact ⟨Int.natCast_nonneg _,by rw [hnp];simpa using this⟩
 generalize A0Y d.scopes it d.scopes.length=HU at hix eA hul hum
 rw [eA]
 refine S.post (post:=fun v u=>∃ T0,F2 t T0∧H7 3 1 (fun k=>eI (gI (HU.map fun k=>gI d.places k.toNat) k)) T0 HU.length v u) ?_ (fun v u hv=>?_)
 ·refine A7y [3] B7 mixed Tryz.func110 (by rfl) rfl rfl rfl ?_;conv=>whnf
  refine .inr ⟨[15,16],.qui 0 (.qui 1 (.qui 2 (.qui 3 (.qui 4 (.qui 5 (.qui 6 (.qui 7 (.qui 8 (.qui 9 (.qui 10 (.qui 11 (.qui 12 (.qui 13 (.qui 14 (.eff 15 [4,9,11,12,14] (.eff 16 [] (.done))))))))))))))))),by kernel_rfl,?_⟩;conv=>whnf
  refine ⟨_,fun s=>s bd=some ⟨171,19,1,f⟩,atd,fun s hs=>E9 hs rfl (by omega) hf ⟨rfl,rfl⟩,?_⟩;conv=>whnf
  refine ⟨_,fun s=>s bd=some ⟨171,19,1,f⟩,atd,fun s hs=>E9 hs rfl (by omega) hf ⟨rfl,rfl⟩,?_⟩;conv=>whnf
  refine ⟨_,fun _=>True,trivial,fun s _=>⟨rfl,rfl⟩,?_⟩;conv=>whnf
  refine ⟨_,fun _=>True,trivial,fun s _=>C9 (hfd s),?_⟩;conv=>whnf
  refine ⟨rfl,⟨hk0,hk1⟩,?_⟩;conv=>whnf
  refine ⟨_,fun _=>True,trivial,fun s _=>⟨rfl,rfl⟩,?_⟩;conv=>whnf
  rw [hite];conv=>whnf
  intro b6 hb6;conv=>whnf
  have h6:bd≠b6:=fun e=>by subst e;rw [atd] at hb6;cases hb6
  iterate 5 (refine ⟨by first | exact fun _=>trivial | exact fun h=>(A8 h6).trans h,?_⟩;conv=>whnf)
  refine K4 (A0 ..) rfl (by omega) rfl (by rfl) ?_
  rw [B6];conv=>whnf
  generalize hT:(upd t b6 _:St)=T0
  obtain ⟨f6,at6,hf6⟩:∃ f6:Nat→AV,T0 b6=some ⟨76,4,1,f6⟩∧f6 0=E3 it:=by rw [←hT];exact ⟨_,A0 ..,by rw [A2];rfl⟩
  have atd0:T0 bd=some ⟨171,19,1,f⟩:=by rw [←hT,A8 h6];exact atd
  have hsup:F2 t T0:=by rw [←hT];exact (F2.refl t).upd hb6
  clear hT
  refine .inl ⟨[],[],List.range 11,by kernel_rfl,?_⟩;conv=>whnf
  refine E9 at6 rfl (by omega) hf6 ?_;conv=>whnf
  refine ⟨_,⟨rfl,rfl⟩,?_⟩;conv=>whnf
  refine E9 atd0 rfl (by omega) hf ?_;conv=>whnf
  refine ⟨_,C9 ((hix _).pre (B2.cons (B2.arr1 rfl) (B2.keep _ _))),?_⟩;conv=>whnf
  refine ⟨rfl,⟨by decide,by show (0:Int)<((1:Nat):Int);decide⟩,?_⟩;conv=>whnf
  refine lp HU.length [0,5,32,33,34] (fun i vs u=>∃ sv,vs=[.optr 19 bd 0 0,sv,B3 HU,eI HU.length,eI i]∧H7 3 1 (fun k=>eI (gI (HU.map fun k=>gI d.places k.toNat) k)) T0 i sv u) ?_ ?_
  ·conv=>whnf
   exact ⟨_,rfl,H7.start _ _ _ _⟩
  rintro i vs u hi ⟨sv,rfl,hc⟩
  conv=>whnf
  cases h1:decide ((i:Int)<(HU.length:Int))
  ·obtain rfl:=D1 h1 hi
   conv=>whnf
   exact ⟨T0,hsup,hc⟩
  ·have hi':=F7 h1
   have hg:HU.getD (i:Int).toNat default∈HU:=B4 hi'
   obtain ⟨g0,g1⟩:=hum _ hg
   have hm:gI (HU.map fun k=>gI d.places k.toNat) i=gI d.places (HU.getD (i:Int).toNat default).toNat:=D8 (fun k:Int=>gI d.places k.toNat) HU hi'
   conv=>whnf
   refine ⟨rfl,⟨by omega,by omega⟩,?_⟩;conv=>whnf
   refine E9 (hc.sup bd _ atd0) rfl (by omega) hf ?_;conv=>whnf
   refine ⟨rfl,⟨g0,by omega⟩,?_⟩;conv=>whnf
   refine H7.app (q:=r3) rfl rfl rfl rfl rfl (f:=fun k=>eI (gI (HU.map fun k:Int=>gI d.places k.toNat) k)) (by show _=eI _;rw [hm];rfl) (by show (i+1) * 8≤140737488355328;omega) hc (fun sv' u' hc'=>?_);conv=>whnf
   refine ⟨rfl,?_⟩;conv=>whnf
   exact nx hi' ⟨sv',by rw [C0 (by omega)],hc'⟩
 ·obtain ⟨T0,h1,h2⟩:=hv
  refine ⟨_,t,⟨rfl,rfl⟩,?_⟩
  have e:B3 (HU.map fun k=>gI d.places k.toNat)=.arr 1 HU.length (fun k=>eI (gI (HU.map fun k=>gI d.places k.toNat) k)):=by unfold B3 A7;rw [List.length_map]
  rw [e]
  exact h2.shift.trans (h1.shift _)
def H5 (l:List F0) (i:Nat) (x:F0):List F0:=if i=l.length then l++[x] else l.set i x
def Y2 (d:O2) (i:Int) (x:F0):Int:=if i<0∨i>d.lines.length then 2 else H0 (known d.r.items) (H5 d.lines i.toNat x)
def A4m (d:O2) (i:Nat) (x:F0):O2:={ d with lines:=H5 d.lines i x,opens:=(if i=d.lines.length then d.opens++[[]] else d.opens).set i (A6g d x.sku) }
def A4r (d:O2) (i:Int) (x:F0):O2:=if Y2 d i x=0 then A4m d i.toNat x else d
theorem A3Y (l:List F0) (i:Nat) (x:F0):(H5 l i x).length=if i=l.length then l.length+1 else l.length:=by
 unfold H5;split<;>simp
theorem A8o {l:List F0} {i:Nat} (hi:i≤l.length) (x:F0) (k:Nat):(H5 l i x).getD k default=if k=i then x else l.getD k default:=by
 unfold H5
 by_cases e:i=l.length
 ·rw [if_pos e]
  by_cases ek:k=i
  ·rw [if_pos ek,ek,e];simp
  ·rw [if_neg ek]
   by_cases hk:k<l.length
   ·exact A0c hk
   ·rw [List.getD_eq_getElem?_getD,List.getD_eq_getElem?_getD,List.getElem?_eq_none (by simp;omega),List.getElem?_eq_none (by omega)]
 ·rw [if_neg e,List.getD_eq_getElem?_getD,List.getElem?_set]
  by_cases ek:k=i
  ·subst ek;rw [if_pos rfl,if_pos rfl,if_pos (by omega)];rfl
  ·rw [if_neg ek,if_neg (fun h=>ek h.symm)];rfl
theorem B2Q {v:AV} (h:v.one=true) (u:AV):P3 v 0 [u]=u:=by cases v<;>first | rfl | cases h
set_option maxHeartbeats 4000000 in
theorem A7G (bd:Nat) (d:O2) (i:Int) (x:F0) (hok:A6b d) (s t:St) (h:A0F bd d s t) :
  S P 29 [.optr 19 bd 0 0,eI i,E4 x] t fun v t'=>v=eI (Y2 d i x)∧A0F bd (A4r d i x) s t':=by
 obtain ⟨ov,f,atd,hf,hsd,hO⟩:=h.at
 have hll:=hok.lines
 have hno:=hok.nopens
 have hcl:=fun u=>A8f d.lines (by omega) u
 refine S.post (post:=fun v t'=>(v=eI (Y2 d i x)∧A0F bd (A4r d i x) s t')∨(v=eI 0∧Y2 d i x=0∧∃ b g ov' f',s b=none∧b≠bd∧(∀ k,k<(H5 d.lines i.toNat x).length→g k=E4 ((H5 d.lines i.toNat x).getD k default)) ∧
   f' 0=A2I d (.own 3 b 0 (H5 d.lines i.toNat x).length) (B3 d.places) (A7 2 J3 d.scopes) ov' ∧
   A9H (A4m d i.toNat x) ov' (upd (upd s bd ⟨171,19,1,f'⟩) b ⟨56,3,(H5 d.lines i.toNat x).length,g⟩) t')) ?_ (fun v t' hv=>?_)
 ·refine A7y [5] B7 mixed Tryz.func29 (by rfl) rfl rfl rfl ?_;conv=>whnf
  cases h1:decide (i<0)
  case true =>
   have e:Y2 d i x=2:=by unfold Y2;rw [if_pos (.inl (of_decide_eq_true h1))]
   conv=>whnf
   refine .inl ⟨by rw [e];rfl,?_⟩
   unfold A4r;rw [if_neg (by rw [e];decide)];exact h
  have h1:=of_decide_eq_false h1
  conv=>whnf
  refine E9 atd rfl (by omega) hf ?_;conv=>whnf
  cases h2:decide (i>(d.lines.length:Int))
  case true =>
   have e:Y2 d i x=2:=by unfold Y2;rw [if_pos (.inr (of_decide_eq_true h2))]
   conv=>whnf
   refine .inl ⟨by rw [e];rfl,?_⟩
   unfold A4r;rw [if_neg (by rw [e];decide)];exact h
  have h2:=of_decide_eq_false h2
  obtain ⟨n,rfl⟩:∃ n:Nat,i=n:=⟨i.toNat,by omega⟩
  rw [show ((n:Int)).toNat=n from rfl]
  have hn:n≤d.lines.length:=by omega
  obtain ⟨L,hL⟩:∃ L,L=H5 d.lines n x:=⟨_,rfl⟩
  have hLl:=A3Y d.lines n x
  have hLa:=A8o hn x
  rw [←hL] at hLl hLa ⊢
  have eS:Y2 d n x=H0 (known d.r.items) L:=by unfold Y2;rw [if_neg (by omega),hL];rfl
  conv=>whnf
  refine E9 atd rfl (by omega) hf ?_;conv=>whnf
  refine call (hcl _) (fun sv t1 hc=>?_)
  rcases ROut.head (show ROut F2 _ _ _ _ _ sv t1 from ⟨_,hc,F2.refl _⟩) with rfl | ⟨b0,rfl⟩
  all_goals
   conv=>whnf
   refine C3 (fun h3=>?_) (fun h3=>?_)<;>rw [h3]
  case' inl.refine_1 =>
   have h3:n=d.lines.length:=by have:=eq_of_beq h3;have e0:d.lines.length=0:=by { rcases hc with ⟨h0,_⟩ | ⟨_,b,_,_,h,_⟩;exact h0;cases h };omega
  case' inr.refine_1 =>
   have h3:n=d.lines.length:=by have:=eq_of_beq h3;omega
  case inl.refine_2 =>
   have e0:d.lines.length=0:=by { rcases hc with ⟨h0,_⟩ | ⟨_,b,_,_,h,_⟩;exact h0;cases h }
   have:=ne_of_beq_false h3
   omega
  case' inr.refine_2 =>
   have h3:n≠d.lines.length:=by have:=ne_of_beq_false h3;omega
   rcases hc with ⟨_,h,_⟩ | ⟨_,b,g,hb,he,rfl,hg⟩
  case inr.refine_2.inl=>cases h
  case' inr.refine_2.inr =>
   have he:b=b0:=by cases he;rfl
   subst he
   have eLn:L.length=d.lines.length:=by rw [hLl,if_neg h3]
   have hgk:∀ k,k<L.length→k≠n→g k=E4 (d.lines.getD k default):=fun k hk _=>hg k (by omega)
   conv=>whnf
   refine ⟨rfl,⟨by omega,by omega⟩,?_⟩;conv=>whnf
   refine K4 (A0 ..) rfl (by omega) (show g (0+(n:Int).toNat)=E4 (d.lines.getD n default) by rw [show 0+(n:Int).toNat=n by omega];exact hg n (by omega)) (by rfl) ?_
   rw [B6];conv=>whnf
   rw [←eLn]
  case' inl.refine_1 | inr.refine_1 =>
   have eLn:L.length=d.lines.length+1:=by rw [hLl,if_pos h3]
   conv=>whnf
   refine H7.app (q:=r56) rfl rfl rfl rfl rfl (f:=fun k=>E4 (L.getD k default)) (by show _=E4 _;rw [hLa,if_pos h3.symm];rfl) (by show (d.lines.length+1) * 32≤140737488355328;omega) (H7.congr hc fun k hk=>by show E4 _=E4 _;rw [hLa,if_neg (by omega)]) (fun sv' t2 hc2=>?_)
   rcases hc2 with ⟨h0,_⟩ | ⟨_,b,g,hb,rfl,rfl,hg⟩
   ·omega
   have hgk:∀ k,k<L.length→k≠n→g k=E4 (d.lines.getD k default):=fun k hk hkn=>by rw [hg k (by omega)];show E4 _=E4 _;rw [hLa,if_neg hkn]
   conv=>whnf
   refine ⟨rfl,⟨by omega,by omega⟩,?_⟩;conv=>whnf
   refine K4 (A0 ..) rfl (by omega) (hg _ (by omega)) (by rfl) ?_
   rw [B6];conv=>whnf
   rw [←eLn]
  all_goals
   generalize hT:(upd t b _:St)=T2
   obtain ⟨g',hT2,hg'⟩:∃ g':Nat→AV,upd t b ⟨56,3,L.length,g'⟩=T2∧∀ k,k<L.length→g' k=E4 (L.getD k default):=by
    refine ⟨_,hT,fun k hk=>?_⟩
    rw [hLa]
    by_cases ek:k=n
    ·rw [if_pos ek,ek,show 0+(n:Int).toNat=n by omega,A2];rfl
    ·rw [if_neg ek,G2 (by omega)];exact hgk k hk ek
   have hbd:bd≠b:=fun e=>by subst e;rw [atd] at hb;cases hb
   have atd2:T2 bd=some ⟨171,19,1,f⟩:=by rw [←hT2,A8 hbd];exact atd
   have atb:T2 b=some ⟨56,3,L.length,g'⟩:=by rw [←hT2,A0]
   have hS2:F2 t T2:=by rw [←hT2];exact (F2.refl t).upd hb
   have hO2:=(M9 C5 _ _ _ _ _).begin (y:=⟨56,3,L.length,g'⟩) hO hb
   rw [hT2] at hO2
   have hsb:s b=none:=((X2 bd d).sup h).none hb
   clear hT hgk hg hT2
   try clear hc
   have hck:S P 109 [A7 4 E3 d.r.items,.own 3 b 0 L.length] T2 fun v s=>v=eI (H0 (known d.r.items) L)∧s=T2 :=
    S.lends (B6B d.r.items L (by have:=hok.items;omega) st0) ((B2.cons (B2.keep [A7 4 E3 d.r.items] T2) (K8 atb rfl (Nat.le_refl _) hg')).trans ((C2M _).shift _)) fun v hv=>⟨_,rfl,by rw [hv];exact So.int _ _⟩
   have hlc:H0 (known d.r.items) L=0→L.length≤1000∧known d.r.items x.sku=true:=fun h0=>⟨(A8Q h0).len,by
    have e:L.getD n default=x:=by rw [hLa,if_pos rfl]
    rw [←e];exact (A8Q h0).known _ (B4 (by omega))⟩
   refine E9 atd2 rfl (by omega) hf ?_;conv=>whnf
   refine A4 hck ?_;conv=>whnf
   generalize H0 (known d.r.items) L=E at eS hlc
   refine C3 (fun h5=>?_) (fun h5=>?_)<;>rw [h5]
  case inl.refine_1.refine_1 | inr.refine_1.refine_1 | inr.refine_2.inr.refine_1 =>
   conv=>whnf
   refine .inl ⟨by rw [eS];rfl,?_⟩
   unfold A4r
   rw [if_neg (by rw [eS];simpa using h5)]
   exact h.more hS2
  all_goals
   obtain rfl:E=0:=by simpa using h5
   obtain ⟨hL1,hkx⟩:=hlc rfl
   conv=>whnf
   refine E9 atd2 rfl (by omega) hf ?_;conv=>whnf
  case' inl.refine_1.refine_2 | inr.refine_1.refine_2 =>
   rw [show ((n:Int)==(d.lines.length:Int))=true by rw [h3];exact beq_self_eq_true _]
   rcases ROut.head hO2 with rfl | ⟨bo,rfl⟩
  case' inr.refine_2.inr.refine_2 =>
   rw [show ((n:Int)==(d.lines.length:Int))=false from beq_false_of_ne (by omega)]
  case' inl.refine_1.refine_2.inl | inl.refine_1.refine_2.inr | inr.refine_1.refine_2.inl | inr.refine_1.refine_2.inr =>
   conv=>whnf
   refine E9 atd2 rfl (by omega) hf ?_;conv=>whnf
   refine ROut.app (q:=r29) C5 rfl rfl rfl rfl rfl (f:=fun k=>if k<d.opens.length then B3 (d.opens.getD k default) else .emp) (by show _=(if _ then _ else _);rw [if_neg (Nat.lt_irrefl _)];rfl) (by show (d.opens.length+1) * 24≤140737488355328;omega) (ROut.congr hO2 fun k hk=>by rw [if_pos hk]) (fun ov' t3 hO3=>?_)
   have atd3:=ROut.sup C5 hO3 bd _ ((A8 hbd).trans (A0 ..))
   conv=>whnf
   refine B4L atd3 rfl rfl (by omega) hf (ROut.one hO3) (by decide) ?_;conv=>whnf
   generalize hT:(upd t3 bd _:St)=T4
   obtain ⟨f4,hT4,hf4⟩:∃ f4:Nat→AV,upd t3 bd ⟨171,19,1,f4⟩=T4∧f4 0=A2I d (A7 3 E4 d.lines) (B3 d.places) (A7 2 J3 d.scopes) ov':=⟨_,hT,by rw [A2];rfl⟩
   have hO4:=ROut.write (y':=⟨171,19,1,f4⟩) C5 hO3 ((A8 hbd).trans (A0 ..))
   rw [hT4,show d.opens.length+1=L.length by omega,L0 hbd,B6,L0 hbd.symm] at hO4
   have hO4:=ROut.congr (fo':=fun k=>if k=n then .emp else B3 (d.opens.getD k default)) hO4 fun k hk=>by
    by_cases ek:k=n
    ·rw [if_pos ek,if_neg (by omega)]
    ·rw [if_neg ek,if_pos (by omega)]
   have hEm:∃ eL:AV,eL.one=true∧ROut F2 29 1 (fun k=>if k=n then eL else B3 (d.opens.getD k default)) L.length (upd (upd s bd ⟨171,19,1,f4⟩) b ⟨56,3,L.length,g'⟩) ov' T4:=⟨.emp,rfl,hO4⟩
   clear hT hT4 hO3 atd3
  case' inr.refine_2.inr.refine_2 =>
   conv=>whnf
   have hO2':=hO2
   unfold A9H at hO2'
   rw [show d.opens.length=L.length by omega] at hO2'
   obtain ⟨f4,ov',T4,hf4,hT4,hO4⟩:∃ (f4:Nat→AV) (ov':AV) (T4:St),f4 0=A2I d (A7 3 E4 d.lines) (B3 d.places) (A7 2 J3 d.scopes) ov'∧T4=T2∧ROut F2 29 1 (fun k=>B3 (d.opens.getD k default)) L.length (upd (upd s bd ⟨171,19,1,f4⟩) b ⟨56,3,L.length,g'⟩) ov' T4:=⟨f,ov,T2,hf,rfl,hO2'⟩
   rw [←hT4]
   have hEm:∃ eL:AV,eL.one=true∧ROut F2 29 1 (fun k=>if k=n then eL else B3 (d.opens.getD k default)) L.length (upd (upd s bd ⟨171,19,1,f4⟩) b ⟨56,3,L.length,g'⟩) ov' T4:=⟨B3 (d.opens.getD n default),rfl,ROut.congr hO4 fun k hk=>by
    by_cases ek:k=n
    ·rw [if_pos ek,ek]
    ·rw [if_neg ek]⟩
  all_goals
   clear hO4
   obtain ⟨eL,heL,hO4⟩:=hEm
   have atd4:=ROut.sup C5 hO4 bd _ ((A8 hbd).trans (A0 ..))
   obtain ⟨bo,rfl⟩:=ROut.own0 hO4 (by omega)
   refine .inr ⟨[12,14],.qui 0 (.qui 1 (.qui 2 (.qui 3 (.qui 4 (.qui 5 (.qui 6 (.qui 7 (.qui 8 (.qui 9 (.qui 10 (.qui 11 (.eff 12 [] (.qui 13 (.eff 14 [] (.done))))))))))))))),by kernel_rfl,?_⟩;conv=>whnf
   refine ⟨_,fun s=>s bd=some ⟨171,19,1,f4⟩,atd4,fun s hs=>E9 hs rfl (by omega) hf4 ⟨rfl,rfl⟩,?_⟩;conv=>whnf
   refine ⟨_,fun _=>True,trivial,fun s _=>⟨rfl,rfl⟩,?_⟩;conv=>whnf
   refine ⟨_,fun s=>s bd=some ⟨171,19,1,f4⟩,atd4,fun s hs=>C9 (C1G bd d x hok hkx s f4 _ _ hs hf4),?_⟩;conv=>whnf
   refine K4 atd4 rfl (by omega) hf4 (by rfl) ?_;conv=>whnf
   refine ⟨rfl,⟨by omega,by omega⟩,?_⟩;conv=>whnf
   have hO5:=ROut.write (y':=⟨171,19,1,G5 f4 0 (A2I d (.own 3 b 0 L.length) (B3 d.places) (A7 2 J3 d.scopes) (.own 1 bo 0 L.length))⟩) C5 hO4 ((A8 hbd).trans (A0 ..))
   rw [L0 hbd,B6,L0 hbd.symm] at hO5
   obtain ⟨go,ato,hgo,puto⟩:=ROut.cell C5 hO5 (by omega)
   refine B4L ato rfl rfl (by omega) (show go (0+(n:Int).toNat)=eL by rw [show 0+(n:Int).toNat=n by omega,hgo n (by omega),if_pos rfl]) rfl (by decide) ?_;conv=>whnf
   refine .inr ⟨rfl,eS,b,g',.own 1 bo 0 L.length,G5 f4 0 (A2I d (.own 3 b 0 L.length) (B3 d.places) (A7 2 J3 d.scopes) (.own 1 bo 0 L.length)),hsb,hbd.symm,hg',A2 ..,?_⟩
   have e:(A4m d n x).opens.length=L.length:=by
    show (List.set _ _ _).length=_
    rw [List.length_set];split
    ·rw [List.length_append];show d.opens.length+1=_;rw [hLl,if_pos ‹_›];omega
    ·rw [hLl,if_neg ‹_›];omega
   show ROut _ _ _ _ (A4m d n x).opens.length _ _ _
   rw [e]
   refine puto _ _ fun k hk=>?_
   have ee:(A4m d n x).opens.getD k default=if k=n then A6g d x.sku else d.opens.getD k default:=by
    show (List.set _ _ _).getD k default=_
    by_cases ek:k=n
    ·subst ek
     rw [if_pos rfl,List.getD_eq_getElem?_getD,List.getElem?_set,if_pos rfl,if_pos (by have:=e;simp only [A4m,List.length_set] at this;omega)];rfl
    ·rw [if_neg ek,List.getD_eq_getElem?_getD,List.getElem?_set,if_neg (fun h=>ek h.symm)]
     show ((if n=d.lines.length then d.opens++[[]] else d.opens)[k]?).getD default=_
     by_cases en:n=d.lines.length
     ·rw [if_pos en,←List.getD_eq_getElem?_getD]
      exact A0c (by omega)
     ·rw [if_neg en];rfl
   rw [ee]
   by_cases ek:k=n
   ·rw [ek,show 0+(n:Int).toNat=n by omega,A2,if_pos rfl];exact B2Q heL _
   ·rw [G2 (by omega),hgo k hk,if_neg ek,if_neg ek]
 ·rcases hv with hv | ⟨rfl,e0,b,g,ov',f',hsb,hbb,hg,hf',hO'⟩
  ·exact ⟨_,_,hv,B2.refl _ _⟩
  ·have hB:G7 (A9H (A4m d i.toNat x) ov'):=M9 C5 _ _ _ _ _
   have atb:=hB.sup hO' b _ (A0 ..)
   have atd':=hB.sup hO' bd _ ((A8 hbb.symm).trans (A0 ..))
   have sh:=K8 (f:=fun k=>E4 ((H5 d.lines i.toNat x).getD k default)) atb rfl (Nat.le_refl _) hg
   have hfor:=hB.forget hO' ((A8 hbb).trans hsb)
   have hc:=fun vs=>B2.cell (vs:=vs) (pre:=[A7 4 E3 d.r.items,A7 15 B8 d.r.promos,eB d.r.tax.incl,eB d.r.tax.byOrder,eI d.r.tax.round,A7 4 S8 d.r.tax.zones,eI d.r.ship.fee,eI d.r.ship.free,eI d.r.policy.window,eI d.r.policy.grace,eI d.r.policy.mode,eI d.r.policy.restock,B3 d.r.policy.order,B3 d.r.policy.credit,D3 d.codes]) (post:=[B3 d.places,A7 2 J3 d.scopes,ov']) sh atd' ((Z6 hbb.symm).trans atd') (show 0<1 by omega) hf' rfl
   refine ⟨eI 0,_,⟨by rw [e0],?_⟩,hc _⟩
   unfold A4r
   rw [if_pos e0]
   refine ⟨ov',hsd,⟨171,19,1,G5 f' 0 (A5R (A4m d i.toNat x) ov')⟩,⟨G5 f' 0 (A5R (A4m d i.toNat x) ov'),rfl,A2 ..⟩,?_⟩
   have:=hB.write (y':=⟨171,19,1,G5 f' 0 (A5R (A4m d i.toNat x) ov')⟩) hfor (A0 ..)
   rw [B6] at this
   exact this
end Go.Proofs.YthdimklenlikgaaGreat
namespace Go.Proofs.YthdimklenlikgaaGreat
open Go Go.Ab
theorem B6j {l:List Int} {B:Int} (hB:0≤B) (h:∀ x∈l,-B≤x∧x≤B) : -(l.length * B)≤A6 l∧A6 l≤l.length * B:=by
 induction l with
 | nil=>exact ⟨by show -(((0:Nat):Int) * B)≤0;rw [Int.natCast_zero,Int.zero_mul];omega,by show (0:Int)≤((0:Nat):Int) * B;rw [Int.natCast_zero,Int.zero_mul];omega⟩
 | cons x l ih =>
  have h1:=ih fun y hy=>h y (List.mem_cons_of_mem _ hy)
  have h2:=h x (List.mem_cons_self ..)
  rw [N3,List.length_cons,show ((l.length+1:Nat):Int) * B=l.length * B+B by rw [Int.natCast_add,Int.add_mul];simp]
  omega
structure A2d (l:List Int):Prop where
 len:l.length≤1000
 all:∀ x∈l,-10000000000000≤x∧x≤10000000000000
theorem A2d.take {l:List Int} (h:A2d l) (i:Nat) : -10000000000000000≤A6 (l.take i)∧A6 (l.take i)≤10000000000000000:=by
 have h1:=B6j (l:=l.take i) (B:=10000000000000) (by decide) fun x hx=>h.all x (List.mem_of_mem_take hx)
 have h2:(l.take i).length≤1000:=by rw [List.length_take];have:=h.len;omega
 omega
theorem A2d.sum {l:List Int} (h:A2d l) : -10000000000000000≤A6 l∧A6 l≤10000000000000000:=by
 have:=h.take l.length
 rwa [List.take_length] at this
theorem A2d.step {l:List Int} (h:A2d l) {i:Nat} (hi:i<l.length):IntKind.i64.wrap (A6 (l.take i)+gI l i)=A6 (l.take (i+1)):=by
 have h1:=h.take (i+1)
 rw [N4 hi] at h1 ⊢
 exact A9 (by omega) (by omega)
end Go.Proofs.YthdimklenlikgaaGreat
namespace Go.Proofs.YthdimklenlikgaaGreat
open Go Go.Ab
attribute [local irreducible] upd del
theorem B2c (l:List G6) (hl:l.length≤100000) (st:St):S P 265 [A7 2 A0J l] st fun v st'=>v=A7 2 A0J l∧st'=st:=by
 refine W7 (ty:=218) ?_
 refine A5 [] B7 mixed Tryz.func265 (by rfl) rfl rfl rfl ?_
 cases l with
 | nil =>
  conv=>whnf
  refine ⟨?_,?_⟩
  ·conv=>whnf
   exact H7.start _ _ _ _
  ·conv=>whnf
   refine apE rfl rfl rfl rfl rfl (by show 0 * 24≤_;omega) (fun _=>?_) (fun h=>absurd h (by show ¬ 0<0;omega));conv=>whnf
   exact H7.start _ _ _ _
 | cons u us =>
  conv=>whnf
  refine H7.apps (n:=0) (m:=us.length+1) (q:=C2t) (f:=fun k=>A0J ((u::us).getD k default)) rfl rfl rfl rfl rfl (fun i hi=>by rw [Nat.zero_add]) (by show (0+(us.length+1)) * 24≤140737488355328;simp only [List.length_cons] at hl;omega) (H7.start _ _ _ _) (fun sv' st'' hc'=>?_);conv=>whnf
  rw [Nat.zero_add] at hc'
  exact hc'
theorem B3B (z:U3) (hl:z.rates.length≤100000) (st:St):S P 193 [S8 z] st fun v st'=>v=S8 z∧st'=st:=by
 have hc:=fun s=>B2c z.rates hl s
 refine A2F ?_
 refine A5 [] B7 mixed Tryz.func193 (by rfl) rfl rfl rfl ?_;conv=>whnf
 intro b1 h1;conv=>whnf
 intro b2 h2
 have h12:b1≠b2:=fun e=>by subst e;rw [A0] at h2;cases h2
 conv=>whnf
 refine E9 (by rw [A8 h12];exact A0 ..) rfl (by omega) rfl ?_;conv=>whnf
 refine A4 (hc _) ?_;conv=>whnf
 refine K4 (by rw [A8 h12];exact A0 ..) rfl (by omega) rfl (by rfl) ?_;conv=>whnf
 refine E9 (A0 ..) rfl (by omega) (A2 ..) ?_;conv=>whnf
 refine K4 (by rw [A8 h12.symm];exact A0 ..) rfl (by omega) rfl (by rfl) ?_;conv=>whnf
 refine E9 (A0 ..) rfl (by omega) (A2 ..) ?_;conv=>whnf
 have hn2:st b2=none:=by rw [A8 h12.symm] at h2;exact h2
 exact ⟨rfl,((((F2.refl st).upd h1).upd h2).over h1).over hn2⟩
theorem C0B (l:List A1b) (hl:Sm l.length) (hs:∀ x∈l,A1q x.scope) (st:St):S P 308 [A7 3 O9 l] st fun v st'=>v=.bool (I6 l (fun _ x=>A0e x)&&(decide ((l.length:Int)≥1)&&decide ((l.length:Int)≤3)))∧st'=st:=by
 refine A5 [] B7 mixed Tryz.func308 (by rfl) rfl rfl rfl ?_;conv=>whnf
 refine lp l.length [0,3] (fun i vs st'=>(∀ k,k<i→A0e (l.getD k default)=true)∧vs=[A7 3 O9 l,eI i]∧st'=st) ?_ ?_
 ·conv=>whnf
  exact ⟨fun k hk=>absurd hk (by omega),rfl,rfl⟩
 ·rintro i vs st' hi ⟨hok,rfl,rfl⟩
  conv=>whnf
  cases h:decide ((i:Int)<(l.length:Int))
  ·obtain rfl:=D1 h hi
   rw [J1 hok,Bool.true_and];conv=>whnf
   refine C3 (fun h=>?_) (fun h=>?_)<;>rw [h]<;>(conv=>whnf)<;>exact ⟨rfl,rfl⟩
  ·have hi':=F7 h
   have yes:A0e (l.getD (i:Int).toNat default)=true→∀ k,k<i+1→A0e (l.getD k default)=true:=fun h=>L7 hok h
   have no:A0e (l.getD (i:Int).toNat default)=false→I6 l (fun _ x=>A0e x)=false:=fun h=>S1 (p:=fun _ x=>A0e x) hi' h
   have n1:=B4t (l.getD (i:Int).toNat default).scope (hs _ (B4 hi')) st'
   rw [show A0e (l.getD (i:Int).toNat default)=(A0o (l.getD (i:Int).toNat default).scope&&!(decide ((l.getD (i:Int).toNat default).count<1)||decide ((l.getD (i:Int).toNat default).count>100))) from rfl] at yes no
   generalize A0o (l.getD (i:Int).toNat default).scope=b1 at n1 yes no
   repeat' ((conv=>whnf);first | refine ⟨rfl,⟨by omega,by omega⟩,?_⟩ | refine A4 n1 ?_ | cases b1 | (refine C3 (fun h=>?_) (fun h=>?_)<;>rw [h]))
   all_goals (conv=>whnf)
   all_goals first
    | (rw [no (by simp only [*,Bool.true_or,Bool.or_true,Bool.not_true,Bool.and_false,Bool.false_and])];exact ⟨rfl,rfl⟩)
    | (refine ⟨rfl,?_⟩;conv=>whnf
       exact nx hi' ⟨yes (by simp only [*,Bool.or_false,Bool.not_false,Bool.and_true]),by rw [C0 (by omega)],rfl⟩)
theorem B4v (l:List Int) (hl:Sm l.length) (st:St):S P 163 [B3 l] st fun v st'=>v=.bool (A1j l)∧st'=st:=by
 refine A5 [] B7 mixed Tryz.func163 (by rfl) rfl rfl rfl ?_;conv=>whnf
 refine lp l.length [0,3] (fun i vs st'=>(∀ k,k<i→A1H l k (l.getD k default)=true)∧vs=[B3 l,eI i]∧st'=st) ?_ ?_
 ·conv=>whnf
  exact ⟨fun k hk=>absurd hk (by omega),rfl,rfl⟩
 ·rintro i vs st' hi ⟨hok,rfl,rfl⟩
  conv=>whnf
  cases h:decide ((i:Int)<(l.length:Int))
  ·obtain rfl:=D1 h hi
   conv=>whnf
   exact ⟨by rw [show A1j l=true from J1 hok];rfl,rfl⟩
  ·have hi':=F7 h
   have yes:A1H l i (l.getD (i:Int).toNat default)=true→∀ k,k<i+1→A1H l k (l.getD k default)=true:=fun h=>L7 hok h
   have no:A1H l i (l.getD (i:Int).toNat default)=false→A1j l=false:=fun h=>S1 hi' h
   rw [show A1H l i (l.getD (i:Int).toNat default)=!(!(decide ((l.getD (i:Int).toNat default)≥1)&&decide ((l.getD (i:Int).toNat default)≤9))||(l.take i).any fun y=>l.getD (i:Int).toNat default==y) from rfl] at yes no
   have no':(decide ((l.getD (i:Int).toNat default)≥1)&&decide ((l.getD (i:Int).toNat default)≤9))=false→A1j l=false:=fun h=>no (by rw [h];rfl)
   repeat' ((conv=>whnf);first | refine ⟨rfl,⟨by omega,by omega⟩,?_⟩ | (refine C3 (fun h=>?_) (fun h=>?_)<;>rw [h]))
   all_goals (conv=>whnf)
   ·rw [no' (by rw [Bool.and_eq_false_iff,decide_eq_false_iff_not,decide_eq_false_iff_not];simp only [decide_eq_true_eq,decide_eq_false_iff_not] at *;omega)];exact ⟨rfl,rfl⟩
   ·rw [no' (by rw [Bool.and_eq_false_iff,decide_eq_false_iff_not,decide_eq_false_iff_not];simp only [decide_eq_true_eq,decide_eq_false_iff_not] at *;omega)];exact ⟨rfl,rfl⟩
   have hk:(decide ((l.getD (i:Int).toNat default)≥1)&&decide ((l.getD (i:Int).toNat default)≤9))=true:=by rw [Bool.and_eq_true,decide_eq_true_eq,decide_eq_true_eq];simp only [decide_eq_true_eq,decide_eq_false_iff_not] at *;omega
   rw [hk] at yes no
   refine lp i [0,3,4] (fun j vs s=>(∀ k,k<j→(l.getD k default==l.getD i default)=false)∧vs=[B3 l,eI i,eI j]∧s=st') ?_ ?_
   ·conv=>whnf
    exact ⟨fun k hk=>absurd hk (by omega),rfl,rfl⟩
   ·rintro j vs s hj ⟨hokj,rfl,rfl⟩
    conv=>whnf
    cases h:decide ((j:Int)<(i:Int))
    ·obtain rfl:=D1 h hj
     conv=>whnf
     refine ⟨rfl,?_⟩;conv=>whnf
     refine nx hi' ⟨yes ?_,by rw [C0 (by omega)],rfl⟩
     rw [List.any_eq_false.2 fun x hx=>?_];rfl
     obtain ⟨k,hk2,rfl⟩:=F4 hx
     rw [List.length_take] at hk2
     have h4:=hokj k (by omega)
     rw [Int.toNat_natCast,show (l.take j).getD k default=l.getD k default by rw [List.getD_eq_getElem?_getD,List.getD_eq_getElem?_getD,List.getElem?_take_of_lt (by omega)],Bool.beq_comm,h4];simp
    ·have hj':=F7 h
     conv=>whnf
     refine ⟨[],[],List.range 9,by kernel_rfl,?_⟩;conv=>whnf
     refine ⟨rfl,⟨by omega,by omega⟩,?_⟩;conv=>whnf
     refine ⟨rfl,⟨by omega,by omega⟩,?_⟩;conv=>whnf
     refine C3 (fun h1=>?_) (fun h1=>?_)<;>rw [h1]
     ·conv=>whnf
      refine ⟨?_,rfl⟩
      rw [no ?_];rfl
      rw [List.any_eq_true.2 ⟨l.getD j default,?_,?_⟩];rfl
      ·rw [List.mem_take_iff_getElem]
       exact ⟨j,by omega,by simp [show j<l.length by omega]⟩
      ·rw [Bool.beq_comm];exact h1
     ·conv=>whnf
      refine ⟨rfl,?_⟩;conv=>whnf
      exact nx hj' ⟨L7 hokj h1,by rw [C0 (by omega)],rfl⟩
structure B5b (z:U3):Prop where
 n:Sm z.rates.length
 s:Sm z.name.size
 r:∀ x∈z.rates,Sm x.cat.size
def A2Z (l:List G6) (k:Nat) (x:G6):Bool:=F1 x.cat&&R7 0 10000 x.rate&&L3 (l.map G6.cat) k
def B0A (z:U3):Bool:=I6 z.rates (A2Z z.rates)&&(decide ((z.rates.length:Int)≤40)&&R7 0 10000 z.rest&&R7 0 10000 z.ship)
theorem C0C (z:U3) (hz:B5b z) (st:St):S P 251 [S8 z] st fun v st'=>v=.bool (B0A z)∧st'=st:=by
 rw [show B0A z=(I6 z.rates (A2Z z.rates)&&(decide ((z.rates.length:Int)≤40)&&R7 0 10000 z.rest&&R7 0 10000 z.ship)) from rfl]
 refine A5 [1] B7 mixed Tryz.func251 (by rfl) rfl rfl rfl ?_;conv=>whnf
 refine lp z.rates.length [1,3] (fun i vs st'=>(∀ k,k<i→A2Z z.rates k (z.rates.getD k default)=true)∧vs=[.fptr (S8 z) 0,eI i]∧st'=st) ?_ ?_
 ·conv=>whnf
  exact ⟨fun k hk=>absurd hk (by omega),rfl,rfl⟩
 ·rintro i vs st' hi ⟨hok,rfl,rfl⟩
  conv=>whnf
  cases h:decide ((i:Int)<(z.rates.length:Int))
  ·obtain rfl:=D1 h hi
   rw [show I6 z.rates (A2Z z.rates)=true from J1 hok,Bool.true_and];conv=>whnf
   cases hd:decide ((z.rates.length:Int)≤40)
   ·conv=>whnf
    exact ⟨rfl,rfl⟩
   ·conv=>whnf
    refine A4 (A1N z.rest 10000 _) ?_;conv=>whnf
    cases R7 0 10000 z.rest
    ·conv=>whnf
     exact ⟨rfl,rfl⟩
    ·conv=>whnf
     refine A4 (A1N z.ship 10000 _) ?_;conv=>whnf
     exact ⟨rfl,rfl⟩
  ·have hi':=F7 h
   have yes:A2Z z.rates i (z.rates.getD (i:Int).toNat default)=true→∀ k,k<i+1→A2Z z.rates k (z.rates.getD k default)=true:=fun h=>L7 hok h
   have no:A2Z z.rates i (z.rates.getD (i:Int).toNat default)=false→I6 z.rates (A2Z z.rates)=false:=fun h=>S1 hi' h
   have hl:=hz.n
   have hm:=hz.r _ (B4 hi')
   have n1:=A2N (z.rates.getD (i:Int).toNat default).cat hm st'
   have n2:=A1N (z.rates.getD (i:Int).toNat default).rate 10000 st'
   have e:0<i→L3 (z.rates.map G6.cat) i=!(Op.bytesLess (z.rates.getD i default).cat.toList (z.rates.getD (i - 1) default).cat.toList||(z.rates.getD i default).cat.toList==(z.rates.getD (i - 1) default).cat.toList):=fun hp=>by
    rw [B2K hp]
    have e1:(z.rates.map G6.cat).getD i default=(z.rates.getD i default).cat:=D8 G6.cat z.rates hi'
    have e2:(z.rates.map G6.cat).getD (i - 1) default=(z.rates.getD (i - 1) default).cat:=D8 G6.cat z.rates (by omega)
    rw [e1,e2]
   have e0:i=0→L3 (z.rates.map G6.cat) i=true:=fun h=>by rw [h];rfl
   rw [show A2Z z.rates i (z.rates.getD (i:Int).toNat default)=(F1 (z.rates.getD (i:Int).toNat default).cat&&R7 0 10000 (z.rates.getD (i:Int).toNat default).rate&&L3 (z.rates.map G6.cat) i) from rfl] at yes no
   generalize F1 (z.rates.getD (i:Int).toNat default).cat=b1 at n1 yes no
   generalize R7 0 10000 (z.rates.getD (i:Int).toNat default).rate=b2 at n2 yes no
   conv=>whnf
   refine ⟨[],[],List.range 38,by kernel_rfl,?_⟩
   cases h0:decide ((i:Int)>0)
   ·replace e:=e0 (by have:=of_decide_eq_false h0;omega)
    repeat' ((conv=>whnf);first | refine ⟨rfl,⟨by omega,by omega⟩,?_⟩ | refine ⟨_,C9 n1,?_⟩ | refine ⟨_,C9 n2,?_⟩ | rw [h0] | cases b1 | cases b2)
    all_goals (conv=>whnf)
    all_goals first
     | (rw [no (by rfl)];exact ⟨rfl,rfl⟩)
     | (refine ⟨rfl,?_⟩;conv=>whnf
        exact nx hi' ⟨yes (by rw [e];rfl),by rw [C0 (by omega)],rfl⟩)
   ·have h0':0<i:=by have:=of_decide_eq_true h0;omega
    replace e:=e h0'
    have hw:=A5Z h0' (by omega)
    repeat' ((conv=>whnf);first | refine ⟨rfl,⟨by omega,by omega⟩,?_⟩ | refine ⟨rfl,⟨by rw [hw];omega,by rw [hw];omega⟩,?_⟩ | refine ⟨_,C9 n1,?_⟩ | refine ⟨_,C9 n2,?_⟩ | rw [h0] | cases b1 | cases b2 | refine C3 (fun h=>?_) (fun h=>?_))
    all_goals (conv=>whnf)
    all_goals first
     | (rw [no (by rfl)];exact ⟨rfl,rfl⟩)
     | (rw [hw] at h;rw [no (by rw [e];exact congrArg not h)];exact ⟨rfl,rfl⟩)
     | (rw [hw] at h;refine ⟨rfl,?_⟩;conv=>whnf
        exact nx hi' ⟨yes (by rw [e];exact congrArg not h),by rw [C0 (by omega)],rfl⟩)
def A3d (l:List U3) (k:Nat) (x:U3):Bool:=F1 x.name&&B0A x&&L3 (l.map U3.name) k
structure B6C (x:Tax):Prop where
 n:Sm x.zones.length
 z:∀ z∈x.zones,B5b z
def C2N (x:Tax):Bool:=I6 x.zones (A3d x.zones)&&(decide ((x.zones.length:Int)≤20)&&decide (x.round≥0)&&decide (x.round≤2))
theorem C2x (x:Tax) (hx:B6C x) (st:St):S P 161 [B0K x] st fun v st'=>v=.bool (C2N x)∧st'=st:=by
 rw [show C2N x=(I6 x.zones (A3d x.zones)&&(decide ((x.zones.length:Int)≤20)&&decide (x.round≥0)&&decide (x.round≤2))) from rfl]
 refine A5 [1] B7 mixed Tryz.func161 (by rfl) rfl rfl rfl ?_;conv=>whnf
 refine lp x.zones.length [1,3] (fun i vs st'=>(∀ k,k<i→A3d x.zones k (x.zones.getD k default)=true)∧vs=[.fptr (B0K x) 0,eI i]∧st'=st) ?_ ?_
 ·conv=>whnf
  exact ⟨fun k hk=>absurd hk (by omega),rfl,rfl⟩
 ·rintro i vs st' hi ⟨hok,rfl,rfl⟩
  conv=>whnf
  cases h:decide ((i:Int)<(x.zones.length:Int))
  ·obtain rfl:=D1 h hi
   rw [show I6 x.zones (A3d x.zones)=true from J1 hok,Bool.true_and];conv=>whnf
   refine C3 (fun h=>?_) (fun h=>?_)<;>rw [h]
   ·conv=>whnf
    refine C3 (fun h=>?_) (fun h=>?_)<;>rw [h]<;>(conv=>whnf)<;>exact ⟨rfl,rfl⟩
   ·conv=>whnf
    exact ⟨rfl,rfl⟩
  ·have hi':=F7 h
   have yes:A3d x.zones i (x.zones.getD (i:Int).toNat default)=true→∀ k,k<i+1→A3d x.zones k (x.zones.getD k default)=true:=fun h=>L7 hok h
   have no:A3d x.zones i (x.zones.getD (i:Int).toNat default)=false→I6 x.zones (A3d x.zones)=false:=fun h=>S1 hi' h
   have hl:=hx.n
   have hm:=hx.z _ (B4 hi')
   have n1:=A2N (x.zones.getD (i:Int).toNat default).name hm.s st'
   have n2:=C0C (x.zones.getD (i:Int).toNat default) hm st'
   have e:0<i→L3 (x.zones.map U3.name) i=!(Op.bytesLess (x.zones.getD i default).name.toList (x.zones.getD (i - 1) default).name.toList||(x.zones.getD i default).name.toList==(x.zones.getD (i - 1) default).name.toList):=fun hp=>by
    rw [B2K hp]
    have e1:(x.zones.map U3.name).getD i default=(x.zones.getD i default).name:=D8 U3.name x.zones hi'
    have e2:(x.zones.map U3.name).getD (i - 1) default=(x.zones.getD (i - 1) default).name:=D8 U3.name x.zones (by omega)
    rw [e1,e2]
   have e0:i=0→L3 (x.zones.map U3.name) i=true:=fun h=>by rw [h];rfl
   rw [show A3d x.zones i (x.zones.getD (i:Int).toNat default)=(F1 (x.zones.getD (i:Int).toNat default).name&&B0A (x.zones.getD (i:Int).toNat default)&&L3 (x.zones.map U3.name) i) from rfl] at yes no
   generalize F1 (x.zones.getD (i:Int).toNat default).name=b1 at n1 yes no
   generalize B0A (x.zones.getD (i:Int).toNat default)=b2 at n2 yes no
   conv=>whnf
   refine ⟨[],[],List.range 37,by kernel_rfl,?_⟩
   cases h0:decide ((i:Int)>0)
   ·replace e:=e0 (by have:=of_decide_eq_false h0;omega)
    repeat' ((conv=>whnf);first | refine ⟨rfl,⟨by omega,by omega⟩,?_⟩ | refine ⟨_,C9 n1,?_⟩ | refine ⟨_,C9 n2,?_⟩ | rw [h0] | cases b1 | cases b2)
    all_goals (conv=>whnf)
    all_goals first
     | (rw [no (by rfl)];exact ⟨rfl,rfl⟩)
     | (refine ⟨rfl,?_⟩;conv=>whnf
        exact nx hi' ⟨yes (by rw [e];rfl),by rw [C0 (by omega)],rfl⟩)
   ·have h0':0<i:=by have:=of_decide_eq_true h0;omega
    replace e:=e h0'
    have hw:=A5Z h0' (by omega)
    repeat' ((conv=>whnf);first | refine ⟨rfl,⟨by omega,by omega⟩,?_⟩ | refine ⟨rfl,⟨by rw [hw];omega,by rw [hw];omega⟩,?_⟩ | refine ⟨_,C9 n1,?_⟩ | refine ⟨_,C9 n2,?_⟩ | rw [h0] | cases b1 | cases b2 | refine C3 (fun h=>?_) (fun h=>?_))
    all_goals (conv=>whnf)
    all_goals first
     | (rw [no (by rfl)];exact ⟨rfl,rfl⟩)
     | (rw [hw] at h;rw [no (by rw [e];exact congrArg not h)];exact ⟨rfl,rfl⟩)
     | (rw [hw] at h;refine ⟨rfl,?_⟩;conv=>whnf
        exact nx hi' ⟨yes (by rw [e];exact congrArg not h),by rw [C0 (by omega)],rfl⟩)
theorem C1o (z:U3):(F1 z.name&&B0A z)=Z2 z:=by
 unfold B0A Z2 I6 Y1 A2Z A4j R7
 rw [List.length_map,←Bool.coe_iff_coe]
 simp only [Bool.and_eq_true,List.all_eq_true,List.mem_range,Bool.not_eq_true',Bool.or_eq_false_iff,Bool.not_eq_false',decide_eq_true_eq,decide_eq_false_iff_not]
 constructor
 ·rintro ⟨h0,h1,⟨h2,h3⟩,h4⟩
  exact ⟨⟨⟨⟨h0,h3⟩,h4⟩,by omega⟩,fun k hk=>(h1 k hk).1,fun k hk=>(h1 k hk).2⟩
 ·rintro ⟨⟨⟨⟨h0,h3⟩,h4⟩,h2⟩,h1,h5⟩
  exact ⟨h0,fun k hk=>⟨h1 k hk,h5 k hk⟩,⟨by omega,h3⟩,h4⟩
theorem C2O (x:Tax):C2N x=A7s x:=by
 unfold C2N A7s
 rw [←Bool.coe_iff_coe]
 unfold I6 Y1 A3d
 rw [List.length_map]
 simp only [C1o,Bool.and_eq_true,List.all_eq_true,List.mem_range,Bool.not_eq_true',Bool.or_eq_false_iff,Bool.not_eq_false',decide_eq_true_eq,decide_eq_false_iff_not]
 constructor
 ·rintro ⟨h1,⟨h2,h3⟩,h4⟩
  exact ⟨⟨⟨by omega,by omega⟩,by omega⟩,fun k hk=>(h1 k hk).1,fun k hk=>(h1 k hk).2⟩
 ·rintro ⟨⟨⟨h3,h4⟩,h2⟩,h1,h5⟩
  exact ⟨fun k hk=>⟨h1 k hk,h5 k hk⟩,⟨by omega,by omega⟩,by omega⟩
theorem C4p (x:Tax) (hx:B6C x) (st:St):S P 161 [B0K x] st fun v st'=>v=.bool (A7s x)∧st'=st:=by
 rw [←C2O];exact C2x x hx st
def A2a (l:List Y6) (k:Nat) (x:Y6):Bool:=R7 0 10000000000000 x.least&&R7 0 10000 x.rate&&R7 0 10000000000000 x.amount&&!(x.rate==0&&x.amount==0)&&(k==0||!decide (x.least≤(l.getD (k - 1) default).least))
theorem C0D (l:List Y6) (hl:Sm l.length) (st:St):S P 309 [A7 3 L4 l] st fun v st'=>v=.bool (I6 l (A2a l)&&(decide ((l.length:Int)≥1)&&decide ((l.length:Int)≤6)))∧st'=st:=by
 refine A5 [4] B7 mixed Tryz.func309 (by rfl) rfl rfl rfl ?_;conv=>whnf
 refine lp l.length [0,3] (fun i vs st'=>(∀ k,k<i→A2a l k (l.getD k default)=true)∧vs=[A7 3 L4 l,eI i]∧st'=st) ?_ ?_
 ·conv=>whnf
  exact ⟨fun k hk=>absurd hk (by omega),rfl,rfl⟩
 ·rintro i vs st' hi ⟨hok,rfl,rfl⟩
  conv=>whnf
  cases h:decide ((i:Int)<(l.length:Int))
  ·obtain rfl:=D1 h hi
   rw [J1 hok,Bool.true_and];conv=>whnf
   refine C3 (fun h=>?_) (fun h=>?_)<;>rw [h]<;>(conv=>whnf)<;>exact ⟨rfl,rfl⟩
  ·have hi':=F7 h
   have yes:A2a l i (l.getD (i:Int).toNat default)=true→∀ k,k<i+1→A2a l k (l.getD k default)=true:=fun h=>L7 hok h
   have no:A2a l i (l.getD (i:Int).toNat default)=false→I6 l (A2a l)=false:=fun h=>S1 hi' h
   have n1:=A1N (l.getD (i:Int).toNat default).least 10000000000000 st'
   have n2:=A1N (l.getD (i:Int).toNat default).rate 10000 st'
   have n3:=A1N (l.getD (i:Int).toNat default).amount 10000000000000 st'
   have hw:=fun h=>A5Z (i:=i) h (by omega)
   rw [show A2a l i (l.getD (i:Int).toNat default)=(R7 0 10000000000000 (l.getD (i:Int).toNat default).least&&R7 0 10000 (l.getD (i:Int).toNat default).rate&&R7 0 10000000000000 (l.getD (i:Int).toNat default).amount&&!((l.getD (i:Int).toNat default).rate==0&&(l.getD (i:Int).toNat default).amount==0)&&(i==0||!decide ((l.getD (i:Int).toNat default).least≤(l.getD (i - 1) default).least))) from rfl] at yes no
   generalize R7 0 10000000000000 (l.getD (i:Int).toNat default).least=b1 at n1 yes no
   generalize R7 0 10000 (l.getD (i:Int).toNat default).rate=b2 at n2 yes no
   generalize R7 0 10000000000000 (l.getD (i:Int).toNat default).amount=b3 at n3 yes no
   conv=>whnf
   refine ⟨rfl,⟨by omega,by omega⟩,?_⟩;conv=>whnf
   refine ⟨[],[],List.range 41,by kernel_rfl,?_⟩
   have step:∀ b4:Bool,b4=((l.getD (i:Int).toNat default).rate==0&&(l.getD (i:Int).toNat default).amount==0)→True:=fun _ _=>trivial
   rcases Nat.eq_zero_or_pos i with h0 | h0
   ·have h1:decide ((i:Int)>0)=false:=decide_eq_false (by omega)
    rw [show (i==0)=true from by rw [h0];rfl,Bool.true_or,Bool.and_true] at yes no
    repeat' ((conv=>whnf);first | refine ⟨rfl,⟨by omega,by omega⟩,?_⟩ | refine ⟨_,C9 n1,?_⟩ | refine ⟨_,C9 n2,?_⟩ | refine ⟨_,C9 n3,?_⟩ | rw [h1] | cases b1 | cases b2 | cases b3 | (refine C3 (fun h=>?_) (fun h=>?_)<;>rw [h] at yes no ⊢))
    all_goals (conv=>whnf)
    all_goals first
     | (rw [no (by rfl)];exact ⟨rfl,rfl⟩)
     | (refine ⟨rfl,?_⟩;conv=>whnf
        exact nx hi' ⟨yes (by rfl),by rw [C0 (by omega)],rfl⟩)
   ·have h1:decide ((i:Int)>0)=true:=decide_eq_true (by omega)
    rw [show (i==0)=false from beq_false_of_ne (by omega),Bool.false_or] at yes no
    have hw:=hw h0
    repeat' ((conv=>whnf);first | refine ⟨rfl,⟨by omega,by omega⟩,?_⟩ | refine ⟨rfl,⟨by rw [hw];omega,by rw [hw];omega⟩,?_⟩ | refine ⟨_,C9 n1,?_⟩ | refine ⟨_,C9 n2,?_⟩ | refine ⟨_,C9 n3,?_⟩ | rw [h1] | cases b1 | cases b2 | cases b3 | (refine C3 (fun h=>?_) (fun h=>?_)<;>rw [h] at yes no ⊢) | (rw [hw];refine C3 (fun h=>?_) (fun h=>?_)))
    all_goals (conv=>whnf)
    all_goals first
     | (rw [no (by rfl)];exact ⟨rfl,rfl⟩)
     | (rw [no (congrArg not h)];exact ⟨rfl,rfl⟩)
     | (refine ⟨rfl,?_⟩;conv=>whnf
        exact nx hi' ⟨yes (congrArg not h),by rw [C0 (by omega)],rfl⟩)
theorem B8O (l:List Y6):(I6 l (A2a l)&&(decide ((l.length:Int)≥1)&&decide ((l.length:Int)≤6)))=U9 l:=by
 unfold U9
 rw [Bool.and_comm]
 congr 1
 ·rw [Bool.not_or];congr 1<;>(rw [←decide_not];exact decide_eq_decide.2 (by omega))
 ·rw [←Bool.coe_iff_coe]
  unfold I6 A2a A3c R7
  simp only [Bool.and_eq_true,List.all_eq_true,List.mem_range,Bool.not_eq_true',Bool.or_eq_false_iff,Bool.not_eq_false',decide_eq_true_eq,decide_eq_false_iff_not,Bool.or_eq_true,beq_iff_eq]
  constructor
  ·intro h k hk
   obtain ⟨⟨⟨⟨h1,h2⟩,h3⟩,h4⟩,h5⟩:=h k hk
   refine ⟨⟨⟨⟨⟨⟨?_,by omega⟩,by omega⟩,by omega⟩,by omega⟩,by omega⟩,h4⟩
   split
   ·omega
   ·rcases h5 with h5 | h5<;>omega
  ·intro h
   have pos:∀ k,k<l.length→0≤(l.getD k default).least:=fun k=>by
    induction k with
    | zero=>intro hk;have:=(h 0 hk).1.1.1.1.1.1;rw [if_pos rfl] at this;omega
    | succ k ih=>intro hk;have:=(h (k+1) hk).1.1.1.1.1.1;rw [if_neg (by omega),Nat.add_sub_cancel] at this;have:=ih (by omega);omega
   intro k hk
   obtain ⟨⟨⟨⟨⟨⟨h1,h2⟩,h3⟩,h4⟩,h5⟩,h6⟩,h7⟩:=h k hk
   have:=pos k hk
   refine ⟨⟨⟨⟨⟨by omega,by omega⟩,by omega,by omega⟩,by omega,by omega⟩,h7⟩,?_⟩
   by_cases h0:k=0
   ·exact .inl h0
   ·rw [if_neg h0] at h1;exact .inr h1
structure A2E (p:B1):Prop where
 id:Sm p.id.size
 group:Sm p.group.size
 code:Sm p.code.size
 scope:A1q p.scope
 parts:Sm p.parts.length
 part:∀ x∈p.parts,A1q x.scope
 tiers:Sm p.tiers.length
def A4V (l:List A1b):Bool:=I6 l (fun _ x=>A0e x)&&(decide ((l.length:Int)≥1)&&decide ((l.length:Int)≤3))
def B2H (p:B1):Bool :=
 if p.kind=1 then (decide (p.rate≥1)&&decide (p.rate≤10000))&&p.amount==0&&(p.buy==0&&p.get==0)&&(p.parts.length:Int)==0&&(p.tiers.length:Int)==0
 else if p.kind=2 then p.rate==0&&decide (p.amount≥1)&&decide (p.amount≤1000000000)&&(p.buy==0&&p.get==0)&&(p.parts.length:Int)==0&&(p.tiers.length:Int)==0
 else if p.kind=3 then (decide (p.rate≥1)&&decide (p.rate≤10000))&&p.amount==0&&decide (p.buy≥1)&&decide (p.buy≤100)&&decide (p.get≥1)&&decide (p.get≤100)&&(p.parts.length:Int)==0&&(p.tiers.length:Int)==0
 else if p.kind=4 then p.rate==0&&R7 0 10000000000000 p.amount&&(p.buy==0&&p.get==0)&&A4V p.parts&&(p.tiers.length:Int)==0&&((p.scope.skus.length:Int)==0&&(p.scope.cats.length:Int)==0)
 else if p.kind=7 then (decide (p.rate≥1)&&decide (p.rate≤10000))&&p.amount==0&&(p.buy==0&&p.get==0)&&(p.parts.length:Int)==0&&(p.tiers.length:Int)==0&&((p.scope.skus.length:Int)==0&&(p.scope.cats.length:Int)==0)&&!p.closes
 else p.rate==0&&p.amount==0&&(p.buy==0&&p.get==0)&&(p.parts.length:Int)==0&&U9 p.tiers
theorem B8k (p:B1):(A4V p.parts&&R7 0 10000000000000 p.amount)=A3R p:=by
 unfold A4V A3R I6 R7
 rw [←Bool.coe_iff_coe]
 simp only [Bool.and_eq_true,List.all_eq_true,List.mem_range,Bool.not_eq_true',Bool.or_eq_false_iff,decide_eq_true_eq,decide_eq_false_iff_not,List.any_eq_false,Bool.not_eq_false']
 constructor
 ·rintro ⟨⟨h1,h2⟩,h3⟩
  exact ⟨⟨⟨⟨by omega,by omega⟩,by omega⟩,by omega⟩,fun x hx=>by obtain ⟨k,hk,rfl⟩:=F4 hx;rw [h1 k hk];simp⟩
 ·rintro ⟨h1,h2⟩
  exact ⟨⟨fun k hk=>by have:=h2 _ (B4 hk);simpa using this,by omega⟩,by omega⟩
theorem B8p (p:B1) (hk:1≤p.kind∧p.kind≤7):B2H p=(A4R p&&A4Q p):=by
 have hb:=B8k p
 unfold B2H A4R A4Q A7c A7d A7e
 rw [←hb]
 rw [A1V,A1V,A1V,A1V]
 have e:(p.scope.skus.length+p.scope.cats.length==0)=(p.scope.skus.length==0&&p.scope.cats.length==0):=by
  rw [←Bool.coe_iff_coe];simp only [Bool.and_eq_true,beq_iff_eq];omega
 have u:∀ m x,R7 1 m x=true→(x==0)=false:=fun m x h=>by simp only [R7,Bool.and_eq_true,decide_eq_true_eq] at h;exact beq_false_of_ne (by omega)
 have e4:A4V p.parts=true→(p.parts.length==0)=false:=fun h=>by
  simp only [A4V,Bool.and_eq_true,decide_eq_true_eq] at h;exact beq_false_of_ne (by omega)
 have e5:U9 p.tiers=true→(p.tiers.length==0)=false:=fun h=>by
  simp only [U9,Bool.and_eq_true,Bool.not_eq_true',Bool.or_eq_false_iff,decide_eq_false_iff_not] at h;exact beq_false_of_ne (by omega)
 rw [e]
 rcases (by omega:p.kind=1∨p.kind=2∨p.kind=3∨p.kind=4∨p.kind=5∨p.kind=6∨p.kind=7) with h | h | h | h | h | h | h
 all_goals (rw [h];simp only [show ∀ a b:Int,(if a=b then _ else _)=_ from fun _ _=>rfl,R7,if_true,if_false,Int.reduceEq,Int.reduceBEq,Bool.true_or,Bool.or_true,Bool.true_and,Bool.and_true,Bool.false_or,Bool.or_false,bne,Bool.not_true,Bool.not_false])
 all_goals (generalize U9 p.tiers=b1 at *;generalize A4V p.parts=b2 at *;generalize (p.parts.length==0)=b3 at *;generalize (p.tiers.length==0)=b4 at *;generalize (p.scope.skus.length==0&&p.scope.cats.length==0)=b5;generalize (p.buy==0&&p.get==0)=b6;generalize (p.rate==0)=b7;generalize (p.amount==0)=b8;generalize decide (p.rate≥1)=b9;generalize decide (p.rate≤10000)=b10)
 all_goals first | done | ac_rfl
set_option maxHeartbeats 8000000 in
theorem A3U (p:B1) (hp:A2E p) (hC:H4 p=true) (st:St):S P 250 [B8 p] st fun v st'=>v=.bool true∧st'=st:=by
 have n1:=A2N p.id hp.id st
 have n2:=A2N p.group hp.group st
 have n3:=A2N p.code hp.code st
 have n4:=B4t p.scope hp.scope st
 have n5:=A1N p.least 10000000000000 st
 have n6:=A1N p.amount 10000000000000 st
 have n7:=C0B p.parts hp.parts hp.part st
 have n8:=C0D p.tiers hp.tiers st
 rw [B8O] at n8
 rw [show (I6 p.parts (fun _ x=>A0e x)&&(decide ((p.parts.length:Int)≥1)&&decide ((p.parts.length:Int)≤3)))=A4V p.parts from rfl] at n7
 unfold H4 A5V A1I J6 at hC
 simp only [Bool.and_eq_true] at hC
 obtain ⟨⟨⟨⟨k1,k2⟩,⟨⟨⟨⟨⟨h1,h2⟩,h3⟩,h4⟩,h5⟩,h6⟩⟩,hP⟩,hQ⟩:=hC
 have hk:1≤p.kind∧p.kind≤7:=by simp only [decide_eq_true_eq] at k1 k2;omega
 have hT:B2H p=true:=by rw [B8p p hk,hP,hQ];rfl
 have g1:decide (p.prio<0)=false:=decide_eq_false (by simp only [R7,Bool.and_eq_true,decide_eq_true_eq] at h2;omega)
 have g2:decide (p.prio>1000)=false:=decide_eq_false (by simp only [R7,Bool.and_eq_true,decide_eq_true_eq] at h2;omega)
 have g3:(!(p.group.toList==(⟨#[]⟩:D7).toList))=true→F1 p.group=true:=fun h=>by
  rw [Bool.not_eq_true'] at h;rw [h] at h3;exact h3
 have g4:(!(p.code.toList==(⟨#[]⟩:D7).toList))=true→F1 p.code=true:=fun h=>by
  rw [Bool.not_eq_true'] at h;rw [h] at h4;exact h4
 unfold B2H at hT
 rw [h1] at n1
 rw [h5] at n4
 rw [h6] at n5
 clear h1 h2 h3 h4 h5 h6 hP hQ k1 k2 hp
 generalize A4V p.parts=b7 at *
 generalize U9 p.tiers=b8 at *
 generalize R7 0 10000000000000 p.amount=b6 at *
 obtain ⟨id,kind,prio,group,code,closes,scope,least,rate,amount,buy,get,parts,tiers⟩:=p
 simp only at *
 generalize F1 group=b2 at *
 generalize F1 code=b3 at *
 refine A5 [1] B7 mixed Tryz.func250 (by rfl) rfl rfl rfl ?_
 rcases (by omega:kind=1∨kind=2∨kind=3∨kind=4∨kind=5∨kind=6∨kind=7) with rfl | rfl | rfl | rfl | rfl | rfl | rfl
 all_goals (clear hk;simp only [if_true,if_false,Int.reduceEq,Bool.and_eq_true] at hT)
 ·obtain ⟨⟨⟨⟨⟨f1,f2⟩,f3⟩,f4,f5⟩,f6⟩,f7⟩:=hT
  repeat' ((conv=>whnf);first | refine A4 n1 ?_ | (refine A4 n2 ?_;rw [g3 h]) | (refine A4 n3 ?_;rw [g4 h]) | refine A4 n4 ?_ | refine A4 n5 ?_ | refine A4 n6 ?_ | refine A4 n7 ?_ | refine A4 n8 ?_ | refine ⟨[],[],List.range 27,by kernel_rfl,?_⟩ | rw [g1] | rw [g2] | rw [f1] | rw [f2] | rw [f3] | rw [f4] | rw [f5] | rw [f6] | rw [f7] | (refine C3 (fun h=>?_) (fun h=>?_)<;>rw [h]))
  all_goals (conv=>whnf)
  all_goals exact ⟨rfl,rfl⟩
 ·obtain ⟨⟨⟨⟨⟨f1,f2⟩,f3⟩,f4,f5⟩,f6⟩,f7⟩:=hT
  repeat' ((conv=>whnf);first | refine A4 n1 ?_ | (refine A4 n2 ?_;rw [g3 h]) | (refine A4 n3 ?_;rw [g4 h]) | refine A4 n4 ?_ | refine A4 n5 ?_ | refine A4 n6 ?_ | refine A4 n7 ?_ | refine A4 n8 ?_ | refine ⟨[],[],List.range 27,by kernel_rfl,?_⟩ | rw [g1] | rw [g2] | rw [f1] | rw [f2] | rw [f3] | rw [f4] | rw [f5] | rw [f6] | rw [f7] | (refine C3 (fun h=>?_) (fun h=>?_)<;>rw [h]))
  all_goals (conv=>whnf)
  all_goals exact ⟨rfl,rfl⟩
 ·obtain ⟨⟨⟨⟨⟨⟨⟨⟨f1,f2⟩,f3⟩,f4⟩,f5⟩,f6⟩,f7⟩,f8⟩,f9⟩:=hT
  repeat' ((conv=>whnf);first | refine A4 n1 ?_ | (refine A4 n2 ?_;rw [g3 h]) | (refine A4 n3 ?_;rw [g4 h]) | refine A4 n4 ?_ | refine A4 n5 ?_ | refine A4 n6 ?_ | refine A4 n7 ?_ | refine A4 n8 ?_ | refine ⟨[],[],List.range 27,by kernel_rfl,?_⟩ | rw [g1] | rw [g2] | rw [f1] | rw [f2] | rw [f3] | rw [f4] | rw [f5] | rw [f6] | rw [f7] | rw [f8] | rw [f9] | (refine C3 (fun h=>?_) (fun h=>?_)<;>rw [h]))
  all_goals (conv=>whnf)
  all_goals exact ⟨rfl,rfl⟩
 ·obtain ⟨⟨⟨⟨⟨f1,f2⟩,f3,f4⟩,f5⟩,f6⟩,f7,f8⟩:=hT
  subst f2
  subst f5
  repeat' ((conv=>whnf);first | refine A4 n1 ?_ | (refine A4 n2 ?_;rw [g3 h]) | (refine A4 n3 ?_;rw [g4 h]) | refine A4 n4 ?_ | refine A4 n5 ?_ | refine A4 n6 ?_ | refine A4 n7 ?_ | refine A4 n8 ?_ | refine ⟨[],[],List.range 27,by kernel_rfl,?_⟩ | rw [g1] | rw [g2] | rw [f1] | rw [f3] | rw [f4] | rw [f6] | rw [f7] | rw [f8] | (refine C3 (fun h=>?_) (fun h=>?_)<;>rw [h]))
  all_goals (conv=>whnf)
  all_goals exact ⟨rfl,rfl⟩
 ·obtain ⟨⟨⟨⟨f1,f2⟩,f3,f4⟩,f5⟩,f6⟩:=hT
  subst f6
  repeat' ((conv=>whnf);first | refine A4 n1 ?_ | (refine A4 n2 ?_;rw [g3 h]) | (refine A4 n3 ?_;rw [g4 h]) | refine A4 n4 ?_ | refine A4 n5 ?_ | refine A4 n6 ?_ | refine A4 n7 ?_ | refine A4 n8 ?_ | refine ⟨[],[],List.range 27,by kernel_rfl,?_⟩ | rw [g1] | rw [g2] | rw [f1] | rw [f2] | rw [f3] | rw [f4] | rw [f5] | (refine C3 (fun h=>?_) (fun h=>?_)<;>rw [h]))
  all_goals (conv=>whnf)
  all_goals exact ⟨rfl,rfl⟩
 ·obtain ⟨⟨⟨⟨f1,f2⟩,f3,f4⟩,f5⟩,f6⟩:=hT
  subst f6
  repeat' ((conv=>whnf);first | refine A4 n1 ?_ | (refine A4 n2 ?_;rw [g3 h]) | (refine A4 n3 ?_;rw [g4 h]) | refine A4 n4 ?_ | refine A4 n5 ?_ | refine A4 n6 ?_ | refine A4 n7 ?_ | refine A4 n8 ?_ | refine ⟨[],[],List.range 27,by kernel_rfl,?_⟩ | rw [g1] | rw [g2] | rw [f1] | rw [f2] | rw [f3] | rw [f4] | rw [f5] | (refine C3 (fun h=>?_) (fun h=>?_)<;>rw [h]))
  all_goals (conv=>whnf)
  all_goals exact ⟨rfl,rfl⟩
 ·obtain ⟨⟨⟨⟨⟨⟨⟨f1,f2⟩,f3⟩,f4,f5⟩,f6⟩,f7⟩,f8,f9⟩,f10⟩:=hT
  rw [Bool.not_eq_true'] at f10
  subst f10
  repeat' ((conv=>whnf);first | refine A4 n1 ?_ | (refine A4 n2 ?_;rw [g3 h]) | (refine A4 n3 ?_;rw [g4 h]) | refine A4 n4 ?_ | refine A4 n5 ?_ | refine A4 n6 ?_ | refine A4 n7 ?_ | refine A4 n8 ?_ | refine ⟨[],[],List.range 27,by kernel_rfl,?_⟩ | rw [g1] | rw [g2] | rw [f1] | rw [f2] | rw [f3] | rw [f4] | rw [f5] | rw [f6] | rw [f7] | rw [f8] | rw [f9] | (refine C3 (fun h=>?_) (fun h=>?_)<;>rw [h]))
  all_goals (conv=>whnf)
  all_goals exact ⟨rfl,rfl⟩
def A0t (o:List Int) (a:Nat) (x:Int):List Int:=o.take a++x::o.drop a
theorem Q8 {o:List Int} {a:Nat} {x:Int} (h:a≤o.length):(A0t o a x).length=o.length+1:=by
 unfold A0t;simp;omega
theorem A7M {o:List Int} {a:Nat} {x:Int} (h:a≤o.length) {j:Nat} (hj:j<o.length+1):gI (A0t o a x) j=if j<a then gI o j else if j=a then x else gI o (j - 1):=by
 unfold A0t gI
 simp only [List.getD_eq_getElem?_getD]
 by_cases h1:j<a
 ·rw [if_pos h1,List.getElem?_append_left (by rw [List.length_take];omega),List.getElem?_take_of_lt h1]
 ·rw [if_neg h1,List.getElem?_append_right (by rw [List.length_take];omega),List.length_take,Nat.min_eq_left h]
  by_cases h2:j=a
  ·rw [if_pos h2,h2,Nat.sub_self];rfl
  ·rw [if_neg h2,show j - a=(j - 1 - a)+1 by omega,List.getElem?_cons_succ,List.getElem?_drop,show a+(j - 1 - a)=j - 1 by omega]
theorem A6i (o:List Int) (a:Nat) (x:Int):(A0t o a x).Perm (o++[x]):=by
 unfold A0t
 refine List.perm_middle.trans ?_
 rw [List.take_append_drop]
 exact (List.perm_append_comm (l₁:=[x]) (l₂:=o))
theorem A3O {R:Int→Int→Prop} {o:List Int} {a:Nat} {x:Int} (hs:o.Pairwise R) (h1:∀ k,k<a→k<o.length→R (gI o k) x) (h2:∀ k,a≤k→k<o.length→R x (gI o k)):(A0t o a x).Pairwise R:=by
 unfold A0t
 rw [List.pairwise_append,List.pairwise_cons]
 refine ⟨hs.sublist (List.take_sublist ..),⟨fun y hy=>?_,hs.sublist (List.drop_sublist ..)⟩,fun y hy z hz=>?_⟩
 ·obtain ⟨k,hk,rfl⟩:=List.getElem_of_mem hy
  rw [List.length_drop] at hk
  have:=h2 (a+k) (by omega) (by omega)
  rw [List.getElem_drop];simpa [gI,show a+k<o.length by omega] using this
 ·obtain ⟨k,hk,rfl⟩:=List.getElem_of_mem hy
  rw [List.length_take] at hk
  rcases List.mem_cons.1 hz with rfl | hz
  ·have:=h1 k (by omega) (by omega)
   rw [List.getElem_take];simpa [gI,show k<o.length by omega] using this
  ·obtain ⟨j,hj,rfl⟩:=List.getElem_of_mem hz
   rw [List.length_drop] at hj
   rw [List.getElem_take,List.getElem_drop]
   exact List.pairwise_iff_getElem.1 hs k (a+j) (by omega) (by omega) (by omega)
theorem B1z {R:Int→Int→Prop} {o:List Int} (hs:o.Pairwise R) {i j:Nat} (hij:i<j) (hj:j<o.length):R (gI o i) (gI o j):=by
 have:=List.pairwise_iff_getElem.1 hs i j (by omega) hj hij
 simpa [gI,show i<o.length by omega,hj] using this
theorem A7f {o p:List Int} (h:o.Perm p) {P:Int→Prop} (hp:∀ x∈p,P x) {k:Nat} (hk:k<o.length):P (gI o k):=hp _ (h.subset (B4 hk))
def A9Y (ranks:List Int) (x:Int):QE:=(gI ranks x.toNat,x)
def B1O (ranks:List Int) (x y:Int):Prop:=H8 (A9Y ranks y) (A9Y ranks x)=false
def A3o (n:Nat):List Int:=(List.range n).map Int.ofNat
theorem B5H (n:Nat):A3o (n+1)=A3o n++[(n:Int)]:=by unfold A3o;rw [List.range_succ,List.map_append];rfl
theorem A5y {n:Nat} {x:Int} (h:x∈A3o n):0≤x∧x.toNat<n:=by
 obtain ⟨k,hk,rfl⟩:=List.mem_map.1 h
 have:=List.mem_range.1 hk
 show 0≤(k:Int)∧(k:Int).toNat<n
 omega
theorem A7O (n:Nat):(A3o n).length=n:=by unfold A3o;simp
theorem B4r (ranks:List Int) (hl:ranks.length≤1000000) (st:St):S P 310 [B3 ranks] st fun v st'=>(∃ o:List Int,o.Perm (A3o ranks.length)∧o.Pairwise (B1O ranks)∧v=B3 o)∧st'=st:=by
 refine S.post (post:=fun v st'=>∃ o:List Int,o.Perm (A3o ranks.length)∧o.Pairwise (B1O ranks)∧G0 3 1 eI o st v st') ?_ (fun v st' ⟨o,h1,h2,h3⟩=>⟨_,st,⟨⟨o,h1,h2,rfl⟩,rfl⟩,h3.shift⟩)
 refine A5 [] B7 mixed Tryz.func310 (by rfl) rfl rfl rfl ?_;conv=>whnf
 refine lp ranks.length [0,3,4] (fun i vs s=>∃ o sv,o.Perm (A3o i)∧o.Pairwise (B1O ranks)∧vs=[B3 ranks,sv,eI i]∧G0 3 1 eI o st sv s) ?_ ?_
 ·conv=>whnf
  exact ⟨[],.emp,.refl _,.nil,rfl,G0.start _ _ _ _⟩
 ·rintro i vs st' hi ⟨o,sv,hp,hs,rfl,hc0⟩
  conv=>whnf
  cases h:decide ((i:Int)<(ranks.length:Int))
  ·obtain rfl:=D1 h hi
   conv=>whnf
   exact ⟨o,hp,hs,hc0⟩
  ·have hi':=F7 h
   have hol:o.length=i:=by rw [hp.length_eq,A7O]
   have hom:∀ {k:Nat},k<o.length→0≤gI o k∧(gI o k).toNat<i:=fun hk=>A7f hp (fun x hx=>A5y hx) hk
   conv=>whnf
   refine lp o.length [0,3,4,5] (fun a vs s=>(∀ k,k<a→gI ranks (gI o k).toNat≥gI ranks i)∧vs=[B3 ranks,sv,eI i,eI a]∧s=st') ?_ ?_
   ·conv=>whnf
    exact ⟨fun k hk=>absurd hk (by omega),rfl,rfl⟩
   ·rintro a vs s ha ⟨hok,rfl,rfl⟩
    conv=>whnf
    refine ⟨[],[],List.range 18,by kernel_rfl,?_⟩
    have hc1:=hc0
    have hB:(a=o.length∨gI ranks (gI o a).toNat<gI ranks i)→(A0t o a (i:Int)).Perm (A3o (i+1))∧(A0t o a (i:Int)).Pairwise (B1O ranks):=fun hB=>by
     refine ⟨by rw [B5H];exact (A6i o a i).trans (hp.append_right _),A3O hs (fun k hk hk2=>?_) (fun k hk hk2=>?_)⟩
     ·have:=hok k hk
      have:=hom hk2
      unfold B1O A9Y;rw [T7];simp only [Int.toNat_natCast];omega
     ·rcases hB with hB | hB
      ·omega
      ·have h6:gI ranks (gI o k).toNat≤gI ranks (gI o a).toNat:=by
        rcases Nat.eq_or_lt_of_le hk with e | e
        ·rw [e];exact Int.le_refl _
        ·have:=B1z hs e hk2
         unfold B1O A9Y at this;rw [T7] at this;simp only at this;omega
       unfold B1O A9Y;rw [T7];simp only [Int.toNat_natCast];omega
    rcases hc1 with ⟨h0,rfl,hst⟩ | ⟨h0,b,g,hb,rfl,rfl,hg⟩
    case' inl =>
     have hst':=hst.symm
     subst hst'
     have hS:=hB (.inl (by omega))
     have hd:decide ((a:Int)<0)=false:=decide_eq_false (by omega)
     conv=>whnf
     rw [hd];conv=>whnf
    case' inr =>
     conv=>whnf
     cases hd:decide ((a:Int)<(o.length:Int))
     case' false =>
      have hS:=hB (.inl (by have:=of_decide_eq_false hd;omega))
      conv=>whnf
     case' true =>
      have hao:=F7 hd
      have hoa:=hom hao
      have hga:g (0+(a:Int).toNat)=eI (gI o a):=by rw [show 0+(a:Int).toNat=a by omega];exact hg a hao
      conv=>whnf
      refine ⟨rfl,⟨by omega,by omega⟩,?_⟩;conv=>whnf
      refine E9 (A0 ..) rfl (by omega) hga ?_;conv=>whnf
      refine ⟨rfl,⟨by omega,by omega⟩,?_⟩;conv=>whnf
      refine ⟨rfl,⟨by omega,by omega⟩,?_⟩;conv=>whnf
      refine C3 (fun h2=>?_) (fun h2=>?_)<;>rw [h2]
      case' refine_1 =>
       conv=>whnf
       refine ⟨rfl,?_⟩;conv=>whnf
       refine nx hao ⟨L7 hok (of_decide_eq_true h2),by rw [C0 (by omega)],rfl⟩
      case' refine_2 =>
       have hS:=hB (.inr (by have h7:=of_decide_eq_false h2;rw [Int.toNat_natCast] at h7;exact Int.not_le.1 h7))
       conv=>whnf
    all_goals
     refine G0.app (q:=r3) (y:=0) (enc:=eI) rfl rfl rfl rfl rfl rfl (by show (_+1) * 8≤140737488355328;omega) hc0 (fun sv' s' hc'=>?_)
     have hln:(o++[0]).length=o.length+1:=by simp
     rcases hc' with ⟨h1,_⟩ | ⟨h1,b',g',hb',rfl,rfl,hg'⟩
     ·omega
     generalize (o++[0]).length=N at *
     subst hln;conv=>whnf
     have hw0:IntKind.i64.wrap (((o.length+1:Nat):Int) - 1)=((o.length - 0:Nat):Int):=by rw [A9 (by omega) (by omega)];omega
     rw [hw0]
     refine lp (o.length - a) [0,3,4,5,6] (fun r vs s=>vs=[B3 ranks,.own 1 b' 0 (o.length+1),eI i,eI a,eI (o.length - r:Nat)]∧∃ f,s=upd st b' ⟨3,1,o.length+1,f⟩∧∀ j,j<o.length+1→f j=eI (if o.length - r<j then gI o (j - 1) else gI (o++[0]) j)) ?_ ?_
     ·conv=>whnf
      exact ⟨rfl,g',rfl,fun j hj=>by rw [if_neg (by omega)];exact hg' j hj⟩
     ·clear hg' hc0
      rintro r vs s hr ⟨rfl,f,rfl,hf⟩
      conv=>whnf
      cases hk:decide (((o.length - r:Nat):Int)>(a:Int))
      ·have hra:r=o.length - a:=by have:=of_decide_eq_false hk;omega
       conv=>whnf
       refine ⟨rfl,⟨by omega,by omega⟩,?_⟩;conv=>whnf
       refine K4 (A0 ..) rfl (by omega) (hf _ (by omega)) (by rfl) ?_;conv=>whnf
       refine ⟨rfl,?_⟩;conv=>whnf
       rw [A5I]
       refine nx hi' ⟨A0t o a (i:Int),.own 1 b' 0 (o.length+1),hS.1,hS.2,by rw [C0 (by omega)],?_⟩
       refine .inr ⟨by rw [Q8 ha];omega,b',_,hb',by rw [Q8 ha],by rw [Q8 ha],fun j hj=>?_⟩
       rw [Q8 ha] at hj
       show G5 f (0+(a:Int).toNat) _ j=eI (gI (A0t o a (i:Int)) j)
       rw [A7M ha hj]
       by_cases hja:j=a
       ·subst hja
        rw [show 0+((j:Nat):Int).toNat=j by omega,A2];show eI (i:Int)=_;rw [if_neg (by omega),if_pos rfl]
       ·rw [G2 (by omega),hf j hj]
        congr 1
        by_cases hj2:j<a
        ·rw [if_neg (by omega),if_pos hj2,K0 (by omega)]
        ·rw [if_pos (by omega),if_neg hj2,if_neg hja]
      ·have hra:a<o.length - r:=by have:=of_decide_eq_true hk;omega
       have hw1:=A5Z (i:=o.length - r) (by omega) (by omega)
       conv=>whnf
       rw [hw1]
       refine ⟨rfl,⟨by omega,by omega⟩,?_⟩;conv=>whnf
       refine E9 (v:=eI (gI o (o.length - r - 1))) (A0 ..) rfl (by omega) (by rw [hf _ (by omega),if_neg (by omega),K0 (by omega)];congr 2;omega) ?_;conv=>whnf
       refine ⟨rfl,⟨by omega,by omega⟩,?_⟩;conv=>whnf
       refine K4 (A0 ..) rfl (by omega) (hf _ (by omega)) (by rfl) ?_;conv=>whnf
       refine ⟨rfl,?_⟩;conv=>whnf
       rw [A5I,hw1]
       refine nx (by omega) ⟨by rw [show o.length - (r+1)=o.length - r - 1 by omega],_,rfl,fun j hj=>?_⟩
       by_cases hj2:j=o.length - r
       ·subst hj2
        rw [show 0+((o.length - r:Nat):Int).toNat=o.length - r by omega,A2];show eI (gI o (o.length - r - 1))=_;rw [if_pos (by omega)]
       ·rw [G2 (by omega),hf j hj]
        congr 1
        by_cases hj3:o.length - r<j
        ·rw [if_pos hj3,if_pos (by omega)]
        ·rw [if_neg hj3,if_neg (by omega)]
def Z5 (a b:B1):Bool:=if (a.prio != b.prio)=true then decide (a.prio>b.prio) else slt a.id b.id
theorem C0x (a b:B1) (st:St):S P 167 [B8 a,B8 b] st fun v st'=>v=.bool (Z5 a b)∧st'=st:=by
 refine A5 [2,3] B7 mixed Tryz.func167 (by rfl) rfl rfl rfl ?_;conv=>whnf
 unfold Z5
 refine C3 (fun h=>?_) (fun h=>?_)<;>rw [h]<;>(conv=>whnf)<;>exact ⟨rfl,rfl⟩
theorem A2m (a b:B1):Z5 a b=true↔a.prio>b.prio∨(a.prio=b.prio∧slt a.id b.id=true):=by
 unfold Z5
 split
 ·rename_i h;simp only [bne_iff_ne,ne_eq] at h;rw [decide_eq_true_eq];omega
 ·rename_i h;simp only [bne_iff_ne,ne_eq,Classical.not_not] at h;constructor
  ·exact fun h2=>.inr ⟨h,h2⟩
  ·rintro (h2 | h2)
   ·omega
   ·exact h2.2
theorem A8b {a b:B1} (h:Z5 a b=true):Z5 b a=false:=by
 rw [←Bool.not_eq_true,A2m]
 rw [A2m] at h
 rcases h with h | ⟨h1,h2⟩
 ·rintro (h3 | h3)<;>omega
 ·rintro (h3 | h3)
  ·omega
  ·rw [A5D h2] at h3;cases h3.2
theorem A7a {a b c:B1} (h:Z5 b a=false) (k:Z5 c b=false):Z5 c a=false:=by
 rw [←Bool.not_eq_true,A2m] at *
 rintro (h3 | ⟨h3,h4⟩)
 ·by_cases e:b.prio>a.prio
  ·exact h (.inl e)
  ·exact k (.inl (by omega))
 ·by_cases e:b.prio=a.prio
  ·have h5:slt b.id a.id=false:=by rw [←Bool.not_eq_true];exact fun e2=>h (.inr ⟨e,e2⟩)
   have h6:slt c.id b.id=false:=by rw [←Bool.not_eq_true];exact fun e2=>k (.inr ⟨by omega,e2⟩)
   rw [A3u h5 h6] at h4;cases h4
  ·by_cases e2:b.prio>a.prio
   ·exact h (.inl e2)
   ·exact k (.inl (by omega))
def A3f (l:List B1) (x y:Int):Prop:=Z5 (D5 l y) (D5 l x)=false
theorem B0m (l:List Int):(C2 l).Pairwise (·≤·):=by
 have:=List.pairwise_mergeSort (le:=fun a b:Int=>decide (a≤b)) (fun a b c h1 h2=>by simp only [decide_eq_true_eq] at *;omega) (fun a b=>by simp only [Bool.or_eq_true,decide_eq_true_eq];omega) l
 exact this.imp (fun h=>by simpa using h)
theorem B8x (l:List Int) (hl:l.length≤1000000) (st:St):S P 312 [B3 l] st fun v st'=>v=B3 (C2 l)∧st'=st:=by
 refine W7 (ty:=3) ?_
 refine A5 [] B7 mixed Tryz.func312 (by rfl) rfl rfl rfl ?_;conv=>whnf
 refine lp l.length [0,3,4] (fun i vs s=>∃ o sv,o.Perm (l.take i)∧o.Pairwise (·≤·)∧vs=[B3 l,sv,eI i]∧G0 3 1 eI o st sv s) ?_ ?_
 ·conv=>whnf
  exact ⟨[],.emp,.refl _,.nil,rfl,G0.start _ _ _ _⟩
 ·rintro i vs st' hi ⟨o,sv,hp,hs,rfl,hc0⟩
  conv=>whnf
  cases h:decide ((i:Int)<(l.length:Int))
  ·obtain rfl:=D1 h hi
   conv=>whnf
   rw [List.take_length] at hp
   have e:o=C2 l:=List.Perm.eq_of_pairwise (le:=fun a b:Int=>a≤b) (fun a b _ _ h1 h2=>Int.le_antisymm h1 h2) hs (B0m l) (hp.trans (U8 l).symm)
   rw [←e]
   exact hc0
  ·have hi':=F7 h
   have hol:o.length=i:=by rw [hp.length_eq,List.length_take];omega
   have hom:∀ {k:Nat},k<o.length→True:=fun hk=>trivial
   have hB:∀ a,a≤o.length→(∀ k,a≤k→k<o.length→gI o k>gI l i)→(a=0∨gI o (a - 1)≤gI l i)→(A0t o a (gI l i)).Perm (l.take (i+1))∧(A0t o a (gI l i)).Pairwise (·≤·):=fun a ha hok hB=>by
    refine ⟨by rw [K2 hi'];exact (A6i o a _).trans (hp.append_right _),A3O hs (fun k hk hk2=>?_) (fun k hk hk2=>?_)⟩
    ·rcases hB with hB | hB
     ·omega
     ·rcases Nat.lt_or_ge k (a - 1) with e | e
      ·exact Int.le_trans (B1z hs e (by omega)) hB
      ·rw [show k=a - 1 by omega];exact hB
    ·have:=hok k hk hk2;omega
   have hc1:=hc0
   rcases hc1 with ⟨h0,hsv,hst⟩ | ⟨h0,b,g,hb,hsv,hst,hg⟩
   all_goals rw [hsv]
   all_goals (conv=>whnf)
   all_goals refine lp o.length [0,3,4,5] (fun r vs s=>(∀ k,o.length - r≤k→k<o.length→gI o k>gI l i)∧vs=[B3 l,sv,eI i,eI (o.length - r:Nat)]∧s=st') ?_ ?_
   all_goals first
    | (conv=>whnf
       exact ⟨fun k h1 h2=>absurd h2 (by omega),by first | (rw [hsv];rfl) | (rw [hsv,h0];rfl),rfl⟩)
    | skip
   all_goals
    rintro r vs s hr ⟨hok,rfl,rfl⟩
    conv=>whnf
    refine ⟨[],[],List.range 14,by kernel_rfl,?_⟩
    cases hd:decide (((o.length - r:Nat):Int)>0)
    case' false =>
     have ha:=Nat.sub_le o.length r
     have hS:=hB (o.length - r) ha hok (.inl (by have:=of_decide_eq_false hd;omega))
     generalize o.length - r=a at *
     conv=>whnf
     rw [hd];conv=>whnf
    case' true =>
     have hpos:0<o.length - r:=by have:=of_decide_eq_true hd;omega
     have hw2:=A5Z hpos (by omega)
     have hoa:=hom (k:=o.length - r - 1) (by omega)
     first
      | (exfalso;omega)
      | (conv=>whnf
         rw [hd];conv=>whnf
         rw [hsv] at hc0
         rw [hsv,hw2]
         refine ⟨rfl,⟨by omega,by omega⟩,?_⟩;conv=>whnf
         refine E9 (v:=eI (gI o (o.length - r - 1))) (by rw [hst];exact A0 ..) rfl (by omega) (by rw [hg _ (by omega)];congr 2;omega) ?_;conv=>whnf
         refine ⟨rfl,⟨by omega,by omega⟩,?_⟩;conv=>whnf
         refine C3 (fun h2=>?_) (fun h2=>?_)<;>rw [h2]
         ·conv=>whnf
          refine ⟨rfl,?_⟩;conv=>whnf
          refine nx (by omega) ⟨fun k h3 h4=>?_,by rw [hw2,show o.length - (r+1)=o.length - r - 1 by omega],rfl⟩
          rcases Nat.eq_or_lt_of_le h3 with h5 | h5
          ·rw [←h5,show o.length - (r+1)=o.length - r - 1 by omega];exact of_decide_eq_true h2
          ·exact hok k (by omega) h4
         have ha:=Nat.sub_le o.length r
         have hS:=hB (o.length - r) ha hok (.inr (by have h7:=of_decide_eq_false h2;rw [Int.toNat_natCast] at h7;exact Int.not_lt.1 h7))
         clear hw2 hoa
         generalize o.length - r=a at *
         conv=>whnf)
    all_goals
     refine G0.app (q:=r3) (y:=0) (enc:=eI) rfl rfl rfl rfl rfl rfl (by show (_+1) * 8≤140737488355328;omega) hc0 (fun sv' s' hc'=>?_)
     have hln:(o++[0]).length=o.length+1:=by simp
     rcases hc' with ⟨h1,_⟩ | ⟨h1,b',g',hb',rfl,rfl,hg'⟩
     ·omega
     generalize (o++[0]).length=N at *
     subst hln;conv=>whnf
     have hw0:IntKind.i64.wrap (((o.length+1:Nat):Int) - 1)=((o.length - 0:Nat):Int):=by rw [A9 (by omega) (by omega)];omega
     rw [hw0]
     refine lp (o.length - a) [0,3,4,5,6] (fun r vs s=>vs=[B3 l,.own 1 b' 0 (o.length+1),eI i,eI a,eI (o.length - r:Nat)]∧∃ f,s=upd st b' ⟨3,1,o.length+1,f⟩∧∀ j,j<o.length+1→f j=eI (if o.length - r<j then gI o (j - 1) else gI (o++[0]) j)) ?_ ?_
     ·conv=>whnf
      exact ⟨rfl,g',rfl,fun j hj=>by rw [if_neg (by omega)];exact hg' j hj⟩
     ·clear hg' hc0
      rintro r vs s hr ⟨rfl,f,rfl,hf⟩
      conv=>whnf
      cases hk:decide (((o.length - r:Nat):Int)>(a:Int))
      ·have hra:r=o.length - a:=by have:=of_decide_eq_false hk;omega
       conv=>whnf
       refine ⟨rfl,⟨by omega,by omega⟩,?_⟩;conv=>whnf
       refine ⟨rfl,⟨by omega,by omega⟩,?_⟩;conv=>whnf
       refine K4 (A0 ..) rfl (by omega) (hf _ (by omega)) (by rfl) ?_;conv=>whnf
       refine ⟨rfl,?_⟩;conv=>whnf
       rw [A5I]
       refine nx hi' ⟨A0t o a (gI l i),.own 1 b' 0 (o.length+1),hS.1,hS.2,by rw [C0 (by omega)],?_⟩
       refine .inr ⟨by rw [Q8 ha];omega,b',_,hb',by rw [Q8 ha],by rw [Q8 ha],fun j hj=>?_⟩
       rw [Q8 ha] at hj
       show G5 f (0+(a:Int).toNat) _ j=eI (gI (A0t o a (gI l i)) j)
       rw [A7M ha hj]
       by_cases hja:j=a
       ·subst hja
        rw [show 0+((j:Nat):Int).toNat=j by omega,A2];show eI (gI l i)=_;rw [if_neg (by omega),if_pos rfl]
       ·rw [G2 (by omega),hf j hj]
        congr 1
        by_cases hj2:j<a
        ·rw [if_neg (by omega),if_pos hj2,K0 (by omega)]
        ·rw [if_pos (by omega),if_neg hj2,if_neg hja]
      ·have hra:a<o.length - r:=by have:=of_decide_eq_true hk;omega
       have hw1:=A5Z (i:=o.length - r) (by omega) (by omega)
       conv=>whnf
       rw [hw1]
       refine ⟨rfl,⟨by omega,by omega⟩,?_⟩;conv=>whnf
       refine E9 (v:=eI (gI o (o.length - r - 1))) (A0 ..) rfl (by omega) (by rw [hf _ (by omega),if_neg (by omega),K0 (by omega)];congr 2;omega) ?_;conv=>whnf
       refine ⟨rfl,⟨by omega,by omega⟩,?_⟩;conv=>whnf
       refine K4 (A0 ..) rfl (by omega) (hf _ (by omega)) (by rfl) ?_;conv=>whnf
       refine ⟨rfl,?_⟩;conv=>whnf
       rw [A5I,hw1]
       refine nx (by omega) ⟨by rw [show o.length - (r+1)=o.length - r - 1 by omega],_,rfl,fun j hj=>?_⟩
       by_cases hj2:j=o.length - r
       ·subst hj2
        rw [show 0+((o.length - r:Nat):Int).toNat=o.length - r by omega,A2];show eI (gI o (o.length - r - 1))=_;rw [if_pos (by omega)]
       ·rw [G2 (by omega),hf j hj]
        congr 1
        by_cases hj3:o.length - r<j
        ·rw [if_pos hj3,if_pos (by omega)]
        ·rw [if_neg hj3,if_neg (by omega)]
set_option maxHeartbeats 1000000 in
theorem C0z (l:List B1) (codes:List D7) (hl:l.length≤1000) (hc:Sm codes.length) (st:St):S P 96 [A7 15 B8 l,D3 codes] st fun v st'=>(∃ o:List Int,o.Perm (places l codes l.length)∧o.Pairwise (A3f l)∧v=B3 o)∧st'=st:=by
 refine S.post (post:=fun v st'=>∃ o:List Int,o.Perm (places l codes l.length)∧o.Pairwise (A3f l)∧G0 3 1 eI o st v st') ?_ (fun v st' ⟨o,h1,h2,h3⟩=>⟨_,st,⟨⟨o,h1,h2,rfl⟩,rfl⟩,h3.shift⟩)
 refine A5 [] B7 mixed Tryz.func96 (by rfl) rfl rfl rfl ?_;conv=>whnf
 refine lp l.length [0,1,5,6] (fun i vs s=>∃ o sv,o.Perm (places l codes i)∧o.Pairwise (A3f l)∧vs=[A7 15 B8 l,D3 codes,sv,eI i]∧G0 3 1 eI o st sv s) ?_ ?_
 ·conv=>whnf
  exact ⟨[],.emp,.refl _,.nil,rfl,G0.start _ _ _ _⟩
 ·rintro i vs st' hi ⟨o,sv,hp,hs,rfl,hc0⟩
  conv=>whnf
  cases h:decide ((i:Int)<(l.length:Int))
  ·obtain rfl:=D1 h hi
   conv=>whnf
   exact ⟨o,hp,hs,hc0⟩
  ·have hi':=F7 h
   have hol:o.length≤i:=by rw [hp.length_eq];exact Q3 ..
   have hom:∀ {k:Nat},k<o.length→0≤gI o k∧(gI o k).toNat<i:=fun hk=>A7f hp (fun x hx=>T3 hx) hk
   have hps:=A4W l codes i
   have n1:=B5W codes (l.getD (i:Int).toNat default).code hc st'
   have ea:T9 codes (l.getD i default)=(!(!((l.getD (i:Int).toNat default).code.toList==(⟨#[]⟩:D7).toList))||codes.any fun y=>y.toList==(l.getD (i:Int).toNat default).code.toList):=by
    rw [Bool.not_not];unfold T9 J6;congr 1;congr 1;funext c;exact Bool.beq_comm
   have skip:T9 codes (l.getD i default)=false→o.Perm (places l codes (i+1)):=fun h=>by rw [hps,if_neg (by rw [h];simp),List.append_nil];exact hp
   have hB:T9 codes (l.getD i default)=true→∀ a,a≤o.length→(∀ k,a≤k→k<o.length→Z5 (D5 l i) (D5 l (gI o k))=true)→(a=0∨Z5 (D5 l i) (D5 l (gI o (a - 1)))=false)→(A0t o a (i:Int)).Perm (places l codes (i+1))∧(A0t o a (i:Int)).Pairwise (A3f l):=fun hask a ha hok hB=>by
    refine ⟨by rw [hps,if_pos hask];exact (A6i o a _).trans (hp.append_right _),A3O hs (fun k hk hk2=>?_) (fun k hk hk2=>?_)⟩
    ·rcases hB with hB | hB
     ·omega
     ·rcases Nat.lt_or_ge k (a - 1) with e | e
      ·exact A7a (B1z hs e (by omega)) hB
      ·rw [show k=a - 1 by omega];exact hB
    ·exact A8b (hok k hk hk2)
   rw [ea] at hB skip
   generalize (codes.any fun y=>y.toList==(l.getD (i:Int).toNat default).code.toList)=b1 at n1 hB skip
   clear ea hps
   conv=>whnf
   refine ⟨rfl,⟨by omega,by omega⟩,?_⟩;conv=>whnf
   cases hn:(!((l.getD (i:Int).toNat default).code.toList==(⟨#[]⟩:D7).toList))
   case' true =>
    rw [hn] at hB skip;conv=>whnf
    refine ⟨rfl,⟨by omega,by omega⟩,?_⟩;conv=>whnf
    refine A4 n1 ?_
    cases b1
    ·conv=>whnf
     refine ⟨rfl,?_⟩;conv=>whnf
     exact nx hi' ⟨o,sv,skip rfl,hs,by rw [C0 (by omega)],hc0⟩
    replace hB:=hB rfl
   case' false =>
    rw [hn] at hB
    replace hB:=hB rfl
   all_goals clear skip n1
   all_goals (conv=>whnf)
   all_goals
    have hc1:=hc0
    rcases hc1 with ⟨h0,hsv,hst⟩ | ⟨h0,b,g,hb,hsv,hst,hg⟩
    all_goals rw [hsv]
    all_goals (conv=>whnf)
    all_goals refine lp o.length [0,1,5,6,7] (fun r vs s=>(∀ k,o.length - r≤k→k<o.length→Z5 (D5 l i) (D5 l (gI o k))=true)∧vs=[A7 15 B8 l,D3 codes,sv,eI i,eI (o.length - r:Nat)]∧s=st') ?_ ?_
    all_goals first
     | (conv=>whnf
        exact ⟨fun k h1 h2=>absurd h2 (by omega),by first | (rw [hsv];rfl) | (rw [hsv,h0];rfl),rfl⟩)
     | skip
    all_goals
     rintro r vs s hr ⟨hok,rfl,rfl⟩
     conv=>whnf
     refine ⟨[],[],List.range 17,by kernel_rfl,?_⟩
     cases hd:decide (((o.length - r:Nat):Int)>0)
     case' false =>
      have ha:=Nat.sub_le o.length r
      have hS:=hB (o.length - r) ha hok (.inl (by have:=of_decide_eq_false hd;omega))
      generalize o.length - r=a at *
      conv=>whnf
      rw [hd];conv=>whnf
     case' true =>
      have hpos:0<o.length - r:=by have:=of_decide_eq_true hd;omega
      have hw2:=A5Z hpos (by omega)
      have hoa:=hom (k:=o.length - r - 1) (by omega)
      first
       | (exfalso;omega)
       | (conv=>whnf
          rw [hd];conv=>whnf
          refine ⟨rfl,⟨by omega,by omega⟩,?_⟩;conv=>whnf
          rw [hsv] at hc0
          rw [hsv,hw2]
          refine ⟨rfl,⟨by omega,by omega⟩,?_⟩;conv=>whnf
          refine E9 (v:=eI (gI o (o.length - r - 1))) (by rw [hst];exact A0 ..) rfl (by omega) (by rw [hg _ (by omega)];congr 2;omega) ?_;conv=>whnf
          refine ⟨rfl,⟨by omega,by omega⟩,?_⟩;conv=>whnf
          refine ⟨_,C9 (C0x (D5 l i) (D5 l (gI o (o.length - r - 1))) _),?_⟩;conv=>whnf
          refine C3 (fun h2=>?_) (fun h2=>?_)<;>rw [h2]
          ·conv=>whnf
           refine ⟨rfl,?_⟩;conv=>whnf
           refine nx (by omega) ⟨fun k h3 h4=>?_,by rw [hw2,show o.length - (r+1)=o.length - r - 1 by omega],rfl⟩
           rcases Nat.eq_or_lt_of_le h3 with h5 | h5
           ·rw [←h5,show o.length - (r+1)=o.length - r - 1 by omega];exact h2
           ·exact hok k (by omega) h4
          have ha:=Nat.sub_le o.length r
          have hS:=hB (o.length - r) ha hok (.inr h2)
          clear hw2 hoa
          generalize o.length - r=a at *
          conv=>whnf)
     all_goals
      refine G0.app (q:=r3) (y:=0) (enc:=eI) rfl rfl rfl rfl rfl rfl (by show (_+1) * 8≤140737488355328;omega) hc0 (fun sv' s' hc'=>?_)
      have hln:(o++[0]).length=o.length+1:=by simp
      rcases hc' with ⟨h1,_⟩ | ⟨h1,b',g',hb',rfl,rfl,hg'⟩
      ·omega
      generalize (o++[0]).length=N at *
      subst hln;conv=>whnf
      have hw0:IntKind.i64.wrap (((o.length+1:Nat):Int) - 1)=((o.length - 0:Nat):Int):=by rw [A9 (by omega) (by omega)];omega
      rw [hw0]
      refine lp (o.length - a) [0,1,5,6,7,8] (fun r vs s=>vs=[A7 15 B8 l,D3 codes,.own 1 b' 0 (o.length+1),eI i,eI a,eI (o.length - r:Nat)]∧∃ f,s=upd st b' ⟨3,1,o.length+1,f⟩∧∀ j,j<o.length+1→f j=eI (if o.length - r<j then gI o (j - 1) else gI (o++[0]) j)) ?_ ?_
      ·conv=>whnf
       exact ⟨rfl,g',rfl,fun j hj=>by rw [if_neg (by omega)];exact hg' j hj⟩
      ·clear hg' hc0
       rintro r vs s hr ⟨rfl,f,rfl,hf⟩
       conv=>whnf
       cases hk:decide (((o.length - r:Nat):Int)>(a:Int))
       ·have hra:r=o.length - a:=by have:=of_decide_eq_false hk;omega
        conv=>whnf
        refine ⟨rfl,⟨by omega,by omega⟩,?_⟩;conv=>whnf
        refine K4 (A0 ..) rfl (by omega) (hf _ (by omega)) (by rfl) ?_;conv=>whnf
        refine ⟨rfl,?_⟩;conv=>whnf
        rw [A5I]
        refine nx hi' ⟨A0t o a (i:Int),.own 1 b' 0 (o.length+1),hS.1,hS.2,by rw [C0 (by omega)],?_⟩
        refine .inr ⟨by rw [Q8 ha];omega,b',_,hb',by rw [Q8 ha],by rw [Q8 ha],fun j hj=>?_⟩
        rw [Q8 ha] at hj
        show G5 f (0+(a:Int).toNat) _ j=eI (gI (A0t o a (i:Int)) j)
        rw [A7M ha hj]
        by_cases hja:j=a
        ·subst hja
         rw [show 0+((j:Nat):Int).toNat=j by omega,A2];show eI (i:Int)=_;rw [if_neg (by omega),if_pos rfl]
        ·rw [G2 (by omega),hf j hj]
         congr 1
         by_cases hj2:j<a
         ·rw [if_neg (by omega),if_pos hj2,K0 (by omega)]
         ·rw [if_pos (by omega),if_neg hj2,if_neg hja]
       ·have hra:a<o.length - r:=by have:=of_decide_eq_true hk;omega
        have hw1:=A5Z (i:=o.length - r) (by omega) (by omega)
        conv=>whnf
        rw [hw1]
        refine ⟨rfl,⟨by omega,by omega⟩,?_⟩;conv=>whnf
        refine E9 (v:=eI (gI o (o.length - r - 1))) (A0 ..) rfl (by omega) (by rw [hf _ (by omega),if_neg (by omega),K0 (by omega)];congr 2;omega) ?_;conv=>whnf
        refine ⟨rfl,⟨by omega,by omega⟩,?_⟩;conv=>whnf
        refine K4 (A0 ..) rfl (by omega) (hf _ (by omega)) (by rfl) ?_;conv=>whnf
        refine ⟨rfl,?_⟩;conv=>whnf
        rw [A5I,hw1]
        refine nx (by omega) ⟨by rw [show o.length - (r+1)=o.length - r - 1 by omega],_,rfl,fun j hj=>?_⟩
        by_cases hj2:j=o.length - r
        ·subst hj2
         rw [show 0+((o.length - r:Nat):Int).toNat=o.length - r by omega,A2];show eI (gI o (o.length - r - 1))=_;rw [if_pos (by omega)]
        ·rw [G2 (by omega),hf j hj]
         congr 1
         by_cases hj3:o.length - r<j
         ·rw [if_pos hj3,if_pos (by omega)]
         ·rw [if_neg hj3,if_neg (by omega)]
end Go.Proofs.YthdimklenlikgaaGreat
