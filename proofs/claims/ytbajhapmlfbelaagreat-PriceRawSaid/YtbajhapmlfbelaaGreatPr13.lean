/- Part 13 of the proof: contracts of the functions that the law reaches -/
import Derived.Test.YtbajhapmlfbelaaGreatPr12
set_option linter.unusedVariables false
set_option linter.unusedSimpArgs false
namespace Go.Ab
open Go
def B3E (P:Program) (T:F9) (M:H1) (frz:List Nat) (ops:List Oper) (i:Nat) (keep:List Nat) (pd:A3P) (K:KA) (A:List AV) (st:St):Prop :=
 match ops[i]? with
 | none=>False
 | some o=>A4z ops o A (xOp P T M (inF frz o.dst) o.op A st fun v st'=>A6g keep st st' (A0w A o.dst v fun A'=>K A' st') pd) (A0w A o.dst (.tuple []) fun A'=>K A' st)
def A3F (P:Program) (T:F9) (M:H1) (frz:List Nat) (ops:List Oper):PT→A3P→List AV→St→KA→Prop
 | .done,_,A,st,k=>k A st
 | .qui i t,pd,A,st,k=>match ops[i]? with
  | none=>False
  | some o=>A4z ops o A
   (match Z2 o.op with
    | true=>xOp P T M (inF frz o.dst) o.op A st fun v _=>A0w A o.dst v fun A'=>A3F P T M frz ops t pd A' st k
    | false=>∃ (v:AV) (C:St→Prop),C st∧(∀ s,C s→xOp P T M (inF frz o.dst) o.op A s fun v' s'=>v'=v∧s'=s)∧A0w A o.dst v fun A'=>A3F P T M frz ops t ((i,C)::pd) A' st k)
   (A0w A o.dst (.tuple []) fun A'=>A3F P T M frz ops t pd A' st k)
 | .eff i keep t,pd,A,st,k=>B3E P T M frz ops i keep pd (fun A' st'=>A3F P T M frz ops t pd A' st' k) A st
 | .two i j ki kj t u,pd,A,st,k=>B3E P T M frz ops i ki pd (fun A' st'=>A3F P T M frz ops t pd A' st' k) A st∧B3E P T M frz ops j kj pd (fun A' st'=>A3F P T M frz ops u pd A' st' k) A st
theorem A5s {keep:List Nat} {st st':St} {k k':Prop} (hk:k→k'):∀ {pd:A3P},A6g keep st st' k pd→A6g keep st st' k' pd
 | [],h=>hk h
 | (i,C)::l,h=>by
  unfold A6g at h ⊢
  split at h
  ·exact ⟨h.1,A5s hk h.2⟩
  ·exact A5s hk h
theorem B1W {P:Program} {T:F9} {M:H1} {frz:List Nat} {ops:List Oper} {i:Nat} {keep:List Nat} {pd:A3P} {K K':KA} {A:List AV} {st:St} (hK:∀ A st,K A st→K' A st) (h:B3E P T M frz ops i keep pd K A st):B3T P T M ops i keep pd K' A st:=by
 unfold B3E at h
 unfold B3T
 cases ho:ops[i]? with
 | none=>rw [ho] at h;exact h.elim
 | some o =>
  rw [ho] at h
  simp only at h ⊢
  obtain ⟨b,hb,h1,h2⟩:=A2T h
  rw [hb]
  refine ⟨fun e=>?_,fun e=>?_⟩
  ·exact O4 (fun v st' hk=>A5s (fun hk=>by rw [P9] at hk;exact hK _ _ hk) hk) (A1X (h1 e))
  ·have:=h2 e
   rw [P9] at this;exact hK _ _ this
theorem B8T {op:Op} (h:Z2 op=true):A8u op=true:=by unfold A8u;rw [h];rfl
theorem A1Y {P:Program} {T:F9} {M:H1} {frz:List Nat} {ops:List Oper}:∀ (t:PT) (pd:A3P) (A:List AV) (st:St) (k:KA),A3F P T M frz ops t pd A st k→A3T P T M ops t pd A st (A3I k)
 | .done,pd,A,st,k,h=>⟨A,st,A3R.refl A st,h⟩
 | .eff i keep t,pd,A,st,k,h=>B1W (fun A st h=>A1Y t pd A st k h) h
 | .two i j ki kj t u,pd,A,st,k,h=>⟨B1W (fun A st h=>A1Y t pd A st k h) h.1,B1W (fun A st h=>A1Y u pd A st k h) h.2⟩
 | .qui i t,pd,A,st,k,h=>by
  unfold A3F at h
  unfold A3T
  cases ho:ops[i]? with
  | none=>rw [ho] at h;exact h.elim
  | some o =>
   rw [ho] at h
   simp only at h ⊢
   obtain ⟨b,hb,h1,h2⟩:=A2T h
   rw [hb]
   simp only
   refine ⟨fun e=>?_,fun e=>?_⟩
   ·have h1:=h1 e
    split at h1
    ·rename_i hp
     rw [hp]
     obtain ⟨v,hv,hk⟩:=B1a (B8T hp) (A1X h1)
     rw [P9] at hk
     exact ⟨v,hv,A1Y t pd _ _ _ hk⟩
    ·rename_i hp
     rw [hp]
     obtain ⟨v,C,hC,hv,hk⟩:=h1
     rw [P9] at hk
     exact ⟨v,C,hC,fun s hs=>A1X (hv s hs),A1Y t _ _ _ _ hk⟩
   ·have:=h2 e
    rw [P9] at this;exact A1Y t pd _ _ _ this
noncomputable def C1Y (P:Program) (T:F9) (M:H1) (frz:List Nat) (ops:List Oper) (t:PT):A3P→List AV→St→KA→Prop :=
 PT.rec (motive:=fun _=>A3P→List AV→St→KA→Prop) (fun _ A st k=>k A st)
  (fun i _ ih pd A st k=>match ops[i]? with
   | none=>False
   | some o=>A4z ops o A
    (match Z2 o.op with
     | true=>xOp P T M (inF frz o.dst) o.op A st fun v _=>A0w A o.dst v fun A'=>ih pd A' st k
     | false=>∃ (v:AV) (C:St→Prop),C st∧(∀ s,C s→xOp P T M (inF frz o.dst) o.op A s fun v' s'=>v'=v∧s'=s)∧A0w A o.dst v fun A'=>ih ((i,C)::pd) A' st k)
    (A0w A o.dst (.tuple []) fun A'=>ih pd A' st k))
  (fun i keep _ ih pd A st k=>B3E P T M frz ops i keep pd (fun A' st'=>ih pd A' st' k) A st)
  (fun i j ki kj _ _ iht ihu pd A st k=>B3E P T M frz ops i ki pd (fun A' st'=>iht pd A' st' k) A st∧B3E P T M frz ops j kj pd (fun A' st'=>ihu pd A' st' k) A st) t
theorem A4A {P:Program} {T:F9} {M:H1} {frz:List Nat} {ops:List Oper}:∀ t,C1Y P T M frz ops t=A3F P T M frz ops t
 | .done=>by funext pd A st k;rfl
 | .qui i t=>by
  funext pd A st k
  conv=>rhs;unfold A3F
  rw [←A4A t];rfl
 | .eff i keep t=>by
  funext pd A st k
  conv=>rhs;unfold A3F
  rw [←A4A t];rfl
 | .two i j ki kj t u=>by
  funext pd A st k
  conv=>rhs;unfold A3F
  rw [←A4A t,←A4A u];rfl
noncomputable def yDp (P:Program) (T:F9) (M:H1) (frz:List Nat) (ops:List Oper) (A:List AV) (st:St) (k:KA):Prop :=
 yDr P T M frz ops A st k∨∃ (eff:List Nat) (t:PT),(Region.noSelect ops.toArray&&okP ops.toArray eff t [] ops.length (Array.replicate ops.length false))=true∧C1Y P T M frz ops t [] A st k
theorem C3r {P:Program} {T:F9} {M:H1} {frz:List Nat} {ops:List Oper} {A:List AV} {st:St} {k:KA} (h:yDp P T M frz ops A st k):Dp P T M ops A st (A3I k):=by
 refine ⟨A3I k,fun _ _ h=>h,?_⟩
 rcases h with h | ⟨eff,t,h1,h2⟩
 ·rw [B9T] at h;exact .inl (B9Q h)
 ·rw [A4A] at h2;exact .inr ⟨eff,t,h1,A1Y t _ _ _ _ h2⟩
def B5j:List (Nat×List Nat)→Nat→Option (List Nat)
 | [],_=>none
 | (a,k)::l,i=>match Nat.beq a i with
  | true=>some k
  | false=>B5j l i
noncomputable def ZC (P:Program) (T:F9) (M:H1) (frz:List Nat) (D:List Oper→List AV→St→KA→Prop) (cuts:List (Nat×List Nat)) (c:Code):List AV→St→(Exit→KA)→Prop :=
 Code.rec (motive:=fun _=>List AV→St→(Exit→KA)→Prop)
  (fun A st K=>K .normal A st)
  (fun id ops draw A st K=>match B5j cuts id with
   | none=>match draw with
    | false=>B9U P T M frz ops.toList ops.toList A st (K .normal)
    | true=>D ops.toList A st (K .normal)
   | some keep=>∃ I:List AV→St→Prop,(match draw with
     | false=>B9U P T M frz ops.toList ops.toList A st fun A' st'=>A'.length=A.length∧A2e A' keep fun us=>I us st'
     | true=>D ops.toList A st fun A' st'=>A'.length=A.length∧A2e A' keep fun us=>I us st') ∧
    ∀ vs st',I vs st'→A9c A.length fun B=>A6x keep vs B fun A'=>K .normal A' st')
  (fun _ _ x y A st K=>x A st fun e A' st'=>match e with
   | .normal=>y A' st' K
   | e=>K e A' st')
  (fun c _ _ x y A st K=>evK A c fun v=>match v with
   | .bool b=>A3z b (x A st K) (y A st K)
   | .ubool=>x A st K∧y A st K
   | _=>False)
  (fun id _ c A st K=>c A st fun e A' st'=>match e with
   | .exit j=>(match Nat.beq j id with | true=>K .normal A' st' | false=>K (.exit j) A' st')
   | e=>K e A' st')
  (fun _ c A st K=>∃ (keep:List Nat) (I:Nat→KA),(A2e A keep fun us=>∃ m,I m us st)∧∀ m vs st',I m vs st'→A9c A.length fun B=>A6x keep vs B fun A'=>c A' st' fun e A'' st''=>match e with
   | .normal=>A''.length=A.length∧A2e A'' keep fun us=>∃ m',m'<m∧I m' us st''
   | e=>K e A'' st'')
  (fun _ _ _ _ _ _ A st K=>False)
  (fun id A st K=>K (.exit id) A st)
  (fun _ _ A st K=>False)
  (fun _ A st K=>False)
  (fun _ A st K=>False)
  (fun A st K=>K .ret A st)
  (fun _ A st K=>False) c
theorem B7E {P:Program} {T:F9} {M:H1} (ops l:List Oper) (A:List AV) (st:St) (k k':KA) (hk:∀ A st,k A st→k' A st) (h:A6H P T M ops l A st k):A6H P T M ops l A st k':=by
 induction l generalizing A st with
 | nil=>exact hk _ _ h
 | cons o l ih =>
  unfold A6H at h ⊢
  split at h
  ·exact h.elim
  ·exact ⟨fun e=>O4 (fun v st h=>ih _ _ h) (h.1 e),fun e=>ih _ _ (h.2 e)⟩
theorem A7K {P:Program} {T:F9} {M:H1}:∀ (c:Code) (A:List AV) (st:St) (K K':Exit→KA),(∀ e A st,K e A st→K' e A st)→W P T M (Dp P T M) c A st K→W P T M (Dp P T M) c A st K':=by
 intro c
 induction c with
 | skip=>intro A st K K' hK h;exact hK _ _ _ h
 | region id ops draw =>
  intro A st K K' hK h
  unfold W at h ⊢
  cases draw with
  | false=>exact B7E _ _ _ _ _ _ (fun A st ⟨A',st',h1,h2⟩=>⟨A',st',h1,hK _ _ _ h2⟩) h
  | true =>
   obtain ⟨k',h1,h2⟩:=h
   exact ⟨k',fun A st h=>by obtain ⟨A',st',h3,h4⟩:=h1 A st h;exact ⟨A',st',h3,hK _ _ _ h4⟩,h2⟩
 | seq x y ihx ihy =>
  intro A st K K' hK h
  unfold W at h ⊢
  refine ihx _ _ _ _ (fun e A st h=>?_) h
  cases e<;>first | exact hK _ _ _ h | exact ihy _ _ _ _ hK h
 | cond c x y ihx ihy =>
  intro A st K K' hK h
  unfold W at h ⊢
  split at h
  ·exact ⟨fun e=>ihx _ _ _ _ hK (h.1 e),fun e=>ihy _ _ _ _ hK (h.2 e)⟩
  ·exact ⟨ihx _ _ _ _ hK h.1,ihy _ _ _ _ hK h.2⟩
  ·exact h
 | block id c ih =>
  intro A st K K' hK h
  unfold W at h ⊢
  refine ih _ _ _ _ (fun e A st h=>?_) h
  cases e<;>simp only at h ⊢<;>try exact hK _ _ _ h
  split at h
  ·rename_i e;rw [if_pos e];exact hK _ _ _ h
  ·rename_i e;rw [if_neg e];exact hK _ _ _ h
 | loop c ih =>
  intro A st K K' hK h
  unfold W at h ⊢
  obtain ⟨keep,I,h0,hI⟩:=h
  refine ⟨keep,I,h0,fun m vs st' hi=>ih _ _ _ _ (fun e A st h=>?_) (hI m vs st' hi)⟩
  cases e<;>first | exact hK _ _ _ h | exact h
 | exit id=>intro A st K K' hK h;exact hK _ _ _ h
 | ret=>intro A st K K' hK h;exact hK _ _ _ h
 | rangeFunc _ _ _ _=>intro A st K K' hK h;exact h
 | scope _=>intro A st K K' hK h;exact h
 | label _=>intro A st K K' hK h;exact h
 | goto _=>intro A st K K' hK h;exact h
 | refuse _=>intro A st K K' hK h;exact h
theorem B2o {A:List AV} {keep:List Nat} {I:List AV→St→Prop} {K:KA} (hI:∀ vs st',I vs st'→A9c A.length fun B=>A6x keep vs B fun A'=>K A' st') {A1:List AV} {st1:St}
  (h:A3I (fun A' st'=>A'.length=A.length∧A2e A' keep fun us=>I us st') A1 st1):A3I K A1 st1:=by
 obtain ⟨A',st',hs,hl,hi⟩:=h
 rw [A0W] at hi
 have h1:=hI _ _ hi
 rw [A9d,A9k] at h1
 refine ⟨_,st',fun w a hA hS=>?_,h1⟩
 obtain ⟨s1,s2,s3⟩:=hs w a hA hS
 have:=A9r s1 keep
 rw [hl] at this
 exact ⟨this,s2,s3⟩
theorem C6G {P:Program} {T:F9} {M:H1} {frz:List Nat} {D:List Oper→List AV→St→KA→Prop} {cuts:List (Nat×List Nat)} (hD:∀ ops A st k,D ops A st k→Dp P T M ops A st (A3I k)):∀ (c:Code) (A:List AV) (st:St) (K:Exit→KA),ZC P T M frz D cuts c A st K→W P T M (Dp P T M) c A st K:=by
 intro c
 induction c with
 | skip=>intro A st K h;exact h
 | region id ops draw =>
  intro A st K h
  have h:(match (generalizing:=false) B5j cuts id with
   | none=>match (generalizing:=false) draw with
    | false=>B9U P T M frz ops.toList ops.toList A st (K .normal)
    | true=>D ops.toList A st (K .normal)
   | some keep=>∃ I:List AV→St→Prop,(match (generalizing:=false) draw with
     | false=>B9U P T M frz ops.toList ops.toList A st fun A' st'=>A'.length=A.length∧A2e A' keep fun us=>I us st'
     | true=>D ops.toList A st fun A' st'=>A'.length=A.length∧A2e A' keep fun us=>I us st') ∧
    ∀ vs st',I vs st'→A9c A.length fun B=>A6x keep vs B fun A'=>K .normal A' st'):=h
  cases hc:B5j cuts id with
  | none =>
   rw [hc] at h
   unfold W
   cases draw with
   | false=>exact A7X _ _ _ _ (by rw [←B1Z];exact h)
   | true=>exact hD _ _ _ _ h
  | some keep =>
   rw [hc] at h
   obtain ⟨I,h1,h2⟩:=h
   unfold W
   cases draw with
   | false=>exact B7E _ _ _ _ _ _ (fun A1 st1 h=>B2o h2 h) (A7X _ _ _ _ (by rw [←B1Z];exact h1))
   | true =>
    obtain ⟨k',k1,k2⟩:=hD _ _ _ _ h1
    exact ⟨k',fun A1 st1 h=>B2o h2 (k1 A1 st1 h),k2⟩
 | seq x y ihx ihy =>
  intro A st K h
  unfold W
  refine A7K _ _ _ _ _ (fun e A st h=>?_) (ihx _ _ _ h)
  cases e<;>first | exact h | exact ihy _ _ _ h
 | cond c x y ihx ihy =>
  intro A st K h
  have h:evK A c fun v=>match v with
   | .bool b=>A3z b (ZC P T M frz D cuts x A st K) (ZC P T M frz D cuts y A st K)
   | .ubool=>ZC P T M frz D cuts x A st K∧ZC P T M frz D cuts y A st K
   | _=>False:=h
  unfold W
  rw [A3j] at h
  split at h
  ·rename_i b hb
   rw [hb]
   obtain ⟨h1,h2⟩:=(W5 _ _ _).1 h
   exact ⟨fun e=>ihx _ _ _ (h1 e),fun e=>ihy _ _ _ (h2 e)⟩
  ·rename_i hb
   rw [hb]
   exact ⟨ihx _ _ _ h.1,ihy _ _ _ h.2⟩
  ·exact h.elim
 | block id c ih =>
  intro A st K h
  unfold W
  refine A7K _ _ _ _ _ (fun e A st h=>?_) (ih _ _ _ h)
  cases e<;>simp only at h ⊢<;>try exact h
  split at h
  ·rename_i e;rw [if_pos (Nat.eq_of_beq_eq_true e)];exact h
  ·rename_i e;rw [if_neg (Nat.ne_of_beq_eq_false e)];exact h
 | loop c ih =>
  intro A st K h
  unfold W
  obtain ⟨keep,I,h0,hI⟩:=h
  rw [A0W] at h0
  refine ⟨keep,I,h0,fun m vs st' hi=>?_⟩
  have h1:=hI m vs st' hi
  rw [A9d,A9k] at h1
  refine A7K _ _ _ _ _ (fun e A st h=>?_) (ih _ _ _ h1)
  cases e<;>first | exact h | (rw [A0W] at h;exact h)
 | exit id=>intro A st K h;exact h
 | ret=>intro A st K h;exact h
 | rangeFunc _ _ _ _=>intro A st K h;exact h
 | scope _=>intro A st K h;exact h
 | label _=>intro A st K h;exact h
 | goto _=>intro A st K h;exact h
 | refuse _=>intro A st K h;exact h
theorem B7C {P:Program} {T:F9} {M:H1} (frz:List Nat) (D:List Oper→List AV→St→KA→Prop) (cuts:List (Nat×List Nat)) (hD:∀ ops A st k,D ops A st k→Dp P T M ops A st (A3I k)) (hG:A5N P T M) (hm:P.follows .mixedOrders=true) {f:FuncId} {fn:Func} {c:Code} {args:List AV} {st:St} {post:KK} {n:Nat} {rs:Array ResultVar}
  (hf : P.funcs[f]? = some fn) (hname : (fn.name == "runtime.NumGoroutine") = false) (hb : fn.body = some c) (hn : fn.ntmps = n) (hr : fn.results = rs)
  (h:A5D args n fun A=>ZC P T M frz D cuts c A st (C3m T rs.toList post)):S P f args st post:=by
 subst hn;subst hr
 rw [B0F] at h
 refine C2h hG (C3z hG hm) hf hname hb (A7K _ _ _ _ _ (fun e A st h=>?_) (C6G hD _ _ _ _ h))
 cases e<;>first | exact h | (exact A9D _ _ h)
theorem C2g {P:Program} {T:F9} {M:H1} (frz:List Nat) (cuts:List (Nat×List Nat)) (hG:A5N P T M) (hm:P.follows .mixedOrders=true) {f:FuncId} {fn:Func} {c:Code} {args:List AV} {st:St} {post:KK} {n:Nat} {rs:Array ResultVar}
  (hf : P.funcs[f]? = some fn) (hname : (fn.name == "runtime.NumGoroutine") = false) (hb : fn.body = some c) (hn : fn.ntmps = n) (hr : fn.results = rs)
  (h:A5D args n fun A=>ZC P T M frz (yDp P T M frz) cuts c A st (C3m T rs.toList post)):S P f args st post :=
 B7C frz _ cuts (fun _ _ _ _ h=>C3r h) hG hm hf hname hb hn hr h
theorem A8 {P:Program} {T:F9} {M:H1} (frz:List Nat) (hG:A5N P T M) (hm:P.follows .mixedOrders=true) {f:FuncId} {fn:Func} {c:Code} {args:List AV} {st:St} {post:KK} {n:Nat} {rs:Array ResultVar}
  (hf : P.funcs[f]? = some fn) (hname : (fn.name == "runtime.NumGoroutine") = false) (hb : fn.body = some c) (hn : fn.ntmps = n) (hr : fn.results = rs)
  (h:A5D args n fun A=>ZC P T M frz (yDr P T M frz) [] c A st (C3m T rs.toList post)):S P f args st post :=
 B7C frz _ [] (fun _ _ _ _ h=>⟨_,fun _ _ h=>h,.inl (by rw [B9T] at h;exact B9Q h)⟩) hG hm hf hname hb hn hr h
end Go.Ab
