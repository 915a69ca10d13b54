/- Part 13 of the proof: contracts of the functions that the law reaches -/
import Derived.Test.YtaapofnkmpiknaaGreatPw12
set_option linter.unusedVariables false
set_option linter.unusedSimpArgs false
namespace Go.Ab
open Go
def B1W (P:Program) (T:C7) (M:E7) (frz:List Nat) (ops:List Oper) (i:Nat) (keep:List Nat) (pd:A2M) (K:KA) (A:List AV) (st:St):Prop :=
 match ops[i]? with
 | none=>False
 | some o=>A3j ops o A (xOp P T M (inF frz o.dst) o.op A st fun v st'=>A4I keep st st' (U6 A o.dst v fun A'=>K A' st') pd) (U6 A o.dst (.tuple []) fun A'=>K A' st)
def A2z (P:Program) (T:C7) (M:E7) (frz:List Nat) (ops:List Oper):PT→A2M→List AV→St→KA→Prop
 | .done,_,A,st,k=>k A st
 | .qui i t,pd,A,st,k=>match ops[i]? with
  | none=>False
  | some o=>A3j ops o A
   (match S5 o.op with
    | true=>xOp P T M (inF frz o.dst) o.op A st fun v _=>U6 A o.dst v fun A'=>A2z P T M frz ops t pd A' st k
    | false=>∃ (v:AV) (C:St→Prop),C st∧(∀ s,C s→xOp P T M (inF frz o.dst) o.op A s fun v' s'=>v'=v∧s'=s)∧U6 A o.dst v fun A'=>A2z P T M frz ops t ((i,C)::pd) A' st k)
   (U6 A o.dst (.tuple []) fun A'=>A2z P T M frz ops t pd A' st k)
 | .eff i keep t,pd,A,st,k=>B1W P T M frz ops i keep pd (fun A' st'=>A2z P T M frz ops t pd A' st' k) A st
 | .two i j ki kj t u,pd,A,st,k=>B1W P T M frz ops i ki pd (fun A' st'=>A2z P T M frz ops t pd A' st' k) A st∧B1W P T M frz ops j kj pd (fun A' st'=>A2z P T M frz ops u pd A' st' k) A st
theorem A3W {keep:List Nat} {st st':St} {k k':Prop} (hk:k→k'):∀ {pd:A2M},A4I keep st st' k pd→A4I keep st st' k' pd
 | [],h=>hk h
 | (i,C)::l,h=>by
  unfold A4I at h ⊢
  split at h
  ·exact ⟨h.1,A3W hk h.2⟩
  ·exact A3W hk h
theorem B0A {P:Program} {T:C7} {M:E7} {frz:List Nat} {ops:List Oper} {i:Nat} {keep:List Nat} {pd:A2M} {K K':KA} {A:List AV} {st:St} (hK:∀ A st,K A st→K' A st) (h:B1W P T M frz ops i keep pd K A st):B2j P T M ops i keep pd K' A st:=by
 unfold B1W at h
 unfold B2j
 cases ho:ops[i]? with
 | none=>rw [ho] at h;exact h.elim
 | some o =>
  rw [ho] at h
  simp only at h ⊢
  obtain ⟨b,hb,h1,h2⟩:=A1D h
  rw [hb]
  refine ⟨fun e=>?_,fun e=>?_⟩
  ·exact J5 (fun v st' hk=>A3W (fun hk=>by rw [K7] at hk;exact hK _ _ hk) hk) (A0H (h1 e))
  ·have:=h2 e
   rw [K7] at this;exact hK _ _ this
theorem B7P {op:Op} (h:S5 op=true):A7g op=true:=by unfold A7g;rw [h];rfl
theorem A0I {P:Program} {T:C7} {M:E7} {frz:List Nat} {ops:List Oper}:∀ (t:PT) (pd:A2M) (A:List AV) (st:St) (k:KA),A2z P T M frz ops t pd A st k→A2R P T M ops t pd A st (A2B k)
 | .done,pd,A,st,k,h=>⟨A,st,A2O.refl A st,h⟩
 | .eff i keep t,pd,A,st,k,h=>B0A (fun A st h=>A0I t pd A st k h) h
 | .two i j ki kj t u,pd,A,st,k,h=>⟨B0A (fun A st h=>A0I t pd A st k h) h.1,B0A (fun A st h=>A0I u pd A st k h) h.2⟩
 | .qui i t,pd,A,st,k,h=>by
  unfold A2z at h
  unfold A2R
  cases ho:ops[i]? with
  | none=>rw [ho] at h;exact h.elim
  | some o =>
   rw [ho] at h
   simp only at h ⊢
   obtain ⟨b,hb,h1,h2⟩:=A1D h
   rw [hb]
   simp only
   refine ⟨fun e=>?_,fun e=>?_⟩
   ·have h1:=h1 e
    split at h1
    ·rename_i hp
     rw [hp]
     obtain ⟨v,hv,hk⟩:=A9y (B7P hp) (A0H h1)
     rw [K7] at hk
     exact ⟨v,hv,A0I t pd _ _ _ hk⟩
    ·rename_i hp
     rw [hp]
     obtain ⟨v,C,hC,hv,hk⟩:=h1
     rw [K7] at hk
     exact ⟨v,C,hC,fun s hs=>A0H (hv s hs),A0I t _ _ _ _ hk⟩
   ·have:=h2 e
    rw [K7] at this;exact A0I t pd _ _ _ this
noncomputable def C0B (P:Program) (T:C7) (M:E7) (frz:List Nat) (ops:List Oper) (t:PT):A2M→List AV→St→KA→Prop :=
 PT.rec (motive:=fun _=>A2M→List AV→St→KA→Prop) (fun _ A st k=>k A st)
  (fun i _ ih pd A st k=>match ops[i]? with
   | none=>False
   | some o=>A3j ops o A
    (match S5 o.op with
     | true=>xOp P T M (inF frz o.dst) o.op A st fun v _=>U6 A o.dst v fun A'=>ih pd A' st k
     | false=>∃ (v:AV) (C:St→Prop),C st∧(∀ s,C s→xOp P T M (inF frz o.dst) o.op A s fun v' s'=>v'=v∧s'=s)∧U6 A o.dst v fun A'=>ih ((i,C)::pd) A' st k)
    (U6 A o.dst (.tuple []) fun A'=>ih pd A' st k))
  (fun i keep _ ih pd A st k=>B1W P T M frz ops i keep pd (fun A' st'=>ih pd A' st' k) A st)
  (fun i j ki kj _ _ iht ihu pd A st k=>B1W P T M frz ops i ki pd (fun A' st'=>iht pd A' st' k) A st∧B1W P T M frz ops j kj pd (fun A' st'=>ihu pd A' st' k) A st) t
theorem A3k {P:Program} {T:C7} {M:E7} {frz:List Nat} {ops:List Oper}:∀ t,C0B P T M frz ops t=A2z P T M frz ops t
 | .done=>by funext pd A st k;rfl
 | .qui i t=>by
  funext pd A st k
  conv=>rhs;unfold A2z
  rw [←A3k t];rfl
 | .eff i keep t=>by
  funext pd A st k
  conv=>rhs;unfold A2z
  rw [←A3k t];rfl
 | .two i j ki kj t u=>by
  funext pd A st k
  conv=>rhs;unfold A2z
  rw [←A3k t,←A3k u];rfl
noncomputable def yDp (P:Program) (T:C7) (M:E7) (frz:List Nat) (ops:List Oper) (A:List AV) (st:St) (k:KA):Prop :=
 yDr P T M frz ops A st k∨∃ (eff:List Nat) (t:PT),(Region.noSelect ops.toArray&&okP ops.toArray eff t [] ops.length (Array.replicate ops.length false))=true∧C0B P T M frz ops t [] A st k
theorem C1X {P:Program} {T:C7} {M:E7} {frz:List Nat} {ops:List Oper} {A:List AV} {st:St} {k:KA} (h:yDp P T M frz ops A st k):Dp P T M ops A st (A2B k):=by
 refine ⟨A2B k,fun _ _ h=>h,?_⟩
 rcases h with h | ⟨eff,t,h1,h2⟩
 ·rw [B8F] at h;exact .inl (B8C h)
 ·rw [A3k] at h2;exact .inr ⟨eff,t,h1,A0I t _ _ _ _ h2⟩
def B3C:List (Nat×List Nat)→Nat→Option (List Nat)
 | [],_=>none
 | (a,k)::l,i=>match Nat.beq a i with
  | true=>some k
  | false=>B3C l i
noncomputable def ZC (P:Program) (T:C7) (M:E7) (frz:List Nat) (D:List Oper→List AV→St→KA→Prop) (cuts:List (Nat×List Nat)) (c:Code):List AV→St→(Exit→KA)→Prop :=
 Code.rec (motive:=fun _=>List AV→St→(Exit→KA)→Prop)
  (fun A st K=>K .normal A st)
  (fun id ops draw A st K=>match B3C cuts id with
   | none=>match draw with
    | false=>B8G P T M frz ops.toList ops.toList A st (K .normal)
    | true=>D ops.toList A st (K .normal)
   | some keep=>∃ I:List AV→St→Prop,(match draw with
     | false=>B8G P T M frz ops.toList ops.toList A st fun A' st'=>A'.length=A.length∧A0Q A' keep fun us=>I us st'
     | true=>D ops.toList A st fun A' st'=>A'.length=A.length∧A0Q A' keep fun us=>I us st') ∧
    ∀ vs st',I vs st'→A7G A.length fun B=>A4T keep vs B fun A'=>K .normal A' st')
  (fun _ _ x y A st K=>x A st fun e A' st'=>match e with
   | .normal=>y A' st' K
   | e=>K e A' st')
  (fun c _ _ x y A st K=>evK A c fun v=>match v with
   | .bool b=>A2v b (x A st K) (y A st K)
   | .ubool=>x A st K∧y A st K
   | _=>False)
  (fun id _ c A st K=>c A st fun e A' st'=>match e with
   | .exit j=>(match Nat.beq j id with | true=>K .normal A' st' | false=>K (.exit j) A' st')
   | e=>K e A' st')
  (fun _ c A st K=>∃ (keep:List Nat) (I:Nat→KA),(A0Q A keep fun us=>∃ m,I m us st)∧∀ m vs st',I m vs st'→A7G A.length fun B=>A4T keep vs B fun A'=>c A' st' fun e A'' st''=>match e with
   | .normal=>A''.length=A.length∧A0Q A'' keep fun us=>∃ m',m'<m∧I m' us st''
   | e=>K e A'' st'')
  (fun _ _ _ _ _ _ A st K=>False)
  (fun id A st K=>K (.exit id) A st)
  (fun _ _ A st K=>False)
  (fun _ A st K=>False)
  (fun _ A st K=>False)
  (fun A st K=>K .ret A st)
  (fun _ A st K=>False) c
theorem B6y {P:Program} {T:C7} {M:E7} (ops l:List Oper) (A:List AV) (st:St) (k k':KA) (hk:∀ A st,k A st→k' A st) (h:A5f P T M ops l A st k):A5f P T M ops l A st k':=by
 induction l generalizing A st with
 | nil=>exact hk _ _ h
 | cons o l ih =>
  unfold A5f at h ⊢
  split at h
  ·exact h.elim
  ·exact ⟨fun e=>J5 (fun v st h=>ih _ _ h) (h.1 e),fun e=>ih _ _ (h.2 e)⟩
theorem A6s {P:Program} {T:C7} {M:E7}:∀ (c:Code) (A:List AV) (st:St) (K K':Exit→KA),(∀ e A st,K e A st→K' e A st)→W P T M (Dp P T M) c A st K→W P T M (Dp P T M) c A st K':=by
 intro c
 induction c with
 | skip=>intro A st K K' hK h;exact hK _ _ _ h
 | region id ops draw =>
  intro A st K K' hK h
  unfold W at h ⊢
  cases draw with
  | false=>exact B6y _ _ _ _ _ _ (fun A st ⟨A',st',h1,h2⟩=>⟨A',st',h1,hK _ _ _ h2⟩) h
  | true =>
   obtain ⟨k',h1,h2⟩:=h
   exact ⟨k',fun A st h=>by obtain ⟨A',st',h3,h4⟩:=h1 A st h;exact ⟨A',st',h3,hK _ _ _ h4⟩,h2⟩
 | seq x y ihx ihy =>
  intro A st K K' hK h
  unfold W at h ⊢
  refine ihx _ _ _ _ (fun e A st h=>?_) h
  cases e<;>first | exact hK _ _ _ h | exact ihy _ _ _ _ hK h
 | cond c x y ihx ihy =>
  intro A st K K' hK h
  unfold W at h ⊢
  split at h
  ·exact ⟨fun e=>ihx _ _ _ _ hK (h.1 e),fun e=>ihy _ _ _ _ hK (h.2 e)⟩
  ·exact ⟨ihx _ _ _ _ hK h.1,ihy _ _ _ _ hK h.2⟩
  ·exact h
 | block id c ih =>
  intro A st K K' hK h
  unfold W at h ⊢
  refine ih _ _ _ _ (fun e A st h=>?_) h
  cases e<;>simp only at h ⊢<;>try exact hK _ _ _ h
  split at h
  ·rename_i e;rw [if_pos e];exact hK _ _ _ h
  ·rename_i e;rw [if_neg e];exact hK _ _ _ h
 | loop c ih =>
  intro A st K K' hK h
  unfold W at h ⊢
  obtain ⟨keep,I,h0,hI⟩:=h
  refine ⟨keep,I,h0,fun m vs st' hi=>ih _ _ _ _ (fun e A st h=>?_) (hI m vs st' hi)⟩
  cases e<;>first | exact hK _ _ _ h | exact h
 | exit id=>intro A st K K' hK h;exact hK _ _ _ h
 | ret=>intro A st K K' hK h;exact hK _ _ _ h
 | rangeFunc _ _ _ _=>intro A st K K' hK h;exact h
 | scope _=>intro A st K K' hK h;exact h
 | label _=>intro A st K K' hK h;exact h
 | goto _=>intro A st K K' hK h;exact h
 | refuse _=>intro A st K K' hK h;exact h
theorem B0X {A:List AV} {keep:List Nat} {I:List AV→St→Prop} {K:KA} (hI:∀ vs st',I vs st'→A7G A.length fun B=>A4T keep vs B fun A'=>K A' st') {A1:List AV} {st1:St}
  (h:A2B (fun A' st'=>A'.length=A.length∧A0Q A' keep fun us=>I us st') A1 st1):A2B K A1 st1:=by
 obtain ⟨A',st',hs,hl,hi⟩:=h
 rw [X3] at hi
 have h1:=hI _ _ hi
 rw [A7H,A7K] at h1
 refine ⟨_,st',fun w a hA hS=>?_,h1⟩
 obtain ⟨s1,s2,s3⟩:=hs w a hA hS
 have:=A7T s1 keep
 rw [hl] at this
 exact ⟨this,s2,s3⟩
theorem C6r {P:Program} {T:C7} {M:E7} {frz:List Nat} {D:List Oper→List AV→St→KA→Prop} {cuts:List (Nat×List Nat)} (hD:∀ ops A st k,D ops A st k→Dp P T M ops A st (A2B k)):∀ (c:Code) (A:List AV) (st:St) (K:Exit→KA),ZC P T M frz D cuts c A st K→W P T M (Dp P T M) c A st K:=by
 intro c
 induction c with
 | skip=>intro A st K h;exact h
 | region id ops draw =>
  intro A st K h
  have h:(match (generalizing:=false) B3C cuts id with
   | none=>match (generalizing:=false) draw with
    | false=>B8G P T M frz ops.toList ops.toList A st (K .normal)
    | true=>D ops.toList A st (K .normal)
   | some keep=>∃ I:List AV→St→Prop,(match (generalizing:=false) draw with
     | false=>B8G P T M frz ops.toList ops.toList A st fun A' st'=>A'.length=A.length∧A0Q A' keep fun us=>I us st'
     | true=>D ops.toList A st fun A' st'=>A'.length=A.length∧A0Q A' keep fun us=>I us st') ∧
    ∀ vs st',I vs st'→A7G A.length fun B=>A4T keep vs B fun A'=>K .normal A' st'):=h
  cases hc:B3C cuts id with
  | none =>
   rw [hc] at h
   unfold W
   cases draw with
   | false=>exact A6H _ _ _ _ (by rw [←B0D];exact h)
   | true=>exact hD _ _ _ _ h
  | some keep =>
   rw [hc] at h
   obtain ⟨I,h1,h2⟩:=h
   unfold W
   cases draw with
   | false=>exact B6y _ _ _ _ _ _ (fun A1 st1 h=>B0X h2 h) (A6H _ _ _ _ (by rw [←B0D];exact h1))
   | true =>
    obtain ⟨k',k1,k2⟩:=hD _ _ _ _ h1
    exact ⟨k',fun A1 st1 h=>B0X h2 (k1 A1 st1 h),k2⟩
 | seq x y ihx ihy =>
  intro A st K h
  unfold W
  refine A6s _ _ _ _ _ (fun e A st h=>?_) (ihx _ _ _ h)
  cases e<;>first | exact h | exact ihy _ _ _ h
 | cond c x y ihx ihy =>
  intro A st K h
  have h:evK A c fun v=>match v with
   | .bool b=>A2v b (ZC P T M frz D cuts x A st K) (ZC P T M frz D cuts y A st K)
   | .ubool=>ZC P T M frz D cuts x A st K∧ZC P T M frz D cuts y A st K
   | _=>False:=h
  unfold W
  rw [A1T] at h
  split at h
  ·rename_i b hb
   rw [hb]
   obtain ⟨h1,h2⟩:=(P9 _ _ _).1 h
   exact ⟨fun e=>ihx _ _ _ (h1 e),fun e=>ihy _ _ _ (h2 e)⟩
  ·rename_i hb
   rw [hb]
   exact ⟨ihx _ _ _ h.1,ihy _ _ _ h.2⟩
  ·exact h.elim
 | block id c ih =>
  intro A st K h
  unfold W
  refine A6s _ _ _ _ _ (fun e A st h=>?_) (ih _ _ _ h)
  cases e<;>simp only at h ⊢<;>try exact h
  split at h
  ·rename_i e;rw [if_pos (D1y e)];exact h
  ·rename_i e;rw [if_neg (Nat.ne_of_beq_eq_false e)];exact h
 | loop c ih =>
  intro A st K h
  unfold W
  obtain ⟨keep,I,h0,hI⟩:=h
  rw [X3] at h0
  refine ⟨keep,I,h0,fun m vs st' hi=>?_⟩
  have h1:=hI m vs st' hi
  rw [A7H,A7K] at h1
  refine A6s _ _ _ _ _ (fun e A st h=>?_) (ih _ _ _ h1)
  cases e<;>first | exact h | (rw [X3] at h;exact h)
 | exit id=>intro A st K h;exact h
 | ret=>intro A st K h;exact h
 | rangeFunc _ _ _ _=>intro A st K h;exact h
 | scope _=>intro A st K h;exact h
 | label _=>intro A st K h;exact h
 | goto _=>intro A st K h;exact h
 | refuse _=>intro A st K h;exact h
theorem B6u {P:Program} {T:C7} {M:E7} (frz:List Nat) (D:List Oper→List AV→St→KA→Prop) (cuts:List (Nat×List Nat)) (hD:∀ ops A st k,D ops A st k→Dp P T M ops A st (A2B k)) (hG:A3M P T M) (hm:P.follows .mixedOrders=true) {f:FuncId} {fn:Func} {c:Code} {args:List AV} {st:St} {post:KK} {n:Nat} {rs:Array ResultVar}
  (hf : P.funcs[f]? = some fn) (hname : (fn.name == "runtime.NumGoroutine") = false) (hb : fn.body = some c) (hn : fn.ntmps = n) (hr : fn.results = rs)
  (h:A1i args n fun A=>ZC P T M frz D cuts c A st (B6d T rs.toList post)):S P f args st post:=by
 subst hn;subst hr
 rw [A9c] at h
 refine C0O hG (C2j hG hm) hf hname hb (A6s _ _ _ _ _ (fun e A st h=>?_) (C6r hD _ _ _ _ h))
 cases e<;>first | exact h | (exact A8f _ _ h)
theorem C0N {P:Program} {T:C7} {M:E7} (frz:List Nat) (cuts:List (Nat×List Nat)) (hG:A3M P T M) (hm:P.follows .mixedOrders=true) {f:FuncId} {fn:Func} {c:Code} {args:List AV} {st:St} {post:KK} {n:Nat} {rs:Array ResultVar}
  (hf : P.funcs[f]? = some fn) (hname : (fn.name == "runtime.NumGoroutine") = false) (hb : fn.body = some c) (hn : fn.ntmps = n) (hr : fn.results = rs)
  (h:A1i args n fun A=>ZC P T M frz (yDp P T M frz) cuts c A st (B6d T rs.toList post)):S P f args st post :=
 B6u frz _ cuts (fun _ _ _ _ h=>C1X h) hG hm hf hname hb hn hr h
theorem A1G {P:Program} {T:C7} {M:E7} (frz:List Nat) (hG:A3M P T M) (hm:P.follows .mixedOrders=true) {f:FuncId} {fn:Func} {c:Code} {args:List AV} {st:St} {post:KK} {n:Nat} {rs:Array ResultVar}
  (hf : P.funcs[f]? = some fn) (hname : (fn.name == "runtime.NumGoroutine") = false) (hb : fn.body = some c) (hn : fn.ntmps = n) (hr : fn.results = rs)
  (h:A1i args n fun A=>ZC P T M frz (yDp P T M frz) [] c A st (B6d T rs.toList post)):S P f args st post:=C0N frz [] hG hm hf hname hb hn hr h
theorem B6v {P:Program} {T:C7} {M:E7} (frz:List Nat) (hG:A3M P T M) (hm:P.follows .mixedOrders=true) {f:FuncId} {fn:Func} {c:Code} {args:List AV} {st:St} {post:KK} {n:Nat} {rs:Array ResultVar}
  (hf : P.funcs[f]? = some fn) (hname : (fn.name == "runtime.NumGoroutine") = false) (hb : fn.body = some c) (hn : fn.ntmps = n) (hr : fn.results = rs)
  (h:A1i args n fun A=>ZC P T M frz (yDr P T M frz) [] c A st (B6d T rs.toList post)):S P f args st post :=
 B6u frz _ [] (fun _ _ _ _ h=>⟨_,fun _ _ h=>h,.inl (by rw [B8F] at h;exact B8C h)⟩) hG hm hf hname hb hn hr h
end Go.Ab
