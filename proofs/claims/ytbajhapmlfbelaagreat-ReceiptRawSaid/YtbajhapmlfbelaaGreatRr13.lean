/- Part 13 of the proof: contracts of the functions that the law reaches -/
import Derived.Test.YtbajhapmlfbelaaGreatRr12
set_option linter.unusedVariables false
set_option linter.unusedSimpArgs false
namespace Go.Ab
open Go
def B0D (P:Program) (T:C4) (M:D2) (frz:List Nat) (ops:List Oper) (i:Nat) (keep:List Nat) (pd:A1P) (K:KA) (A:List AV) (st:St):Prop :=
 match ops[i]? with
 | none=>False
 | some o=>A2r ops o A (xOp P T M (inF frz o.dst) o.op A st fun v st'=>A3V keep st st' (S8 A o.dst v fun A'=>K A' st') pd) (S8 A o.dst (.tuple []) fun A'=>K A' st)
def A1G (P:Program) (T:C4) (M:D2) (frz:List Nat) (ops:List Oper):PT→A1P→List AV→St→KA→Prop
 | .done,_,A,st,k=>k A st
 | .qui i t,pd,A,st,k=>match ops[i]? with
  | none=>False
  | some o=>A2r ops o A
   (match Q4 o.op with
    | true=>xOp P T M (inF frz o.dst) o.op A st fun v _=>S8 A o.dst v fun A'=>A1G P T M frz ops t pd A' st k
    | false=>∃ (v:AV) (C:St→Prop),C st∧(∀ s,C s→xOp P T M (inF frz o.dst) o.op A s fun v' s'=>v'=v∧s'=s)∧S8 A o.dst v fun A'=>A1G P T M frz ops t ((i,C)::pd) A' st k)
   (S8 A o.dst (.tuple []) fun A'=>A1G P T M frz ops t pd A' st k)
 | .eff i keep t,pd,A,st,k=>B0D P T M frz ops i keep pd (fun A' st'=>A1G P T M frz ops t pd A' st' k) A st
 | .two i j ki kj t u,pd,A,st,k=>B0D P T M frz ops i ki pd (fun A' st'=>A1G P T M frz ops t pd A' st' k) A st∧B0D P T M frz ops j kj pd (fun A' st'=>A1G P T M frz ops u pd A' st' k) A st
theorem A3m {keep:List Nat} {st st':St} {k k':Prop} (hk:k→k'):∀ {pd:A1P},A3V keep st st' k pd→A3V keep st st' k' pd
 | [],h=>hk h
 | (i,C)::l,h=>by
  unfold A3V at h ⊢
  split at h
  ·exact ⟨h.1,A3m hk h.2⟩
  ·exact A3m hk h
theorem A9t {P:Program} {T:C4} {M:D2} {frz:List Nat} {ops:List Oper} {i:Nat} {keep:List Nat} {pd:A1P} {K K':KA} {A:List AV} {st:St} (hK:∀ A st,K A st→K' A st) (h:B0D P T M frz ops i keep pd K A st):B0P P T M ops i keep pd K' A st:=by
 unfold B0D at h
 unfold B0P
 cases ho:ops[i]? with
 | none=>rw [ho] at h;exact h.elim
 | some o =>
  rw [ho] at h
  simp only at h ⊢
  obtain ⟨b,hb,h1,h2⟩:=A0W h
  rw [hb]
  refine ⟨fun e=>?_,fun e=>?_⟩
  ·exact I9 (fun v st' hk=>A3m (fun hk=>by rw [J7] at hk;exact hK _ _ hk) hk) (A0b (h1 e))
  ·have:=h2 e
   rw [J7] at this;exact hK _ _ this
theorem B5G {op:Op} (h:Q4 op=true):A6d op=true:=by unfold A6d;rw [h];rfl
theorem A0c {P:Program} {T:C4} {M:D2} {frz:List Nat} {ops:List Oper}:∀ (t:PT) (pd:A1P) (A:List AV) (st:St) (k:KA),A1G P T M frz ops t pd A st k→A1V P T M ops t pd A st (A1I k)
 | .done,pd,A,st,k,h=>⟨A,st,A1S.refl A st,h⟩
 | .eff i keep t,pd,A,st,k,h=>A9t (fun A st h=>A0c t pd A st k h) h
 | .two i j ki kj t u,pd,A,st,k,h=>⟨A9t (fun A st h=>A0c t pd A st k h) h.1,A9t (fun A st h=>A0c u pd A st k h) h.2⟩
 | .qui i t,pd,A,st,k,h=>by
  unfold A1G at h
  unfold A1V
  cases ho:ops[i]? with
  | none=>rw [ho] at h;exact h.elim
  | some o =>
   rw [ho] at h
   simp only at h ⊢
   obtain ⟨b,hb,h1,h2⟩:=A0W h
   rw [hb]
   simp only
   refine ⟨fun e=>?_,fun e=>?_⟩
   ·have h1:=h1 e
    split at h1
    ·rename_i hp
     rw [hp]
     obtain ⟨v,hv,hk⟩:=A8z (B5G hp) (A0b h1)
     rw [J7] at hk
     exact ⟨v,hv,A0c t pd _ _ _ hk⟩
    ·rename_i hp
     rw [hp]
     obtain ⟨v,C,hC,hv,hk⟩:=h1
     rw [J7] at hk
     exact ⟨v,C,hC,fun s hs=>A0b (hv s hs),A0c t _ _ _ _ hk⟩
   ·have:=h2 e
    rw [J7] at this;exact A0c t pd _ _ _ this
noncomputable def B8B (P:Program) (T:C4) (M:D2) (frz:List Nat) (ops:List Oper) (t:PT):A1P→List AV→St→KA→Prop :=
 PT.rec (motive:=fun _=>A1P→List AV→St→KA→Prop) (fun _ A st k=>k A st)
  (fun i _ ih pd A st k=>match ops[i]? with
   | none=>False
   | some o=>A2r ops o A
    (match Q4 o.op with
     | true=>xOp P T M (inF frz o.dst) o.op A st fun v _=>S8 A o.dst v fun A'=>ih pd A' st k
     | false=>∃ (v:AV) (C:St→Prop),C st∧(∀ s,C s→xOp P T M (inF frz o.dst) o.op A s fun v' s'=>v'=v∧s'=s)∧S8 A o.dst v fun A'=>ih ((i,C)::pd) A' st k)
    (S8 A o.dst (.tuple []) fun A'=>ih pd A' st k))
  (fun i keep _ ih pd A st k=>B0D P T M frz ops i keep pd (fun A' st'=>ih pd A' st' k) A st)
  (fun i j ki kj _ _ iht ihu pd A st k=>B0D P T M frz ops i ki pd (fun A' st'=>iht pd A' st' k) A st∧B0D P T M frz ops j kj pd (fun A' st'=>ihu pd A' st' k) A st) t
theorem A2s {P:Program} {T:C4} {M:D2} {frz:List Nat} {ops:List Oper}:∀ t,B8B P T M frz ops t=A1G P T M frz ops t
 | .done=>by funext pd A st k;rfl
 | .qui i t=>by
  funext pd A st k
  conv=>rhs;unfold A1G
  rw [←A2s t];rfl
 | .eff i keep t=>by
  funext pd A st k
  conv=>rhs;unfold A1G
  rw [←A2s t];rfl
 | .two i j ki kj t u=>by
  funext pd A st k
  conv=>rhs;unfold A1G
  rw [←A2s t,←A2s u];rfl
noncomputable def yDp (P:Program) (T:C4) (M:D2) (frz:List Nat) (ops:List Oper) (A:List AV) (st:St) (k:KA):Prop :=
 yDr P T M frz ops A st k∨∃ (eff:List Nat) (t:PT),(Region.noSelect ops.toArray&&okP ops.toArray eff t [] ops.length (Array.replicate ops.length false))=true∧B8B P T M frz ops t [] A st k
theorem B9Y {P:Program} {T:C4} {M:D2} {frz:List Nat} {ops:List Oper} {A:List AV} {st:St} {k:KA} (h:yDp P T M frz ops A st k):Dp P T M ops A st (A1I k):=by
 refine ⟨A1I k,fun _ _ h=>h,?_⟩
 rcases h with h | ⟨eff,t,h1,h2⟩
 ·rw [B6u] at h;exact .inl (B6q h)
 ·rw [A2s] at h2;exact .inr ⟨eff,t,h1,A0c t _ _ _ _ h2⟩
def B1Y:List (Nat×List Nat)→Nat→Option (List Nat)
 | [],_=>none
 | (a,k)::l,i=>match Nat.beq a i with
  | true=>some k
  | false=>B1Y l i
noncomputable def ZC (P:Program) (T:C4) (M:D2) (frz:List Nat) (D:List Oper→List AV→St→KA→Prop) (cuts:List (Nat×List Nat)) (c:Code):List AV→St→(Exit→KA)→Prop :=
 Code.rec (motive:=fun _=>List AV→St→(Exit→KA)→Prop)
  (fun A st K=>K .normal A st)
  (fun id ops draw A st K=>match B1Y cuts id with
   | none=>match draw with
    | false=>B6v P T M frz ops.toList ops.toList A st (K .normal)
    | true=>D ops.toList A st (K .normal)
   | some keep=>∃ I:List AV→St→Prop,(match draw with
     | false=>B6v P T M frz ops.toList ops.toList A st fun A' st'=>A'.length=A.length∧A0h A' keep fun us=>I us st'
     | true=>D ops.toList A st fun A' st'=>A'.length=A.length∧A0h A' keep fun us=>I us st') ∧
    ∀ vs st',I vs st'→A6D A.length fun B=>A4c keep vs B fun A'=>K .normal A' st')
  (fun _ _ x y A st K=>x A st fun e A' st'=>match e with
   | .normal=>y A' st' K
   | e=>K e A' st')
  (fun c _ _ x y A st K=>evK A c fun v=>match v with
   | .bool b=>A1D b (x A st K) (y A st K)
   | .ubool=>x A st K∧y A st K
   | _=>False)
  (fun id _ c A st K=>c A st fun e A' st'=>match e with
   | .exit j=>(match Nat.beq j id with | true=>K .normal A' st' | false=>K (.exit j) A' st')
   | e=>K e A' st')
  (fun _ c A st K=>∃ (keep:List Nat) (I:Nat→KA),(A0h A keep fun us=>∃ m,I m us st)∧∀ m vs st',I m vs st'→A6D A.length fun B=>A4c keep vs B fun A'=>c A' st' fun e A'' st''=>match e with
   | .normal=>A''.length=A.length∧A0h A'' keep fun us=>∃ m',m'<m∧I m' us st''
   | e=>K e A'' st'')
  (fun _ _ _ _ _ _ A st K=>False)
  (fun id A st K=>K (.exit id) A st)
  (fun _ _ A st K=>False)
  (fun _ A st K=>False)
  (fun _ A st K=>False)
  (fun A st K=>K .ret A st)
  (fun _ A st K=>False) c
theorem B4t {P:Program} {T:C4} {M:D2} (ops l:List Oper) (A:List AV) (st:St) (k k':KA) (hk:∀ A st,k A st→k' A st) (h:A4n P T M ops l A st k):A4n P T M ops l A st k':=by
 induction l generalizing A st with
 | nil=>exact hk _ _ h
 | cons o l ih =>
  unfold A4n at h ⊢
  split at h
  ·exact h.elim
  ·exact ⟨fun e=>I9 (fun v st h=>ih _ _ h) (h.1 e),fun e=>ih _ _ (h.2 e)⟩
theorem A5r {P:Program} {T:C4} {M:D2}:∀ (c:Code) (A:List AV) (st:St) (K K':Exit→KA),(∀ e A st,K e A st→K' e A st)→W P T M (Dp P T M) c A st K→W P T M (Dp P T M) c A st K':=by
 intro c
 induction c with
 | skip=>intro A st K K' hK h;exact hK _ _ _ h
 | region id ops draw =>
  intro A st K K' hK h
  unfold W at h ⊢
  cases draw with
  | false=>exact B4t _ _ _ _ _ _ (fun A st ⟨A',st',h1,h2⟩=>⟨A',st',h1,hK _ _ _ h2⟩) h
  | true =>
   obtain ⟨k',h1,h2⟩:=h
   exact ⟨k',fun A st h=>by obtain ⟨A',st',h3,h4⟩:=h1 A st h;exact ⟨A',st',h3,hK _ _ _ h4⟩,h2⟩
 | seq x y ihx ihy =>
  intro A st K K' hK h
  unfold W at h ⊢
  refine ihx _ _ _ _ (fun e A st h=>?_) h
  cases e<;>first | exact hK _ _ _ h | exact ihy _ _ _ _ hK h
 | cond c x y ihx ihy =>
  intro A st K K' hK h
  unfold W at h ⊢
  split at h
  ·exact ⟨fun e=>ihx _ _ _ _ hK (h.1 e),fun e=>ihy _ _ _ _ hK (h.2 e)⟩
  ·exact ⟨ihx _ _ _ _ hK h.1,ihy _ _ _ _ hK h.2⟩
  ·exact h
 | block id c ih =>
  intro A st K K' hK h
  unfold W at h ⊢
  refine ih _ _ _ _ (fun e A st h=>?_) h
  cases e<;>simp only at h ⊢<;>try exact hK _ _ _ h
  split at h
  ·rename_i e;rw [if_pos e];exact hK _ _ _ h
  ·rename_i e;rw [if_neg e];exact hK _ _ _ h
 | loop c ih =>
  intro A st K K' hK h
  unfold W at h ⊢
  obtain ⟨keep,I,h0,hI⟩:=h
  refine ⟨keep,I,h0,fun m vs st' hi=>ih _ _ _ _ (fun e A st h=>?_) (hI m vs st' hi)⟩
  cases e<;>first | exact hK _ _ _ h | exact h
 | exit id=>intro A st K K' hK h;exact hK _ _ _ h
 | ret=>intro A st K K' hK h;exact hK _ _ _ h
 | rangeFunc _ _ _ _=>intro A st K K' hK h;exact h
 | scope _=>intro A st K K' hK h;exact h
 | label _=>intro A st K K' hK h;exact h
 | goto _=>intro A st K K' hK h;exact h
 | refuse _=>intro A st K K' hK h;exact h
theorem A9K {A:List AV} {keep:List Nat} {I:List AV→St→Prop} {K:KA} (hI:∀ vs st',I vs st'→A6D A.length fun B=>A4c keep vs B fun A'=>K A' st') {A1:List AV} {st1:St}
  (h:A1I (fun A' st'=>A'.length=A.length∧A0h A' keep fun us=>I us st') A1 st1):A1I K A1 st1:=by
 obtain ⟨A',st',hs,hl,hi⟩:=h
 rw [V4] at hi
 have h1:=hI _ _ hi
 rw [A6E,A6H] at h1
 refine ⟨_,st',fun w a hA hS=>?_,h1⟩
 obtain ⟨s1,s2,s3⟩:=hs w a hA hS
 have:=A6P s1 keep
 rw [hl] at this
 exact ⟨this,s2,s3⟩
theorem C4f {P:Program} {T:C4} {M:D2} {frz:List Nat} {D:List Oper→List AV→St→KA→Prop} {cuts:List (Nat×List Nat)} (hD:∀ ops A st k,D ops A st k→Dp P T M ops A st (A1I k)):∀ (c:Code) (A:List AV) (st:St) (K:Exit→KA),ZC P T M frz D cuts c A st K→W P T M (Dp P T M) c A st K:=by
 intro c
 induction c with
 | skip=>intro A st K h;exact h
 | region id ops draw =>
  intro A st K h
  have h:(match (generalizing:=false) B1Y cuts id with
   | none=>match (generalizing:=false) draw with
    | false=>B6v P T M frz ops.toList ops.toList A st (K .normal)
    | true=>D ops.toList A st (K .normal)
   | some keep=>∃ I:List AV→St→Prop,(match (generalizing:=false) draw with
     | false=>B6v P T M frz ops.toList ops.toList A st fun A' st'=>A'.length=A.length∧A0h A' keep fun us=>I us st'
     | true=>D ops.toList A st fun A' st'=>A'.length=A.length∧A0h A' keep fun us=>I us st') ∧
    ∀ vs st',I vs st'→A6D A.length fun B=>A4c keep vs B fun A'=>K .normal A' st'):=h
  cases hc:B1Y cuts id with
  | none =>
   rw [hc] at h
   unfold W
   cases draw with
   | false=>exact A5I _ _ _ _ (by rw [←A9w];exact h)
   | true=>exact hD _ _ _ _ h
  | some keep =>
   rw [hc] at h
   obtain ⟨I,h1,h2⟩:=h
   unfold W
   cases draw with
   | false=>exact B4t _ _ _ _ _ _ (fun A1 st1 h=>A9K h2 h) (A5I _ _ _ _ (by rw [←A9w];exact h1))
   | true =>
    obtain ⟨k',k1,k2⟩:=hD _ _ _ _ h1
    exact ⟨k',fun A1 st1 h=>A9K h2 (k1 A1 st1 h),k2⟩
 | seq x y ihx ihy =>
  intro A st K h
  unfold W
  refine A5r _ _ _ _ _ (fun e A st h=>?_) (ihx _ _ _ h)
  cases e<;>first | exact h | exact ihy _ _ _ h
 | cond c x y ihx ihy =>
  intro A st K h
  have h:evK A c fun v=>match v with
   | .bool b=>A1D b (ZC P T M frz D cuts x A st K) (ZC P T M frz D cuts y A st K)
   | .ubool=>ZC P T M frz D cuts x A st K∧ZC P T M frz D cuts y A st K
   | _=>False:=h
  unfold W
  rw [A1k] at h
  split at h
  ·rename_i b hb
   rw [hb]
   obtain ⟨h1,h2⟩:=(O1 _ _ _).1 h
   exact ⟨fun e=>ihx _ _ _ (h1 e),fun e=>ihy _ _ _ (h2 e)⟩
  ·rename_i hb
   rw [hb]
   exact ⟨ihx _ _ _ h.1,ihy _ _ _ h.2⟩
  ·exact h.elim
 | block id c ih =>
  intro A st K h
  unfold W
  refine A5r _ _ _ _ _ (fun e A st h=>?_) (ih _ _ _ h)
  cases e<;>simp only at h ⊢<;>try exact h
  split at h
  ·rename_i e;rw [if_pos (Nat.eq_of_beq_eq_true e)];exact h
  ·rename_i e;rw [if_neg (Nat.ne_of_beq_eq_false e)];exact h
 | loop c ih =>
  intro A st K h
  unfold W
  obtain ⟨keep,I,h0,hI⟩:=h
  rw [V4] at h0
  refine ⟨keep,I,h0,fun m vs st' hi=>?_⟩
  have h1:=hI m vs st' hi
  rw [A6E,A6H] at h1
  refine A5r _ _ _ _ _ (fun e A st h=>?_) (ih _ _ _ h1)
  cases e<;>first | exact h | (rw [V4] at h;exact h)
 | exit id=>intro A st K h;exact h
 | ret=>intro A st K h;exact h
 | rangeFunc _ _ _ _=>intro A st K h;exact h
 | scope _=>intro A st K h;exact h
 | label _=>intro A st K h;exact h
 | goto _=>intro A st K h;exact h
 | refuse _=>intro A st K h;exact h
theorem B4p {P:Program} {T:C4} {M:D2} (frz:List Nat) (D:List Oper→List AV→St→KA→Prop) (cuts:List (Nat×List Nat)) (hD:∀ ops A st k,D ops A st k→Dp P T M ops A st (A1I k)) (hG:A3b P T M) (hm:P.follows .mixedOrders=true) {f:FuncId} {fn:Func} {c:Code} {args:List AV} {st:St} {post:KK} {n:Nat} {rs:Array ResultVar}
  (hf : P.funcs[f]? = some fn) (hname : (fn.name == "runtime.NumGoroutine") = false) (hb : fn.body = some c) (hn : fn.ntmps = n) (hr : fn.results = rs)
  (h:A0z args n fun A=>ZC P T M frz D cuts c A st (B4c T rs.toList post)):S P f args st post:=by
 subst hn;subst hr
 rw [A8f] at h
 refine B8M hG (C0h hG hm) hf hname hb (A5r _ _ _ _ _ (fun e A st h=>?_) (C4f hD _ _ _ _ h))
 cases e<;>first | exact h | (exact A7c _ _ h)
theorem B8L {P:Program} {T:C4} {M:D2} (frz:List Nat) (cuts:List (Nat×List Nat)) (hG:A3b P T M) (hm:P.follows .mixedOrders=true) {f:FuncId} {fn:Func} {c:Code} {args:List AV} {st:St} {post:KK} {n:Nat} {rs:Array ResultVar}
  (hf : P.funcs[f]? = some fn) (hname : (fn.name == "runtime.NumGoroutine") = false) (hb : fn.body = some c) (hn : fn.ntmps = n) (hr : fn.results = rs)
  (h:A0z args n fun A=>ZC P T M frz (yDp P T M frz) cuts c A st (B4c T rs.toList post)):S P f args st post :=
 B4p frz _ cuts (fun _ _ _ _ h=>B9Y h) hG hm hf hname hb hn hr h
theorem B4r {P:Program} {T:C4} {M:D2} (frz:List Nat) (hG:A3b P T M) (hm:P.follows .mixedOrders=true) {f:FuncId} {fn:Func} {c:Code} {args:List AV} {st:St} {post:KK} {n:Nat} {rs:Array ResultVar}
  (hf : P.funcs[f]? = some fn) (hname : (fn.name == "runtime.NumGoroutine") = false) (hb : fn.body = some c) (hn : fn.ntmps = n) (hr : fn.results = rs)
  (h:A0z args n fun A=>ZC P T M frz (yDp P T M frz) [] c A st (B4c T rs.toList post)):S P f args st post:=B8L frz [] hG hm hf hname hb hn hr h
theorem B4q {P:Program} {T:C4} {M:D2} (frz:List Nat) (hG:A3b P T M) (hm:P.follows .mixedOrders=true) {f:FuncId} {fn:Func} {c:Code} {args:List AV} {st:St} {post:KK} {n:Nat} {rs:Array ResultVar}
  (hf : P.funcs[f]? = some fn) (hname : (fn.name == "runtime.NumGoroutine") = false) (hb : fn.body = some c) (hn : fn.ntmps = n) (hr : fn.results = rs)
  (h:A0z args n fun A=>ZC P T M frz (yDr P T M frz) [] c A st (B4c T rs.toList post)):S P f args st post :=
 B4p frz _ [] (fun _ _ _ _ h=>⟨_,fun _ _ h=>h,.inl (by rw [B6u] at h;exact B6q h)⟩) hG hm hf hname hb hn hr h
end Go.Ab
