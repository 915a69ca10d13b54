/- Part 13 of the proof: contracts -/
import Derived.Test.YtaapofnkmpiknaaGreatPt12
set_option linter.unusedVariables false
set_option linter.unusedSimpArgs false
namespace Go.Ab
open Go
def B7Z (P:Program) (T:H5) (M:J5) (frz:List Nat) (ops:List Oper) (i:Nat) (keep:List Nat) (pd:A6b) (K:KA) (A:List AV) (st:St):Prop :=
 match ops[i]? with
 | none=>False
 | some o=>A6Q ops o A (xOp P T M (inF frz o.dst) o.op A st fun v st'=>A8F keep st st' (A2i A o.dst v fun A'=>K A' st') pd) (A2i A o.dst (.tuple []) fun A'=>K A' st)
def A5R (P:Program) (T:H5) (M:J5) (frz:List Nat) (ops:List Oper):PT→A6b→List AV→St→KA→Prop
 | .done,_,A,st,k=>k A st
 | .qui i t,pd,A,st,k=>match ops[i]? with
  | none=>False
  | some o=>A6Q ops o A
   (match A1A o.op with
    | true=>xOp P T M (inF frz o.dst) o.op A st fun v _=>A2i A o.dst v fun A'=>A5R P T M frz ops t pd A' st k
    | false=>∃ (v:AV) (C:St→Prop),C st∧(∀ s,C s→xOp P T M (inF frz o.dst) o.op A s fun v' s'=>v'=v∧s'=s)∧A2i A o.dst v fun A'=>A5R P T M frz ops t ((i,C)::pd) A' st k)
   (A2i A o.dst (.tuple []) fun A'=>A5R P T M frz ops t pd A' st k)
 | .eff i keep t,pd,A,st,k=>B7Z P T M frz ops i keep pd (fun A' st'=>A5R P T M frz ops t pd A' st' k) A st
 | .two i j ki kj t u,pd,A,st,k=>B7Z P T M frz ops i ki pd (fun A' st'=>A5R P T M frz ops t pd A' st' k) A st∧B7Z P T M frz ops j kj pd (fun A' st'=>A5R P T M frz ops u pd A' st' k) A st
theorem A7R {keep:List Nat} {st st':St} {k k':Prop} (hk:k→k'):∀ {pd:A6b},A8F keep st st' k pd→A8F keep st st' k' pd
 | [],h=>hk h
 | (i,C)::l,h=>by
  unfold A8F at h ⊢
  split at h
  ·exact ⟨h.1,A7R hk h.2⟩
  ·exact A7R hk h
theorem B5Z {P:Program} {T:H5} {M:J5} {frz:List Nat} {ops:List Oper} {i:Nat} {keep:List Nat} {pd:A6b} {K K':KA} {A:List AV} {st:St} (hK:∀ A st,K A st→K' A st) (h:B7Z P T M frz ops i keep pd K A st):B8v P T M ops i keep pd K' A st:=by
 unfold B7Z at h
 unfold B8v
 cases ho:ops[i]? with
 | none=>rw [ho] at h;exact h.elim
 | some o =>
  rw [ho] at h
  simp only at h ⊢
  obtain ⟨b,hb,h1,h2⟩:=A4T h
  rw [hb]
  refine ⟨fun e=>?_,fun e=>?_⟩
  ·exact S8 (fun v st' hk=>A7R (fun hk=>by rw [V6] at hk;exact hK _ _ hk) hk) (A3S (h1 e))
  ·have:=h2 e
   rw [V6] at this;exact hK _ _ this
theorem C4W {op:Op} (h:A1A op=true):B1Q op=true:=by unfold B1Q;rw [h];rfl
theorem A3T {P:Program} {T:H5} {M:J5} {frz:List Nat} {ops:List Oper}:∀ (t:PT) (pd:A6b) (A:List AV) (st:St) (k:KA),A5R P T M frz ops t pd A st k→A6h P T M ops t pd A st (A5T k)
 | .done,pd,A,st,k,h=>⟨A,st,A6d.refl A st,h⟩
 | .eff i keep t,pd,A,st,k,h=>B5Z (fun A st h=>A3T t pd A st k h) h
 | .two i j ki kj t u,pd,A,st,k,h=>⟨B5Z (fun A st h=>A3T t pd A st k h) h.1,B5Z (fun A st h=>A3T u pd A st k h) h.2⟩
 | .qui i t,pd,A,st,k,h=>by
  unfold A5R at h
  unfold A6h
  cases ho:ops[i]? with
  | none=>rw [ho] at h;exact h.elim
  | some o =>
   rw [ho] at h
   simp only at h ⊢
   obtain ⟨b,hb,h1,h2⟩:=A4T h
   rw [hb]
   simp only
   refine ⟨fun e=>?_,fun e=>?_⟩
   ·have h1:=h1 e
    split at h1
    ·rename_i hp
     rw [hp]
     obtain ⟨v,hv,hk⟩:=B4V (C4W hp) (A3S h1)
     rw [V6] at hk
     exact ⟨v,hv,A3T t pd _ _ _ hk⟩
    ·rename_i hp
     rw [hp]
     obtain ⟨v,C,hC,hv,hk⟩:=h1
     rw [V6] at hk
     exact ⟨v,C,hC,fun s hs=>A3S (hv s hs),A3T t _ _ _ _ hk⟩
   ·have:=h2 e
    rw [V6] at this;exact A3T t pd _ _ _ this
noncomputable def C8H (P:Program) (T:H5) (M:J5) (frz:List Nat) (ops:List Oper) (t:PT):A6b→List AV→St→KA→Prop :=
 PT.rec (motive:=fun _=>A6b→List AV→St→KA→Prop) (fun _ A st k=>k A st)
  (fun i _ ih pd A st k=>match ops[i]? with
   | none=>False
   | some o=>A6Q ops o A
    (match A1A o.op with
     | true=>xOp P T M (inF frz o.dst) o.op A st fun v _=>A2i A o.dst v fun A'=>ih pd A' st k
     | false=>∃ (v:AV) (C:St→Prop),C st∧(∀ s,C s→xOp P T M (inF frz o.dst) o.op A s fun v' s'=>v'=v∧s'=s)∧A2i A o.dst v fun A'=>ih ((i,C)::pd) A' st k)
    (A2i A o.dst (.tuple []) fun A'=>ih pd A' st k))
  (fun i keep _ ih pd A st k=>B7Z P T M frz ops i keep pd (fun A' st'=>ih pd A' st' k) A st)
  (fun i j ki kj _ _ iht ihu pd A st k=>B7Z P T M frz ops i ki pd (fun A' st'=>iht pd A' st' k) A st∧B7Z P T M frz ops j kj pd (fun A' st'=>ihu pd A' st' k) A st) t
theorem A6R {P:Program} {T:H5} {M:J5} {frz:List Nat} {ops:List Oper}:∀ t,C8H P T M frz ops t=A5R P T M frz ops t
 | .done=>by funext pd A st k;rfl
 | .qui i t=>by
  funext pd A st k
  conv=>rhs;unfold A5R
  rw [←A6R t];rfl
 | .eff i keep t=>by
  funext pd A st k
  conv=>rhs;unfold A5R
  rw [←A6R t];rfl
 | .two i j ki kj t u=>by
  funext pd A st k
  conv=>rhs;unfold A5R
  rw [←A6R t,←A6R u];rfl
noncomputable def yDp (P:Program) (T:H5) (M:J5) (frz:List Nat) (ops:List Oper) (A:List AV) (st:St) (k:KA):Prop :=
 yDr P T M frz ops A st k∨∃ (eff:List Nat) (t:PT),(Region.noSelect ops.toArray&&okP ops.toArray eff t [] ops.length (Array.replicate ops.length false))=true∧C8H P T M frz ops t [] A st k
theorem D0A {P:Program} {T:H5} {M:J5} {frz:List Nat} {ops:List Oper} {A:List AV} {st:St} {k:KA} (h:yDp P T M frz ops A st k):Dp P T M ops A st (A5T k):=by
 refine ⟨A5T k,fun _ _ h=>h,?_⟩
 rcases h with h | ⟨eff,t,h1,h2⟩
 ·rw [C6d] at h;exact .inl (C6a h)
 ·rw [A6R] at h2;exact .inr ⟨eff,t,h1,A3T t _ _ _ _ h2⟩
def C0j:List (Nat×List Nat)→Nat→Option (List Nat)
 | [],_=>none
 | (a,k)::l,i=>match Nat.beq a i with
  | true=>some k
  | false=>C0j l i
noncomputable def ZC (P:Program) (T:H5) (M:J5) (frz:List Nat) (D:List Oper→List AV→St→KA→Prop) (cuts:List (Nat×List Nat)) (c:Code):List AV→St→(Exit→KA)→Prop :=
 Code.rec (motive:=fun _=>List AV→St→(Exit→KA)→Prop)
  (fun A st K=>K .normal A st)
  (fun id ops draw A st K=>match C0j cuts id with
   | none=>match draw with
    | false=>C6e P T M frz ops.toList ops.toList A st (K .normal)
    | true=>D ops.toList A st (K .normal)
   | some keep=>∃ I:List AV→St→Prop,(match draw with
     | false=>C6e P T M frz ops.toList ops.toList A st fun A' st'=>A'.length=A.length∧A3X A' keep fun us=>I us st'
     | true=>D ops.toList A st fun A' st'=>A'.length=A.length∧A3X A' keep fun us=>I us st') ∧
    ∀ vs st',I vs st'→B2H A.length fun B=>A9f keep vs B fun A'=>K .normal A' st')
  (fun _ _ x y A st K=>x A st fun e A' st'=>match e with
   | .normal=>y A' st' K
   | e=>K e A' st')
  (fun c _ _ x y A st K=>evK A c fun v=>match v with
   | .bool b=>A5L b (x A st K) (y A st K)
   | .ubool=>x A st K∧y A st K
   | _=>False)
  (fun id _ c A st K=>c A st fun e A' st'=>match e with
   | .exit j=>(match Nat.beq j id with | true=>K .normal A' st' | false=>K (.exit j) A' st')
   | e=>K e A' st')
  (fun _ c A st K=>∃ (keep:List Nat) (I:Nat→KA),(A3X A keep fun us=>∃ m,I m us st)∧∀ m vs st',I m vs st'→B2H A.length fun B=>A9f keep vs B fun A'=>c A' st' fun e A'' st''=>match e with
   | .normal=>A''.length=A.length∧A3X A'' keep fun us=>∃ m',m'<m∧I m' us st''
   | e=>K e A'' st'')
  (fun _ _ _ _ _ _ A st K=>False)
  (fun id A st K=>K (.exit id) A st)
  (fun _ _ A st K=>False)
  (fun _ A st K=>False)
  (fun _ A st K=>False)
  (fun A st K=>K .ret A st)
  (fun _ A st K=>False) c
theorem C3y {P:Program} {T:H5} {M:J5} (ops l:List Oper) (A:List AV) (st:St) (k k':KA) (hk:∀ A st,k A st→k' A st) (h:A9p P T M ops l A st k):A9p P T M ops l A st k':=by
 induction l generalizing A st with
 | nil=>exact hk _ _ h
 | cons o l ih =>
  unfold A9p at h ⊢
  split at h
  ·exact h.elim
  ·exact ⟨fun e=>S8 (fun v st h=>ih _ _ h) (h.1 e),fun e=>ih _ _ (h.2 e)⟩
theorem B0U {P:Program} {T:H5} {M:J5}:∀ (c:Code) (A:List AV) (st:St) (K K':Exit→KA),(∀ e A st,K e A st→K' e A st)→W P T M (Dp P T M) c A st K→W P T M (Dp P T M) c A st K':=by
 intro c
 induction c with
 | skip=>intro A st K K' hK h;exact hK _ _ _ h
 | region id ops draw =>
  intro A st K K' hK h
  unfold W at h ⊢
  cases draw with
  | false=>exact C3y _ _ _ _ _ _ (fun A st ⟨A',st',h1,h2⟩=>⟨A',st',h1,hK _ _ _ h2⟩) h
  | true =>
   obtain ⟨k',h1,h2⟩:=h
   exact ⟨k',fun A st h=>by obtain ⟨A',st',h3,h4⟩:=h1 A st h;exact ⟨A',st',h3,hK _ _ _ h4⟩,h2⟩
 | seq x y ihx ihy =>
  intro A st K K' hK h
  unfold W at h ⊢
  refine ihx _ _ _ _ (fun e A st h=>?_) h
  cases e<;>first | exact hK _ _ _ h | exact ihy _ _ _ _ hK h
 | cond c x y ihx ihy =>
  intro A st K K' hK h
  unfold W at h ⊢
  split at h
  ·exact ⟨fun e=>ihx _ _ _ _ hK (h.1 e),fun e=>ihy _ _ _ _ hK (h.2 e)⟩
  ·exact ⟨ihx _ _ _ _ hK h.1,ihy _ _ _ _ hK h.2⟩
  ·exact h
 | block id c ih =>
  intro A st K K' hK h
  unfold W at h ⊢
  refine ih _ _ _ _ (fun e A st h=>?_) h
  cases e<;>simp only at h ⊢<;>try exact hK _ _ _ h
  split at h
  ·rename_i e;rw [if_pos e];exact hK _ _ _ h
  ·rename_i e;rw [if_neg e];exact hK _ _ _ h
 | loop c ih =>
  intro A st K K' hK h
  unfold W at h ⊢
  obtain ⟨keep,I,h0,hI⟩:=h
  refine ⟨keep,I,h0,fun m vs st' hi=>ih _ _ _ _ (fun e A st h=>?_) (hI m vs st' hi)⟩
  cases e<;>first | exact hK _ _ _ h | exact h
 | exit id=>intro A st K K' hK h;exact hK _ _ _ h
 | ret=>intro A st K K' hK h;exact hK _ _ _ h
 | rangeFunc _ _ _ _=>intro A st K K' hK h;exact h
 | scope _=>intro A st K K' hK h;exact h
 | label _=>intro A st K K' hK h;exact h
 | goto _=>intro A st K K' hK h;exact h
 | refuse _=>intro A st K K' hK h;exact h
theorem B6w {A:List AV} {keep:List Nat} {I:List AV→St→Prop} {K:KA} (hI:∀ vs st',I vs st'→B2H A.length fun B=>A9f keep vs B fun A'=>K A' st') {A1:List AV} {st1:St}
  (h:A5T (fun A' st'=>A'.length=A.length∧A3X A' keep fun us=>I us st') A1 st1):A5T K A1 st1:=by
 obtain ⟨A',st',hs,hl,hi⟩:=h
 rw [A2K] at hi
 have h1:=hI _ _ hi
 rw [B2I,B2O] at h1
 refine ⟨_,st',fun w a hA hS=>?_,h1⟩
 obtain ⟨s1,s2,s3⟩:=hs w a hA hS
 have:=B2V s1 keep
 rw [hl] at this
 exact ⟨this,s2,s3⟩
theorem D4v {P:Program} {T:H5} {M:J5} {frz:List Nat} {D:List Oper→List AV→St→KA→Prop} {cuts:List (Nat×List Nat)} (hD:∀ ops A st k,D ops A st k→Dp P T M ops A st (A5T k)):∀ (c:Code) (A:List AV) (st:St) (K:Exit→KA),ZC P T M frz D cuts c A st K→W P T M (Dp P T M) c A st K:=by
 intro c
 induction c with
 | skip=>intro A st K h;exact h
 | region id ops draw =>
  intro A st K h
  have h:(match (generalizing:=false) C0j cuts id with
   | none=>match (generalizing:=false) draw with
    | false=>C6e P T M frz ops.toList ops.toList A st (K .normal)
    | true=>D ops.toList A st (K .normal)
   | some keep=>∃ I:List AV→St→Prop,(match (generalizing:=false) draw with
     | false=>C6e P T M frz ops.toList ops.toList A st fun A' st'=>A'.length=A.length∧A3X A' keep fun us=>I us st'
     | true=>D ops.toList A st fun A' st'=>A'.length=A.length∧A3X A' keep fun us=>I us st') ∧
    ∀ vs st',I vs st'→B2H A.length fun B=>A9f keep vs B fun A'=>K .normal A' st'):=h
  cases hc:C0j cuts id with
  | none =>
   rw [hc] at h
   unfold W
   cases draw with
   | false=>exact B1m _ _ _ _ (by rw [←B6c];exact h)
   | true=>exact hD _ _ _ _ h
  | some keep =>
   rw [hc] at h
   obtain ⟨I,h1,h2⟩:=h
   unfold W
   cases draw with
   | false=>exact C3y _ _ _ _ _ _ (fun A1 st1 h=>B6w h2 h) (B1m _ _ _ _ (by rw [←B6c];exact h1))
   | true =>
    obtain ⟨k',k1,k2⟩:=hD _ _ _ _ h1
    exact ⟨k',fun A1 st1 h=>B6w h2 (k1 A1 st1 h),k2⟩
 | seq x y ihx ihy =>
  intro A st K h
  unfold W
  refine B0U _ _ _ _ _ (fun e A st h=>?_) (ihx _ _ _ h)
  cases e<;>first | exact h | exact ihy _ _ _ h
 | cond c x y ihx ihy =>
  intro A st K h
  have h:evK A c fun v=>match v with
   | .bool b=>A5L b (ZC P T M frz D cuts x A st K) (ZC P T M frz D cuts y A st K)
   | .ubool=>ZC P T M frz D cuts x A st K∧ZC P T M frz D cuts y A st K
   | _=>False:=h
  unfold W
  rw [A5o] at h
  split at h
  ·rename_i b hb
   rw [hb]
   obtain ⟨h1,h2⟩:=(A0O _ _ _).1 h
   exact ⟨fun e=>ihx _ _ _ (h1 e),fun e=>ihy _ _ _ (h2 e)⟩
  ·rename_i hb
   rw [hb]
   exact ⟨ihx _ _ _ h.1,ihy _ _ _ h.2⟩
  ·exact h.elim
 | block id c ih =>
  intro A st K h
  unfold W
  refine B0U _ _ _ _ _ (fun e A st h=>?_) (ih _ _ _ h)
  cases e<;>simp only at h ⊢<;>try exact h
  split at h
  ·rename_i e;rw [if_pos (D9a e)];exact h
  ·rename_i e;rw [if_neg (Nat.ne_of_beq_eq_false e)];exact h
 | loop c ih =>
  intro A st K h
  unfold W
  obtain ⟨keep,I,h0,hI⟩:=h
  rw [A2K] at h0
  refine ⟨keep,I,h0,fun m vs st' hi=>?_⟩
  have h1:=hI m vs st' hi
  rw [B2I,B2O] at h1
  refine B0U _ _ _ _ _ (fun e A st h=>?_) (ih _ _ _ h1)
  cases e<;>first | exact h | (rw [A2K] at h;exact h)
 | exit id=>intro A st K h;exact h
 | ret=>intro A st K h;exact h
 | rangeFunc _ _ _ _=>intro A st K h;exact h
 | scope _=>intro A st K h;exact h
 | label _=>intro A st K h;exact h
 | goto _=>intro A st K h;exact h
 | refuse _=>intro A st K h;exact h
theorem C3v {P:Program} {T:H5} {M:J5} (frz:List Nat) (D:List Oper→List AV→St→KA→Prop) (cuts:List (Nat×List Nat)) (hD:∀ ops A st k,D ops A st k→Dp P T M ops A st (A5T k)) (hG:A7H P T M) (hm:P.follows .mixedOrders=true) {f:FuncId} {fn:Func} {c:Code} {args:List AV} {st:St} {post:KK} {n:Nat} {rs:Array ResultVar}
  (hf : P.funcs[f]? = some fn) (hname : (fn.name == "runtime.NumGoroutine") = false) (hb : fn.body = some c) (hn : fn.ntmps = n) (hr : fn.results = rs)
  (h:A4p args n fun A=>ZC P T M frz D cuts c A st (C3e T rs.toList post)):S P f args st post:=by
 subst hn;subst hr
 rw [B4B] at h
 refine C8R hG (D0K hG hm) hf hname hb (B0U _ _ _ _ _ (fun e A st h=>?_) (D4v hD _ _ _ _ h))
 cases e<;>first | exact h | (exact B3l _ _ h)
theorem C3u {P:Program} {T:H5} {M:J5} (frz:List Nat) (cuts:List (Nat×List Nat)) (hG:A7H P T M) (hm:P.follows .mixedOrders=true) {f:FuncId} {fn:Func} {c:Code} {args:List AV} {st:St} {post:KK} {n:Nat} {rs:Array ResultVar}
  (hf : P.funcs[f]? = some fn) (hname : (fn.name == "runtime.NumGoroutine") = false) (hb : fn.body = some c) (hn : fn.ntmps = n) (hr : fn.results = rs)
  (h:A4p args n fun A=>ZC P T M frz (yDp P T M frz) cuts c A st (C3e T rs.toList post)):S P f args st post :=
 C3v frz _ cuts (fun _ _ _ _ h=>D0A h) hG hm hf hname hb hn hr h
theorem A0o {P:Program} {T:H5} {M:J5} (frz:List Nat) (hG:A7H P T M) (hm:P.follows .mixedOrders=true) {f:FuncId} {fn:Func} {c:Code} {args:List AV} {st:St} {post:KK} {n:Nat} {rs:Array ResultVar}
  (hf : P.funcs[f]? = some fn) (hname : (fn.name == "runtime.NumGoroutine") = false) (hb : fn.body = some c) (hn : fn.ntmps = n) (hr : fn.results = rs)
  (h:A4p args n fun A=>ZC P T M frz (yDp P T M frz) [] c A st (C3e T rs.toList post)):S P f args st post:=C3u frz [] hG hm hf hname hb hn hr h
theorem C3w {P:Program} {T:H5} {M:J5} (frz:List Nat) (hG:A7H P T M) (hm:P.follows .mixedOrders=true) {f:FuncId} {fn:Func} {c:Code} {args:List AV} {st:St} {post:KK} {n:Nat} {rs:Array ResultVar}
  (hf : P.funcs[f]? = some fn) (hname : (fn.name == "runtime.NumGoroutine") = false) (hb : fn.body = some c) (hn : fn.ntmps = n) (hr : fn.results = rs)
  (h:A4p args n fun A=>ZC P T M frz (yDr P T M frz) [] c A st (C3e T rs.toList post)):S P f args st post :=
 C3v frz _ [] (fun _ _ _ _ h=>⟨_,fun _ _ h=>h,.inl (by rw [C6d] at h;exact C6a h)⟩) hG hm hf hname hb hn hr h
end Go.Ab
