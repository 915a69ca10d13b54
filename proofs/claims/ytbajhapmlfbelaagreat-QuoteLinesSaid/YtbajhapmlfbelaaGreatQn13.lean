/- Part 13 of the proof: contracts of the functions that the law reaches -/
import Derived.Test.YtbajhapmlfbelaaGreatQn12
set_option linter.unusedVariables false
set_option linter.unusedSimpArgs false
namespace Go.Ab
open Go
def B0C:List (Nat×List Nat)→Nat→Option (List Nat)
 | [],_=>none
 | (a,k)::l,i=>match Nat.beq a i with
  | true=>some k
  | false=>B0C l i
noncomputable def ZC (P:Program) (T:C9) (M:E5) (frz:List Nat) (D:List Oper→List AV→St→KA→Prop) (cuts:List (Nat×List Nat)) (c:Code):List AV→St→(Exit→KA)→Prop :=
 Code.rec (motive:=fun _=>List AV→St→(Exit→KA)→Prop)
  (fun A st K=>K .normal A st)
  (fun id ops draw A st K=>match B0C cuts id with
   | none=>match draw with
    | false=>B4B P T M frz ops.toList ops.toList A st (K .normal)
    | true=>D ops.toList A st (K .normal)
   | some keep=>∃ I:List AV→St→Prop,(match draw with
     | false=>B4B P T M frz ops.toList ops.toList A st fun A' st'=>A'.length=A.length∧X6 A' keep fun us=>I us st'
     | true=>D ops.toList A st fun A' st'=>A'.length=A.length∧X6 A' keep fun us=>I us st') ∧
    ∀ vs st',I vs st'→A5B A.length fun B=>A3b keep vs B fun A'=>K .normal A' st')
  (fun _ _ x y A st K=>x A st fun e A' st'=>match e with
   | .normal=>y A' st' K
   | e=>K e A' st')
  (fun c _ _ x y A st K=>evK A c fun v=>match v with
   | .bool b=>A0N b (x A st K) (y A st K)
   | .ubool=>x A st K∧y A st K
   | _=>False)
  (fun id _ c A st K=>c A st fun e A' st'=>match e with
   | .exit j=>(match Nat.beq j id with | true=>K .normal A' st' | false=>K (.exit j) A' st')
   | e=>K e A' st')
  (fun _ c A st K=>∃ (keep:List Nat) (I:Nat→KA),(X6 A keep fun us=>∃ m,I m us st)∧∀ m vs st',I m vs st'→A5B A.length fun B=>A3b keep vs B fun A'=>c A' st' fun e A'' st''=>match e with
   | .normal=>A''.length=A.length∧X6 A'' keep fun us=>∃ m',m'<m∧I m' us st''
   | e=>K e A'' st'')
  (fun _ _ _ _ _ _ A st K=>False)
  (fun id A st K=>K (.exit id) A st)
  (fun _ _ A st K=>False)
  (fun _ A st K=>False)
  (fun _ A st K=>False)
  (fun A st K=>K .ret A st)
  (fun _ A st K=>False) c
theorem B2R {P:Program} {T:C9} {M:E5} (ops l:List Oper) (A:List AV) (st:St) (k k':KA) (hk:∀ A st,k A st→k' A st) (h:A3n P T M ops l A st k):A3n P T M ops l A st k':=by
 induction l generalizing A st with
 | nil=>exact hk _ _ h
 | cons o l ih =>
  unfold A3n at h ⊢
  split at h
  ·exact h.elim
  ·exact ⟨fun e=>I5 (fun v st h=>ih _ _ h) (h.1 e),fun e=>ih _ _ (h.2 e)⟩
theorem A4u {P:Program} {T:C9} {M:E5}:∀ (c:Code) (A:List AV) (st:St) (K K':Exit→KA),(∀ e A st,K e A st→K' e A st)→W P T M (Dp P T M) c A st K→W P T M (Dp P T M) c A st K':=by
 intro c
 induction c with
 | skip=>intro A st K K' hK h;exact hK _ _ _ h
 | region id ops draw =>
  intro A st K K' hK h
  unfold W at h ⊢
  cases draw with
  | false=>exact B2R _ _ _ _ _ _ (fun A st ⟨A',st',h1,h2⟩=>⟨A',st',h1,hK _ _ _ h2⟩) h
  | true =>
   obtain ⟨k',h1,h2⟩:=h
   exact ⟨k',fun A st h=>by obtain ⟨A',st',h3,h4⟩:=h1 A st h;exact ⟨A',st',h3,hK _ _ _ h4⟩,h2⟩
 | seq x y ihx ihy =>
  intro A st K K' hK h
  unfold W at h ⊢
  refine ihx _ _ _ _ (fun e A st h=>?_) h
  cases e<;>first | exact hK _ _ _ h | exact ihy _ _ _ _ hK h
 | cond c x y ihx ihy =>
  intro A st K K' hK h
  unfold W at h ⊢
  split at h
  ·exact ⟨fun e=>ihx _ _ _ _ hK (h.1 e),fun e=>ihy _ _ _ _ hK (h.2 e)⟩
  ·exact ⟨ihx _ _ _ _ hK h.1,ihy _ _ _ _ hK h.2⟩
  ·exact h
 | block id c ih =>
  intro A st K K' hK h
  unfold W at h ⊢
  refine ih _ _ _ _ (fun e A st h=>?_) h
  cases e<;>simp only at h ⊢<;>try exact hK _ _ _ h
  split at h
  ·rename_i e;rw [if_pos e];exact hK _ _ _ h
  ·rename_i e;rw [if_neg e];exact hK _ _ _ h
 | loop c ih =>
  intro A st K K' hK h
  unfold W at h ⊢
  obtain ⟨keep,I,h0,hI⟩:=h
  refine ⟨keep,I,h0,fun m vs st' hi=>ih _ _ _ _ (fun e A st h=>?_) (hI m vs st' hi)⟩
  cases e<;>first | exact hK _ _ _ h | exact h
 | exit id=>intro A st K K' hK h;exact hK _ _ _ h
 | ret=>intro A st K K' hK h;exact hK _ _ _ h
 | rangeFunc _ _ _ _=>intro A st K K' hK h;exact h
 | scope _=>intro A st K K' hK h;exact h
 | label _=>intro A st K K' hK h;exact h
 | goto _=>intro A st K K' hK h;exact h
 | refuse _=>intro A st K K' hK h;exact h
theorem A8r {A:List AV} {keep:List Nat} {I:List AV→St→Prop} {K:KA} (hI:∀ vs st',I vs st'→A5B A.length fun B=>A3b keep vs B fun A'=>K A' st') {A1:List AV} {st1:St}
  (h:A2f (fun A' st'=>A'.length=A.length∧X6 A' keep fun us=>I us st') A1 st1):A2f K A1 st1:=by
 obtain ⟨A',st',hs,hl,hi⟩:=h
 rw [S7] at hi
 have h1:=hI _ _ hi
 rw [A5C,A5F] at h1
 refine ⟨_,st',fun w a hA hS=>?_,h1⟩
 obtain ⟨s1,s2,s3⟩:=hs w a hA hS
 have:=A5N s1 keep
 rw [hl] at this
 exact ⟨this,s2,s3⟩
theorem C1I {P:Program} {T:C9} {M:E5} {frz:List Nat} {D:List Oper→List AV→St→KA→Prop} {cuts:List (Nat×List Nat)} (hD:∀ ops A st k,D ops A st k→Dp P T M ops A st (A2f k)):∀ (c:Code) (A:List AV) (st:St) (K:Exit→KA),ZC P T M frz D cuts c A st K→W P T M (Dp P T M) c A st K:=by
 intro c
 induction c with
 | skip=>intro A st K h;exact h
 | region id ops draw =>
  intro A st K h
  have h:(match (generalizing:=false) B0C cuts id with
   | none=>match (generalizing:=false) draw with
    | false=>B4B P T M frz ops.toList ops.toList A st (K .normal)
    | true=>D ops.toList A st (K .normal)
   | some keep=>∃ I:List AV→St→Prop,(match (generalizing:=false) draw with
     | false=>B4B P T M frz ops.toList ops.toList A st fun A' st'=>A'.length=A.length∧X6 A' keep fun us=>I us st'
     | true=>D ops.toList A st fun A' st'=>A'.length=A.length∧X6 A' keep fun us=>I us st') ∧
    ∀ vs st',I vs st'→A5B A.length fun B=>A3b keep vs B fun A'=>K .normal A' st'):=h
  cases hc:B0C cuts id with
  | none =>
   rw [hc] at h
   unfold W
   cases draw with
   | false=>exact A4K _ _ _ _ (by rw [←A8f];exact h)
   | true=>exact hD _ _ _ _ h
  | some keep =>
   rw [hc] at h
   obtain ⟨I,h1,h2⟩:=h
   unfold W
   cases draw with
   | false=>exact B2R _ _ _ _ _ _ (fun A1 st1 h=>A8r h2 h) (A4K _ _ _ _ (by rw [←A8f];exact h1))
   | true =>
    obtain ⟨k',k1,k2⟩:=hD _ _ _ _ h1
    exact ⟨k',fun A1 st1 h=>A8r h2 (k1 A1 st1 h),k2⟩
 | seq x y ihx ihy =>
  intro A st K h
  unfold W
  refine A4u _ _ _ _ _ (fun e A st h=>?_) (ihx _ _ _ h)
  cases e<;>first | exact h | exact ihy _ _ _ h
 | cond c x y ihx ihy =>
  intro A st K h
  have h:evK A c fun v=>match v with
   | .bool b=>A0N b (ZC P T M frz D cuts x A st K) (ZC P T M frz D cuts y A st K)
   | .ubool=>ZC P T M frz D cuts x A st K∧ZC P T M frz D cuts y A st K
   | _=>False:=h
  unfold W
  rw [A0t] at h
  split at h
  ·rename_i b hb
   rw [hb]
   obtain ⟨h1,h2⟩:=(N3 _ _ _).1 h
   exact ⟨fun e=>ihx _ _ _ (h1 e),fun e=>ihy _ _ _ (h2 e)⟩
  ·rename_i hb
   rw [hb]
   exact ⟨ihx _ _ _ h.1,ihy _ _ _ h.2⟩
  ·exact h.elim
 | block id c ih =>
  intro A st K h
  unfold W
  refine A4u _ _ _ _ _ (fun e A st h=>?_) (ih _ _ _ h)
  cases e<;>simp only at h ⊢<;>try exact h
  split at h
  ·rename_i e;rw [if_pos (Nat.eq_of_beq_eq_true e)];exact h
  ·rename_i e;rw [if_neg (Nat.ne_of_beq_eq_false e)];exact h
 | loop c ih =>
  intro A st K h
  unfold W
  obtain ⟨keep,I,h0,hI⟩:=h
  rw [S7] at h0
  refine ⟨keep,I,h0,fun m vs st' hi=>?_⟩
  have h1:=hI m vs st' hi
  rw [A5C,A5F] at h1
  refine A4u _ _ _ _ _ (fun e A st h=>?_) (ih _ _ _ h1)
  cases e<;>first | exact h | (rw [S7] at h;exact h)
 | exit id=>intro A st K h;exact h
 | ret=>intro A st K h;exact h
 | rangeFunc _ _ _ _=>intro A st K h;exact h
 | scope _=>intro A st K h;exact h
 | label _=>intro A st K h;exact h
 | goto _=>intro A st K h;exact h
 | refuse _=>intro A st K h;exact h
theorem B6E {P:Program} {T:C9} {M:E5} (frz:List Nat) (D:List Oper→List AV→St→KA→Prop) (cuts:List (Nat×List Nat)) (hD:∀ ops A st k,D ops A st k→Dp P T M ops A st (A2f k)) (hG:A3l P T M) (hm:P.follows .mixedOrders=true) {f:FuncId} {fn:Func} {c:Code} {args:List AV} {st:St} {post:KK} {n:Nat} {rs:Array ResultVar}
  (hf : P.funcs[f]? = some fn) (hname : (fn.name == "runtime.NumGoroutine") = false) (hb : fn.body = some c) (hn : fn.ntmps = n) (hr : fn.results = rs)
  (h:A1o args n fun A=>ZC P T M frz D cuts c A st (B6d T rs.toList post)):S P f args st post:=by
 subst hn;subst hr
 rw [A6W] at h
 refine B6F hG (B7W hG hm) hf hname hb (A4u _ _ _ _ _ (fun e A st h=>?_) (C1I hD _ _ _ _ h))
 cases e<;>first | exact h | (exact A5Y _ _ h)
theorem B2P {P:Program} {T:C9} {M:E5} (frz:List Nat) (hG:A3l P T M) (hm:P.follows .mixedOrders=true) {f:FuncId} {fn:Func} {c:Code} {args:List AV} {st:St} {post:KK} {n:Nat} {rs:Array ResultVar}
  (hf : P.funcs[f]? = some fn) (hname : (fn.name == "runtime.NumGoroutine") = false) (hb : fn.body = some c) (hn : fn.ntmps = n) (hr : fn.results = rs)
  (h:A1o args n fun A=>ZC P T M frz (yDr P T M frz) [] c A st (B6d T rs.toList post)):S P f args st post :=
 B6E frz _ [] (fun _ _ _ _ h=>⟨_,fun _ _ h=>h,.inl (by rw [B7O] at h;exact B7L h)⟩) hG hm hf hname hb hn hr h
end Go.Ab
