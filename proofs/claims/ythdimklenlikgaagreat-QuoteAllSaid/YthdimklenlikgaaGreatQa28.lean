/- Part 28 of the proof: contracts of the functions that the law reaches -/
import Derived.Test.YthdimklenlikgaaGreatQa27
set_option linter.unusedVariables false
set_option linter.unusedSimpArgs false
namespace Go.Ab
open Go
def B4O (P:Program) (T:H3) (M:H8) (frz:List Nat) (ops:List Oper) (i:Nat) (keep:List Nat) (pd:A4w) (K:KA) (A:List AV) (st:St):Prop :=
 match ops[i]? with
 | none=>False
 | some o=>A5m ops o A (xOp P T M (inF frz o.dst) o.op A st fun v st'=>A6U keep st st' (A0U A o.dst v fun A'=>K A' st') pd) (A0U A o.dst (.tuple []) fun A'=>K A' st)
def A4o (P:Program) (T:H3) (M:H8) (frz:List Nat) (ops:List Oper):PT→A4w→List AV→St→KA→Prop
 | .done,_,A,st,k=>k A st
 | .qui i t,pd,A,st,k=>match ops[i]? with
  | none=>False
  | some o=>A5m ops o A
   (match X1 o.op with
    | true=>xOp P T M (inF frz o.dst) o.op A st fun v _=>A0U A o.dst v fun A'=>A4o P T M frz ops t pd A' st k
    | false=>∃ (v:AV) (C:St→Prop),C st∧(∀ s,C s→xOp P T M (inF frz o.dst) o.op A s fun v' s'=>v'=v∧s'=s)∧A0U A o.dst v fun A'=>A4o P T M frz ops t ((i,C)::pd) A' st k)
   (A0U A o.dst (.tuple []) fun A'=>A4o P T M frz ops t pd A' st k)
 | .eff i keep t,pd,A,st,k=>B4O P T M frz ops i keep pd (fun A' st'=>A4o P T M frz ops t pd A' st' k) A st
 | .two i j ki kj t u,pd,A,st,k=>B4O P T M frz ops i ki pd (fun A' st'=>A4o P T M frz ops t pd A' st' k) A st∧B4O P T M frz ops j kj pd (fun A' st'=>A4o P T M frz ops u pd A' st' k) A st
theorem A6j {keep:List Nat} {st st':St} {k k':Prop} (hk:k→k'):∀ {pd:A4w},A6U keep st st' k pd→A6U keep st st' k' pd
 | [],h=>hk h
 | (i,C)::l,h=>by
  unfold A6U at h ⊢
  split at h
  ·exact ⟨h.1,A6j hk h.2⟩
  ·exact A6j hk h
theorem B3e {P:Program} {T:H3} {M:H8} {frz:List Nat} {ops:List Oper} {i:Nat} {keep:List Nat} {pd:A4w} {K K':KA} {A:List AV} {st:St} (hK:∀ A st,K A st→K' A st) (h:B4O P T M frz ops i keep pd K A st):B5e P T M ops i keep pd K' A st:=by
 unfold B4O at h
 unfold B5e
 cases ho:ops[i]? with
 | none=>rw [ho] at h;exact h.elim
 | some o =>
  rw [ho] at h
  simp only at h ⊢
  obtain ⟨b,hb,h1,h2⟩:=A3z h
  rw [hb]
  refine ⟨fun e=>?_,fun e=>?_⟩
  ·exact N6 (fun v st' hk=>A6j (fun hk=>by rw [R1] at hk;exact hK _ _ hk) hk) (A2x (h1 e))
  ·have:=h2 e
   rw [R1] at this;exact hK _ _ this
theorem C0I {op:Op} (h:X1 op=true):A5U op=true:=by unfold A5U;rw [h];rfl
theorem A2y {P:Program} {T:H3} {M:H8} {frz:List Nat} {ops:List Oper}:∀ (t:PT) (pd:A4w) (A:List AV) (st:St) (k:KA),A4o P T M frz ops t pd A st k→A4D P T M ops t pd A st (A6F k)
 | .done,pd,A,st,k,h=>⟨A,st,A4y.refl A st,h⟩
 | .eff i keep t,pd,A,st,k,h=>B3e (fun A st h=>A2y t pd A st k h) h
 | .two i j ki kj t u,pd,A,st,k,h=>⟨B3e (fun A st h=>A2y t pd A st k h) h.1,B3e (fun A st h=>A2y u pd A st k h) h.2⟩
 | .qui i t,pd,A,st,k,h=>by
  unfold A4o at h
  unfold A4D
  cases ho:ops[i]? with
  | none=>rw [ho] at h;exact h.elim
  | some o =>
   rw [ho] at h
   simp only at h ⊢
   obtain ⟨b,hb,h1,h2⟩:=A3z h
   rw [hb]
   simp only
   refine ⟨fun e=>?_,fun e=>?_⟩
   ·have h1:=h1 e
    split at h1
    ·rename_i hp
     rw [hp]
     obtain ⟨v,hv,hk⟩:=B2e (C0I hp) (A2x h1)
     rw [R1] at hk
     exact ⟨v,hv,A2y t pd _ _ _ hk⟩
    ·rename_i hp
     rw [hp]
     obtain ⟨v,C,hC,hv,hk⟩:=h1
     rw [R1] at hk
     exact ⟨v,C,hC,fun s hs=>A2x (hv s hs),A2y t _ _ _ _ hk⟩
   ·have:=h2 e
    rw [R1] at this;exact A2y t pd _ _ _ this
noncomputable def C4g (P:Program) (T:H3) (M:H8) (frz:List Nat) (ops:List Oper) (t:PT):A4w→List AV→St→KA→Prop :=
 PT.rec (motive:=fun _=>A4w→List AV→St→KA→Prop) (fun _ A st k=>k A st)
  (fun i _ ih pd A st k=>match ops[i]? with
   | none=>False
   | some o=>A5m ops o A
    (match X1 o.op with
     | true=>xOp P T M (inF frz o.dst) o.op A st fun v _=>A0U A o.dst v fun A'=>ih pd A' st k
     | false=>∃ (v:AV) (C:St→Prop),C st∧(∀ s,C s→xOp P T M (inF frz o.dst) o.op A s fun v' s'=>v'=v∧s'=s)∧A0U A o.dst v fun A'=>ih ((i,C)::pd) A' st k)
    (A0U A o.dst (.tuple []) fun A'=>ih pd A' st k))
  (fun i keep _ ih pd A st k=>B4O P T M frz ops i keep pd (fun A' st'=>ih pd A' st' k) A st)
  (fun i j ki kj _ _ iht ihu pd A st k=>B4O P T M frz ops i ki pd (fun A' st'=>iht pd A' st' k) A st∧B4O P T M frz ops j kj pd (fun A' st'=>ihu pd A' st' k) A st) t
theorem A5n {P:Program} {T:H3} {M:H8} {frz:List Nat} {ops:List Oper}:∀ t,C4g P T M frz ops t=A4o P T M frz ops t
 | .done=>by funext pd A st k;rfl
 | .qui i t=>by
  funext pd A st k
  conv=>rhs;unfold A4o
  rw [←A5n t];rfl
 | .eff i keep t=>by
  funext pd A st k
  conv=>rhs;unfold A4o
  rw [←A5n t];rfl
 | .two i j ki kj t u=>by
  funext pd A st k
  conv=>rhs;unfold A4o
  rw [←A5n t,←A5n u];rfl
noncomputable def yDp (P:Program) (T:H3) (M:H8) (frz:List Nat) (ops:List Oper) (A:List AV) (st:St) (k:KA):Prop :=
 yDr P T M frz ops A st k∨∃ (eff:List Nat) (t:PT),(Region.noSelect ops.toArray&&okP ops.toArray eff t [] ops.length (Array.replicate ops.length false))=true∧C4g P T M frz ops t [] A st k
theorem C5z {P:Program} {T:H3} {M:H8} {frz:List Nat} {ops:List Oper} {A:List AV} {st:St} {k:KA} (h:yDp P T M frz ops A st k):Dp P T M ops A st (A6F k):=by
 refine ⟨A6F k,fun _ _ h=>h,?_⟩
 rcases h with h | ⟨eff,t,h1,h2⟩
 ·rw [C1L] at h;exact .inl (C1I h)
 ·rw [A5n] at h2;exact .inr ⟨eff,t,h1,A2y t _ _ _ _ h2⟩
noncomputable def Z (P:Program) (T:H3) (M:H8) (frz:List Nat) (c:Code):List AV→St→(Exit→KA)→Prop :=
 Code.rec (motive:=fun _=>List AV→St→(Exit→KA)→Prop)
  (fun A st K=>K .normal A st)
  (fun _ ops draw A st K=>match draw with
   | false=>C1M P T M frz ops.toList ops.toList A st (K .normal)
   | true=>yDp P T M frz ops.toList A st (K .normal))
  (fun _ _ x y A st K=>x A st fun e A' st'=>match e with
   | .normal=>y A' st' K
   | e=>K e A' st')
  (fun c _ _ x y A st K=>evK A c fun v=>match v with
   | .bool b=>A2D b (x A st K) (y A st K)
   | .ubool=>x A st K∧y A st K
   | _=>False)
  (fun id _ c A st K=>c A st fun e A' st'=>match e with
   | .exit j=>(match Nat.beq j id with | true=>K .normal A' st' | false=>K (.exit j) A' st')
   | e=>K e A' st')
  (fun _ c A st K=>∃ (keep:List Nat) (I:Nat→KA),(A3l A keep fun us=>∃ m,I m us st)∧∀ m vs st',I m vs st'→B1C A.length fun B=>A8t keep vs B fun A'=>c A' st' fun e A'' st''=>match e with
   | .normal=>A''.length=A.length∧A3l A'' keep fun us=>∃ m',m'<m∧I m' us st''
   | e=>K e A'' st'')
  (fun _ _ _ _ _ _ A st K=>False)
  (fun id A st K=>K (.exit id) A st)
  (fun _ _ A st K=>False)
  (fun _ A st K=>False)
  (fun _ A st K=>False)
  (fun A st K=>K .ret A st)
  (fun _ A st K=>False) c
theorem A8L {P:Program} {T:H3} {M:H8}:∀ (c:Code) (A:List AV) (st:St) (K K':Exit→KA),(∀ e A st,K e A st→K' e A st)→W P T M (Dp P T M) c A st K→W P T M (Dp P T M) c A st K':=by
 have hops:∀ (ops l:List Oper) (A:List AV) (st:St) (k k':KA),(∀ A st,k A st→k' A st)→A5P P T M ops l A st k→A5P P T M ops l A st k':=by
  intro ops l
  induction l with
  | nil=>intro A st k k' hk h;exact hk _ _ h
  | cons o l ih =>
   intro A st k k' hk h
   unfold A5P at h ⊢
   split at h
   ·exact h.elim
   ·exact ⟨fun e=>N6 (fun v st h=>ih _ _ _ _ hk h) (h.1 e),fun e=>ih _ _ _ _ hk (h.2 e)⟩
 intro c
 induction c with
 | skip=>intro A st K K' hK h;exact hK _ _ _ h
 | region id ops draw =>
  intro A st K K' hK h
  unfold W at h ⊢
  cases draw with
  | false=>exact hops _ _ _ _ _ _ (fun A st ⟨A',st',h1,h2⟩=>⟨A',st',h1,hK _ _ _ h2⟩) h
  | true =>
   obtain ⟨k',h1,h2⟩:=h
   exact ⟨k',fun A st h=>by obtain ⟨A',st',h3,h4⟩:=h1 A st h;exact ⟨A',st',h3,hK _ _ _ h4⟩,h2⟩
 | seq x y ihx ihy =>
  intro A st K K' hK h
  unfold W at h ⊢
  refine ihx _ _ _ _ (fun e A st h=>?_) h
  cases e<;>first | exact hK _ _ _ h | exact ihy _ _ _ _ hK h
 | cond c x y ihx ihy =>
  intro A st K K' hK h
  unfold W at h ⊢
  split at h
  ·exact ⟨fun e=>ihx _ _ _ _ hK (h.1 e),fun e=>ihy _ _ _ _ hK (h.2 e)⟩
  ·exact ⟨ihx _ _ _ _ hK h.1,ihy _ _ _ _ hK h.2⟩
  ·exact h
 | block id c ih =>
  intro A st K K' hK h
  unfold W at h ⊢
  refine ih _ _ _ _ (fun e A st h=>?_) h
  cases e<;>simp only at h ⊢<;>try exact hK _ _ _ h
  split at h
  ·rename_i e;rw [if_pos e];exact hK _ _ _ h
  ·rename_i e;rw [if_neg e];exact hK _ _ _ h
 | loop c ih =>
  intro A st K K' hK h
  unfold W at h ⊢
  obtain ⟨keep,I,h0,hI⟩:=h
  refine ⟨keep,I,h0,fun m vs st' hi=>ih _ _ _ _ (fun e A st h=>?_) (hI m vs st' hi)⟩
  cases e<;>first | exact hK _ _ _ h | exact h
 | exit id=>intro A st K K' hK h;exact hK _ _ _ h
 | ret=>intro A st K K' hK h;exact hK _ _ _ h
 | rangeFunc _ _ _ _=>intro A st K K' hK h;exact h
 | scope _=>intro A st K K' hK h;exact h
 | label _=>intro A st K K' hK h;exact h
 | goto _=>intro A st K K' hK h;exact h
 | refuse _=>intro A st K K' hK h;exact h
theorem Z_W {P:Program} {T:H3} {M:H8} {frz:List Nat}:∀ (c:Code) (A:List AV) (st:St) (K:Exit→KA),Z P T M frz c A st K→W P T M (Dp P T M) c A st K:=by
 intro c
 induction c with
 | skip=>intro A st K h;exact h
 | region id ops draw =>
  intro A st K h
  unfold W
  cases draw with
  | false =>
   have h:C1M P T M frz ops.toList ops.toList A st (K .normal):=h
   rw [B3h] at h
   exact A9b _ _ _ _ h
  | true=>exact C5z h
 | seq x y ihx ihy =>
  intro A st K h
  unfold W
  refine A8L _ _ _ _ _ (fun e A st h=>?_) (ihx _ _ _ h)
  cases e<;>first | exact h | exact ihy _ _ _ h
 | cond c x y ihx ihy =>
  intro A st K h
  have h:evK A c fun v=>match v with
   | .bool b=>A2D b (Z P T M frz x A st K) (Z P T M frz y A st K)
   | .ubool=>Z P T M frz x A st K∧Z P T M frz y A st K
   | _=>False:=h
  unfold W
  rw [A2R] at h
  split at h
  ·rename_i b hb
   rw [hb]
   obtain ⟨h1,h2⟩:=(V7 _ _ _).1 h
   exact ⟨fun e=>ihx _ _ _ (h1 e),fun e=>ihy _ _ _ (h2 e)⟩
  ·rename_i hb
   rw [hb]
   exact ⟨ihx _ _ _ h.1,ihy _ _ _ h.2⟩
  ·exact h.elim
 | block id c ih =>
  intro A st K h
  unfold W
  refine A8L _ _ _ _ _ (fun e A st h=>?_) (ih _ _ _ h)
  cases e<;>simp only at h ⊢<;>try exact h
  split at h
  ·rename_i e;rw [if_pos (Nat.eq_of_beq_eq_true e)];exact h
  ·rename_i e;rw [if_neg (Nat.ne_of_beq_eq_false e)];exact h
 | loop c ih =>
  intro A st K h
  unfold W
  obtain ⟨keep,I,h0,hI⟩:=h
  rw [A0L] at h0
  refine ⟨keep,I,h0,fun m vs st' hi=>?_⟩
  have h1:=hI m vs st' hi
  rw [B0f,B0m] at h1
  refine A8L _ _ _ _ _ (fun e A st h=>?_) (ih _ _ _ h1)
  cases e<;>first | exact h | (rw [A0L] at h;exact h)
 | exit id=>intro A st K h;exact h
 | ret=>intro A st K h;exact h
 | rangeFunc _ _ _ _=>intro A st K h;exact h
 | scope _=>intro A st K h;exact h
 | label _=>intro A st K h;exact h
 | goto _=>intro A st K h;exact h
 | refuse _=>intro A st K h;exact h
theorem B9p {P:Program} {T:H3} {M:H8} (frz:List Nat) (hG:A6C P T M) (hm:P.follows .mixedOrders=true) {f:FuncId} {fn:Func} {c:Code} {args:List AV} {st:St} {post:KK} {n:Nat} {rs:Array ResultVar}
  (hf : P.funcs[f]? = some fn) (hname : (fn.name == "runtime.NumGoroutine") = false) (hb : fn.body = some c) (hn : fn.ntmps = n) (hr : fn.results = rs)
  (h:A6t args n fun A=>Z P T M frz c A st (C5u T rs.toList post)):S P f args st post:=by
 subst hn;subst hr
 rw [A8e] at h
 refine B9o hG (C5J hG hm) hf hname hb (A8L _ _ _ _ _ (fun e A st h=>?_) (Z_W _ _ _ _ h))
 cases e<;>first | exact h | (exact A7x _ _ h)
end Go.Ab
set_option maxRecDepth 100000
namespace Go.Proofs.YthdimklenlikgaaGreat
open Go Go.Ab
attribute [local irreducible] upd del
def B6I (v:B4U):AV:=.agg [A6 v.goods,A6 v.taxes,eI v.ship,eI v.shipTax]
theorem ROut.cell {R:St→St→Prop} (hR:J5 R) {ty e n b:Nat} {fo:Nat→AV} {s t:St} (h:ROut R ty e fo n s (.own e b 0 n) t) (hn:0<n) :
  ∃ g,t b=some ⟨ty,e,n,g⟩∧(∀ k,k<n→g k=fo k)∧∀ (g' fo':Nat→AV),(∀ k,k<n→g' k=fo' k)→ROut R ty e fo' n s (.own e b 0 n) (upd t b ⟨ty,e,n,g'⟩):=by
 obtain ⟨s0,hc,hr⟩:=h
 rcases hc with ⟨h0,_⟩ | ⟨_,b',g,h1,h2,rfl,h3⟩
 ·omega
 ·injection h2 with _ h2 _ _
  subst h2
  refine ⟨g,hR.sup hr b _ (A0 ..),h3,fun g' fo' hg=>⟨upd s b ⟨ty,e,n,g'⟩,.inr ⟨hn,b,g',h1,rfl,rfl,hg⟩,?_⟩⟩
  have:=hR.write (y':=⟨ty,e,n,g'⟩) hr (A0 ..)
  rwa [B7] at this
def H0 (nets taxes:List Int) (j k:Nat):Int:=if k<j then gI nets k - gI taxes k else gI nets k
theorem C0e (nets taxes:List Int):(fun k=>eI (H0 nets taxes 0 k))=fun k=>eI (gI nets k):=funext fun k=>by unfold H0;rw [if_neg (by omega)]
theorem F4 {t:Z9} {TX nets:List Int} {j:Nat} {st:St} (hj:(t.incl=true∧j=nets.length)∨(t.incl=false∧j=0)):B0 [.arr 1 nets.length (fun k=>eI (H0 nets TX j k))] st [A6 ((List.range nets.length).map (W6 t TX nets))] st:=by
 have e:A6 ((List.range nets.length).map (W6 t TX nets))=.arr 1 nets.length (fun k=>eI (gI ((List.range nets.length).map (W6 t TX nets)) k)):=by unfold A6 B2;rw [List.length_map,List.length_range]
 rw [e]
 refine B0.arr fun k hk=>?_
 congr 1
 unfold gI
 rw [List.getD_eq_getElem?_getD,List.getElem?_map,List.getElem?_range hk]
 show H0 nets TX j k=W6 t TX nets k
 unfold H0 W6
 rcases hj with ⟨h1,rfl⟩ | ⟨h1,rfl⟩
 ·rw [if_pos hk,if_pos h1]
 ·rw [if_neg (by omega),if_neg (by rw [h1];simp)]
theorem B1o {nets TX:List Int} {j n k:Nat} {gg:Nat→AV} (hgg:∀ k,k<n→gg k=eI (H0 nets TX j k)) (hk:k<n):C9 gg (0+((j:Nat):Int).toNat) (eI (gI nets j - gI TX j)) k=eI (H0 nets TX (j+1) k):=by
 rw [show 0+((j:Nat):Int).toNat=j by omega]
 by_cases e:k=j
 ·subst e
  rw [A2];unfold H0;rw [if_pos (by omega)]
 ·rw [H7 e,hgg k hk]
  unfold H0
  by_cases h:k<j
  ·rw [if_pos h,if_pos (by omega)]
  ·rw [if_neg h,if_neg (by omega)]
set_option maxHeartbeats 8000000 in
theorem C3g {t:Z9} {z:K3} {s:D6} {cats:List D6} {nets:List Int} {ship:Int} (h:A0i t z cats nets ship) (hsm:A8f t) (hz:S4 t.zones s=some z) (exempt:Bool) (st:St) :
  S P 124 [L7 t,eS s,eB exempt,D3 cats,A6 nets,eI ship] st fun v st' =>
   v=.tuple [B6I (K9 t z exempt cats nets ship),eI 0]∧st'=st:=by
 obtain ⟨hr1,hr2⟩:=A3s h
 obtain ⟨t1,t2⟩:=A7t (t:=t) h.nets hr1 hr2
 obtain ⟨l1,l2⟩:=A5K h.tax
 have hzm:z∈t.zones:=List.mem_of_find?_eq_some hz
 have hzr:=l2 z hzm
 have hn:=h.nets.len
 have hns:=h.nets.sum
 have hnp:=h.nets.pos
 have hcl:=h.cats
 have hq:=(A5p h.zone).2.1
 have hm:=A2F (t:=t) h.ship.1 hq
 have hs:=h.ship
 have hT:∀ s,S P 161 [L7 t] s fun v st'=>v=.bool true∧st'=s:=fun s=>by
  have:=B5P t hsm s
  rw [h.tax] at this;exact this
 have hZ:∀ st,S P 217 [L7 t,eS s] st fun v st'=>v=.tuple [Q3 z,.bool true]∧st'=st:=fun st=>by
  have:=B1A t s (by omega) st
  rw [hz] at this;exact this
 have hR':=fun c st=>B8x z c (by omega) st
 have hU:=fun st=>B2M t ship z.ship hq st
 have hL:K9 t z exempt cats nets ship=⟨(List.range nets.length).map (W6 t (I2 t (cats.map (E6 z)) nets) nets),if exempt=true then List.replicate nets.length 0 else I2 t (cats.map (E6 z)) nets,if t.incl=true then ship - B6 t ship z.ship else ship,if exempt=true then 0 else B6 t ship z.ship⟩:=rfl
 rw [hL]
 refine S.post (post:=fun v s'=>∃ gv tv c1 c2,v=.tuple [.agg [gv,tv,eI (if t.incl=true then ship - B6 t ship z.ship else ship),eI (if exempt=true then 0 else B6 t ship z.ship)],eI 0] ∧
   B0 [gv] s' [A6 ((List.range nets.length).map (W6 t (I2 t (cats.map (E6 z)) nets) nets))] c1∧B0 [tv] c1 [A6 (if exempt=true then List.replicate nets.length 0 else I2 t (cats.map (E6 z)) nets)] c2∧D7 st c2) ?_
  (fun v s' ⟨gv,tv,c1,c2,h1,h2,h3,h4⟩=>⟨_,st,⟨rfl,rfl⟩,by
   rw [h1]
   exact (B0.tuple (B0.cons (B0.agg (B0.cons h2 (B0.cons h3 (B0.keep _ _)))) (B0.keep _ _)) rfl).trans (h4.shift _)⟩)
 refine B9p [6] B8 mixed Tryz.func124 (by rfl) rfl rfl rfl ?_;conv=>whnf
 intro b12 hb12;conv=>whnf
 refine A7 (hT _) ?_;conv=>whnf
 rw [hcl,show ((nets.length:Int) != (nets.length:Int))=false from bne_self_eq_false _];conv=>whnf
 rw [show decide ((nets.length:Int)>1000)=false from decide_eq_false (by omega)];conv=>whnf
 rw [show decide (ship<0)=false from decide_eq_false (by omega)];conv=>whnf
 rw [show decide (ship>10000000000000)=false from decide_eq_false (by omega)];conv=>whnf
 generalize hst:(upd st b12 _:St)=S0
 obtain ⟨f12,at12,hf12⟩:∃ f12:Nat→AV,S0 b12=some ⟨191,4,1,f12⟩∧f12 0=G9 B2I.zero:=by rw [←hst];exact ⟨_,A0 ..,rfl⟩
 have hs0:D7 st S0:=by rw [←hst];exact (D7.refl st).upd hb12
 clear hst
 refine lp nets.length [1,2,3,4,5,6,12,14,15] (fun i vs u=>vs=[eS s,eB exempt,D3 cats,A6 nets,eI ship,.fptr (L7 t) 0,.optr 4 b12 0 0,eI (A5 (nets.take i)),eI i]∧u=S0) ?_ ?_
 ·conv=>whnf
  exact ⟨rfl,rfl⟩
 rintro i vs u hi ⟨rfl,rfl⟩
 conv=>whnf
 cases h1:decide ((i:Int)<(nets.length:Int))
 case true =>
  have hi':=E4 h1
  have hx:0≤gI nets (i:Int).toNat:=hnp _ (B3 hi')
  have hs1:=J9 hnp (i+1)
  have hs2:0≤A5 (nets.take i):=C4 fun x hx=>hnp x (List.mem_of_mem_take hx)
  have hst:A5 (nets.take (i+1))=A5 (nets.take i)+gI nets (i:Int).toNat:=L3 hi'
  have hw1:IntKind.i64.wrap (10000000000000 - A5 (nets.take i))=10000000000000 - A5 (nets.take i):=A9 (by omega) (by omega)
  have hw2:IntKind.i64.wrap (A5 (nets.take i)+gI nets (i:Int).toNat)=A5 (nets.take (i+1)):=(A9 (by omega) (by omega)).trans hst.symm
  conv=>whnf
  refine ⟨rfl,⟨by omega,by omega⟩,?_⟩;conv=>whnf
  rw [show decide (nets.getD (i:Int).toNat default<0)=false from decide_eq_false (by show ¬ gI nets (i:Int).toNat<0;omega)];conv=>whnf
  refine ⟨rfl,⟨by omega,by omega⟩,?_⟩;conv=>whnf
  rw [hw1,show decide (nets.getD (i:Int).toNat default>10000000000000 - A5 (nets.take i))=false from decide_eq_false (by show ¬ gI nets (i:Int).toNat>_;omega)];conv=>whnf
  refine ⟨rfl,⟨by omega,by omega⟩,?_⟩;conv=>whnf
  rw [hw2]
  refine ⟨rfl,?_⟩;conv=>whnf
  exact nx hi' ⟨by rw [B9 (by omega)],rfl⟩
 obtain rfl:=C6 h1 hi
 conv=>whnf
 refine A7 (hZ _) ?_;conv=>whnf
 intro b16 hb16
 have h1216:b12≠b16:=fun e=>by subst e;rw [at12] at hb16;cases hb16
 conv=>whnf
 refine G6 (A0 ..) rfl (by omega) rfl (by rfl) ?_
 rw [B7];conv=>whnf
 generalize hst:(upd u b16 _:St)=S1
 obtain ⟨f16,at16,hf16⟩:∃ f16:Nat→AV,S1 b16=some ⟨184,4,1,f16⟩∧f16 0=Q3 z:=by rw [←hst];exact ⟨_,A0 ..,by rw [A2];rfl⟩
 have at12b:S1 b12=some ⟨191,4,1,f12⟩:=by rw [←hst,A4 h1216];exact at12
 have hs1:D7 st S1:=by rw [←hst];exact hs0.upd hb16
 clear hst
 refine .inr ⟨[2,10,11],.qui 0 (.qui 1 (.qui 3 (.qui 4 (.qui 5 (.qui 6 (.qui 7 (.two 2 10 [4,7] [0,4,7] (.qui 8 (.qui 9 (.eff 10 [0,4,7,8] (.eff 11 [] (.done))))) (.eff 2 [4,7] (.qui 8 (.qui 9 (.eff 11 [] (.done)))))))))))),by kernel_rfl,?_⟩;conv=>whnf
 refine ⟨_,fun _=>True,trivial,fun s _=>⟨rfl,rfl⟩,?_⟩;conv=>whnf
 refine ⟨_,fun _=>True,trivial,fun s _=>⟨rfl,rfl⟩,?_⟩;conv=>whnf
 refine ⟨_,fun s=>s b16=some ⟨184,4,1,f16⟩,at16,fun s hs=>D9 hs rfl (by omega) hf16 ⟨rfl,rfl⟩,?_⟩;conv=>whnf
 have hnb:=hn
 refine ⟨?A,?B⟩
 case' A =>
  conv=>whnf
  refine M8.apps (n:=0) (m:=nets.length) (q:=r2) (f:=fun k=>eI (gI nets k)) rfl rfl rfl rfl rfl (fun i hi=>by rw [Nat.zero_add]) (by show (0+nets.length) * 8≤140737488355328;omega) (M8.start _ _ _ S1) (fun gv s2 hc=>?_)
  rw [Nat.zero_add] at hc;conv=>whnf
  refine ⟨fun h=>hc.sup b16 _ h,?_⟩;conv=>whnf
  refine ⟨fun h=>trivial,?_⟩;conv=>whnf
  refine ⟨_,fun _=>True,trivial,fun s _=>D1 (hU s),?_⟩
  rcases (show gv=.emp∨∃ b,gv=.own 1 b 0 nets.length from ROut.head (show ROut D7 _ _ _ _ _ gv s2 from ⟨_,hc,D7.refl _⟩)) with rfl | ⟨bg,rfl⟩
  all_goals
   conv=>whnf
   intro b18 hb18;conv=>whnf
   refine ⟨fun _=>trivial,?_⟩;conv=>whnf
   have hn18:b16≠b18:=fun e=>by subst e;rw [hc.sup b16 _ at16] at hb18;cases hb18
   refine ⟨fun h=>(A4 hn18).trans h,?_⟩;conv=>whnf
   refine ⟨fun _=>trivial,?_⟩;conv=>whnf
   refine ⟨fun _=>trivial,?_⟩
   have hb18':=M8.off hc hb18
   have hcu:=M8.under (y:=⟨191,4,1,fun _=>G9 B2I.zero⟩) hc hb18
 case' B =>
  conv=>whnf
  intro b18 hb18'
  have hn18:b16≠b18:=fun e=>by subst e;rw [at16] at hb18';cases hb18'
  conv=>whnf
  refine ⟨fun h=>(A4 hn18).trans h,?_⟩;conv=>whnf
  refine ⟨fun _=>trivial,?_⟩;conv=>whnf
  refine ⟨fun _=>trivial,?_⟩;conv=>whnf
  refine M8.apps (n:=0) (m:=nets.length) (q:=r2) (f:=fun k=>eI (gI nets k)) rfl rfl rfl rfl rfl (fun i hi=>by rw [Nat.zero_add]) (by show (0+nets.length) * 8≤140737488355328;omega) (M8.start _ _ _ _) (fun gv s2 hcu=>?_)
  rw [show 0+nets.length=nets.length from Nat.zero_add _] at hcu;conv=>whnf
  refine ⟨fun h=>hcu.sup b16 _ h,?_⟩;conv=>whnf
  refine ⟨fun _=>trivial,?_⟩;conv=>whnf
  refine ⟨_,fun _=>True,trivial,fun s _=>D1 (hU s),?_⟩
  rcases (show gv=.emp∨∃ b,gv=.own 1 b 0 nets.length from ROut.head (show ROut D7 _ _ _ _ _ gv s2 from ⟨_,hcu,D7.refl _⟩)) with rfl | ⟨bg,rfl⟩
 case' A.inl=>have hG:=ROut.putB (y':=⟨191,4,1,C9 (fun _=>G9 B2I.zero) 0 (.agg [.emp,.emp,eI ship,eI (B6 t ship z.ship)])⟩) B1 (show ROut D7 2 1 (fun k=>eI (gI nets k)) nets.length _ .emp _ from ⟨_,hcu,D7.refl _⟩)
 case' A.inr=>have hG:=ROut.putB (y':=⟨191,4,1,C9 (fun _=>G9 B2I.zero) 0 (.agg [.own 1 bg 0 nets.length,.emp,eI ship,eI (B6 t ship z.ship)])⟩) B1 (show ROut D7 2 1 (fun k=>eI (gI nets k)) nets.length _ (.own 1 bg 0 nets.length) _ from ⟨_,hcu,D7.refl _⟩)
 case' B.inl=>have hG:=ROut.putB (y':=⟨191,4,1,C9 (fun _=>G9 B2I.zero) 0 (.agg [.emp,.emp,eI ship,eI (B6 t ship z.ship)])⟩) B1 (show ROut D7 2 1 (fun k=>eI (gI nets k)) nets.length _ .emp _ from ⟨_,hcu,D7.refl _⟩)
 case' B.inr=>have hG:=ROut.putB (y':=⟨191,4,1,C9 (fun _=>G9 B2I.zero) 0 (.agg [.own 1 bg 0 nets.length,.emp,eI ship,eI (B6 t ship z.ship)])⟩) B1 (show ROut D7 2 1 (fun k=>eI (gI nets k)) nets.length _ (.own 1 bg 0 nets.length) _ from ⟨_,hcu,D7.refl _⟩)
 all_goals
  have at18:=hcu.sup b18 _ (A0 ..)
  conv=>whnf
  refine G6 at18 rfl (by omega) rfl (by rfl) ?_;conv=>whnf
 all_goals
  refine lp nets.length [2,3,4,5,6,12,16,18,19,20] (fun i vs w=>∃ (sv tv gv:AV) (f:Nat→AV),vs=[eB exempt,D3 cats,A6 nets,eI ship,.fptr (L7 t) 0,.optr 4 b12 0 0,.optr 4 b16 0 0,.optr 4 b18 0 0,sv,eI i]∧f 0=.agg [gv,tv,eI ship,eI (B6 t ship z.ship)] ∧
   ROut (fun s t'=>ROut (fun s t'=>ROut D7 2 1 (fun k=>eI (gI nets k)) nets.length s gv t') 2 1 (fun k=>eI (gI (Q5 t (cats.map (E6 z)) nets) k)) i s tv t') 2 1 (fun k=>eI (gI (cats.map (E6 z)) k)) i (upd S1 b18 ⟨191,4,1,f⟩) sv w) ?_ ?_
  ·conv=>whnf
   exact ⟨.emp,.emp,_,_,rfl,A2 ..,ROut.start (show ROut _ _ _ _ 0 _ .emp _ from ROut.start (show ROut _ _ _ _ _ _ _ _ from hG) _ _ _) _ _ _⟩
  clear hG at18 hcu
  rintro i vs w hi ⟨sv,tv,gv,f,rfl,hf,hR⟩
  have hBG:=D8 B1 2 1 (fun k=>eI (gI nets k)) nets.length gv
  have hBT:=fun m tv=>D8 hBG 2 1 (fun k=>eI (gI (Q5 t (cats.map (E6 z)) nets) k)) m tv
  have hsup:=ROut.sup (hBT _ _) hR
  have at16c:=hsup b16 _ (by rw [A4 hn18];exact at16)
  conv=>whnf
  cases h1:decide ((i:Int)<(nets.length:Int))
  case true =>
   have hi':=E4 h1
   have hRi:=fun st=>hR' (cats.getD (i:Int).toNat default) st
   have hgR:gI (cats.map (E6 z)) i=E6 z (cats.getD (i:Int).toNat default):=E3 (E6 z) cats (by omega)
   have hgL:gI (Q5 t (cats.map (E6 z)) nets) i=B6 t (gI nets i) (gI (cats.map (E6 z)) i):=by
    unfold Q5;unfold gI
    rw [List.getD_eq_getElem?_getD,List.getElem?_map,List.getElem?_range hi'];rfl
   have hrt:0≤E6 z (cats.getD (i:Int).toNat default)∧E6 z (cats.getD (i:Int).toNat default)≤10000:=B4o h.zone _
   have hU2:=fun st=>B2M t (gI nets (i:Int).toNat) (E6 z (cats.getD (i:Int).toNat default)) hrt st
   rw [hgR] at hgL
   generalize E6 z (cats.getD (i:Int).toNat default)=RT at hRi hgR hgL hU2
   conv=>whnf
   refine .inl ⟨[7,8],[],List.range 10,by kernel_rfl,?_⟩;conv=>whnf
   refine D9 at16c rfl (by omega) hf16 ?_;conv=>whnf
   refine ⟨rfl,⟨by omega,by omega⟩,?_⟩;conv=>whnf
   refine ⟨_,D1 (hRi _),?_⟩;conv=>whnf
   refine ROut.app (q:=r2) (hBT _ _) rfl rfl rfl rfl rfl (f:=fun k=>eI (gI (cats.map (E6 z)) k)) (by show _=eI _;rw [hgR];rfl) (by show (i+1) * 8≤140737488355328;omega) hR (fun sv' w2 hR2=>?_);conv=>whnf
   have hsup2:=ROut.sup (hBT _ _) hR2
   have at18c:=hsup2 b18 _ (A0 ..)
   obtain ⟨s3,hsv,hT3⟩:=hR2
   obtain ⟨bs,gs,rfl,atS,hgs⟩:∃ bs gs,sv'=.own 1 bs 0 (i+1)∧w2 bs=some ⟨2,1,i+1,gs⟩∧∀ k,k<i+1→gs k=eI (gI (cats.map (E6 z)) k):=by
    rcases hsv with ⟨h0,_⟩ | ⟨_,b,g,h3,h4,h5,h6⟩
    ·omega
    ·exact ⟨b,g,h4,(hBT _ _).sup hT3 b _ (by rw [h5];exact A0 ..),h6⟩
   rcases ROut.head hT3 with rfl | ⟨bt,rfl⟩
   all_goals
    refine .inr ⟨[12,13,15],.qui 0 (.qui 1 (.qui 2 (.qui 3 (.qui 4 (.qui 5 (.qui 6 (.qui 7 (.qui 8 (.qui 9 (.qui 10 (.qui 11 (.eff 12 [1] (.eff 13 [] (.qui 14 (.eff 15 [] (.done)))))))))))))))),by kernel_rfl,?_⟩;conv=>whnf
    refine ⟨_,fun s=>s b18=some ⟨191,4,1,f⟩,at18c,fun s hs=>D9 hs rfl (by omega) hf ⟨rfl,rfl⟩,?_⟩;conv=>whnf
    refine ⟨_,fun _=>True,trivial,fun s _=>⟨rfl,rfl⟩,?_⟩;conv=>whnf
    refine ⟨rfl,⟨by omega,by omega⟩,?_⟩;conv=>whnf
    refine ⟨_,fun _=>True,trivial,fun s _=>⟨rfl,rfl⟩,?_⟩;conv=>whnf
    refine ⟨rfl,⟨by omega,by omega⟩,?_⟩;conv=>whnf
    refine ⟨_,fun s=>s bs=some ⟨2,1,i+1,gs⟩,atS,fun s hs=>D9 hs rfl (by show 0+((i:Nat):Int).toNat<i+1;omega) (v:=eI RT) (by show gs (0+((i:Nat):Int).toNat)=_;rw [show 0+((i:Nat):Int).toNat=i by omega,hgs i (by omega),hgR]) ⟨rfl,rfl⟩,?_⟩;conv=>whnf
    refine ⟨_,fun _=>True,trivial,fun s _=>D1 (hU2 s),?_⟩;conv=>whnf
    refine ⟨fun h=>h,?_⟩;conv=>whnf
    refine ROut.app (q:=r2) hBG rfl rfl rfl rfl rfl (f:=fun k=>eI (gI (Q5 t (cats.map (E6 z)) nets) k)) (by show _=eI _;rw [hgL];rfl) (by show (i+1) * 8≤140737488355328;omega) hT3 (fun tv' w3 hT4=>?_)
    have hAll:ROut (fun s t'=>ROut (fun s t'=>ROut D7 2 1 (fun k=>eI (gI nets k)) nets.length s gv t') 2 1 (fun k=>eI (gI (Q5 t (cats.map (E6 z)) nets) k)) (i+1) s tv' t') 2 1 (fun k=>eI (gI (cats.map (E6 z)) k)) (i+1) (upd S1 b18 ⟨191,4,1,f⟩) (.own 1 bs 0 (i+1)) w3:=⟨s3,hsv,hT4⟩
    have at18d:=(ROut.sup (hBT _ _) hAll) b18 _ (A0 ..)
    rcases ROut.head hT4 with rfl | ⟨bt',rfl⟩
    all_goals
     conv=>whnf
     refine G6 at18d rfl (by omega) hf (by rfl) ?_;conv=>whnf
     refine ⟨rfl,?_⟩;conv=>whnf
     exact nx hi' ⟨_,_,gv,_,by rw [B9 (by omega)],(by rw [A2];rfl),ROut.putB (hBT _ _) hAll _⟩
  obtain rfl:=C6 h1 hi
  have hbase:D7 st (upd S1 b18 ⟨191,4,1,f⟩):=hs1.upd hb18'
  have hb18st:st b18=none:=hs1.none hb18'
  have hb12n:b12≠b18:=fun e=>by subst e;rw [at12b] at hb18';cases hb18'
  have hTXl:(I2 t (cats.map (E6 z)) nets).length=nets.length:=t1
  have htx:∀ i,i<nets.length→0≤gI (I2 t (cats.map (E6 z)) nets) i∧gI (I2 t (cats.map (E6 z)) nets) i≤10000000000000:=fun i hi=>t2 _ (B3 (by omega))
  have hnx:∀ i,i<nets.length→0≤gI nets i∧gI nets i≤10000000000000:=fun i hi=>by
   have h1:=h.nets.pos _ (show gI nets i∈nets from B3 hi)
   have h2:=I5 h.nets.pos (show gI nets i∈nets from B3 hi)
   exact ⟨h1,by omega⟩
  conv=>whnf
  cases hbo:t.byOrder
  case false =>
   have hTX:I2 t (cats.map (E6 z)) nets=Q5 t (cats.map (E6 z)) nets:=if_neg (by rw [hbo];simp)
   rw [←hTX] at hR
   have hR2:=ROut.dropped (D8 hBG _ _ _ _ _) hR
   generalize I2 t (cats.map (E6 z)) nets=TX at *
   have hK:ROut (fun s t'=>ROut D7 2 1 (fun k=>eI (H0 nets TX 0 k)) nets.length s (gv) t') 2 1 (fun k=>eI (gI TX k)) nets.length (upd S1 b18 ⟨191,4,1,f⟩) (tv) (w):=by rw [C0e];exact hR2
   have eTX:A6 TX=.arr 1 nets.length (fun k=>eI (gI TX k)):=by unfold A6 B2;rw [hTXl]
   rcases (show tv=.emp∨∃ b,tv=.own 1 b 0 nets.length from ROut.head hR2) with rfl | ⟨bt,rfl⟩<;>rcases (show gv=.emp∨∃ b,gv=.own 1 b 0 nets.length from by obtain ⟨s0,_,hg⟩:=hR2;exact ROut.head hg) with rfl | ⟨bg2,rfl⟩
   all_goals
    clear hR hR2
    conv=>whnf
   ·have hBGn:=D8 B1 2 1 (fun k=>eI (H0 nets TX 0 k)) nets.length ((.emp))
    have hf9:=hf
    have hK9:=hK
    cases hin:t.incl
    case false =>
     refine A4P [2,4,5,6,12,18,21] ?_;conv=>whnf
     intro I;conv=>whnf
     cases decide ((0:Int)<(nets.length:Int))
     case' true =>
      conv=>whnf
      rw [hin]
     all_goals
      conv=>whnf
      rw [hin];conv=>whnf
      have hS9:=ROut.sup hBGn hK9
      have at18e:=hS9 b18 _ (A0 ..)
      have at12e:=hS9 b12 _ (by rw [A4 hb12n];exact at12b)
      cases exempt
      ·conv=>whnf
       refine D9 at18e rfl (by omega) hf9 ?_;conv=>whnf
       refine G6 at12e rfl (by omega) hf12 (by rfl) ?_;conv=>whnf
       refine D9 (A0 ..) rfl (by omega) (A2 ..) ?_;conv=>whnf
       have hK10:=ROut.write (y':=⟨191,4,1,C9 f12 0 (.agg [(.emp),(.emp),eI ship,eI (B6 t ship z.ship)])⟩) hBGn hK9 (show (upd S1 b18 ⟨191,4,1,f⟩) b12=_ by rw [A4 hb12n];exact at12b)
       obtain ⟨s0,hcT,hG9⟩:=hK10
       obtain ⟨c1,k1,k2⟩:=ROut.shift B1 hG9
       obtain ⟨c2,k3,k4⟩:=ROut.shift B1 (show ROut D7 2 1 (fun k=>eI (gI TX k)) nets.length _ ((.emp)) c1 from ⟨s0,hcT,k2⟩)
       exact ⟨(.emp),(.emp),c1,c2,(by first | rfl | (rw [hin];rfl)),k1.trans (F4 (.inr ⟨hin,rfl⟩)),(by rw [if_neg (by simp),eTX];exact k3),((hs1.upd hb18').over hb12).trans k4⟩
      ·conv=>whnf
       refine mkO rfl rfl rfl (by show 8 * nets.length≤_;omega) (by omega) (by rfl) (fun bz hbz=>?_)
       have hz18:b18≠bz:=fun e=>by subst e;cases (at18e.symm.trans hbz)
       have hz12:b12≠bz:=fun e=>by subst e;cases (at12e.symm.trans hbz)
       have hzst:st bz=none:=((hs1.upd hb18').trans hS9).none hbz
       conv=>whnf
       refine G6 ((A4 hz18).trans at18e) rfl (by omega) hf9 (by rfl) ?_;conv=>whnf
       refine G6 (A0 ..) rfl (by omega) (A2 ..) (by rfl) ?_
       rw [B7];conv=>whnf
       refine D9 (A0 ..) rfl (by omega) (A2 ..) ?_;conv=>whnf
       refine G6 ((A4 hb12n).trans ((A4 hz12).trans at12e)) rfl (by omega) hf12 (by rfl) ?_;conv=>whnf
       refine D9 (A0 ..) rfl (by omega) (A2 ..) ?_;conv=>whnf
       have hG0:=ROut.dropped hBGn hK9
       have hG1:=(D8 B1 _ _ _ _ _).begin (y:=⟨2,1,nets.length,fun _=>G9 r2.zero⟩) hG0 hbz
       have hG2:=ROut.write (y':=⟨191,4,1,C9 (C9 f 0 (.agg [(.emp),.own 1 bz 0 nets.length,eI ship,eI (B6 t ship z.ship)])) 0 (.agg [(.emp),.own 1 bz 0 nets.length,eI ship,eI 0])⟩) B1 hG1 ((A4 hz18).trans (A0 ..))
       have hG3:=ROut.write (y':=⟨191,4,1,C9 f12 0 (.agg [(.emp),.own 1 bz 0 nets.length,eI ship,eI 0])⟩) B1 hG2 ((A4 hb12n).trans ((A4 hz12).trans ((A4 hb12n).trans at12b)))
       obtain ⟨c1,k1,k2⟩:=ROut.shift B1 hG3
       have atz:=k2 bz _ ((A4 hz12.symm).trans ((A4 hz18.symm).trans (A0 ..)))
       have hsz:D7 st c1:=(((((hs1.upd hb18').over hzst).over hb18st).over hb12).trans k2)
       refine ⟨(.emp),.own 1 bz 0 nets.length,c1,del c1 bz,(by first | rfl | (rw [hin];rfl)),k1.trans (F4 (.inr ⟨hin,rfl⟩)),?_,D7.del hsz hzst⟩
       rw [if_pos rfl,show A6 (List.replicate nets.length 0)=.arr 1 nets.length (fun k=>eI ((List.replicate nets.length (0:Int)).getD k default)) by unfold A6 B2;rw [List.length_replicate]]
       exact G0 atz rfl (Nat.le_refl _) (fun k hk=>by rw [T9];rfl)
    case true =>
     clear hf9 hK9 hBGn
     refine lp nets.length [2,4,5,6,12,18,21] (fun j vs u=>vs=[eB exempt,A6 nets,eI ship,.fptr (L7 t) 0,.optr 4 b12 0 0,.optr 4 b18 0 0,eI j]∧ROut (fun s t'=>ROut D7 2 1 (fun k=>eI (H0 nets TX j k)) nets.length s (.emp) t') 2 1 (fun k=>eI (gI TX k)) nets.length (upd S1 b18 ⟨191,4,1,f⟩) (.emp) (u)) ?_ ?_
     ·conv=>whnf
      exact ⟨rfl,hK⟩
     clear hK
     rintro j vs u hj ⟨rfl,hK⟩
     have hBGn:=D8 B1 2 1 (fun k=>eI (H0 nets TX j k)) nets.length ((.emp))
     have hSj:=ROut.sup hBGn hK
     have at18j:=hSj b18 _ (A0 ..)
     have hfj:f 0=.agg [(.emp),(.emp),eI ship,eI (B6 t ship z.ship)]:=by first | exact hf | exact A2 ..
     conv=>whnf
     cases h5:decide ((j:Int)<(nets.length:Int))
     case true =>
      have hj5:=E4 h5
      obtain ⟨s0,hcT,hG9⟩:=hK
      obtain ⟨_,⟨h0,_⟩ | ⟨_,_,_,_,h0,_⟩,_⟩:=hG9
      ·omega
      ·cases h0
     obtain rfl:=C6 h5 hj
     have hwS:IntKind.i64.wrap (ship - B6 t ship z.ship)=ship - B6 t ship z.ship:=A9 (by omega) (by omega)
     conv=>whnf
     rw [hin];conv=>whnf
     refine D9 at18j rfl (by omega) hfj ?_;conv=>whnf
     rw [hwS]
     refine G6 at18j rfl (by omega) hfj (by rfl) ?_;conv=>whnf
     have hf9:(C9 f 0 (.agg [(.emp),(.emp),eI (ship - B6 t ship z.ship),eI (B6 t ship z.ship)])) 0=.agg [(.emp),(.emp),eI (ship - B6 t ship z.ship),eI (B6 t ship z.ship)]:=A2 ..
     have hK9:ROut (fun s t'=>ROut D7 2 1 (fun k=>eI (H0 nets TX nets.length k)) nets.length s (.emp) t') 2 1 (fun k=>eI (gI TX k)) nets.length (upd S1 b18 ⟨191,4,1,(C9 f 0 (.agg [(.emp),(.emp),eI (ship - B6 t ship z.ship),eI (B6 t ship z.ship)]))⟩) (.emp) (upd u b18 ⟨191,4,1,(C9 f 0 (.agg [(.emp),(.emp),eI (ship - B6 t ship z.ship),eI (B6 t ship z.ship)]))⟩):=ROut.putB hBGn hK _
     have hS9:=ROut.sup hBGn hK9
     have at18e:=hS9 b18 _ (A0 ..)
     have at12e:=hS9 b12 _ (by rw [A4 hb12n];exact at12b)
     cases exempt
     ·conv=>whnf
      refine D9 at18e rfl (by omega) hf9 ?_;conv=>whnf
      refine G6 at12e rfl (by omega) hf12 (by rfl) ?_;conv=>whnf
      refine D9 (A0 ..) rfl (by omega) (A2 ..) ?_;conv=>whnf
      have hK10:=ROut.write (y':=⟨191,4,1,C9 f12 0 (.agg [(.emp),(.emp),eI (ship - B6 t ship z.ship),eI (B6 t ship z.ship)])⟩) hBGn hK9 (show (upd S1 b18 ⟨191,4,1,(C9 f 0 (.agg [(.emp),(.emp),eI (ship - B6 t ship z.ship),eI (B6 t ship z.ship)]))⟩) b12=_ by rw [A4 hb12n];exact at12b)
      obtain ⟨s0,hcT,hG9⟩:=hK10
      obtain ⟨c1,k1,k2⟩:=ROut.shift B1 hG9
      obtain ⟨c2,k3,k4⟩:=ROut.shift B1 (show ROut D7 2 1 (fun k=>eI (gI TX k)) nets.length _ ((.emp)) c1 from ⟨s0,hcT,k2⟩)
      exact ⟨(.emp),(.emp),c1,c2,(by first | rfl | (rw [hin];rfl)),k1.trans (F4 (.inl ⟨hin,rfl⟩)),(by rw [if_neg (by simp),eTX];exact k3),((hs1.upd hb18').over hb12).trans k4⟩
     ·conv=>whnf
      refine mkO rfl rfl rfl (by show 8 * nets.length≤_;omega) (by omega) (by rfl) (fun bz hbz=>?_)
      have hz18:b18≠bz:=fun e=>by subst e;cases (at18e.symm.trans hbz)
      have hz12:b12≠bz:=fun e=>by subst e;cases (at12e.symm.trans hbz)
      have hzst:st bz=none:=((hs1.upd hb18').trans hS9).none hbz
      conv=>whnf
      refine G6 ((A4 hz18).trans at18e) rfl (by omega) hf9 (by rfl) ?_;conv=>whnf
      refine G6 (A0 ..) rfl (by omega) (A2 ..) (by rfl) ?_
      rw [B7];conv=>whnf
      refine D9 (A0 ..) rfl (by omega) (A2 ..) ?_;conv=>whnf
      refine G6 ((A4 hb12n).trans ((A4 hz12).trans at12e)) rfl (by omega) hf12 (by rfl) ?_;conv=>whnf
      refine D9 (A0 ..) rfl (by omega) (A2 ..) ?_;conv=>whnf
      have hG0:=ROut.dropped hBGn hK9
      have hG1:=(D8 B1 _ _ _ _ _).begin (y:=⟨2,1,nets.length,fun _=>G9 r2.zero⟩) hG0 hbz
      have hG2:=ROut.write (y':=⟨191,4,1,C9 (C9 (C9 f 0 (.agg [(.emp),(.emp),eI (ship - B6 t ship z.ship),eI (B6 t ship z.ship)])) 0 (.agg [(.emp),.own 1 bz 0 nets.length,eI (ship - B6 t ship z.ship),eI (B6 t ship z.ship)])) 0 (.agg [(.emp),.own 1 bz 0 nets.length,eI (ship - B6 t ship z.ship),eI 0])⟩) B1 hG1 ((A4 hz18).trans (A0 ..))
      have hG3:=ROut.write (y':=⟨191,4,1,C9 f12 0 (.agg [(.emp),.own 1 bz 0 nets.length,eI (ship - B6 t ship z.ship),eI 0])⟩) B1 hG2 ((A4 hb12n).trans ((A4 hz12).trans ((A4 hb12n).trans at12b)))
      obtain ⟨c1,k1,k2⟩:=ROut.shift B1 hG3
      have atz:=k2 bz _ ((A4 hz12.symm).trans ((A4 hz18.symm).trans (A0 ..)))
      have hsz:D7 st c1:=(((((hs1.upd hb18').over hzst).over hb18st).over hb12).trans k2)
      refine ⟨(.emp),.own 1 bz 0 nets.length,c1,del c1 bz,(by first | rfl | (rw [hin];rfl)),k1.trans (F4 (.inl ⟨hin,rfl⟩)),?_,D7.del hsz hzst⟩
      rw [if_pos rfl,show A6 (List.replicate nets.length 0)=.arr 1 nets.length (fun k=>eI ((List.replicate nets.length (0:Int)).getD k default)) by unfold A6 B2;rw [List.length_replicate]]
      exact G0 atz rfl (Nat.le_refl _) (fun k hk=>by rw [T9];rfl)
   ·have hBGn:=D8 B1 2 1 (fun k=>eI (H0 nets TX 0 k)) nets.length ((.own 1 bg2 0 nets.length))
    have hf9:=hf
    have hK9:=hK
    cases hin:t.incl
    case false =>
     refine A4P [2,4,5,6,12,18,21] ?_;conv=>whnf
     intro I;conv=>whnf
     cases decide ((0:Int)<(nets.length:Int))
     case' true =>
      conv=>whnf
      rw [hin]
     all_goals
      conv=>whnf
      rw [hin];conv=>whnf
      have hS9:=ROut.sup hBGn hK9
      have at18e:=hS9 b18 _ (A0 ..)
      have at12e:=hS9 b12 _ (by rw [A4 hb12n];exact at12b)
      cases exempt
      ·conv=>whnf
       refine D9 at18e rfl (by omega) hf9 ?_;conv=>whnf
       refine G6 at12e rfl (by omega) hf12 (by rfl) ?_;conv=>whnf
       refine D9 (A0 ..) rfl (by omega) (A2 ..) ?_;conv=>whnf
       have hK10:=ROut.write (y':=⟨191,4,1,C9 f12 0 (.agg [(.own 1 bg2 0 nets.length),(.emp),eI ship,eI (B6 t ship z.ship)])⟩) hBGn hK9 (show (upd S1 b18 ⟨191,4,1,f⟩) b12=_ by rw [A4 hb12n];exact at12b)
       obtain ⟨s0,hcT,hG9⟩:=hK10
       obtain ⟨c1,k1,k2⟩:=ROut.shift B1 hG9
       obtain ⟨c2,k3,k4⟩:=ROut.shift B1 (show ROut D7 2 1 (fun k=>eI (gI TX k)) nets.length _ ((.emp)) c1 from ⟨s0,hcT,k2⟩)
       exact ⟨(.own 1 bg2 0 nets.length),(.emp),c1,c2,(by first | rfl | (rw [hin];rfl)),k1.trans (F4 (.inr ⟨hin,rfl⟩)),(by rw [if_neg (by simp),eTX];exact k3),((hs1.upd hb18').over hb12).trans k4⟩
      ·conv=>whnf
       refine mkO rfl rfl rfl (by show 8 * nets.length≤_;omega) (by omega) (by rfl) (fun bz hbz=>?_)
       have hz18:b18≠bz:=fun e=>by subst e;cases (at18e.symm.trans hbz)
       have hz12:b12≠bz:=fun e=>by subst e;cases (at12e.symm.trans hbz)
       have hzst:st bz=none:=((hs1.upd hb18').trans hS9).none hbz
       conv=>whnf
       refine G6 ((A4 hz18).trans at18e) rfl (by omega) hf9 (by rfl) ?_;conv=>whnf
       refine G6 (A0 ..) rfl (by omega) (A2 ..) (by rfl) ?_
       rw [B7];conv=>whnf
       refine D9 (A0 ..) rfl (by omega) (A2 ..) ?_;conv=>whnf
       refine G6 ((A4 hb12n).trans ((A4 hz12).trans at12e)) rfl (by omega) hf12 (by rfl) ?_;conv=>whnf
       refine D9 (A0 ..) rfl (by omega) (A2 ..) ?_;conv=>whnf
       have hG0:=ROut.dropped hBGn hK9
       have hG1:=(D8 B1 _ _ _ _ _).begin (y:=⟨2,1,nets.length,fun _=>G9 r2.zero⟩) hG0 hbz
       have hG2:=ROut.write (y':=⟨191,4,1,C9 (C9 f 0 (.agg [(.own 1 bg2 0 nets.length),.own 1 bz 0 nets.length,eI ship,eI (B6 t ship z.ship)])) 0 (.agg [(.own 1 bg2 0 nets.length),.own 1 bz 0 nets.length,eI ship,eI 0])⟩) B1 hG1 ((A4 hz18).trans (A0 ..))
       have hG3:=ROut.write (y':=⟨191,4,1,C9 f12 0 (.agg [(.own 1 bg2 0 nets.length),.own 1 bz 0 nets.length,eI ship,eI 0])⟩) B1 hG2 ((A4 hb12n).trans ((A4 hz12).trans ((A4 hb12n).trans at12b)))
       obtain ⟨c1,k1,k2⟩:=ROut.shift B1 hG3
       have atz:=k2 bz _ ((A4 hz12.symm).trans ((A4 hz18.symm).trans (A0 ..)))
       have hsz:D7 st c1:=(((((hs1.upd hb18').over hzst).over hb18st).over hb12).trans k2)
       refine ⟨(.own 1 bg2 0 nets.length),.own 1 bz 0 nets.length,c1,del c1 bz,(by first | rfl | (rw [hin];rfl)),k1.trans (F4 (.inr ⟨hin,rfl⟩)),?_,D7.del hsz hzst⟩
       rw [if_pos rfl,show A6 (List.replicate nets.length 0)=.arr 1 nets.length (fun k=>eI ((List.replicate nets.length (0:Int)).getD k default)) by unfold A6 B2;rw [List.length_replicate]]
       exact G0 atz rfl (Nat.le_refl _) (fun k hk=>by rw [T9];rfl)
    case true =>
     clear hf9 hK9 hBGn
     refine lp nets.length [2,4,5,6,12,18,21] (fun j vs u=>vs=[eB exempt,A6 nets,eI ship,.fptr (L7 t) 0,.optr 4 b12 0 0,.optr 4 b18 0 0,eI j]∧ROut (fun s t'=>ROut D7 2 1 (fun k=>eI (H0 nets TX j k)) nets.length s (.own 1 bg2 0 nets.length) t') 2 1 (fun k=>eI (gI TX k)) nets.length (upd S1 b18 ⟨191,4,1,f⟩) (.emp) (u)) ?_ ?_
     ·conv=>whnf
      exact ⟨rfl,hK⟩
     clear hK
     rintro j vs u hj ⟨rfl,hK⟩
     have hBGn:=D8 B1 2 1 (fun k=>eI (H0 nets TX j k)) nets.length ((.own 1 bg2 0 nets.length))
     have hSj:=ROut.sup hBGn hK
     have at18j:=hSj b18 _ (A0 ..)
     have hfj:f 0=.agg [(.own 1 bg2 0 nets.length),(.emp),eI ship,eI (B6 t ship z.ship)]:=by first | exact hf | exact A2 ..
     conv=>whnf
     cases h5:decide ((j:Int)<(nets.length:Int))
     case true =>
      have hj5:=E4 h5
      obtain ⟨s0,hcT,hG9⟩:=hK
      obtain ⟨h0,_⟩ | ⟨_,_,_,_,h0,_⟩:=hcT
      ·omega
      ·cases h0
     obtain rfl:=C6 h5 hj
     have hwS:IntKind.i64.wrap (ship - B6 t ship z.ship)=ship - B6 t ship z.ship:=A9 (by omega) (by omega)
     conv=>whnf
     rw [hin];conv=>whnf
     refine D9 at18j rfl (by omega) hfj ?_;conv=>whnf
     rw [hwS]
     refine G6 at18j rfl (by omega) hfj (by rfl) ?_;conv=>whnf
     have hf9:(C9 f 0 (.agg [(.own 1 bg2 0 nets.length),(.emp),eI (ship - B6 t ship z.ship),eI (B6 t ship z.ship)])) 0=.agg [(.own 1 bg2 0 nets.length),(.emp),eI (ship - B6 t ship z.ship),eI (B6 t ship z.ship)]:=A2 ..
     have hK9:ROut (fun s t'=>ROut D7 2 1 (fun k=>eI (H0 nets TX nets.length k)) nets.length s (.own 1 bg2 0 nets.length) t') 2 1 (fun k=>eI (gI TX k)) nets.length (upd S1 b18 ⟨191,4,1,(C9 f 0 (.agg [(.own 1 bg2 0 nets.length),(.emp),eI (ship - B6 t ship z.ship),eI (B6 t ship z.ship)]))⟩) (.emp) (upd u b18 ⟨191,4,1,(C9 f 0 (.agg [(.own 1 bg2 0 nets.length),(.emp),eI (ship - B6 t ship z.ship),eI (B6 t ship z.ship)]))⟩):=ROut.putB hBGn hK _
     have hS9:=ROut.sup hBGn hK9
     have at18e:=hS9 b18 _ (A0 ..)
     have at12e:=hS9 b12 _ (by rw [A4 hb12n];exact at12b)
     cases exempt
     ·conv=>whnf
      refine D9 at18e rfl (by omega) hf9 ?_;conv=>whnf
      refine G6 at12e rfl (by omega) hf12 (by rfl) ?_;conv=>whnf
      refine D9 (A0 ..) rfl (by omega) (A2 ..) ?_;conv=>whnf
      have hK10:=ROut.write (y':=⟨191,4,1,C9 f12 0 (.agg [(.own 1 bg2 0 nets.length),(.emp),eI (ship - B6 t ship z.ship),eI (B6 t ship z.ship)])⟩) hBGn hK9 (show (upd S1 b18 ⟨191,4,1,(C9 f 0 (.agg [(.own 1 bg2 0 nets.length),(.emp),eI (ship - B6 t ship z.ship),eI (B6 t ship z.ship)]))⟩) b12=_ by rw [A4 hb12n];exact at12b)
      obtain ⟨s0,hcT,hG9⟩:=hK10
      obtain ⟨c1,k1,k2⟩:=ROut.shift B1 hG9
      obtain ⟨c2,k3,k4⟩:=ROut.shift B1 (show ROut D7 2 1 (fun k=>eI (gI TX k)) nets.length _ ((.emp)) c1 from ⟨s0,hcT,k2⟩)
      exact ⟨(.own 1 bg2 0 nets.length),(.emp),c1,c2,(by first | rfl | (rw [hin];rfl)),k1.trans (F4 (.inl ⟨hin,rfl⟩)),(by rw [if_neg (by simp),eTX];exact k3),((hs1.upd hb18').over hb12).trans k4⟩
     ·conv=>whnf
      refine mkO rfl rfl rfl (by show 8 * nets.length≤_;omega) (by omega) (by rfl) (fun bz hbz=>?_)
      have hz18:b18≠bz:=fun e=>by subst e;cases (at18e.symm.trans hbz)
      have hz12:b12≠bz:=fun e=>by subst e;cases (at12e.symm.trans hbz)
      have hzst:st bz=none:=((hs1.upd hb18').trans hS9).none hbz
      conv=>whnf
      refine G6 ((A4 hz18).trans at18e) rfl (by omega) hf9 (by rfl) ?_;conv=>whnf
      refine G6 (A0 ..) rfl (by omega) (A2 ..) (by rfl) ?_
      rw [B7];conv=>whnf
      refine D9 (A0 ..) rfl (by omega) (A2 ..) ?_;conv=>whnf
      refine G6 ((A4 hb12n).trans ((A4 hz12).trans at12e)) rfl (by omega) hf12 (by rfl) ?_;conv=>whnf
      refine D9 (A0 ..) rfl (by omega) (A2 ..) ?_;conv=>whnf
      have hG0:=ROut.dropped hBGn hK9
      have hG1:=(D8 B1 _ _ _ _ _).begin (y:=⟨2,1,nets.length,fun _=>G9 r2.zero⟩) hG0 hbz
      have hG2:=ROut.write (y':=⟨191,4,1,C9 (C9 (C9 f 0 (.agg [(.own 1 bg2 0 nets.length),(.emp),eI (ship - B6 t ship z.ship),eI (B6 t ship z.ship)])) 0 (.agg [(.own 1 bg2 0 nets.length),.own 1 bz 0 nets.length,eI (ship - B6 t ship z.ship),eI (B6 t ship z.ship)])) 0 (.agg [(.own 1 bg2 0 nets.length),.own 1 bz 0 nets.length,eI (ship - B6 t ship z.ship),eI 0])⟩) B1 hG1 ((A4 hz18).trans (A0 ..))
      have hG3:=ROut.write (y':=⟨191,4,1,C9 f12 0 (.agg [(.own 1 bg2 0 nets.length),.own 1 bz 0 nets.length,eI (ship - B6 t ship z.ship),eI 0])⟩) B1 hG2 ((A4 hb12n).trans ((A4 hz12).trans ((A4 hb12n).trans at12b)))
      obtain ⟨c1,k1,k2⟩:=ROut.shift B1 hG3
      have atz:=k2 bz _ ((A4 hz12.symm).trans ((A4 hz18.symm).trans (A0 ..)))
      have hsz:D7 st c1:=(((((hs1.upd hb18').over hzst).over hb18st).over hb12).trans k2)
      refine ⟨(.own 1 bg2 0 nets.length),.own 1 bz 0 nets.length,c1,del c1 bz,(by first | rfl | (rw [hin];rfl)),k1.trans (F4 (.inl ⟨hin,rfl⟩)),?_,D7.del hsz hzst⟩
      rw [if_pos rfl,show A6 (List.replicate nets.length 0)=.arr 1 nets.length (fun k=>eI ((List.replicate nets.length (0:Int)).getD k default)) by unfold A6 B2;rw [List.length_replicate]]
      exact G0 atz rfl (Nat.le_refl _) (fun k hk=>by rw [T9];rfl)
   ·have hBGn:=D8 B1 2 1 (fun k=>eI (H0 nets TX 0 k)) nets.length ((.emp))
    have hf9:=hf
    have hK9:=hK
    cases hin:t.incl
    case false =>
     refine A4P [2,4,5,6,12,18,21] ?_;conv=>whnf
     intro I;conv=>whnf
     cases decide ((0:Int)<(nets.length:Int))
     case' true =>
      conv=>whnf
      rw [hin]
     all_goals
      conv=>whnf
      rw [hin];conv=>whnf
      have hS9:=ROut.sup hBGn hK9
      have at18e:=hS9 b18 _ (A0 ..)
      have at12e:=hS9 b12 _ (by rw [A4 hb12n];exact at12b)
      cases exempt
      ·conv=>whnf
       refine D9 at18e rfl (by omega) hf9 ?_;conv=>whnf
       refine G6 at12e rfl (by omega) hf12 (by rfl) ?_;conv=>whnf
       refine D9 (A0 ..) rfl (by omega) (A2 ..) ?_;conv=>whnf
       have hK10:=ROut.write (y':=⟨191,4,1,C9 f12 0 (.agg [(.emp),(.own 1 bt 0 nets.length),eI ship,eI (B6 t ship z.ship)])⟩) hBGn hK9 (show (upd S1 b18 ⟨191,4,1,f⟩) b12=_ by rw [A4 hb12n];exact at12b)
       obtain ⟨s0,hcT,hG9⟩:=hK10
       obtain ⟨c1,k1,k2⟩:=ROut.shift B1 hG9
       obtain ⟨c2,k3,k4⟩:=ROut.shift B1 (show ROut D7 2 1 (fun k=>eI (gI TX k)) nets.length _ ((.own 1 bt 0 nets.length)) c1 from ⟨s0,hcT,k2⟩)
       exact ⟨(.emp),(.own 1 bt 0 nets.length),c1,c2,(by first | rfl | (rw [hin];rfl)),k1.trans (F4 (.inr ⟨hin,rfl⟩)),(by rw [if_neg (by simp),eTX];exact k3),((hs1.upd hb18').over hb12).trans k4⟩
      ·conv=>whnf
       refine mkO rfl rfl rfl (by show 8 * nets.length≤_;omega) (by omega) (by rfl) (fun bz hbz=>?_)
       have hz18:b18≠bz:=fun e=>by subst e;cases (at18e.symm.trans hbz)
       have hz12:b12≠bz:=fun e=>by subst e;cases (at12e.symm.trans hbz)
       have hzst:st bz=none:=((hs1.upd hb18').trans hS9).none hbz
       conv=>whnf
       refine G6 ((A4 hz18).trans at18e) rfl (by omega) hf9 (by rfl) ?_;conv=>whnf
       refine G6 (A0 ..) rfl (by omega) (A2 ..) (by rfl) ?_
       rw [B7];conv=>whnf
       refine D9 (A0 ..) rfl (by omega) (A2 ..) ?_;conv=>whnf
       refine G6 ((A4 hb12n).trans ((A4 hz12).trans at12e)) rfl (by omega) hf12 (by rfl) ?_;conv=>whnf
       refine D9 (A0 ..) rfl (by omega) (A2 ..) ?_;conv=>whnf
       have hG0:=ROut.dropped hBGn hK9
       have hG1:=(D8 B1 _ _ _ _ _).begin (y:=⟨2,1,nets.length,fun _=>G9 r2.zero⟩) hG0 hbz
       have hG2:=ROut.write (y':=⟨191,4,1,C9 (C9 f 0 (.agg [(.emp),.own 1 bz 0 nets.length,eI ship,eI (B6 t ship z.ship)])) 0 (.agg [(.emp),.own 1 bz 0 nets.length,eI ship,eI 0])⟩) B1 hG1 ((A4 hz18).trans (A0 ..))
       have hG3:=ROut.write (y':=⟨191,4,1,C9 f12 0 (.agg [(.emp),.own 1 bz 0 nets.length,eI ship,eI 0])⟩) B1 hG2 ((A4 hb12n).trans ((A4 hz12).trans ((A4 hb12n).trans at12b)))
       obtain ⟨c1,k1,k2⟩:=ROut.shift B1 hG3
       have atz:=k2 bz _ ((A4 hz12.symm).trans ((A4 hz18.symm).trans (A0 ..)))
       have hsz:D7 st c1:=(((((hs1.upd hb18').over hzst).over hb18st).over hb12).trans k2)
       refine ⟨(.emp),.own 1 bz 0 nets.length,c1,del c1 bz,(by first | rfl | (rw [hin];rfl)),k1.trans (F4 (.inr ⟨hin,rfl⟩)),?_,D7.del hsz hzst⟩
       rw [if_pos rfl,show A6 (List.replicate nets.length 0)=.arr 1 nets.length (fun k=>eI ((List.replicate nets.length (0:Int)).getD k default)) by unfold A6 B2;rw [List.length_replicate]]
       exact G0 atz rfl (Nat.le_refl _) (fun k hk=>by rw [T9];rfl)
    case true =>
     clear hf9 hK9 hBGn
     refine lp nets.length [2,4,5,6,12,18,21] (fun j vs u=>vs=[eB exempt,A6 nets,eI ship,.fptr (L7 t) 0,.optr 4 b12 0 0,.optr 4 b18 0 0,eI j]∧ROut (fun s t'=>ROut D7 2 1 (fun k=>eI (H0 nets TX j k)) nets.length s (.emp) t') 2 1 (fun k=>eI (gI TX k)) nets.length (upd S1 b18 ⟨191,4,1,f⟩) (.own 1 bt 0 nets.length) (u)) ?_ ?_
     ·conv=>whnf
      exact ⟨rfl,hK⟩
     clear hK
     rintro j vs u hj ⟨rfl,hK⟩
     have hBGn:=D8 B1 2 1 (fun k=>eI (H0 nets TX j k)) nets.length ((.emp))
     have hSj:=ROut.sup hBGn hK
     have at18j:=hSj b18 _ (A0 ..)
     have hfj:f 0=.agg [(.emp),(.own 1 bt 0 nets.length),eI ship,eI (B6 t ship z.ship)]:=by first | exact hf | exact A2 ..
     conv=>whnf
     cases h5:decide ((j:Int)<(nets.length:Int))
     case true =>
      have hj5:=E4 h5
      obtain ⟨s0,hcT,hG9⟩:=hK
      obtain ⟨_,⟨h0,_⟩ | ⟨_,_,_,_,h0,_⟩,_⟩:=hG9
      ·omega
      ·cases h0
     obtain rfl:=C6 h5 hj
     have hwS:IntKind.i64.wrap (ship - B6 t ship z.ship)=ship - B6 t ship z.ship:=A9 (by omega) (by omega)
     conv=>whnf
     rw [hin];conv=>whnf
     refine D9 at18j rfl (by omega) hfj ?_;conv=>whnf
     rw [hwS]
     refine G6 at18j rfl (by omega) hfj (by rfl) ?_;conv=>whnf
     have hf9:(C9 f 0 (.agg [(.emp),(.own 1 bt 0 nets.length),eI (ship - B6 t ship z.ship),eI (B6 t ship z.ship)])) 0=.agg [(.emp),(.own 1 bt 0 nets.length),eI (ship - B6 t ship z.ship),eI (B6 t ship z.ship)]:=A2 ..
     have hK9:ROut (fun s t'=>ROut D7 2 1 (fun k=>eI (H0 nets TX nets.length k)) nets.length s (.emp) t') 2 1 (fun k=>eI (gI TX k)) nets.length (upd S1 b18 ⟨191,4,1,(C9 f 0 (.agg [(.emp),(.own 1 bt 0 nets.length),eI (ship - B6 t ship z.ship),eI (B6 t ship z.ship)]))⟩) (.own 1 bt 0 nets.length) (upd u b18 ⟨191,4,1,(C9 f 0 (.agg [(.emp),(.own 1 bt 0 nets.length),eI (ship - B6 t ship z.ship),eI (B6 t ship z.ship)]))⟩):=ROut.putB hBGn hK _
     have hS9:=ROut.sup hBGn hK9
     have at18e:=hS9 b18 _ (A0 ..)
     have at12e:=hS9 b12 _ (by rw [A4 hb12n];exact at12b)
     cases exempt
     ·conv=>whnf
      refine D9 at18e rfl (by omega) hf9 ?_;conv=>whnf
      refine G6 at12e rfl (by omega) hf12 (by rfl) ?_;conv=>whnf
      refine D9 (A0 ..) rfl (by omega) (A2 ..) ?_;conv=>whnf
      have hK10:=ROut.write (y':=⟨191,4,1,C9 f12 0 (.agg [(.emp),(.own 1 bt 0 nets.length),eI (ship - B6 t ship z.ship),eI (B6 t ship z.ship)])⟩) hBGn hK9 (show (upd S1 b18 ⟨191,4,1,(C9 f 0 (.agg [(.emp),(.own 1 bt 0 nets.length),eI (ship - B6 t ship z.ship),eI (B6 t ship z.ship)]))⟩) b12=_ by rw [A4 hb12n];exact at12b)
      obtain ⟨s0,hcT,hG9⟩:=hK10
      obtain ⟨c1,k1,k2⟩:=ROut.shift B1 hG9
      obtain ⟨c2,k3,k4⟩:=ROut.shift B1 (show ROut D7 2 1 (fun k=>eI (gI TX k)) nets.length _ ((.own 1 bt 0 nets.length)) c1 from ⟨s0,hcT,k2⟩)
      exact ⟨(.emp),(.own 1 bt 0 nets.length),c1,c2,(by first | rfl | (rw [hin];rfl)),k1.trans (F4 (.inl ⟨hin,rfl⟩)),(by rw [if_neg (by simp),eTX];exact k3),((hs1.upd hb18').over hb12).trans k4⟩
     ·conv=>whnf
      refine mkO rfl rfl rfl (by show 8 * nets.length≤_;omega) (by omega) (by rfl) (fun bz hbz=>?_)
      have hz18:b18≠bz:=fun e=>by subst e;cases (at18e.symm.trans hbz)
      have hz12:b12≠bz:=fun e=>by subst e;cases (at12e.symm.trans hbz)
      have hzst:st bz=none:=((hs1.upd hb18').trans hS9).none hbz
      conv=>whnf
      refine G6 ((A4 hz18).trans at18e) rfl (by omega) hf9 (by rfl) ?_;conv=>whnf
      refine G6 (A0 ..) rfl (by omega) (A2 ..) (by rfl) ?_
      rw [B7];conv=>whnf
      refine D9 (A0 ..) rfl (by omega) (A2 ..) ?_;conv=>whnf
      refine G6 ((A4 hb12n).trans ((A4 hz12).trans at12e)) rfl (by omega) hf12 (by rfl) ?_;conv=>whnf
      refine D9 (A0 ..) rfl (by omega) (A2 ..) ?_;conv=>whnf
      have hG0:=ROut.dropped hBGn hK9
      have hG1:=(D8 B1 _ _ _ _ _).begin (y:=⟨2,1,nets.length,fun _=>G9 r2.zero⟩) hG0 hbz
      have hG2:=ROut.write (y':=⟨191,4,1,C9 (C9 (C9 f 0 (.agg [(.emp),(.own 1 bt 0 nets.length),eI (ship - B6 t ship z.ship),eI (B6 t ship z.ship)])) 0 (.agg [(.emp),.own 1 bz 0 nets.length,eI (ship - B6 t ship z.ship),eI (B6 t ship z.ship)])) 0 (.agg [(.emp),.own 1 bz 0 nets.length,eI (ship - B6 t ship z.ship),eI 0])⟩) B1 hG1 ((A4 hz18).trans (A0 ..))
      have hG3:=ROut.write (y':=⟨191,4,1,C9 f12 0 (.agg [(.emp),.own 1 bz 0 nets.length,eI (ship - B6 t ship z.ship),eI 0])⟩) B1 hG2 ((A4 hb12n).trans ((A4 hz12).trans ((A4 hb12n).trans at12b)))
      obtain ⟨c1,k1,k2⟩:=ROut.shift B1 hG3
      have atz:=k2 bz _ ((A4 hz12.symm).trans ((A4 hz18.symm).trans (A0 ..)))
      have hsz:D7 st c1:=(((((hs1.upd hb18').over hzst).over hb18st).over hb12).trans k2)
      refine ⟨(.emp),.own 1 bz 0 nets.length,c1,del c1 bz,(by first | rfl | (rw [hin];rfl)),k1.trans (F4 (.inl ⟨hin,rfl⟩)),?_,D7.del hsz hzst⟩
      rw [if_pos rfl,show A6 (List.replicate nets.length 0)=.arr 1 nets.length (fun k=>eI ((List.replicate nets.length (0:Int)).getD k default)) by unfold A6 B2;rw [List.length_replicate]]
      exact G0 atz rfl (Nat.le_refl _) (fun k hk=>by rw [T9];rfl)
   ·have hBGn:=D8 B1 2 1 (fun k=>eI (H0 nets TX 0 k)) nets.length ((.own 1 bg2 0 nets.length))
    have hf9:=hf
    have hK9:=hK
    cases hin:t.incl
    case false =>
     refine A4P [2,4,5,6,12,18,21] ?_;conv=>whnf
     intro I;conv=>whnf
     cases decide ((0:Int)<(nets.length:Int))
     case' true =>
      conv=>whnf
      rw [hin]
     all_goals
      conv=>whnf
      rw [hin];conv=>whnf
      have hS9:=ROut.sup hBGn hK9
      have at18e:=hS9 b18 _ (A0 ..)
      have at12e:=hS9 b12 _ (by rw [A4 hb12n];exact at12b)
      cases exempt
      ·conv=>whnf
       refine D9 at18e rfl (by omega) hf9 ?_;conv=>whnf
       refine G6 at12e rfl (by omega) hf12 (by rfl) ?_;conv=>whnf
       refine D9 (A0 ..) rfl (by omega) (A2 ..) ?_;conv=>whnf
       have hK10:=ROut.write (y':=⟨191,4,1,C9 f12 0 (.agg [(.own 1 bg2 0 nets.length),(.own 1 bt 0 nets.length),eI ship,eI (B6 t ship z.ship)])⟩) hBGn hK9 (show (upd S1 b18 ⟨191,4,1,f⟩) b12=_ by rw [A4 hb12n];exact at12b)
       obtain ⟨s0,hcT,hG9⟩:=hK10
       obtain ⟨c1,k1,k2⟩:=ROut.shift B1 hG9
       obtain ⟨c2,k3,k4⟩:=ROut.shift B1 (show ROut D7 2 1 (fun k=>eI (gI TX k)) nets.length _ ((.own 1 bt 0 nets.length)) c1 from ⟨s0,hcT,k2⟩)
       exact ⟨(.own 1 bg2 0 nets.length),(.own 1 bt 0 nets.length),c1,c2,(by first | rfl | (rw [hin];rfl)),k1.trans (F4 (.inr ⟨hin,rfl⟩)),(by rw [if_neg (by simp),eTX];exact k3),((hs1.upd hb18').over hb12).trans k4⟩
      ·conv=>whnf
       refine mkO rfl rfl rfl (by show 8 * nets.length≤_;omega) (by omega) (by rfl) (fun bz hbz=>?_)
       have hz18:b18≠bz:=fun e=>by subst e;cases (at18e.symm.trans hbz)
       have hz12:b12≠bz:=fun e=>by subst e;cases (at12e.symm.trans hbz)
       have hzst:st bz=none:=((hs1.upd hb18').trans hS9).none hbz
       conv=>whnf
       refine G6 ((A4 hz18).trans at18e) rfl (by omega) hf9 (by rfl) ?_;conv=>whnf
       refine G6 (A0 ..) rfl (by omega) (A2 ..) (by rfl) ?_
       rw [B7];conv=>whnf
       refine D9 (A0 ..) rfl (by omega) (A2 ..) ?_;conv=>whnf
       refine G6 ((A4 hb12n).trans ((A4 hz12).trans at12e)) rfl (by omega) hf12 (by rfl) ?_;conv=>whnf
       refine D9 (A0 ..) rfl (by omega) (A2 ..) ?_;conv=>whnf
       have hG0:=ROut.dropped hBGn hK9
       have hG1:=(D8 B1 _ _ _ _ _).begin (y:=⟨2,1,nets.length,fun _=>G9 r2.zero⟩) hG0 hbz
       have hG2:=ROut.write (y':=⟨191,4,1,C9 (C9 f 0 (.agg [(.own 1 bg2 0 nets.length),.own 1 bz 0 nets.length,eI ship,eI (B6 t ship z.ship)])) 0 (.agg [(.own 1 bg2 0 nets.length),.own 1 bz 0 nets.length,eI ship,eI 0])⟩) B1 hG1 ((A4 hz18).trans (A0 ..))
       have hG3:=ROut.write (y':=⟨191,4,1,C9 f12 0 (.agg [(.own 1 bg2 0 nets.length),.own 1 bz 0 nets.length,eI ship,eI 0])⟩) B1 hG2 ((A4 hb12n).trans ((A4 hz12).trans ((A4 hb12n).trans at12b)))
       obtain ⟨c1,k1,k2⟩:=ROut.shift B1 hG3
       have atz:=k2 bz _ ((A4 hz12.symm).trans ((A4 hz18.symm).trans (A0 ..)))
       have hsz:D7 st c1:=(((((hs1.upd hb18').over hzst).over hb18st).over hb12).trans k2)
       refine ⟨(.own 1 bg2 0 nets.length),.own 1 bz 0 nets.length,c1,del c1 bz,(by first | rfl | (rw [hin];rfl)),k1.trans (F4 (.inr ⟨hin,rfl⟩)),?_,D7.del hsz hzst⟩
       rw [if_pos rfl,show A6 (List.replicate nets.length 0)=.arr 1 nets.length (fun k=>eI ((List.replicate nets.length (0:Int)).getD k default)) by unfold A6 B2;rw [List.length_replicate]]
       exact G0 atz rfl (Nat.le_refl _) (fun k hk=>by rw [T9];rfl)
    case true =>
     clear hf9 hK9 hBGn
     refine lp nets.length [2,4,5,6,12,18,21] (fun j vs u=>vs=[eB exempt,A6 nets,eI ship,.fptr (L7 t) 0,.optr 4 b12 0 0,.optr 4 b18 0 0,eI j]∧ROut (fun s t'=>ROut D7 2 1 (fun k=>eI (H0 nets TX j k)) nets.length s (.own 1 bg2 0 nets.length) t') 2 1 (fun k=>eI (gI TX k)) nets.length (upd S1 b18 ⟨191,4,1,f⟩) (.own 1 bt 0 nets.length) (u)) ?_ ?_
     ·conv=>whnf
      exact ⟨rfl,hK⟩
     clear hK
     rintro j vs u hj ⟨rfl,hK⟩
     have hBGn:=D8 B1 2 1 (fun k=>eI (H0 nets TX j k)) nets.length ((.own 1 bg2 0 nets.length))
     have hSj:=ROut.sup hBGn hK
     have at18j:=hSj b18 _ (A0 ..)
     have hfj:f 0=.agg [(.own 1 bg2 0 nets.length),(.own 1 bt 0 nets.length),eI ship,eI (B6 t ship z.ship)]:=by first | exact hf | exact A2 ..
     conv=>whnf
     cases h5:decide ((j:Int)<(nets.length:Int))
     case true =>
      have hj5:=E4 h5
      obtain ⟨s0,hcT,hG9⟩:=hK
      obtain ⟨gt,atT,hgt⟩:∃ gt,u bt=some ⟨2,1,nets.length,gt⟩∧∀ k,k<nets.length→gt k=eI (gI TX k):=by
       rcases hcT with ⟨h0,_⟩ | ⟨_,b,g,h3,h4,h5,h6⟩
       ·omega
       ·injection h4 with _ h4 _ _
        subst h4
        exact ⟨g,hBGn.sup hG9 bt _ (by rw [h5];exact A0 ..),h6⟩
      obtain ⟨gg,atG,hgg,hput⟩:=ROut.cell B1 hG9 (by omega)
      have hx1:=hnx j hj5
      have hx2:=htx j hj5
      have hgw:IntKind.i64.wrap (gI nets ((j:Nat):Int).toNat - gI TX j)=gI nets j - gI TX j:=A9 (show _≤gI nets j - gI TX j by omega) (show gI nets j - gI TX j≤_ by omega)
      conv=>whnf
      rw [hin];conv=>whnf
      refine .inl ⟨[14],[],List.range 15,by kernel_rfl,?_⟩;conv=>whnf
      refine D9 at18j rfl (by omega) hfj ?_;conv=>whnf
      refine ⟨rfl,⟨by omega,by omega⟩,?_⟩;conv=>whnf
      refine D9 at18j rfl (by omega) hfj ?_;conv=>whnf
      refine ⟨rfl,⟨by omega,by omega⟩,?_⟩;conv=>whnf
      refine D9 atT rfl (by show 0+((j:Nat):Int).toNat<nets.length;omega) (v:=eI (gI TX j)) (by show gt (0+((j:Nat):Int).toNat)=_;rw [show 0+((j:Nat):Int).toNat=j by omega];exact hgt j hj5) ?_;conv=>whnf
      rw [hgw]
      refine ⟨rfl,⟨by omega,by omega⟩,?_⟩;conv=>whnf
      refine G6 atG rfl (by show 0+((j:Nat):Int).toNat<nets.length;omega) (hgg (0+((j:Nat):Int).toNat) (by omega)) (by rfl) ?_;conv=>whnf
      refine ⟨rfl,?_⟩;conv=>whnf
      exact nx hj5 ⟨by rw [B9 (by omega)],⟨s0,hcT,hput _ (fun k=>eI (H0 nets TX (j+1) k)) (fun k hk=>B1o hgg hk)⟩⟩
     obtain rfl:=C6 h5 hj
     have hwS:IntKind.i64.wrap (ship - B6 t ship z.ship)=ship - B6 t ship z.ship:=A9 (by omega) (by omega)
     conv=>whnf
     rw [hin];conv=>whnf
     refine D9 at18j rfl (by omega) hfj ?_;conv=>whnf
     rw [hwS]
     refine G6 at18j rfl (by omega) hfj (by rfl) ?_;conv=>whnf
     have hf9:(C9 f 0 (.agg [(.own 1 bg2 0 nets.length),(.own 1 bt 0 nets.length),eI (ship - B6 t ship z.ship),eI (B6 t ship z.ship)])) 0=.agg [(.own 1 bg2 0 nets.length),(.own 1 bt 0 nets.length),eI (ship - B6 t ship z.ship),eI (B6 t ship z.ship)]:=A2 ..
     have hK9:ROut (fun s t'=>ROut D7 2 1 (fun k=>eI (H0 nets TX nets.length k)) nets.length s (.own 1 bg2 0 nets.length) t') 2 1 (fun k=>eI (gI TX k)) nets.length (upd S1 b18 ⟨191,4,1,(C9 f 0 (.agg [(.own 1 bg2 0 nets.length),(.own 1 bt 0 nets.length),eI (ship - B6 t ship z.ship),eI (B6 t ship z.ship)]))⟩) (.own 1 bt 0 nets.length) (upd u b18 ⟨191,4,1,(C9 f 0 (.agg [(.own 1 bg2 0 nets.length),(.own 1 bt 0 nets.length),eI (ship - B6 t ship z.ship),eI (B6 t ship z.ship)]))⟩):=ROut.putB hBGn hK _
     have hS9:=ROut.sup hBGn hK9
     have at18e:=hS9 b18 _ (A0 ..)
     have at12e:=hS9 b12 _ (by rw [A4 hb12n];exact at12b)
     cases exempt
     ·conv=>whnf
      refine D9 at18e rfl (by omega) hf9 ?_;conv=>whnf
      refine G6 at12e rfl (by omega) hf12 (by rfl) ?_;conv=>whnf
      refine D9 (A0 ..) rfl (by omega) (A2 ..) ?_;conv=>whnf
      have hK10:=ROut.write (y':=⟨191,4,1,C9 f12 0 (.agg [(.own 1 bg2 0 nets.length),(.own 1 bt 0 nets.length),eI (ship - B6 t ship z.ship),eI (B6 t ship z.ship)])⟩) hBGn hK9 (show (upd S1 b18 ⟨191,4,1,(C9 f 0 (.agg [(.own 1 bg2 0 nets.length),(.own 1 bt 0 nets.length),eI (ship - B6 t ship z.ship),eI (B6 t ship z.ship)]))⟩) b12=_ by rw [A4 hb12n];exact at12b)
      obtain ⟨s0,hcT,hG9⟩:=hK10
      obtain ⟨c1,k1,k2⟩:=ROut.shift B1 hG9
      obtain ⟨c2,k3,k4⟩:=ROut.shift B1 (show ROut D7 2 1 (fun k=>eI (gI TX k)) nets.length _ ((.own 1 bt 0 nets.length)) c1 from ⟨s0,hcT,k2⟩)
      exact ⟨(.own 1 bg2 0 nets.length),(.own 1 bt 0 nets.length),c1,c2,(by first | rfl | (rw [hin];rfl)),k1.trans (F4 (.inl ⟨hin,rfl⟩)),(by rw [if_neg (by simp),eTX];exact k3),((hs1.upd hb18').over hb12).trans k4⟩
     ·conv=>whnf
      refine mkO rfl rfl rfl (by show 8 * nets.length≤_;omega) (by omega) (by rfl) (fun bz hbz=>?_)
      have hz18:b18≠bz:=fun e=>by subst e;cases (at18e.symm.trans hbz)
      have hz12:b12≠bz:=fun e=>by subst e;cases (at12e.symm.trans hbz)
      have hzst:st bz=none:=((hs1.upd hb18').trans hS9).none hbz
      conv=>whnf
      refine G6 ((A4 hz18).trans at18e) rfl (by omega) hf9 (by rfl) ?_;conv=>whnf
      refine G6 (A0 ..) rfl (by omega) (A2 ..) (by rfl) ?_
      rw [B7];conv=>whnf
      refine D9 (A0 ..) rfl (by omega) (A2 ..) ?_;conv=>whnf
      refine G6 ((A4 hb12n).trans ((A4 hz12).trans at12e)) rfl (by omega) hf12 (by rfl) ?_;conv=>whnf
      refine D9 (A0 ..) rfl (by omega) (A2 ..) ?_;conv=>whnf
      have hG0:=ROut.dropped hBGn hK9
      have hG1:=(D8 B1 _ _ _ _ _).begin (y:=⟨2,1,nets.length,fun _=>G9 r2.zero⟩) hG0 hbz
      have hG2:=ROut.write (y':=⟨191,4,1,C9 (C9 (C9 f 0 (.agg [(.own 1 bg2 0 nets.length),(.own 1 bt 0 nets.length),eI (ship - B6 t ship z.ship),eI (B6 t ship z.ship)])) 0 (.agg [(.own 1 bg2 0 nets.length),.own 1 bz 0 nets.length,eI (ship - B6 t ship z.ship),eI (B6 t ship z.ship)])) 0 (.agg [(.own 1 bg2 0 nets.length),.own 1 bz 0 nets.length,eI (ship - B6 t ship z.ship),eI 0])⟩) B1 hG1 ((A4 hz18).trans (A0 ..))
      have hG3:=ROut.write (y':=⟨191,4,1,C9 f12 0 (.agg [(.own 1 bg2 0 nets.length),.own 1 bz 0 nets.length,eI (ship - B6 t ship z.ship),eI 0])⟩) B1 hG2 ((A4 hb12n).trans ((A4 hz12).trans ((A4 hb12n).trans at12b)))
      obtain ⟨c1,k1,k2⟩:=ROut.shift B1 hG3
      have atz:=k2 bz _ ((A4 hz12.symm).trans ((A4 hz18.symm).trans (A0 ..)))
      have hsz:D7 st c1:=(((((hs1.upd hb18').over hzst).over hb18st).over hb12).trans k2)
      refine ⟨(.own 1 bg2 0 nets.length),.own 1 bz 0 nets.length,c1,del c1 bz,(by first | rfl | (rw [hin];rfl)),k1.trans (F4 (.inl ⟨hin,rfl⟩)),?_,D7.del hsz hzst⟩
      rw [if_pos rfl,show A6 (List.replicate nets.length 0)=.arr 1 nets.length (fun k=>eI ((List.replicate nets.length (0:Int)).getD k default)) by unfold A6 B2;rw [List.length_replicate]]
      exact G0 atz rfl (Nat.le_refl _) (fun k hk=>by rw [T9];rfl)
  case true =>
   have hTX:I2 t (cats.map (E6 z)) nets=F5 t (cats.map (E6 z)) nets:=if_pos hbo
   have hby:=fun s=>B5R t _ _ h.nets hr1 hr2 s
   rw [←hTX] at hby
   obtain ⟨w2,hsh,hRi⟩:=ROut.shift (hBT _ _) hR
   have hR2:=ROut.dropped hBG hRi
   have e0:AV.arr 1 nets.length (fun k=>eI (gI (cats.map (E6 z)) k))=A6 (cats.map (E6 z)):=by unfold A6 B2;rw [hr1]
   rw [e0] at hsh
   have at18c:=hBG.sup hR2 b18 _ (A0 ..)
   generalize I2 t (cats.map (E6 z)) nets=TX at *
   have hK:ROut D7 2 1 (fun k=>eI (H0 nets TX 0 k)) nets.length (upd S1 b18 ⟨191,4,1,(C9 f 0 (.agg [gv,A6 TX,eI ship,eI (B6 t ship z.ship)]))⟩) (gv) (upd w2 b18 ⟨191,4,1,(C9 f 0 (.agg [gv,A6 TX,eI ship,eI (B6 t ship z.ship)]))⟩):=by rw [C0e];exact ROut.putB B1 hR2 _
   rcases (show gv=.emp∨∃ b,gv=.own 1 b 0 nets.length from ROut.head hR2) with rfl | ⟨bg2,rfl⟩
   all_goals
    conv=>whnf
    refine F3 (B0.cons (B0.keep [L7 t] _) (B0.cons hsh (B0.keep _ _))) (A7 (hby _) ?_);conv=>whnf
    refine G6 at18c rfl (by omega) hf (by rfl) ?_;conv=>whnf
   ·have hBGn:=D8 B1 2 1 (fun k=>eI (H0 nets TX 0 k)) nets.length ((.emp))
    have hf9:(C9 f 0 (.agg [.emp,A6 TX,eI ship,eI (B6 t ship z.ship)])) 0=.agg [(.emp),(A6 TX),eI ship,eI (B6 t ship z.ship)]:=A2 ..
    have hK9:=hK
    cases hin:t.incl
    case false =>
     refine A4P [2,4,5,6,12,18,21] ?_;conv=>whnf
     intro I;conv=>whnf
     cases decide ((0:Int)<(nets.length:Int))
     case' true =>
      conv=>whnf
      rw [hin]
     all_goals
      conv=>whnf
      rw [hin];conv=>whnf
      have hS9:=ROut.sup B1 hK9
      have at18e:=hS9 b18 _ (A0 ..)
      have at12e:=hS9 b12 _ (by rw [A4 hb12n];exact at12b)
      cases exempt
      ·conv=>whnf
       refine D9 at18e rfl (by omega) hf9 ?_;conv=>whnf
       refine G6 at12e rfl (by omega) hf12 (by rfl) ?_;conv=>whnf
       refine D9 (A0 ..) rfl (by omega) (A2 ..) ?_;conv=>whnf
       have hK10:=ROut.write (y':=⟨191,4,1,C9 f12 0 (.agg [(.emp),(A6 TX),eI ship,eI (B6 t ship z.ship)])⟩) B1 hK9 (show (upd S1 b18 ⟨191,4,1,(C9 f 0 (.agg [.emp,A6 TX,eI ship,eI (B6 t ship z.ship)]))⟩) b12=_ by rw [A4 hb12n];exact at12b)
       obtain ⟨c1,k1,k2⟩:=ROut.shift B1 hK10
       exact ⟨(.emp),(A6 TX),c1,c1,(by first | rfl | (rw [hin];rfl)),k1.trans (F4 (.inr ⟨hin,rfl⟩)),(by rw [if_neg (by simp)];exact B0.keep _ _),((hs1.upd hb18').over hb12).trans k2⟩
      ·conv=>whnf
       refine mkO rfl rfl rfl (by show 8 * nets.length≤_;omega) (by omega) (by rfl) (fun bz hbz=>?_)
       have hz18:b18≠bz:=fun e=>by subst e;cases (at18e.symm.trans hbz)
       have hz12:b12≠bz:=fun e=>by subst e;cases (at12e.symm.trans hbz)
       have hzst:st bz=none:=((hs1.upd hb18').trans hS9).none hbz
       conv=>whnf
       refine G6 ((A4 hz18).trans at18e) rfl (by omega) hf9 (by rfl) ?_;conv=>whnf
       refine G6 (A0 ..) rfl (by omega) (A2 ..) (by rfl) ?_
       rw [B7];conv=>whnf
       refine D9 (A0 ..) rfl (by omega) (A2 ..) ?_;conv=>whnf
       refine G6 ((A4 hb12n).trans ((A4 hz12).trans at12e)) rfl (by omega) hf12 (by rfl) ?_;conv=>whnf
       refine D9 (A0 ..) rfl (by omega) (A2 ..) ?_;conv=>whnf
       have hG0:=hK9
       have hG1:=(D8 B1 _ _ _ _ _).begin (y:=⟨2,1,nets.length,fun _=>G9 r2.zero⟩) hG0 hbz
       have hG2:=ROut.write (y':=⟨191,4,1,C9 (C9 (C9 f 0 (.agg [.emp,A6 TX,eI ship,eI (B6 t ship z.ship)])) 0 (.agg [(.emp),.own 1 bz 0 nets.length,eI ship,eI (B6 t ship z.ship)])) 0 (.agg [(.emp),.own 1 bz 0 nets.length,eI ship,eI 0])⟩) B1 hG1 ((A4 hz18).trans (A0 ..))
       have hG3:=ROut.write (y':=⟨191,4,1,C9 f12 0 (.agg [(.emp),.own 1 bz 0 nets.length,eI ship,eI 0])⟩) B1 hG2 ((A4 hb12n).trans ((A4 hz12).trans ((A4 hb12n).trans at12b)))
       obtain ⟨c1,k1,k2⟩:=ROut.shift B1 hG3
       have atz:=k2 bz _ ((A4 hz12.symm).trans ((A4 hz18.symm).trans (A0 ..)))
       have hsz:D7 st c1:=(((((hs1.upd hb18').over hzst).over hb18st).over hb12).trans k2)
       refine ⟨(.emp),.own 1 bz 0 nets.length,c1,del c1 bz,(by first | rfl | (rw [hin];rfl)),k1.trans (F4 (.inr ⟨hin,rfl⟩)),?_,D7.del hsz hzst⟩
       rw [if_pos rfl,show A6 (List.replicate nets.length 0)=.arr 1 nets.length (fun k=>eI ((List.replicate nets.length (0:Int)).getD k default)) by unfold A6 B2;rw [List.length_replicate]]
       exact G0 atz rfl (Nat.le_refl _) (fun k hk=>by rw [T9];rfl)
    case true =>
     clear hf9 hK9 hBGn
     refine lp nets.length [2,4,5,6,12,18,21] (fun j vs u=>vs=[eB exempt,A6 nets,eI ship,.fptr (L7 t) 0,.optr 4 b12 0 0,.optr 4 b18 0 0,eI j]∧ROut D7 2 1 (fun k=>eI (H0 nets TX j k)) nets.length (upd S1 b18 ⟨191,4,1,(C9 f 0 (.agg [.emp,A6 TX,eI ship,eI (B6 t ship z.ship)]))⟩) (.emp) (u)) ?_ ?_
     ·conv=>whnf
      exact ⟨rfl,hK⟩
     clear hK
     rintro j vs u hj ⟨rfl,hK⟩
     have hBGn:=D8 B1 2 1 (fun k=>eI (H0 nets TX j k)) nets.length ((.emp))
     have hSj:=ROut.sup B1 hK
     have at18j:=hSj b18 _ (A0 ..)
     have hfj:(C9 f 0 (.agg [.emp,A6 TX,eI ship,eI (B6 t ship z.ship)])) 0=.agg [(.emp),(A6 TX),eI ship,eI (B6 t ship z.ship)]:=by first | exact hf | exact A2 ..
     conv=>whnf
     cases h5:decide ((j:Int)<(nets.length:Int))
     case true =>
      have hj5:=E4 h5
      have hG9:=hK
      obtain ⟨_,⟨h0,_⟩ | ⟨_,_,_,_,h0,_⟩,_⟩:=hG9
      ·omega
      ·cases h0
     obtain rfl:=C6 h5 hj
     have hwS:IntKind.i64.wrap (ship - B6 t ship z.ship)=ship - B6 t ship z.ship:=A9 (by omega) (by omega)
     conv=>whnf
     rw [hin];conv=>whnf
     refine D9 at18j rfl (by omega) hfj ?_;conv=>whnf
     rw [hwS]
     refine G6 at18j rfl (by omega) hfj (by rfl) ?_;conv=>whnf
     have hf9:(C9 (C9 f 0 (.agg [.emp,A6 TX,eI ship,eI (B6 t ship z.ship)])) 0 (.agg [(.emp),(A6 TX),eI (ship - B6 t ship z.ship),eI (B6 t ship z.ship)])) 0=.agg [(.emp),(A6 TX),eI (ship - B6 t ship z.ship),eI (B6 t ship z.ship)]:=A2 ..
     have hK9:ROut D7 2 1 (fun k=>eI (H0 nets TX nets.length k)) nets.length (upd S1 b18 ⟨191,4,1,(C9 (C9 f 0 (.agg [.emp,A6 TX,eI ship,eI (B6 t ship z.ship)])) 0 (.agg [(.emp),(A6 TX),eI (ship - B6 t ship z.ship),eI (B6 t ship z.ship)]))⟩) (.emp) (upd u b18 ⟨191,4,1,(C9 (C9 f 0 (.agg [.emp,A6 TX,eI ship,eI (B6 t ship z.ship)])) 0 (.agg [(.emp),(A6 TX),eI (ship - B6 t ship z.ship),eI (B6 t ship z.ship)]))⟩):=ROut.putB B1 hK _
     have hS9:=ROut.sup B1 hK9
     have at18e:=hS9 b18 _ (A0 ..)
     have at12e:=hS9 b12 _ (by rw [A4 hb12n];exact at12b)
     cases exempt
     ·conv=>whnf
      refine D9 at18e rfl (by omega) hf9 ?_;conv=>whnf
      refine G6 at12e rfl (by omega) hf12 (by rfl) ?_;conv=>whnf
      refine D9 (A0 ..) rfl (by omega) (A2 ..) ?_;conv=>whnf
      have hK10:=ROut.write (y':=⟨191,4,1,C9 f12 0 (.agg [(.emp),(A6 TX),eI (ship - B6 t ship z.ship),eI (B6 t ship z.ship)])⟩) B1 hK9 (show (upd S1 b18 ⟨191,4,1,(C9 (C9 f 0 (.agg [.emp,A6 TX,eI ship,eI (B6 t ship z.ship)])) 0 (.agg [(.emp),(A6 TX),eI (ship - B6 t ship z.ship),eI (B6 t ship z.ship)]))⟩) b12=_ by rw [A4 hb12n];exact at12b)
      obtain ⟨c1,k1,k2⟩:=ROut.shift B1 hK10
      exact ⟨(.emp),(A6 TX),c1,c1,(by first | rfl | (rw [hin];rfl)),k1.trans (F4 (.inl ⟨hin,rfl⟩)),(by rw [if_neg (by simp)];exact B0.keep _ _),((hs1.upd hb18').over hb12).trans k2⟩
     ·conv=>whnf
      refine mkO rfl rfl rfl (by show 8 * nets.length≤_;omega) (by omega) (by rfl) (fun bz hbz=>?_)
      have hz18:b18≠bz:=fun e=>by subst e;cases (at18e.symm.trans hbz)
      have hz12:b12≠bz:=fun e=>by subst e;cases (at12e.symm.trans hbz)
      have hzst:st bz=none:=((hs1.upd hb18').trans hS9).none hbz
      conv=>whnf
      refine G6 ((A4 hz18).trans at18e) rfl (by omega) hf9 (by rfl) ?_;conv=>whnf
      refine G6 (A0 ..) rfl (by omega) (A2 ..) (by rfl) ?_
      rw [B7];conv=>whnf
      refine D9 (A0 ..) rfl (by omega) (A2 ..) ?_;conv=>whnf
      refine G6 ((A4 hb12n).trans ((A4 hz12).trans at12e)) rfl (by omega) hf12 (by rfl) ?_;conv=>whnf
      refine D9 (A0 ..) rfl (by omega) (A2 ..) ?_;conv=>whnf
      have hG0:=hK9
      have hG1:=(D8 B1 _ _ _ _ _).begin (y:=⟨2,1,nets.length,fun _=>G9 r2.zero⟩) hG0 hbz
      have hG2:=ROut.write (y':=⟨191,4,1,C9 (C9 (C9 (C9 f 0 (.agg [.emp,A6 TX,eI ship,eI (B6 t ship z.ship)])) 0 (.agg [(.emp),(A6 TX),eI (ship - B6 t ship z.ship),eI (B6 t ship z.ship)])) 0 (.agg [(.emp),.own 1 bz 0 nets.length,eI (ship - B6 t ship z.ship),eI (B6 t ship z.ship)])) 0 (.agg [(.emp),.own 1 bz 0 nets.length,eI (ship - B6 t ship z.ship),eI 0])⟩) B1 hG1 ((A4 hz18).trans (A0 ..))
      have hG3:=ROut.write (y':=⟨191,4,1,C9 f12 0 (.agg [(.emp),.own 1 bz 0 nets.length,eI (ship - B6 t ship z.ship),eI 0])⟩) B1 hG2 ((A4 hb12n).trans ((A4 hz12).trans ((A4 hb12n).trans at12b)))
      obtain ⟨c1,k1,k2⟩:=ROut.shift B1 hG3
      have atz:=k2 bz _ ((A4 hz12.symm).trans ((A4 hz18.symm).trans (A0 ..)))
      have hsz:D7 st c1:=(((((hs1.upd hb18').over hzst).over hb18st).over hb12).trans k2)
      refine ⟨(.emp),.own 1 bz 0 nets.length,c1,del c1 bz,(by first | rfl | (rw [hin];rfl)),k1.trans (F4 (.inl ⟨hin,rfl⟩)),?_,D7.del hsz hzst⟩
      rw [if_pos rfl,show A6 (List.replicate nets.length 0)=.arr 1 nets.length (fun k=>eI ((List.replicate nets.length (0:Int)).getD k default)) by unfold A6 B2;rw [List.length_replicate]]
      exact G0 atz rfl (Nat.le_refl _) (fun k hk=>by rw [T9];rfl)
   ·have hBGn:=D8 B1 2 1 (fun k=>eI (H0 nets TX 0 k)) nets.length ((.own 1 bg2 0 nets.length))
    have hf9:(C9 f 0 (.agg [.own 1 bg2 0 nets.length,A6 TX,eI ship,eI (B6 t ship z.ship)])) 0=.agg [(.own 1 bg2 0 nets.length),(A6 TX),eI ship,eI (B6 t ship z.ship)]:=A2 ..
    have hK9:=hK
    cases hin:t.incl
    case false =>
     refine A4P [2,4,5,6,12,18,21] ?_;conv=>whnf
     intro I;conv=>whnf
     cases decide ((0:Int)<(nets.length:Int))
     case' true =>
      conv=>whnf
      rw [hin]
     all_goals
      conv=>whnf
      rw [hin];conv=>whnf
      have hS9:=ROut.sup B1 hK9
      have at18e:=hS9 b18 _ (A0 ..)
      have at12e:=hS9 b12 _ (by rw [A4 hb12n];exact at12b)
      cases exempt
      ·conv=>whnf
       refine D9 at18e rfl (by omega) hf9 ?_;conv=>whnf
       refine G6 at12e rfl (by omega) hf12 (by rfl) ?_;conv=>whnf
       refine D9 (A0 ..) rfl (by omega) (A2 ..) ?_;conv=>whnf
       have hK10:=ROut.write (y':=⟨191,4,1,C9 f12 0 (.agg [(.own 1 bg2 0 nets.length),(A6 TX),eI ship,eI (B6 t ship z.ship)])⟩) B1 hK9 (show (upd S1 b18 ⟨191,4,1,(C9 f 0 (.agg [.own 1 bg2 0 nets.length,A6 TX,eI ship,eI (B6 t ship z.ship)]))⟩) b12=_ by rw [A4 hb12n];exact at12b)
       obtain ⟨c1,k1,k2⟩:=ROut.shift B1 hK10
       exact ⟨(.own 1 bg2 0 nets.length),(A6 TX),c1,c1,(by first | rfl | (rw [hin];rfl)),k1.trans (F4 (.inr ⟨hin,rfl⟩)),(by rw [if_neg (by simp)];exact B0.keep _ _),((hs1.upd hb18').over hb12).trans k2⟩
      ·conv=>whnf
       refine mkO rfl rfl rfl (by show 8 * nets.length≤_;omega) (by omega) (by rfl) (fun bz hbz=>?_)
       have hz18:b18≠bz:=fun e=>by subst e;cases (at18e.symm.trans hbz)
       have hz12:b12≠bz:=fun e=>by subst e;cases (at12e.symm.trans hbz)
       have hzst:st bz=none:=((hs1.upd hb18').trans hS9).none hbz
       conv=>whnf
       refine G6 ((A4 hz18).trans at18e) rfl (by omega) hf9 (by rfl) ?_;conv=>whnf
       refine G6 (A0 ..) rfl (by omega) (A2 ..) (by rfl) ?_
       rw [B7];conv=>whnf
       refine D9 (A0 ..) rfl (by omega) (A2 ..) ?_;conv=>whnf
       refine G6 ((A4 hb12n).trans ((A4 hz12).trans at12e)) rfl (by omega) hf12 (by rfl) ?_;conv=>whnf
       refine D9 (A0 ..) rfl (by omega) (A2 ..) ?_;conv=>whnf
       have hG0:=hK9
       have hG1:=(D8 B1 _ _ _ _ _).begin (y:=⟨2,1,nets.length,fun _=>G9 r2.zero⟩) hG0 hbz
       have hG2:=ROut.write (y':=⟨191,4,1,C9 (C9 (C9 f 0 (.agg [.own 1 bg2 0 nets.length,A6 TX,eI ship,eI (B6 t ship z.ship)])) 0 (.agg [(.own 1 bg2 0 nets.length),.own 1 bz 0 nets.length,eI ship,eI (B6 t ship z.ship)])) 0 (.agg [(.own 1 bg2 0 nets.length),.own 1 bz 0 nets.length,eI ship,eI 0])⟩) B1 hG1 ((A4 hz18).trans (A0 ..))
       have hG3:=ROut.write (y':=⟨191,4,1,C9 f12 0 (.agg [(.own 1 bg2 0 nets.length),.own 1 bz 0 nets.length,eI ship,eI 0])⟩) B1 hG2 ((A4 hb12n).trans ((A4 hz12).trans ((A4 hb12n).trans at12b)))
       obtain ⟨c1,k1,k2⟩:=ROut.shift B1 hG3
       have atz:=k2 bz _ ((A4 hz12.symm).trans ((A4 hz18.symm).trans (A0 ..)))
       have hsz:D7 st c1:=(((((hs1.upd hb18').over hzst).over hb18st).over hb12).trans k2)
       refine ⟨(.own 1 bg2 0 nets.length),.own 1 bz 0 nets.length,c1,del c1 bz,(by first | rfl | (rw [hin];rfl)),k1.trans (F4 (.inr ⟨hin,rfl⟩)),?_,D7.del hsz hzst⟩
       rw [if_pos rfl,show A6 (List.replicate nets.length 0)=.arr 1 nets.length (fun k=>eI ((List.replicate nets.length (0:Int)).getD k default)) by unfold A6 B2;rw [List.length_replicate]]
       exact G0 atz rfl (Nat.le_refl _) (fun k hk=>by rw [T9];rfl)
    case true =>
     clear hf9 hK9 hBGn
     refine lp nets.length [2,4,5,6,12,18,21] (fun j vs u=>vs=[eB exempt,A6 nets,eI ship,.fptr (L7 t) 0,.optr 4 b12 0 0,.optr 4 b18 0 0,eI j]∧ROut D7 2 1 (fun k=>eI (H0 nets TX j k)) nets.length (upd S1 b18 ⟨191,4,1,(C9 f 0 (.agg [.own 1 bg2 0 nets.length,A6 TX,eI ship,eI (B6 t ship z.ship)]))⟩) (.own 1 bg2 0 nets.length) (u)) ?_ ?_
     ·conv=>whnf
      exact ⟨rfl,hK⟩
     clear hK
     rintro j vs u hj ⟨rfl,hK⟩
     have hBGn:=D8 B1 2 1 (fun k=>eI (H0 nets TX j k)) nets.length ((.own 1 bg2 0 nets.length))
     have hSj:=ROut.sup B1 hK
     have at18j:=hSj b18 _ (A0 ..)
     have hfj:(C9 f 0 (.agg [.own 1 bg2 0 nets.length,A6 TX,eI ship,eI (B6 t ship z.ship)])) 0=.agg [(.own 1 bg2 0 nets.length),(A6 TX),eI ship,eI (B6 t ship z.ship)]:=by first | exact hf | exact A2 ..
     conv=>whnf
     cases h5:decide ((j:Int)<(nets.length:Int))
     case true =>
      have hj5:=E4 h5
      have hG9:=hK
      obtain ⟨gg,atG,hgg,hput⟩:=ROut.cell B1 hG9 (by omega)
      have hx1:=hnx j hj5
      have hx2:=htx j hj5
      have hgw:IntKind.i64.wrap (gI nets ((j:Nat):Int).toNat - gI TX ((j:Nat):Int).toNat)=gI nets j - gI TX j:=A9 (show _≤gI nets j - gI TX j by omega) (show gI nets j - gI TX j≤_ by omega)
      conv=>whnf
      rw [hin];conv=>whnf
      refine .inl ⟨[14],[],List.range 15,by kernel_rfl,?_⟩;conv=>whnf
      refine D9 at18j rfl (by omega) hfj ?_;conv=>whnf
      refine ⟨rfl,⟨by omega,by omega⟩,?_⟩;conv=>whnf
      refine D9 at18j rfl (by omega) hfj ?_;conv=>whnf
      refine ⟨rfl,⟨by omega,by omega⟩,?_⟩;conv=>whnf
      rw [hgw]
      refine ⟨rfl,⟨by omega,by omega⟩,?_⟩;conv=>whnf
      refine G6 atG rfl (by show 0+((j:Nat):Int).toNat<nets.length;omega) (hgg (0+((j:Nat):Int).toNat) (by omega)) (by rfl) ?_;conv=>whnf
      refine ⟨rfl,?_⟩;conv=>whnf
      exact nx hj5 ⟨by rw [B9 (by omega)],hput _ (fun k=>eI (H0 nets TX (j+1) k)) (fun k hk=>B1o hgg hk)⟩
     obtain rfl:=C6 h5 hj
     have hwS:IntKind.i64.wrap (ship - B6 t ship z.ship)=ship - B6 t ship z.ship:=A9 (by omega) (by omega)
     conv=>whnf
     rw [hin];conv=>whnf
     refine D9 at18j rfl (by omega) hfj ?_;conv=>whnf
     rw [hwS]
     refine G6 at18j rfl (by omega) hfj (by rfl) ?_;conv=>whnf
     have hf9:(C9 (C9 f 0 (.agg [.own 1 bg2 0 nets.length,A6 TX,eI ship,eI (B6 t ship z.ship)])) 0 (.agg [(.own 1 bg2 0 nets.length),(A6 TX),eI (ship - B6 t ship z.ship),eI (B6 t ship z.ship)])) 0=.agg [(.own 1 bg2 0 nets.length),(A6 TX),eI (ship - B6 t ship z.ship),eI (B6 t ship z.ship)]:=A2 ..
     have hK9:ROut D7 2 1 (fun k=>eI (H0 nets TX nets.length k)) nets.length (upd S1 b18 ⟨191,4,1,(C9 (C9 f 0 (.agg [.own 1 bg2 0 nets.length,A6 TX,eI ship,eI (B6 t ship z.ship)])) 0 (.agg [(.own 1 bg2 0 nets.length),(A6 TX),eI (ship - B6 t ship z.ship),eI (B6 t ship z.ship)]))⟩) (.own 1 bg2 0 nets.length) (upd u b18 ⟨191,4,1,(C9 (C9 f 0 (.agg [.own 1 bg2 0 nets.length,A6 TX,eI ship,eI (B6 t ship z.ship)])) 0 (.agg [(.own 1 bg2 0 nets.length),(A6 TX),eI (ship - B6 t ship z.ship),eI (B6 t ship z.ship)]))⟩):=ROut.putB B1 hK _
     have hS9:=ROut.sup B1 hK9
     have at18e:=hS9 b18 _ (A0 ..)
     have at12e:=hS9 b12 _ (by rw [A4 hb12n];exact at12b)
     cases exempt
     ·conv=>whnf
      refine D9 at18e rfl (by omega) hf9 ?_;conv=>whnf
      refine G6 at12e rfl (by omega) hf12 (by rfl) ?_;conv=>whnf
      refine D9 (A0 ..) rfl (by omega) (A2 ..) ?_;conv=>whnf
      have hK10:=ROut.write (y':=⟨191,4,1,C9 f12 0 (.agg [(.own 1 bg2 0 nets.length),(A6 TX),eI (ship - B6 t ship z.ship),eI (B6 t ship z.ship)])⟩) B1 hK9 (show (upd S1 b18 ⟨191,4,1,(C9 (C9 f 0 (.agg [.own 1 bg2 0 nets.length,A6 TX,eI ship,eI (B6 t ship z.ship)])) 0 (.agg [(.own 1 bg2 0 nets.length),(A6 TX),eI (ship - B6 t ship z.ship),eI (B6 t ship z.ship)]))⟩) b12=_ by rw [A4 hb12n];exact at12b)
      obtain ⟨c1,k1,k2⟩:=ROut.shift B1 hK10
      exact ⟨(.own 1 bg2 0 nets.length),(A6 TX),c1,c1,(by first | rfl | (rw [hin];rfl)),k1.trans (F4 (.inl ⟨hin,rfl⟩)),(by rw [if_neg (by simp)];exact B0.keep _ _),((hs1.upd hb18').over hb12).trans k2⟩
     ·conv=>whnf
      refine mkO rfl rfl rfl (by show 8 * nets.length≤_;omega) (by omega) (by rfl) (fun bz hbz=>?_)
      have hz18:b18≠bz:=fun e=>by subst e;cases (at18e.symm.trans hbz)
      have hz12:b12≠bz:=fun e=>by subst e;cases (at12e.symm.trans hbz)
      have hzst:st bz=none:=((hs1.upd hb18').trans hS9).none hbz
      conv=>whnf
      refine G6 ((A4 hz18).trans at18e) rfl (by omega) hf9 (by rfl) ?_;conv=>whnf
      refine G6 (A0 ..) rfl (by omega) (A2 ..) (by rfl) ?_
      rw [B7];conv=>whnf
      refine D9 (A0 ..) rfl (by omega) (A2 ..) ?_;conv=>whnf
      refine G6 ((A4 hb12n).trans ((A4 hz12).trans at12e)) rfl (by omega) hf12 (by rfl) ?_;conv=>whnf
      refine D9 (A0 ..) rfl (by omega) (A2 ..) ?_;conv=>whnf
      have hG0:=hK9
      have hG1:=(D8 B1 _ _ _ _ _).begin (y:=⟨2,1,nets.length,fun _=>G9 r2.zero⟩) hG0 hbz
      have hG2:=ROut.write (y':=⟨191,4,1,C9 (C9 (C9 (C9 f 0 (.agg [.own 1 bg2 0 nets.length,A6 TX,eI ship,eI (B6 t ship z.ship)])) 0 (.agg [(.own 1 bg2 0 nets.length),(A6 TX),eI (ship - B6 t ship z.ship),eI (B6 t ship z.ship)])) 0 (.agg [(.own 1 bg2 0 nets.length),.own 1 bz 0 nets.length,eI (ship - B6 t ship z.ship),eI (B6 t ship z.ship)])) 0 (.agg [(.own 1 bg2 0 nets.length),.own 1 bz 0 nets.length,eI (ship - B6 t ship z.ship),eI 0])⟩) B1 hG1 ((A4 hz18).trans (A0 ..))
      have hG3:=ROut.write (y':=⟨191,4,1,C9 f12 0 (.agg [(.own 1 bg2 0 nets.length),.own 1 bz 0 nets.length,eI (ship - B6 t ship z.ship),eI 0])⟩) B1 hG2 ((A4 hb12n).trans ((A4 hz12).trans ((A4 hb12n).trans at12b)))
      obtain ⟨c1,k1,k2⟩:=ROut.shift B1 hG3
      have atz:=k2 bz _ ((A4 hz12.symm).trans ((A4 hz18.symm).trans (A0 ..)))
      have hsz:D7 st c1:=(((((hs1.upd hb18').over hzst).over hb18st).over hb12).trans k2)
      refine ⟨(.own 1 bg2 0 nets.length),.own 1 bz 0 nets.length,c1,del c1 bz,(by first | rfl | (rw [hin];rfl)),k1.trans (F4 (.inl ⟨hin,rfl⟩)),?_,D7.del hsz hzst⟩
      rw [if_pos rfl,show A6 (List.replicate nets.length 0)=.arr 1 nets.length (fun k=>eI ((List.replicate nets.length (0:Int)).getD k default)) by unfold A6 B2;rw [List.length_replicate]]
      exact G0 atz rfl (Nat.le_refl _) (fun k hk=>by rw [T9];rfl)
structure Add where
 sku:D6
 qty:Int
 deriving Inhabited
def C2s (x:Add):AV:=.agg [eS x.sku,eI x.qty]
theorem B0b (l:List Int) (h:J3 l) (st:St):S P 123 [A6 l] st fun v st'=>v=eI (A5 l)∧st'=st:=by
 have hn:=h.len
 refine A8 [] B8 mixed Tryz.func123 (by rfl) rfl rfl rfl ?_;conv=>whnf
 refine lp l.length [3,6,7,8] (fun i vs t=>vs=[eI (A5 (l.take i)),A6 l,eI l.length,eI i]∧t=st) ?_ ?_
 ·conv=>whnf
  exact ⟨rfl,rfl⟩
 ·rintro i vs t hi ⟨rfl,rfl⟩
  conv=>whnf
  cases h1:decide ((i:Int)<(l.length:Int))
  ·obtain rfl:=C6 h1 hi
   rw [List.take_length];conv=>whnf
   exact ⟨rfl,rfl⟩
  ·have hi':=E4 h1
   have hs:IntKind.i64.wrap (A5 (l.take i)+gI l (i:Int).toNat)=A5 (l.take (i+1)):=h.step hi'
   conv=>whnf
   refine ⟨rfl,⟨by omega,by omega⟩,?_⟩;conv=>whnf
   rw [hs]
   refine ⟨rfl,?_⟩;conv=>whnf
   exact nx hi' ⟨by rw [B9 (by omega)],rfl⟩
theorem B9G (q:A4f) (h1:J3 q.goods) (h2:J3 q.taxes) (st:St):S P 54 [A0l q] st fun v st'=>v=C3N (B3r q)∧st'=st:=by
 have c1:=fun s=>B0b q.goods h1 s
 have c2:=fun s=>B0b q.taxes h2 s
 have hB:B3r q=⟨A5 q.goods,A5 q.taxes,q.ship,q.shipTax,0⟩:=rfl
 rw [hB]
 generalize A5 q.goods=G at c1 ⊢
 generalize A5 q.taxes=T' at c2 ⊢
 refine A1u ?_
 refine A8 [1] B8 mixed Tryz.func54 (by rfl) rfl rfl rfl ?_;conv=>whnf
 intro b2 hb;conv=>whnf
 refine ⟨[11],[],List.range 12,by kernel_rfl,?_⟩;conv=>whnf
 refine ⟨_,D1 (c1 _),?_⟩;conv=>whnf
 refine ⟨_,D1 (c2 _),?_⟩;conv=>whnf
 refine G6 (A0 ..) rfl (by omega) rfl (by rfl) ?_;conv=>whnf
 refine D9 (A0 ..) rfl (by omega) (A2 ..) ?_;conv=>whnf
 exact ⟨rfl,((D7.refl st).upd hb).over hb⟩
theorem B7G (r:I4) (l:List G4):(J7 r l).length=l.length:=by unfold J7 C2;rw [List.length_map,List.length_map]
theorem C2y {a b c d:Int} (ha : -10000000000000≤a∧a≤10000000000000) (hb : -10000000000000≤b∧b≤10000000000000) (hc : -10000000000000≤c∧c≤10000000000000) (hd : -10000000000000≤d∧d≤10000000000000):J3 [a,b,c,d]:=by
 refine ⟨by show 4≤1000;decide,fun x hx=>?_⟩
 simp only [List.mem_cons,List.not_mem_nil,or_false] at hx
 rcases hx with rfl | rfl | rfl | rfl<;>assumption
theorem B5Z {a b c d:Int} {F:Nat→AV} {st:St} (h0:F 0=eI a) (h1:F 1=eI b) (h2:F 2=eI c) (h3:F 3=eI d):B0 [.arr 1 4 F] st [A6 [a,b,c,d]] st :=
 B0.arr (g:=fun i=>eI ([a,b,c,d].getD i default)) fun i hi=>by
  match i,hi with
  | 0,_=>exact h0
  | 1,_=>exact h1
  | 2,_=>exact h2
  | 3,_=>exact h3
set_option maxHeartbeats 8000000 in
theorem quote_S {r:I4} {codes:List D6} {l:List G4} {Pr:A2e} {z:K3} {zone:D6} (exempt:Bool)
  (hP:∀ st,S P 20 [H6 r,D3 codes,B2 3 H2 l] st fun v s=>v=.tuple [T1 Pr,eI 0]∧s=st)
  (hI:∀ st,S P 82 [B2 4 F1 r.items,B2 3 H2 l] st fun v s=>v=B2 4 F1 (C2 r.items l)∧s=st)
  (hln:l.length≤1000) (hV:A0i r.tax z (J7 r l) Pr.nets Pr.ship) (hz:S4 r.tax.zones zone=some z)
  (hTax:∀ st,S P (C1F r.tax) [L7 r.tax,A6 ((J7 r l).map (E6 z)),A6 Pr.nets] st fun v st'=>v=A6 (I2 r.tax ((J7 r l).map (E6 z)) Pr.nets)∧st'=st)
  (hsm:A5 (K9 r.tax z exempt (J7 r l) Pr.nets Pr.ship).goods≤10000000000000∧-10000000000000≤A5 (K9 r.tax z exempt (J7 r l) Pr.nets Pr.ship).goods∧A5 (K9 r.tax z exempt (J7 r l) Pr.nets Pr.ship).taxes≤10000000000000) (st:St) :
  S P 51 [H6 r,eS zone,eB exempt,D3 codes,B2 3 H2 l] st fun v st'=>v=.tuple [A0l (A8a r z exempt l Pr),eI 0]∧st'=st:=by
 have hQ:=B2o hV exempt Pr.deals
 have hlv:=fun s=>C4J hV hz exempt hTax s
 have hq:A8a r z exempt l Pr=⟨(K9 r.tax z exempt (J7 r l) Pr.nets Pr.ship).goods,(K9 r.tax z exempt (J7 r l) Pr.nets Pr.ship).taxes,(K9 r.tax z exempt (J7 r l) Pr.nets Pr.ship).ship,(K9 r.tax z exempt (J7 r l) Pr.nets Pr.ship).shipTax,A5 (K9 r.tax z exempt (J7 r l) Pr.nets Pr.ship).goods+A5 (K9 r.tax z exempt (J7 r l) Pr.nets Pr.ship).taxes+(K9 r.tax z exempt (J7 r l) Pr.nets Pr.ship).ship+(K9 r.tax z exempt (J7 r l) Pr.nets Pr.ship).shipTax,Pr.deals⟩:=rfl
 rw [hq]
 have hpos:0≤A5 (K9 r.tax z exempt (J7 r l) Pr.nets Pr.ship).taxes:=C4 hQ.pos
 obtain ⟨q1,q2,q3,q4,q5,q6,q7,_⟩:=hQ
 have q1:J3 (K9 r.tax z exempt (J7 r l) Pr.nets Pr.ship).goods:=q1
 have q2:J3 (K9 r.tax z exempt (J7 r l) Pr.nets Pr.ship).taxes:=q2
 have q6:0≤(K9 r.tax z exempt (J7 r l) Pr.nets Pr.ship).ship∧(K9 r.tax z exempt (J7 r l) Pr.nets Pr.ship).ship≤10000000000000:=q6
 have q7:0≤(K9 r.tax z exempt (J7 r l) Pr.nets Pr.ship).shipTax∧(K9 r.tax z exempt (J7 r l) Pr.nets Pr.ship).shipTax≤10000000000000:=q7
 clear hq q3 q4 q5 hTax hV hz
 generalize K9 r.tax z exempt (J7 r l) Pr.nets Pr.ship=V at *
 have s1:=fun s=>B0b V.goods q1 s
 have s2:=fun s=>B0b V.taxes q2 s
 have s3:=fun s=>B0b [A5 V.goods,A5 V.taxes,V.ship,V.shipTax] (C2y (by omega) (by omega) (by omega) (by omega)) s
 have e3:A5 [A5 V.goods,A5 V.taxes,V.ship,V.shipTax]=A5 V.goods+A5 V.taxes+V.ship+V.shipTax:=by
  show 0+A5 V.goods+A5 V.taxes+V.ship+V.shipTax=_;omega
 rw [e3] at s3
 have hil:(C2 r.items l).length=l.length:=List.length_map ..
 have hcb:J7 r l=(C2 r.items l).map Ab.Item.cat:=rfl
 rw [hcb] at hlv
 generalize C2 r.items l=IT at hI hil hlv
 clear hcb
 refine A1u ?_
 refine A8 [5,16] B8 mixed Tryz.func51 (by rfl) rfl rfl rfl ?_;conv=>whnf
 intro b10 hb10;conv=>whnf
 refine A7 (hP _) ?_;conv=>whnf
 intro b12 hb12
 have h02:b10≠b12:=fun e=>by subst e;rw [A0] at hb12;cases hb12
 conv=>whnf
 refine G6 (A0 ..) rfl (by omega) rfl (by rfl) ?_
 rw [B7];conv=>whnf
 refine A7 (hI _) ?_;conv=>whnf
 generalize hst:(upd (upd st b10 _) b12 _:St)=S0
 obtain ⟨f12,at12,hf12⟩:∃ f12:Nat→AV,S0 b12=some ⟨44,4,1,f12⟩∧f12 0=T1 Pr:=by rw [←hst];exact ⟨_,A0 ..,by rw [A2];rfl⟩
 obtain ⟨f10,at10⟩:∃ f10:Nat→AV,S0 b10=some ⟨99,6,1,f10⟩∧f10 0=G9 r99.zero:=by rw [←hst,A4 h02];exact ⟨_,A0 ..,rfl⟩
 obtain ⟨at10,hf10⟩:=at10
 have hs0:D7 st S0:=by rw [←hst];exact ((D7.refl st).upd hb10).upd hb12
 have n12:st b12=none:=by rw [A4 h02.symm] at hb12;exact hb12
 clear hst
 refine lp IT.length [1,2,5,10,12,14,35,36,37] (fun i vs u=>∃ sv,vs=[eS zone,eB exempt,.fptr (H6 r) 0,.optr 6 b10 0 0,.optr 4 b12 0 0,sv,B2 4 F1 IT,eI IT.length,eI i]∧F2 9 1 eS ((IT.take i).map Ab.Item.cat) S0 sv u) ?_ ?_
 ·conv=>whnf
  exact ⟨.emp,rfl,F2.start _ _ _ _⟩
 rintro i vs u hi ⟨sv,rfl,hc⟩
 have hcs:=hc.sup
 conv=>whnf
 cases h1:decide ((i:Int)<(IT.length:Int))
 case true =>
  have hi':=E4 h1
  have hln2:((IT.take i).map Ab.Item.cat).length=i:=by rw [List.length_map,List.length_take];omega
  have htk:(IT.take (i+1)).map Ab.Item.cat=(IT.take i).map Ab.Item.cat++[(IT.getD (i:Int).toNat default).cat]:=by rw [I6 hi',List.map_append];rfl
  conv=>whnf
  refine ⟨rfl,⟨by omega,by omega⟩,?_⟩;conv=>whnf
  refine F2.app (y:=(IT.getD (i:Int).toNat default).cat) (q:=r9) rfl rfl rfl rfl rfl (by rfl) (by rw [hln2];show (i+1) * 16≤140737488355328;omega) hc (fun sv' t' hc'=>?_);conv=>whnf
  refine ⟨rfl,?_⟩;conv=>whnf
  exact nx hi' ⟨sv',by rw [B9 (by omega)],by rw [htk];exact hc'⟩
 obtain rfl:=C6 h1 hi
 rw [List.take_length] at hc;conv=>whnf
 refine D9 (hcs b12 _ at12) rfl (by omega) hf12 ?_;conv=>whnf
 refine D9 (hcs b12 _ at12) rfl (by omega) hf12 ?_;conv=>whnf
 have hTS:B0 [L7 r.tax,eS zone,eB exempt,sv,A6 Pr.nets,eI Pr.ship] u [L7 r.tax,eS zone,eB exempt,D3 (IT.map Ab.Item.cat),A6 Pr.nets,eI Pr.ship] S0 :=
  B0.cons (B0.keep [L7 r.tax] _) (B0.cons (B0.keep [eS zone] _) (B0.cons (B0.keep [eB exempt] _) (B0.cons hc.shift (B0.keep _ _))))
 refine F3 hTS (A7 (hlv _) ?_);conv=>whnf
 refine ⟨[15],[],List.range 17,by kernel_rfl,?_⟩;conv=>whnf
 refine ⟨_,D1 (s1 _),?_⟩;conv=>whnf
 refine ⟨_,D1 (s2 _),?_⟩;conv=>whnf
 refine ⟨_,⟨rfl,rfl⟩,?_⟩;conv=>whnf
 refine ⟨_,F3 (B5Z rfl rfl rfl rfl) (D1 (s3 _)),?_⟩;conv=>whnf
 refine D9 at12 rfl (by omega) hf12 ?_;conv=>whnf
 refine G6 at10 rfl (by omega) hf10 (by rfl) ?_;conv=>whnf
 refine D9 (A0 ..) rfl (by omega) (A2 ..) ?_;conv=>whnf
 exact ⟨rfl,hs0.over hb10⟩
def A4A (x:Add):Bool:=decide (x.qty<1)||decide (x.qty>100000)
def A0H (items:List Ab.Item) (x:Add):G4:=⟨x.sku,x.qty,(items.getD (S8 items x.sku).toNat default).price⟩
def A4M (items:List Ab.Item) (adds:List Add):List G4×Int :=
 if adds.length<1∨adds.length>1000 then ([],2) else if (adds.any A4A)=true then ([],2) else if (adds.any fun x=>decide (S8 items x.sku<0))=true then ([],7) else (adds.map (A0H items),0)
end Go.Proofs.YthdimklenlikgaaGreat
