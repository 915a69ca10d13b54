/- Part 26 of the proof: contracts of the functions that the law reaches -/
import Derived.Test.YtaapofnkmpiknaaGreatRt25
set_option maxRecDepth 100000
set_option linter.unusedVariables false
set_option linter.unusedSimpArgs false
namespace Go.Proofs.YtaapofnkmpiknaaGreat
open Go Go.Ab
attribute [local irreducible] upd del
theorem B0r {α : Type} [Inhabited α] {l:List α} {p : α→Bool} {i:Nat} (hi:i<l.length) (h:p (l.getD i default)=true) (hno:∀ j,j<i→p (l.getD j default)=false):l.find? p=some (l.getD i default):=by
 have g:∀ j (hj:j<l.length),l.getD j default=l[j]:=fun j hj=>by rw [D5A,D5I hj];rfl
 rw [List.find?_eq_some_iff_getElem]
 refine ⟨h,i,hi,(g i hi).symm,fun j hj=>?_⟩
 have:=hno j hj
 rw [g j (by omega)] at this
 rw [this];rfl
theorem B0s {α : Type} [Inhabited α] {l:List α} {p : α→Bool} (hno:∀ j,j<l.length→p (l.getD j default)=false):l.find? p=none:=by
 rw [D8f]
 intro x hx
 obtain ⟨j,hj,rfl⟩:=D3 hx
 rw [hno j hj];simp
theorem B8s (z:K7) (c:C8) (hl:z.rates.length≤100000) (st:St):S P 189 [T3 z,eS c] st fun v st'=>v=eI (E9 z c)∧st'=st:=by
 refine F1 [2,6] Tryz.func189 ?_
 refine lp z.rates.length [1,2,8,9,10] (fun i vs t=>(∀ j,j<i→((z.rates.getD j default).cat.toList==c.toList)=false)∧vs=[eS c,.fptr (T3 z) 0,A8 2 A0Y z.rates,eI z.rates.length,eI i]∧t=st) ?_ ?_
 ·conv=>whnf
  exact ⟨fun j hj=>absurd hj (by omega),rfl,rfl⟩
 ·rintro i vs t hi ⟨hno,rfl,rfl⟩
  conv=>whnf
  cases h1:decide ((i:Int)<(z.rates.length:Int))
  ·obtain rfl:=C2 h1 hi
   have hf:E9 z c=z.rest:=by unfold E9;rw [B0s hno]
   rw [hf];conv=>whnf
   exact ⟨rfl,rfl⟩
  ·have hi':=D6 h1
   conv=>whnf
   refine E4 ?_
   refine B8 (fun h2=>?_) (fun h2=>?_)<;>rw [h2]
   ·have hf:E9 z c=(z.rates.getD (i:Int).toNat default).rate:=by unfold E9;rw [B0r (p:=fun x:G5=>x.cat.toList==c.toList) hi' h2 hno];rfl
    rw [hf];conv=>whnf
    exact ⟨rfl,rfl⟩
   ·conv=>whnf
    refine F6 ?_
    exact nx hi' ⟨G6 hno h2,by rw [B4 (by omega)],rfl⟩
theorem B4g (l:List G5) (hl:l.length≤100000) (st:St):S P 276 [A8 2 A0Y l] st fun v st'=>v=A8 2 A0Y l∧st'=st:=by
 refine A0M (ty:=209) ?_
 refine SyW [] Tryz.func276 ?_
 cases l with
 | nil =>
  conv=>whnf
  refine ⟨?_,?_⟩
  ·conv=>whnf
   exact Col.start _ _ _ _
  ·conv=>whnf
   refine apE rfl rfl rfl rfl rfl (by show 0 * 24≤_;omega) (fun _=>?_) (fun h=>absurd h (by show ¬ 0<0;omega));conv=>whnf
   exact Col.start _ _ _ _
 | cons u us =>
  conv=>whnf
  refine Col.apps (n:=0) (m:=us.length+1) (q:=C6j) (f:=fun k=>A0Y ((u::us).getD k default)) rfl rfl rfl rfl rfl (fun i hi=>by rw [D5R]) (by show (0+(us.length+1)) * 24≤140737488355328;simp only [D6n] at hl;omega) (Col.start _ _ _ _) (fun sv' st'' hc'=>?_);conv=>whnf
  rw [D5R] at hc'
  exact hc'
theorem B5B (z:K7) (hl:z.rates.length≤100000) (st:St):S P 236 [T3 z] st fun v st'=>v=T3 z∧st'=st:=by
 have hc:=fun s=>B4g z.rates hl s
 refine A1C ?_
 refine F1 [] Tryz.func236 ?_
 intro b1 h1;conv=>whnf
 intro b2 h2
 have h12:b1≠b2:=fun e=>by subst e;rw [A0] at h2;cases h2
 conv=>whnf
 refine I4 (by rw [A9 h12];exact A0 ..) rfl ?_
 refine I2 (hc _) ?_
 refine X8 (by rw [A9 h12];exact A0 ..) rfl ?_
 refine I4 (A0 ..) (A4 ..) ?_
 refine X8 (by rw [A9 h12.symm];exact A0 ..) rfl ?_
 refine I4 (A0 ..) (A4 ..) ?_
 have hn2:st b2=none:=by rw [A9 h12.symm] at h2;exact h2
 exact ⟨rfl,((((E6.refl st).upd h1).upd h2).over h1).over hn2⟩
def C7s:K7:=⟨⟨#[]⟩,[],0,0⟩
theorem B8t (t:Tax) (s:C8) (hl:t.zones.length≤100000) (hr:∀ z∈t.zones,z.rates.length≤100000) (st:St) :
  S P 188 [S7 t,eS s] st fun v st'=>v=.tuple [T3 ((A0a t.zones s).getD C7s),.bool (A0a t.zones s).isSome]∧st'=st:=by
 refine S.post (post:=fun v s'=>E6 st s'∧((∃ z,A0a t.zones s=some z∧v=.tuple [T3 z,.bool true])∨(A0a t.zones s=none∧v=.tuple [.agg [eS ⟨#[]⟩,.emp,eI 0,eI 0],.bool false]))) ?_ (fun v s' ⟨hs,h⟩=>⟨_,st,⟨rfl,rfl⟩,by
  rcases h with ⟨z,h1,rfl⟩ | ⟨h1,rfl⟩
  ·rw [h1];exact hs.shift _
  ·rw [h1]
   exact (A7.tuple (A7.cons (Le.shift (Le.agg (F0.cons (Le.refl _) (F0.cons (Le.emp _ _) (F0.refl _)))) _) (A7.keep _ _)) rfl).trans (hs.shift _)⟩)
 refine F1 [2,7] Tryz.func188 ?_
 intro b4 hb4;conv=>whnf
 refine lp t.zones.length [1,4,9,10,11] (fun i vs u=>(∀ j,j<i→((t.zones.getD j default).name.toList==s.toList)=false)∧vs=[eS s,.optr 4 b4 0 0,A8 4 T3 t.zones,eI t.zones.length,eI i]∧u=upd st b4 ⟨103,4,1,fun _=>H2 C1g.zero⟩) ?_ ?_
 ·conv=>whnf
  exact ⟨fun j hj=>absurd hj (by omega),rfl,rfl⟩
 ·rintro i vs u hi ⟨hno,rfl,rfl⟩
  conv=>whnf
  cases h1:decide ((i:Int)<(t.zones.length:Int))
  ·obtain rfl:=C2 h1 hi
   have hf:A0a t.zones s=none:=B0s hno
   conv=>whnf
   refine X8 (A0 ..) rfl ?_
   refine I4 (A0 ..) (A4 ..) ?_
   exact ⟨((E6.refl st).upd hb4).over hb4,.inr ⟨hf,rfl⟩⟩
  ·have hi':=D6 h1
   conv=>whnf
   refine E4 ?_
   refine B8 (fun h2=>?_) (fun h2=>?_)<;>rw [h2]
   ·have hf:A0a t.zones s=some (t.zones.getD (i:Int).toNat default):=B0r (p:=fun z:K7=>z.name.toList==s.toList) hi' h2 hno
    have hc:=fun u=>B5B (t.zones.getD (i:Int).toNat default) (hr _ (A6 hi')) u
    generalize t.zones.getD (i:Int).toNat default=z at hf hc
    conv=>whnf
    refine I2 (hc _) ?_
    refine X8 (A0 ..) rfl ?_
    refine I4 (A0 ..) (A4 ..) ?_
    exact ⟨((E6.refl st).upd hb4).over hb4,.inl ⟨z,hf,rfl⟩⟩
   ·conv=>whnf
    refine F6 ?_
    exact nx hi' ⟨G6 hno h2,by rw [B4 (by omega)],rfl⟩
theorem A7y (x:Int) (st:St):S P 235 [eI x] st fun v st'=>v=.bool (J9 0 10000000000000 x)∧st'=st:=by
 refine SyW [] Tryz.func235 ?_
 repeat' ((conv=>whnf);first | (refine B8 (fun h=>?_) (fun h=>?_)<;>rw [h]))
 all_goals (conv=>whnf)
 all_goals (refine ⟨?_,rfl⟩;show AV.bool _=AV.bool _;congr 1)
 all_goals (simp only [J9, *,D5P,D5Z];try rfl)
theorem B7U (t:Tax) (x rate:Int) (hr:0≤rate∧rate≤10000) (st:St):S P 192 [S7 t,eI x,eI rate] st fun v st'=>v=eI (N8 t x rate)∧st'=st:=by
 have hM:N8 t x rate=(W5 x rate (A9c t rate) t.round).1:=rfl
 have hw:IntKind.i64.wrap (10000+rate)=10000+rate:=A5 (by omega) (by omega)
 refine F1 [3] Tryz.func192 ?_
 cases hi:t.incl
 ·have hd:A9c t rate=10000:=by unfold A9c;rw [if_neg (by rw [hi];simp)];rfl
  conv=>whnf
  refine B3 (B5h x rate 10000 t.round st) ?_
  rw [hM,hd]
  generalize W5 x rate 10000 t.round=Y
  conv=>whnf
  exact ⟨rfl,rfl⟩
 ·have hd:A9c t rate=10000+rate:=by unfold A9c;rw [if_pos hi]
  conv=>whnf
  rw [hw]
  refine B3 (B5h x rate (10000+rate) t.round st) ?_
  rw [hM,hd]
  generalize W5 x rate (10000+rate) t.round=Y
  conv=>whnf
  exact ⟨rfl,rfl⟩
theorem B1m (t:Tax) (rates nets:List Int) (i:Nat):(List.range (i+1)).map (fun i=>N8 t (gI nets i) (gI rates i))=(List.range i).map (fun i=>N8 t (gI nets i) (gI rates i))++[N8 t (gI nets i) (gI rates i)]:=by rw [D7i,D6i];rfl
theorem B5z (t:Tax) (rates nets:List Int) (hn:nets.length≤1000) (hl:rates.length=nets.length) (hq:∀ x∈rates,0≤x∧x≤10000) (st:St):S P 190 [S7 t,B0 rates,B0 nets] st fun v st'=>v=B0 (X1 t rates nets)∧st'=st:=by
 refine A0M (ty:=2) ?_
 have hL:X1 t rates nets=(List.range nets.length).map fun i=>N8 t (gI nets i) (gI rates i):=rfl
 rw [hL]
 refine F1 [3] Tryz.func190 ?_
 refine lp nets.length [1,3,7,10,11,12] (fun i vs s=>∃ sv,vs=[B0 rates,.fptr (S7 t) 0,sv,B0 nets,eI nets.length,eI i]∧E1 2 1 eI ((List.range i).map fun i=>N8 t (gI nets i) (gI rates i)) st sv s) ?_ ?_
 ·conv=>whnf
  exact ⟨.emp,rfl,E1.start _ _ _ _⟩
 ·rintro i vs s hi ⟨sv,rfl,hc⟩
  conv=>whnf
  cases h1:decide ((i:Int)<(nets.length:Int))
  ·obtain rfl:=C2 h1 hi
   conv=>whnf
   exact hc
  ·have hi':=D6 h1
   have hm:=fun u=>B7U t (gI nets (i:Int).toNat) (gI rates (i:Int).toNat) (hq _ (A6 (by show i<_;omega))) u
   have hs:=B1m t rates nets i
   have hln:((List.range i).map fun i=>N8 t (gI nets i) (gI rates i)).length=i:=by rw [D5F,D6d]
   conv=>whnf
   refine E4 ?_
   refine ⟨[8,9],[],List.range 11,by kernel_rfl,?_⟩;conv=>whnf
   refine E4 ?_
   refine ⟨_,F2 (hm _),?_⟩
   have hy:N8 t (gI nets i) (gI rates i)=N8 t (gI nets (i:Int).toNat) (gI rates (i:Int).toNat):=rfl
   rw [hy] at hs
   generalize N8 t (gI nets (i:Int).toNat) (gI rates (i:Int).toNat)=Y at hs
   conv=>whnf
   refine E1.app (y:=Y) (q:=r2) rfl rfl rfl rfl rfl (by rfl) (by rw [hln];show (i+1) * 8≤140737488355328;omega) hc (fun sv' t' hc'=>?_);conv=>whnf
   refine F6 ?_
   exact nx hi' ⟨sv',by rw [B4 (by omega)],by rw [hs];exact hc'⟩
theorem C5T {t:Tax} {z:K7} {cats:List C8} {nets:List Int} {ship:Int} (h:A2z t z cats nets ship) (st:St):S P 187 [S7 t,C9 cats,B0 nets,eI ship] st fun v st'=>v=.bool true∧st'=st:=by
 have hn:=h.nets.len
 have hs:=h.nets.sum
 have hp:=h.nets.pos
 have hc:=h.cats
 have hT:=fun s=>C7p t s
 have hA:=fun s=>A7y ship s
 rw [h.tax] at hT
 rw [show J9 0 10000000000000 ship=true from F4.2 h.ship] at hA
 have htk:∀ i,0≤A2 (nets.take i)∧A2 (nets.take i)≤10000000000000:=fun i=>by
  have:=N0 hp i
  exact ⟨C1 fun x hx=>hp x (D8z hx),by omega⟩
 refine F1 [4] Tryz.func187 ?_
 refine I2 (hT _) ?_
 rw [hc,show ((nets.length:Int) != (nets.length:Int))=false from bne_self_eq_false _];conv=>whnf
 refine B8 (fun h1=>absurd (D5D h1) (by omega)) (fun h1=>?_)
 rw [h1];conv=>whnf
 refine I2 (hA _) ?_
 refine lp nets.length [9,32,33,34] (fun i vs s=>vs=[eI (A2 (nets.take i)),B0 nets,eI nets.length,eI i]∧s=st) ?_ ?_
 ·conv=>whnf
  exact ⟨rfl,rfl⟩
 ·rintro i vs s hi ⟨rfl,rfl⟩
  conv=>whnf
  cases h2:decide ((i:Int)<(nets.length:Int))
  ·obtain rfl:=C2 h2 hi
   have hB:=fun s=>A7y (A2 (nets.take nets.length)) s
   rw [show J9 0 10000000000000 (A2 (nets.take nets.length))=true from F4.2 (htk _)] at hB;conv=>whnf
   refine I2 (hB _) ?_
   exact ⟨rfl,rfl⟩
  ·have hi':=D6 h2
   have hx:0≤gI nets (i:Int).toNat:=hp _ (A6 hi')
   have hx2:gI nets (i:Int).toNat≤A2 nets:=J2 hp (A6 hi')
   have hB:=fun s=>A7y (gI nets (i:Int).toNat) s
   rw [show J9 0 10000000000000 (gI nets (i:Int).toNat)=true from F4.2 (by omega)] at hB
   have hst:A2 (nets.take (i+1))=A2 (nets.take i)+gI nets (i:Int).toNat:=K5 hi'
   have h3:=htk (i+1)
   have hw:IntKind.i64.wrap (A2 (nets.take i)+gI nets (i:Int).toNat)=A2 (nets.take (i+1)):=by rw [hst] at h3 ⊢;exact A5 (by omega) (by omega)
   conv=>whnf
   refine E4 ?_
   refine I2 (hB _) ?_
   rw [hw]
   refine F6 ?_
   exact nx hi' ⟨by rw [B4 (by omega)],rfl⟩
theorem B3R {t:Tax} (h:taxC t=true):t.zones.length≤20∧∀ z∈t.zones,z.rates.length≤40:=by
 have h':=h
 unfold taxC at h
 simp only [D5G,D5Q,D6P,D5B] at h
 refine ⟨by omega,fun z hz=>?_⟩
 obtain ⟨k,hk,rfl⟩:=D3 hz
 exact (A4F (A4l.1 h.2.1 k hk)).2.2.1
def C4L (t:Tax):FuncId:=if t.byOrder=true then 191 else 190
def Z2 (t:Tax) (taxes nets:List Int) (i:Nat):Int:=if t.incl=true then gI nets i - gI taxes i else gI nets i
theorem B7T (f:Nat→Int) (i:Nat):(List.range (i+1)).map f=(List.range i).map f++[f i]:=by rw [D7i,D6i];rfl
theorem B7g (n i:Nat):(List.replicate n (0:Int)).getD i default=0:=by
 rw [D5A,D7S];split<;>rfl
set_option maxHeartbeats 8000000 in
theorem C7X {t:Tax} {z:K7} {s:C8} {cats:List C8} {nets:List Int} {ship:Int} (h:A2z t z cats nets ship) (hz:A0a t.zones s=some z) (exempt:Bool)
  (hTax:∀ st,S P (C4L t) [S7 t,B0 (cats.map (E9 z)),B0 nets] st fun v st'=>v=B0 (L0 t (cats.map (E9 z)) nets)∧st'=st) (st:St) :
  S P 124 [S7 t,eS s,eB exempt,C9 cats,B0 nets,eI ship] st fun v st' =>
   v=.tuple [B0 (L5 t z exempt cats nets ship).goods,B0 (L5 t z exempt cats nets ship).taxes,eI (L5 t z exempt cats nets ship).ship,eI (L5 t z exempt cats nets ship).shipTax,eI 0]∧st'=st:=by
 obtain ⟨hr1,hr2⟩:=A3y h
 obtain ⟨t1,t2⟩:=A6q (t:=t) h.nets hr1 hr2
 obtain ⟨l1,l2⟩:=B3R h.tax
 have hzm:z∈t.zones:=D7Z hz
 have hzr:=l2 z hzm
 have hn:=h.nets.len
 have hcl:=h.cats
 have hq:=(A4F h.zone).2.1
 have hm:=A2W (t:=t) h.ship.1 hq
 have hs:=h.ship
 have hM:=fun st=>C5T h st
 have hZ:∀ st,S P 188 [S7 t,eS s] st fun v st'=>v=.tuple [T3 z,.bool true]∧st'=st:=fun st=>by
  have:=B8t t s (by omega) (fun z hz=>by have:=l2 z hz;omega) st
  rw [hz] at this;exact this
 have hR:=fun c st=>B8s z c (by omega) st
 have hU:=fun st=>B7U t ship z.ship hq st
 have hL:L5 t z exempt cats nets ship=⟨(List.range nets.length).map (Z2 t (L0 t (cats.map (E9 z)) nets) nets),if exempt=true then List.replicate nets.length 0 else L0 t (cats.map (E9 z)) nets,if t.incl=true then ship - N8 t ship z.ship else ship,if exempt=true then 0 else N8 t ship z.ship⟩:=rfl
 rw [hL]
 have hnx:∀ i,i<nets.length→0≤gI nets i∧gI nets i≤10000000000000:=fun i hi=>by
  have h1:=h.nets.pos _ (show gI nets i∈nets from A6 hi)
  have h2:=J2 h.nets.pos (show gI nets i∈nets from A6 hi)
  have h3:=h.nets.sum
  exact ⟨h1,by omega⟩
 have htx:∀ i,i<nets.length→0≤gI (L0 t (cats.map (E9 z)) nets) i∧gI (L0 t (cats.map (E9 z)) nets) i≤10000000000000:=fun i hi=>t2 _ (A6 (by omega))
 generalize L0 t (cats.map (E9 z)) nets=TX at hTax t1 htx ⊢
 generalize N8 t ship z.ship=MS at hU hm ⊢
 clear hL t2
 refine S.post (post:=fun v s'=>∃ gv tv c1 c2,v=.tuple [gv,tv,eI (if t.incl=true then ship - MS else ship),eI (if exempt=true then 0 else MS),eI 0] ∧
   A7 [gv] s' [B0 ((List.range nets.length).map (Z2 t TX nets))] c1∧A7 [tv] c1 [B0 (if exempt=true then List.replicate nets.length 0 else TX)] c2∧E6 st c2) ?_
  (fun v s' ⟨gv,tv,c1,c2,h1,h2,h3,h4⟩=>⟨_,st,⟨rfl,rfl⟩,by
   rw [h1]
   exact (A7.tuple (A7.cons h2 (A7.cons h3 (A7.keep _ _))) rfl).trans (h4.shift _)⟩)
 refine F1 [6] Tryz.func124 ?_
 refine I2 (hM _) ?_
 refine I2 (hZ _) ?_
 intro b17 hb17;conv=>whnf
 refine stU (A0 ..) rfl ?_
 rw [B7];conv=>whnf
 generalize hst:(upd st b17 _:St)=S0
 obtain ⟨f17,at17,hf17⟩:∃ f17:Nat→AV,S0 b17=some ⟨103,4,1,f17⟩∧f17 0=T3 z:=by rw [←hst];exact ⟨_,A0 ..,by rw [A4];rfl⟩
 have hs0:E6 st S0:=by rw [←hst];exact (E6.refl st).upd hb17
 clear hst
 refine lp cats.length [2,4,5,6,12,17,19,39,40,41] (fun i vs u=>∃ sv,vs=[eB exempt,B0 nets,eI ship,.fptr (S7 t) 0,.emp,.optr 4 b17 0 0,sv,C9 cats,eI cats.length,eI i]∧E1 2 1 eI ((cats.take i).map (E9 z)) S0 sv u) ?_ ?_
 ·conv=>whnf
  exact ⟨.emp,rfl,E1.start _ _ _ _⟩
 rintro i vs u hi ⟨sv,rfl,hc⟩
 have hcs:=hc.sup
 conv=>whnf
 cases h1:decide ((i:Int)<(cats.length:Int))
 case true =>
  have hi':=D6 h1
  have hln:((cats.take i).map (E9 z)).length=i:=by rw [D5F,D5K];omega
  have hRi:=fun st=>hR (cats.getD (i:Int).toNat default) st
  have htk:(cats.take (i+1)).map (E9 z)=(cats.take i).map (E9 z)++[E9 z (cats.getD (i:Int).toNat default)]:=by rw [K6 hi',D6i];rfl
  generalize E9 z (cats.getD (i:Int).toNat default)=RT at hRi htk
  conv=>whnf
  refine E4 ?_
  refine I4 (hcs b17 _ at17) hf17 ?_
  refine I2 (hRi _) ?_
  refine E1.app (y:=RT) (q:=r2) rfl rfl rfl rfl rfl (by rfl) (by rw [hln];show (i+1) * 8≤140737488355328;omega) hc (fun sv' t' hc'=>?_);conv=>whnf
  refine F6 ?_
  exact nx hi' ⟨sv',by rw [B4 (by omega)],by rw [htk];exact hc'⟩
 obtain rfl:=C2 h1 hi
 rw [D5L] at hc
 have hTS:A7 [AV.agg [eB t.incl,eB t.byOrder,eI t.round,A8 4 T3 t.zones],sv,B0 nets] u [S7 t,B0 (cats.map (E9 z)),B0 nets] S0:=A7.cons (A7.keep [S7 t] _) (A7.cons hc.shift (A7.keep _ _))
 clear hc hcs hM hZ hR
 generalize cats.map (E9 z)=RS at hTax hTS
 unfold C4L at hTax;conv=>whnf
 cases hbo:t.byOrder
 case' false=>rw [if_neg (by rw [hbo];simp)] at hTax
 case' true=>rw [if_pos hbo] at hTax
 all_goals
  conv=>whnf
  refine F7 hTS (B3 (hTax _) ?_);conv=>whnf
  refine I4 at17 hf17 ?_
  refine I2 (hU _) ?_
  refine lp nets.length [2,4,6,12,13,14,15,65,66,67] (fun i vs u=>∃ sv,vs=[eB exempt,B0 nets,.fptr (S7 t) 0,sv,B0 TX,eI ship,eI MS,B0 nets,eI nets.length,eI i]∧E1 2 1 eI ((List.range i).map (Z2 t TX nets)) S0 sv u) ?_ ?_
  ·conv=>whnf
   exact ⟨.emp,rfl,E1.start _ _ _ _⟩
  rintro i vs u hi ⟨sv,rfl,hc⟩
  have hcs:=hc.sup
  conv=>whnf
  cases h1:decide ((i:Int)<(nets.length:Int))
  case true =>
   have hi':=D6 h1
   have hln:((List.range i).map (Z2 t TX nets)).length=i:=by rw [D5F,D6d]
   have hnx1:=hnx i hi'
   have htx1:=htx i hi'
   have htk:=B7T (Z2 t TX nets) i
   have hgA:Z2 t TX nets i=if t.incl=true then gI nets (i:Int).toNat - gI TX (i:Int).toNat else gI nets (i:Int).toNat:=rfl
   have hgw:IntKind.i64.wrap (gI nets (i:Int).toNat - gI TX (i:Int).toNat)=gI nets (i:Int).toNat - gI TX (i:Int).toNat:=A5 (show _≤gI nets i - gI TX i by omega) (show gI nets i - gI TX i≤_ by omega)
   generalize Z2 t TX nets i=GA at htk hgA
   conv=>whnf
   refine E4 ?_
   cases hin:t.incl
   case' false=>rw [if_neg (by rw [hin];simp)] at hgA
   case' true =>
    rw [if_pos hin] at hgA;conv=>whnf
    refine E4 ?_
    rw [hgw]
   all_goals
    conv=>whnf
    refine E1.app (y:=GA) (q:=r2) rfl rfl rfl rfl rfl (by rw [hgA];rfl) (by rw [hln];show (i+1) * 8≤140737488355328;omega) hc (fun sv' t' hc'=>?_);conv=>whnf
    refine F6 ?_
    exact nx hi' ⟨sv',by rw [B4 (by omega)],by rw [htk];exact hc'⟩
  obtain rfl:=C2 h1 hi
  have hwS:IntKind.i64.wrap (ship - MS)=ship - MS:=A5 (by omega) (by omega)
  conv=>whnf
  cases hin:t.incl
  case' false=>rw [if_neg (show ¬(false=true) by simp)]
  case' true =>
   rw [if_pos rfl];conv=>whnf
   rw [hwS]
  all_goals
   conv=>whnf
   cases exempt
   ·conv=>whnf
    exact ⟨sv,B0 TX,S0,S0,rfl,hc.shift,A7.keep _ _,hs0⟩
   ·conv=>whnf
    refine mkO rfl rfl rfl (by show 8 * nets.length≤_;omega) (by omega) (by rfl) (fun bz hbz=>?_);conv=>whnf
    have hb0:S0 bz=none:=Col.off hc hbz
    have hc2:=Col.under (y:=⟨2,1,nets.length,fun _=>H2 r2.zero⟩) hc hbz
    refine ⟨sv,.own 1 bz 0 nets.length,upd S0 bz ⟨2,1,nets.length,fun _=>H2 r2.zero⟩,del (upd S0 bz ⟨2,1,nets.length,fun _=>H2 r2.zero⟩) bz,rfl,Col.shift hc2,?_,E6.del (hs0.upd hb0) (hs0.none hb0)⟩
    have e:B0 (List.replicate nets.length 0)=.arr 1 nets.length (fun k=>eI ((List.replicate nets.length (0:Int)).getD k default)):=by unfold B0 A8;rw [D6J]
    rw [if_pos rfl,e]
    exact N7 (A0 ..) rfl (D5J _) (fun k hk=>by rw [B7g];rfl)
structure Add where
 sku:C8
 qty:Int
 deriving Inhabited
def A4U (x:Add):AV:=.agg [eS x.sku,eI x.qty]
theorem B1N (l:List Int) (h:K3 l) (st:St):S P 125 [B0 l] st fun v st'=>v=eI (A2 l)∧st'=st:=by
 have hn:=h.len
 refine F1 [] Tryz.func125 ?_
 refine lp l.length [3,6,7,8] (fun i vs t=>vs=[eI (A2 (l.take i)),B0 l,eI l.length,eI i]∧t=st) ?_ ?_
 ·conv=>whnf
  exact ⟨rfl,rfl⟩
 ·rintro i vs t hi ⟨rfl,rfl⟩
  conv=>whnf
  cases h1:decide ((i:Int)<(l.length:Int))
  ·obtain rfl:=C2 h1 hi
   rw [D5L];conv=>whnf
   exact ⟨rfl,rfl⟩
  ·have hi':=D6 h1
   have hs:IntKind.i64.wrap (A2 (l.take i)+gI l (i:Int).toNat)=A2 (l.take (i+1)):=h.step hi'
   conv=>whnf
   refine E4 ?_
   rw [hs]
   refine F6 ?_
   exact nx hi' ⟨by rw [B4 (by omega)],rfl⟩
theorem C7F (q:A0S) (h1:K3 q.goods) (h2:K3 q.taxes) (st:St):S P 64 [A0e q] st fun v st'=>v=A1x (A2q q)∧st'=st:=by
 have c1:=fun s=>B1N q.goods h1 s
 have c2:=fun s=>B1N q.taxes h2 s
 have hB:A2q q=⟨A2 q.goods,A2 q.taxes,q.ship,q.shipTax,0⟩:=rfl
 rw [hB]
 generalize A2 q.goods=G at c1 ⊢
 generalize A2 q.taxes=T' at c2 ⊢
 refine A1C ?_
 refine F1 [1] Tryz.func64 ?_
 intro b2 hb;conv=>whnf
 refine ⟨[11],[],List.range 12,by kernel_rfl,?_⟩;conv=>whnf
 refine cqW (c1 _) ?_
 refine cqW (c2 _) ?_
 refine X8 (A0 ..) rfl ?_
 refine I4 (A0 ..) (A4 ..) ?_
 exact ⟨rfl,((E6.refl st).upd hb).over hb⟩
theorem C0l (r:H0) (l:List E7):(N2 r l).length=l.length:=by unfold N2 C3;rw [D5F,D5F]
theorem C5A {a b c d:Int} (ha : -10000000000000≤a∧a≤10000000000000) (hb : -10000000000000≤b∧b≤10000000000000) (hc : -10000000000000≤c∧c≤10000000000000) (hd : -10000000000000≤d∧d≤10000000000000):K3 [a,b,c,d]:=by
 refine ⟨by show 4≤1000;decide,fun x hx=>?_⟩
 simp only [D7c,D7f,or_false] at hx
 rcases hx with rfl | rfl | rfl | rfl<;>assumption
theorem B8w {a b c d:Int} {F:Nat→AV} {st:St} (h0:F 0=eI a) (h1:F 1=eI b) (h2:F 2=eI c) (h3:F 3=eI d):A7 [.arr 1 4 F] st [B0 [a,b,c,d]] st :=
 A7.arr (g:=fun i=>eI ([a,b,c,d].getD i default)) fun i hi=>by
  match i,hi with
  | 0,_=>exact h0
  | 1,_=>exact h1
  | 2,_=>exact h2
  | 3,_=>exact h3
set_option maxHeartbeats 8000000 in
theorem quote_S {r:H0} {codes:List C8} {l:List E7} {Pr:A3T} {z:K7} {zone:C8} (exempt:Bool)
  (hP:∀ st,S P 122 [H5 r,C9 codes,A8 3 H7 l] st fun v s=>v=.tuple [A1f Pr,eI 0]∧s=st)
  (hI:∀ st,S P 123 [A8 4 E5 r.items,A8 3 H7 l] st fun v s=>v=A8 4 E5 (C3 r.items l)∧s=st)
  (hln:l.length≤1000) (hV:A2z r.tax z (N2 r l) Pr.nets Pr.ship) (hz:A0a r.tax.zones zone=some z)
  (hTax:∀ st,S P (C4L r.tax) [S7 r.tax,B0 ((N2 r l).map (E9 z)),B0 Pr.nets] st fun v st'=>v=B0 (L0 r.tax ((N2 r l).map (E9 z)) Pr.nets)∧st'=st)
  (hsm:A2 (L5 r.tax z exempt (N2 r l) Pr.nets Pr.ship).goods≤10000000000000∧-10000000000000≤A2 (L5 r.tax z exempt (N2 r l) Pr.nets Pr.ship).goods∧A2 (L5 r.tax z exempt (N2 r l) Pr.nets Pr.ship).taxes≤10000000000000) (st:St) :
  S P 60 [H5 r,eS zone,eB exempt,C9 codes,A8 3 H7 l] st fun v st'=>v=.tuple [A0e (A9z r z exempt l Pr),eI 0]∧st'=st:=by
 have hQ:=B0v hV exempt Pr.deals
 have hlv:=fun s=>C7X hV hz exempt hTax s
 have hq:A9z r z exempt l Pr=⟨(L5 r.tax z exempt (N2 r l) Pr.nets Pr.ship).goods,(L5 r.tax z exempt (N2 r l) Pr.nets Pr.ship).taxes,(L5 r.tax z exempt (N2 r l) Pr.nets Pr.ship).ship,(L5 r.tax z exempt (N2 r l) Pr.nets Pr.ship).shipTax,A2 (L5 r.tax z exempt (N2 r l) Pr.nets Pr.ship).goods+A2 (L5 r.tax z exempt (N2 r l) Pr.nets Pr.ship).taxes+(L5 r.tax z exempt (N2 r l) Pr.nets Pr.ship).ship+(L5 r.tax z exempt (N2 r l) Pr.nets Pr.ship).shipTax,Pr.deals⟩:=rfl
 rw [hq]
 have hpos:0≤A2 (L5 r.tax z exempt (N2 r l) Pr.nets Pr.ship).taxes:=C1 hQ.pos
 obtain ⟨q1,q2,q3,q4,q5,q6,q7,_⟩:=hQ
 have q1:K3 (L5 r.tax z exempt (N2 r l) Pr.nets Pr.ship).goods:=q1
 have q2:K3 (L5 r.tax z exempt (N2 r l) Pr.nets Pr.ship).taxes:=q2
 have q6:0≤(L5 r.tax z exempt (N2 r l) Pr.nets Pr.ship).ship∧(L5 r.tax z exempt (N2 r l) Pr.nets Pr.ship).ship≤10000000000000:=q6
 have q7:0≤(L5 r.tax z exempt (N2 r l) Pr.nets Pr.ship).shipTax∧(L5 r.tax z exempt (N2 r l) Pr.nets Pr.ship).shipTax≤10000000000000:=q7
 clear hq q3 q4 q5 hTax hV hz
 generalize L5 r.tax z exempt (N2 r l) Pr.nets Pr.ship=V at *
 have s1:=fun s=>B1N V.goods q1 s
 have s2:=fun s=>B1N V.taxes q2 s
 have s3:=fun s=>B1N [A2 V.goods,A2 V.taxes,V.ship,V.shipTax] (C5A (by omega) (by omega) (by omega) (by omega)) s
 have e3:A2 [A2 V.goods,A2 V.taxes,V.ship,V.shipTax]=A2 V.goods+A2 V.taxes+V.ship+V.shipTax:=by
  show 0+A2 V.goods+A2 V.taxes+V.ship+V.shipTax=_;omega
 rw [e3] at s3
 have hil:(C3 r.items l).length=l.length:=D5F ..
 have hcb:N2 r l=(C3 r.items l).map Ab.Item.cat:=rfl
 rw [hcb] at hlv
 generalize C3 r.items l=IT at hI hil hlv
 clear hcb
 refine A1C ?_
 refine F1 [5,16] Tryz.func60 ?_
 intro b10 hb10;conv=>whnf
 refine I2 (hP _) ?_
 intro b12 hb12
 have h02:b10≠b12:=fun e=>by subst e;rw [A0] at hb12;cases hb12
 conv=>whnf
 refine stU (A0 ..) rfl ?_
 rw [B7];conv=>whnf
 refine I2 (hI _) ?_
 generalize hst:(upd (upd st b10 _) b12 _:St)=S0
 obtain ⟨f12,at12,hf12⟩:∃ f12:Nat→AV,S0 b12=some ⟨170,4,1,f12⟩∧f12 0=A1f Pr:=by rw [←hst];exact ⟨_,A0 ..,by rw [A4];rfl⟩
 obtain ⟨f10,at10⟩:∃ f10:Nat→AV,S0 b10=some ⟨113,6,1,f10⟩∧f10 0=H2 C6h.zero:=by rw [←hst,A9 h02];exact ⟨_,A0 ..,rfl⟩
 obtain ⟨at10,hf10⟩:=at10
 have hs0:E6 st S0:=by rw [←hst];exact ((E6.refl st).upd hb10).upd hb12
 have n12:st b12=none:=by rw [A9 h02.symm] at hb12;exact hb12
 clear hst
 refine lp IT.length [1,2,5,10,12,14,35,36,37] (fun i vs u=>∃ sv,vs=[eS zone,eB exempt,.fptr (H5 r) 0,.optr 6 b10 0 0,.optr 4 b12 0 0,sv,A8 4 E5 IT,eI IT.length,eI i]∧E1 9 1 eS ((IT.take i).map Ab.Item.cat) S0 sv u) ?_ ?_
 ·conv=>whnf
  exact ⟨.emp,rfl,E1.start _ _ _ _⟩
 rintro i vs u hi ⟨sv,rfl,hc⟩
 have hcs:=hc.sup
 conv=>whnf
 cases h1:decide ((i:Int)<(IT.length:Int))
 case true =>
  have hi':=D6 h1
  have hln2:((IT.take i).map Ab.Item.cat).length=i:=by rw [D5F,D5K];omega
  have htk:(IT.take (i+1)).map Ab.Item.cat=(IT.take i).map Ab.Item.cat++[(IT.getD (i:Int).toNat default).cat]:=by rw [K6 hi',D6i];rfl
  conv=>whnf
  refine E4 ?_
  refine E1.app (y:=(IT.getD (i:Int).toNat default).cat) (q:=r9) rfl rfl rfl rfl rfl (by rfl) (by rw [hln2];show (i+1) * 16≤140737488355328;omega) hc (fun sv' t' hc'=>?_);conv=>whnf
  refine F6 ?_
  exact nx hi' ⟨sv',by rw [B4 (by omega)],by rw [htk];exact hc'⟩
 obtain rfl:=C2 h1 hi
 rw [D5L] at hc;conv=>whnf
 refine I4 (hcs b12 _ at12) hf12 ?_
 refine I4 (hcs b12 _ at12) hf12 ?_
 have hTS:A7 [S7 r.tax,eS zone,eB exempt,sv,B0 Pr.nets,eI Pr.ship] u [S7 r.tax,eS zone,eB exempt,C9 (IT.map Ab.Item.cat),B0 Pr.nets,eI Pr.ship] S0 :=
  A7.cons (A7.keep [S7 r.tax] _) (A7.cons (A7.keep [eS zone] _) (A7.cons (A7.keep [eB exempt] _) (A7.cons hc.shift (A7.keep _ _))))
 refine F7 hTS (B3 (hlv _) ?_);conv=>whnf
 refine ⟨[15],[],List.range 17,by kernel_rfl,?_⟩;conv=>whnf
 refine cqW (s1 _) ?_
 refine cqW (s2 _) ?_
 refine ⟨_,⟨rfl,rfl⟩,?_⟩;conv=>whnf
 refine ⟨_,F7 (B8w rfl rfl rfl rfl) (F2 (s3 _)),?_⟩;conv=>whnf
 refine I4 at12 hf12 ?_
 refine X8 at10 hf10 ?_
 refine I4 (A0 ..) (A4 ..) ?_
 exact ⟨rfl,hs0.over hb10⟩
def A0P (x:Add):Bool:=decide (x.qty<1)||decide (x.qty>100000)
def K1 (items:List Ab.Item) (x:Add):E7:=⟨x.sku,x.qty,(items.getD (P2 items x.sku).toNat default).price⟩
def X2 (items:List Ab.Item) (adds:List Add):List E7×Int :=
 if adds.length<1∨adds.length>1000 then ([],2) else if (adds.any A0P)=true then ([],2) else if (adds.any fun x=>decide (P2 items x.sku<0))=true then ([],7) else (adds.map (K1 items),0)
theorem C3N (items:List Ab.Item) (adds:List Add) (hi:items.length≤9223372036854775807) (st:St) :
  S P 59 [A8 4 E5 items,A8 2 A4U adds] st fun v st'=>v=.tuple [A8 3 H7 (X2 items adds).1,eI (X2 items adds).2]∧st'=st:=by
 have hB:X2 items adds=if adds.length<1∨adds.length>1000 then ([],2) else if (adds.any A0P)=true then ([],2) else if (adds.any fun x=>decide (P2 items x.sku<0))=true then ([],7) else (adds.map (K1 items),0):=rfl
 refine S.post (post:=fun v s'=>(∃ e,X2 items adds=([],e)∧v=.tuple [.emp,eI e]∧E6 st s')∨(∃ sv,X2 items adds=(adds.map (K1 items),0)∧v=.tuple [sv,eI 0]∧E1 137 3 H7 (adds.map (K1 items)) st sv s')) ?_ (fun v s' hv=>⟨_,st,⟨rfl,rfl⟩,by
  rcases hv with ⟨e,h1,rfl,h2⟩ | ⟨sv,h1,rfl,h2⟩
  ·rw [h1];exact (A7.tuple (A7.cons (I0 3 _) (A7.keep _ _)) rfl).trans (h2.shift _)
  ·rw [h1];exact A7.tuple (A7.cons h2.shift (A7.keep _ _)) rfl⟩)
 refine F1 [7,10] Tryz.func59 ?_
 refine B8 (fun h1=>?_) (fun h1=>?_)<;>rw [h1]<;>simp only [D5C,D5B] at h1
 ·rw [if_pos (.inl (by omega))] at hB;conv=>whnf
  exact .inl ⟨2,hB,rfl,E6.refl _⟩
 conv=>whnf
 refine B8 (fun h2=>?_) (fun h2=>?_)<;>rw [h2]<;>simp only [D5C,D5B] at h2
 ·rw [if_pos (.inr (by omega))] at hB;conv=>whnf
  exact .inl ⟨2,hB,rfl,E6.refl _⟩
 rw [if_neg (by omega)] at hB;conv=>whnf
 refine lp adds.length [0,1,20,21,22] (fun i vs t=>(∀ j,j<i→A0P (adds.getD j default)=false)∧vs=[A8 4 E5 items,A8 2 A4U adds,A8 2 A4U adds,eI adds.length,eI i]∧t=st) ?_ ?_
 ·conv=>whnf
  exact ⟨fun j hj=>absurd hj (by omega),rfl,rfl⟩
 rintro i vs t hi' ⟨hno,rfl,rfl⟩
 conv=>whnf
 cases h3:decide ((i:Int)<(adds.length:Int))
 case true =>
  have hi2:=D6 h3
  have hbad:A0P (adds.getD (i:Int).toNat default)=true→X2 items adds=([],2):=fun h=>by
   rw [if_pos (D7m.2 ⟨_,A6 hi2,h⟩)] at hB;exact hB
  conv=>whnf
  refine E4 ?_
  refine B8 (fun h4=>?_) (fun h4=>?_)<;>rw [h4]
  ·conv=>whnf
   exact .inl ⟨2,hbad (by unfold A0P;rw [h4];rfl),rfl,E6.refl _⟩
  conv=>whnf
  refine B8 (fun h5=>?_) (fun h5=>?_)<;>rw [h5]
  ·conv=>whnf
   exact .inl ⟨2,hbad (by unfold A0P;rw [h5,D6q]),rfl,E6.refl _⟩
  conv=>whnf
  refine F6 ?_
  exact nx hi2 ⟨G6 hno (show A0P (adds.getD (i:Int).toNat default)=false by unfold A0P;rw [h4,h5];rfl),by rw [B4 (by omega)],rfl⟩
 obtain rfl:=C2 h3 hi'
 rw [if_neg (by
  rw [D6B,D6F]
  intro x hx
  obtain ⟨j,hj,rfl⟩:=D3 hx
  rw [hno j hj];simp)] at hB
 conv=>whnf
 refine lp adds.length [0,8,35,36,37] (fun i vs s=>∃ sv,(∀ j,j<i→(fun x:Add=>decide (P2 items x.sku<0)) (adds.getD j default)=false)∧vs=[A8 4 E5 items,sv,A8 2 A4U adds,eI adds.length,eI i]∧E1 137 3 H7 ((adds.take i).map (K1 items)) t sv s) ?_ ?_
 ·conv=>whnf
  exact ⟨.emp,fun j hj=>absurd hj (by omega),rfl,E1.start _ _ _ _⟩
 rintro i vs s hi2 ⟨sv,hno2,rfl,hc⟩
 conv=>whnf
 cases h4:decide ((i:Int)<(adds.length:Int))
 case false =>
  obtain rfl:=C2 h4 hi2
  rw [D5L] at hc
  rw [if_neg (by
   rw [D6B,D6F]
   intro x hx
   obtain ⟨j,hj,rfl⟩:=D3 hx
   have:=hno2 j hj
   simp only at this
   rw [this];simp)] at hB
  conv=>whnf
  exact .inr ⟨sv,hB,rfl,hc⟩
 have hi3:=D6 h4
 have hF:=fun u=>B7E items (adds.getD (i:Int).toNat default).sku hi u
 have hln:((adds.take i).map (K1 items)).length=i:=by rw [D5F,D5K];omega
 have htk:(adds.take (i+1)).map (K1 items)=(adds.take i).map (K1 items)++[K1 items (adds.getD (i:Int).toNat default)]:=by rw [K6 hi3,D6i];rfl
 have hrng:=A9h (fun x:Ab.Item=>x.sku.toList==(adds.getD (i:Int).toNat default).sku.toList) items
 have hAL:K1 items (adds.getD (i:Int).toNat default)=⟨(adds.getD (i:Int).toNat default).sku,(adds.getD (i:Int).toNat default).qty,(items.getD (P2 items (adds.getD (i:Int).toNat default).sku).toNat default).price⟩:=rfl
 have hno3:=fun h=>G6 (q:=fun j=>(fun x:Add=>decide (P2 items x.sku<0)) (adds.getD j default)=false) hno2 h
 have hpos:(fun x:Add=>decide (P2 items x.sku<0)) (adds.getD (i:Int).toNat default)=true→X2 items adds=([],7):=fun h=>by
  rw [if_pos (D7m.2 ⟨_,A6 hi3,h⟩)] at hB;exact hB
 have hf0:P2 items (adds.getD (i:Int).toNat default).sku=P2 items (adds.getD i default).sku:=rfl
 simp only at hpos hno3
 rw [←hf0] at hno3
 generalize hfv:P2 items (adds.getD (i:Int).toNat default).sku=FV at hF hpos hno3 hAL
 have hrng2 : -1≤FV∧FV<items.length:=by rw [←hfv];exact hrng
 conv=>whnf
 refine E4 ?_
 refine I2 (hF _) ?_
 refine B8 (fun h5=>?_) (fun h5=>?_)<;>rw [h5]
 ·conv=>whnf
  exact .inl ⟨7,hpos h5,rfl,hc.sup⟩
 have h5':=D5E h5
 conv=>whnf
 refine ⟨[11,12],[],List.range 14,by kernel_rfl,?_⟩;conv=>whnf
 refine E4 ?_
 refine E1.app (y:=K1 items (adds.getD (i:Int).toNat default)) (q:=C3Q) rfl rfl rfl rfl rfl (by rw [hAL];rfl) (by rw [hln];show (i+1) * 32≤140737488355328;omega) hc (fun sv' t' hc'=>?_);conv=>whnf
 refine F6 ?_
 exact nx hi3 ⟨sv',hno3 h5,by rw [B4 (by omega)],by rw [htk];exact hc'⟩
end Go.Proofs.YtaapofnkmpiknaaGreat
namespace Go.Proofs.YtaapofnkmpiknaaGreat
open Go Go.Ab
structure A2m where
 sku:C8
 price:Int
 sold:Int
 left:Int
 goods:Int
 tax:Int
 deriving Inhabited
def O1 (x:A2m):AV:=.agg [eS x.sku,eI x.price,eI x.sold,eI x.left,eI x.goods,eI x.tax]
structure Y6 where
 kind:Int
 taken:Int
 given:Int
 deriving Inhabited
def P8 (x:Y6):AV:=.agg [eI x.kind,eI x.taken,eI x.given]
instance:Inhabited A4e:=⟨⟨0,0,0,0,0⟩⟩
structure R7 where
 id:C8
 rules:Int
 zone:C8
 exempt:Bool
 codes:List C8
 day:Int
 lines:List A2m
 ship:Int
 shipTax:Int
 fee:Int
 net:Int
 book:A4e
 tenders:List Y6
 deriving Inhabited
def T8 (o:R7):AV:=.agg [eS o.id,eI o.rules,eS o.zone,eB o.exempt,C9 o.codes,eI o.day,A8 6 O1 o.lines,eI o.ship,eI o.shipTax,eI o.fee,eI o.net,eI o.book.goods,eI o.book.tax,eI o.book.ship,eI o.book.shipTax,eI o.book.fee,A8 3 P8 o.tenders]
def A3o (x:Int):Bool:=J9 0 10000000000000 x
def I9 (x:Int):Bool:=J9 0 100000000000000 x
def Z7 (x:A2m):Bool:=D1 x.sku&&J9 0 1000000000 x.price&&J9 1 100000 x.sold&&J9 0 x.sold x.left&&A3o x.goods&&A3o x.tax
def J7 (x:Y6):Bool:=J9 1 9 x.kind&&I9 x.taken&&J9 0 x.taken x.given
def N1 (b:A4e):List Int:=[b.goods,b.tax,b.ship,b.shipTax,b.fee]
def A4R (b:A4e):Bool:=(N1 b).all I9
def V7 (b:A4e):Int:=if A4R b=true then A2 (N1 b) else 0
def A0o (l:List Y6):Int:=l.foldl (fun a x=>a+(x.taken - x.given)) 0
def B1h (o:R7):Bool:=D1 o.id&&D1 o.zone&&J9 1 40 o.rules&&S6 o.codes&&J9 0 100000 o.day
def A5R (o:R7):Bool:=decide ((o.lines.length:Int)≥1)&&decide ((o.lines.length:Int)≤1000)&&o.lines.all Z7
def A0X (o:R7):Bool:=A3o o.ship&&A3o o.shipTax&&I9 o.fee&&I9 o.net
def A7d (o:R7):Bool:=A4R o.book&&(V7 o.book==o.net)
def A1d (o:R7):Bool:=o.tenders.all J7&&(decide ((o.tenders.length:Int)≤6)&&(A0o o.tenders==o.net))
def Z0 (o:R7):Bool:=decide ((o.tenders.length:Int)≤6)&&B1h o&&A5R o&&A0X o&&A7d o&&A1d o
def C0I (o:R7):List E7:=o.lines.map fun x=>⟨x.sku,x.left,x.price⟩
def V8 (t n k:Int):Int:=t * k / n
def shG (l:List A2m):Int:=l.foldl (fun a x=>a+V8 x.goods x.sold x.left) 0
def shT (l:List A2m):Int:=l.foldl (fun a x=>a+V8 x.tax x.sold x.left) 0
def Q5 (l:List A2m):Bool:=l.any fun x=>decide (x.left>0)
def A1h (o:R7):A4e:=if Z0 o=true then ⟨shG o.lines,shT o.lines,if Q5 o.lines=true then o.ship else 0,if Q5 o.lines=true then o.shipTax else 0,0⟩ else ⟨0,0,0,0,0⟩
theorem A8l {x:A2m} (h:Z7 x=true):D1 x.sku=true∧(0≤x.price∧x.price≤1000000000)∧(1≤x.sold∧x.sold≤100000)∧(0≤x.left∧x.left≤x.sold)∧(0≤x.goods∧x.goods≤10000000000000)∧(0≤x.tax∧x.tax≤10000000000000):=by
 unfold Z7 A3o at h
 simp only [D5G,F4] at h
 obtain ⟨⟨⟨⟨⟨h1,h2⟩,h3⟩,h4⟩,h5⟩,h6⟩:=h
 exact ⟨h1,h2,h3,h4,h5,h6⟩
theorem A3R {t n k:Int} (ht:0≤t) (hn:1≤n) (hk:0≤k) (hkn:k≤n):0≤V8 t n k∧V8 t n k≤t:=by
 unfold V8
 refine ⟨D7h (D7a ht hk) (by omega),?_⟩
 have h1:t * k≤t * n:=D6x hkn ht
 have h2:t * k / n≤t * n / n:=Int.ediv_le_ediv (by omega) h1
 rwa [Int.mul_ediv_cancel _ (by omega)] at h2
theorem B1y {α : Type} [Inhabited α] {f : α→Int} {M:Int} (hM:0≤M):∀ (l:List α),(∀ x∈l,0≤f x∧f x≤M)→∀ a:Int,a≤l.foldl (fun a x=>a+f x) a∧l.foldl (fun a x=>a+f x) a≤a+M * l.length
 | [],_,a=>⟨D6j _,by simp⟩
 | x::l,h,a=>by
  have h1:=h x (D6c ..)
  have h2:=B1y hM l (fun y hy=>h y (D6a _ hy)) (a+f x)
  simp only [D6W,D6n]
  have e:M * ((l.length+1:Nat):Int)=M * (l.length:Int)+M:=by rw [show ((l.length+1:Nat):Int)=(l.length:Int)+1 from rfl,D7M,D8y]
  rw [e]
  exact ⟨by omega,by omega⟩
end Go.Proofs.YtaapofnkmpiknaaGreat
namespace Go.Proofs.YtaapofnkmpiknaaGreat
open Go Go.Ab
attribute [local irreducible] upd del
theorem B0t (x:Int) (st:St):S P 130 [eI x] st fun v st'=>v=.bool (A3o x)∧st'=st:=by
 refine F1 [] Tryz.func130 ?_
 unfold A3o J9
 refine B8 (fun h=>?_) (fun h=>?_)<;>rw [h]<;>(conv=>whnf)<;>exact ⟨rfl,rfl⟩
theorem A5a (x:Int) (st:St):S P 72 [eI x] st fun v st'=>v=.bool (I9 x)∧st'=st:=A6P x st
theorem C6v (x:A2m) (st:St):S P 129 [O1 x] st fun v st'=>v=.bool (Z7 x)∧st'=st:=by
 have n1:=A2F x.sku st
 have n2:=B0t x.goods st
 have n3:=B0t x.tax st
 unfold Z7 J9
 generalize D1 x.sku=b1 at *
 generalize A3o x.goods=b2 at *
 generalize A3o x.tax=b3 at *
 refine SyW [1] Tryz.func129 ?_
 repeat' ((conv=>whnf);first | refine B3 n1 ?_ | refine B3 n2 ?_ | refine B3 n3 ?_ | refine ⟨rfl,?_⟩ | (refine B8 (fun h=>?_) (fun h=>?_)<;>rw [h]))
 all_goals (conv=>whnf)
 all_goals (refine ⟨?_,rfl⟩;show AV.bool _=AV.bool _;clear n1 n2 n3)
 all_goals (simp only [*,D5P,D5Z,D6t,D6e,D6q,D6s,D6v,D6o,D6p,D6h,D6U])
theorem C1r (x:A2m) (st:St):S P 128 [O1 x] st fun v st'=>v=.bool (!Z7 x)∧st'=st:=by
 have n1:=C6v x st
 generalize Z7 x=b at *
 refine F1 [1] Tryz.func128 ?_
 refine I2 n1 ?_
 exact ⟨rfl,rfl⟩
theorem B4r (l:List A2m) (hl:l.length≤9223372036854775807) (g:FuncId) (cs:List AV) (p:A2m→Bool) (st:St)
  (hg:∀ x,x∈l→S P g (O1 x::cs) st fun v st'=>v=.bool (p x)∧st'=st) :
  S P 193 [A8 6 O1 l,.fn (.func g) [] cs] st fun v st'=>v=eI (idx p l)∧st'=st:=by
 refine F1 [] Tryz.func193 ?_
 refine ⟨[0,1,7,8],fun m vs st'=>∃ i:Nat,i≤l.length∧(∀ k,k<i→p (l.getD k default)=false)∧m=l.length - i∧vs=[A8 6 O1 l,.fn (.func g) [] cs,eI l.length,eI i]∧st'=st,?_,?_⟩
 ·conv=>whnf
  exact ⟨_,0,D6b _,fun k hk=>absurd hk (by omega),rfl,rfl,rfl⟩
 ·rintro m vs st' ⟨i,hi,hok,rfl,rfl,rfl⟩
  conv=>whnf
  cases h:decide ((i:Int)<(l.length:Int))
  ·have:=D5E h
   conv=>whnf
   refine ⟨?_,rfl⟩
   rw [U0 fun k hk=>hok k (by omega)];rfl
  ·have hi':i<l.length:=by have:=D5D h;omega
   conv=>whnf
   refine E4 ?_
   refine B3 (hg (l.getD (i:Int).toNat default) (by simp [hi'])) ?_
   rw [D5N]
   cases hp:p (l.getD i default)
   ·conv=>whnf
    refine F6 ?_
    refine ⟨l.length - (i+1),by omega,i+1,by omega,fun k hk=>?_,rfl,by rw [B4 (by omega)],rfl⟩
    rcases D6w.1 hk with h' | h'
    ·exact hok k h'
    ·rw [h'];exact hp
   ·conv=>whnf
    refine ⟨?_,rfl⟩
    rw [A1F hi' hok hp];rfl
theorem B7M (l:List A2m) (hl:l.length≤9223372036854775807) (g:FuncId) (cs:List AV) (p:A2m→Bool) (st:St)
  (hg:∀ x,x∈l→S P g (O1 x::cs) st fun v st'=>v=.bool (p x)∧st'=st) :
  S P 127 [A8 6 O1 l,.fn (.func g) [] cs] st fun v st'=>v=.bool (l.any p)∧st'=st:=by
 refine F1 [] Tryz.func127 ?_
 refine I2 (B4r l hl g cs p st hg) ?_
 refine ⟨?_,rfl⟩
 rw [←A1E];rfl
structure Z3 (o:R7):Prop where
 id:Sm o.id.size
 zone:Sm o.zone.size
 codes:Sm o.codes.length
 scodes:∀ s∈o.codes,Sm s.size
 lines:o.lines.length≤100000
 slines:∀ x∈o.lines,Sm x.sku.size
 tenders:o.tenders.length≤100000
theorem C5Y (o:R7) (hs:Z3 o) (st:St):S P 66 [T8 o] st fun v st'=>v=.bool (B1h o)∧st'=st:=by
 have n1:=A2F o.id st
 have n2:=A2F o.zone st
 have n3:=B4i o.codes hs.codes st
 have n4:=C2O o.day st
 have e:B1h o=(D1 o.id&&D1 o.zone&&(decide (o.rules≥1)&&decide (o.rules≤40))&&S6 o.codes&&J9 0 100000 o.day):=rfl
 rw [e]
 clear e hs
 generalize D1 o.id=b1 at *
 generalize D1 o.zone=b2 at *
 generalize S6 o.codes=b3 at *
 generalize J9 0 100000 o.day=b4 at *
 refine SyW [1] Tryz.func66 ?_
 repeat' ((conv=>whnf);first | refine B3 n1 ?_ | refine B3 n2 ?_ | refine B3 n3 ?_ | refine B3 n4 ?_ | refine ⟨rfl,?_⟩ | (refine B8 (fun h=>?_) (fun h=>?_)<;>rw [h]))
 all_goals (conv=>whnf)
 all_goals (refine ⟨?_,rfl⟩;show AV.bool _=AV.bool _;clear n1 n2 n3 n4)
 all_goals (simp only [*,D5P,D5Z,D6t,D6e,D6q,D6s,D6v,D6o,D6p,D6h,D6U])
theorem C3z (o:R7) (hs:Z3 o) (st:St):S P 67 [T8 o] st fun v st'=>v=.bool (A5R o)∧st'=st:=by
 have n1:=B7M o.lines (by have:=hs.lines;omega) 128 [] (fun x=>!Z7 x) st (fun x _=>C1r x st)
 have e:A5R o=(decide ((o.lines.length:Int)≥1)&&decide ((o.lines.length:Int)≤1000)&&!(o.lines.any fun x=>!Z7 x)):=by unfold A5R;rw [List.all_eq_not_any_not]
 rw [e]
 clear e hs
 generalize (o.lines.any fun x=>!Z7 x)=b1 at *
 refine SyW [1] Tryz.func67 ?_
 repeat' ((conv=>whnf);first | refine B3 n1 ?_ | refine ⟨rfl,?_⟩ | (refine B8 (fun h=>?_) (fun h=>?_)<;>rw [h]))
 all_goals (conv=>whnf)
 all_goals (refine ⟨?_,rfl⟩;show AV.bool _=AV.bool _;clear n1)
 all_goals (simp only [*,D5P,D5Z,D6t,D6e,D6q,D6s,D6v,D6o,D6p,D6h,D6U])
theorem B7Z (o:R7) (st:St):S P 68 [T8 o] st fun v st'=>v=.bool (A0X o)∧st'=st:=by
 have n1:=B0t o.ship st
 have n2:=B0t o.shipTax st
 have n3:=A5a o.fee st
 have n4:=A5a o.net st
 unfold A0X
 generalize A3o o.ship=b1 at *
 generalize A3o o.shipTax=b2 at *
 generalize I9 o.fee=b3 at *
 generalize I9 o.net=b4 at *
 refine SyW [1] Tryz.func68 ?_
 repeat' ((conv=>whnf);first | refine B3 n1 ?_ | refine B3 n2 ?_ | refine B3 n3 ?_ | refine B3 n4 ?_ | refine ⟨rfl,?_⟩ | (refine B8 (fun h=>?_) (fun h=>?_)<;>rw [h]))
 all_goals (conv=>whnf)
 all_goals (refine ⟨?_,rfl⟩;show AV.bool _=AV.bool _;clear n1 n2 n3 n4)
 all_goals (simp only [*,D5P,D5Z,D6t,D6e,D6q,D6s,D6v,D6o,D6p,D6h,D6U])
theorem B3B (b:A4e) (st:St):S P 71 [A1x b] st fun v st'=>v=A1x b∧st'=st:=by
 refine A1C ?_
 refine F1 [1] Tryz.func71 ?_
 intro b2 hb;conv=>whnf
 refine X8 (A0 ..) rfl ?_
 refine I4 (A0 ..) (A4 ..) ?_
 exact ⟨rfl,((E6.refl st).upd hb).over hb⟩
theorem A7I {l:List Int}:∀ i,i≤l.length→(∀ k,k<i→I9 (gI l k)=true)→0≤A2 (l.take i)∧A2 (l.take i)≤100000000000000 * (i:Int)
 | 0,_,_=>⟨by rw [D7o];exact D6j _,by rw [D7o];exact D6j _⟩
 | i+1,hi,h=>by
  have ih:=A7I i (by omega) fun k hk=>h k (by omega)
  have hx:=F4.1 (h i (by omega))
  rw [K5 (by omega)]
  omega
theorem A8X {b:A4e} (h:∀ k,k<5→I9 (gI (N1 b) k)=true):A4R b=true:=D5V.2 fun x hx=>by
 obtain ⟨k,hk,rfl⟩:=D3 hx
 exact h k hk
theorem A8Y {b:A4e} {k:Nat} (hk:k<5) (h:I9 (gI (N1 b) k)=false):A4R b=false:=by
 rw [D7k];intro e
 rw [D5V.1 e _ (A6 (l:=N1 b) (i:=k) hk)] at h;cases h
theorem B9M (b:A4e) (st:St):S P 20 [A1x b] st fun v st'=>v=eI (V7 b)∧st'=st:=by
 have c1:=fun s=>B3B b s
 refine F1 [1] Tryz.func20 ?_
 refine I2 (c1 _) ?_
 refine lp 5 [3,7,8] (fun i vs s=>(∀ k,k<i→I9 (gI (N1 b) k)=true)∧vs=[eI (A2 ((N1 b).take i)),A1x b,eI i]∧s=st) ?_ ?_
 ·conv=>whnf
  exact ⟨fun k hk=>absurd hk (by omega),rfl,rfl⟩
 rintro i vs s hi ⟨hok,rfl,rfl⟩
 conv=>whnf
 cases h:decide ((i:Int)<5)
 ·obtain rfl:i=5:=by have:=D5E h;omega
  have e:V7 b=A2 (N1 b):=by unfold V7;rw [if_pos (A8X hok)]
  rw [e];conv=>whnf
  exact ⟨rfl,rfl⟩
 have hi':i<5:=by have:=D5D h;omega
 have hr:=fun s=>A5a (gI (N1 b) i) s
 have hb:=A7I (l:=N1 b) i (by show i≤5;omega) hok
 have hn:=K5 (l:=N1 b) (i:=i) hi'
 have hw:I9 (gI (N1 b) i)=true→IntKind.i64.wrap (A2 ((N1 b).take i)+gI (N1 b) i)=A2 ((N1 b).take (i+1)):=fun hm=>by
  have hx:=F4.1 hm
  rw [hn];exact A5 (by omega) (by omega)
 have yes:I9 (gI (N1 b) i)=true→∀ k,k<i+1→I9 (gI (N1 b) k)=true:=fun hm=>G6 hok hm
 have no:I9 (gI (N1 b) i)=false→V7 b=0:=fun hm=>by unfold V7;rw [A8Y hi' hm];rfl
 generalize A2 ((N1 b).take i)=Z at *
 generalize hY:A2 ((N1 b).take (i+1))=Y at *
 generalize I9 (gI (N1 b) i)=m at hr hw yes no
 clear hn hok hb h hi
 conv=>whnf
 rcases (by omega:i=0∨i=1∨i=2∨i=3∨i=4) with rfl | rfl | rfl | rfl | rfl
 all_goals
  refine ⟨⟨rfl,Nat.le_of_ble_eq_true rfl,by omega,by omega⟩,?_⟩;conv=>whnf
  refine B3 (hr _) ?_
  cases m
  ·conv=>whnf
   rw [no rfl]
   exact ⟨rfl,rfl⟩
  ·conv=>whnf
   refine F6 ?_
   exact nx hi' ⟨yes rfl,by rw [hY,←hw rfl,B4 (by omega)];rfl,rfl⟩
theorem C5X (o:R7) (st:St):S P 69 [T8 o] st fun v st'=>v=.bool (A7d o)∧st'=st:=by
 have c1:=fun s=>B3B o.book s
 have c2:=fun s=>B9M o.book s
 refine F1 [1] Tryz.func69 ?_
 refine I2 (c1 _) ?_
 refine lp 5 [1,8,9] (fun i vs s=>(∀ k,k<i→I9 (gI (N1 o.book) k)=true)∧vs=[.fptr (T8 o) 0,A1x o.book,eI i]∧s=st) ?_ ?_
 ·conv=>whnf
  exact ⟨fun k hk=>absurd hk (by omega),rfl,rfl⟩
 rintro i vs s hi ⟨hok,rfl,rfl⟩
 conv=>whnf
 cases h:decide ((i:Int)<5)
 ·obtain rfl:i=5:=by have:=D5E h;omega
  have e:A7d o=(V7 o.book==o.net):=by unfold A7d;rw [A8X hok];rfl
  rw [e]
  generalize V7 o.book=Z at *
  conv=>whnf
  refine ⟨[],[],List.range 9,by kernel_rfl,?_⟩;conv=>whnf
  refine cqW (c2 _) ?_
  exact ⟨rfl,rfl⟩
 have hi':i<5:=by have:=D5D h;omega
 have hr:=fun s=>A5a (gI (N1 o.book) i) s
 have yes:I9 (gI (N1 o.book) i)=true→∀ k,k<i+1→I9 (gI (N1 o.book) k)=true:=fun hm=>G6 hok hm
 have no:I9 (gI (N1 o.book) i)=false→A7d o=false:=fun hm=>by unfold A7d;rw [A8Y hi' hm];rfl
 generalize I9 (gI (N1 o.book) i)=m at hr yes no
 clear hok h hi c2
 conv=>whnf
 rcases (by omega:i=0∨i=1∨i=2∨i=3∨i=4) with rfl | rfl | rfl | rfl | rfl
 all_goals
  refine ⟨⟨rfl,Nat.le_of_ble_eq_true rfl,by omega,by omega⟩,?_⟩;conv=>whnf
  refine B3 (hr _) ?_
  cases m
  ·conv=>whnf
   rw [no rfl]
   exact ⟨rfl,rfl⟩
  ·conv=>whnf
   refine F6 ?_
   exact nx hi' ⟨yes rfl,by rw [B4 (by omega)],rfl⟩
theorem A9E {x:Y6} (h:J7 x=true):0≤x.taken - x.given∧x.taken - x.given≤100000000000000∧0≤x.taken∧x.taken≤100000000000000∧0≤x.given:=by
 unfold J7 I9 at h
 simp only [D5G,F4] at h
 omega
theorem A9l {l:List Y6} {i:Nat} (hi:i<l.length):A0o (l.take (i+1))=A0o (l.take i)+((l.getD i default).taken - (l.getD i default).given):=G8 hi _ _
theorem B4q {l:List Y6}:∀ i,i≤l.length→(∀ k,k<i→J7 (l.getD k default)=true)→0≤A0o (l.take i)∧A0o (l.take i)≤100000000000000 * (i:Int)
 | 0,_,_=>⟨by rw [D7o];exact D6j _,by rw [D7o];exact D6j _⟩
 | i+1,hi,h=>by
  have ih:=B4q i (by omega) fun k hk=>h k (by omega)
  have hx:=A9E (h i (by omega))
  rw [A9l (by omega)]
  omega
theorem A9X {l:List Y6} (h:∀ k,k<l.length→J7 (l.getD k default)=true):l.all J7=true:=D5V.2 fun x hx=>by
 obtain ⟨k,hk,rfl⟩:=D3 hx;exact h k hk
theorem B2r {l:List Y6} {k:Nat} (hk:k<l.length) (h:J7 (l.getD k default)=false):l.all J7=false:=by
 rw [D7k];intro e
 rw [D5V.1 e _ (A6 hk)] at h;cases h
theorem B8J {b1 b2:Bool} {t g:Int} (h:b1=true∧b2=true∧0≤g∧g≤t):(b1&&b2&&(decide (g≥0)&&decide (g≤t)))=true:=by
 simp only [D5G,D5C]
 exact ⟨⟨h.1,h.2.1⟩,h.2.2⟩
theorem B8c (o:R7) (h6:o.tenders.length≤6) (st:St):S P 70 [T8 o] st fun v st'=>v=.bool (A1d o)∧st'=st:=by
 refine F1 [1,5] Tryz.func70 ?_
 refine lp o.tenders.length [1,3,8,9,10] (fun i vs s=>(∀ k,k<i→J7 (o.tenders.getD k default)=true)∧vs=[.fptr (T8 o) 0,eI (A0o (o.tenders.take i)),A8 3 P8 o.tenders,eI o.tenders.length,eI i]∧s=st) ?_ ?_
 ·conv=>whnf
  exact ⟨fun k hk=>absurd hk (by omega),rfl,rfl⟩
 rintro i vs s hi ⟨hok,rfl,rfl⟩
 conv=>whnf
 cases h:decide ((i:Int)<(o.tenders.length:Int))
 ·obtain rfl:=C2 h hi
  have e:A1d o=(decide ((o.tenders.length:Int)≤6)&&(A0o o.tenders==o.net)):=by unfold A1d;rw [A9X hok];rfl
  rw [e,D5L]
  generalize A0o o.tenders=Z
  conv=>whnf
  refine B8 (fun h=>?_) (fun h=>?_)<;>rw [h]
  all_goals
   conv=>whnf
   exact ⟨rfl,rfl⟩
 have hi':=D6 h
 have n1:=fun s=>B7N (o.tenders.getD (i:Int).toNat default).kind s
 have n2:=fun s=>A5a (o.tenders.getD (i:Int).toNat default).taken s
 have hx:J7 (o.tenders.getD (i:Int).toNat default)=(J9 1 9 (o.tenders.getD (i:Int).toNat default).kind&&I9 (o.tenders.getD (i:Int).toNat default).taken&&(decide ((o.tenders.getD (i:Int).toNat default).given≥0)&&decide ((o.tenders.getD (i:Int).toNat default).given≤(o.tenders.getD (i:Int).toNat default).taken))):=rfl
 have hb:=B4q i hi hok
 have hw:J7 (o.tenders.getD (i:Int).toNat default)=true→IntKind.i64.wrap (A0o (o.tenders.take i)+IntKind.i64.wrap ((o.tenders.getD (i:Int).toNat default).taken - (o.tenders.getD (i:Int).toNat default).given))=A0o (o.tenders.take (i+1)):=fun hm=>by
  have hx:=A9E hm
  have h4:=A9l hi'
  rw [A5 (x:=(o.tenders.getD (i:Int).toNat default).taken - (o.tenders.getD (i:Int).toNat default).given) (by omega) (by omega)]
  have e:A0o (o.tenders.take (i+1))=A0o (o.tenders.take i)+((o.tenders.getD (i:Int).toNat default).taken - (o.tenders.getD (i:Int).toNat default).given):=h4
  rw [e];exact A5 (by omega) (by omega)
 have yes:J7 (o.tenders.getD (i:Int).toNat default)=true→∀ k,k<i+1→J7 (o.tenders.getD k default)=true:=fun hm=>G6 hok hm
 have no:J7 (o.tenders.getD (i:Int).toNat default)=false→A1d o=false:=fun hm=>by unfold A1d;rw [B2r hi' hm];rfl
 generalize J7 (o.tenders.getD (i:Int).toNat default)=t at hx hw yes no
 generalize hY:A0o (o.tenders.take (i+1))=Y at hw
 generalize A0o (o.tenders.take i)=Z at hw hb ⊢
 clear hok hb
 conv=>whnf
 refine ⟨rfl,⟨by omega,by omega⟩,?_⟩
 generalize J9 1 9 (o.tenders.getD (i:Int).toNat default).kind=b1 at *
 generalize I9 (o.tenders.getD (i:Int).toNat default).taken=b2 at *
 cases t with
 | true =>
  have hx:=hx.symm
  simp only [D5G,D5C] at hx
  obtain ⟨⟨rfl,rfl⟩,e3,e4⟩:=hx
  have g1:decide ((o.tenders.getD (i:Int).toNat default).given<0)=false:=D5H (by omega)
  have g2:decide ((o.tenders.getD (i:Int).toNat default).given>(o.tenders.getD (i:Int).toNat default).taken)=false:=D5H (by omega)
  repeat' ((conv=>whnf);first | refine B3 (n1 _) ?_ | refine B3 (n2 _) ?_ | rw [g1] | rw [g2])
  refine F6 ?_
  exact nx hi' ⟨yes rfl,by rw [hY,←hw rfl,B4 (by omega)],rfl⟩
 | false =>
  repeat' ((conv=>whnf);first | refine B3 (n1 _) ?_ | refine B3 (n2 _) ?_ | (refine B8 (fun h=>?_) (fun h=>?_)<;>rw [h]))
  all_goals first
   | (exfalso
      simp only [D5Q,D6g,D5C,D5B] at *
      have:=B8J (b1:=b1) (b2:=b2) (t:=(o.tenders.getD (i:Int).toNat default).taken) (g:=(o.tenders.getD (i:Int).toNat default).given) ⟨by assumption,by assumption,by omega,by omega⟩
      rw [←hx] at this;cases this;done)
   | (conv=>whnf
      rw [no rfl]
      exact ⟨rfl,rfl⟩)
theorem B1T (o:R7) (hs:Z3 o) (st:St):S P 19 [T8 o] st fun v st'=>v=.bool (Z0 o)∧st'=st:=by
 have n1:=fun s=>C5Y o hs s
 have n2:=fun s=>C3z o hs s
 have n3:=fun s=>B7Z o s
 have n4:=fun s=>C5X o s
 have n5:=fun h6 s=>B8c o h6 s
 have hB:Z0 o=(decide ((o.tenders.length:Int)≤6)&&B1h o&&A5R o&&A0X o&&A7d o&&A1d o):=rfl
 generalize B1h o=b1 at *
 generalize A5R o=b2 at *
 generalize A0X o=b3 at *
 generalize A7d o=b4 at *
 generalize A1d o=b5 at *
 refine F1 [1,3] Tryz.func19 ?_
 refine B8 (fun h=>?_) (fun h=>?_)<;>rw [h]<;>simp only [D5C,D5B] at h
 ·rw [D5H (by omega)] at hB
  rw [hB];conv=>whnf
  exact ⟨rfl,rfl⟩
 rw [D6m (by omega),D5P] at hB
 have n5:=n5 (by omega)
 conv=>whnf
 refine lp 5 [22,23,24] (fun i vs s=>((0<i→b1=true)∧(1<i→b2=true)∧(2<i→b3=true)∧(3<i→b4=true)∧(4<i→b5=true))∧(∃ F:Nat→AV,F 0=.fn (.func 66) [T8 o] []∧F 1=.fn (.func 67) [T8 o] []∧F 2=.fn (.func 68) [T8 o] []∧F 3=.fn (.func 69) [T8 o] []∧F 4=.fn (.func 70) [T8 o] []∧vs=[.arr 1 5 F,eI 5,eI i])∧s=st) ?_ ?_
 ·conv=>whnf
  exact ⟨⟨fun h=>absurd h (by omega),fun h=>absurd h (by omega),fun h=>absurd h (by omega),fun h=>absurd h (by omega),fun h=>absurd h (by omega)⟩,⟨_,rfl,rfl,rfl,rfl,rfl,rfl⟩,rfl⟩
 rintro i vs s hi ⟨⟨g1,g2,g3,g4,g5⟩,⟨F,f0,f1,f2,f3,f4,rfl⟩,rfl⟩
 conv=>whnf
 cases h5:decide ((i:Int)<5)
 ·have h5:=D5E h5
  rw [g1 (by omega),g2 (by omega),g3 (by omega),g4 (by omega),g5 (by omega)] at hB
  rw [hB];conv=>whnf
  exact ⟨rfl,rfl⟩
 have hi':i<5:=by have:=D5D h5;omega
 conv=>whnf
 refine ⟨rfl,⟨by omega,by omega⟩,?_⟩
 rcases (by omega:i=0∨i=1∨i=2∨i=3∨i=4) with rfl | rfl | rfl | rfl | rfl
 case' inl=>rw [show F ((0:Nat):Int).toNat=_ from f0]
 case' inr.inl=>rw [show F ((1:Nat):Int).toNat=_ from f1]
 case' inr.inr.inl=>rw [show F ((2:Nat):Int).toNat=_ from f2]
 case' inr.inr.inr.inl=>rw [show F ((3:Nat):Int).toNat=_ from f3]
 case' inr.inr.inr.inr=>rw [show F ((4:Nat):Int).toNat=_ from f4]
 all_goals
  conv=>whnf
  first | refine B3 (n1 _) ?_ | refine B3 (n2 _) ?_ | refine B3 (n3 _) ?_ | refine B3 (n4 _) ?_ | refine B3 (n5 _) ?_
  conv=>whnf
  refine B8 (fun h6=>?_) (fun h6=>?_)<;>rw [h6]
  ·rw [D5Q] at h6
   rw [h6] at hB
   simp only [D5Z,D6e] at hB
   rw [hB];conv=>whnf
   exact ⟨rfl,rfl⟩
  ·rw [D6g] at h6;conv=>whnf
   refine F6 ?_
   exact nx hi' ⟨⟨fun _=>by first | exact h6 | exact g1 (by omega),fun h=>by first | exact h6 | exact g2 (by omega) | omega,fun h=>by first | exact h6 | exact g3 (by omega) | omega,fun h=>by first | exact h6 | exact g4 (by omega) | omega,fun h=>by first | exact h6 | exact g5 (by omega) | omega⟩,⟨F,f0,f1,f2,f3,f4,by rw [B4 (by omega)]⟩,rfl⟩
theorem C4f (l:List A2n) (hl:Sm l.length) (hs:∀ x∈l,A2g x.scope) (st:St):S P 240 [A8 3 W4 l] st fun v st'=>v=.bool (L4 l (fun _ x=>A1a x)&&(decide ((l.length:Int)≥1)&&decide ((l.length:Int)≤3)))∧st'=st:=by
 refine F1 [] Tryz.func240 ?_
 refine lp l.length [0,3] (fun i vs st'=>(∀ k,k<i→A1a (l.getD k default)=true)∧vs=[A8 3 W4 l,eI i]∧st'=st) ?_ ?_
 ·conv=>whnf
  exact ⟨fun k hk=>absurd hk (by omega),rfl,rfl⟩
 ·rintro i vs st' hi ⟨hok,rfl,rfl⟩
  conv=>whnf
  cases h:decide ((i:Int)<(l.length:Int))
  ·obtain rfl:=C2 h hi
   rw [L1 hok,D5P];conv=>whnf
   refine B8 (fun h=>?_) (fun h=>?_)<;>rw [h]<;>(conv=>whnf)<;>exact ⟨rfl,rfl⟩
  ·have hi':=D6 h
   have yes:A1a (l.getD (i:Int).toNat default)=true→∀ k,k<i+1→A1a (l.getD k default)=true:=fun h=>G6 hok h
   have no:A1a (l.getD (i:Int).toNat default)=false→L4 l (fun _ x=>A1a x)=false:=fun h=>W8 (p:=fun _ x=>A1a x) hi' h
   have n1:=B6x (l.getD (i:Int).toNat default).scope (hs _ (A6 hi')) st'
   rw [show A1a (l.getD (i:Int).toNat default)=(A0t (l.getD (i:Int).toNat default).scope&&!(decide ((l.getD (i:Int).toNat default).count<1)||decide ((l.getD (i:Int).toNat default).count>100))) from rfl] at yes no
   generalize A0t (l.getD (i:Int).toNat default).scope=b1 at n1 yes no
   repeat' ((conv=>whnf);first | refine ⟨rfl,⟨by omega,by omega⟩,?_⟩ | refine B3 n1 ?_ | cases b1 | (refine B8 (fun h=>?_) (fun h=>?_)<;>rw [h]))
   all_goals (conv=>whnf)
   all_goals first
    | (rw [no (by simp only [*,D6v,D6q,D6p,D6e,D5Z])];exact ⟨rfl,rfl⟩)
    | (refine ⟨rfl,?_⟩;conv=>whnf
       exact nx hi' ⟨yes (by simp only [*,D6s,D6h,D6t]),by rw [B4 (by omega)],rfl⟩)
theorem B6D (l:List Int) (hl:Sm l.length) (st:St):S P 137 [B0 l] st fun v st'=>v=.bool (A1n l)∧st'=st:=by
 refine F1 [] Tryz.func137 ?_
 refine lp l.length [0,3] (fun i vs st'=>(∀ k,k<i→A2E l k (l.getD k default)=true)∧vs=[B0 l,eI i]∧st'=st) ?_ ?_
 ·conv=>whnf
  exact ⟨fun k hk=>absurd hk (by omega),rfl,rfl⟩
 ·rintro i vs st' hi ⟨hok,rfl,rfl⟩
  conv=>whnf
  cases h:decide ((i:Int)<(l.length:Int))
  ·obtain rfl:=C2 h hi
   conv=>whnf
   exact ⟨by rw [show A1n l=true from L1 hok];rfl,rfl⟩
  ·have hi':=D6 h
   have yes:A2E l i (l.getD (i:Int).toNat default)=true→∀ k,k<i+1→A2E l k (l.getD k default)=true:=fun h=>G6 hok h
   have no:A2E l i (l.getD (i:Int).toNat default)=false→A1n l=false:=fun h=>W8 hi' h
   rw [show A2E l i (l.getD (i:Int).toNat default)=!(!(decide ((l.getD (i:Int).toNat default)≥1)&&decide ((l.getD (i:Int).toNat default)≤9))||(l.take i).any fun y=>l.getD (i:Int).toNat default==y) from rfl] at yes no
   have no':(decide ((l.getD (i:Int).toNat default)≥1)&&decide ((l.getD (i:Int).toNat default)≤9))=false→A1n l=false:=fun h=>no (by rw [h];rfl)
   repeat' ((conv=>whnf);first | refine ⟨rfl,⟨by omega,by omega⟩,?_⟩ | (refine B8 (fun h=>?_) (fun h=>?_)<;>rw [h]))
   all_goals (conv=>whnf)
   ·rw [no' (by rw [D7I,D5B,D5B];simp only [D5C,D5B] at *;omega)];exact ⟨rfl,rfl⟩
   ·rw [no' (by rw [D7I,D5B,D5B];simp only [D5C,D5B] at *;omega)];exact ⟨rfl,rfl⟩
   have hk:(decide ((l.getD (i:Int).toNat default)≥1)&&decide ((l.getD (i:Int).toNat default)≤9))=true:=by rw [D5G,D5C,D5C];simp only [D5C,D5B] at *;omega
   rw [hk] at yes no
   refine lp i [0,3,4] (fun j vs s=>(∀ k,k<j→(l.getD k default==l.getD i default)=false)∧vs=[B0 l,eI i,eI j]∧s=st') ?_ ?_
   ·conv=>whnf
    exact ⟨fun k hk=>absurd hk (by omega),rfl,rfl⟩
   ·rintro j vs s hj ⟨hokj,rfl,rfl⟩
    conv=>whnf
    cases h:decide ((j:Int)<(i:Int))
    ·obtain rfl:=C2 h hj
     conv=>whnf
     refine F6 ?_
     refine nx hi' ⟨yes ?_,by rw [B4 (by omega)],rfl⟩
     rw [D6F.2 fun x hx=>?_];rfl
     obtain ⟨k,hk2,rfl⟩:=D3 hx
     rw [D5K] at hk2
     have h4:=hokj k (by omega)
     rw [D5N,show (l.take j).getD k default=l.getD k default by rw [D5A,D5A,D5O (by omega)],D8I,h4];simp
    ·have hj':=D6 h
     conv=>whnf
     refine ⟨[],[],List.range 9,by kernel_rfl,?_⟩;conv=>whnf
     refine E4 ?_
     refine E4 ?_
     refine B8 (fun h1=>?_) (fun h1=>?_)<;>rw [h1]
     ·conv=>whnf
      refine ⟨?_,rfl⟩
      rw [no ?_];rfl
      rw [D7m.2 ⟨l.getD j default,?_,?_⟩];rfl
      ·rw [List.mem_take_iff_getElem]
       exact ⟨j,by omega,by simp [show j<l.length by omega]⟩
      ·rw [D8I];exact h1
     ·conv=>whnf
      refine F6 ?_
      exact nx hj' ⟨G6 hokj h1,by rw [B4 (by omega)],rfl⟩
structure B7m (z:K7):Prop where
 n:Sm z.rates.length
 s:Sm z.name.size
 r:∀ x∈z.rates,Sm x.cat.size
def A3X (l:List G5) (k:Nat) (x:G5):Bool:=D1 x.cat&&J9 0 10000 x.rate&&P0 (l.map G5.cat) k
def B2B (z:K7):Bool:=L4 z.rates (A3X z.rates)&&(decide ((z.rates.length:Int)≤40)&&J9 0 10000 z.rest&&J9 0 10000 z.ship)
theorem C4g (z:K7) (hz:B7m z) (st:St):S P 195 [T3 z] st fun v st'=>v=.bool (B2B z)∧st'=st:=by
 rw [show B2B z=(L4 z.rates (A3X z.rates)&&(decide ((z.rates.length:Int)≤40)&&J9 0 10000 z.rest&&J9 0 10000 z.ship)) from rfl]
 refine F1 [1] Tryz.func195 ?_
 refine lp z.rates.length [1,3] (fun i vs st'=>(∀ k,k<i→A3X z.rates k (z.rates.getD k default)=true)∧vs=[.fptr (T3 z) 0,eI i]∧st'=st) ?_ ?_
 ·conv=>whnf
  exact ⟨fun k hk=>absurd hk (by omega),rfl,rfl⟩
 ·rintro i vs st' hi ⟨hok,rfl,rfl⟩
  conv=>whnf
  cases h:decide ((i:Int)<(z.rates.length:Int))
  ·obtain rfl:=C2 h hi
   rw [show L4 z.rates (A3X z.rates)=true from L1 hok,D5P];conv=>whnf
   cases hd:decide ((z.rates.length:Int)≤40)
   ·conv=>whnf
    exact ⟨rfl,rfl⟩
   ·conv=>whnf
    refine I2 (A2O z.rest 10000 _) ?_
    cases J9 0 10000 z.rest
    ·conv=>whnf
     exact ⟨rfl,rfl⟩
    ·conv=>whnf
     refine I2 (A2O z.ship 10000 _) ?_
     exact ⟨rfl,rfl⟩
  ·have hi':=D6 h
   have yes:A3X z.rates i (z.rates.getD (i:Int).toNat default)=true→∀ k,k<i+1→A3X z.rates k (z.rates.getD k default)=true:=fun h=>G6 hok h
   have no:A3X z.rates i (z.rates.getD (i:Int).toNat default)=false→L4 z.rates (A3X z.rates)=false:=fun h=>W8 hi' h
   have hl:=hz.n
   have hm:=hz.r _ (A6 hi')
   have n1:=A0I (z.rates.getD (i:Int).toNat default).cat hm st'
   have n2:=A2O (z.rates.getD (i:Int).toNat default).rate 10000 st'
   have e:0<i→P0 (z.rates.map G5.cat) i=!(Op.bytesLess (z.rates.getD i default).cat.toList (z.rates.getD (i - 1) default).cat.toList||(z.rates.getD i default).cat.toList==(z.rates.getD (i - 1) default).cat.toList):=fun hp=>by
    rw [B4O hp]
    have e1:(z.rates.map G5.cat).getD i default=(z.rates.getD i default).cat:=D4 G5.cat z.rates hi'
    have e2:(z.rates.map G5.cat).getD (i - 1) default=(z.rates.getD (i - 1) default).cat:=D4 G5.cat z.rates (by omega)
    rw [e1,e2]
   have e0:i=0→P0 (z.rates.map G5.cat) i=true:=fun h=>by rw [h];rfl
   rw [show A3X z.rates i (z.rates.getD (i:Int).toNat default)=(D1 (z.rates.getD (i:Int).toNat default).cat&&J9 0 10000 (z.rates.getD (i:Int).toNat default).rate&&P0 (z.rates.map G5.cat) i) from rfl] at yes no
   generalize D1 (z.rates.getD (i:Int).toNat default).cat=b1 at n1 yes no
   generalize J9 0 10000 (z.rates.getD (i:Int).toNat default).rate=b2 at n2 yes no
   conv=>whnf
   refine ⟨[],[],List.range 38,by kernel_rfl,?_⟩
   cases h0:decide ((i:Int)>0)
   ·replace e:=e0 (by have:=D5E h0;omega)
    repeat' ((conv=>whnf);first | refine ⟨rfl,⟨by omega,by omega⟩,?_⟩ | refine ⟨_,F2 n1,?_⟩ | refine ⟨_,F2 n2,?_⟩ | rw [h0] | cases b1 | cases b2)
    all_goals (conv=>whnf)
    all_goals first
     | (rw [no (by rfl)];exact ⟨rfl,rfl⟩)
     | (refine ⟨rfl,?_⟩;conv=>whnf
        exact nx hi' ⟨yes (by rw [e];rfl),by rw [B4 (by omega)],rfl⟩)
   ·have h0':0<i:=by have:=D5D h0;omega
    replace e:=e h0'
    have hw:=A7k h0' (by omega)
    repeat' ((conv=>whnf);first | refine ⟨rfl,⟨by omega,by omega⟩,?_⟩ | refine ⟨rfl,⟨by rw [hw];omega,by rw [hw];omega⟩,?_⟩ | refine ⟨_,F2 n1,?_⟩ | refine ⟨_,F2 n2,?_⟩ | rw [h0] | cases b1 | cases b2 | refine B8 (fun h=>?_) (fun h=>?_))
    all_goals (conv=>whnf)
    all_goals first
     | (rw [no (by rfl)];exact ⟨rfl,rfl⟩)
     | (rw [hw] at h;rw [no (by rw [e];exact D7B not h)];exact ⟨rfl,rfl⟩)
     | (rw [hw] at h;refine ⟨rfl,?_⟩;conv=>whnf
        exact nx hi' ⟨yes (by rw [e];exact D7B not h),by rw [B4 (by omega)],rfl⟩)
def A4c (l:List K7) (k:Nat) (x:K7):Bool:=D1 x.name&&B2B x&&P0 (l.map K7.name) k
structure B3d (x:Tax):Prop where
 n:Sm x.zones.length
 z:∀ z∈x.zones,B7m z
def C6H (x:Tax):Bool:=L4 x.zones (A4c x.zones)&&(decide ((x.zones.length:Int)≤20)&&decide (x.round≥0)&&decide (x.round≤2))
theorem C6r (x:Tax) (hx:B3d x) (st:St):S P 135 [S7 x] st fun v st'=>v=.bool (C6H x)∧st'=st:=by
 rw [show C6H x=(L4 x.zones (A4c x.zones)&&(decide ((x.zones.length:Int)≤20)&&decide (x.round≥0)&&decide (x.round≤2))) from rfl]
 refine F1 [1] Tryz.func135 ?_
 refine lp x.zones.length [1,3] (fun i vs st'=>(∀ k,k<i→A4c x.zones k (x.zones.getD k default)=true)∧vs=[.fptr (S7 x) 0,eI i]∧st'=st) ?_ ?_
 ·conv=>whnf
  exact ⟨fun k hk=>absurd hk (by omega),rfl,rfl⟩
 ·rintro i vs st' hi ⟨hok,rfl,rfl⟩
  conv=>whnf
  cases h:decide ((i:Int)<(x.zones.length:Int))
  ·obtain rfl:=C2 h hi
   rw [show L4 x.zones (A4c x.zones)=true from L1 hok,D5P];conv=>whnf
   refine B8 (fun h=>?_) (fun h=>?_)<;>rw [h]
   ·conv=>whnf
    refine B8 (fun h=>?_) (fun h=>?_)<;>rw [h]<;>(conv=>whnf)<;>exact ⟨rfl,rfl⟩
   ·conv=>whnf
    exact ⟨rfl,rfl⟩
  ·have hi':=D6 h
   have yes:A4c x.zones i (x.zones.getD (i:Int).toNat default)=true→∀ k,k<i+1→A4c x.zones k (x.zones.getD k default)=true:=fun h=>G6 hok h
   have no:A4c x.zones i (x.zones.getD (i:Int).toNat default)=false→L4 x.zones (A4c x.zones)=false:=fun h=>W8 hi' h
   have hl:=hx.n
   have hm:=hx.z _ (A6 hi')
   have n1:=A0I (x.zones.getD (i:Int).toNat default).name hm.s st'
   have n2:=C4g (x.zones.getD (i:Int).toNat default) hm st'
   have e:0<i→P0 (x.zones.map K7.name) i=!(Op.bytesLess (x.zones.getD i default).name.toList (x.zones.getD (i - 1) default).name.toList||(x.zones.getD i default).name.toList==(x.zones.getD (i - 1) default).name.toList):=fun hp=>by
    rw [B4O hp]
    have e1:(x.zones.map K7.name).getD i default=(x.zones.getD i default).name:=D4 K7.name x.zones hi'
    have e2:(x.zones.map K7.name).getD (i - 1) default=(x.zones.getD (i - 1) default).name:=D4 K7.name x.zones (by omega)
    rw [e1,e2]
   have e0:i=0→P0 (x.zones.map K7.name) i=true:=fun h=>by rw [h];rfl
   rw [show A4c x.zones i (x.zones.getD (i:Int).toNat default)=(D1 (x.zones.getD (i:Int).toNat default).name&&B2B (x.zones.getD (i:Int).toNat default)&&P0 (x.zones.map K7.name) i) from rfl] at yes no
   generalize D1 (x.zones.getD (i:Int).toNat default).name=b1 at n1 yes no
   generalize B2B (x.zones.getD (i:Int).toNat default)=b2 at n2 yes no
   conv=>whnf
   refine ⟨[],[],List.range 37,by kernel_rfl,?_⟩
   cases h0:decide ((i:Int)>0)
   ·replace e:=e0 (by have:=D5E h0;omega)
    repeat' ((conv=>whnf);first | refine ⟨rfl,⟨by omega,by omega⟩,?_⟩ | refine ⟨_,F2 n1,?_⟩ | refine ⟨_,F2 n2,?_⟩ | rw [h0] | cases b1 | cases b2)
    all_goals (conv=>whnf)
    all_goals first
     | (rw [no (by rfl)];exact ⟨rfl,rfl⟩)
     | (refine ⟨rfl,?_⟩;conv=>whnf
        exact nx hi' ⟨yes (by rw [e];rfl),by rw [B4 (by omega)],rfl⟩)
   ·have h0':0<i:=by have:=D5D h0;omega
    replace e:=e h0'
    have hw:=A7k h0' (by omega)
    repeat' ((conv=>whnf);first | refine ⟨rfl,⟨by omega,by omega⟩,?_⟩ | refine ⟨rfl,⟨by rw [hw];omega,by rw [hw];omega⟩,?_⟩ | refine ⟨_,F2 n1,?_⟩ | refine ⟨_,F2 n2,?_⟩ | rw [h0] | cases b1 | cases b2 | refine B8 (fun h=>?_) (fun h=>?_))
    all_goals (conv=>whnf)
    all_goals first
     | (rw [no (by rfl)];exact ⟨rfl,rfl⟩)
     | (rw [hw] at h;rw [no (by rw [e];exact D7B not h)];exact ⟨rfl,rfl⟩)
     | (rw [hw] at h;refine ⟨rfl,?_⟩;conv=>whnf
        exact nx hi' ⟨yes (by rw [e];exact D7B not h),by rw [B4 (by omega)],rfl⟩)
theorem C4U (z:K7):(D1 z.name&&B2B z)=Y3 z:=by
 unfold B2B Y3 L4 A0s A3X A4x J9
 rw [D5F,←D7J]
 simp only [D5G,D5V,D5U,D5Q,D6P,D6g,D5C,D5B]
 constructor
 ·rintro ⟨h0,h1,⟨h2,h3⟩,h4⟩
  exact ⟨⟨⟨⟨h0,h3⟩,h4⟩,by omega⟩,fun k hk=>(h1 k hk).1,fun k hk=>(h1 k hk).2⟩
 ·rintro ⟨⟨⟨⟨h0,h3⟩,h4⟩,h2⟩,h1,h5⟩
  exact ⟨h0,fun k hk=>⟨h1 k hk,h5 k hk⟩,⟨by omega,h3⟩,h4⟩
theorem C6I (x:Tax):C6H x=taxC x:=by
 unfold C6H taxC
 rw [←D7J]
 unfold L4 A0s A4c
 rw [D5F]
 simp only [C4U,D5G,D5V,D5U,D5Q,D6P,D6g,D5C,D5B]
 constructor
 ·rintro ⟨h1,⟨h2,h3⟩,h4⟩
  exact ⟨⟨⟨by omega,by omega⟩,by omega⟩,fun k hk=>(h1 k hk).1,fun k hk=>(h1 k hk).2⟩
 ·rintro ⟨⟨⟨h3,h4⟩,h2⟩,h1,h5⟩
  exact ⟨fun k hk=>⟨h1 k hk,h5 k hk⟩,⟨by omega,by omega⟩,by omega⟩
theorem C3Y (x:Tax) (hx:B3d x) (st:St):S P 135 [S7 x] st fun v st'=>v=.bool (taxC x)∧st'=st:=by
 rw [←C6I];exact C6r x hx st
def A3a (l:List A0V) (k:Nat) (x:A0V):Bool:=J9 0 10000000000000 x.least&&J9 0 10000 x.rate&&J9 0 10000000000000 x.amount&&!(x.rate==0&&x.amount==0)&&(k==0||!decide (x.least≤(l.getD (k - 1) default).least))
theorem C4h (l:List A0V) (hl:Sm l.length) (st:St):S P 241 [A8 3 R9 l] st fun v st'=>v=.bool (L4 l (A3a l)&&(decide ((l.length:Int)≥1)&&decide ((l.length:Int)≤6)))∧st'=st:=by
 refine F1 [4] Tryz.func241 ?_
 refine lp l.length [0,3] (fun i vs st'=>(∀ k,k<i→A3a l k (l.getD k default)=true)∧vs=[A8 3 R9 l,eI i]∧st'=st) ?_ ?_
 ·conv=>whnf
  exact ⟨fun k hk=>absurd hk (by omega),rfl,rfl⟩
 ·rintro i vs st' hi ⟨hok,rfl,rfl⟩
  conv=>whnf
  cases h:decide ((i:Int)<(l.length:Int))
  ·obtain rfl:=C2 h hi
   rw [L1 hok,D5P];conv=>whnf
   refine B8 (fun h=>?_) (fun h=>?_)<;>rw [h]<;>(conv=>whnf)<;>exact ⟨rfl,rfl⟩
  ·have hi':=D6 h
   have yes:A3a l i (l.getD (i:Int).toNat default)=true→∀ k,k<i+1→A3a l k (l.getD k default)=true:=fun h=>G6 hok h
   have no:A3a l i (l.getD (i:Int).toNat default)=false→L4 l (A3a l)=false:=fun h=>W8 hi' h
   have n1:=A2O (l.getD (i:Int).toNat default).least 10000000000000 st'
   have n2:=A2O (l.getD (i:Int).toNat default).rate 10000 st'
   have n3:=A2O (l.getD (i:Int).toNat default).amount 10000000000000 st'
   have hw:=fun h=>A7k (i:=i) h (by omega)
   rw [show A3a l i (l.getD (i:Int).toNat default)=(J9 0 10000000000000 (l.getD (i:Int).toNat default).least&&J9 0 10000 (l.getD (i:Int).toNat default).rate&&J9 0 10000000000000 (l.getD (i:Int).toNat default).amount&&!((l.getD (i:Int).toNat default).rate==0&&(l.getD (i:Int).toNat default).amount==0)&&(i==0||!decide ((l.getD (i:Int).toNat default).least≤(l.getD (i - 1) default).least))) from rfl] at yes no
   generalize J9 0 10000000000000 (l.getD (i:Int).toNat default).least=b1 at n1 yes no
   generalize J9 0 10000 (l.getD (i:Int).toNat default).rate=b2 at n2 yes no
   generalize J9 0 10000000000000 (l.getD (i:Int).toNat default).amount=b3 at n3 yes no
   conv=>whnf
   refine E4 ?_
   refine ⟨[],[],List.range 41,by kernel_rfl,?_⟩
   have step:∀ b4:Bool,b4=((l.getD (i:Int).toNat default).rate==0&&(l.getD (i:Int).toNat default).amount==0)→True:=fun _ _=>trivial
   rcases D6Y i with h0 | h0
   ·have h1:decide ((i:Int)>0)=false:=D5H (by omega)
    rw [show (i==0)=true from by rw [h0];rfl,D6v,D6t] at yes no
    repeat' ((conv=>whnf);first | refine ⟨rfl,⟨by omega,by omega⟩,?_⟩ | refine ⟨_,F2 n1,?_⟩ | refine ⟨_,F2 n2,?_⟩ | refine ⟨_,F2 n3,?_⟩ | rw [h1] | cases b1 | cases b2 | cases b3 | (refine B8 (fun h=>?_) (fun h=>?_)<;>rw [h] at yes no ⊢))
    all_goals (conv=>whnf)
    all_goals first
     | (rw [no (by rfl)];exact ⟨rfl,rfl⟩)
     | (refine ⟨rfl,?_⟩;conv=>whnf
        exact nx hi' ⟨yes (by rfl),by rw [B4 (by omega)],rfl⟩)
   ·have h1:decide ((i:Int)>0)=true:=D6m (by omega)
    rw [show (i==0)=false from D7r (by omega),D6o] at yes no
    have hw:=hw h0
    repeat' ((conv=>whnf);first | refine ⟨rfl,⟨by omega,by omega⟩,?_⟩ | refine ⟨rfl,⟨by rw [hw];omega,by rw [hw];omega⟩,?_⟩ | refine ⟨_,F2 n1,?_⟩ | refine ⟨_,F2 n2,?_⟩ | refine ⟨_,F2 n3,?_⟩ | rw [h1] | cases b1 | cases b2 | cases b3 | (refine B8 (fun h=>?_) (fun h=>?_)<;>rw [h] at yes no ⊢) | (rw [hw];refine B8 (fun h=>?_) (fun h=>?_)))
    all_goals (conv=>whnf)
    all_goals first
     | (rw [no (by rfl)];exact ⟨rfl,rfl⟩)
     | (rw [no (D7B not h)];exact ⟨rfl,rfl⟩)
     | (refine ⟨rfl,?_⟩;conv=>whnf
        exact nx hi' ⟨yes (D7B not h),by rw [B4 (by omega)],rfl⟩)
theorem C1Q (l:List A0V):(L4 l (A3a l)&&(decide ((l.length:Int)≥1)&&decide ((l.length:Int)≤6)))=A0g l:=by
 unfold A0g
 rw [Bool.and_comm]
 congr 1
 ·rw [Bool.not_or];congr 1<;>(rw [←decide_not];exact D7q.2 (by omega))
 ·rw [←D7J]
  unfold L4 A3a A4b J9
  simp only [D5G,D5V,D5U,D5Q,D6P,D6g,D5C,D5B,D6H,D6z]
  constructor
  ·intro h k hk
   obtain ⟨⟨⟨⟨h1,h2⟩,h3⟩,h4⟩,h5⟩:=h k hk
   refine ⟨⟨⟨⟨⟨⟨?_,by omega⟩,by omega⟩,by omega⟩,by omega⟩,by omega⟩,h4⟩
   split
   ·omega
   ·rcases h5 with h5 | h5<;>omega
  ·intro h
   have pos:∀ k,k<l.length→0≤(l.getD k default).least:=fun k=>by
    induction k with
    | zero=>intro hk;have:=(h 0 hk).1.1.1.1.1.1;rw [if_pos rfl] at this;omega
    | succ k ih=>intro hk;have:=(h (k+1) hk).1.1.1.1.1.1;rw [if_neg (by omega),Nat.add_sub_cancel] at this;have:=ih (by omega);omega
   intro k hk
   obtain ⟨⟨⟨⟨⟨⟨h1,h2⟩,h3⟩,h4⟩,h5⟩,h6⟩,h7⟩:=h k hk
   have:=pos k hk
   refine ⟨⟨⟨⟨⟨by omega,by omega⟩,by omega,by omega⟩,by omega,by omega⟩,h7⟩,?_⟩
   by_cases h0:k=0
   ·exact .inl h0
   ·rw [if_neg h0] at h1;exact .inr h1
structure A2U (p:B1):Prop where
 id:Sm p.id.size
 group:Sm p.group.size
 code:Sm p.code.size
 scope:A2g p.scope
 parts:Sm p.parts.length
 part:∀ x∈p.parts,A2g x.scope
 tiers:Sm p.tiers.length
def A6a (l:List A2n):Bool:=L4 l (fun _ x=>A1a x)&&(decide ((l.length:Int)≥1)&&decide ((l.length:Int)≤3))
def B1H (p:B1):Bool :=
 if p.kind=1 then (decide (p.rate≥1)&&decide (p.rate≤10000))&&p.amount==0&&(p.buy==0&&p.get==0)&&(p.parts.length:Int)==0&&(p.tiers.length:Int)==0
 else if p.kind=2 then p.rate==0&&decide (p.amount≥1)&&decide (p.amount≤1000000000)&&(p.buy==0&&p.get==0)&&(p.parts.length:Int)==0&&(p.tiers.length:Int)==0
 else if p.kind=3 then (decide (p.rate≥1)&&decide (p.rate≤10000))&&p.amount==0&&decide (p.buy≥1)&&decide (p.buy≤100)&&decide (p.get≥1)&&decide (p.get≤100)&&(p.parts.length:Int)==0&&(p.tiers.length:Int)==0
 else if p.kind=4 then p.rate==0&&J9 0 10000000000000 p.amount&&(p.buy==0&&p.get==0)&&A6a p.parts&&(p.tiers.length:Int)==0&&((p.scope.skus.length:Int)==0&&(p.scope.cats.length:Int)==0)
 else if p.kind=7 then (decide (p.rate≥1)&&decide (p.rate≤10000))&&p.amount==0&&(p.buy==0&&p.get==0)&&(p.parts.length:Int)==0&&(p.tiers.length:Int)==0&&((p.scope.skus.length:Int)==0&&(p.scope.cats.length:Int)==0)&&!p.closes
 else p.rate==0&&p.amount==0&&(p.buy==0&&p.get==0)&&(p.parts.length:Int)==0&&A0g p.tiers
theorem C0Z (p:B1):(A6a p.parts&&J9 0 10000000000000 p.amount)=A6L p:=by
 unfold A6a A6L L4 J9
 rw [←D7J]
 simp only [D5G,D5V,D5U,D5Q,D6P,D5C,D5B,D6F,D6g]
 constructor
 ·rintro ⟨⟨h1,h2⟩,h3⟩
  exact ⟨⟨⟨⟨by omega,by omega⟩,by omega⟩,by omega⟩,fun x hx=>by obtain ⟨k,hk,rfl⟩:=D3 hx;rw [h1 k hk];simp⟩
 ·rintro ⟨h1,h2⟩
  exact ⟨⟨fun k hk=>by have:=h2 _ (A6 hk);simpa using this,by omega⟩,by omega⟩
theorem C1f (p:B1) (hk:1≤p.kind∧p.kind≤7):B1H p=(A9r p&&A7g p):=by
 have hb:=C0Z p
 unfold B1H A9r A7g A8s A8t A8u
 rw [←hb]
 rw [A3L,A3L,A3L,A3L]
 have e:(p.scope.skus.length+p.scope.cats.length==0)=(p.scope.skus.length==0&&p.scope.cats.length==0):=by
  rw [←D7J];simp only [D5G,D6z];omega
 have u:∀ m x,J9 1 m x=true→(x==0)=false:=fun m x h=>by simp only [J9,D5G,D5C] at h;exact D7r (by omega)
 have e4:A6a p.parts=true→(p.parts.length==0)=false:=fun h=>by
  simp only [A6a,D5G,D5C] at h;exact D7r (by omega)
 have e5:A0g p.tiers=true→(p.tiers.length==0)=false:=fun h=>by
  simp only [A0g,D5G,D5Q,D6P,D5B] at h;exact D7r (by omega)
 rw [e]
 rcases (by omega:p.kind=1∨p.kind=2∨p.kind=3∨p.kind=4∨p.kind=5∨p.kind=6∨p.kind=7) with h | h | h | h | h | h | h
 all_goals (rw [h];simp only [show ∀ a b:Int,(if a=b then _ else _)=_ from fun _ _=>rfl,J9,if_true,D8j,Int.reduceEq,Int.reduceBEq,D6v,D6q,D5P,D6t,D6o,D6s,bne,D6p,D6h])
 all_goals (generalize A0g p.tiers=b1 at *;generalize A6a p.parts=b2 at *;generalize (p.parts.length==0)=b3 at *;generalize (p.tiers.length==0)=b4 at *;generalize (p.scope.skus.length==0&&p.scope.cats.length==0)=b5;generalize (p.buy==0&&p.get==0)=b6;generalize (p.rate==0)=b7;generalize (p.amount==0)=b8;generalize decide (p.rate≥1)=b9;generalize decide (p.rate≤10000)=b10)
 all_goals first | done | ac_rfl
theorem C1e (p:B1):H3 p=(D1 p.id&&!decide (p.kind<1)&&!decide (p.kind>7)&&!decide (p.prio<0)&&!decide (p.prio>1000)&&((p.group.toList==(⟨#[]⟩:C8).toList)||D1 p.group)&&((p.code.toList==(⟨#[]⟩:C8).toList)||D1 p.code)&&A0t p.scope&&J9 0 10000000000000 p.least&&B1H p):=by
 by_cases hk:1≤p.kind∧p.kind≤7
 ·have e:J9 0 1000 p.prio=(!decide (p.prio<0)&&!decide (p.prio>1000)):=by
   unfold J9;congr 1<;>(rw [←decide_not];exact D7q.2 (by omega))
  unfold H3 A7f A2G N3
  rw [C1f p hk,e,D6m (show p.kind≥1 from hk.1),D6m (show p.kind<8 by omega),D5H (show ¬ p.kind<1 by omega),D5H (show ¬ p.kind>7 by omega)]
  simp only [D5P,D6t,D6h,Bool.and_assoc]
 ·have:H3 p=false:=by
   unfold H3
   rw [show (decide (p.kind≥1)&&decide (p.kind<8))=false from by rw [D7I,D5B,D5B];omega];rfl
  rw [this]
  by_cases h:p.kind<1
  ·rw [D6m h];simp
  ·rw [D6m (show p.kind>7 by omega)];simp
set_option maxHeartbeats 8000000 in
theorem B6w (p:B1) (hp:A2U p) (st:St):S P 194 [B9 p] st fun v st'=>v=.bool (H3 p)∧st'=st:=by
 have n1:=A0I p.id hp.id st
 have n2:=A0I p.group hp.group st
 have n3:=A0I p.code hp.code st
 have n4:=B6x p.scope hp.scope st
 have n5:=A2O p.least 10000000000000 st
 have n6:=A2O p.amount 10000000000000 st
 have n7:=C4f p.parts hp.parts hp.part st
 have n8:=C4h p.tiers hp.tiers st
 rw [C1Q] at n8
 rw [show (L4 p.parts (fun _ x=>A1a x)&&(decide ((p.parts.length:Int)≥1)&&decide ((p.parts.length:Int)≤3)))=A6a p.parts from rfl] at n7
 have hC:=C1e p
 generalize hb5:J9 0 10000000000000 p.least=b5 at *
 generalize hb6:J9 0 10000000000000 p.amount=b6 at *
 generalize hb7:A6a p.parts=b7 at *
 generalize hb8:A0g p.tiers=b8 at *
 generalize H3 p=R at *
 clear hp hb5
 obtain ⟨id,kind,prio,group,code,closes,scope,least,rate,amount,buy,get,parts,tiers⟩:=p
 simp only at *
 generalize D1 id=b1 at *
 generalize D1 group=b2 at *
 generalize D1 code=b3 at *
 generalize A0t scope=b4 at *
 obtain ⟨H,hH⟩:∃ H:Bool,H=(b1&&!decide (kind<1)&&!decide (kind>7)&&!decide (prio<0)&&!decide (prio>1000)&&((group.toList==(⟨#[]⟩:C8).toList)||b2)&&((code.toList==(⟨#[]⟩:C8).toList)||b3)&&b4&&b5):=⟨_,rfl⟩
 rw [←hH] at hC
 obtain ⟨q,hq⟩:∃ q:B1,q=⟨id,kind,prio,group,code,closes,scope,least,rate,amount,buy,get,parts,tiers⟩:=⟨_,rfl⟩
 have hB:∀ h:buy=q.buy,True:=fun _=>trivial
 refine C2k [1] [(1,[1,67]),(3,[1,3,4,5,6,7]),(4,[1,3,4,5,6,7,8]),(5,[1,3,4,5,6,7,8,9])] B2K mixed Tryz.func194 (by rfl) rfl rfl rfl ?_;conv=>whnf
 refine ⟨fun us s=>us=[.fptr (B9 ⟨id,kind,prio,group,code,closes,scope,least,rate,amount,buy,get,parts,tiers⟩) 0,.bool (!H)]∧s=st,?_,?_⟩
 ·repeat' ((conv=>whnf);first | refine B3 n1 ?_ | refine B3 n2 ?_ | refine B3 n3 ?_ | refine B3 n4 ?_ | refine B3 n5 ?_ | refine ⟨rfl,?_⟩ | (refine B8 (fun h=>?_) (fun h=>?_)<;>rw [h]))
  all_goals (refine ⟨?_,rfl⟩;refine D7B (fun b=>[_,AV.bool b]) ?_;rw [hH];clear hH hC n1 n2 n3 n4 n5 n6 n7 n8)
  all_goals (simp only [D5Q,D6g] at *;simp only [*,D5P,D5Z,D6t,D6e,D6q,D6s,D6v,D6o,D6p,D6h,D6U])
 rintro vs s ⟨rfl,rfl⟩
 conv=>whnf
 refine B8 (fun h=>?_) (fun h=>?_)<;>rw [h]
 ·conv=>whnf
  exact ⟨by rw [hC,show H=false by simpa using h];rfl,rfl⟩
 have hT:R=B1H q:=by rw [hC,show H=true by simpa using h,hq];rfl
 clear hC h n1 n2 n3 n4 n5 hH
 conv=>whnf
 refine ⟨fun us s'=>us=[.fptr (B9 ⟨id,kind,prio,group,code,closes,scope,least,rate,amount,buy,get,parts,tiers⟩) 0,.bool (rate==0),.bool (amount==0),.bool (buy==0&&get==0),.bool ((parts.length:Int)==0),.bool ((tiers.length:Int)==0)]∧s'=s,?_,?_⟩
 ·refine .inl ⟨[],[],List.range 27,by kernel_rfl,?_⟩
  repeat' ((conv=>whnf);first | refine ⟨rfl,?_⟩ | (refine B8 (fun h=>?_) (fun h=>?_)<;>rw [h]))
  all_goals rfl
 rintro vs s ⟨rfl,rfl⟩
 conv=>whnf
 refine ⟨fun us s'=>us=[.fptr (B9 ⟨id,kind,prio,group,code,closes,scope,least,rate,amount,buy,get,parts,tiers⟩) 0,.bool (rate==0),.bool (amount==0),.bool (buy==0&&get==0),.bool ((parts.length:Int)==0),.bool ((tiers.length:Int)==0),.bool ((scope.skus.length:Int)==0&&(scope.cats.length:Int)==0)]∧s'=s,?_,?_⟩
 ·repeat' ((conv=>whnf);first | refine ⟨rfl,?_⟩ | (refine B8 (fun h=>?_) (fun h=>?_)<;>rw [h]))
  all_goals rfl
 rintro vs s ⟨rfl,rfl⟩
 conv=>whnf
 refine ⟨fun us s'=>us=[.fptr (B9 ⟨id,kind,prio,group,code,closes,scope,least,rate,amount,buy,get,parts,tiers⟩) 0,.bool (rate==0),.bool (amount==0),.bool (buy==0&&get==0),.bool ((parts.length:Int)==0),.bool ((tiers.length:Int)==0),.bool ((scope.skus.length:Int)==0&&(scope.cats.length:Int)==0),.bool (decide (rate≥1)&&decide (rate≤10000))]∧s'=s,?_,?_⟩
 ·repeat' ((conv=>whnf);first | refine ⟨rfl,?_⟩ | (refine B8 (fun h=>?_) (fun h=>?_)<;>rw [h]))
  all_goals rfl
 rintro vs s ⟨rfl,rfl⟩
 subst hq
 unfold B1H at hT
 simp only [hb6,hb7,hb8] at hT
 generalize (rate==0)=a1 at *
 generalize (amount==0)=a2 at *
 generalize (buy==0&&get==0)=a3 at *
 generalize ((parts.length:Int)==0)=a4 at *
 generalize ((tiers.length:Int)==0)=a5 at *
 generalize ((scope.skus.length:Int)==0&&(scope.cats.length:Int)==0)=a6 at *
 generalize (decide (rate≥1)&&decide (rate≤10000))=a7 at *
 have hk:kind=1∨kind=2∨kind=3∨kind=4∨kind=7∨(kind≠1∧kind≠2∧kind≠3∧kind≠4∧kind≠7):=by omega
 rcases hk with rfl | rfl | rfl | rfl | rfl | ⟨k1,k2,k3,k4,k7⟩
 case' inr.inr.inr.inr.inr =>
  rw [if_neg k1,if_neg k2,if_neg k3,if_neg k4,if_neg k7] at hT
  have e1:=D7r k1
  have e2:=D7r k2
  have e3:=D7r k3
  have e4:=D7r k4
  have e7:=D7r k7
 all_goals try simp only [if_true,D8j,Int.reduceEq] at hT
 all_goals repeat' ((conv=>whnf);first | refine B3 n6 ?_ | refine B3 n7 ?_ | refine B3 n8 ?_ | rw [e1] | rw [e2] | rw [e3] | rw [e4] | rw [e7] | (refine B8 (fun h=>?_) (fun h=>?_)<;>rw [h]))
 all_goals (conv=>whnf)
 all_goals (refine ⟨?_,rfl⟩;show AV.bool _=AV.bool _;rw [hT];clear hT n6 n7 n8;try simp only [D5Q,D6g] at *)
 all_goals (simp only [*,D5P,D5Z,D6t,D6e,D6q,D6s,D6v,D6o,D6p,D6h,D6U])
theorem A7D (p:B1) (hp:A2U p) (hC:H3 p=true) (st:St):S P 194 [B9 p] st fun v st'=>v=.bool true∧st'=st:=by
 have h:=B6w p hp st
 rw [hC] at h;exact h
end Go.Proofs.YtaapofnkmpiknaaGreat
