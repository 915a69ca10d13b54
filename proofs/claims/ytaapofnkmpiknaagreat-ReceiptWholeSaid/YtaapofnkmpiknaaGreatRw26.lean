/- Part 26 of the proof: contracts of the functions that the law reaches -/
import Derived.Test.YtaapofnkmpiknaaGreatRw25
set_option maxRecDepth 100000
set_option linter.unusedVariables false
set_option linter.unusedSimpArgs false
namespace Go.Proofs.YtaapofnkmpiknaaGreat
open Go Go.Ab
attribute [local irreducible] upd del
theorem B0f {α : Type} [Inhabited α] {l:List α} {p : α→Bool} {i:Nat} (hi:i<l.length) (h:p (l.getD i default)=true) (hno:∀ j,j<i→p (l.getD j default)=false):l.find? p=some (l.getD i default):=by
 have g:∀ j (hj:j<l.length),l.getD j default=l[j]:=fun j hj=>by rw [D5l,D5s hj];rfl
 rw [List.find?_eq_some_iff_getElem]
 refine ⟨h,i,hi,(g i hi).symm,fun j hj=>?_⟩
 have:=hno j hj
 rw [g j (by omega)] at this
 rw [this];rfl
theorem B0g {α : Type} [Inhabited α] {l:List α} {p : α→Bool} (hno:∀ j,j<l.length→p (l.getD j default)=false):l.find? p=none:=by
 rw [D7P]
 intro x hx
 obtain ⟨j,hj,rfl⟩:=D3 hx
 rw [hno j hj];simp
theorem B7X (z:K2) (c:C8) (hl:z.rates.length≤100000) (st:St):S P 189 [R8 z,eS c] st fun v st'=>v=eI (E9 z c)∧st'=st:=by
 refine F1 [2,6] Tryz.func189 ?_
 refine lp z.rates.length [1,2,8,9,10] (fun i vs t=>(∀ j,j<i→((z.rates.getD j default).cat.toList==c.toList)=false)∧vs=[eS c,.fptr (R8 z) 0,A6 2 A0N z.rates,eI z.rates.length,eI i]∧t=st) ?_ ?_
 ·conv=>whnf
  exact ⟨fun j hj=>absurd hj (by omega),rfl,rfl⟩
 ·rintro i vs t hi ⟨hno,rfl,rfl⟩
  conv=>whnf
  cases h1:decide ((i:Int)<(z.rates.length:Int))
  ·obtain rfl:=C5 h1 hi
   have hf:E9 z c=z.rest:=by unfold E9;rw [B0g hno]
   rw [hf];conv=>whnf
   exact ⟨rfl,rfl⟩
  ·have hi':=D9 h1
   conv=>whnf
   refine E4 ?_
   refine B8 (fun h2=>?_) (fun h2=>?_)<;>rw [h2]
   ·have hf:E9 z c=(z.rates.getD (i:Int).toNat default).rate:=by unfold E9;rw [B0f (p:=fun x:G4=>x.cat.toList==c.toList) hi' h2 hno];rfl
    rw [hf];conv=>whnf
    exact ⟨rfl,rfl⟩
   ·conv=>whnf
    refine F8 ?_
    exact nx hi' ⟨H4 hno h2,by rw [B3 (by omega)],rfl⟩
theorem B3K (l:List G4) (hl:l.length≤100000) (st:St):S P 276 [A6 2 A0N l] st fun v st'=>v=A6 2 A0N l∧st'=st:=by
 refine A0A (ty:=209) ?_
 refine SyW [] Tryz.func276 ?_
 cases l with
 | nil =>
  conv=>whnf
  refine ⟨?_,?_⟩
  ·conv=>whnf
   exact Col.start _ _ _ _
  ·conv=>whnf
   refine apE rfl rfl rfl rfl rfl (by show 0 * 24≤_;omega) (fun _=>?_) (fun h=>absurd h (by show ¬ 0<0;omega));conv=>whnf
   exact Col.start _ _ _ _
 | cons u us =>
  conv=>whnf
  refine Col.apps (n:=0) (m:=us.length+1) (q:=C5S) (f:=fun k=>A0N ((u::us).getD k default)) rfl rfl rfl rfl rfl (fun i hi=>by rw [D5A]) (by show (0+(us.length+1)) * 24≤140737488355328;simp only [D5Y] at hl;omega) (Col.start _ _ _ _) (fun sv' st'' hc'=>?_);conv=>whnf
  rw [D5A] at hc'
  exact hc'
theorem B5e (z:K2) (hl:z.rates.length≤100000) (st:St):S P 236 [R8 z] st fun v st'=>v=R8 z∧st'=st:=by
 have hc:=fun s=>B3K z.rates hl s
 refine A2c ?_
 refine F1 [] Tryz.func236 ?_
 intro b1 h1;conv=>whnf
 intro b2 h2
 have h12:b1≠b2:=fun e=>by subst e;rw [A0] at h2;cases h2
 conv=>whnf
 refine I1 (by rw [A9 h12];exact A0 ..) rfl ?_
 refine H8 (hc _) ?_
 refine X1 (by rw [A9 h12];exact A0 ..) rfl ?_
 refine I1 (A0 ..) (A4 ..) ?_
 refine X1 (by rw [A9 h12.symm];exact A0 ..) rfl ?_
 refine I1 (A0 ..) (A4 ..) ?_
 have hn2:st b2=none:=by rw [A9 h12.symm] at h2;exact h2
 exact ⟨rfl,((((E5.refl st).upd h1).upd h2).over h1).over hn2⟩
def C7a:K2:=⟨⟨#[]⟩,[],0,0⟩
theorem B7Y (t:Tax) (s:C8) (hl:t.zones.length≤100000) (hr:∀ z∈t.zones,z.rates.length≤100000) (st:St) :
  S P 188 [R5 t,eS s] st fun v st'=>v=.tuple [R8 ((Y7 t.zones s).getD C7a),.bool (Y7 t.zones s).isSome]∧st'=st:=by
 refine S.post (post:=fun v s'=>E5 st s'∧((∃ z,Y7 t.zones s=some z∧v=.tuple [R8 z,.bool true])∨(Y7 t.zones s=none∧v=.tuple [.agg [eS ⟨#[]⟩,.emp,eI 0,eI 0],.bool false]))) ?_ (fun v s' ⟨hs,h⟩=>⟨_,st,⟨rfl,rfl⟩,by
  rcases h with ⟨z,h1,rfl⟩ | ⟨h1,rfl⟩
  ·rw [h1];exact hs.shift _
  ·rw [h1]
   exact (A8.tuple (A8.cons (Le.shift (Le.agg (F0.cons (Le.refl _) (F0.cons (Le.emp _ _) (F0.refl _)))) _) (A8.keep _ _)) rfl).trans (hs.shift _)⟩)
 refine F1 [2,7] Tryz.func188 ?_
 intro b4 hb4;conv=>whnf
 refine lp t.zones.length [1,4,9,10,11] (fun i vs u=>(∀ j,j<i→((t.zones.getD j default).name.toList==s.toList)=false)∧vs=[eS s,.optr 4 b4 0 0,A6 4 R8 t.zones,eI t.zones.length,eI i]∧u=upd st b4 ⟨103,4,1,fun _=>H1 C0O.zero⟩) ?_ ?_
 ·conv=>whnf
  exact ⟨fun j hj=>absurd hj (by omega),rfl,rfl⟩
 ·rintro i vs u hi ⟨hno,rfl,rfl⟩
  conv=>whnf
  cases h1:decide ((i:Int)<(t.zones.length:Int))
  ·obtain rfl:=C5 h1 hi
   have hf:Y7 t.zones s=none:=B0g hno
   conv=>whnf
   refine X1 (A0 ..) rfl ?_
   refine I1 (A0 ..) (A4 ..) ?_
   exact ⟨((E5.refl st).upd hb4).over hb4,.inr ⟨hf,rfl⟩⟩
  ·have hi':=D9 h1
   conv=>whnf
   refine E4 ?_
   refine B8 (fun h2=>?_) (fun h2=>?_)<;>rw [h2]
   ·have hf:Y7 t.zones s=some (t.zones.getD (i:Int).toNat default):=B0f (p:=fun z:K2=>z.name.toList==s.toList) hi' h2 hno
    have hc:=fun u=>B5e (t.zones.getD (i:Int).toNat default) (hr _ (A7 hi')) u
    generalize t.zones.getD (i:Int).toNat default=z at hf hc
    conv=>whnf
    refine H8 (hc _) ?_
    refine X1 (A0 ..) rfl ?_
    refine I1 (A0 ..) (A4 ..) ?_
    exact ⟨((E5.refl st).upd hb4).over hb4,.inl ⟨z,hf,rfl⟩⟩
   ·conv=>whnf
    refine F8 ?_
    exact nx hi' ⟨H4 hno h2,by rw [B3 (by omega)],rfl⟩
theorem A7o (x:Int) (st:St):S P 235 [eI x] st fun v st'=>v=.bool (O6 0 10000000000000 x)∧st'=st:=by
 refine SyW [] Tryz.func235 ?_
 repeat' ((conv=>whnf);first | (refine B8 (fun h=>?_) (fun h=>?_)<;>rw [h]))
 all_goals (conv=>whnf)
 all_goals (refine ⟨?_,rfl⟩;show AV.bool _=AV.bool _;congr 1)
 all_goals (simp only [O6, *,D5C,D5K];try rfl)
theorem B7y (t:Tax) (x rate:Int) (hr:0≤rate∧rate≤10000) (st:St):S P 192 [R5 t,eI x,eI rate] st fun v st'=>v=eI (N5 t x rate)∧st'=st:=by
 have hM:N5 t x rate=(X2 x rate (A8O t rate) t.round).1:=rfl
 have hw:IntKind.i64.wrap (10000+rate)=10000+rate:=A5 (by omega) (by omega)
 refine F1 [3] Tryz.func192 ?_
 cases hi:t.incl
 ·have hd:A8O t rate=10000:=by unfold A8O;rw [if_neg (by rw [hi];simp)];rfl
  conv=>whnf
  refine B4 (B4J x rate 10000 t.round st) ?_
  rw [hM,hd]
  generalize X2 x rate 10000 t.round=Y
  conv=>whnf
  exact ⟨rfl,rfl⟩
 ·have hd:A8O t rate=10000+rate:=by unfold A8O;rw [if_pos hi]
  conv=>whnf
  rw [hw]
  refine B4 (B4J x rate (10000+rate) t.round st) ?_
  rw [hM,hd]
  generalize X2 x rate (10000+rate) t.round=Y
  conv=>whnf
  exact ⟨rfl,rfl⟩
theorem B0X (t:Tax) (rates nets:List Int) (i:Nat):(List.range (i+1)).map (fun i=>N5 t (gI nets i) (gI rates i))=(List.range i).map (fun i=>N5 t (gI nets i) (gI rates i))++[N5 t (gI nets i) (gI rates i)]:=by rw [D6L,D5P];rfl
theorem B5d (t:Tax) (rates nets:List Int) (hn:nets.length≤1000) (hl:rates.length=nets.length) (hq:∀ x∈rates,0≤x∧x≤10000) (st:St):S P 190 [R5 t,B0 rates,B0 nets] st fun v st'=>v=B0 (W0 t rates nets)∧st'=st:=by
 refine A0A (ty:=2) ?_
 have hL:W0 t rates nets=(List.range nets.length).map fun i=>N5 t (gI nets i) (gI rates i):=rfl
 rw [hL]
 refine F1 [3] Tryz.func190 ?_
 refine lp nets.length [1,3,7,10,11,12] (fun i vs s=>∃ sv,vs=[B0 rates,.fptr (R5 t) 0,sv,B0 nets,eI nets.length,eI i]∧E0 2 1 eI ((List.range i).map fun i=>N5 t (gI nets i) (gI rates i)) st sv s) ?_ ?_
 ·conv=>whnf
  exact ⟨.emp,rfl,E0.start _ _ _ _⟩
 ·rintro i vs s hi ⟨sv,rfl,hc⟩
  conv=>whnf
  cases h1:decide ((i:Int)<(nets.length:Int))
  ·obtain rfl:=C5 h1 hi
   conv=>whnf
   exact hc
  ·have hi':=D9 h1
   have hm:=fun u=>B7y t (gI nets (i:Int).toNat) (gI rates (i:Int).toNat) (hq _ (A7 (by show i<_;omega))) u
   have hs:=B0X t rates nets i
   have hln:((List.range i).map fun i=>N5 t (gI nets i) (gI rates i)).length=i:=by rw [D5p,D5O]
   conv=>whnf
   refine E4 ?_
   refine ⟨[8,9],[],List.range 11,by kernel_rfl,?_⟩;conv=>whnf
   refine E4 ?_
   refine ⟨_,I5 (hm _),?_⟩
   have hy:N5 t (gI nets i) (gI rates i)=N5 t (gI nets (i:Int).toNat) (gI rates (i:Int).toNat):=rfl
   rw [hy] at hs
   generalize N5 t (gI nets (i:Int).toNat) (gI rates (i:Int).toNat)=Y at hs
   conv=>whnf
   refine E0.app (y:=Y) (q:=r2) rfl rfl rfl rfl rfl (by rfl) (by rw [hln];show (i+1) * 8≤140737488355328;omega) hc (fun sv' t' hc'=>?_);conv=>whnf
   refine F8 ?_
   exact nx hi' ⟨sv',by rw [B3 (by omega)],by rw [hs];exact hc'⟩
theorem C5A {t:Tax} {z:K2} {cats:List C8} {nets:List Int} {ship:Int} (h:A2o t z cats nets ship) (st:St):S P 187 [R5 t,C7 cats,B0 nets,eI ship] st fun v st'=>v=.bool true∧st'=st:=by
 have hn:=h.nets.len
 have hs:=h.nets.sum
 have hp:=h.nets.pos
 have hc:=h.cats
 have hT:=fun s=>C6X t s
 have hA:=fun s=>A7o ship s
 rw [h.tax] at hT
 rw [show O6 0 10000000000000 ship=true from E6.2 h.ship] at hA
 have htk:∀ i,0≤A2 (nets.take i)∧A2 (nets.take i)≤10000000000000:=fun i=>by
  have:=M8 hp i
  exact ⟨C1 fun x hx=>hp x (D8k hx),by omega⟩
 refine F1 [4] Tryz.func187 ?_
 refine H8 (hT _) ?_
 rw [hc,show ((nets.length:Int) != (nets.length:Int))=false from bne_self_eq_false _];conv=>whnf
 refine B8 (fun h1=>absurd (D5o h1) (by omega)) (fun h1=>?_)
 rw [h1];conv=>whnf
 refine H8 (hA _) ?_
 refine lp nets.length [9,32,33,34] (fun i vs s=>vs=[eI (A2 (nets.take i)),B0 nets,eI nets.length,eI i]∧s=st) ?_ ?_
 ·conv=>whnf
  exact ⟨rfl,rfl⟩
 ·rintro i vs s hi ⟨rfl,rfl⟩
  conv=>whnf
  cases h2:decide ((i:Int)<(nets.length:Int))
  ·obtain rfl:=C5 h2 hi
   have hB:=fun s=>A7o (A2 (nets.take nets.length)) s
   rw [show O6 0 10000000000000 (A2 (nets.take nets.length))=true from E6.2 (htk _)] at hB;conv=>whnf
   refine H8 (hB _) ?_
   exact ⟨rfl,rfl⟩
  ·have hi':=D9 h2
   have hx:0≤gI nets (i:Int).toNat:=hp _ (A7 hi')
   have hx2:gI nets (i:Int).toNat≤A2 nets:=J0 hp (A7 hi')
   have hB:=fun s=>A7o (gI nets (i:Int).toNat) s
   rw [show O6 0 10000000000000 (gI nets (i:Int).toNat)=true from E6.2 (by omega)] at hB
   have hst:A2 (nets.take (i+1))=A2 (nets.take i)+gI nets (i:Int).toNat:=K7 hi'
   have h3:=htk (i+1)
   have hw:IntKind.i64.wrap (A2 (nets.take i)+gI nets (i:Int).toNat)=A2 (nets.take (i+1)):=by rw [hst] at h3 ⊢;exact A5 (by omega) (by omega)
   conv=>whnf
   refine E4 ?_
   refine H8 (hB _) ?_
   rw [hw]
   refine F8 ?_
   exact nx hi' ⟨by rw [B3 (by omega)],rfl⟩
theorem B3t {t:Tax} (h:taxC t=true):t.zones.length≤20∧∀ z∈t.zones,z.rates.length≤40:=by
 have h':=h
 unfold taxC at h
 simp only [D5r,D5F,D6z,D5m] at h
 refine ⟨by omega,fun z hz=>?_⟩
 obtain ⟨k,hk,rfl⟩:=D3 hz
 exact (A4u (A4a.1 h.2.1 k hk)).2.2.1
def C4r (t:Tax):FuncId:=if t.byOrder=true then 191 else 190
def Y0 (t:Tax) (taxes nets:List Int) (i:Nat):Int:=if t.incl=true then gI nets i - gI taxes i else gI nets i
theorem B7x (f:Nat→Int) (i:Nat):(List.range (i+1)).map f=(List.range i).map f++[f i]:=by rw [D6L,D5P];rfl
theorem B6J (n i:Nat):(List.replicate n (0:Int)).getD i default=0:=by
 rw [D5l,D7D];split<;>rfl
set_option maxHeartbeats 8000000 in
theorem C7E {t:Tax} {z:K2} {s:C8} {cats:List C8} {nets:List Int} {ship:Int} (h:A2o t z cats nets ship) (hz:Y7 t.zones s=some z) (exempt:Bool)
  (hTax:∀ st,S P (C4r t) [R5 t,B0 (cats.map (E9 z)),B0 nets] st fun v st'=>v=B0 (K5 t (cats.map (E9 z)) nets)∧st'=st) (st:St) :
  S P 124 [R5 t,eS s,eB exempt,C7 cats,B0 nets,eI ship] st fun v st' =>
   v=.tuple [B0 (L1 t z exempt cats nets ship).goods,B0 (L1 t z exempt cats nets ship).taxes,eI (L1 t z exempt cats nets ship).ship,eI (L1 t z exempt cats nets ship).shipTax,eI 0]∧st'=st:=by
 obtain ⟨hr1,hr2⟩:=A3o h
 obtain ⟨t1,t2⟩:=A6i (t:=t) h.nets hr1 hr2
 obtain ⟨l1,l2⟩:=B3t h.tax
 have hzm:z∈t.zones:=D7K hz
 have hzr:=l2 z hzm
 have hn:=h.nets.len
 have hcl:=h.cats
 have hq:=(A4u h.zone).2.1
 have hm:=A2N (t:=t) h.ship.1 hq
 have hs:=h.ship
 have hM:=fun st=>C5A h st
 have hZ:∀ st,S P 188 [R5 t,eS s] st fun v st'=>v=.tuple [R8 z,.bool true]∧st'=st:=fun st=>by
  have:=B7Y t s (by omega) (fun z hz=>by have:=l2 z hz;omega) st
  rw [hz] at this;exact this
 have hR:=fun c st=>B7X z c (by omega) st
 have hU:=fun st=>B7y t ship z.ship hq st
 have hL:L1 t z exempt cats nets ship=⟨(List.range nets.length).map (Y0 t (K5 t (cats.map (E9 z)) nets) nets),if exempt=true then List.replicate nets.length 0 else K5 t (cats.map (E9 z)) nets,if t.incl=true then ship - N5 t ship z.ship else ship,if exempt=true then 0 else N5 t ship z.ship⟩:=rfl
 rw [hL]
 have hnx:∀ i,i<nets.length→0≤gI nets i∧gI nets i≤10000000000000:=fun i hi=>by
  have h1:=h.nets.pos _ (show gI nets i∈nets from A7 hi)
  have h2:=J0 h.nets.pos (show gI nets i∈nets from A7 hi)
  have h3:=h.nets.sum
  exact ⟨h1,by omega⟩
 have htx:∀ i,i<nets.length→0≤gI (K5 t (cats.map (E9 z)) nets) i∧gI (K5 t (cats.map (E9 z)) nets) i≤10000000000000:=fun i hi=>t2 _ (A7 (by omega))
 generalize K5 t (cats.map (E9 z)) nets=TX at hTax t1 htx ⊢
 generalize N5 t ship z.ship=MS at hU hm ⊢
 clear hL t2
 refine S.post (post:=fun v s'=>∃ gv tv c1 c2,v=.tuple [gv,tv,eI (if t.incl=true then ship - MS else ship),eI (if exempt=true then 0 else MS),eI 0] ∧
   A8 [gv] s' [B0 ((List.range nets.length).map (Y0 t TX nets))] c1∧A8 [tv] c1 [B0 (if exempt=true then List.replicate nets.length 0 else TX)] c2∧E5 st c2) ?_
  (fun v s' ⟨gv,tv,c1,c2,h1,h2,h3,h4⟩=>⟨_,st,⟨rfl,rfl⟩,by
   rw [h1]
   exact (A8.tuple (A8.cons h2 (A8.cons h3 (A8.keep _ _))) rfl).trans (h4.shift _)⟩)
 refine F1 [6] Tryz.func124 ?_
 refine H8 (hM _) ?_
 refine H8 (hZ _) ?_
 intro b17 hb17;conv=>whnf
 refine stU (A0 ..) rfl ?_
 rw [B6];conv=>whnf
 generalize hst:(upd st b17 _:St)=S0
 obtain ⟨f17,at17,hf17⟩:∃ f17:Nat→AV,S0 b17=some ⟨103,4,1,f17⟩∧f17 0=R8 z:=by rw [←hst];exact ⟨_,A0 ..,by rw [A4];rfl⟩
 have hs0:E5 st S0:=by rw [←hst];exact (E5.refl st).upd hb17
 clear hst
 refine lp cats.length [2,4,5,6,12,17,19,39,40,41] (fun i vs u=>∃ sv,vs=[eB exempt,B0 nets,eI ship,.fptr (R5 t) 0,.emp,.optr 4 b17 0 0,sv,C7 cats,eI cats.length,eI i]∧E0 2 1 eI ((cats.take i).map (E9 z)) S0 sv u) ?_ ?_
 ·conv=>whnf
  exact ⟨.emp,rfl,E0.start _ _ _ _⟩
 rintro i vs u hi ⟨sv,rfl,hc⟩
 have hcs:=hc.sup
 conv=>whnf
 cases h1:decide ((i:Int)<(cats.length:Int))
 case true =>
  have hi':=D9 h1
  have hln:((cats.take i).map (E9 z)).length=i:=by rw [D5p,D5v];omega
  have hRi:=fun st=>hR (cats.getD (i:Int).toNat default) st
  have htk:(cats.take (i+1)).map (E9 z)=(cats.take i).map (E9 z)++[E9 z (cats.getD (i:Int).toNat default)]:=by rw [K1 hi',D5P];rfl
  generalize E9 z (cats.getD (i:Int).toNat default)=RT at hRi htk
  conv=>whnf
  refine E4 ?_
  refine I1 (hcs b17 _ at17) hf17 ?_
  refine H8 (hRi _) ?_
  refine E0.app (y:=RT) (q:=r2) rfl rfl rfl rfl rfl (by rfl) (by rw [hln];show (i+1) * 8≤140737488355328;omega) hc (fun sv' t' hc'=>?_);conv=>whnf
  refine F8 ?_
  exact nx hi' ⟨sv',by rw [B3 (by omega)],by rw [htk];exact hc'⟩
 obtain rfl:=C5 h1 hi
 rw [D5w] at hc
 have hTS:A8 [AV.agg [eB t.incl,eB t.byOrder,eI t.round,A6 4 R8 t.zones],sv,B0 nets] u [R5 t,B0 (cats.map (E9 z)),B0 nets] S0:=A8.cons (A8.keep [R5 t] _) (A8.cons hc.shift (A8.keep _ _))
 clear hc hcs hM hZ hR
 generalize cats.map (E9 z)=RS at hTax hTS
 unfold C4r at hTax;conv=>whnf
 cases hbo:t.byOrder
 case' false=>rw [if_neg (by rw [hbo];simp)] at hTax
 case' true=>rw [if_pos hbo] at hTax
 all_goals
  conv=>whnf
  refine F4 hTS (B4 (hTax _) ?_);conv=>whnf
  refine I1 at17 hf17 ?_
  refine H8 (hU _) ?_
  refine lp nets.length [2,4,6,12,13,14,15,65,66,67] (fun i vs u=>∃ sv,vs=[eB exempt,B0 nets,.fptr (R5 t) 0,sv,B0 TX,eI ship,eI MS,B0 nets,eI nets.length,eI i]∧E0 2 1 eI ((List.range i).map (Y0 t TX nets)) S0 sv u) ?_ ?_
  ·conv=>whnf
   exact ⟨.emp,rfl,E0.start _ _ _ _⟩
  rintro i vs u hi ⟨sv,rfl,hc⟩
  have hcs:=hc.sup
  conv=>whnf
  cases h1:decide ((i:Int)<(nets.length:Int))
  case true =>
   have hi':=D9 h1
   have hln:((List.range i).map (Y0 t TX nets)).length=i:=by rw [D5p,D5O]
   have hnx1:=hnx i hi'
   have htx1:=htx i hi'
   have htk:=B7x (Y0 t TX nets) i
   have hgA:Y0 t TX nets i=if t.incl=true then gI nets (i:Int).toNat - gI TX (i:Int).toNat else gI nets (i:Int).toNat:=rfl
   have hgw:IntKind.i64.wrap (gI nets (i:Int).toNat - gI TX (i:Int).toNat)=gI nets (i:Int).toNat - gI TX (i:Int).toNat:=A5 (show _≤gI nets i - gI TX i by omega) (show gI nets i - gI TX i≤_ by omega)
   generalize Y0 t TX nets i=GA at htk hgA
   conv=>whnf
   refine E4 ?_
   cases hin:t.incl
   case' false=>rw [if_neg (by rw [hin];simp)] at hgA
   case' true =>
    rw [if_pos hin] at hgA;conv=>whnf
    refine E4 ?_
    rw [hgw]
   all_goals
    conv=>whnf
    refine E0.app (y:=GA) (q:=r2) rfl rfl rfl rfl rfl (by rw [hgA];rfl) (by rw [hln];show (i+1) * 8≤140737488355328;omega) hc (fun sv' t' hc'=>?_);conv=>whnf
    refine F8 ?_
    exact nx hi' ⟨sv',by rw [B3 (by omega)],by rw [htk];exact hc'⟩
  obtain rfl:=C5 h1 hi
  have hwS:IntKind.i64.wrap (ship - MS)=ship - MS:=A5 (by omega) (by omega)
  conv=>whnf
  cases hin:t.incl
  case' false=>rw [if_neg (show ¬(false=true) by simp)]
  case' true =>
   rw [if_pos rfl];conv=>whnf
   rw [hwS]
  all_goals
   conv=>whnf
   cases exempt
   ·conv=>whnf
    exact ⟨sv,B0 TX,S0,S0,rfl,hc.shift,A8.keep _ _,hs0⟩
   ·conv=>whnf
    refine mkO rfl rfl rfl (by show 8 * nets.length≤_;omega) (by omega) (by rfl) (fun bz hbz=>?_);conv=>whnf
    have hb0:S0 bz=none:=Col.off hc hbz
    have hc2:=Col.under (y:=⟨2,1,nets.length,fun _=>H1 r2.zero⟩) hc hbz
    refine ⟨sv,.own 1 bz 0 nets.length,upd S0 bz ⟨2,1,nets.length,fun _=>H1 r2.zero⟩,del (upd S0 bz ⟨2,1,nets.length,fun _=>H1 r2.zero⟩) bz,rfl,Col.shift hc2,?_,E5.del (hs0.upd hb0) (hs0.none hb0)⟩
    have e:B0 (List.replicate nets.length 0)=.arr 1 nets.length (fun k=>eI ((List.replicate nets.length (0:Int)).getD k default)):=by unfold B0 A6;rw [D6u]
    rw [if_pos rfl,e]
    exact N4 (A0 ..) rfl (D5u _) (fun k hk=>by rw [B6J];rfl)
structure Add where
 sku:C8
 qty:Int
 deriving Inhabited
def A4I (x:Add):AV:=.agg [eS x.sku,eI x.qty]
theorem B1y (l:List Int) (h:L7 l) (st:St):S P 125 [B0 l] st fun v st'=>v=eI (A2 l)∧st'=st:=by
 have hn:=h.len
 refine F1 [] Tryz.func125 ?_
 refine lp l.length [3,6,7,8] (fun i vs t=>vs=[eI (A2 (l.take i)),B0 l,eI l.length,eI i]∧t=st) ?_ ?_
 ·conv=>whnf
  exact ⟨rfl,rfl⟩
 ·rintro i vs t hi ⟨rfl,rfl⟩
  conv=>whnf
  cases h1:decide ((i:Int)<(l.length:Int))
  ·obtain rfl:=C5 h1 hi
   rw [D5w];conv=>whnf
   exact ⟨rfl,rfl⟩
  ·have hi':=D9 h1
   have hs:IntKind.i64.wrap (A2 (l.take i)+gI l (i:Int).toNat)=A2 (l.take (i+1)):=h.step hi'
   conv=>whnf
   refine E4 ?_
   rw [hs]
   refine F8 ?_
   exact nx hi' ⟨by rw [B3 (by omega)],rfl⟩
theorem C2n (q:A1I) (h1:L7 q.goods) (h2:L7 q.taxes) (st:St):S P 64 [A0E q] st fun v st'=>v=A5E (A2z q)∧st'=st:=by
 have c1:=fun s=>B1y q.goods h1 s
 have c2:=fun s=>B1y q.taxes h2 s
 have hB:A2z q=⟨A2 q.goods,A2 q.taxes,q.ship,q.shipTax,0⟩:=rfl
 rw [hB]
 generalize A2 q.goods=G at c1 ⊢
 generalize A2 q.taxes=T' at c2 ⊢
 refine A2c ?_
 refine F1 [1] Tryz.func64 ?_
 intro b2 hb;conv=>whnf
 refine ⟨[11],[],List.range 12,by kernel_rfl,?_⟩;conv=>whnf
 refine cqW (c1 _) ?_
 refine cqW (c2 _) ?_
 refine X1 (A0 ..) rfl ?_
 refine I1 (A0 ..) (A4 ..) ?_
 exact ⟨rfl,((E5.refl st).upd hb).over hb⟩
theorem B9T (r:G6) (l:List E8):(M9 r l).length=l.length:=by unfold M9 C2;rw [D5p,D5p]
theorem C5h {a b c d:Int} (ha : -10000000000000≤a∧a≤10000000000000) (hb : -10000000000000≤b∧b≤10000000000000) (hc : -10000000000000≤c∧c≤10000000000000) (hd : -10000000000000≤d∧d≤10000000000000):L7 [a,b,c,d]:=by
 refine ⟨by show 4≤1000;decide,fun x hx=>?_⟩
 simp only [D6U,D6R,or_false] at hx
 rcases hx with rfl | rfl | rfl | rfl<;>assumption
theorem B8d {a b c d:Int} {F:Nat→AV} {st:St} (h0:F 0=eI a) (h1:F 1=eI b) (h2:F 2=eI c) (h3:F 3=eI d):A8 [.arr 1 4 F] st [B0 [a,b,c,d]] st :=
 A8.arr (g:=fun i=>eI ([a,b,c,d].getD i default)) fun i hi=>by
  match i,hi with
  | 0,_=>exact h0
  | 1,_=>exact h1
  | 2,_=>exact h2
  | 3,_=>exact h3
set_option maxHeartbeats 8000000 in
theorem quote_S {r:G6} {codes:List C8} {l:List E8} {Pr:A3G} {z:K2} {zone:C8} (exempt:Bool)
  (hP:∀ st,S P 122 [G9 r,C7 codes,A6 3 I0 l] st fun v s=>v=.tuple [A0T Pr,eI 0]∧s=st)
  (hI:∀ st,S P 123 [A6 4 E3 r.items,A6 3 I0 l] st fun v s=>v=A6 4 E3 (C2 r.items l)∧s=st)
  (hln:l.length≤1000) (hV:A2o r.tax z (M9 r l) Pr.nets Pr.ship) (hz:Y7 r.tax.zones zone=some z)
  (hTax:∀ st,S P (C4r r.tax) [R5 r.tax,B0 ((M9 r l).map (E9 z)),B0 Pr.nets] st fun v st'=>v=B0 (K5 r.tax ((M9 r l).map (E9 z)) Pr.nets)∧st'=st)
  (hsm:A2 (L1 r.tax z exempt (M9 r l) Pr.nets Pr.ship).goods≤10000000000000∧-10000000000000≤A2 (L1 r.tax z exempt (M9 r l) Pr.nets Pr.ship).goods∧A2 (L1 r.tax z exempt (M9 r l) Pr.nets Pr.ship).taxes≤10000000000000) (st:St) :
  S P 60 [G9 r,eS zone,eB exempt,C7 codes,A6 3 I0 l] st fun v st'=>v=.tuple [A0E (A9j r z exempt l Pr),eI 0]∧st'=st:=by
 have hQ:=B0j hV exempt Pr.deals
 have hlv:=fun s=>C7E hV hz exempt hTax s
 have hq:A9j r z exempt l Pr=⟨(L1 r.tax z exempt (M9 r l) Pr.nets Pr.ship).goods,(L1 r.tax z exempt (M9 r l) Pr.nets Pr.ship).taxes,(L1 r.tax z exempt (M9 r l) Pr.nets Pr.ship).ship,(L1 r.tax z exempt (M9 r l) Pr.nets Pr.ship).shipTax,A2 (L1 r.tax z exempt (M9 r l) Pr.nets Pr.ship).goods+A2 (L1 r.tax z exempt (M9 r l) Pr.nets Pr.ship).taxes+(L1 r.tax z exempt (M9 r l) Pr.nets Pr.ship).ship+(L1 r.tax z exempt (M9 r l) Pr.nets Pr.ship).shipTax,Pr.deals⟩:=rfl
 rw [hq]
 have hpos:0≤A2 (L1 r.tax z exempt (M9 r l) Pr.nets Pr.ship).taxes:=C1 hQ.pos
 obtain ⟨q1,q2,q3,q4,q5,q6,q7,_⟩:=hQ
 have q1:L7 (L1 r.tax z exempt (M9 r l) Pr.nets Pr.ship).goods:=q1
 have q2:L7 (L1 r.tax z exempt (M9 r l) Pr.nets Pr.ship).taxes:=q2
 have q6:0≤(L1 r.tax z exempt (M9 r l) Pr.nets Pr.ship).ship∧(L1 r.tax z exempt (M9 r l) Pr.nets Pr.ship).ship≤10000000000000:=q6
 have q7:0≤(L1 r.tax z exempt (M9 r l) Pr.nets Pr.ship).shipTax∧(L1 r.tax z exempt (M9 r l) Pr.nets Pr.ship).shipTax≤10000000000000:=q7
 clear hq q3 q4 q5 hTax hV hz
 generalize L1 r.tax z exempt (M9 r l) Pr.nets Pr.ship=V at *
 have s1:=fun s=>B1y V.goods q1 s
 have s2:=fun s=>B1y V.taxes q2 s
 have s3:=fun s=>B1y [A2 V.goods,A2 V.taxes,V.ship,V.shipTax] (C5h (by omega) (by omega) (by omega) (by omega)) s
 have e3:A2 [A2 V.goods,A2 V.taxes,V.ship,V.shipTax]=A2 V.goods+A2 V.taxes+V.ship+V.shipTax:=by
  show 0+A2 V.goods+A2 V.taxes+V.ship+V.shipTax=_;omega
 rw [e3] at s3
 have hil:(C2 r.items l).length=l.length:=D5p ..
 have hcb:M9 r l=(C2 r.items l).map Ab.Item.cat:=rfl
 rw [hcb] at hlv
 generalize C2 r.items l=IT at hI hil hlv
 clear hcb
 refine A2c ?_
 refine F1 [5,16] Tryz.func60 ?_
 intro b10 hb10;conv=>whnf
 refine H8 (hP _) ?_
 intro b12 hb12
 have h02:b10≠b12:=fun e=>by subst e;rw [A0] at hb12;cases hb12
 conv=>whnf
 refine stU (A0 ..) rfl ?_
 rw [B6];conv=>whnf
 refine H8 (hI _) ?_
 generalize hst:(upd (upd st b10 _) b12 _:St)=S0
 obtain ⟨f12,at12,hf12⟩:∃ f12:Nat→AV,S0 b12=some ⟨170,4,1,f12⟩∧f12 0=A0T Pr:=by rw [←hst];exact ⟨_,A0 ..,by rw [A4];rfl⟩
 obtain ⟨f10,at10⟩:∃ f10:Nat→AV,S0 b10=some ⟨113,6,1,f10⟩∧f10 0=H1 C5Q.zero:=by rw [←hst,A9 h02];exact ⟨_,A0 ..,rfl⟩
 obtain ⟨at10,hf10⟩:=at10
 have hs0:E5 st S0:=by rw [←hst];exact ((E5.refl st).upd hb10).upd hb12
 have n12:st b12=none:=by rw [A9 h02.symm] at hb12;exact hb12
 clear hst
 refine lp IT.length [1,2,5,10,12,14,35,36,37] (fun i vs u=>∃ sv,vs=[eS zone,eB exempt,.fptr (G9 r) 0,.optr 6 b10 0 0,.optr 4 b12 0 0,sv,A6 4 E3 IT,eI IT.length,eI i]∧E0 9 1 eS ((IT.take i).map Ab.Item.cat) S0 sv u) ?_ ?_
 ·conv=>whnf
  exact ⟨.emp,rfl,E0.start _ _ _ _⟩
 rintro i vs u hi ⟨sv,rfl,hc⟩
 have hcs:=hc.sup
 conv=>whnf
 cases h1:decide ((i:Int)<(IT.length:Int))
 case true =>
  have hi':=D9 h1
  have hln2:((IT.take i).map Ab.Item.cat).length=i:=by rw [D5p,D5v];omega
  have htk:(IT.take (i+1)).map Ab.Item.cat=(IT.take i).map Ab.Item.cat++[(IT.getD (i:Int).toNat default).cat]:=by rw [K1 hi',D5P];rfl
  conv=>whnf
  refine E4 ?_
  refine E0.app (y:=(IT.getD (i:Int).toNat default).cat) (q:=r9) rfl rfl rfl rfl rfl (by rfl) (by rw [hln2];show (i+1) * 16≤140737488355328;omega) hc (fun sv' t' hc'=>?_);conv=>whnf
  refine F8 ?_
  exact nx hi' ⟨sv',by rw [B3 (by omega)],by rw [htk];exact hc'⟩
 obtain rfl:=C5 h1 hi
 rw [D5w] at hc;conv=>whnf
 refine I1 (hcs b12 _ at12) hf12 ?_
 refine I1 (hcs b12 _ at12) hf12 ?_
 have hTS:A8 [R5 r.tax,eS zone,eB exempt,sv,B0 Pr.nets,eI Pr.ship] u [R5 r.tax,eS zone,eB exempt,C7 (IT.map Ab.Item.cat),B0 Pr.nets,eI Pr.ship] S0 :=
  A8.cons (A8.keep [R5 r.tax] _) (A8.cons (A8.keep [eS zone] _) (A8.cons (A8.keep [eB exempt] _) (A8.cons hc.shift (A8.keep _ _))))
 refine F4 hTS (B4 (hlv _) ?_);conv=>whnf
 refine ⟨[15],[],List.range 17,by kernel_rfl,?_⟩;conv=>whnf
 refine cqW (s1 _) ?_
 refine cqW (s2 _) ?_
 refine ⟨_,⟨rfl,rfl⟩,?_⟩;conv=>whnf
 refine ⟨_,F4 (B8d rfl rfl rfl rfl) (I5 (s3 _)),?_⟩;conv=>whnf
 refine I1 at12 hf12 ?_
 refine X1 at10 hf10 ?_
 refine I1 (A0 ..) (A4 ..) ?_
 exact ⟨rfl,hs0.over hb10⟩
def A0D (x:Add):Bool:=decide (x.qty<1)||decide (x.qty>100000)
def J4 (items:List Ab.Item) (x:Add):E8:=⟨x.sku,x.qty,(items.getD (O8 items x.sku).toNat default).price⟩
def W1 (items:List Ab.Item) (adds:List Add):List E8×Int :=
 if adds.length<1∨adds.length>1000 then ([],2) else if (adds.any A0D)=true then ([],2) else if (adds.any fun x=>decide (O8 items x.sku<0))=true then ([],7) else (adds.map (J4 items),0)
theorem B5V (items:List Ab.Item) (adds:List Add) (hi:items.length≤9223372036854775807) (st:St) :
  S P 59 [A6 4 E3 items,A6 2 A4I adds] st fun v st'=>v=.tuple [A6 3 I0 (W1 items adds).1,eI (W1 items adds).2]∧st'=st:=by
 have hB:W1 items adds=if adds.length<1∨adds.length>1000 then ([],2) else if (adds.any A0D)=true then ([],2) else if (adds.any fun x=>decide (O8 items x.sku<0))=true then ([],7) else (adds.map (J4 items),0):=rfl
 refine S.post (post:=fun v s'=>(∃ e,W1 items adds=([],e)∧v=.tuple [.emp,eI e]∧E5 st s')∨(∃ sv,W1 items adds=(adds.map (J4 items),0)∧v=.tuple [sv,eI 0]∧E0 137 3 I0 (adds.map (J4 items)) st sv s')) ?_ (fun v s' hv=>⟨_,st,⟨rfl,rfl⟩,by
  rcases hv with ⟨e,h1,rfl,h2⟩ | ⟨sv,h1,rfl,h2⟩
  ·rw [h1];exact (A8.tuple (A8.cons (H9 3 _) (A8.keep _ _)) rfl).trans (h2.shift _)
  ·rw [h1];exact A8.tuple (A8.cons h2.shift (A8.keep _ _)) rfl⟩)
 refine F1 [7,10] Tryz.func59 ?_
 refine B8 (fun h1=>?_) (fun h1=>?_)<;>rw [h1]<;>simp only [D5n,D5m] at h1
 ·rw [if_pos (.inl (by omega))] at hB;conv=>whnf
  exact .inl ⟨2,hB,rfl,E5.refl _⟩
 conv=>whnf
 refine B8 (fun h2=>?_) (fun h2=>?_)<;>rw [h2]<;>simp only [D5n,D5m] at h2
 ·rw [if_pos (.inr (by omega))] at hB;conv=>whnf
  exact .inl ⟨2,hB,rfl,E5.refl _⟩
 rw [if_neg (by omega)] at hB;conv=>whnf
 refine lp adds.length [0,1,20,21,22] (fun i vs t=>(∀ j,j<i→A0D (adds.getD j default)=false)∧vs=[A6 4 E3 items,A6 2 A4I adds,A6 2 A4I adds,eI adds.length,eI i]∧t=st) ?_ ?_
 ·conv=>whnf
  exact ⟨fun j hj=>absurd hj (by omega),rfl,rfl⟩
 rintro i vs t hi' ⟨hno,rfl,rfl⟩
 conv=>whnf
 cases h3:decide ((i:Int)<(adds.length:Int))
 case true =>
  have hi2:=D9 h3
  have hbad:A0D (adds.getD (i:Int).toNat default)=true→W1 items adds=([],2):=fun h=>by
   rw [if_pos (D6Q.2 ⟨_,A7 hi2,h⟩)] at hB;exact hB
  conv=>whnf
  refine E4 ?_
  refine B8 (fun h4=>?_) (fun h4=>?_)<;>rw [h4]
  ·conv=>whnf
   exact .inl ⟨2,hbad (by unfold A0D;rw [h4];rfl),rfl,E5.refl _⟩
  conv=>whnf
  refine B8 (fun h5=>?_) (fun h5=>?_)<;>rw [h5]
  ·conv=>whnf
   exact .inl ⟨2,hbad (by unfold A0D;rw [h5,D6c]),rfl,E5.refl _⟩
  conv=>whnf
  refine F8 ?_
  exact nx hi2 ⟨H4 hno (show A0D (adds.getD (i:Int).toNat default)=false by unfold A0D;rw [h4,h5];rfl),by rw [B3 (by omega)],rfl⟩
 obtain rfl:=C5 h3 hi'
 rw [if_neg (by
  rw [D6m,D6r]
  intro x hx
  obtain ⟨j,hj,rfl⟩:=D3 hx
  rw [hno j hj];simp)] at hB
 conv=>whnf
 refine lp adds.length [0,8,35,36,37] (fun i vs s=>∃ sv,(∀ j,j<i→(fun x:Add=>decide (O8 items x.sku<0)) (adds.getD j default)=false)∧vs=[A6 4 E3 items,sv,A6 2 A4I adds,eI adds.length,eI i]∧E0 137 3 I0 ((adds.take i).map (J4 items)) t sv s) ?_ ?_
 ·conv=>whnf
  exact ⟨.emp,fun j hj=>absurd hj (by omega),rfl,E0.start _ _ _ _⟩
 rintro i vs s hi2 ⟨sv,hno2,rfl,hc⟩
 conv=>whnf
 cases h4:decide ((i:Int)<(adds.length:Int))
 case false =>
  obtain rfl:=C5 h4 hi2
  rw [D5w] at hc
  rw [if_neg (by
   rw [D6m,D6r]
   intro x hx
   obtain ⟨j,hj,rfl⟩:=D3 hx
   have:=hno2 j hj
   simp only at this
   rw [this];simp)] at hB
  conv=>whnf
  exact .inr ⟨sv,hB,rfl,hc⟩
 have hi3:=D9 h4
 have hF:=fun u=>B7h items (adds.getD (i:Int).toNat default).sku hi u
 have hln:((adds.take i).map (J4 items)).length=i:=by rw [D5p,D5v];omega
 have htk:(adds.take (i+1)).map (J4 items)=(adds.take i).map (J4 items)++[J4 items (adds.getD (i:Int).toNat default)]:=by rw [K1 hi3,D5P];rfl
 have hrng:=A8T (fun x:Ab.Item=>x.sku.toList==(adds.getD (i:Int).toNat default).sku.toList) items
 have hAL:J4 items (adds.getD (i:Int).toNat default)=⟨(adds.getD (i:Int).toNat default).sku,(adds.getD (i:Int).toNat default).qty,(items.getD (O8 items (adds.getD (i:Int).toNat default).sku).toNat default).price⟩:=rfl
 have hno3:=fun h=>H4 (q:=fun j=>(fun x:Add=>decide (O8 items x.sku<0)) (adds.getD j default)=false) hno2 h
 have hpos:(fun x:Add=>decide (O8 items x.sku<0)) (adds.getD (i:Int).toNat default)=true→W1 items adds=([],7):=fun h=>by
  rw [if_pos (D6Q.2 ⟨_,A7 hi3,h⟩)] at hB;exact hB
 have hf0:O8 items (adds.getD (i:Int).toNat default).sku=O8 items (adds.getD i default).sku:=rfl
 simp only at hpos hno3
 rw [←hf0] at hno3
 generalize hfv:O8 items (adds.getD (i:Int).toNat default).sku=FV at hF hpos hno3 hAL
 have hrng2 : -1≤FV∧FV<items.length:=by rw [←hfv];exact hrng
 conv=>whnf
 refine E4 ?_
 refine H8 (hF _) ?_
 refine B8 (fun h5=>?_) (fun h5=>?_)<;>rw [h5]
 ·conv=>whnf
  exact .inl ⟨7,hpos h5,rfl,hc.sup⟩
 have h5':=D5q h5
 conv=>whnf
 refine ⟨[11,12],[],List.range 14,by kernel_rfl,?_⟩;conv=>whnf
 refine E4 ?_
 refine E0.app (y:=J4 items (adds.getD (i:Int).toNat default)) (q:=C3w) rfl rfl rfl rfl rfl (by rw [hAL];rfl) (by rw [hln];show (i+1) * 32≤140737488355328;omega) hc (fun sv' t' hc'=>?_);conv=>whnf
 refine F8 ?_
 exact nx hi3 ⟨sv',hno3 h5,by rw [B3 (by omega)],by rw [htk];exact hc'⟩
end Go.Proofs.YtaapofnkmpiknaaGreat
namespace Go.Proofs.YtaapofnkmpiknaaGreat
open Go Go.Ab
structure A2Z where
 sku:C8
 price:Int
 sold:Int
 left:Int
 goods:Int
 tax:Int
 deriving Inhabited
def Z3 (x:A2Z):AV:=.agg [eS x.sku,eI x.price,eI x.sold,eI x.left,eI x.goods,eI x.tax]
structure A2p where
 kind:Int
 taken:Int
 given:Int
 deriving Inhabited
def A1W (x:A2p):AV:=.agg [eI x.kind,eI x.taken,eI x.given]
instance:Inhabited A5k:=⟨⟨0,0,0,0,0⟩⟩
structure U0 where
 id:C8
 rules:Int
 zone:C8
 exempt:Bool
 codes:List C8
 day:Int
 lines:List A2Z
 ship:Int
 shipTax:Int
 fee:Int
 net:Int
 book:A5k
 tenders:List A2p
 deriving Inhabited
def U4 (o:U0):AV:=.agg [eS o.id,eI o.rules,eS o.zone,eB o.exempt,C7 o.codes,eI o.day,A6 6 Z3 o.lines,eI o.ship,eI o.shipTax,eI o.fee,eI o.net,eI o.book.goods,eI o.book.tax,eI o.book.ship,eI o.book.shipTax,eI o.book.fee,A6 3 A1W o.tenders]
def A1O (x:Int):Bool:=O6 0 10000000000000 x
def K4 (x:Int):Bool:=O6 0 100000000000000 x
def A2A (x:A2Z):Bool:=D2 x.sku&&O6 0 1000000000 x.price&&O6 1 100000 x.sold&&O6 0 x.sold x.left&&A1O x.goods&&A1O x.tax
def tenderB (x:A2p):Bool:=O6 1 9 x.kind&&K4 x.taken&&O6 0 x.taken x.given
def U8 (b:A5k):List Int:=[b.goods,b.tax,b.ship,b.shipTax,b.fee]
def A5B (b:A5k):Bool:=(U8 b).all K4
def Z6 (b:A5k):Int:=if A5B b=true then A2 (U8 b) else 0
def A2g (l:List A2p):Int:=l.foldl (fun a x=>a+(x.taken - x.given)) 0
def A9A (o:U0):Bool:=D2 o.id&&D2 o.zone&&O6 1 40 o.rules&&S4 o.codes&&O6 0 100000 o.day
def A4O (o:U0):Bool:=decide ((o.lines.length:Int)≥1)&&decide ((o.lines.length:Int)≤1000)&&o.lines.all A2A
def A1p (o:U0):Bool:=A1O o.ship&&A1O o.shipTax&&K4 o.fee&&K4 o.net
def A5A (o:U0):Bool:=A5B o.book&&(Z6 o.book==o.net)
def A0h (o:U0):Bool:=o.tenders.all tenderB&&(decide ((o.tenders.length:Int)≤6)&&(A2g o.tenders==o.net))
def A2v (o:U0):Bool:=decide ((o.tenders.length:Int)≤6)&&A9A o&&A4O o&&A1p o&&A5A o&&A0h o
def C0q (o:U0):List E8:=o.lines.map fun x=>⟨x.sku,x.left,x.price⟩
def A0k (t n k:Int):Int:=t * k / n
def shG (l:List A2Z):Int:=l.foldl (fun a x=>a+A0k x.goods x.sold x.left) 0
def shT (l:List A2Z):Int:=l.foldl (fun a x=>a+A0k x.tax x.sold x.left) 0
def T2 (l:List A2Z):Bool:=l.any fun x=>decide (x.left>0)
def A6I (o:U0):A5k:=if A2v o=true then ⟨shG o.lines,shT o.lines,if T2 o.lines=true then o.ship else 0,if T2 o.lines=true then o.shipTax else 0,0⟩ else ⟨0,0,0,0,0⟩
theorem B0S {x:A2Z} (h:A2A x=true):D2 x.sku=true∧(0≤x.price∧x.price≤1000000000)∧(1≤x.sold∧x.sold≤100000)∧(0≤x.left∧x.left≤x.sold)∧(0≤x.goods∧x.goods≤10000000000000)∧(0≤x.tax∧x.tax≤10000000000000):=by
 unfold A2A A1O at h
 simp only [D5r,E6] at h
 obtain ⟨⟨⟨⟨⟨h1,h2⟩,h3⟩,h4⟩,h5⟩,h6⟩:=h
 exact ⟨h1,h2,h3,h4,h5,h6⟩
theorem A8z {t n k:Int} (ht:0≤t) (hn:1≤n) (hk:0≤k) (hkn:k≤n):0≤A0k t n k∧A0k t n k≤t:=by
 unfold A0k
 refine ⟨D6T (D6K ht hk) (by omega),?_⟩
 have h1:t * k≤t * n:=D6i hkn ht
 have h2:t * k / n≤t * n / n:=Int.ediv_le_ediv (by omega) h1
 rwa [Int.mul_ediv_cancel _ (by omega)] at h2
theorem B1j {α : Type} [Inhabited α] {f : α→Int} {M:Int} (hM:0≤M):∀ (l:List α),(∀ x∈l,0≤f x∧f x≤M)→∀ a:Int,a≤l.foldl (fun a x=>a+f x) a∧l.foldl (fun a x=>a+f x) a≤a+M * l.length
 | [],_,a=>⟨D5W _,by simp⟩
 | x::l,h,a=>by
  have h1:=h x (D5N ..)
  have h2:=B1j hM l (fun y hy=>h y (D5M _ hy)) (a+f x)
  simp only [D6C,D5Y]
  have e:M * ((l.length+1:Nat):Int)=M * (l.length:Int)+M:=by rw [show ((l.length+1:Nat):Int)=(l.length:Int)+1 from rfl,D7z,D8j]
  rw [e]
  exact ⟨by omega,by omega⟩
end Go.Proofs.YtaapofnkmpiknaaGreat
namespace Go.Proofs.YtaapofnkmpiknaaGreat
open Go Go.Ab
attribute [local irreducible] upd del
theorem B0h (x:Int) (st:St):S P 130 [eI x] st fun v st'=>v=.bool (A1O x)∧st'=st:=by
 refine F1 [] Tryz.func130 ?_
 unfold A1O O6
 refine B8 (fun h=>?_) (fun h=>?_)<;>rw [h]<;>(conv=>whnf)<;>exact ⟨rfl,rfl⟩
theorem A4P (x:Int) (st:St):S P 72 [eI x] st fun v st'=>v=.bool (K4 x)∧st'=st:=A6F x st
theorem C6b (x:A2Z) (st:St):S P 129 [Z3 x] st fun v st'=>v=.bool (A2A x)∧st'=st:=by
 have n1:=A1w x.sku st
 have n2:=B0h x.goods st
 have n3:=B0h x.tax st
 unfold A2A O6
 generalize D2 x.sku=b1 at *
 generalize A1O x.goods=b2 at *
 generalize A1O x.tax=b3 at *
 refine SyW [1] Tryz.func129 ?_
 repeat' ((conv=>whnf);first | refine B4 n1 ?_ | refine B4 n2 ?_ | refine B4 n3 ?_ | refine ⟨rfl,?_⟩ | (refine B8 (fun h=>?_) (fun h=>?_)<;>rw [h]))
 all_goals (conv=>whnf)
 all_goals (refine ⟨?_,rfl⟩;show AV.bool _=AV.bool _;clear n1 n2 n3)
 all_goals (simp only [*,D5C,D5K,D6g,D5R,D6c,D6d,D6f,D5Z,D6a,D5S,D6F])
theorem C0Y (x:A2Z) (st:St):S P 128 [Z3 x] st fun v st'=>v=.bool (!A2A x)∧st'=st:=by
 have n1:=C6b x st
 generalize A2A x=b at *
 refine F1 [1] Tryz.func128 ?_
 refine H8 n1 ?_
 exact ⟨rfl,rfl⟩
theorem B3T (l:List A2Z) (hl:l.length≤9223372036854775807) (g:FuncId) (cs:List AV) (p:A2Z→Bool) (st:St)
  (hg:∀ x,x∈l→S P g (Z3 x::cs) st fun v st'=>v=.bool (p x)∧st'=st) :
  S P 193 [A6 6 Z3 l,.fn (.func g) [] cs] st fun v st'=>v=eI (idx p l)∧st'=st:=by
 refine F1 [] Tryz.func193 ?_
 refine ⟨[0,1,7,8],fun m vs st'=>∃ i:Nat,i≤l.length∧(∀ k,k<i→p (l.getD k default)=false)∧m=l.length - i∧vs=[A6 6 Z3 l,.fn (.func g) [] cs,eI l.length,eI i]∧st'=st,?_,?_⟩
 ·conv=>whnf
  exact ⟨_,0,D5L _,fun k hk=>absurd hk (by omega),rfl,rfl,rfl⟩
 ·rintro m vs st' ⟨i,hi,hok,rfl,rfl,rfl⟩
  conv=>whnf
  cases h:decide ((i:Int)<(l.length:Int))
  ·have:=D5q h
   conv=>whnf
   refine ⟨?_,rfl⟩
   rw [S6 fun k hk=>hok k (by omega)];rfl
  ·have hi':i<l.length:=by have:=D5o h;omega
   conv=>whnf
   refine E4 ?_
   refine B4 (hg (l.getD (i:Int).toNat default) (by simp [hi'])) ?_
   rw [D5y]
   cases hp:p (l.getD i default)
   ·conv=>whnf
    refine F8 ?_
    refine ⟨l.length - (i+1),by omega,i+1,by omega,fun k hk=>?_,rfl,by rw [B3 (by omega)],rfl⟩
    rcases D6h.1 hk with h' | h'
    ·exact hok k h'
    ·rw [h'];exact hp
   ·conv=>whnf
    refine ⟨?_,rfl⟩
    rw [A1s hi' hok hp];rfl
theorem B7p (l:List A2Z) (hl:l.length≤9223372036854775807) (g:FuncId) (cs:List AV) (p:A2Z→Bool) (st:St)
  (hg:∀ x,x∈l→S P g (Z3 x::cs) st fun v st'=>v=.bool (p x)∧st'=st) :
  S P 127 [A6 6 Z3 l,.fn (.func g) [] cs] st fun v st'=>v=.bool (l.any p)∧st'=st:=by
 refine F1 [] Tryz.func127 ?_
 refine H8 (B3T l hl g cs p st hg) ?_
 refine ⟨?_,rfl⟩
 rw [←A1r];rfl
structure B2C (o:U0):Prop where
 id:Sm o.id.size
 zone:Sm o.zone.size
 codes:Sm o.codes.length
 scodes:∀ s∈o.codes,Sm s.size
 lines:o.lines.length≤100000
 slines:∀ x∈o.lines,Sm x.sku.size
 tenders:o.tenders.length≤100000
theorem C5F (o:U0) (hs:B2C o) (st:St):S P 66 [U4 o] st fun v st'=>v=.bool (A9A o)∧st'=st:=by
 have n1:=A1w o.id st
 have n2:=A1w o.zone st
 have n3:=B0b o.codes hs.codes st
 have n4:=B8P o.day st
 have e:A9A o=(D2 o.id&&D2 o.zone&&(decide (o.rules≥1)&&decide (o.rules≤40))&&S4 o.codes&&O6 0 100000 o.day):=rfl
 rw [e]
 clear e hs
 generalize D2 o.id=b1 at *
 generalize D2 o.zone=b2 at *
 generalize S4 o.codes=b3 at *
 generalize O6 0 100000 o.day=b4 at *
 refine SyW [1] Tryz.func66 ?_
 repeat' ((conv=>whnf);first | refine B4 n1 ?_ | refine B4 n2 ?_ | refine B4 n3 ?_ | refine B4 n4 ?_ | refine ⟨rfl,?_⟩ | (refine B8 (fun h=>?_) (fun h=>?_)<;>rw [h]))
 all_goals (conv=>whnf)
 all_goals (refine ⟨?_,rfl⟩;show AV.bool _=AV.bool _;clear n1 n2 n3 n4)
 all_goals (simp only [*,D5C,D5K,D6g,D5R,D6c,D6d,D6f,D5Z,D6a,D5S,D6F])
theorem C3g (o:U0) (hs:B2C o) (st:St):S P 67 [U4 o] st fun v st'=>v=.bool (A4O o)∧st'=st:=by
 have n1:=B7p o.lines (by have:=hs.lines;omega) 128 [] (fun x=>!A2A x) st (fun x _=>C0Y x st)
 have e:A4O o=(decide ((o.lines.length:Int)≥1)&&decide ((o.lines.length:Int)≤1000)&&!(o.lines.any fun x=>!A2A x)):=by unfold A4O;rw [List.all_eq_not_any_not]
 rw [e]
 clear e hs
 generalize (o.lines.any fun x=>!A2A x)=b1 at *
 refine SyW [1] Tryz.func67 ?_
 repeat' ((conv=>whnf);first | refine B4 n1 ?_ | refine ⟨rfl,?_⟩ | (refine B8 (fun h=>?_) (fun h=>?_)<;>rw [h]))
 all_goals (conv=>whnf)
 all_goals (refine ⟨?_,rfl⟩;show AV.bool _=AV.bool _;clear n1)
 all_goals (simp only [*,D5C,D5K,D6g,D5R,D6c,D6d,D6f,D5Z,D6a,D5S,D6F])
theorem B7D (o:U0) (st:St):S P 68 [U4 o] st fun v st'=>v=.bool (A1p o)∧st'=st:=by
 have n1:=B0h o.ship st
 have n2:=B0h o.shipTax st
 have n3:=A4P o.fee st
 have n4:=A4P o.net st
 unfold A1p
 generalize A1O o.ship=b1 at *
 generalize A1O o.shipTax=b2 at *
 generalize K4 o.fee=b3 at *
 generalize K4 o.net=b4 at *
 refine SyW [1] Tryz.func68 ?_
 repeat' ((conv=>whnf);first | refine B4 n1 ?_ | refine B4 n2 ?_ | refine B4 n3 ?_ | refine B4 n4 ?_ | refine ⟨rfl,?_⟩ | (refine B8 (fun h=>?_) (fun h=>?_)<;>rw [h]))
 all_goals (conv=>whnf)
 all_goals (refine ⟨?_,rfl⟩;show AV.bool _=AV.bool _;clear n1 n2 n3 n4)
 all_goals (simp only [*,D5C,D5K,D6g,D5R,D6c,D6d,D6f,D5Z,D6a,D5S,D6F])
theorem B3e (b:A5k) (st:St):S P 71 [A5E b] st fun v st'=>v=A5E b∧st'=st:=by
 refine A2c ?_
 refine F1 [1] Tryz.func71 ?_
 intro b2 hb;conv=>whnf
 refine X1 (A0 ..) rfl ?_
 refine I1 (A0 ..) (A4 ..) ?_
 exact ⟨rfl,((E5.refl st).upd hb).over hb⟩
theorem B1W {l:List Int}:∀ i,i≤l.length→(∀ k,k<i→K4 (gI l k)=true)→0≤A2 (l.take i)∧A2 (l.take i)≤100000000000000 * (i:Int)
 | 0,_,_=>⟨by rw [D7d];exact D5W _,by rw [D7d];exact D5W _⟩
 | i+1,hi,h=>by
  have ih:=B1W i (by omega) fun k hk=>h k (by omega)
  have hx:=E6.1 (h i (by omega))
  rw [K7 (by omega)]
  omega
theorem B2K {b:A5k} (h:∀ k,k<5→K4 (gI (U8 b) k)=true):A5B b=true:=D5I.2 fun x hx=>by
 obtain ⟨k,hk,rfl⟩:=D3 hx
 exact h k hk
theorem B2L {b:A5k} {k:Nat} (hk:k<5) (h:K4 (gI (U8 b) k)=false):A5B b=false:=by
 rw [D6Z];intro e
 rw [D5I.1 e _ (A7 (l:=U8 b) (i:=k) hk)] at h;cases h
theorem B4G (b:A5k) (st:St):S P 20 [A5E b] st fun v st'=>v=eI (Z6 b)∧st'=st:=by
 have c1:=fun s=>B3e b s
 refine F1 [1] Tryz.func20 ?_
 refine H8 (c1 _) ?_
 refine lp 5 [3,7,8] (fun i vs s=>(∀ k,k<i→K4 (gI (U8 b) k)=true)∧vs=[eI (A2 ((U8 b).take i)),A5E b,eI i]∧s=st) ?_ ?_
 ·conv=>whnf
  exact ⟨fun k hk=>absurd hk (by omega),rfl,rfl⟩
 rintro i vs s hi ⟨hok,rfl,rfl⟩
 conv=>whnf
 cases h:decide ((i:Int)<5)
 ·obtain rfl:i=5:=by have:=D5q h;omega
  have e:Z6 b=A2 (U8 b):=by unfold Z6;rw [if_pos (B2K hok)]
  rw [e];conv=>whnf
  exact ⟨rfl,rfl⟩
 have hi':i<5:=by have:=D5o h;omega
 have hr:=fun s=>A4P (gI (U8 b) i) s
 have hb:=B1W (l:=U8 b) i (by show i≤5;omega) hok
 have hn:=K7 (l:=U8 b) (i:=i) hi'
 have hw:K4 (gI (U8 b) i)=true→IntKind.i64.wrap (A2 ((U8 b).take i)+gI (U8 b) i)=A2 ((U8 b).take (i+1)):=fun hm=>by
  have hx:=E6.1 hm
  rw [hn];exact A5 (by omega) (by omega)
 have yes:K4 (gI (U8 b) i)=true→∀ k,k<i+1→K4 (gI (U8 b) k)=true:=fun hm=>H4 hok hm
 have no:K4 (gI (U8 b) i)=false→Z6 b=0:=fun hm=>by unfold Z6;rw [B2L hi' hm];rfl
 generalize A2 ((U8 b).take i)=Z at *
 generalize hY:A2 ((U8 b).take (i+1))=Y at *
 generalize K4 (gI (U8 b) i)=m at hr hw yes no
 clear hn hok hb h hi
 conv=>whnf
 rcases (by omega:i=0∨i=1∨i=2∨i=3∨i=4) with rfl | rfl | rfl | rfl | rfl
 all_goals
  refine ⟨⟨rfl,Nat.le_of_ble_eq_true rfl,by omega,by omega⟩,?_⟩;conv=>whnf
  refine B4 (hr _) ?_
  cases m
  ·conv=>whnf
   rw [no rfl]
   exact ⟨rfl,rfl⟩
  ·conv=>whnf
   refine F8 ?_
   exact nx hi' ⟨yes rfl,by rw [hY,←hw rfl,B3 (by omega)];rfl,rfl⟩
theorem C5E (o:U0) (st:St):S P 69 [U4 o] st fun v st'=>v=.bool (A5A o)∧st'=st:=by
 have c1:=fun s=>B3e o.book s
 have c2:=fun s=>B4G o.book s
 refine F1 [1] Tryz.func69 ?_
 refine H8 (c1 _) ?_
 refine lp 5 [1,8,9] (fun i vs s=>(∀ k,k<i→K4 (gI (U8 o.book) k)=true)∧vs=[.fptr (U4 o) 0,A5E o.book,eI i]∧s=st) ?_ ?_
 ·conv=>whnf
  exact ⟨fun k hk=>absurd hk (by omega),rfl,rfl⟩
 rintro i vs s hi ⟨hok,rfl,rfl⟩
 conv=>whnf
 cases h:decide ((i:Int)<5)
 ·obtain rfl:i=5:=by have:=D5q h;omega
  have e:A5A o=(Z6 o.book==o.net):=by unfold A5A;rw [B2K hok];rfl
  rw [e]
  generalize Z6 o.book=Z at *
  conv=>whnf
  refine ⟨[],[],List.range 9,by kernel_rfl,?_⟩;conv=>whnf
  refine cqW (c2 _) ?_
  exact ⟨rfl,rfl⟩
 have hi':i<5:=by have:=D5o h;omega
 have hr:=fun s=>A4P (gI (U8 o.book) i) s
 have yes:K4 (gI (U8 o.book) i)=true→∀ k,k<i+1→K4 (gI (U8 o.book) k)=true:=fun hm=>H4 hok hm
 have no:K4 (gI (U8 o.book) i)=false→A5A o=false:=fun hm=>by unfold A5A;rw [B2L hi' hm];rfl
 generalize K4 (gI (U8 o.book) i)=m at hr yes no
 clear hok h hi c2
 conv=>whnf
 rcases (by omega:i=0∨i=1∨i=2∨i=3∨i=4) with rfl | rfl | rfl | rfl | rfl
 all_goals
  refine ⟨⟨rfl,Nat.le_of_ble_eq_true rfl,by omega,by omega⟩,?_⟩;conv=>whnf
  refine B4 (hr _) ?_
  cases m
  ·conv=>whnf
   rw [no rfl]
   exact ⟨rfl,rfl⟩
  ·conv=>whnf
   refine F8 ?_
   exact nx hi' ⟨yes rfl,by rw [B3 (by omega)],rfl⟩
theorem B3u {x:A2p} (h:tenderB x=true):0≤x.taken - x.given∧x.taken - x.given≤100000000000000∧0≤x.taken∧x.taken≤100000000000000∧0≤x.given:=by
 unfold tenderB K4 at h
 simp only [D5r,E6] at h
 omega
theorem B2Y {l:List A2p} {i:Nat} (hi:i<l.length):A2g (l.take (i+1))=A2g (l.take i)+((l.getD i default).taken - (l.getD i default).given):=I6 hi _ _
theorem B9a {l:List A2p}:∀ i,i≤l.length→(∀ k,k<i→tenderB (l.getD k default)=true)→0≤A2g (l.take i)∧A2g (l.take i)≤100000000000000 * (i:Int)
 | 0,_,_=>⟨by rw [D7d];exact D5W _,by rw [D7d];exact D5W _⟩
 | i+1,hi,h=>by
  have ih:=B9a i (by omega) fun k hk=>h k (by omega)
  have hx:=B3u (h i (by omega))
  rw [B2Y (by omega)]
  omega
theorem B6B {l:List A2p} (h:∀ k,k<l.length→tenderB (l.getD k default)=true):l.all tenderB=true:=D5I.2 fun x hx=>by
 obtain ⟨k,hk,rfl⟩:=D3 hx;exact h k hk
theorem B8s {l:List A2p} {k:Nat} (hk:k<l.length) (h:tenderB (l.getD k default)=false):l.all tenderB=false:=by
 rw [D6Z];intro e
 rw [D5I.1 e _ (A7 hk)] at h;cases h
theorem B8r {b1 b2:Bool} {t g:Int} (h:b1=true∧b2=true∧0≤g∧g≤t):(b1&&b2&&(decide (g≥0)&&decide (g≤t)))=true:=by
 simp only [D5r,D5n]
 exact ⟨⟨h.1,h.2.1⟩,h.2.2⟩
theorem B7F (o:U0) (h6:o.tenders.length≤6) (st:St):S P 70 [U4 o] st fun v st'=>v=.bool (A0h o)∧st'=st:=by
 refine F1 [1,5] Tryz.func70 ?_
 refine lp o.tenders.length [1,3,8,9,10] (fun i vs s=>(∀ k,k<i→tenderB (o.tenders.getD k default)=true)∧vs=[.fptr (U4 o) 0,eI (A2g (o.tenders.take i)),A6 3 A1W o.tenders,eI o.tenders.length,eI i]∧s=st) ?_ ?_
 ·conv=>whnf
  exact ⟨fun k hk=>absurd hk (by omega),rfl,rfl⟩
 rintro i vs s hi ⟨hok,rfl,rfl⟩
 conv=>whnf
 cases h:decide ((i:Int)<(o.tenders.length:Int))
 ·obtain rfl:=C5 h hi
  have e:A0h o=(decide ((o.tenders.length:Int)≤6)&&(A2g o.tenders==o.net)):=by unfold A0h;rw [B6B hok];rfl
  rw [e,D5w]
  generalize A2g o.tenders=Z
  conv=>whnf
  refine B8 (fun h=>?_) (fun h=>?_)<;>rw [h]
  all_goals
   conv=>whnf
   exact ⟨rfl,rfl⟩
 have hi':=D9 h
 have n1:=fun s=>B7q (o.tenders.getD (i:Int).toNat default).kind s
 have n2:=fun s=>A4P (o.tenders.getD (i:Int).toNat default).taken s
 have hx:tenderB (o.tenders.getD (i:Int).toNat default)=(O6 1 9 (o.tenders.getD (i:Int).toNat default).kind&&K4 (o.tenders.getD (i:Int).toNat default).taken&&(decide ((o.tenders.getD (i:Int).toNat default).given≥0)&&decide ((o.tenders.getD (i:Int).toNat default).given≤(o.tenders.getD (i:Int).toNat default).taken))):=rfl
 have hb:=B9a i hi hok
 have hw:tenderB (o.tenders.getD (i:Int).toNat default)=true→IntKind.i64.wrap (A2g (o.tenders.take i)+IntKind.i64.wrap ((o.tenders.getD (i:Int).toNat default).taken - (o.tenders.getD (i:Int).toNat default).given))=A2g (o.tenders.take (i+1)):=fun hm=>by
  have hx:=B3u hm
  have h4:=B2Y hi'
  rw [A5 (x:=(o.tenders.getD (i:Int).toNat default).taken - (o.tenders.getD (i:Int).toNat default).given) (by omega) (by omega)]
  have e:A2g (o.tenders.take (i+1))=A2g (o.tenders.take i)+((o.tenders.getD (i:Int).toNat default).taken - (o.tenders.getD (i:Int).toNat default).given):=h4
  rw [e];exact A5 (by omega) (by omega)
 have yes:tenderB (o.tenders.getD (i:Int).toNat default)=true→∀ k,k<i+1→tenderB (o.tenders.getD k default)=true:=fun hm=>H4 hok hm
 have no:tenderB (o.tenders.getD (i:Int).toNat default)=false→A0h o=false:=fun hm=>by unfold A0h;rw [B8s hi' hm];rfl
 generalize tenderB (o.tenders.getD (i:Int).toNat default)=t at hx hw yes no
 generalize hY:A2g (o.tenders.take (i+1))=Y at hw
 generalize A2g (o.tenders.take i)=Z at hw hb ⊢
 clear hok hb
 conv=>whnf
 refine ⟨rfl,⟨by omega,by omega⟩,?_⟩
 generalize O6 1 9 (o.tenders.getD (i:Int).toNat default).kind=b1 at *
 generalize K4 (o.tenders.getD (i:Int).toNat default).taken=b2 at *
 cases t with
 | true =>
  have hx:=hx.symm
  simp only [D5r,D5n] at hx
  obtain ⟨⟨rfl,rfl⟩,e3,e4⟩:=hx
  have g1:decide ((o.tenders.getD (i:Int).toNat default).given<0)=false:=D5t (by omega)
  have g2:decide ((o.tenders.getD (i:Int).toNat default).given>(o.tenders.getD (i:Int).toNat default).taken)=false:=D5t (by omega)
  repeat' ((conv=>whnf);first | refine B4 (n1 _) ?_ | refine B4 (n2 _) ?_ | rw [g1] | rw [g2])
  refine F8 ?_
  exact nx hi' ⟨yes rfl,by rw [hY,←hw rfl,B3 (by omega)],rfl⟩
 | false =>
  repeat' ((conv=>whnf);first | refine B4 (n1 _) ?_ | refine B4 (n2 _) ?_ | (refine B8 (fun h=>?_) (fun h=>?_)<;>rw [h]))
  all_goals first
   | (exfalso
      simp only [D5F,D5T,D5n,D5m] at *
      have:=B8r (b1:=b1) (b2:=b2) (t:=(o.tenders.getD (i:Int).toNat default).taken) (g:=(o.tenders.getD (i:Int).toNat default).given) ⟨by assumption,by assumption,by omega,by omega⟩
      rw [←hx] at this;cases this;done)
   | (conv=>whnf
      rw [no rfl]
      exact ⟨rfl,rfl⟩)
theorem B1B (o:U0) (hs:B2C o) (st:St):S P 19 [U4 o] st fun v st'=>v=.bool (A2v o)∧st'=st:=by
 have n1:=fun s=>C5F o hs s
 have n2:=fun s=>C3g o hs s
 have n3:=fun s=>B7D o s
 have n4:=fun s=>C5E o s
 have n5:=fun h6 s=>B7F o h6 s
 have hB:A2v o=(decide ((o.tenders.length:Int)≤6)&&A9A o&&A4O o&&A1p o&&A5A o&&A0h o):=rfl
 generalize A9A o=b1 at *
 generalize A4O o=b2 at *
 generalize A1p o=b3 at *
 generalize A5A o=b4 at *
 generalize A0h o=b5 at *
 refine F1 [1,3] Tryz.func19 ?_
 refine B8 (fun h=>?_) (fun h=>?_)<;>rw [h]<;>simp only [D5n,D5m] at h
 ·rw [D5t (by omega)] at hB
  rw [hB];conv=>whnf
  exact ⟨rfl,rfl⟩
 rw [D5U (by omega),D5C] at hB
 have n5:=n5 (by omega)
 conv=>whnf
 refine lp 5 [22,23,24] (fun i vs s=>((0<i→b1=true)∧(1<i→b2=true)∧(2<i→b3=true)∧(3<i→b4=true)∧(4<i→b5=true))∧(∃ F:Nat→AV,F 0=.fn (.func 66) [U4 o] []∧F 1=.fn (.func 67) [U4 o] []∧F 2=.fn (.func 68) [U4 o] []∧F 3=.fn (.func 69) [U4 o] []∧F 4=.fn (.func 70) [U4 o] []∧vs=[.arr 1 5 F,eI 5,eI i])∧s=st) ?_ ?_
 ·conv=>whnf
  exact ⟨⟨fun h=>absurd h (by omega),fun h=>absurd h (by omega),fun h=>absurd h (by omega),fun h=>absurd h (by omega),fun h=>absurd h (by omega)⟩,⟨_,rfl,rfl,rfl,rfl,rfl,rfl⟩,rfl⟩
 rintro i vs s hi ⟨⟨g1,g2,g3,g4,g5⟩,⟨F,f0,f1,f2,f3,f4,rfl⟩,rfl⟩
 conv=>whnf
 cases h5:decide ((i:Int)<5)
 ·have h5:=D5q h5
  rw [g1 (by omega),g2 (by omega),g3 (by omega),g4 (by omega),g5 (by omega)] at hB
  rw [hB];conv=>whnf
  exact ⟨rfl,rfl⟩
 have hi':i<5:=by have:=D5o h5;omega
 conv=>whnf
 refine ⟨rfl,⟨by omega,by omega⟩,?_⟩
 rcases (by omega:i=0∨i=1∨i=2∨i=3∨i=4) with rfl | rfl | rfl | rfl | rfl
 case' inl=>rw [show F ((0:Nat):Int).toNat=_ from f0]
 case' inr.inl=>rw [show F ((1:Nat):Int).toNat=_ from f1]
 case' inr.inr.inl=>rw [show F ((2:Nat):Int).toNat=_ from f2]
 case' inr.inr.inr.inl=>rw [show F ((3:Nat):Int).toNat=_ from f3]
 case' inr.inr.inr.inr=>rw [show F ((4:Nat):Int).toNat=_ from f4]
 all_goals
  conv=>whnf
  first | refine B4 (n1 _) ?_ | refine B4 (n2 _) ?_ | refine B4 (n3 _) ?_ | refine B4 (n4 _) ?_ | refine B4 (n5 _) ?_
  conv=>whnf
  refine B8 (fun h6=>?_) (fun h6=>?_)<;>rw [h6]
  ·rw [D5F] at h6
   rw [h6] at hB
   simp only [D5K,D5R] at hB
   rw [hB];conv=>whnf
   exact ⟨rfl,rfl⟩
  ·rw [D5T] at h6;conv=>whnf
   refine F8 ?_
   exact nx hi' ⟨⟨fun _=>by first | exact h6 | exact g1 (by omega),fun h=>by first | exact h6 | exact g2 (by omega) | omega,fun h=>by first | exact h6 | exact g3 (by omega) | omega,fun h=>by first | exact h6 | exact g4 (by omega) | omega,fun h=>by first | exact h6 | exact g5 (by omega) | omega⟩,⟨F,f0,f1,f2,f3,f4,by rw [B3 (by omega)]⟩,rfl⟩
theorem C3L (l:List A2b) (hl:Sm l.length) (hs:∀ x∈l,A1U x.scope) (st:St):S P 240 [A6 3 U9 l] st fun v st'=>v=.bool (L0 l (fun _ x=>A0P x)&&(decide ((l.length:Int)≥1)&&decide ((l.length:Int)≤3)))∧st'=st:=by
 refine F1 [] Tryz.func240 ?_
 refine lp l.length [0,3] (fun i vs st'=>(∀ k,k<i→A0P (l.getD k default)=true)∧vs=[A6 3 U9 l,eI i]∧st'=st) ?_ ?_
 ·conv=>whnf
  exact ⟨fun k hk=>absurd hk (by omega),rfl,rfl⟩
 ·rintro i vs st' hi ⟨hok,rfl,rfl⟩
  conv=>whnf
  cases h:decide ((i:Int)<(l.length:Int))
  ·obtain rfl:=C5 h hi
   rw [K6 hok,D5C];conv=>whnf
   refine B8 (fun h=>?_) (fun h=>?_)<;>rw [h]<;>(conv=>whnf)<;>exact ⟨rfl,rfl⟩
  ·have hi':=D9 h
   have yes:A0P (l.getD (i:Int).toNat default)=true→∀ k,k<i+1→A0P (l.getD k default)=true:=fun h=>H4 hok h
   have no:A0P (l.getD (i:Int).toNat default)=false→L0 l (fun _ x=>A0P x)=false:=fun h=>V7 (p:=fun _ x=>A0P x) hi' h
   have n1:=B6a (l.getD (i:Int).toNat default).scope (hs _ (A7 hi')) st'
   rw [show A0P (l.getD (i:Int).toNat default)=(A0g (l.getD (i:Int).toNat default).scope&&!(decide ((l.getD (i:Int).toNat default).count<1)||decide ((l.getD (i:Int).toNat default).count>100))) from rfl] at yes no
   generalize A0g (l.getD (i:Int).toNat default).scope=b1 at n1 yes no
   repeat' ((conv=>whnf);first | refine ⟨rfl,⟨by omega,by omega⟩,?_⟩ | refine B4 n1 ?_ | cases b1 | (refine B8 (fun h=>?_) (fun h=>?_)<;>rw [h]))
   all_goals (conv=>whnf)
   all_goals first
    | (rw [no (by simp only [*,D6f,D6c,D6a,D5R,D5K])];exact ⟨rfl,rfl⟩)
    | (refine ⟨rfl,?_⟩;conv=>whnf
       exact nx hi' ⟨yes (by simp only [*,D6d,D5S,D6g]),by rw [B3 (by omega)],rfl⟩)
theorem B6g (l:List Int) (hl:Sm l.length) (st:St):S P 137 [B0 l] st fun v st'=>v=.bool (A1a l)∧st'=st:=by
 refine F1 [] Tryz.func137 ?_
 refine lp l.length [0,3] (fun i vs st'=>(∀ k,k<i→A2t l k (l.getD k default)=true)∧vs=[B0 l,eI i]∧st'=st) ?_ ?_
 ·conv=>whnf
  exact ⟨fun k hk=>absurd hk (by omega),rfl,rfl⟩
 ·rintro i vs st' hi ⟨hok,rfl,rfl⟩
  conv=>whnf
  cases h:decide ((i:Int)<(l.length:Int))
  ·obtain rfl:=C5 h hi
   conv=>whnf
   exact ⟨by rw [show A1a l=true from K6 hok];rfl,rfl⟩
  ·have hi':=D9 h
   have yes:A2t l i (l.getD (i:Int).toNat default)=true→∀ k,k<i+1→A2t l k (l.getD k default)=true:=fun h=>H4 hok h
   have no:A2t l i (l.getD (i:Int).toNat default)=false→A1a l=false:=fun h=>V7 hi' h
   rw [show A2t l i (l.getD (i:Int).toNat default)=!(!(decide ((l.getD (i:Int).toNat default)≥1)&&decide ((l.getD (i:Int).toNat default)≤9))||(l.take i).any fun y=>l.getD (i:Int).toNat default==y) from rfl] at yes no
   have no':(decide ((l.getD (i:Int).toNat default)≥1)&&decide ((l.getD (i:Int).toNat default)≤9))=false→A1a l=false:=fun h=>no (by rw [h];rfl)
   repeat' ((conv=>whnf);first | refine ⟨rfl,⟨by omega,by omega⟩,?_⟩ | (refine B8 (fun h=>?_) (fun h=>?_)<;>rw [h]))
   all_goals (conv=>whnf)
   ·rw [no' (by rw [D7t,D5m,D5m];simp only [D5n,D5m] at *;omega)];exact ⟨rfl,rfl⟩
   ·rw [no' (by rw [D7t,D5m,D5m];simp only [D5n,D5m] at *;omega)];exact ⟨rfl,rfl⟩
   have hk:(decide ((l.getD (i:Int).toNat default)≥1)&&decide ((l.getD (i:Int).toNat default)≤9))=true:=by rw [D5r,D5n,D5n];simp only [D5n,D5m] at *;omega
   rw [hk] at yes no
   refine lp i [0,3,4] (fun j vs s=>(∀ k,k<j→(l.getD k default==l.getD i default)=false)∧vs=[B0 l,eI i,eI j]∧s=st') ?_ ?_
   ·conv=>whnf
    exact ⟨fun k hk=>absurd hk (by omega),rfl,rfl⟩
   ·rintro j vs s hj ⟨hokj,rfl,rfl⟩
    conv=>whnf
    cases h:decide ((j:Int)<(i:Int))
    ·obtain rfl:=C5 h hj
     conv=>whnf
     refine F8 ?_
     refine nx hi' ⟨yes ?_,by rw [B3 (by omega)],rfl⟩
     rw [D6r.2 fun x hx=>?_];rfl
     obtain ⟨k,hk2,rfl⟩:=D3 hx
     rw [D5v] at hk2
     have h4:=hokj k (by omega)
     rw [D5y,show (l.take j).getD k default=l.getD k default by rw [D5l,D5l,D5z (by omega)],D8t,h4];simp
    ·have hj':=D9 h
     conv=>whnf
     refine ⟨[],[],List.range 9,by kernel_rfl,?_⟩;conv=>whnf
     refine E4 ?_
     refine E4 ?_
     refine B8 (fun h1=>?_) (fun h1=>?_)<;>rw [h1]
     ·conv=>whnf
      refine ⟨?_,rfl⟩
      rw [no ?_];rfl
      rw [D6Q.2 ⟨l.getD j default,?_,?_⟩];rfl
      ·rw [List.mem_take_iff_getElem]
       exact ⟨j,by omega,by simp [show j<l.length by omega]⟩
      ·rw [D8t];exact h1
     ·conv=>whnf
      refine F8 ?_
      exact nx hj' ⟨H4 hokj h1,by rw [B3 (by omega)],rfl⟩
structure B6P (z:K2):Prop where
 n:Sm z.rates.length
 s:Sm z.name.size
 r:∀ x∈z.rates,Sm x.cat.size
def A3L (l:List G4) (k:Nat) (x:G4):Bool:=D2 x.cat&&O6 0 10000 x.rate&&O5 (l.map G4.cat) k
def B2i (z:K2):Bool:=L0 z.rates (A3L z.rates)&&(decide ((z.rates.length:Int)≤40)&&O6 0 10000 z.rest&&O6 0 10000 z.ship)
theorem C3M (z:K2) (hz:B6P z) (st:St):S P 195 [R8 z] st fun v st'=>v=.bool (B2i z)∧st'=st:=by
 rw [show B2i z=(L0 z.rates (A3L z.rates)&&(decide ((z.rates.length:Int)≤40)&&O6 0 10000 z.rest&&O6 0 10000 z.ship)) from rfl]
 refine F1 [1] Tryz.func195 ?_
 refine lp z.rates.length [1,3] (fun i vs st'=>(∀ k,k<i→A3L z.rates k (z.rates.getD k default)=true)∧vs=[.fptr (R8 z) 0,eI i]∧st'=st) ?_ ?_
 ·conv=>whnf
  exact ⟨fun k hk=>absurd hk (by omega),rfl,rfl⟩
 ·rintro i vs st' hi ⟨hok,rfl,rfl⟩
  conv=>whnf
  cases h:decide ((i:Int)<(z.rates.length:Int))
  ·obtain rfl:=C5 h hi
   rw [show L0 z.rates (A3L z.rates)=true from K6 hok,D5C];conv=>whnf
   cases hd:decide ((z.rates.length:Int)≤40)
   ·conv=>whnf
    exact ⟨rfl,rfl⟩
   ·conv=>whnf
    refine H8 (A2D z.rest 10000 _) ?_
    cases O6 0 10000 z.rest
    ·conv=>whnf
     exact ⟨rfl,rfl⟩
    ·conv=>whnf
     refine H8 (A2D z.ship 10000 _) ?_
     exact ⟨rfl,rfl⟩
  ·have hi':=D9 h
   have yes:A3L z.rates i (z.rates.getD (i:Int).toNat default)=true→∀ k,k<i+1→A3L z.rates k (z.rates.getD k default)=true:=fun h=>H4 hok h
   have no:A3L z.rates i (z.rates.getD (i:Int).toNat default)=false→L0 z.rates (A3L z.rates)=false:=fun h=>V7 hi' h
   have hl:=hz.n
   have hm:=hz.r _ (A7 hi')
   have n1:=A3C (z.rates.getD (i:Int).toNat default).cat hm st'
   have n2:=A2D (z.rates.getD (i:Int).toNat default).rate 10000 st'
   have e:0<i→O5 (z.rates.map G4.cat) i=!(Op.bytesLess (z.rates.getD i default).cat.toList (z.rates.getD (i - 1) default).cat.toList||(z.rates.getD i default).cat.toList==(z.rates.getD (i - 1) default).cat.toList):=fun hp=>by
    rw [B4o hp]
    have e1:(z.rates.map G4.cat).getD i default=(z.rates.getD i default).cat:=D4 G4.cat z.rates hi'
    have e2:(z.rates.map G4.cat).getD (i - 1) default=(z.rates.getD (i - 1) default).cat:=D4 G4.cat z.rates (by omega)
    rw [e1,e2]
   have e0:i=0→O5 (z.rates.map G4.cat) i=true:=fun h=>by rw [h];rfl
   rw [show A3L z.rates i (z.rates.getD (i:Int).toNat default)=(D2 (z.rates.getD (i:Int).toNat default).cat&&O6 0 10000 (z.rates.getD (i:Int).toNat default).rate&&O5 (z.rates.map G4.cat) i) from rfl] at yes no
   generalize D2 (z.rates.getD (i:Int).toNat default).cat=b1 at n1 yes no
   generalize O6 0 10000 (z.rates.getD (i:Int).toNat default).rate=b2 at n2 yes no
   conv=>whnf
   refine ⟨[],[],List.range 38,by kernel_rfl,?_⟩
   cases h0:decide ((i:Int)>0)
   ·replace e:=e0 (by have:=D5q h0;omega)
    repeat' ((conv=>whnf);first | refine ⟨rfl,⟨by omega,by omega⟩,?_⟩ | refine ⟨_,I5 n1,?_⟩ | refine ⟨_,I5 n2,?_⟩ | rw [h0] | cases b1 | cases b2)
    all_goals (conv=>whnf)
    all_goals first
     | (rw [no (by rfl)];exact ⟨rfl,rfl⟩)
     | (refine ⟨rfl,?_⟩;conv=>whnf
        exact nx hi' ⟨yes (by rw [e];rfl),by rw [B3 (by omega)],rfl⟩)
   ·have h0':0<i:=by have:=D5o h0;omega
    replace e:=e h0'
    have hw:=A7b h0' (by omega)
    repeat' ((conv=>whnf);first | refine ⟨rfl,⟨by omega,by omega⟩,?_⟩ | refine ⟨rfl,⟨by rw [hw];omega,by rw [hw];omega⟩,?_⟩ | refine ⟨_,I5 n1,?_⟩ | refine ⟨_,I5 n2,?_⟩ | rw [h0] | cases b1 | cases b2 | refine B8 (fun h=>?_) (fun h=>?_))
    all_goals (conv=>whnf)
    all_goals first
     | (rw [no (by rfl)];exact ⟨rfl,rfl⟩)
     | (rw [hw] at h;rw [no (by rw [e];exact D7l not h)];exact ⟨rfl,rfl⟩)
     | (rw [hw] at h;refine ⟨rfl,?_⟩;conv=>whnf
        exact nx hi' ⟨yes (by rw [e];exact D7l not h),by rw [B3 (by omega)],rfl⟩)
def A3R (l:List K2) (k:Nat) (x:K2):Bool:=D2 x.name&&B2i x&&O5 (l.map K2.name) k
structure B2D (x:Tax):Prop where
 n:Sm x.zones.length
 z:∀ z∈x.zones,B6P z
def C6o (x:Tax):Bool:=L0 x.zones (A3R x.zones)&&(decide ((x.zones.length:Int)≤20)&&decide (x.round≥0)&&decide (x.round≤2))
theorem C5Y (x:Tax) (hx:B2D x) (st:St):S P 135 [R5 x] st fun v st'=>v=.bool (C6o x)∧st'=st:=by
 rw [show C6o x=(L0 x.zones (A3R x.zones)&&(decide ((x.zones.length:Int)≤20)&&decide (x.round≥0)&&decide (x.round≤2))) from rfl]
 refine F1 [1] Tryz.func135 ?_
 refine lp x.zones.length [1,3] (fun i vs st'=>(∀ k,k<i→A3R x.zones k (x.zones.getD k default)=true)∧vs=[.fptr (R5 x) 0,eI i]∧st'=st) ?_ ?_
 ·conv=>whnf
  exact ⟨fun k hk=>absurd hk (by omega),rfl,rfl⟩
 ·rintro i vs st' hi ⟨hok,rfl,rfl⟩
  conv=>whnf
  cases h:decide ((i:Int)<(x.zones.length:Int))
  ·obtain rfl:=C5 h hi
   rw [show L0 x.zones (A3R x.zones)=true from K6 hok,D5C];conv=>whnf
   refine B8 (fun h=>?_) (fun h=>?_)<;>rw [h]
   ·conv=>whnf
    refine B8 (fun h=>?_) (fun h=>?_)<;>rw [h]<;>(conv=>whnf)<;>exact ⟨rfl,rfl⟩
   ·conv=>whnf
    exact ⟨rfl,rfl⟩
  ·have hi':=D9 h
   have yes:A3R x.zones i (x.zones.getD (i:Int).toNat default)=true→∀ k,k<i+1→A3R x.zones k (x.zones.getD k default)=true:=fun h=>H4 hok h
   have no:A3R x.zones i (x.zones.getD (i:Int).toNat default)=false→L0 x.zones (A3R x.zones)=false:=fun h=>V7 hi' h
   have hl:=hx.n
   have hm:=hx.z _ (A7 hi')
   have n1:=A3C (x.zones.getD (i:Int).toNat default).name hm.s st'
   have n2:=C3M (x.zones.getD (i:Int).toNat default) hm st'
   have e:0<i→O5 (x.zones.map K2.name) i=!(Op.bytesLess (x.zones.getD i default).name.toList (x.zones.getD (i - 1) default).name.toList||(x.zones.getD i default).name.toList==(x.zones.getD (i - 1) default).name.toList):=fun hp=>by
    rw [B4o hp]
    have e1:(x.zones.map K2.name).getD i default=(x.zones.getD i default).name:=D4 K2.name x.zones hi'
    have e2:(x.zones.map K2.name).getD (i - 1) default=(x.zones.getD (i - 1) default).name:=D4 K2.name x.zones (by omega)
    rw [e1,e2]
   have e0:i=0→O5 (x.zones.map K2.name) i=true:=fun h=>by rw [h];rfl
   rw [show A3R x.zones i (x.zones.getD (i:Int).toNat default)=(D2 (x.zones.getD (i:Int).toNat default).name&&B2i (x.zones.getD (i:Int).toNat default)&&O5 (x.zones.map K2.name) i) from rfl] at yes no
   generalize D2 (x.zones.getD (i:Int).toNat default).name=b1 at n1 yes no
   generalize B2i (x.zones.getD (i:Int).toNat default)=b2 at n2 yes no
   conv=>whnf
   refine ⟨[],[],List.range 37,by kernel_rfl,?_⟩
   cases h0:decide ((i:Int)>0)
   ·replace e:=e0 (by have:=D5q h0;omega)
    repeat' ((conv=>whnf);first | refine ⟨rfl,⟨by omega,by omega⟩,?_⟩ | refine ⟨_,I5 n1,?_⟩ | refine ⟨_,I5 n2,?_⟩ | rw [h0] | cases b1 | cases b2)
    all_goals (conv=>whnf)
    all_goals first
     | (rw [no (by rfl)];exact ⟨rfl,rfl⟩)
     | (refine ⟨rfl,?_⟩;conv=>whnf
        exact nx hi' ⟨yes (by rw [e];rfl),by rw [B3 (by omega)],rfl⟩)
   ·have h0':0<i:=by have:=D5o h0;omega
    replace e:=e h0'
    have hw:=A7b h0' (by omega)
    repeat' ((conv=>whnf);first | refine ⟨rfl,⟨by omega,by omega⟩,?_⟩ | refine ⟨rfl,⟨by rw [hw];omega,by rw [hw];omega⟩,?_⟩ | refine ⟨_,I5 n1,?_⟩ | refine ⟨_,I5 n2,?_⟩ | rw [h0] | cases b1 | cases b2 | refine B8 (fun h=>?_) (fun h=>?_))
    all_goals (conv=>whnf)
    all_goals first
     | (rw [no (by rfl)];exact ⟨rfl,rfl⟩)
     | (rw [hw] at h;rw [no (by rw [e];exact D7l not h)];exact ⟨rfl,rfl⟩)
     | (rw [hw] at h;refine ⟨rfl,?_⟩;conv=>whnf
        exact nx hi' ⟨yes (by rw [e];exact D7l not h),by rw [B3 (by omega)],rfl⟩)
theorem C4A (z:K2):(D2 z.name&&B2i z)=X3 z:=by
 unfold B2i X3 L0 A0f A3L A4m O6
 rw [D5p,←D7u]
 simp only [D5r,D5I,D5B,D5F,D6z,D5T,D5n,D5m]
 constructor
 ·rintro ⟨h0,h1,⟨h2,h3⟩,h4⟩
  exact ⟨⟨⟨⟨h0,h3⟩,h4⟩,by omega⟩,fun k hk=>(h1 k hk).1,fun k hk=>(h1 k hk).2⟩
 ·rintro ⟨⟨⟨⟨h0,h3⟩,h4⟩,h2⟩,h1,h5⟩
  exact ⟨h0,fun k hk=>⟨h1 k hk,h5 k hk⟩,⟨by omega,h3⟩,h4⟩
theorem C6p (x:Tax):C6o x=taxC x:=by
 unfold C6o taxC
 rw [←D7u]
 unfold L0 A0f A3R
 rw [D5p]
 simp only [C4A,D5r,D5I,D5B,D5F,D6z,D5T,D5n,D5m]
 constructor
 ·rintro ⟨h1,⟨h2,h3⟩,h4⟩
  exact ⟨⟨⟨by omega,by omega⟩,by omega⟩,fun k hk=>(h1 k hk).1,fun k hk=>(h1 k hk).2⟩
 ·rintro ⟨⟨⟨h3,h4⟩,h2⟩,h1,h5⟩
  exact ⟨fun k hk=>⟨h1 k hk,h5 k hk⟩,⟨by omega,by omega⟩,by omega⟩
theorem C3E (x:Tax) (hx:B2D x) (st:St):S P 135 [R5 x] st fun v st'=>v=.bool (taxC x)∧st'=st:=by
 rw [←C6p];exact C5Y x hx st
def A2R (l:List A0L) (k:Nat) (x:A0L):Bool:=O6 0 10000000000000 x.least&&O6 0 10000 x.rate&&O6 0 10000000000000 x.amount&&!(x.rate==0&&x.amount==0)&&(k==0||!decide (x.least≤(l.getD (k - 1) default).least))
theorem C3N (l:List A0L) (hl:Sm l.length) (st:St):S P 241 [A6 3 R1 l] st fun v st'=>v=.bool (L0 l (A2R l)&&(decide ((l.length:Int)≥1)&&decide ((l.length:Int)≤6)))∧st'=st:=by
 refine F1 [4] Tryz.func241 ?_
 refine lp l.length [0,3] (fun i vs st'=>(∀ k,k<i→A2R l k (l.getD k default)=true)∧vs=[A6 3 R1 l,eI i]∧st'=st) ?_ ?_
 ·conv=>whnf
  exact ⟨fun k hk=>absurd hk (by omega),rfl,rfl⟩
 ·rintro i vs st' hi ⟨hok,rfl,rfl⟩
  conv=>whnf
  cases h:decide ((i:Int)<(l.length:Int))
  ·obtain rfl:=C5 h hi
   rw [K6 hok,D5C];conv=>whnf
   refine B8 (fun h=>?_) (fun h=>?_)<;>rw [h]<;>(conv=>whnf)<;>exact ⟨rfl,rfl⟩
  ·have hi':=D9 h
   have yes:A2R l i (l.getD (i:Int).toNat default)=true→∀ k,k<i+1→A2R l k (l.getD k default)=true:=fun h=>H4 hok h
   have no:A2R l i (l.getD (i:Int).toNat default)=false→L0 l (A2R l)=false:=fun h=>V7 hi' h
   have n1:=A2D (l.getD (i:Int).toNat default).least 10000000000000 st'
   have n2:=A2D (l.getD (i:Int).toNat default).rate 10000 st'
   have n3:=A2D (l.getD (i:Int).toNat default).amount 10000000000000 st'
   have hw:=fun h=>A7b (i:=i) h (by omega)
   rw [show A2R l i (l.getD (i:Int).toNat default)=(O6 0 10000000000000 (l.getD (i:Int).toNat default).least&&O6 0 10000 (l.getD (i:Int).toNat default).rate&&O6 0 10000000000000 (l.getD (i:Int).toNat default).amount&&!((l.getD (i:Int).toNat default).rate==0&&(l.getD (i:Int).toNat default).amount==0)&&(i==0||!decide ((l.getD (i:Int).toNat default).least≤(l.getD (i - 1) default).least))) from rfl] at yes no
   generalize O6 0 10000000000000 (l.getD (i:Int).toNat default).least=b1 at n1 yes no
   generalize O6 0 10000 (l.getD (i:Int).toNat default).rate=b2 at n2 yes no
   generalize O6 0 10000000000000 (l.getD (i:Int).toNat default).amount=b3 at n3 yes no
   conv=>whnf
   refine E4 ?_
   refine ⟨[],[],List.range 41,by kernel_rfl,?_⟩
   have step:∀ b4:Bool,b4=((l.getD (i:Int).toNat default).rate==0&&(l.getD (i:Int).toNat default).amount==0)→True:=fun _ _=>trivial
   rcases D6N i with h0 | h0
   ·have h1:decide ((i:Int)>0)=false:=D5t (by omega)
    rw [show (i==0)=true from by rw [h0];rfl,D6f,D6g] at yes no
    repeat' ((conv=>whnf);first | refine ⟨rfl,⟨by omega,by omega⟩,?_⟩ | refine ⟨_,I5 n1,?_⟩ | refine ⟨_,I5 n2,?_⟩ | refine ⟨_,I5 n3,?_⟩ | rw [h1] | cases b1 | cases b2 | cases b3 | (refine B8 (fun h=>?_) (fun h=>?_)<;>rw [h] at yes no ⊢))
    all_goals (conv=>whnf)
    all_goals first
     | (rw [no (by rfl)];exact ⟨rfl,rfl⟩)
     | (refine ⟨rfl,?_⟩;conv=>whnf
        exact nx hi' ⟨yes (by rfl),by rw [B3 (by omega)],rfl⟩)
   ·have h1:decide ((i:Int)>0)=true:=D5U (by omega)
    rw [show (i==0)=false from D7b (by omega),D5Z] at yes no
    have hw:=hw h0
    repeat' ((conv=>whnf);first | refine ⟨rfl,⟨by omega,by omega⟩,?_⟩ | refine ⟨rfl,⟨by rw [hw];omega,by rw [hw];omega⟩,?_⟩ | refine ⟨_,I5 n1,?_⟩ | refine ⟨_,I5 n2,?_⟩ | refine ⟨_,I5 n3,?_⟩ | rw [h1] | cases b1 | cases b2 | cases b3 | (refine B8 (fun h=>?_) (fun h=>?_)<;>rw [h] at yes no ⊢) | (rw [hw];refine B8 (fun h=>?_) (fun h=>?_)))
    all_goals (conv=>whnf)
    all_goals first
     | (rw [no (by rfl)];exact ⟨rfl,rfl⟩)
     | (rw [no (D7l not h)];exact ⟨rfl,rfl⟩)
     | (refine ⟨rfl,?_⟩;conv=>whnf
        exact nx hi' ⟨yes (D7l not h),by rw [B3 (by omega)],rfl⟩)
theorem C1y (l:List A0L):(L0 l (A2R l)&&(decide ((l.length:Int)≥1)&&decide ((l.length:Int)≤6)))=Z2 l:=by
 unfold Z2
 rw [Bool.and_comm]
 congr 1
 ·rw [Bool.not_or];congr 1<;>(rw [←decide_not];exact D7a.2 (by omega))
 ·rw [←D7u]
  unfold L0 A2R A3Q O6
  simp only [D5r,D5I,D5B,D5F,D6z,D5T,D5n,D5m,D6t,D6k]
  constructor
  ·intro h k hk
   obtain ⟨⟨⟨⟨h1,h2⟩,h3⟩,h4⟩,h5⟩:=h k hk
   refine ⟨⟨⟨⟨⟨⟨?_,by omega⟩,by omega⟩,by omega⟩,by omega⟩,by omega⟩,h4⟩
   split
   ·omega
   ·rcases h5 with h5 | h5<;>omega
  ·intro h
   have pos:∀ k,k<l.length→0≤(l.getD k default).least:=fun k=>by
    induction k with
    | zero=>intro hk;have:=(h 0 hk).1.1.1.1.1.1;rw [if_pos rfl] at this;omega
    | succ k ih=>intro hk;have:=(h (k+1) hk).1.1.1.1.1.1;rw [if_neg (by omega),Nat.add_sub_cancel] at this;have:=ih (by omega);omega
   intro k hk
   obtain ⟨⟨⟨⟨⟨⟨h1,h2⟩,h3⟩,h4⟩,h5⟩,h6⟩,h7⟩:=h k hk
   have:=pos k hk
   refine ⟨⟨⟨⟨⟨by omega,by omega⟩,by omega,by omega⟩,by omega,by omega⟩,h7⟩,?_⟩
   by_cases h0:k=0
   ·exact .inl h0
   ·rw [if_neg h0] at h1;exact .inr h1
structure A2L (p:B1):Prop where
 id:Sm p.id.size
 group:Sm p.group.size
 code:Sm p.code.size
 scope:A1U p.scope
 parts:Sm p.parts.length
 part:∀ x∈p.parts,A1U x.scope
 tiers:Sm p.tiers.length
def A5S (l:List A2b):Bool:=L0 l (fun _ x=>A0P x)&&(decide ((l.length:Int)≥1)&&decide ((l.length:Int)≤3))
def B1s (p:B1):Bool :=
 if p.kind=1 then (decide (p.rate≥1)&&decide (p.rate≤10000))&&p.amount==0&&(p.buy==0&&p.get==0)&&(p.parts.length:Int)==0&&(p.tiers.length:Int)==0
 else if p.kind=2 then p.rate==0&&decide (p.amount≥1)&&decide (p.amount≤1000000000)&&(p.buy==0&&p.get==0)&&(p.parts.length:Int)==0&&(p.tiers.length:Int)==0
 else if p.kind=3 then (decide (p.rate≥1)&&decide (p.rate≤10000))&&p.amount==0&&decide (p.buy≥1)&&decide (p.buy≤100)&&decide (p.get≥1)&&decide (p.get≤100)&&(p.parts.length:Int)==0&&(p.tiers.length:Int)==0
 else if p.kind=4 then p.rate==0&&O6 0 10000000000000 p.amount&&(p.buy==0&&p.get==0)&&A5S p.parts&&(p.tiers.length:Int)==0&&((p.scope.skus.length:Int)==0&&(p.scope.cats.length:Int)==0)
 else if p.kind=7 then (decide (p.rate≥1)&&decide (p.rate≤10000))&&p.amount==0&&(p.buy==0&&p.get==0)&&(p.parts.length:Int)==0&&(p.tiers.length:Int)==0&&((p.scope.skus.length:Int)==0&&(p.scope.cats.length:Int)==0)&&!p.closes
 else p.rate==0&&p.amount==0&&(p.buy==0&&p.get==0)&&(p.parts.length:Int)==0&&Z2 p.tiers
theorem C0H (p:B1):(A5S p.parts&&O6 0 10000000000000 p.amount)=A6B p:=by
 unfold A5S A6B L0 O6
 rw [←D7u]
 simp only [D5r,D5I,D5B,D5F,D6z,D5n,D5m,D6r,D5T]
 constructor
 ·rintro ⟨⟨h1,h2⟩,h3⟩
  exact ⟨⟨⟨⟨by omega,by omega⟩,by omega⟩,by omega⟩,fun x hx=>by obtain ⟨k,hk,rfl⟩:=D3 hx;rw [h1 k hk];simp⟩
 ·rintro ⟨h1,h2⟩
  exact ⟨⟨fun k hk=>by have:=h2 _ (A7 hk);simpa using this,by omega⟩,by omega⟩
theorem C0N (p:B1) (hk:1≤p.kind∧p.kind≤7):B1s p=(A9b p&&A6W p):=by
 have hb:=C0H p
 unfold B1s A9b A6W A8g A8h A8i
 rw [←hb]
 rw [A3z,A3z,A3z,A3z]
 have e:(p.scope.skus.length+p.scope.cats.length==0)=(p.scope.skus.length==0&&p.scope.cats.length==0):=by
  rw [←D7u];simp only [D5r,D6k];omega
 have u:∀ m x,O6 1 m x=true→(x==0)=false:=fun m x h=>by simp only [O6,D5r,D5n] at h;exact D7b (by omega)
 have e4:A5S p.parts=true→(p.parts.length==0)=false:=fun h=>by
  simp only [A5S,D5r,D5n] at h;exact D7b (by omega)
 have e5:Z2 p.tiers=true→(p.tiers.length==0)=false:=fun h=>by
  simp only [Z2,D5r,D5F,D6z,D5m] at h;exact D7b (by omega)
 rw [e]
 rcases (by omega:p.kind=1∨p.kind=2∨p.kind=3∨p.kind=4∨p.kind=5∨p.kind=6∨p.kind=7) with h | h | h | h | h | h | h
 all_goals (rw [h];simp only [show ∀ a b:Int,(if a=b then _ else _)=_ from fun _ _=>rfl,O6,if_true,D7T,Int.reduceEq,Int.reduceBEq,D6f,D6c,D5C,D6g,D5Z,D6d,bne,D6a,D5S])
 all_goals (generalize Z2 p.tiers=b1 at *;generalize A5S p.parts=b2 at *;generalize (p.parts.length==0)=b3 at *;generalize (p.tiers.length==0)=b4 at *;generalize (p.scope.skus.length==0&&p.scope.cats.length==0)=b5;generalize (p.buy==0&&p.get==0)=b6;generalize (p.rate==0)=b7;generalize (p.amount==0)=b8;generalize decide (p.rate≥1)=b9;generalize decide (p.rate≤10000)=b10)
 all_goals first | done | ac_rfl
theorem C0M (p:B1):H0 p=(D2 p.id&&!decide (p.kind<1)&&!decide (p.kind>7)&&!decide (p.prio<0)&&!decide (p.prio>1000)&&((p.group.toList==(⟨#[]⟩:C8).toList)||D2 p.group)&&((p.code.toList==(⟨#[]⟩:C8).toList)||D2 p.code)&&A0g p.scope&&O6 0 10000000000000 p.least&&B1s p):=by
 by_cases hk:1≤p.kind∧p.kind≤7
 ·have e:O6 0 1000 p.prio=(!decide (p.prio<0)&&!decide (p.prio>1000)):=by
   unfold O6;congr 1<;>(rw [←decide_not];exact D7a.2 (by omega))
  unfold H0 A6V A2u N0
  rw [C0N p hk,e,D5U (show p.kind≥1 from hk.1),D5U (show p.kind<8 by omega),D5t (show ¬ p.kind<1 by omega),D5t (show ¬ p.kind>7 by omega)]
  simp only [D5C,D6g,D5S,Bool.and_assoc]
 ·have:H0 p=false:=by
   unfold H0
   rw [show (decide (p.kind≥1)&&decide (p.kind<8))=false from by rw [D7t,D5m,D5m];omega];rfl
  rw [this]
  by_cases h:p.kind<1
  ·rw [D5U h];simp
  ·rw [D5U (show p.kind>7 by omega)];simp
set_option maxHeartbeats 8000000 in
theorem B5Z (p:B1) (hp:A2L p) (st:St):S P 194 [B7 p] st fun v st'=>v=.bool (H0 p)∧st'=st:=by
 have n1:=A3C p.id hp.id st
 have n2:=A3C p.group hp.group st
 have n3:=A3C p.code hp.code st
 have n4:=B6a p.scope hp.scope st
 have n5:=A2D p.least 10000000000000 st
 have n6:=A2D p.amount 10000000000000 st
 have n7:=C3L p.parts hp.parts hp.part st
 have n8:=C3N p.tiers hp.tiers st
 rw [C1y] at n8
 rw [show (L0 p.parts (fun _ x=>A0P x)&&(decide ((p.parts.length:Int)≥1)&&decide ((p.parts.length:Int)≤3)))=A5S p.parts from rfl] at n7
 have hC:=C0M p
 generalize hb5:O6 0 10000000000000 p.least=b5 at *
 generalize hb6:O6 0 10000000000000 p.amount=b6 at *
 generalize hb7:A5S p.parts=b7 at *
 generalize hb8:Z2 p.tiers=b8 at *
 generalize H0 p=R at *
 clear hp hb5
 obtain ⟨id,kind,prio,group,code,closes,scope,least,rate,amount,buy,get,parts,tiers⟩:=p
 simp only at *
 generalize D2 id=b1 at *
 generalize D2 group=b2 at *
 generalize D2 code=b3 at *
 generalize A0g scope=b4 at *
 obtain ⟨H,hH⟩:∃ H:Bool,H=(b1&&!decide (kind<1)&&!decide (kind>7)&&!decide (prio<0)&&!decide (prio>1000)&&((group.toList==(⟨#[]⟩:C8).toList)||b2)&&((code.toList==(⟨#[]⟩:C8).toList)||b3)&&b4&&b5):=⟨_,rfl⟩
 rw [←hH] at hC
 obtain ⟨q,hq⟩:∃ q:B1,q=⟨id,kind,prio,group,code,closes,scope,least,rate,amount,buy,get,parts,tiers⟩:=⟨_,rfl⟩
 have hB:∀ h:buy=q.buy,True:=fun _=>trivial
 refine C1R [1] [(1,[1,67]),(3,[1,3,4,5,6,7]),(4,[1,3,4,5,6,7,8]),(5,[1,3,4,5,6,7,8,9])] C0k mixed Tryz.func194 (by rfl) rfl rfl rfl ?_;conv=>whnf
 refine ⟨fun us s=>us=[.fptr (B7 ⟨id,kind,prio,group,code,closes,scope,least,rate,amount,buy,get,parts,tiers⟩) 0,.bool (!H)]∧s=st,?_,?_⟩
 ·repeat' ((conv=>whnf);first | refine B4 n1 ?_ | refine B4 n2 ?_ | refine B4 n3 ?_ | refine B4 n4 ?_ | refine B4 n5 ?_ | refine ⟨rfl,?_⟩ | (refine B8 (fun h=>?_) (fun h=>?_)<;>rw [h]))
  all_goals (refine ⟨?_,rfl⟩;refine D7l (fun b=>[_,AV.bool b]) ?_;rw [hH];clear hH hC n1 n2 n3 n4 n5 n6 n7 n8)
  all_goals (simp only [D5F,D5T] at *;simp only [*,D5C,D5K,D6g,D5R,D6c,D6d,D6f,D5Z,D6a,D5S,D6F])
 rintro vs s ⟨rfl,rfl⟩
 conv=>whnf
 refine B8 (fun h=>?_) (fun h=>?_)<;>rw [h]
 ·conv=>whnf
  exact ⟨by rw [hC,show H=false by simpa using h];rfl,rfl⟩
 have hT:R=B1s q:=by rw [hC,show H=true by simpa using h,hq];rfl
 clear hC h n1 n2 n3 n4 n5 hH
 conv=>whnf
 refine ⟨fun us s'=>us=[.fptr (B7 ⟨id,kind,prio,group,code,closes,scope,least,rate,amount,buy,get,parts,tiers⟩) 0,.bool (rate==0),.bool (amount==0),.bool (buy==0&&get==0),.bool ((parts.length:Int)==0),.bool ((tiers.length:Int)==0)]∧s'=s,?_,?_⟩
 ·refine .inl ⟨[],[],List.range 27,by kernel_rfl,?_⟩
  repeat' ((conv=>whnf);first | refine ⟨rfl,?_⟩ | (refine B8 (fun h=>?_) (fun h=>?_)<;>rw [h]))
  all_goals rfl
 rintro vs s ⟨rfl,rfl⟩
 conv=>whnf
 refine ⟨fun us s'=>us=[.fptr (B7 ⟨id,kind,prio,group,code,closes,scope,least,rate,amount,buy,get,parts,tiers⟩) 0,.bool (rate==0),.bool (amount==0),.bool (buy==0&&get==0),.bool ((parts.length:Int)==0),.bool ((tiers.length:Int)==0),.bool ((scope.skus.length:Int)==0&&(scope.cats.length:Int)==0)]∧s'=s,?_,?_⟩
 ·repeat' ((conv=>whnf);first | refine ⟨rfl,?_⟩ | (refine B8 (fun h=>?_) (fun h=>?_)<;>rw [h]))
  all_goals rfl
 rintro vs s ⟨rfl,rfl⟩
 conv=>whnf
 refine ⟨fun us s'=>us=[.fptr (B7 ⟨id,kind,prio,group,code,closes,scope,least,rate,amount,buy,get,parts,tiers⟩) 0,.bool (rate==0),.bool (amount==0),.bool (buy==0&&get==0),.bool ((parts.length:Int)==0),.bool ((tiers.length:Int)==0),.bool ((scope.skus.length:Int)==0&&(scope.cats.length:Int)==0),.bool (decide (rate≥1)&&decide (rate≤10000))]∧s'=s,?_,?_⟩
 ·repeat' ((conv=>whnf);first | refine ⟨rfl,?_⟩ | (refine B8 (fun h=>?_) (fun h=>?_)<;>rw [h]))
  all_goals rfl
 rintro vs s ⟨rfl,rfl⟩
 subst hq
 unfold B1s at hT
 simp only [hb6,hb7,hb8] at hT
 generalize (rate==0)=a1 at *
 generalize (amount==0)=a2 at *
 generalize (buy==0&&get==0)=a3 at *
 generalize ((parts.length:Int)==0)=a4 at *
 generalize ((tiers.length:Int)==0)=a5 at *
 generalize ((scope.skus.length:Int)==0&&(scope.cats.length:Int)==0)=a6 at *
 generalize (decide (rate≥1)&&decide (rate≤10000))=a7 at *
 have hk:kind=1∨kind=2∨kind=3∨kind=4∨kind=7∨(kind≠1∧kind≠2∧kind≠3∧kind≠4∧kind≠7):=by omega
 rcases hk with rfl | rfl | rfl | rfl | rfl | ⟨k1,k2,k3,k4,k7⟩
 case' inr.inr.inr.inr.inr =>
  rw [if_neg k1,if_neg k2,if_neg k3,if_neg k4,if_neg k7] at hT
  have e1:=D7b k1
  have e2:=D7b k2
  have e3:=D7b k3
  have e4:=D7b k4
  have e7:=D7b k7
 all_goals try simp only [if_true,D7T,Int.reduceEq] at hT
 all_goals repeat' ((conv=>whnf);first | refine B4 n6 ?_ | refine B4 n7 ?_ | refine B4 n8 ?_ | rw [e1] | rw [e2] | rw [e3] | rw [e4] | rw [e7] | (refine B8 (fun h=>?_) (fun h=>?_)<;>rw [h]))
 all_goals (conv=>whnf)
 all_goals (refine ⟨?_,rfl⟩;show AV.bool _=AV.bool _;rw [hT];clear hT n6 n7 n8;try simp only [D5F,D5T] at *)
 all_goals (simp only [*,D5C,D5K,D6g,D5R,D6c,D6d,D6f,D5Z,D6a,D5S,D6F])
theorem A7t (p:B1) (hp:A2L p) (hC:H0 p=true) (st:St):S P 194 [B7 p] st fun v st'=>v=.bool true∧st'=st:=by
 have h:=B5Z p hp st
 rw [hC] at h;exact h
end Go.Proofs.YtaapofnkmpiknaaGreat
