/- Part 27 of the proof: contracts of the functions that the law reaches -/
import Derived.Test.YtbajhapmlfbelaaGreatQn26
set_option maxRecDepth 100000
set_option linter.unusedVariables false
set_option linter.unusedSimpArgs false
namespace Go.Proofs.YtbajhapmlfbelaaGreat
open Go Go.Ab
attribute [local irreducible] upd del
theorem B0H {α : Type} [Inhabited α] {l:List α} {p : α→Bool} {i:Nat} (hi:i<l.length) (h:p (l.getD i default)=true) (hno:∀ j,j<i→p (l.getD j default)=false):l.find? p=some (l.getD i default):=by
 have g:∀ j (hj:j<l.length),l.getD j default=l[j]:=fun j hj=>by rw [List.getD_eq_getElem?_getD,List.getElem?_eq_getElem hj];rfl
 rw [List.find?_eq_some_iff_getElem]
 refine ⟨h,i,hi,(g i hi).symm,fun j hj=>?_⟩
 have:=hno j hj
 rw [g j (by omega)] at this
 rw [this];rfl
theorem B0I {α : Type} [Inhabited α] {l:List α} {p : α→Bool} (hno:∀ j,j<l.length→p (l.getD j default)=false):l.find? p=none:=by
 rw [List.find?_eq_none]
 intro x hx
 obtain ⟨j,hj,rfl⟩:=E4 hx
 rw [hno j hj];simp
theorem A9Z (z:N0) (c:D8) (hl:z.rates.length≤100000) (st:St):S P 209 [X4 z,eS c] st fun v st'=>v=eI (F4 z c)∧st'=st:=by
 refine E3 [2,6] Tryz.func209 ?_
 refine lp z.rates.length [1,2,8,9,10] (fun i vs t=>(∀ j,j<i→((z.rates.getD j default).cat.toList==c.toList)=false)∧vs=[eS c,.fptr (X4 z) 0,A5 2 Z7 z.rates,eI z.rates.length,eI i]∧t=st) ?_ ?_
 ·conv=>whnf
  exact ⟨fun j hj=>absurd hj (by omega),rfl,rfl⟩
 ·rintro i vs t hi ⟨hno,rfl,rfl⟩
  conv=>whnf
  cases h1:decide ((i:Int)<(z.rates.length:Int))
  ·obtain rfl:=J3 h1 hi
   have hf:F4 z c=z.rest:=by unfold F4;rw [B0I hno]
   rw [hf];conv=>whnf
   exact ⟨rfl,rfl⟩
  ·have hi':=S8 h1
   conv=>whnf
   refine G9 ?_
   refine B5 (fun h2=>?_) (fun h2=>?_)<;>rw [h2]
   ·have hf:F4 z c=(z.rates.getD (i:Int).toNat default).rate:=by unfold F4;rw [B0H (p:=fun x:M4=>x.cat.toList==c.toList) hi' h2 hno];rfl
    rw [hf];conv=>whnf
    exact ⟨rfl,rfl⟩
   ·conv=>whnf
    refine H4 ?_
    exact nx hi' ⟨K0 hno h2,by rw [B7 (by omega)],rfl⟩
theorem A7l (l:List M4) (hl:l.length≤100000) (st:St):S P 261 [A5 2 Z7 l] st fun v st'=>v=A5 2 Z7 l∧st'=st:=by
 refine B2O (ty:=212) ?_
 refine SyW [] Tryz.func261 ?_
 cases l with
 | nil =>
  conv=>whnf
  refine ⟨?_,?_⟩
  ·conv=>whnf
   exact H6.start _ _ _ _
  ·conv=>whnf
   refine apE rfl rfl rfl rfl rfl (by show 0 * 24≤_;omega) (fun _=>?_) (fun h=>absurd h (by show ¬ 0<0;omega));conv=>whnf
   exact H6.start _ _ _ _
 | cons u us =>
  conv=>whnf
  refine H6.apps (n:=0) (m:=us.length+1) (q:=B7o) (f:=fun k=>Z7 ((u::us).getD k default)) rfl rfl rfl rfl rfl (fun i hi=>by rw [Nat.zero_add]) (by show (0+(us.length+1)) * 24≤140737488355328;simp only [List.length_cons] at hl;omega) (H6.start _ _ _ _) (fun sv' st'' hc'=>?_);conv=>whnf
  rw [Nat.zero_add] at hc'
  exact hc'
theorem A8q (z:N0) (hl:z.rates.length≤100000) (st:St):S P 189 [X4 z] st fun v st'=>v=X4 z∧st'=st:=by
 have hc:=fun s=>A7l z.rates hl s
 refine A3P ?_
 refine E3 [] Tryz.func189 ?_
 intro b1 h1;conv=>whnf
 intro b2 h2
 have h12:b1≠b2:=fun e=>by subst e;rw [A0] at h2;cases h2
 conv=>whnf
 refine J7 (by rw [A3 h12];exact A0 ..) rfl ?_
 refine H9 (hc _) ?_
 refine stW (by rw [A3 h12];exact A0 ..) rfl ?_
 refine J7 (A0 ..) (B3 ..) ?_
 refine stW (by rw [A3 h12.symm];exact A0 ..) rfl ?_
 refine J7 (A0 ..) (B3 ..) ?_
 have hn2:st b2=none:=by rw [A3 h12.symm] at h2;exact h2
 exact ⟨rfl,((((E2.refl st).upd h1).upd h2).over h1).over hn2⟩
def C1A:N0:=⟨⟨#[]⟩,[],0,0⟩
theorem B0a (t:Tax) (s:D8) (hl:t.zones.length≤100000) (hr:∀ z∈t.zones,z.rates.length≤100000) (st:St) :
  S P 208 [A0Z t,eS s] st fun v st'=>v=.tuple [X4 ((A4l t.zones s).getD C1A),.bool (A4l t.zones s).isSome]∧st'=st:=by
 refine S.post (post:=fun v s'=>E2 st s'∧((∃ z,A4l t.zones s=some z∧v=.tuple [X4 z,.bool true])∨(A4l t.zones s=none∧v=.tuple [.agg [eS ⟨#[]⟩,.emp,eI 0,eI 0],.bool false]))) ?_ (fun v s' ⟨hs,h⟩=>⟨_,st,⟨rfl,rfl⟩,by
  rcases h with ⟨z,h1,rfl⟩ | ⟨h1,rfl⟩
  ·rw [h1];exact hs.shift _
  ·rw [h1]
   exact (A4.tuple (A4.cons (Le.shift (Le.agg (LeL.cons (Le.refl _) (LeL.cons (Le.emp _ _) (LeL.refl _)))) _) (A4.keep _ _)) rfl).trans (hs.shift _)⟩)
 refine E3 [2,7] Tryz.func208 ?_
 intro b4 hb4;conv=>whnf
 refine lp t.zones.length [1,4,9,10,11] (fun i vs u=>(∀ j,j<i→((t.zones.getD j default).name.toList==s.toList)=false)∧vs=[eS s,.optr 4 b4 0 0,A5 4 X4 t.zones,eI t.zones.length,eI i]∧u=upd st b4 ⟨177,4,1,fun _=>F9 B7n.zero⟩) ?_ ?_
 ·conv=>whnf
  exact ⟨fun j hj=>absurd hj (by omega),rfl,rfl⟩
 ·rintro i vs u hi ⟨hno,rfl,rfl⟩
  conv=>whnf
  cases h1:decide ((i:Int)<(t.zones.length:Int))
  ·obtain rfl:=J3 h1 hi
   have hf:A4l t.zones s=none:=B0I hno
   conv=>whnf
   refine stW (A0 ..) rfl ?_
   refine J7 (A0 ..) (B3 ..) ?_
   exact ⟨((E2.refl st).upd hb4).over hb4,.inr ⟨hf,rfl⟩⟩
  ·have hi':=S8 h1
   conv=>whnf
   refine G9 ?_
   refine B5 (fun h2=>?_) (fun h2=>?_)<;>rw [h2]
   ·have hf:A4l t.zones s=some (t.zones.getD (i:Int).toNat default):=B0H (p:=fun z:N0=>z.name.toList==s.toList) hi' h2 hno
    have hc:=fun u=>A8q (t.zones.getD (i:Int).toNat default) (hr _ (A7 hi')) u
    generalize t.zones.getD (i:Int).toNat default=z at hf hc
    conv=>whnf
    refine H9 (hc _) ?_
    refine stW (A0 ..) rfl ?_
    refine J7 (A0 ..) (B3 ..) ?_
    exact ⟨((E2.refl st).upd hb4).over hb4,.inl ⟨z,hf,rfl⟩⟩
   ·conv=>whnf
    refine H4 ?_
    exact nx hi' ⟨K0 hno h2,by rw [B7 (by omega)],rfl⟩
theorem A2o (x:Int) (st:St):S P 278 [eI x] st fun v st'=>v=.bool (upB 0 10000000000000 x)∧st'=st:=by
 refine SyW [] Tryz.func278 ?_
 repeat' ((conv=>whnf);first | (refine B5 (fun h=>?_) (fun h=>?_)<;>rw [h]))
 all_goals (conv=>whnf)
 all_goals (refine ⟨?_,rfl⟩;show AV.bool _=AV.bool _;congr 1)
 all_goals (simp only [upB, *,Bool.true_and,Bool.false_and];try rfl)
theorem B3H (t:Tax) (x rate:Int) (hr:0≤rate∧rate≤10000) (st:St):S P 212 [A0Z t,eI x,eI rate] st fun v st'=>v=eI (J6 t x rate)∧st'=st:=by
 have hM:J6 t x rate=(U4 x rate (A8s t rate) t.round).1:=rfl
 have hw:IntKind.i64.wrap (10000+rate)=10000+rate:=B0 (by omega) (by omega)
 refine E3 [3] Tryz.func212 ?_
 cases hi:t.incl
 ·have hd:A8s t rate=10000:=by unfold A8s;rw [if_neg (by rw [hi];simp)];rfl
  conv=>whnf
  refine C1 (A8c x rate 10000 t.round st) ?_
  rw [hM,hd]
  generalize U4 x rate 10000 t.round=Y
  conv=>whnf
  exact ⟨rfl,rfl⟩
 ·have hd:A8s t rate=10000+rate:=by unfold A8s;rw [if_pos hi]
  conv=>whnf
  rw [hw]
  refine C1 (A8c x rate (10000+rate) t.round st) ?_
  rw [hM,hd]
  generalize U4 x rate (10000+rate) t.round=Y
  conv=>whnf
  exact ⟨rfl,rfl⟩
theorem A5j (t:Tax) (rates nets:List Int) (i:Nat):(List.range (i+1)).map (fun i=>J6 t (gI nets i) (gI rates i))=(List.range i).map (fun i=>J6 t (gI nets i) (gI rates i))++[J6 t (gI nets i) (gI rates i)]:=by rw [List.range_succ,List.map_append];rfl
theorem B3k (t:Tax) (rates nets:List Int) (hn:nets.length≤1000) (hl:rates.length=nets.length) (hq:∀ x∈rates,0≤x∧x≤10000) (st:St):S P 210 [A0Z t,B2 rates,B2 nets] st fun v st'=>v=B2 (V3 t rates nets)∧st'=st:=by
 refine B2O (ty:=2) ?_
 have hL:V3 t rates nets=(List.range nets.length).map fun i=>J6 t (gI nets i) (gI rates i):=rfl
 rw [hL]
 refine E3 [3] Tryz.func210 ?_
 refine lp nets.length [1,3,7,10,11,12] (fun i vs s=>∃ sv,vs=[B2 rates,.fptr (A0Z t) 0,sv,B2 nets,eI nets.length,eI i]∧I0 2 1 eI ((List.range i).map fun i=>J6 t (gI nets i) (gI rates i)) st sv s) ?_ ?_
 ·conv=>whnf
  exact ⟨.emp,rfl,I0.start _ _ _ _⟩
 ·rintro i vs s hi ⟨sv,rfl,hc⟩
  conv=>whnf
  cases h1:decide ((i:Int)<(nets.length:Int))
  ·obtain rfl:=J3 h1 hi
   conv=>whnf
   exact hc
  ·have hi':=S8 h1
   have hm:=fun u=>B3H t (gI nets (i:Int).toNat) (gI rates (i:Int).toNat) (hq _ (A7 (by show i<_;omega))) u
   have hs:=A5j t rates nets i
   have hln:((List.range i).map fun i=>J6 t (gI nets i) (gI rates i)).length=i:=by rw [List.length_map,List.length_range]
   conv=>whnf
   refine G9 ?_
   refine ⟨[8,9],[],List.range 11,by kernel_rfl,?_⟩;conv=>whnf
   refine G9 ?_
   refine ⟨_,A6y (hm _),?_⟩
   have hy:J6 t (gI nets i) (gI rates i)=J6 t (gI nets (i:Int).toNat) (gI rates (i:Int).toNat):=rfl
   rw [hy] at hs
   generalize J6 t (gI nets (i:Int).toNat) (gI rates (i:Int).toNat)=Y at hs
   conv=>whnf
   refine I0.app (y:=Y) (q:=r2) rfl rfl rfl rfl rfl (by rfl) (by rw [hln];show (i+1) * 8≤140737488355328;omega) hc (fun sv' t' hc'=>?_);conv=>whnf
   refine H4 ?_
   exact nx hi' ⟨sv',by rw [B7 (by omega)],by rw [hs];exact hc'⟩
theorem B5v {t:Tax} {z:N0} {cats:List D8} {nets:List Int} {ship:Int} (h:A2d t z cats nets ship) (st:St):S P 207 [A0Z t,E6 cats,B2 nets,eI ship] st fun v st'=>v=.bool true∧st'=st:=by
 have hn:=h.nets.len
 have hs:=h.nets.sum
 have hp:=h.nets.pos
 have hc:=h.cats
 have hT:=fun s=>B6u t s
 have hA:=fun s=>A2o ship s
 rw [h.tax] at hT
 rw [show upB 0 10000000000000 ship=true from Q6.2 h.ship] at hA
 have htk:∀ i,0≤A2 (nets.take i)∧A2 (nets.take i)≤10000000000000:=fun i=>by
  have:=J4 hp i
  exact ⟨B8 fun x hx=>hp x (List.mem_of_mem_take hx),by omega⟩
 refine E3 [4] Tryz.func207 ?_
 refine H9 (hT _) ?_
 rw [hc,show ((nets.length:Int) != (nets.length:Int))=false from bne_self_eq_false _];conv=>whnf
 refine B5 (fun h1=>absurd (of_decide_eq_true h1) (by omega)) (fun h1=>?_)
 rw [h1];conv=>whnf
 refine H9 (hA _) ?_
 refine lp nets.length [9,32,33,34] (fun i vs s=>vs=[eI (A2 (nets.take i)),B2 nets,eI nets.length,eI i]∧s=st) ?_ ?_
 ·conv=>whnf
  exact ⟨rfl,rfl⟩
 ·rintro i vs s hi ⟨rfl,rfl⟩
  conv=>whnf
  cases h2:decide ((i:Int)<(nets.length:Int))
  ·obtain rfl:=J3 h2 hi
   have hB:=fun s=>A2o (A2 (nets.take nets.length)) s
   rw [show upB 0 10000000000000 (A2 (nets.take nets.length))=true from Q6.2 (htk _)] at hB;conv=>whnf
   refine H9 (hB _) ?_
   exact ⟨rfl,rfl⟩
  ·have hi':=S8 h2
   have hx:0≤gI nets (i:Int).toNat:=hp _ (A7 hi')
   have hx2:gI nets (i:Int).toNat≤A2 nets:=I3 hp (A7 hi')
   have hB:=fun s=>A2o (gI nets (i:Int).toNat) s
   rw [show upB 0 10000000000000 (gI nets (i:Int).toNat)=true from Q6.2 (by omega)] at hB
   have hst:A2 (nets.take (i+1))=A2 (nets.take i)+gI nets (i:Int).toNat:=I8 hi'
   have h3:=htk (i+1)
   have hw:IntKind.i64.wrap (A2 (nets.take i)+gI nets (i:Int).toNat)=A2 (nets.take (i+1)):=by rw [hst] at h3 ⊢;exact B0 (by omega) (by omega)
   conv=>whnf
   refine G9 ?_
   refine H9 (hB _) ?_
   rw [hw]
   refine H4 ?_
   exact nx hi' ⟨by rw [B7 (by omega)],rfl⟩
theorem B2z {t:Tax} (h:A6n t=true):t.zones.length≤20∧∀ z∈t.zones,z.rates.length≤40:=by
 have h':=h
 unfold A6n at h
 simp only [Bool.and_eq_true,Bool.not_eq_true',Bool.or_eq_false_iff,decide_eq_false_iff_not] at h
 refine ⟨by omega,fun z hz=>?_⟩
 obtain ⟨k,hk,rfl⟩:=E4 hz
 exact (A3i (A1B.1 h.2.1 k hk)).2.2.1
def B7J (t:Tax):FuncId:=if t.byOrder=true then 211 else 210
def A0G (t:Tax) (taxes nets:List Int) (i:Nat):Int:=if t.incl=true then gI nets i - gI taxes i else gI nets i
theorem A9L (f:Nat→Int) (i:Nat):(List.range (i+1)).map f=(List.range i).map f++[f i]:=by rw [List.range_succ,List.map_append];rfl
theorem B4C (n i:Nat):(List.replicate n (0:Int)).getD i default=0:=by
 rw [List.getD_eq_getElem?_getD,List.getElem?_replicate];split<;>rfl
set_option maxHeartbeats 8000000 in
theorem B6Z {t:Tax} {z:N0} {s:D8} {cats:List D8} {nets:List Int} {ship:Int} (h:A2d t z cats nets ship) (hz:A4l t.zones s=some z) (exempt:Bool)
  (hTax:∀ st,S P (B7J t) [A0Z t,B2 (cats.map (F4 z)),B2 nets] st fun v st'=>v=B2 (H0 t (cats.map (F4 z)) nets)∧st'=st) (st:St) :
  S P 116 [A0Z t,eS s,eB exempt,E6 cats,B2 nets,eI ship] st fun v st' =>
   v=.tuple [B2 (J1 t z exempt cats nets ship).goods,B2 (J1 t z exempt cats nets ship).taxes,eI (J1 t z exempt cats nets ship).ship,eI (J1 t z exempt cats nets ship).shipTax,eI 0]∧st'=st:=by
 obtain ⟨hr1,hr2⟩:=A2X h
 obtain ⟨t1,t2⟩:=A5R (t:=t) h.nets hr1 hr2
 obtain ⟨l1,l2⟩:=B2z h.tax
 have hzm:z∈t.zones:=List.mem_of_find?_eq_some hz
 have hzr:=l2 z hzm
 have hn:=h.nets.len
 have hcl:=h.cats
 have hq:=(A3i h.zone).2.1
 have hm:=A0z (t:=t) h.ship.1 hq
 have hs:=h.ship
 have hM:=fun st=>B5v h st
 have hZ:∀ st,S P 208 [A0Z t,eS s] st fun v st'=>v=.tuple [X4 z,.bool true]∧st'=st:=fun st=>by
  have:=B0a t s (by omega) (fun z hz=>by have:=l2 z hz;omega) st
  rw [hz] at this;exact this
 have hR:=fun c st=>A9Z z c (by omega) st
 have hU:=fun st=>B3H t ship z.ship hq st
 have hL:J1 t z exempt cats nets ship=⟨(List.range nets.length).map (A0G t (H0 t (cats.map (F4 z)) nets) nets),if exempt=true then List.replicate nets.length 0 else H0 t (cats.map (F4 z)) nets,if t.incl=true then ship - J6 t ship z.ship else ship,if exempt=true then 0 else J6 t ship z.ship⟩:=rfl
 rw [hL]
 have hnx:∀ i,i<nets.length→0≤gI nets i∧gI nets i≤10000000000000:=fun i hi=>by
  have h1:=h.nets.pos _ (show gI nets i∈nets from A7 hi)
  have h2:=I3 h.nets.pos (show gI nets i∈nets from A7 hi)
  have h3:=h.nets.sum
  exact ⟨h1,by omega⟩
 have htx:∀ i,i<nets.length→0≤gI (H0 t (cats.map (F4 z)) nets) i∧gI (H0 t (cats.map (F4 z)) nets) i≤10000000000000:=fun i hi=>t2 _ (A7 (by omega))
 generalize H0 t (cats.map (F4 z)) nets=TX at hTax t1 htx ⊢
 generalize J6 t ship z.ship=MS at hU hm ⊢
 clear hL t2
 refine S.post (post:=fun v s'=>∃ gv tv c1 c2,v=.tuple [gv,tv,eI (if t.incl=true then ship - MS else ship),eI (if exempt=true then 0 else MS),eI 0] ∧
   A4 [gv] s' [B2 ((List.range nets.length).map (A0G t TX nets))] c1∧A4 [tv] c1 [B2 (if exempt=true then List.replicate nets.length 0 else TX)] c2∧E2 st c2) ?_
  (fun v s' ⟨gv,tv,c1,c2,h1,h2,h3,h4⟩=>⟨_,st,⟨rfl,rfl⟩,by
   rw [h1]
   exact (A4.tuple (A4.cons h2 (A4.cons h3 (A4.keep _ _))) rfl).trans (h4.shift _)⟩)
 refine E3 [6] Tryz.func116 ?_
 refine H9 (hM _) ?_
 refine H9 (hZ _) ?_
 intro b17 hb17;conv=>whnf
 refine stU (A0 ..) rfl ?_
 rw [G7];conv=>whnf
 generalize hst:(upd st b17 _:St)=S0
 obtain ⟨f17,at17,hf17⟩:∃ f17:Nat→AV,S0 b17=some ⟨177,4,1,f17⟩∧f17 0=X4 z:=by rw [←hst];exact ⟨_,A0 ..,by rw [B3];rfl⟩
 have hs0:E2 st S0:=by rw [←hst];exact (E2.refl st).upd hb17
 clear hst
 refine lp cats.length [2,4,5,6,12,17,19,39,40,41] (fun i vs u=>∃ sv,vs=[eB exempt,B2 nets,eI ship,.fptr (A0Z t) 0,.emp,.optr 4 b17 0 0,sv,E6 cats,eI cats.length,eI i]∧I0 2 1 eI ((cats.take i).map (F4 z)) S0 sv u) ?_ ?_
 ·conv=>whnf
  exact ⟨.emp,rfl,I0.start _ _ _ _⟩
 rintro i vs u hi ⟨sv,rfl,hc⟩
 have hcs:=hc.sup
 conv=>whnf
 cases h1:decide ((i:Int)<(cats.length:Int))
 case true =>
  have hi':=S8 h1
  have hln:((cats.take i).map (F4 z)).length=i:=by rw [List.length_map,List.length_take];omega
  have hRi:=fun st=>hR (cats.getD (i:Int).toNat default) st
  have htk:(cats.take (i+1)).map (F4 z)=(cats.take i).map (F4 z)++[F4 z (cats.getD (i:Int).toNat default)]:=by rw [I4 hi',List.map_append];rfl
  generalize F4 z (cats.getD (i:Int).toNat default)=RT at hRi htk
  conv=>whnf
  refine G9 ?_
  refine J7 (hcs b17 _ at17) hf17 ?_
  refine H9 (hRi _) ?_
  refine I0.app (y:=RT) (q:=r2) rfl rfl rfl rfl rfl (by rfl) (by rw [hln];show (i+1) * 8≤140737488355328;omega) hc (fun sv' t' hc'=>?_);conv=>whnf
  refine H4 ?_
  exact nx hi' ⟨sv',by rw [B7 (by omega)],by rw [htk];exact hc'⟩
 obtain rfl:=J3 h1 hi
 rw [List.take_length] at hc
 have hTS:A4 [AV.agg [eB t.incl,eB t.byOrder,eI t.round,A5 4 X4 t.zones],sv,B2 nets] u [A0Z t,B2 (cats.map (F4 z)),B2 nets] S0:=A4.cons (A4.keep [A0Z t] _) (A4.cons hc.shift (A4.keep _ _))
 clear hc hcs hM hZ hR
 generalize cats.map (F4 z)=RS at hTax hTS
 unfold B7J at hTax;conv=>whnf
 cases hbo:t.byOrder
 case' false=>rw [if_neg (by rw [hbo];simp)] at hTax
 case' true=>rw [if_pos hbo] at hTax
 all_goals
  conv=>whnf
  refine F0 hTS (C1 (hTax _) ?_);conv=>whnf
  refine J7 at17 hf17 ?_
  refine H9 (hU _) ?_
  refine lp nets.length [2,4,6,12,13,14,15,65,66,67] (fun i vs u=>∃ sv,vs=[eB exempt,B2 nets,.fptr (A0Z t) 0,sv,B2 TX,eI ship,eI MS,B2 nets,eI nets.length,eI i]∧I0 2 1 eI ((List.range i).map (A0G t TX nets)) S0 sv u) ?_ ?_
  ·conv=>whnf
   exact ⟨.emp,rfl,I0.start _ _ _ _⟩
  rintro i vs u hi ⟨sv,rfl,hc⟩
  have hcs:=hc.sup
  conv=>whnf
  cases h1:decide ((i:Int)<(nets.length:Int))
  case true =>
   have hi':=S8 h1
   have hln:((List.range i).map (A0G t TX nets)).length=i:=by rw [List.length_map,List.length_range]
   have hnx1:=hnx i hi'
   have htx1:=htx i hi'
   have htk:=A9L (A0G t TX nets) i
   have hgA:A0G t TX nets i=if t.incl=true then gI nets (i:Int).toNat - gI TX (i:Int).toNat else gI nets (i:Int).toNat:=rfl
   have hgw:IntKind.i64.wrap (gI nets (i:Int).toNat - gI TX (i:Int).toNat)=gI nets (i:Int).toNat - gI TX (i:Int).toNat:=B0 (show _≤gI nets i - gI TX i by omega) (show gI nets i - gI TX i≤_ by omega)
   generalize A0G t TX nets i=GA at htk hgA
   conv=>whnf
   refine G9 ?_
   cases hin:t.incl
   case' false=>rw [if_neg (by rw [hin];simp)] at hgA
   case' true =>
    rw [if_pos hin] at hgA;conv=>whnf
    refine G9 ?_
    rw [hgw]
   all_goals
    conv=>whnf
    refine I0.app (y:=GA) (q:=r2) rfl rfl rfl rfl rfl (by rw [hgA];rfl) (by rw [hln];show (i+1) * 8≤140737488355328;omega) hc (fun sv' t' hc'=>?_);conv=>whnf
    refine H4 ?_
    exact nx hi' ⟨sv',by rw [B7 (by omega)],by rw [htk];exact hc'⟩
  obtain rfl:=J3 h1 hi
  have hwS:IntKind.i64.wrap (ship - MS)=ship - MS:=B0 (by omega) (by omega)
  conv=>whnf
  cases hin:t.incl
  case' false=>rw [if_neg (show ¬(false=true) by simp)]
  case' true =>
   rw [if_pos rfl];conv=>whnf
   rw [hwS]
  all_goals
   conv=>whnf
   cases exempt
   ·conv=>whnf
    exact ⟨sv,B2 TX,S0,S0,rfl,hc.shift,A4.keep _ _,hs0⟩
   ·conv=>whnf
    refine mkO rfl rfl rfl (by show 8 * nets.length≤_;omega) (by omega) (by rfl) (fun bz hbz=>?_);conv=>whnf
    have hb0:S0 bz=none:=H6.off hc hbz
    have hc2:=H6.under (y:=⟨2,1,nets.length,fun _=>F9 r2.zero⟩) hc hbz
    refine ⟨sv,.own 1 bz 0 nets.length,upd S0 bz ⟨2,1,nets.length,fun _=>F9 r2.zero⟩,del (upd S0 bz ⟨2,1,nets.length,fun _=>F9 r2.zero⟩) bz,rfl,H6.shift hc2,?_,E2.del (hs0.upd hb0) (hs0.none hb0)⟩
    have e:B2 (List.replicate nets.length 0)=.arr 1 nets.length (fun k=>eI ((List.replicate nets.length (0:Int)).getD k default)):=by unfold B2 A5;rw [List.length_replicate]
    rw [if_pos rfl,e]
    exact M1 (A0 ..) rfl (Nat.le_refl _) (fun k hk=>by rw [B4C];rfl)
structure Add where
 sku:D8
 qty:Int
 deriving Inhabited
def L2 (x:Add):AV:=.agg [eS x.sku,eI x.qty]
theorem A5y (l:List Int) (h:H3 l) (st:St):S P 117 [B2 l] st fun v st'=>v=eI (A2 l)∧st'=st:=by
 have hn:=h.len
 refine E3 [] Tryz.func117 ?_
 refine lp l.length [3,6,7,8] (fun i vs t=>vs=[eI (A2 (l.take i)),B2 l,eI l.length,eI i]∧t=st) ?_ ?_
 ·conv=>whnf
  exact ⟨rfl,rfl⟩
 ·rintro i vs t hi ⟨rfl,rfl⟩
  conv=>whnf
  cases h1:decide ((i:Int)<(l.length:Int))
  ·obtain rfl:=J3 h1 hi
   rw [List.take_length];conv=>whnf
   exact ⟨rfl,rfl⟩
  ·have hi':=S8 h1
   have hs:IntKind.i64.wrap (A2 (l.take i)+gI l (i:Int).toNat)=A2 (l.take (i+1)):=h.step hi'
   conv=>whnf
   refine G9 ?_
   rw [hs]
   refine H4 ?_
   exact nx hi' ⟨by rw [B7 (by omega)],rfl⟩
theorem B6M (q:A4O) (h1:H3 q.goods) (h2:H3 q.taxes) (st:St):S P 112 [A9A q] st fun v st'=>v=B7Y (B6k q)∧st'=st:=by
 have c1:=fun s=>A5y q.goods h1 s
 have c2:=fun s=>A5y q.taxes h2 s
 have hB:B6k q=⟨A2 q.goods,A2 q.taxes,q.ship,q.shipTax,0⟩:=rfl
 rw [hB]
 generalize A2 q.goods=G at c1 ⊢
 generalize A2 q.taxes=T' at c2 ⊢
 refine A3P ?_
 refine E3 [1] Tryz.func112 ?_
 intro b2 hb;conv=>whnf
 refine ⟨[11],[],List.range 12,by kernel_rfl,?_⟩;conv=>whnf
 refine cqW (c1 _) ?_
 refine cqW (c2 _) ?_
 refine stW (A0 ..) rfl ?_
 refine J7 (A0 ..) (B3 ..) ?_
 exact ⟨rfl,((E2.refl st).upd hb).over hb⟩
theorem B5h {a b c d:Int} (ha : -10000000000000≤a∧a≤10000000000000) (hb : -10000000000000≤b∧b≤10000000000000) (hc : -10000000000000≤c∧c≤10000000000000) (hd : -10000000000000≤d∧d≤10000000000000):H3 [a,b,c,d]:=by
 refine ⟨by show 4≤1000;decide,fun x hx=>?_⟩
 simp only [List.mem_cons,List.not_mem_nil,or_false] at hx
 rcases hx with rfl | rfl | rfl | rfl<;>assumption
theorem B0d {a b c d:Int} {F:Nat→AV} {st:St} (h0:F 0=eI a) (h1:F 1=eI b) (h2:F 2=eI c) (h3:F 3=eI d):A4 [.arr 1 4 F] st [B2 [a,b,c,d]] st :=
 A4.arr (g:=fun i=>eI ([a,b,c,d].getD i default)) fun i hi=>by
  match i,hi with
  | 0,_=>exact h0
  | 1,_=>exact h1
  | 2,_=>exact h2
  | 3,_=>exact h3
set_option maxHeartbeats 8000000 in
theorem B5H {r:Q2} {codes:List D8} {l:List G1} {Pr:A7b} {z:N0} {zone:D8} (exempt:Bool)
  (hP:∀ st,S P 18 [A0s r,E6 codes,A5 3 F2 l] st fun v s=>v=.tuple [A2S Pr,eI 0]∧s=st)
  (hI:∀ st,S P 75 [A5 4 C6 r.items,A5 3 F2 l] st fun v s=>v=A5 4 C6 (C2 r.items l)∧s=st)
  (hln:l.length≤1000) (hV:A2d r.tax z (L9 r l) Pr.nets Pr.ship) (hz:A4l r.tax.zones zone=some z)
  (hTax:∀ st,S P (B7J r.tax) [A0Z r.tax,B2 ((L9 r l).map (F4 z)),B2 Pr.nets] st fun v st'=>v=B2 (H0 r.tax ((L9 r l).map (F4 z)) Pr.nets)∧st'=st)
  (hsm:A2 (J1 r.tax z exempt (L9 r l) Pr.nets Pr.ship).goods≤10000000000000∧-10000000000000≤A2 (J1 r.tax z exempt (L9 r l) Pr.nets Pr.ship).goods∧A2 (J1 r.tax z exempt (L9 r l) Pr.nets Pr.ship).taxes≤10000000000000) (st:St) :
  S P 45 [A0s r,eS zone,eB exempt,E6 codes,A5 3 F2 l] st fun v st'=>v=.tuple [A9A (A9V r z exempt l Pr),eI 0]∧st'=st:=by
 have hQ:=B5s hV exempt Pr.deals
 have hlv:=fun s=>B6Z hV hz exempt hTax s
 have hq:A9V r z exempt l Pr=⟨(J1 r.tax z exempt (L9 r l) Pr.nets Pr.ship).goods,(J1 r.tax z exempt (L9 r l) Pr.nets Pr.ship).taxes,(J1 r.tax z exempt (L9 r l) Pr.nets Pr.ship).ship,(J1 r.tax z exempt (L9 r l) Pr.nets Pr.ship).shipTax,A2 (J1 r.tax z exempt (L9 r l) Pr.nets Pr.ship).goods+A2 (J1 r.tax z exempt (L9 r l) Pr.nets Pr.ship).taxes+(J1 r.tax z exempt (L9 r l) Pr.nets Pr.ship).ship+(J1 r.tax z exempt (L9 r l) Pr.nets Pr.ship).shipTax,Pr.deals⟩:=rfl
 rw [hq]
 have hpos:0≤A2 (J1 r.tax z exempt (L9 r l) Pr.nets Pr.ship).taxes:=B8 hQ.pos
 obtain ⟨q1,q2,q3,q4,q5,q6,q7,_⟩:=hQ
 have q1:H3 (J1 r.tax z exempt (L9 r l) Pr.nets Pr.ship).goods:=q1
 have q2:H3 (J1 r.tax z exempt (L9 r l) Pr.nets Pr.ship).taxes:=q2
 have q6:0≤(J1 r.tax z exempt (L9 r l) Pr.nets Pr.ship).ship∧(J1 r.tax z exempt (L9 r l) Pr.nets Pr.ship).ship≤10000000000000:=q6
 have q7:0≤(J1 r.tax z exempt (L9 r l) Pr.nets Pr.ship).shipTax∧(J1 r.tax z exempt (L9 r l) Pr.nets Pr.ship).shipTax≤10000000000000:=q7
 clear hq q3 q4 q5 hTax hV hz
 generalize J1 r.tax z exempt (L9 r l) Pr.nets Pr.ship=V at *
 have s1:=fun s=>A5y V.goods q1 s
 have s2:=fun s=>A5y V.taxes q2 s
 have s3:=fun s=>A5y [A2 V.goods,A2 V.taxes,V.ship,V.shipTax] (B5h (by omega) (by omega) (by omega) (by omega)) s
 have e3:A2 [A2 V.goods,A2 V.taxes,V.ship,V.shipTax]=A2 V.goods+A2 V.taxes+V.ship+V.shipTax:=by
  show 0+A2 V.goods+A2 V.taxes+V.ship+V.shipTax=_;omega
 rw [e3] at s3
 have hil:(C2 r.items l).length=l.length:=List.length_map ..
 have hcb:L9 r l=(C2 r.items l).map Ab.Item.cat:=rfl
 rw [hcb] at hlv
 generalize C2 r.items l=IT at hI hil hlv
 clear hcb
 refine A3P ?_
 refine E3 [5,16] Tryz.func45 ?_
 intro b10 hb10;conv=>whnf
 refine H9 (hP _) ?_
 intro b12 hb12
 have h02:b10≠b12:=fun e=>by subst e;rw [A0] at hb12;cases hb12
 conv=>whnf
 refine stU (A0 ..) rfl ?_
 rw [G7];conv=>whnf
 refine H9 (hI _) ?_
 generalize hst:(upd (upd st b10 _) b12 _:St)=S0
 obtain ⟨f12,at12,hf12⟩:∃ f12:Nat→AV,S0 b12=some ⟨44,4,1,f12⟩∧f12 0=A2S Pr:=by rw [←hst];exact ⟨_,A0 ..,by rw [B3];rfl⟩
 obtain ⟨f10,at10⟩:∃ f10:Nat→AV,S0 b10=some ⟨90,6,1,f10⟩∧f10 0=F9 r90.zero:=by rw [←hst,A3 h02];exact ⟨_,A0 ..,rfl⟩
 obtain ⟨at10,hf10⟩:=at10
 have hs0:E2 st S0:=by rw [←hst];exact ((E2.refl st).upd hb10).upd hb12
 have n12:st b12=none:=by rw [A3 h02.symm] at hb12;exact hb12
 clear hst
 refine lp IT.length [1,2,5,10,12,14,35,36,37] (fun i vs u=>∃ sv,vs=[eS zone,eB exempt,.fptr (A0s r) 0,.optr 6 b10 0 0,.optr 4 b12 0 0,sv,A5 4 C6 IT,eI IT.length,eI i]∧I0 9 1 eS ((IT.take i).map Ab.Item.cat) S0 sv u) ?_ ?_
 ·conv=>whnf
  exact ⟨.emp,rfl,I0.start _ _ _ _⟩
 rintro i vs u hi ⟨sv,rfl,hc⟩
 have hcs:=hc.sup
 conv=>whnf
 cases h1:decide ((i:Int)<(IT.length:Int))
 case true =>
  have hi':=S8 h1
  have hln2:((IT.take i).map Ab.Item.cat).length=i:=by rw [List.length_map,List.length_take];omega
  have htk:(IT.take (i+1)).map Ab.Item.cat=(IT.take i).map Ab.Item.cat++[(IT.getD (i:Int).toNat default).cat]:=by rw [I4 hi',List.map_append];rfl
  conv=>whnf
  refine G9 ?_
  refine I0.app (y:=(IT.getD (i:Int).toNat default).cat) (q:=r9) rfl rfl rfl rfl rfl (by rfl) (by rw [hln2];show (i+1) * 16≤140737488355328;omega) hc (fun sv' t' hc'=>?_);conv=>whnf
  refine H4 ?_
  exact nx hi' ⟨sv',by rw [B7 (by omega)],by rw [htk];exact hc'⟩
 obtain rfl:=J3 h1 hi
 rw [List.take_length] at hc;conv=>whnf
 refine J7 (hcs b12 _ at12) hf12 ?_
 refine J7 (hcs b12 _ at12) hf12 ?_
 have hTS:A4 [A0Z r.tax,eS zone,eB exempt,sv,B2 Pr.nets,eI Pr.ship] u [A0Z r.tax,eS zone,eB exempt,E6 (IT.map Ab.Item.cat),B2 Pr.nets,eI Pr.ship] S0 :=
  A4.cons (A4.keep [A0Z r.tax] _) (A4.cons (A4.keep [eS zone] _) (A4.cons (A4.keep [eB exempt] _) (A4.cons hc.shift (A4.keep _ _))))
 refine F0 hTS (C1 (hlv _) ?_);conv=>whnf
 refine ⟨[15],[],List.range 17,by kernel_rfl,?_⟩;conv=>whnf
 refine cqW (s1 _) ?_
 refine cqW (s2 _) ?_
 refine ⟨_,⟨rfl,rfl⟩,?_⟩;conv=>whnf
 refine ⟨_,F0 (B0d rfl rfl rfl rfl) (A6y (s3 _)),?_⟩;conv=>whnf
 refine J7 at12 hf12 ?_
 refine stW at10 hf10 ?_
 refine J7 (A0 ..) (B3 ..) ?_
 exact ⟨rfl,hs0.over hb10⟩
def I6 (x:Add):Bool:=decide (x.qty<1)||decide (x.qty>100000)
def D2 (items:List Ab.Item) (x:Add):G1:=⟨x.sku,x.qty,(items.getD (F7 items x.sku).toNat default).price⟩
def F1 (items:List Ab.Item) (adds:List Add):List G1×Int :=
 if adds.length<1∨adds.length>1000 then ([],2) else if (adds.any I6)=true then ([],2) else if (adds.any fun x=>decide (F7 items x.sku<0))=true then ([],7) else (adds.map (D2 items),0)
theorem B3R (items:List Ab.Item) (adds:List Add) (hi:items.length≤9223372036854775807) (st:St) :
  S P 41 [A5 4 C6 items,A5 2 L2 adds] st fun v st'=>v=.tuple [A5 3 F2 (F1 items adds).1,eI (F1 items adds).2]∧st'=st:=by
 have hB:F1 items adds=if adds.length<1∨adds.length>1000 then ([],2) else if (adds.any I6)=true then ([],2) else if (adds.any fun x=>decide (F7 items x.sku<0))=true then ([],7) else (adds.map (D2 items),0):=rfl
 refine S.post (post:=fun v s'=>(∃ e,F1 items adds=([],e)∧v=.tuple [.emp,eI e]∧E2 st s')∨(∃ sv,F1 items adds=(adds.map (D2 items),0)∧v=.tuple [sv,eI 0]∧I0 51 3 F2 (adds.map (D2 items)) st sv s')) ?_ (fun v s' hv=>⟨_,st,⟨rfl,rfl⟩,by
  rcases hv with ⟨e,h1,rfl,h2⟩ | ⟨sv,h1,rfl,h2⟩
  ·rw [h1];exact (A4.tuple (A4.cons (G5 3 _) (A4.keep _ _)) rfl).trans (h2.shift _)
  ·rw [h1];exact A4.tuple (A4.cons h2.shift (A4.keep _ _)) rfl⟩)
 refine E3 [7,10] Tryz.func41 ?_
 refine B5 (fun h1=>?_) (fun h1=>?_)<;>rw [h1]<;>simp only [decide_eq_true_eq,decide_eq_false_iff_not] at h1
 ·rw [if_pos (.inl (by omega))] at hB;conv=>whnf
  exact .inl ⟨2,hB,rfl,E2.refl _⟩
 conv=>whnf
 refine B5 (fun h2=>?_) (fun h2=>?_)<;>rw [h2]<;>simp only [decide_eq_true_eq,decide_eq_false_iff_not] at h2
 ·rw [if_pos (.inr (by omega))] at hB;conv=>whnf
  exact .inl ⟨2,hB,rfl,E2.refl _⟩
 rw [if_neg (by omega)] at hB;conv=>whnf
 refine lp adds.length [0,1,20,21,22] (fun i vs t=>(∀ j,j<i→I6 (adds.getD j default)=false)∧vs=[A5 4 C6 items,A5 2 L2 adds,A5 2 L2 adds,eI adds.length,eI i]∧t=st) ?_ ?_
 ·conv=>whnf
  exact ⟨fun j hj=>absurd hj (by omega),rfl,rfl⟩
 rintro i vs t hi' ⟨hno,rfl,rfl⟩
 conv=>whnf
 cases h3:decide ((i:Int)<(adds.length:Int))
 case true =>
  have hi2:=S8 h3
  have hbad:I6 (adds.getD (i:Int).toNat default)=true→F1 items adds=([],2):=fun h=>by
   rw [if_pos (List.any_eq_true.2 ⟨_,A7 hi2,h⟩)] at hB;exact hB
  conv=>whnf
  refine G9 ?_
  refine B5 (fun h4=>?_) (fun h4=>?_)<;>rw [h4]
  ·conv=>whnf
   exact .inl ⟨2,hbad (by unfold I6;rw [h4];rfl),rfl,E2.refl _⟩
  conv=>whnf
  refine B5 (fun h5=>?_) (fun h5=>?_)<;>rw [h5]
  ·conv=>whnf
   exact .inl ⟨2,hbad (by unfold I6;rw [h5,Bool.or_true]),rfl,E2.refl _⟩
  conv=>whnf
  refine H4 ?_
  exact nx hi2 ⟨K0 hno (show I6 (adds.getD (i:Int).toNat default)=false by unfold I6;rw [h4,h5];rfl),by rw [B7 (by omega)],rfl⟩
 obtain rfl:=J3 h3 hi'
 rw [if_neg (by
  rw [Bool.not_eq_true,List.any_eq_false]
  intro x hx
  obtain ⟨j,hj,rfl⟩:=E4 hx
  rw [hno j hj];simp)] at hB
 conv=>whnf
 refine lp adds.length [0,8,35,36,37] (fun i vs s=>∃ sv,(∀ j,j<i→(fun x:Add=>decide (F7 items x.sku<0)) (adds.getD j default)=false)∧vs=[A5 4 C6 items,sv,A5 2 L2 adds,eI adds.length,eI i]∧I0 51 3 F2 ((adds.take i).map (D2 items)) t sv s) ?_ ?_
 ·conv=>whnf
  exact ⟨.emp,fun j hj=>absurd hj (by omega),rfl,I0.start _ _ _ _⟩
 rintro i vs s hi2 ⟨sv,hno2,rfl,hc⟩
 conv=>whnf
 cases h4:decide ((i:Int)<(adds.length:Int))
 case false =>
  obtain rfl:=J3 h4 hi2
  rw [List.take_length] at hc
  rw [if_neg (by
   rw [Bool.not_eq_true,List.any_eq_false]
   intro x hx
   obtain ⟨j,hj,rfl⟩:=E4 hx
   have:=hno2 j hj
   simp only at this
   rw [this];simp)] at hB
  conv=>whnf
  exact .inr ⟨sv,hB,rfl,hc⟩
 have hi3:=S8 h4
 have hF:=fun u=>A7p items (adds.getD (i:Int).toNat default).sku hi u
 have hln:((adds.take i).map (D2 items)).length=i:=by rw [List.length_map,List.length_take];omega
 have htk:(adds.take (i+1)).map (D2 items)=(adds.take i).map (D2 items)++[D2 items (adds.getD (i:Int).toNat default)]:=by rw [I4 hi3,List.map_append];rfl
 have hrng:=A3C (fun x:Ab.Item=>x.sku.toList==(adds.getD (i:Int).toNat default).sku.toList) items
 have hAL:D2 items (adds.getD (i:Int).toNat default)=⟨(adds.getD (i:Int).toNat default).sku,(adds.getD (i:Int).toNat default).qty,(items.getD (F7 items (adds.getD (i:Int).toNat default).sku).toNat default).price⟩:=rfl
 have hno3:=fun h=>K0 (q:=fun j=>(fun x:Add=>decide (F7 items x.sku<0)) (adds.getD j default)=false) hno2 h
 have hpos:(fun x:Add=>decide (F7 items x.sku<0)) (adds.getD (i:Int).toNat default)=true→F1 items adds=([],7):=fun h=>by
  rw [if_pos (List.any_eq_true.2 ⟨_,A7 hi3,h⟩)] at hB;exact hB
 have hf0:F7 items (adds.getD (i:Int).toNat default).sku=F7 items (adds.getD i default).sku:=rfl
 simp only at hpos hno3
 rw [←hf0] at hno3
 generalize hfv:F7 items (adds.getD (i:Int).toNat default).sku=FV at hF hpos hno3 hAL
 have hrng2 : -1≤FV∧FV<items.length:=by rw [←hfv];exact hrng
 conv=>whnf
 refine G9 ?_
 refine H9 (hF _) ?_
 refine B5 (fun h5=>?_) (fun h5=>?_)<;>rw [h5]
 ·conv=>whnf
  exact .inl ⟨7,hpos h5,rfl,hc.sup⟩
 have h5':=of_decide_eq_false h5
 conv=>whnf
 refine ⟨[11,12],[],List.range 14,by kernel_rfl,?_⟩;conv=>whnf
 refine G9 ?_
 refine I0.app (y:=D2 items (adds.getD (i:Int).toNat default)) (q:=r51) rfl rfl rfl rfl rfl (by rw [hAL];rfl) (by rw [hln];show (i+1) * 32≤140737488355328;omega) hc (fun sv' t' hc'=>?_);conv=>whnf
 refine H4 ?_
 exact nx hi3 ⟨sv',hno3 h5,by rw [B7 (by omega)],by rw [htk];exact hc'⟩
end Go.Proofs.YtbajhapmlfbelaaGreat
namespace Go.Ab
open Go
theorem mkC {T:C9} {t:TypeId} {kk kk':IntKind} {n:Nat} {st:St} {k:KK} {r q:B4} {el:TypeId} (hr:T t=some r) (hd:r.desc=.slice el) (hq:T el=some q)
  (hb:q.bytes * n≤281474976710656) (hn:n≤281474976710656) (hz:(Nat.beq q.zero.cells.size q.size&&(cellsOf (F9 q.zero)).all AV.one)=true)
  (hk:∀ b,st b=none→k (.cown q.size b 0 n) (upd st b ⟨el,q.size,n,fun _=>F9 q.zero⟩)):xMk T t (.int kk 0) (.int kk' (n:Int)) st k:=by
 refine ⟨?_⟩
 unfold A3S
 simp only [Bool.and_eq_true,Nat.beq_eq] at hz
 rw [hr]
 simp only [hd,hq]
 refine .inl ⟨trivial,by omega,?_,by omega,hz.1,hz.2,by simpa using hk⟩
 have:((q.bytes * n:Nat):Int)≤281474976710656:=by omega
 rwa [Int.natCast_mul] at this
theorem apC {T:C9} {t:TypeId} {x:AV} {st:St} {k:KK} {r q:B4} {el m b n c:Nat} {f g:Nat→AV} (hr:T t=some r) (hd:r.desc=.slice el) (hq:T el=some q)
  (hz:(Nat.blt 0 q.size&&Nat.blt 0 q.bytes&&Nat.beq q.zero.cells.size q.size)=true) (hs:T2 q.size st x=some (m,f)) (hy:st b=some ⟨el,q.size,c,g⟩) (hroom:n+m≤c)
  (h0:m=0→k (.cown q.size b n c) st) (hk:0<m→k (.cown q.size b (n+m) c) (upd st b ⟨el,q.size,c,fun i=>if n≤i∧i<n+m then f (i - n) else g i⟩)):A3N T t (.cown q.size b n c) x st k:=by
 refine ⟨?_⟩
 unfold X0
 simp only [Bool.and_eq_true,Nat.blt_eq,Nat.beq_eq] at hz
 rw [hr]
 simp only [hd,hq,hs,hy]
 exact ⟨hz.1.1,hz.1.2,hz.2,trivial,trivial,trivial,trivial,h0,fun hm=>⟨hroom,hk hm⟩⟩
theorem A8v {w:World} {st:St} {e b n cp:Nat} {y:M6} {c:Value} (hS:D0 st w) (hy:st b=some y) (he:y.e=e) (hn:n≤y.n) (h:E9 w st (.cown e b n cp) c) :
  D0 (del st b) w∧M7 st w (del st b) w∧E9 w (del st b) (.arr e n y.f) c:=by
 cases h with
 | cown e b n cp hc hs =>
  have h2:E9 w st (.own e b 0 n) (.slice (some ⟨b,0 * e,none⟩) n cp):=.own _ _ _ _ _ hc (by rw [Nat.zero_add];exact hs)
  obtain ⟨k1,k2,k3⟩:=A5d hS hy he (by omega) h2
  refine ⟨k1,k2,?_⟩
  rw [Nat.zero_mul] at k3
  exact Rep.arr_congr (fun i _=>by rw [Nat.zero_add]) k3
theorem B0c {st:St} {e b n c:Nat} {y:M6} {f:Nat→AV} (hy:st b=some y) (he:y.e=e) (hn:n≤y.n) (hf:∀ i,i<n→y.f i=f i):A4 [.cown e b n c] st [.arr e n f] (del st b) :=
 A4.one fun w v hS hr=>by
  obtain ⟨h1,h2,h3⟩:=A8v hS hy he hn hr
  exact ⟨h1,h2,Rep.arr_congr (fun i hi=>hf i hi) h3⟩
end Go.Ab
namespace Go.Proofs.YtbajhapmlfbelaaGreat
open Go Go.Ab
attribute [local irreducible] upd del
theorem B2c (items:List Ab.Item) (adds:List Add) (hi:items.length≤9223372036854775807) (b c:Nat) (g:Nat→AV) (st:St) (hb:st b=some ⟨84,2,c,g⟩) (hac:adds.length≤c) (hg:∀ i,i<adds.length→g i=L2 (adds.getD i default)) :
  S P 41 [A5 4 C6 items,.cown 2 b adds.length c] st fun v st'=>v=.tuple [A5 3 F2 (F1 items adds).1,eI (F1 items adds).2]∧st'=st:=by
 have hB:F1 items adds=if adds.length<1∨adds.length>1000 then ([],2) else if (adds.any I6)=true then ([],2) else if (adds.any fun x=>decide (F7 items x.sku<0))=true then ([],7) else (adds.map (D2 items),0):=rfl
 refine S.post (post:=fun v s'=>(∃ e,F1 items adds=([],e)∧v=.tuple [.emp,eI e]∧E2 st s')∨(∃ sv,F1 items adds=(adds.map (D2 items),0)∧v=.tuple [sv,eI 0]∧I0 51 3 F2 (adds.map (D2 items)) st sv s')) ?_ (fun v s' hv=>⟨_,st,⟨rfl,rfl⟩,by
  rcases hv with ⟨e,h1,rfl,h2⟩ | ⟨sv,h1,rfl,h2⟩
  ·rw [h1];exact (A4.tuple (A4.cons (G5 3 _) (A4.keep _ _)) rfl).trans (h2.shift _)
  ·rw [h1];exact A4.tuple (A4.cons h2.shift (A4.keep _ _)) rfl⟩)
 refine E3 [7,10] Tryz.func41 ?_
 refine B5 (fun h1=>?_) (fun h1=>?_)<;>rw [h1]<;>simp only [decide_eq_true_eq,decide_eq_false_iff_not] at h1
 ·rw [if_pos (.inl (by omega))] at hB;conv=>whnf
  exact .inl ⟨2,hB,rfl,E2.refl _⟩
 conv=>whnf
 refine B5 (fun h2=>?_) (fun h2=>?_)<;>rw [h2]<;>simp only [decide_eq_true_eq,decide_eq_false_iff_not] at h2
 ·rw [if_pos (.inr (by omega))] at hB;conv=>whnf
  exact .inl ⟨2,hB,rfl,E2.refl _⟩
 rw [if_neg (by omega)] at hB;conv=>whnf
 refine lp adds.length [0,1,20,21,22] (fun i vs t=>(∀ j,j<i→I6 (adds.getD j default)=false)∧vs=[A5 4 C6 items,.cown 2 b adds.length c,.cown 2 b adds.length c,eI adds.length,eI i]∧t=st) ?_ ?_
 ·conv=>whnf
  exact ⟨fun j hj=>absurd hj (by omega),rfl,rfl⟩
 rintro i vs t hi' ⟨hno,rfl,rfl⟩
 conv=>whnf
 cases h3:decide ((i:Int)<(adds.length:Int))
 case true =>
  have hi2:=S8 h3
  have hbad:I6 (adds.getD (i:Int).toNat default)=true→F1 items adds=([],2):=fun h=>by
   rw [if_pos (List.any_eq_true.2 ⟨_,A7 hi2,h⟩)] at hB;exact hB
  conv=>whnf
  refine G9 ?_
  refine ldV hb rfl (by show (i:Int).toNat<c;omega) (hg (i:Int).toNat hi2) ?_;conv=>whnf
  refine B5 (fun h4=>?_) (fun h4=>?_)<;>rw [h4]
  ·conv=>whnf
   exact .inl ⟨2,hbad (by unfold I6;rw [h4];rfl),rfl,E2.refl _⟩
  conv=>whnf
  refine B5 (fun h5=>?_) (fun h5=>?_)<;>rw [h5]
  ·conv=>whnf
   exact .inl ⟨2,hbad (by unfold I6;rw [h5,Bool.or_true]),rfl,E2.refl _⟩
  conv=>whnf
  refine H4 ?_
  exact nx hi2 ⟨K0 hno (show I6 (adds.getD (i:Int).toNat default)=false by unfold I6;rw [h4,h5];rfl),by rw [B7 (by omega)],rfl⟩
 obtain rfl:=J3 h3 hi'
 rw [if_neg (by
  rw [Bool.not_eq_true,List.any_eq_false]
  intro x hx
  obtain ⟨j,hj,rfl⟩:=E4 hx
  rw [hno j hj];simp)] at hB
 conv=>whnf
 refine lp adds.length [0,8,35,36,37] (fun i vs s=>∃ sv,(∀ j,j<i→(fun x:Add=>decide (F7 items x.sku<0)) (adds.getD j default)=false)∧vs=[A5 4 C6 items,sv,.cown 2 b adds.length c,eI adds.length,eI i]∧I0 51 3 F2 ((adds.take i).map (D2 items)) t sv s) ?_ ?_
 ·conv=>whnf
  exact ⟨.emp,fun j hj=>absurd hj (by omega),rfl,I0.start _ _ _ _⟩
 rintro i vs s hi2 ⟨sv,hno2,rfl,hc⟩
 conv=>whnf
 cases h4:decide ((i:Int)<(adds.length:Int))
 case false =>
  obtain rfl:=J3 h4 hi2
  rw [List.take_length] at hc
  rw [if_neg (by
   rw [Bool.not_eq_true,List.any_eq_false]
   intro x hx
   obtain ⟨j,hj,rfl⟩:=E4 hx
   have:=hno2 j hj
   simp only at this
   rw [this];simp)] at hB
  conv=>whnf
  exact .inr ⟨sv,hB,rfl,hc⟩
 have hi3:=S8 h4
 have hF:=fun u=>A7p items (adds.getD (i:Int).toNat default).sku hi u
 have hln:((adds.take i).map (D2 items)).length=i:=by rw [List.length_map,List.length_take];omega
 have htk:(adds.take (i+1)).map (D2 items)=(adds.take i).map (D2 items)++[D2 items (adds.getD (i:Int).toNat default)]:=by rw [I4 hi3,List.map_append];rfl
 have hrng:=A3C (fun x:Ab.Item=>x.sku.toList==(adds.getD (i:Int).toNat default).sku.toList) items
 have hAL:D2 items (adds.getD (i:Int).toNat default)=⟨(adds.getD (i:Int).toNat default).sku,(adds.getD (i:Int).toNat default).qty,(items.getD (F7 items (adds.getD (i:Int).toNat default).sku).toNat default).price⟩:=rfl
 have hno3:=fun h=>K0 (q:=fun j=>(fun x:Add=>decide (F7 items x.sku<0)) (adds.getD j default)=false) hno2 h
 have hpos:(fun x:Add=>decide (F7 items x.sku<0)) (adds.getD (i:Int).toNat default)=true→F1 items adds=([],7):=fun h=>by
  rw [if_pos (List.any_eq_true.2 ⟨_,A7 hi3,h⟩)] at hB;exact hB
 have hf0:F7 items (adds.getD (i:Int).toNat default).sku=F7 items (adds.getD i default).sku:=rfl
 simp only at hpos hno3
 rw [←hf0] at hno3
 generalize hfv:F7 items (adds.getD (i:Int).toNat default).sku=FV at hF hpos hno3 hAL
 have hrng2 : -1≤FV∧FV<items.length:=by rw [←hfv];exact hrng
 conv=>whnf
 refine G9 ?_
 refine ldV (hc.sup b _ hb) rfl (by show (i:Int).toNat<c;omega) (hg (i:Int).toNat hi3) ?_;conv=>whnf
 refine H9 (hF _) ?_
 refine B5 (fun h5=>?_) (fun h5=>?_)<;>rw [h5]
 ·conv=>whnf
  exact .inl ⟨7,hpos h5,rfl,hc.sup⟩
 have h5':=of_decide_eq_false h5
 conv=>whnf
 refine ⟨[11,12],[],List.range 14,by kernel_rfl,?_⟩;conv=>whnf
 refine G9 ?_
 refine I0.app (y:=D2 items (adds.getD (i:Int).toNat default)) (q:=r51) rfl rfl rfl rfl rfl (by rw [hAL];rfl) (by rw [hln];show (i+1) * 32≤140737488355328;omega) hc (fun sv' t' hc'=>?_);conv=>whnf
 refine H4 ?_
 exact nx hi3 ⟨sv',hno3 h5,by rw [B7 (by omega)],by rw [htk];exact hc'⟩
end Go.Proofs.YtbajhapmlfbelaaGreat
namespace Go.Proofs.YtbajhapmlfbelaaGreat
open Go Go.Ab
structure C3D where
 sku:D8
 price:Int
 sold:Int
 left:Int
 goods:Int
 tax:Int
 deriving Inhabited
instance:Inhabited B2I:=⟨⟨0,0,0,0,0⟩⟩
end Go.Proofs.YtbajhapmlfbelaaGreat
namespace Go.Proofs.YtbajhapmlfbelaaGreat
open Go Go.Ab
attribute [local irreducible] upd del
def B6j (l:List Add) (x:Add) (g:Nat→AV):Prop:=(∀ i,i<l.length→g i=L2 (l.getD i default))∧∀ i,l.length≤i→i<l.length+3→g i=L2 x
theorem B1U (l:List Add) (x:Add) (hl:l.length≤1000) (st:St):S P 40 [A5 2 L2 l,L2 x] st fun v st' =>
  ∃ b g,st b=none∧v=.cown 2 b l.length (l.length+3)∧st'=upd st b ⟨84,2,l.length+3,g⟩∧B6j l x g:=by
 have w3:IntKind.i64.wrap ((l.length:Int)+3)=((l.length+3:Nat):Int):=by rw [B0 (by omega) (by omega)];omega
 refine E3 [3] Tryz.func40 ?_
 rw [w3]
 refine mkC (q:=r84) rfl rfl rfl (by show 24 * (l.length+3)≤_;omega) (by omega) (by rfl) (fun b hb=>?_);conv=>whnf
 refine apC (q:=r84) (m:=l.length) (n:=0) (f:=fun k=>L2 (l.getD k default)) rfl rfl rfl rfl (A3M ..) (A0 ..) (by omega) (fun h0=>?_) (fun hpos=>?_)
 case' refine_1 =>
  obtain ⟨g0,hg0,hz0,e0⟩:∃ g0:Nat→AV,(∀ i,i<l.length→g0 i=L2 (l.getD i default))∧(∀ i,l.length≤i→i<l.length+3→g0 i=.agg [eS ⟨#[]⟩,eI 0])∧(fun _=>F9 r84.zero:Nat→AV)=g0:=⟨_,fun i hi=>absurd hi (by omega),fun i h1 h2=>rfl,rfl⟩
  rw [e0,show (AV.cown r84.size b 0 (l.length+3))=.cown 2 b l.length (l.length+3) by rw [h0];rfl]
 case' refine_2 =>
  rw [G7,Nat.zero_add]
  obtain ⟨g0,hg0,hz0,e0⟩:∃ g0:Nat→AV,(∀ i,i<l.length→g0 i=L2 (l.getD i default))∧(∀ i,l.length≤i→i<l.length+3→g0 i=.agg [eS ⟨#[]⟩,eI 0])∧(fun i=>if 0≤i∧i<l.length then L2 (l.getD (i - 0) default) else F9 r84.zero:Nat→AV)=g0 :=
   ⟨_,fun i hi=>if_pos ⟨Nat.zero_le _,hi⟩,fun i h1 h2=>if_neg (by omega),rfl⟩
  rw [e0]
 all_goals
  clear e0
  conv=>whnf
  rw [w3]
  refine ⟨rfl,rfl,⟨by omega,by omega⟩,?_⟩;conv=>whnf
  refine lp 3 [3,5,6,7] (fun j vs s=>∃ g:Nat→AV,vs=[.fptr (L2 x) 0,.cown 2 b l.length (l.length+3),.cown 2 b (l.length+3) (l.length+3),eI ((l.length+j:Nat):Int)]∧s=upd st b ⟨84,2,l.length+3,g⟩ ∧
   (∀ i,i<l.length→g i=L2 (l.getD i default))∧(∀ i,l.length≤i→i<l.length+j→g i=L2 x)∧∀ i,l.length+j≤i→i<l.length+3→g i=.agg [eS ⟨#[]⟩,eI 0]) ?_ ?_
  ·conv=>whnf
   exact ⟨g0,rfl,rfl,hg0,fun i h1 h2=>absurd h1 (by omega),hz0⟩
  rintro j vs s hj ⟨g,rfl,rfl,hg,hx,hz⟩
  conv=>whnf
  cases h:decide (((l.length+j:Nat):Int)<((l.length+3:Nat):Int))
  ·obtain rfl:j=3:=by have:=of_decide_eq_false h;omega
   conv=>whnf
   exact ⟨b,g,hb,rfl,rfl,hg,hx⟩
  have hj':j<3:=by have:=of_decide_eq_true h;omega
  conv=>whnf
  refine G9 ?_
  refine stV (A0 ..) rfl (by show ((l.length+j:Nat):Int).toNat<_;omega) (hz (l.length+j) (Nat.le_refl _) (by omega)) (by rfl) ?_
  rw [G7];conv=>whnf
  refine H4 ?_
  refine nx hj' ⟨_,by rw [B7 (by omega)];rfl,rfl,fun i hi=>?_,fun i h1 h2=>?_,fun i h1 h2=>?_⟩
  ·rw [J9 (by show i≠((l.length+j:Nat):Int).toNat;omega)];exact hg i hi
  ·by_cases e:i=l.length+j
   ·subst e;exact B3 ..
   ·rw [J9 (by show i≠((l.length+j:Nat):Int).toNat;omega)];exact hx i h1 (by omega)
  ·rw [J9 (by show i≠((l.length+j:Nat):Int).toNat;omega)];exact hz i (by omega) h2
theorem B3t (x:Add) (st:St):S P 206 [L2 x,L2 x] st fun v st'=>v=.bool true∧st'=st:=by
 refine E3 [2,3] Tryz.func206 ?_
 refine ⟨?_,rfl⟩
 show AV.bool ((x.sku.toList==x.sku.toList)&&((x.qty==x.qty)&&true))=AV.bool true
 simp only [beq_self_eq_true,Bool.and_true]
theorem B0b (l:List Add) (hl:Sm l.length) (st:St):S P 205 [A5 2 (L2) l,A5 2 (L2) l,.fn (.func 206) [] []] st fun v st'=>v=.bool true∧st'=st:=by
 refine E3 [] Tryz.func205 ?_
 rw [show ((l.length:Int) != (l.length:Int))=false from bne_self_eq_false _];conv=>whnf
 refine lp l.length [0,1,2,7] (fun i vs s=>vs=[A5 2 (L2) l,A5 2 (L2) l,.fn (.func 206) [] [],eI i]∧s=st) ?_ ?_
 ·conv=>whnf
  exact ⟨rfl,rfl⟩
 ·rintro i vs s hi ⟨rfl,rfl⟩
  conv=>whnf
  cases h:decide ((i:Int)<(l.length:Int))
  ·obtain rfl:=J3 h hi
   conv=>whnf
   exact ⟨rfl,rfl⟩
  ·have hi':=S8 h
   conv=>whnf
   refine ⟨[],[],List.range 11,by kernel_rfl,?_⟩;conv=>whnf
   refine G9 ?_
   refine G9 ?_
   refine cqW (B3t _ _) ?_
   refine H4 ?_
   exact nx hi' ⟨by rw [B7 (by omega)],rfl⟩
theorem A8O (l:List Add) (hl:Sm l.length) (st:St):S P 115 [A5 2 L2 l,A5 2 L2 l] st fun v st'=>v=.bool true∧st'=st:=by
 refine E3 [] Tryz.func115 ?_
 refine H9 (B0b l hl _) ?_
 exact ⟨rfl,rfl⟩
theorem A9H (l:List Add) (x:Add) (hl:l.length≤1000) (b:Nat) (g:Nat→AV) (st:St) (hb:st b=some ⟨84,2,l.length+3,g⟩) (hR:B6j l x g) :
  S P 43 [.cown 2 b l.length (l.length+3),A5 2 L2 l,L2 x] st fun v st'=>v=.bool true∧st'=st:=by
 have w3:IntKind.i64.wrap ((l.length:Int)+3)=((l.length+3:Nat):Int):=by rw [B0 (by omega) (by omega)];omega
 have cP:S P 115 [.cown 2 b l.length (l.length+3),A5 2 L2 l] st fun v st'=>v=.bool true∧st'=st :=
  S.lends (A8O l (by show _≤_;omega) st0) ((A4.cons (B0c (f:=fun k=>L2 (l.getD k default)) hb rfl (by show l.length≤l.length+3;omega) hR.1) (A4.keep _ _)).trans ((B5W _).shift _)) fun v hv=>⟨_,rfl,by rw [hv];exact So.bool _⟩
 refine E3 [5] Tryz.func43 ?_
 refine H9 cP ?_
 rw [w3,decide_eq_false (show ¬(((l.length+3:Nat):Int)<((l.length+3:Nat):Int)) by omega)];conv=>whnf
 rw [w3]
 refine ⟨rfl,rfl,⟨by omega,by omega⟩,?_⟩;conv=>whnf
 refine lp 3 [5,7,8] (fun j vs s=>vs=[.fptr (L2 x) 0,.cown 2 b (l.length+3) (l.length+3),eI ((l.length+j:Nat):Int)]∧s=st) ?_ ?_
 ·conv=>whnf
  exact ⟨rfl,rfl⟩
 rintro j vs s hj ⟨rfl,rfl⟩
 conv=>whnf
 cases h:decide (((l.length+j:Nat):Int)<((l.length+3:Nat):Int))
 ·obtain rfl:j=3:=by have:=of_decide_eq_false h;omega
  conv=>whnf
  exact ⟨rfl,rfl⟩
 have hj':j<3:=by have:=of_decide_eq_true h;omega
 have e1:∀ z:Int,(z==z)=true:=fun z=>beq_self_eq_true z
 have e2:(x.sku.toList==x.sku.toList)=true:=beq_self_eq_true _
 conv=>whnf
 refine ⟨[],[],List.range 6,by kernel_rfl,?_⟩;conv=>whnf
 refine G9 ?_
 refine ldV hb rfl (by show ((l.length+j:Nat):Int).toNat<_;omega) (hR.2 (l.length+j) (by omega) (by omega)) ?_
 repeat' ((conv=>whnf);first | rw [e2] | rw [e1] | fail)
 refine H4 ?_
 exact nx hj' ⟨by rw [B7 (by omega)];rfl,rfl⟩
theorem A9Y (items:List Ab.Item) (adds:List Add) (hi:items.length≤9223372036854775807) (st:St) :
  S P 42 [A5 4 C6 items,A5 2 L2 adds] st fun v st'=>v=.tuple [A5 3 F2 (F1 items adds).1,eI (F1 items adds).2]∧st'=st:=by
 have hB:F1 items adds=if adds.length<1∨adds.length>1000 then ([],2) else if (adds.any I6)=true then ([],2) else if (adds.any fun x=>decide (F7 items x.sku<0))=true then ([],7) else (adds.map (D2 items),0):=rfl
 refine S.post (post:=fun v s'=>(∃ e,F1 items adds=([],e)∧v=.tuple [.emp,eI e]∧E2 st s')∨(∃ sv,F1 items adds=(adds.map (D2 items),0)∧v=.tuple [sv,eI 0]∧I0 51 3 F2 (adds.map (D2 items)) st sv s')) ?_ (fun v s' hv=>⟨_,st,⟨rfl,rfl⟩,by
  rcases hv with ⟨e,h1,rfl,h2⟩ | ⟨sv,h1,rfl,h2⟩
  ·rw [h1];exact (A4.tuple (A4.cons (G5 3 _) (A4.keep _ _)) rfl).trans (h2.shift _)
  ·rw [h1];exact A4.tuple (A4.cons h2.shift (A4.keep _ _)) rfl⟩)
 refine E3 [] Tryz.func42 ?_
 refine B5 (fun h1=>?_) (fun h1=>?_)<;>rw [h1]<;>simp only [decide_eq_true_eq,decide_eq_false_iff_not] at h1
 ·rw [if_pos (.inl (by omega))] at hB;conv=>whnf
  exact .inl ⟨2,hB,rfl,E2.refl _⟩
 conv=>whnf
 refine B5 (fun h2=>?_) (fun h2=>?_)<;>rw [h2]<;>simp only [decide_eq_true_eq,decide_eq_false_iff_not] at h2
 ·rw [if_pos (.inr (by omega))] at hB;conv=>whnf
  exact .inl ⟨2,hB,rfl,E2.refl _⟩
 rw [if_neg (by omega)] at hB;conv=>whnf
 refine lp adds.length [0,1,6] (fun i vs t=>(∀ j,j<i→I6 (adds.getD j default)=false)∧vs=[A5 4 C6 items,A5 2 L2 adds,eI i]∧t=st) ?_ ?_
 ·conv=>whnf
  exact ⟨fun j hj=>absurd hj (by omega),rfl,rfl⟩
 rintro i vs t hi' ⟨hno,rfl,rfl⟩
 conv=>whnf
 cases h3:decide ((i:Int)<(adds.length:Int))
 case true =>
  have hi2:=S8 h3
  have hbad:I6 (adds.getD (i:Int).toNat default)=true→F1 items adds=([],2):=fun h=>by
   rw [if_pos (List.any_eq_true.2 ⟨_,A7 hi2,h⟩)] at hB;exact hB
  conv=>whnf
  refine G9 ?_
  refine B5 (fun h4=>?_) (fun h4=>?_)<;>rw [h4]
  ·conv=>whnf
   exact .inl ⟨2,hbad (by unfold I6;rw [h4];rfl),rfl,E2.refl _⟩
  conv=>whnf
  refine G9 ?_
  refine B5 (fun h5=>?_) (fun h5=>?_)<;>rw [h5]
  ·conv=>whnf
   exact .inl ⟨2,hbad (by unfold I6;rw [h5,Bool.or_true]),rfl,E2.refl _⟩
  conv=>whnf
  refine H4 ?_
  exact nx hi2 ⟨K0 hno (show I6 (adds.getD (i:Int).toNat default)=false by unfold I6;rw [h4,h5];rfl),by rw [B7 (by omega)],rfl⟩
 obtain rfl:=J3 h3 hi'
 rw [if_neg (by
  rw [Bool.not_eq_true,List.any_eq_false]
  intro x hx
  obtain ⟨j,hj,rfl⟩:=E4 hx
  rw [hno j hj];simp)] at hB
 conv=>whnf
 refine lp adds.length [0,1,7,8] (fun i vs s=>∃ sv,(∀ j,j<i→(fun x:Add=>decide (F7 items x.sku<0)) (adds.getD j default)=false)∧vs=[A5 4 C6 items,A5 2 L2 adds,sv,eI i]∧I0 51 3 F2 ((adds.take i).map (D2 items)) t sv s) ?_ ?_
 ·conv=>whnf
  exact ⟨.emp,fun j hj=>absurd hj (by omega),rfl,I0.start _ _ _ _⟩
 rintro i vs s hi2 ⟨sv,hno2,rfl,hc⟩
 conv=>whnf
 cases h4:decide ((i:Int)<(adds.length:Int))
 case false =>
  obtain rfl:=J3 h4 hi2
  rw [List.take_length] at hc
  rw [if_neg (by
   rw [Bool.not_eq_true,List.any_eq_false]
   intro x hx
   obtain ⟨j,hj,rfl⟩:=E4 hx
   have:=hno2 j hj
   simp only at this
   rw [this];simp)] at hB
  conv=>whnf
  exact .inr ⟨sv,hB,rfl,hc⟩
 have hi3:=S8 h4
 have hF:=fun u=>B5K items (adds.getD (i:Int).toNat default).sku hi u
 have hln:((adds.take i).map (D2 items)).length=i:=by rw [List.length_map,List.length_take];omega
 have htk:(adds.take (i+1)).map (D2 items)=(adds.take i).map (D2 items)++[D2 items (adds.getD (i:Int).toNat default)]:=by rw [I4 hi3,List.map_append];rfl
 have hrng:=A3C (fun x:Ab.Item=>x.sku.toList==(adds.getD (i:Int).toNat default).sku.toList) items
 have hAL:D2 items (adds.getD (i:Int).toNat default)=⟨(adds.getD (i:Int).toNat default).sku,(adds.getD (i:Int).toNat default).qty,(items.getD (F7 items (adds.getD (i:Int).toNat default).sku).toNat default).price⟩:=rfl
 have hno3:=fun h=>K0 (q:=fun j=>(fun x:Add=>decide (F7 items x.sku<0)) (adds.getD j default)=false) hno2 h
 have hpos:(fun x:Add=>decide (F7 items x.sku<0)) (adds.getD (i:Int).toNat default)=true→F1 items adds=([],7):=fun h=>by
  rw [if_pos (List.any_eq_true.2 ⟨_,A7 hi3,h⟩)] at hB;exact hB
 have hf0:F7 items (adds.getD (i:Int).toNat default).sku=F7 items (adds.getD i default).sku:=rfl
 simp only at hpos hno3
 rw [←hf0] at hno3
 generalize hfv:F7 items (adds.getD (i:Int).toNat default).sku=FV at hF hpos hno3 hAL
 have hrng2 : -1≤FV∧FV<items.length:=by rw [←hfv];exact hrng
 conv=>whnf
 refine G9 ?_
 refine H9 (hF _) ?_
 refine B5 (fun h5=>?_) (fun h5=>?_)<;>rw [h5]
 ·conv=>whnf
  exact .inl ⟨7,hpos h5,rfl,hc.sup⟩
 have h5':=of_decide_eq_false h5
 conv=>whnf
 refine ⟨[17,18],[],List.range 20,by kernel_rfl,?_⟩;conv=>whnf
 refine G9 ?_
 refine G9 ?_
 refine G9 ?_
 refine I0.app (y:=D2 items (adds.getD (i:Int).toNat default)) (q:=r51) rfl rfl rfl rfl rfl (by rw [hAL];rfl) (by rw [hln];show (i+1) * 32≤140737488355328;omega) hc (fun sv' t' hc'=>?_);conv=>whnf
 refine H4 ?_
 exact nx hi3 ⟨sv',hno3 h5,by rw [B7 (by omega)],by rw [htk];exact hc'⟩
theorem Q9.take {us:List A6} {l:List Int} (h:Q9 us l) (n:Nat):Q9 us (l.take n):=by
 have e:∀ k,k<(l.take n).length→gI (l.take n) k=gI l k∧k<l.length:=fun k hk=>by
  rw [List.length_take] at hk
  unfold gI
  rw [List.getD_eq_getElem?_getD,List.getD_eq_getElem?_getD,List.getElem?_take_of_lt (by omega)]
  exact ⟨rfl,by omega⟩
 exact ⟨fun k hk=>by rw [(e k hk).1];exact h.rng k (e k hk).2,fun i k hik hk=>by rw [(e k hk).1,(e i (by omega)).1];exact h.ne i k hik (e k hk).2⟩
theorem B2x (used:List Bool) (l:List QE):∃ pre,l=pre++(H8 used l).2∧∀ e∈pre,used.getD e.2.toNat default=true∨(H8 used l).1=some e.2:=by
 induction l with
 | nil=>exact ⟨[],rfl,fun e h=>by cases h⟩
 | cons e l ih =>
  by_cases hu:used.getD e.2.toNat default=true
  ·have ht:H8 used (e::l)=H8 used l:=by
    show (if used.getD e.2.toNat default=true then H8 used l else (some e.2,l))=_
    rw [if_pos hu]
   obtain ⟨pre,h1,h2⟩:=ih
   rw [ht]
   exact ⟨e::pre,by rw [List.cons_append,←h1],fun x hx=>by
    rcases List.mem_cons.1 hx with rfl | hx
    ·exact .inl hu
    ·exact h2 x hx⟩
  ·have ht:H8 used (e::l)=(some e.2,l):=by
    show (if used.getD e.2.toNat default=true then H8 used l else (some e.2,l))=_
    rw [if_neg hu]
   rw [ht]
   exact ⟨[e],rfl,fun x hx=>by rw [List.mem_singleton] at hx;subst hx;exact .inr rfl⟩
def B2M (E:Nat→List QE) (n:Nat) (s:Z0):Prop:=∀ k,k<n→∃ pre,E k=pre++s.es k∧∀ e∈pre,s.used.getD e.2.toNat default=true
theorem A9a {used:List Bool} {i:Nat} (hi:i<used.length) (j:Nat):(used.set i true).getD j default=if j=i then true else used.getD j default:=by
 simp only [List.getD_eq_getElem?_getD,List.getElem?_set]
 by_cases h:j=i
 ·subst h;simp [hi]
 ·rw [if_neg (fun e=>h e.symm),if_neg h]
theorem B2M.take {E:Nat→List QE} {us:List A6} {n:Nat} {s s':Z0} (h:B2M E n s) (hok:MOk us n s) {k:Nat} (hk:k<n) (ht:T4 k s=some s'):B2M E n s':=by
 obtain ⟨pre0,p1,p2⟩:=B2x s.used (s.es k)
 obtain ⟨_,t2,_,_⟩:=W7 s.used (s.es k)
 unfold T4 at ht
 split at ht
 ·cases ht
 ·rename_i i hi
  cases ht
  obtain ⟨e0,he0,rfl,_⟩:=t2 i hi
  have hlt:e0.2.toNat<s.used.length:=by rw [hok.len];exact (hok.rng k hk e0 he0).2
  intro j hj
  obtain ⟨pre,h1,h2⟩:=h j hj
  have hmono:∀ e:QE,s.used.getD e.2.toNat default=true→(s.used.set e0.2.toNat true).getD e.2.toNat default=true:=fun e he=>by
   rw [A9a hlt];split
   ·rfl
   ·exact he
  by_cases ej:j=k
  ·subst ej
   refine ⟨pre++pre0,?_,fun e he=>?_⟩
   ·show E j=_++N9 s.es j _ j
    rw [C5,List.append_assoc,←p1];exact h1
   ·rcases List.mem_append.1 he with he | he
    ·exact hmono e (h2 e he)
    ·rcases p2 e he with he | he
     ·exact hmono e he
     ·rw [hi] at he
      have he:=Option.some.inj he
      show (s.used.set _ true).getD _ default=true
      rw [A9a hlt,if_pos (by rw [he])]
  ·refine ⟨pre,?_,fun e he=>hmono e (h2 e he)⟩
   show E j=_++N9 s.es k _ j
   rw [F3 ej];exact h1
abbrev RL (ls:List Int) (svl:AV):St→St→Prop:=fun s t=>ROut E2 2 1 (fun k=>eI (gI ls k)) ls.length s svl t
abbrev RA (all ls:List Int) (sva svl:AV):St→St→Prop:=fun s t=>ROut (RL ls svl) 3 1 (fun k=>eI (gI all k)) all.length s sva t
theorem B4W (ls:List Int) (svl:AV):G0 (RL ls svl):=A1D P7 _ _ _ _ _
theorem RA.start (s:St):RA [] [] .emp .emp s s:=ROut.start (ROut.start (E2.refl s) _ _ _) _ _ _
theorem RA.shift {all ls:List Int} {sva svl:AV} {s t:St} (h:RA all ls sva svl s t) (a b:AV):∃ t2,A4 [a,sva,svl,b] t [a,B2 all,B2 ls,b] t2∧E2 s t2:=by
 obtain ⟨t1,h1,h2⟩:=ROut.shift (B4W ls svl) h
 obtain ⟨t2,h3,h4⟩:=ROut.shift P7 h2
 exact ⟨t2,A4.cons (A4.keep _ _) (A4.cons h1 (A4.cons h3 (A4.keep _ _))),h4⟩
def O6 (x:Add):Add:=⟨A4s (A6M x.sku),1+Q3 x.qty 9⟩
def O4 (l:List Add):List Add:=if l.length=0 then [⟨⟨#[97]⟩,2⟩] else (l.take 6).map O6
theorem A9T (l:List Add) (st:St):S P 39 [A5 2 L2 l] st fun v st'=>v=A5 2 L2 (O4 l)∧st'=st:=by
 refine S.post (post:=fun v s=>(l.length≠0∧I0 84 2 L2 ((l.take 6).map O6) st v s)∨(l.length=0∧s=st∧∃ F:Nat→AV,F 0=L2 ⟨⟨#[97]⟩,2⟩∧v=.arr 2 1 F)) ?_ (fun v s hv=>⟨_,st,⟨rfl,rfl⟩,by
  unfold O4
  rcases hv with ⟨h,hc⟩ | ⟨h,rfl,F,hF,rfl⟩
  ·rw [if_neg h];exact hc.shift
  ·rw [if_pos h]
   exact A4.arr fun i hi=>by
    have:i=0:=by omega
    subst this;exact hF⟩)
 refine E3 [] Tryz.func39 ?_
 refine lp (min l.length 6) [0,3,4] (fun i vs s=>∃ sv,vs=[A5 2 L2 l,sv,eI i]∧I0 84 2 L2 ((l.take i).map O6) st sv s) ?_ ?_
 ·conv=>whnf
  exact ⟨.emp,rfl,I0.start _ _ _ _⟩
 rintro i vs s hi ⟨sv,rfl,hc⟩
 have hfin:i=min l.length 6→(l.take i).map O6=(l.take 6).map O6:=fun e=>by
  rcases Nat.le_total l.length 6 with h | h
  ·rw [show i=l.length by omega,List.take_length,List.take_of_length_le h]
  ·rw [show i=6 by omega]
 have hlen:((l.take i).map O6).length=i:=by rw [List.length_map,List.length_take];omega
 conv=>whnf
 refine B5 (fun h1=>?_) (fun h1=>?_)<;>rw [h1]<;>simp only [decide_eq_true_eq,decide_eq_false_iff_not] at h1
 case' refine_1 =>
  conv=>whnf
  refine B5 (fun h2=>?_) (fun h2=>?_)<;>rw [h2]<;>simp only [decide_eq_true_eq,decide_eq_false_iff_not] at h2
 case' refine_1.refine_1 =>
  have hi':i<min l.length 6:=by omega
  have htk:(l.take (i+1)).map O6=(l.take i).map O6++[O6 (l.getD (i:Int).toNat default)]:=B4r (by omega) O6
  have hm:=A4B (l.getD (i:Int).toNat default).qty (n:=9) (by decide)
  have hw:IntKind.i64.wrap (1+Q3 (l.getD (i:Int).toNat default).qty 9)=1+Q3 (l.getD (i:Int).toNat default).qty 9:=B0 (by omega) (by omega)
  conv=>whnf
  refine ⟨[16,17],[],List.range 19,by kernel_rfl,?_⟩;conv=>whnf
  refine G9 ?_
  refine cqW (A9S (l.getD (i:Int).toNat default).sku _) ?_
  refine cqW (B4a (A6M (l.getD (i:Int).toNat default).sku) _) ?_
  refine G9 ?_
  refine cqW (B0Q (l.getD (i:Int).toNat default).qty 9 (by decide) (by decide) _) ?_
  refine I0.app (q:=r84) (y:=O6 (l.getD (i:Int).toNat default)) rfl rfl rfl rfl rfl (by show AV.agg [_,AV.int _ (IntKind.i64.wrap (1+Q3 (l.getD (i:Int).toNat default).qty 9))]=_;rw [hw];rfl) (by rw [hlen];show (i+1) * 24≤140737488355328;omega) hc (fun sv' s' hc'=>?_);conv=>whnf
  refine H4 ?_
  exact nx hi' ⟨sv',by rw [B7 (by omega)],by rw [htk];exact hc'⟩
 all_goals
  have hend:=hfin (by omega)
  rw [hend] at hc hlen
  rcases hc with ⟨hn,rfl,rfl⟩ | ⟨hn,b,g,hb,rfl,rfl,hg⟩
 case' refine_1.refine_2.inl | refine_2.inl =>
  conv=>whnf
  exact .inr ⟨by omega,rfl,_,rfl,rfl⟩
 case' refine_1.refine_2.inr | refine_2.inr =>
  have hz:(((((l.take 6).map O6).length:Nat):Int)==0)=false:=by rw [beq_eq_false_iff_ne];omega
  conv=>whnf
  rw [hz];conv=>whnf
  exact .inl ⟨by omega,.inr ⟨hn,b,g,hb,rfl,rfl,hg⟩⟩
def aqZ:N0:=⟨⟨#[122]⟩,[],1000,0⟩
def aqI:List Ab.Item:=[⟨⟨#[97]⟩,⟨#[120]⟩,50,false⟩]
def aqR:Q2:=⟨aqI,[],⟨false,false,0,[aqZ]⟩,⟨0,0⟩,⟨0,0,1,0,[],[]⟩⟩
def aqL:List G1:=[⟨⟨#[97]⟩,2,50⟩]
def aqA:List Add:=[⟨⟨#[97]⟩,2⟩]
def aqQ:A4O:=⟨[100],[10],0,0,110,[]⟩
theorem B3b:F1 aqI aqA=(aqL,0):=by kernel_rfl
theorem B3a:G3 aqR [] aqL=0:=by kernel_rfl
theorem B3c:R8 aqR aqL [] []=⟨[100],100,0,[]⟩:=by kernel_rfl
theorem B6L:A2E aqR:=⟨Nat.zero_le _,fun p hp=>absurd hp List.not_mem_nil,by show 0<_;decide,by show 0<_;decide⟩
theorem A8U {codes:List D8} {o:List Int} (ho:A4p [] codes o):G8 [] o=[]:=List.perm_nil.1 ((B2f [] o).trans ho.1)
theorem B1r (st:St):S P 18 [A0s aqR,E6 [],A5 3 F2 aqL] st fun v st'=>v=.tuple [A2S ⟨[100],100,0,[]⟩,eI 0]∧st'=st :=
 (B5F B4l aqR [] aqL B6L (by decide) (by decide) (by decide) st).mono fun v s hv=>by
  obtain ⟨hv,rfl⟩:=hv
  refine ⟨?_,rfl⟩
  rcases hv with ⟨h,_⟩ | ⟨_,o1,o2,h1,h2,h3⟩
  ·exact absurd B3a h
  ·rw [show aqR.promos=[] from rfl] at h1 h2 h3
   rw [A8U h1,A8U h2,B3c] at h3
   exact h3
theorem A7g:A2d aqR.tax aqZ (L9 aqR aqL) [100] 0:=by
 refine ⟨by kernel_rfl,by kernel_rfl,by kernel_rfl,⟨by decide,fun x hx=>?_,by decide⟩,by decide⟩
 rw [List.mem_singleton.1 hx];decide
theorem B1s (st:St):S P 45 [A0s aqR,eS ⟨#[122]⟩,eB false,E6 [],A5 3 F2 aqL] st fun v st'=>v=.tuple [A9A aqQ,eI 0]∧st'=st:=by
 have hI:∀ st,S P 75 [A5 4 C6 aqR.items,A5 3 F2 aqL] st fun v s=>v=A5 4 C6 (C2 aqR.items aqL)∧s=st:=fun st=>A6F _ _ (by decide) (by decide) (fun x hx=>by rw [List.mem_singleton.1 hx];kernel_rfl) st
 have h:=B5H (r:=aqR) (codes:=[]) (l:=aqL) (Pr:=⟨[100],100,0,[]⟩) (z:=aqZ) (zone:=⟨#[122]⟩) false B1r hI (by decide) A7g (by kernel_rfl) (fun st=>B3k aqR.tax _ _ (by decide) (by kernel_rfl) (fun x hx=>(A2X A7g).2 x hx) st) (B1O A7g false) st
 rw [show A9V aqR aqZ false aqL ⟨[100],100,0,[]⟩=aqQ by kernel_rfl] at h
 exact h
theorem B1t (st:St):S P 37 [] st fun v st'=>v=.bool true∧st'=st:=by
 have hLn:=fun st=>B3R aqI aqA (by decide) st
 rw [B3b] at hLn
 have hBk:=fun st=>B6M aqQ ⟨by decide,fun x hx=>by rw [List.mem_singleton.1 hx];decide⟩ ⟨by decide,fun x hx=>by rw [List.mem_singleton.1 hx];decide⟩ st
 refine A3P ?_
 refine E3 [1] Tryz.func37 ?_
 refine F0 ?_ (C1 (hLn st) ?_)
 ·refine A4.cons (Le.shift (Le.arr1 ?_ rfl) _) (Le.shift (Le.arr1 ?_ rfl) _)
  all_goals repeat' first | exact LeL.nil | refine LeL.cons ?_ ?_ | exact Le.refl _
 conv=>whnf
 refine F0 ?_ (C1 (B1s st) ?_)
 ·refine A4.cons (Le.shift (Le.agg ?_) _) (A4.cons (A4.keep [eS ⟨#[122]⟩] _) (A4.cons (A4.keep [eB false] _) (A4.cons (Le.shift (Le.emp _ _) _) (A4.keep _ _))))
  repeat' first | exact LeL.nil | refine LeL.cons ?_ ?_ | exact Le.refl _ | exact Le.emp _ _ | refine Le.arr1 ?_ rfl
 conv=>whnf
 intro b hb;conv=>whnf
 refine stU (A0 ..) rfl ?_
 rw [G7];conv=>whnf
 refine J7 (A0 ..) (B3 ..) ?_
 refine J7 (A0 ..) (B3 ..) ?_
 refine H9 (hBk _) ?_
 exact ⟨rfl,(E2.refl st).upd hb⟩
theorem B1C (x:G1) (st:St):S P 106 [F2 x,F2 x] st fun v st'=>v=.bool true∧st'=st:=by
 refine E3 [2,3] Tryz.func106 ?_
 refine ⟨?_,rfl⟩
 show AV.bool ((x.sku.toList==x.sku.toList)&&((x.qty==x.qty)&&((x.price==x.price)&&true)))=AV.bool true
 simp only [beq_self_eq_true,Bool.and_true]
theorem A8Z (l:List G1) (hl:Sm l.length) (st:St):S P 105 [A5 3 (F2) l,A5 3 (F2) l,.fn (.func 106) [] []] st fun v st'=>v=.bool true∧st'=st:=by
 refine E3 [] Tryz.func105 ?_
 rw [show ((l.length:Int) != (l.length:Int))=false from bne_self_eq_false _];conv=>whnf
 refine lp l.length [0,1,2,7] (fun i vs s=>vs=[A5 3 (F2) l,A5 3 (F2) l,.fn (.func 106) [] [],eI i]∧s=st) ?_ ?_
 ·conv=>whnf
  exact ⟨rfl,rfl⟩
 ·rintro i vs s hi ⟨rfl,rfl⟩
  conv=>whnf
  cases h:decide ((i:Int)<(l.length:Int))
  ·obtain rfl:=J3 h hi
   conv=>whnf
   exact ⟨rfl,rfl⟩
  ·have hi':=S8 h
   conv=>whnf
   refine ⟨[],[],List.range 11,by kernel_rfl,?_⟩;conv=>whnf
   refine G9 ?_
   refine G9 ?_
   refine cqW (B1C _ _) ?_
   refine H4 ?_
   exact nx hi' ⟨by rw [B7 (by omega)],rfl⟩
theorem A7D (l:List G1) (hl:Sm l.length) (st:St):S P 34 [A5 3 F2 l,A5 3 F2 l] st fun v st'=>v=.bool true∧st'=st:=by
 refine E3 [] Tryz.func34 ?_
 refine H9 (A8Z l hl _) ?_
 exact ⟨rfl,rfl⟩
theorem A4b (l:List Add):(1≤(O4 l).length∧(O4 l).length≤6)∧∀ x∈O4 l,(1≤x.qty∧x.qty≤9)∧∃ n,x.sku=A4s n:=by
 unfold O4
 split
 ·exact ⟨⟨by decide,by decide⟩,fun x hx=>by rw [List.mem_singleton.1 hx];exact ⟨⟨by decide,by decide⟩,0,by kernel_rfl⟩⟩
 ·rename_i h
  refine ⟨by rw [List.length_map,List.length_take];omega,fun x hx=>?_⟩
  obtain ⟨y,_,rfl⟩:=List.mem_map.1 hx
  have:=A4B y.qty (n:=9) (by decide)
  exact ⟨by show 1≤1+Q3 y.qty 9∧1+Q3 y.qty 9≤9;omega,_,rfl⟩
theorem A8P (items:List Ab.Item) (l:List Add):F1 (K4 items) (O4 l)=((O4 l).map (D2 (K4 items)),0):=by
 obtain ⟨⟨h1,h2⟩,h3⟩:=A4b l
 unfold F1
 rw [if_neg (by omega),if_neg (by
  rw [Bool.not_eq_true,List.any_eq_false]
  intro x hx
  have:=(h3 x hx).1
  unfold I6
  rw [decide_eq_false (by omega),decide_eq_false (by omega)];simp),if_neg (by
  rw [Bool.not_eq_true,List.any_eq_false]
  intro x hx
  obtain ⟨n,hn⟩:=(h3 x hx).2
  have:=A9I items n
  unfold known at this
  rw [hn]
  simp only [decide_eq_true_eq] at this ⊢
  omega)]
set_option maxHeartbeats 2000000 in
theorem A7H (items:List Ab.Item) (adds:List Add) (near:Bool) (st:St):S P 6 [A5 4 C6 items,A5 2 L2 adds,eB near] st fun v st'=>v=.bool true:=by
 have nA:=fun s=>B1t s
 have cI:=fun s=>A8Q items s
 have cA:=fun s=>A9T adds s
 have hpa:=A4b adds
 have hpi:(K4 items).length=8:=by unfold K4;rw [List.length_map,List.length_range]
 have hok:(F1 (K4 items) (O4 adds)).2=0:=by rw [A8P]
 generalize K4 items=I1 at *
 generalize O4 adds=A1 at *
 refine E3 [] Tryz.func6 ?_
 refine B5 (fun h1=>?_) (fun h1=>?_)<;>rw [h1]<;>simp only [decide_eq_true_eq,decide_eq_false_iff_not] at h1
 ·conv=>whnf
  refine H9 (nA _) ?_
  exact rfl
 conv=>whnf
 refine B5 (fun h2=>?_) (fun h2=>?_)<;>rw [h2]<;>simp only [decide_eq_true_eq,decide_eq_false_iff_not] at h2
 ·conv=>whnf
  refine H9 (nA _) ?_
  exact rfl
 conv=>whnf
 cases near
 case' true =>
  conv=>whnf
  refine H9 (cI _) ?_
  refine C1 (cA _) ?_
  obtain ⟨⟨I,rfl⟩,A,rfl⟩:(∃ I,I=I1)∧∃ A,A=A1:=⟨⟨_,rfl⟩,_,rfl⟩
  have hI:I.length≤1000:=by omega
  have hA:A.length≤1000:=by have:=hpa.1;omega
  have hN:((F1 I A).2==0)=true:=by rw [hok];rfl
 case' false =>
  obtain ⟨⟨I,rfl⟩,A,rfl⟩:(∃ I,I=items)∧∃ A,A=adds:=⟨⟨_,rfl⟩,_,rfl⟩
  have hI:I.length≤1000:=by omega
  have hA:A.length≤1000:=by omega
  have hN:((F1 I A).2==0)=((F1 I A).2==0):=rfl
 all_goals
  conv=>whnf
  refine call (B1U A ⟨⟨#[]⟩,71⟩ hA _) (fun v s hv=>?_)
  obtain ⟨b,g,hb,rfl,rfl,hR⟩:=hv
  have hLn:(F1 I A).1.length≤1000:=by
   unfold F1
   split
   ·exact Nat.zero_le _
   ·split
    ·exact Nat.zero_le _
    ·split
     ·exact Nat.zero_le _
     ·rw [List.length_map];omega
  have c1:=B2c I A (by omega) b (A.length+3) g _ (A0 st b _) (by omega) hR.1
  have c2:=fun s=>A9Y I A (by show _≤_;omega) s
  have c3:=fun s=>A7D (F1 I A).1 (by show _≤_;omega) s
  have c4:=A9H A ⟨⟨#[]⟩,71⟩ hA b g _ (A0 st b _) hR
  have e1:∀ z:Int,(z==z)=true:=fun z=>beq_self_eq_true z
  generalize (F1 I A).1=L1 at *
  generalize (F1 I A).2=E1 at *
  repeat' ((conv=>whnf);first | refine C1 c1 ?_ | refine C1 (c2 _) ?_ | refine C1 (nA _) ?_ | refine C1 (c3 _) ?_ | refine C1 c4 ?_ | rw [e1] | rw [hN] | fail)
  exact rfl
end Go.Proofs.YtbajhapmlfbelaaGreat
