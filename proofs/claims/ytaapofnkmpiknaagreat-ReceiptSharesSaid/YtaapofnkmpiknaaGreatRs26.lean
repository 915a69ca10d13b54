/- Part 26 of the proof: contracts of the functions that the law reaches -/
import Derived.Test.YtaapofnkmpiknaaGreatRs25
set_option maxRecDepth 100000
set_option linter.unusedVariables false
set_option linter.unusedSimpArgs false
namespace Go.Proofs.YtaapofnkmpiknaaGreat
open Go Go.Ab
attribute [local irreducible] upd del
theorem B0n {α : Type} [Inhabited α] {l:List α} {p : α→Bool} {i:Nat} (hi:i<l.length) (h:p (l.getD i default)=true) (hno:∀ j,j<i→p (l.getD j default)=false):l.find? p=some (l.getD i default):=by
 have g:∀ j (hj:j<l.length),l.getD j default=l[j]:=fun j hj=>by rw [D5C,D5K hj];rfl
 rw [List.find?_eq_some_iff_getElem]
 refine ⟨h,i,hi,(g i hi).symm,fun j hj=>?_⟩
 have:=hno j hj
 rw [g j (by omega)] at this
 rw [this];rfl
theorem B0o {α : Type} [Inhabited α] {l:List α} {p : α→Bool} (hno:∀ j,j<l.length→p (l.getD j default)=false):l.find? p=none:=by
 rw [D8i]
 intro x hx
 obtain ⟨j,hj,rfl⟩:=D3 hx
 rw [hno j hj];simp
theorem B8u (z:K5) (c:C8) (hl:z.rates.length≤100000) (st:St):S P 189 [T4 z,eS c] st fun v st'=>v=eI (F0 z c)∧st'=st:=by
 refine F2 [2,6] Tryz.func189 ?_
 refine lp z.rates.length [1,2,8,9,10] (fun i vs t=>(∀ j,j<i→((z.rates.getD j default).cat.toList==c.toList)=false)∧vs=[eS c,.fptr (T4 z) 0,A8 2 A0W z.rates,eI z.rates.length,eI i]∧t=st) ?_ ?_
 ·conv=>whnf
  exact ⟨fun j hj=>absurd hj (by omega),rfl,rfl⟩
 ·rintro i vs t hi ⟨hno,rfl,rfl⟩
  conv=>whnf
  cases h1:decide ((i:Int)<(z.rates.length:Int))
  ·obtain rfl:=C4 h1 hi
   have hf:F0 z c=z.rest:=by unfold F0;rw [B0o hno]
   rw [hf];conv=>whnf
   exact ⟨rfl,rfl⟩
  ·have hi':=D8 h1
   conv=>whnf
   refine E7 ?_
   refine B8 (fun h2=>?_) (fun h2=>?_)<;>rw [h2]
   ·have hf:F0 z c=(z.rates.getD (i:Int).toNat default).rate:=by unfold F0;rw [B0n (p:=fun x:G4=>x.cat.toList==c.toList) hi' h2 hno];rfl
    rw [hf];conv=>whnf
    exact ⟨rfl,rfl⟩
   ·conv=>whnf
    refine F7 ?_
    exact nx hi' ⟨H8 hno h2,by rw [B4 (by omega)],rfl⟩
theorem B4d (l:List G4) (hl:l.length≤100000) (st:St):S P 276 [A8 2 A0W l] st fun v st'=>v=A8 2 A0W l∧st'=st:=by
 refine A0L (ty:=209) ?_
 refine SyW [] Tryz.func276 ?_
 cases l with
 | nil =>
  conv=>whnf
  refine ⟨?_,?_⟩
  ·conv=>whnf
   exact Col.start _ _ _ _
  ·conv=>whnf
   refine apE rfl rfl rfl rfl rfl (by show 0 * 24≤_;omega) (fun _=>?_) (fun h=>absurd h (by show ¬ 0<0;omega));conv=>whnf
   exact Col.start _ _ _ _
 | cons u us =>
  conv=>whnf
  refine Col.apps (n:=0) (m:=us.length+1) (q:=C6k) (f:=fun k=>A0W ((u::us).getD k default)) rfl rfl rfl rfl rfl (fun i hi=>by rw [D5R]) (by show (0+(us.length+1)) * 24≤140737488355328;simp only [D6p] at hl;omega) (Col.start _ _ _ _) (fun sv' st'' hc'=>?_);conv=>whnf
  rw [D5R] at hc'
  exact hc'
theorem B5z (z:K5) (hl:z.rates.length≤100000) (st:St):S P 236 [T4 z] st fun v st'=>v=T4 z∧st'=st:=by
 have hc:=fun s=>B4d z.rates hl s
 refine A1S ?_
 refine F2 [] Tryz.func236 ?_
 intro b1 h1;conv=>whnf
 intro b2 h2
 have h12:b1≠b2:=fun e=>by subst e;rw [A0] at h2;cases h2
 conv=>whnf
 refine J0 (by rw [A9 h12];exact A0 ..) rfl ?_
 refine I5 (hc _) ?_
 refine Y9 (by rw [A9 h12];exact A0 ..) rfl ?_
 refine J0 (A0 ..) (A4 ..) ?_
 refine Y9 (by rw [A9 h12.symm];exact A0 ..) rfl ?_
 refine J0 (A0 ..) (A4 ..) ?_
 have hn2:st b2=none:=by rw [A9 h12.symm] at h2;exact h2
 exact ⟨rfl,((((E8.refl st).upd h1).upd h2).over h1).over hn2⟩
def C7v:K5:=⟨⟨#[]⟩,[],0,0⟩
theorem B8v (t:Tax) (s:C8) (hl:t.zones.length≤100000) (hr:∀ z∈t.zones,z.rates.length≤100000) (st:St) :
  S P 188 [S8 t,eS s] st fun v st'=>v=.tuple [T4 ((Z6 t.zones s).getD C7v),.bool (Z6 t.zones s).isSome]∧st'=st:=by
 refine S.post (post:=fun v s'=>E8 st s'∧((∃ z,Z6 t.zones s=some z∧v=.tuple [T4 z,.bool true])∨(Z6 t.zones s=none∧v=.tuple [.agg [eS ⟨#[]⟩,.emp,eI 0,eI 0],.bool false]))) ?_ (fun v s' ⟨hs,h⟩=>⟨_,st,⟨rfl,rfl⟩,by
  rcases h with ⟨z,h1,rfl⟩ | ⟨h1,rfl⟩
  ·rw [h1];exact hs.shift _
  ·rw [h1]
   exact (A7.tuple (A7.cons (Le.shift (Le.agg (F1.cons (Le.refl _) (F1.cons (Le.emp _ _) (F1.refl _)))) _) (A7.keep _ _)) rfl).trans (hs.shift _)⟩)
 refine F2 [2,7] Tryz.func188 ?_
 intro b4 hb4;conv=>whnf
 refine lp t.zones.length [1,4,9,10,11] (fun i vs u=>(∀ j,j<i→((t.zones.getD j default).name.toList==s.toList)=false)∧vs=[eS s,.optr 4 b4 0 0,A8 4 T4 t.zones,eI t.zones.length,eI i]∧u=upd st b4 ⟨103,4,1,fun _=>H2 C1l.zero⟩) ?_ ?_
 ·conv=>whnf
  exact ⟨fun j hj=>absurd hj (by omega),rfl,rfl⟩
 ·rintro i vs u hi ⟨hno,rfl,rfl⟩
  conv=>whnf
  cases h1:decide ((i:Int)<(t.zones.length:Int))
  ·obtain rfl:=C4 h1 hi
   have hf:Z6 t.zones s=none:=B0o hno
   conv=>whnf
   refine Y9 (A0 ..) rfl ?_
   refine J0 (A0 ..) (A4 ..) ?_
   exact ⟨((E8.refl st).upd hb4).over hb4,.inr ⟨hf,rfl⟩⟩
  ·have hi':=D8 h1
   conv=>whnf
   refine E7 ?_
   refine B8 (fun h2=>?_) (fun h2=>?_)<;>rw [h2]
   ·have hf:Z6 t.zones s=some (t.zones.getD (i:Int).toNat default):=B0n (p:=fun z:K5=>z.name.toList==s.toList) hi' h2 hno
    have hc:=fun u=>B5z (t.zones.getD (i:Int).toNat default) (hr _ (A6 hi')) u
    generalize t.zones.getD (i:Int).toNat default=z at hf hc
    conv=>whnf
    refine I5 (hc _) ?_
    refine Y9 (A0 ..) rfl ?_
    refine J0 (A0 ..) (A4 ..) ?_
    exact ⟨((E8.refl st).upd hb4).over hb4,.inl ⟨z,hf,rfl⟩⟩
   ·conv=>whnf
    refine F7 ?_
    exact nx hi' ⟨H8 hno h2,by rw [B4 (by omega)],rfl⟩
theorem A7z (x:Int) (st:St):S P 235 [eI x] st fun v st'=>v=.bool (O7 0 10000000000000 x)∧st'=st:=by
 refine SyW [] Tryz.func235 ?_
 repeat' ((conv=>whnf);first | (refine B8 (fun h=>?_) (fun h=>?_)<;>rw [h]))
 all_goals (conv=>whnf)
 all_goals (refine ⟨?_,rfl⟩;show AV.bool _=AV.bool _;congr 1)
 all_goals (simp only [O7, *,D5T,D6b];try rfl)
theorem B7V (t:Tax) (x rate:Int) (hr:0≤rate∧rate≤10000) (st:St):S P 192 [S8 t,eI x,eI rate] st fun v st'=>v=eI (N8 t x rate)∧st'=st:=by
 have hM:N8 t x rate=(W4 x rate (A9a t rate) t.round).1:=rfl
 have hw:IntKind.i64.wrap (10000+rate)=10000+rate:=A5 (by omega) (by omega)
 refine F2 [3] Tryz.func192 ?_
 cases hi:t.incl
 ·have hd:A9a t rate=10000:=by unfold A9a;rw [if_neg (by rw [hi];simp)];rfl
  conv=>whnf
  refine B3 (B5f x rate 10000 t.round st) ?_
  rw [hM,hd]
  generalize W4 x rate 10000 t.round=Y
  conv=>whnf
  exact ⟨rfl,rfl⟩
 ·have hd:A9a t rate=10000+rate:=by unfold A9a;rw [if_pos hi]
  conv=>whnf
  rw [hw]
  refine B3 (B5f x rate (10000+rate) t.round st) ?_
  rw [hM,hd]
  generalize W4 x rate (10000+rate) t.round=Y
  conv=>whnf
  exact ⟨rfl,rfl⟩
theorem B1h (t:Tax) (rates nets:List Int) (i:Nat):(List.range (i+1)).map (fun i=>N8 t (gI nets i) (gI rates i))=(List.range i).map (fun i=>N8 t (gI nets i) (gI rates i))++[N8 t (gI nets i) (gI rates i)]:=by rw [D6R,D6g];rfl
theorem B5x (t:Tax) (rates nets:List Int) (hn:nets.length≤1000) (hl:rates.length=nets.length) (hq:∀ x∈rates,0≤x∧x≤10000) (st:St):S P 190 [S8 t,B0 rates,B0 nets] st fun v st'=>v=B0 (X1 t rates nets)∧st'=st:=by
 refine A0L (ty:=2) ?_
 have hL:X1 t rates nets=(List.range nets.length).map fun i=>N8 t (gI nets i) (gI rates i):=rfl
 rw [hL]
 refine F2 [3] Tryz.func190 ?_
 refine lp nets.length [1,3,7,10,11,12] (fun i vs s=>∃ sv,vs=[B0 rates,.fptr (S8 t) 0,sv,B0 nets,eI nets.length,eI i]∧E0 2 1 eI ((List.range i).map fun i=>N8 t (gI nets i) (gI rates i)) st sv s) ?_ ?_
 ·conv=>whnf
  exact ⟨.emp,rfl,E0.start _ _ _ _⟩
 ·rintro i vs s hi ⟨sv,rfl,hc⟩
  conv=>whnf
  cases h1:decide ((i:Int)<(nets.length:Int))
  ·obtain rfl:=C4 h1 hi
   conv=>whnf
   exact hc
  ·have hi':=D8 h1
   have hm:=fun u=>B7V t (gI nets (i:Int).toNat) (gI rates (i:Int).toNat) (hq _ (A6 (by show i<_;omega))) u
   have hs:=B1h t rates nets i
   have hln:((List.range i).map fun i=>N8 t (gI nets i) (gI rates i)).length=i:=by rw [D5H,D6c]
   conv=>whnf
   refine E7 ?_
   refine ⟨[8,9],[],List.range 11,by kernel_rfl,?_⟩;conv=>whnf
   refine E7 ?_
   refine ⟨_,H0 (hm _),?_⟩
   have hy:N8 t (gI nets i) (gI rates i)=N8 t (gI nets (i:Int).toNat) (gI rates (i:Int).toNat):=rfl
   rw [hy] at hs
   generalize N8 t (gI nets (i:Int).toNat) (gI rates (i:Int).toNat)=Y at hs
   conv=>whnf
   refine E0.app (y:=Y) (q:=r2) rfl rfl rfl rfl rfl (by rfl) (by rw [hln];show (i+1) * 8≤140737488355328;omega) hc (fun sv' t' hc'=>?_);conv=>whnf
   refine F7 ?_
   exact nx hi' ⟨sv',by rw [B4 (by omega)],by rw [hs];exact hc'⟩
theorem C5U {t:Tax} {z:K5} {cats:List C8} {nets:List Int} {ship:Int} (h:A2z t z cats nets ship) (st:St):S P 187 [S8 t,C9 cats,B0 nets,eI ship] st fun v st'=>v=.bool true∧st'=st:=by
 have hn:=h.nets.len
 have hs:=h.nets.sum
 have hp:=h.nets.pos
 have hc:=h.cats
 have hT:=fun s=>C7s t s
 have hA:=fun s=>A7z ship s
 rw [h.tax] at hT
 rw [show O7 0 10000000000000 ship=true from E3.2 h.ship] at hA
 have htk:∀ i,0≤A2 (nets.take i)∧A2 (nets.take i)≤10000000000000:=fun i=>by
  have:=N1 hp i
  exact ⟨C1 fun x hx=>hp x (D8B hx),by omega⟩
 refine F2 [4] Tryz.func187 ?_
 refine I5 (hT _) ?_
 rw [hc,show ((nets.length:Int) != (nets.length:Int))=false from bne_self_eq_false _];conv=>whnf
 refine B8 (fun h1=>absurd (D5F h1) (by omega)) (fun h1=>?_)
 rw [h1];conv=>whnf
 refine I5 (hA _) ?_
 refine lp nets.length [9,32,33,34] (fun i vs s=>vs=[eI (A2 (nets.take i)),B0 nets,eI nets.length,eI i]∧s=st) ?_ ?_
 ·conv=>whnf
  exact ⟨rfl,rfl⟩
 ·rintro i vs s hi ⟨rfl,rfl⟩
  conv=>whnf
  cases h2:decide ((i:Int)<(nets.length:Int))
  ·obtain rfl:=C4 h2 hi
   have hB:=fun s=>A7z (A2 (nets.take nets.length)) s
   rw [show O7 0 10000000000000 (A2 (nets.take nets.length))=true from E3.2 (htk _)] at hB;conv=>whnf
   refine I5 (hB _) ?_
   exact ⟨rfl,rfl⟩
  ·have hi':=D8 h2
   have hx:0≤gI nets (i:Int).toNat:=hp _ (A6 hi')
   have hx2:gI nets (i:Int).toNat≤A2 nets:=J3 hp (A6 hi')
   have hB:=fun s=>A7z (gI nets (i:Int).toNat) s
   rw [show O7 0 10000000000000 (gI nets (i:Int).toNat)=true from E3.2 (by omega)] at hB
   have hst:A2 (nets.take (i+1))=A2 (nets.take i)+gI nets (i:Int).toNat:=L1 hi'
   have h3:=htk (i+1)
   have hw:IntKind.i64.wrap (A2 (nets.take i)+gI nets (i:Int).toNat)=A2 (nets.take (i+1)):=by rw [hst] at h3 ⊢;exact A5 (by omega) (by omega)
   conv=>whnf
   refine E7 ?_
   refine I5 (hB _) ?_
   rw [hw]
   refine F7 ?_
   exact nx hi' ⟨by rw [B4 (by omega)],rfl⟩
theorem B3L {t:Tax} (h:taxC t=true):t.zones.length≤20∧∀ z∈t.zones,z.rates.length≤40:=by
 have h':=h
 unfold taxC at h
 simp only [D5I,D5W,D6Q,D5D] at h
 refine ⟨by omega,fun z hz=>?_⟩
 obtain ⟨k,hk,rfl⟩:=D3 hz
 exact (A4F (A4j.1 h.2.1 k hk)).2.2.1
def C4N (t:Tax):FuncId:=if t.byOrder=true then 191 else 190
def Z0 (t:Tax) (taxes nets:List Int) (i:Nat):Int:=if t.incl=true then gI nets i - gI taxes i else gI nets i
theorem B7U (f:Nat→Int) (i:Nat):(List.range (i+1)).map f=(List.range i).map f++[f i]:=by rw [D6R,D6g];rfl
theorem B7h (n i:Nat):(List.replicate n (0:Int)).getD i default=0:=by
 rw [D5C,D7U];split<;>rfl
set_option maxHeartbeats 8000000 in
theorem C7Z {t:Tax} {z:K5} {s:C8} {cats:List C8} {nets:List Int} {ship:Int} (h:A2z t z cats nets ship) (hz:Z6 t.zones s=some z) (exempt:Bool)
  (hTax:∀ st,S P (C4N t) [S8 t,B0 (cats.map (F0 z)),B0 nets] st fun v st'=>v=B0 (K9 t (cats.map (F0 z)) nets)∧st'=st) (st:St) :
  S P 124 [S8 t,eS s,eB exempt,C9 cats,B0 nets,eI ship] st fun v st' =>
   v=.tuple [B0 (L5 t z exempt cats nets ship).goods,B0 (L5 t z exempt cats nets ship).taxes,eI (L5 t z exempt cats nets ship).ship,eI (L5 t z exempt cats nets ship).shipTax,eI 0]∧st'=st:=by
 obtain ⟨hr1,hr2⟩:=A3x h
 obtain ⟨t1,t2⟩:=A6s (t:=t) h.nets hr1 hr2
 obtain ⟨l1,l2⟩:=B3L h.tax
 have hzm:z∈t.zones:=D8c hz
 have hzr:=l2 z hzm
 have hn:=h.nets.len
 have hcl:=h.cats
 have hq:=(A4F h.zone).2.1
 have hm:=A2V (t:=t) h.ship.1 hq
 have hs:=h.ship
 have hM:=fun st=>C5U h st
 have hZ:∀ st,S P 188 [S8 t,eS s] st fun v st'=>v=.tuple [T4 z,.bool true]∧st'=st:=fun st=>by
  have:=B8v t s (by omega) (fun z hz=>by have:=l2 z hz;omega) st
  rw [hz] at this;exact this
 have hR:=fun c st=>B8u z c (by omega) st
 have hU:=fun st=>B7V t ship z.ship hq st
 have hL:L5 t z exempt cats nets ship=⟨(List.range nets.length).map (Z0 t (K9 t (cats.map (F0 z)) nets) nets),if exempt=true then List.replicate nets.length 0 else K9 t (cats.map (F0 z)) nets,if t.incl=true then ship - N8 t ship z.ship else ship,if exempt=true then 0 else N8 t ship z.ship⟩:=rfl
 rw [hL]
 have hnx:∀ i,i<nets.length→0≤gI nets i∧gI nets i≤10000000000000:=fun i hi=>by
  have h1:=h.nets.pos _ (show gI nets i∈nets from A6 hi)
  have h2:=J3 h.nets.pos (show gI nets i∈nets from A6 hi)
  have h3:=h.nets.sum
  exact ⟨h1,by omega⟩
 have htx:∀ i,i<nets.length→0≤gI (K9 t (cats.map (F0 z)) nets) i∧gI (K9 t (cats.map (F0 z)) nets) i≤10000000000000:=fun i hi=>t2 _ (A6 (by omega))
 generalize K9 t (cats.map (F0 z)) nets=TX at hTax t1 htx ⊢
 generalize N8 t ship z.ship=MS at hU hm ⊢
 clear hL t2
 refine S.post (post:=fun v s'=>∃ gv tv c1 c2,v=.tuple [gv,tv,eI (if t.incl=true then ship - MS else ship),eI (if exempt=true then 0 else MS),eI 0] ∧
   A7 [gv] s' [B0 ((List.range nets.length).map (Z0 t TX nets))] c1∧A7 [tv] c1 [B0 (if exempt=true then List.replicate nets.length 0 else TX)] c2∧E8 st c2) ?_
  (fun v s' ⟨gv,tv,c1,c2,h1,h2,h3,h4⟩=>⟨_,st,⟨rfl,rfl⟩,by
   rw [h1]
   exact (A7.tuple (A7.cons h2 (A7.cons h3 (A7.keep _ _))) rfl).trans (h4.shift _)⟩)
 refine F2 [6] Tryz.func124 ?_
 refine I5 (hM _) ?_
 refine I5 (hZ _) ?_
 intro b17 hb17;conv=>whnf
 refine stU (A0 ..) rfl ?_
 rw [C0];conv=>whnf
 generalize hst:(upd st b17 _:St)=S0
 obtain ⟨f17,at17,hf17⟩:∃ f17:Nat→AV,S0 b17=some ⟨103,4,1,f17⟩∧f17 0=T4 z:=by rw [←hst];exact ⟨_,A0 ..,by rw [A4];rfl⟩
 have hs0:E8 st S0:=by rw [←hst];exact (E8.refl st).upd hb17
 clear hst
 refine lp cats.length [2,4,5,6,12,17,19,39,40,41] (fun i vs u=>∃ sv,vs=[eB exempt,B0 nets,eI ship,.fptr (S8 t) 0,.emp,.optr 4 b17 0 0,sv,C9 cats,eI cats.length,eI i]∧E0 2 1 eI ((cats.take i).map (F0 z)) S0 sv u) ?_ ?_
 ·conv=>whnf
  exact ⟨.emp,rfl,E0.start _ _ _ _⟩
 rintro i vs u hi ⟨sv,rfl,hc⟩
 have hcs:=hc.sup
 conv=>whnf
 cases h1:decide ((i:Int)<(cats.length:Int))
 case true =>
  have hi':=D8 h1
  have hln:((cats.take i).map (F0 z)).length=i:=by rw [D5H,D5M];omega
  have hRi:=fun st=>hR (cats.getD (i:Int).toNat default) st
  have htk:(cats.take (i+1)).map (F0 z)=(cats.take i).map (F0 z)++[F0 z (cats.getD (i:Int).toNat default)]:=by rw [K4 hi',D6g];rfl
  generalize F0 z (cats.getD (i:Int).toNat default)=RT at hRi htk
  conv=>whnf
  refine E7 ?_
  refine J0 (hcs b17 _ at17) hf17 ?_
  refine I5 (hRi _) ?_
  refine E0.app (y:=RT) (q:=r2) rfl rfl rfl rfl rfl (by rfl) (by rw [hln];show (i+1) * 8≤140737488355328;omega) hc (fun sv' t' hc'=>?_);conv=>whnf
  refine F7 ?_
  exact nx hi' ⟨sv',by rw [B4 (by omega)],by rw [htk];exact hc'⟩
 obtain rfl:=C4 h1 hi
 rw [D5N] at hc
 have hTS:A7 [AV.agg [eB t.incl,eB t.byOrder,eI t.round,A8 4 T4 t.zones],sv,B0 nets] u [S8 t,B0 (cats.map (F0 z)),B0 nets] S0:=A7.cons (A7.keep [S8 t] _) (A7.cons hc.shift (A7.keep _ _))
 clear hc hcs hM hZ hR
 generalize cats.map (F0 z)=RS at hTax hTS
 unfold C4N at hTax;conv=>whnf
 cases hbo:t.byOrder
 case' false=>rw [if_neg (by rw [hbo];simp)] at hTax
 case' true=>rw [if_pos hbo] at hTax
 all_goals
  conv=>whnf
  refine F3 hTS (B3 (hTax _) ?_);conv=>whnf
  refine J0 at17 hf17 ?_
  refine I5 (hU _) ?_
  refine lp nets.length [2,4,6,12,13,14,15,65,66,67] (fun i vs u=>∃ sv,vs=[eB exempt,B0 nets,.fptr (S8 t) 0,sv,B0 TX,eI ship,eI MS,B0 nets,eI nets.length,eI i]∧E0 2 1 eI ((List.range i).map (Z0 t TX nets)) S0 sv u) ?_ ?_
  ·conv=>whnf
   exact ⟨.emp,rfl,E0.start _ _ _ _⟩
  rintro i vs u hi ⟨sv,rfl,hc⟩
  have hcs:=hc.sup
  conv=>whnf
  cases h1:decide ((i:Int)<(nets.length:Int))
  case true =>
   have hi':=D8 h1
   have hln:((List.range i).map (Z0 t TX nets)).length=i:=by rw [D5H,D6c]
   have hnx1:=hnx i hi'
   have htx1:=htx i hi'
   have htk:=B7U (Z0 t TX nets) i
   have hgA:Z0 t TX nets i=if t.incl=true then gI nets (i:Int).toNat - gI TX (i:Int).toNat else gI nets (i:Int).toNat:=rfl
   have hgw:IntKind.i64.wrap (gI nets (i:Int).toNat - gI TX (i:Int).toNat)=gI nets (i:Int).toNat - gI TX (i:Int).toNat:=A5 (show _≤gI nets i - gI TX i by omega) (show gI nets i - gI TX i≤_ by omega)
   generalize Z0 t TX nets i=GA at htk hgA
   conv=>whnf
   refine E7 ?_
   cases hin:t.incl
   case' false=>rw [if_neg (by rw [hin];simp)] at hgA
   case' true =>
    rw [if_pos hin] at hgA;conv=>whnf
    refine E7 ?_
    rw [hgw]
   all_goals
    conv=>whnf
    refine E0.app (y:=GA) (q:=r2) rfl rfl rfl rfl rfl (by rw [hgA];rfl) (by rw [hln];show (i+1) * 8≤140737488355328;omega) hc (fun sv' t' hc'=>?_);conv=>whnf
    refine F7 ?_
    exact nx hi' ⟨sv',by rw [B4 (by omega)],by rw [htk];exact hc'⟩
  obtain rfl:=C4 h1 hi
  have hwS:IntKind.i64.wrap (ship - MS)=ship - MS:=A5 (by omega) (by omega)
  conv=>whnf
  cases hin:t.incl
  case' false=>rw [if_neg (show ¬(false=true) by simp)]
  case' true =>
   rw [if_pos rfl];conv=>whnf
   rw [hwS]
  all_goals
   conv=>whnf
   cases exempt
   ·conv=>whnf
    exact ⟨sv,B0 TX,S0,S0,rfl,hc.shift,A7.keep _ _,hs0⟩
   ·conv=>whnf
    refine mkO rfl rfl rfl (by show 8 * nets.length≤_;omega) (by omega) (by rfl) (fun bz hbz=>?_);conv=>whnf
    have hb0:S0 bz=none:=Col.off hc hbz
    have hc2:=Col.under (y:=⟨2,1,nets.length,fun _=>H2 r2.zero⟩) hc hbz
    refine ⟨sv,.own 1 bz 0 nets.length,upd S0 bz ⟨2,1,nets.length,fun _=>H2 r2.zero⟩,del (upd S0 bz ⟨2,1,nets.length,fun _=>H2 r2.zero⟩) bz,rfl,Col.shift hc2,?_,E8.del (hs0.upd hb0) (hs0.none hb0)⟩
    have e:B0 (List.replicate nets.length 0)=.arr 1 nets.length (fun k=>eI ((List.replicate nets.length (0:Int)).getD k default)):=by unfold B0 A8;rw [D6L]
    rw [if_pos rfl,e]
    exact N7 (A0 ..) rfl (D5L _) (fun k hk=>by rw [B7h];rfl)
structure Add where
 sku:C8
 qty:Int
 deriving Inhabited
def A4U (x:Add):AV:=.agg [eS x.sku,eI x.qty]
theorem B1J (l:List Int) (h:K2 l) (st:St):S P 125 [B0 l] st fun v st'=>v=eI (A2 l)∧st'=st:=by
 have hn:=h.len
 refine F2 [] Tryz.func125 ?_
 refine lp l.length [3,6,7,8] (fun i vs t=>vs=[eI (A2 (l.take i)),B0 l,eI l.length,eI i]∧t=st) ?_ ?_
 ·conv=>whnf
  exact ⟨rfl,rfl⟩
 ·rintro i vs t hi ⟨rfl,rfl⟩
  conv=>whnf
  cases h1:decide ((i:Int)<(l.length:Int))
  ·obtain rfl:=C4 h1 hi
   rw [D5N];conv=>whnf
   exact ⟨rfl,rfl⟩
  ·have hi':=D8 h1
   have hs:IntKind.i64.wrap (A2 (l.take i)+gI l (i:Int).toNat)=A2 (l.take (i+1)):=h.step hi'
   conv=>whnf
   refine E7 ?_
   rw [hs]
   refine F7 ?_
   exact nx hi' ⟨by rw [B4 (by omega)],rfl⟩
theorem C7I (q:Z1) (h1:K2 q.goods) (h2:K2 q.taxes) (st:St):S P 64 [A0a q] st fun v st'=>v=A5q (U6 q)∧st'=st:=by
 have c1:=fun s=>B1J q.goods h1 s
 have c2:=fun s=>B1J q.taxes h2 s
 have hB:U6 q=⟨A2 q.goods,A2 q.taxes,q.ship,q.shipTax,0⟩:=rfl
 rw [hB]
 generalize A2 q.goods=G at c1 ⊢
 generalize A2 q.taxes=T' at c2 ⊢
 refine A1S ?_
 refine F2 [1] Tryz.func64 ?_
 intro b2 hb;conv=>whnf
 refine ⟨[11],[],List.range 12,by kernel_rfl,?_⟩;conv=>whnf
 refine cqW (c1 _) ?_
 refine cqW (c2 _) ?_
 refine Y9 (A0 ..) rfl ?_
 refine J0 (A0 ..) (A4 ..) ?_
 exact ⟨rfl,((E8.refl st).upd hb).over hb⟩
theorem C0q (r:G7) (l:List E4):(N2 r l).length=l.length:=by unfold N2 C2;rw [D5H,D5H]
theorem C5C {a b c d:Int} (ha : -10000000000000≤a∧a≤10000000000000) (hb : -10000000000000≤b∧b≤10000000000000) (hc : -10000000000000≤c∧c≤10000000000000) (hd : -10000000000000≤d∧d≤10000000000000):K2 [a,b,c,d]:=by
 refine ⟨by show 4≤1000;decide,fun x hx=>?_⟩
 simp only [D7f,D7j,or_false] at hx
 rcases hx with rfl | rfl | rfl | rfl<;>assumption
theorem B8y {a b c d:Int} {F:Nat→AV} {st:St} (h0:F 0=eI a) (h1:F 1=eI b) (h2:F 2=eI c) (h3:F 3=eI d):A7 [.arr 1 4 F] st [B0 [a,b,c,d]] st :=
 A7.arr (g:=fun i=>eI ([a,b,c,d].getD i default)) fun i hi=>by
  match i,hi with
  | 0,_=>exact h0
  | 1,_=>exact h1
  | 2,_=>exact h2
  | 3,_=>exact h3
set_option maxHeartbeats 8000000 in
theorem quote_S {r:G7} {codes:List C8} {l:List E4} {Pr:A3R} {z:K5} {zone:C8} (exempt:Bool)
  (hP:∀ st,S P 122 [H3 r,C9 codes,A8 3 H6 l] st fun v s=>v=.tuple [A1c Pr,eI 0]∧s=st)
  (hI:∀ st,S P 123 [A8 4 E5 r.items,A8 3 H6 l] st fun v s=>v=A8 4 E5 (C2 r.items l)∧s=st)
  (hln:l.length≤1000) (hV:A2z r.tax z (N2 r l) Pr.nets Pr.ship) (hz:Z6 r.tax.zones zone=some z)
  (hTax:∀ st,S P (C4N r.tax) [S8 r.tax,B0 ((N2 r l).map (F0 z)),B0 Pr.nets] st fun v st'=>v=B0 (K9 r.tax ((N2 r l).map (F0 z)) Pr.nets)∧st'=st)
  (hsm:A2 (L5 r.tax z exempt (N2 r l) Pr.nets Pr.ship).goods≤10000000000000∧-10000000000000≤A2 (L5 r.tax z exempt (N2 r l) Pr.nets Pr.ship).goods∧A2 (L5 r.tax z exempt (N2 r l) Pr.nets Pr.ship).taxes≤10000000000000) (st:St) :
  S P 60 [H3 r,eS zone,eB exempt,C9 codes,A8 3 H6 l] st fun v st'=>v=.tuple [A0a (A9v r z exempt l Pr),eI 0]∧st'=st:=by
 have hQ:=B0r hV exempt Pr.deals
 have hlv:=fun s=>C7Z hV hz exempt hTax s
 have hq:A9v r z exempt l Pr=⟨(L5 r.tax z exempt (N2 r l) Pr.nets Pr.ship).goods,(L5 r.tax z exempt (N2 r l) Pr.nets Pr.ship).taxes,(L5 r.tax z exempt (N2 r l) Pr.nets Pr.ship).ship,(L5 r.tax z exempt (N2 r l) Pr.nets Pr.ship).shipTax,A2 (L5 r.tax z exempt (N2 r l) Pr.nets Pr.ship).goods+A2 (L5 r.tax z exempt (N2 r l) Pr.nets Pr.ship).taxes+(L5 r.tax z exempt (N2 r l) Pr.nets Pr.ship).ship+(L5 r.tax z exempt (N2 r l) Pr.nets Pr.ship).shipTax,Pr.deals⟩:=rfl
 rw [hq]
 have hpos:0≤A2 (L5 r.tax z exempt (N2 r l) Pr.nets Pr.ship).taxes:=C1 hQ.pos
 obtain ⟨q1,q2,q3,q4,q5,q6,q7,_⟩:=hQ
 have q1:K2 (L5 r.tax z exempt (N2 r l) Pr.nets Pr.ship).goods:=q1
 have q2:K2 (L5 r.tax z exempt (N2 r l) Pr.nets Pr.ship).taxes:=q2
 have q6:0≤(L5 r.tax z exempt (N2 r l) Pr.nets Pr.ship).ship∧(L5 r.tax z exempt (N2 r l) Pr.nets Pr.ship).ship≤10000000000000:=q6
 have q7:0≤(L5 r.tax z exempt (N2 r l) Pr.nets Pr.ship).shipTax∧(L5 r.tax z exempt (N2 r l) Pr.nets Pr.ship).shipTax≤10000000000000:=q7
 clear hq q3 q4 q5 hTax hV hz
 generalize L5 r.tax z exempt (N2 r l) Pr.nets Pr.ship=V at *
 have s1:=fun s=>B1J V.goods q1 s
 have s2:=fun s=>B1J V.taxes q2 s
 have s3:=fun s=>B1J [A2 V.goods,A2 V.taxes,V.ship,V.shipTax] (C5C (by omega) (by omega) (by omega) (by omega)) s
 have e3:A2 [A2 V.goods,A2 V.taxes,V.ship,V.shipTax]=A2 V.goods+A2 V.taxes+V.ship+V.shipTax:=by
  show 0+A2 V.goods+A2 V.taxes+V.ship+V.shipTax=_;omega
 rw [e3] at s3
 have hil:(C2 r.items l).length=l.length:=D5H ..
 have hcb:N2 r l=(C2 r.items l).map Ab.Item.cat:=rfl
 rw [hcb] at hlv
 generalize C2 r.items l=IT at hI hil hlv
 clear hcb
 refine A1S ?_
 refine F2 [5,16] Tryz.func60 ?_
 intro b10 hb10;conv=>whnf
 refine I5 (hP _) ?_
 intro b12 hb12
 have h02:b10≠b12:=fun e=>by subst e;rw [A0] at hb12;cases hb12
 conv=>whnf
 refine stU (A0 ..) rfl ?_
 rw [C0];conv=>whnf
 refine I5 (hI _) ?_
 generalize hst:(upd (upd st b10 _) b12 _:St)=S0
 obtain ⟨f12,at12,hf12⟩:∃ f12:Nat→AV,S0 b12=some ⟨170,4,1,f12⟩∧f12 0=A1c Pr:=by rw [←hst];exact ⟨_,A0 ..,by rw [A4];rfl⟩
 obtain ⟨f10,at10⟩:∃ f10:Nat→AV,S0 b10=some ⟨113,6,1,f10⟩∧f10 0=H2 C6i.zero:=by rw [←hst,A9 h02];exact ⟨_,A0 ..,rfl⟩
 obtain ⟨at10,hf10⟩:=at10
 have hs0:E8 st S0:=by rw [←hst];exact ((E8.refl st).upd hb10).upd hb12
 have n12:st b12=none:=by rw [A9 h02.symm] at hb12;exact hb12
 clear hst
 refine lp IT.length [1,2,5,10,12,14,35,36,37] (fun i vs u=>∃ sv,vs=[eS zone,eB exempt,.fptr (H3 r) 0,.optr 6 b10 0 0,.optr 4 b12 0 0,sv,A8 4 E5 IT,eI IT.length,eI i]∧E0 9 1 eS ((IT.take i).map Ab.Item.cat) S0 sv u) ?_ ?_
 ·conv=>whnf
  exact ⟨.emp,rfl,E0.start _ _ _ _⟩
 rintro i vs u hi ⟨sv,rfl,hc⟩
 have hcs:=hc.sup
 conv=>whnf
 cases h1:decide ((i:Int)<(IT.length:Int))
 case true =>
  have hi':=D8 h1
  have hln2:((IT.take i).map Ab.Item.cat).length=i:=by rw [D5H,D5M];omega
  have htk:(IT.take (i+1)).map Ab.Item.cat=(IT.take i).map Ab.Item.cat++[(IT.getD (i:Int).toNat default).cat]:=by rw [K4 hi',D6g];rfl
  conv=>whnf
  refine E7 ?_
  refine E0.app (y:=(IT.getD (i:Int).toNat default).cat) (q:=r9) rfl rfl rfl rfl rfl (by rfl) (by rw [hln2];show (i+1) * 16≤140737488355328;omega) hc (fun sv' t' hc'=>?_);conv=>whnf
  refine F7 ?_
  exact nx hi' ⟨sv',by rw [B4 (by omega)],by rw [htk];exact hc'⟩
 obtain rfl:=C4 h1 hi
 rw [D5N] at hc;conv=>whnf
 refine J0 (hcs b12 _ at12) hf12 ?_
 refine J0 (hcs b12 _ at12) hf12 ?_
 have hTS:A7 [S8 r.tax,eS zone,eB exempt,sv,B0 Pr.nets,eI Pr.ship] u [S8 r.tax,eS zone,eB exempt,C9 (IT.map Ab.Item.cat),B0 Pr.nets,eI Pr.ship] S0 :=
  A7.cons (A7.keep [S8 r.tax] _) (A7.cons (A7.keep [eS zone] _) (A7.cons (A7.keep [eB exempt] _) (A7.cons hc.shift (A7.keep _ _))))
 refine F3 hTS (B3 (hlv _) ?_);conv=>whnf
 refine ⟨[15],[],List.range 17,by kernel_rfl,?_⟩;conv=>whnf
 refine cqW (s1 _) ?_
 refine cqW (s2 _) ?_
 refine ⟨_,⟨rfl,rfl⟩,?_⟩;conv=>whnf
 refine ⟨_,F3 (B8y rfl rfl rfl rfl) (H0 (s3 _)),?_⟩;conv=>whnf
 refine J0 at12 hf12 ?_
 refine Y9 at10 hf10 ?_
 refine J0 (A0 ..) (A4 ..) ?_
 exact ⟨rfl,hs0.over hb10⟩
def A0O (x:Add):Bool:=decide (x.qty<1)||decide (x.qty>100000)
def K0 (items:List Ab.Item) (x:Add):E4:=⟨x.sku,x.qty,(items.getD (P2 items x.sku).toNat default).price⟩
def X2 (items:List Ab.Item) (adds:List Add):List E4×Int :=
 if adds.length<1∨adds.length>1000 then ([],2) else if (adds.any A0O)=true then ([],2) else if (adds.any fun x=>decide (P2 items x.sku<0))=true then ([],7) else (adds.map (K0 items),0)
theorem C3Q (items:List Ab.Item) (adds:List Add) (hi:items.length≤9223372036854775807) (st:St) :
  S P 59 [A8 4 E5 items,A8 2 A4U adds] st fun v st'=>v=.tuple [A8 3 H6 (X2 items adds).1,eI (X2 items adds).2]∧st'=st:=by
 have hB:X2 items adds=if adds.length<1∨adds.length>1000 then ([],2) else if (adds.any A0O)=true then ([],2) else if (adds.any fun x=>decide (P2 items x.sku<0))=true then ([],7) else (adds.map (K0 items),0):=rfl
 refine S.post (post:=fun v s'=>(∃ e,X2 items adds=([],e)∧v=.tuple [.emp,eI e]∧E8 st s')∨(∃ sv,X2 items adds=(adds.map (K0 items),0)∧v=.tuple [sv,eI 0]∧E0 137 3 H6 (adds.map (K0 items)) st sv s')) ?_ (fun v s' hv=>⟨_,st,⟨rfl,rfl⟩,by
  rcases hv with ⟨e,h1,rfl,h2⟩ | ⟨sv,h1,rfl,h2⟩
  ·rw [h1];exact (A7.tuple (A7.cons (I1 3 _) (A7.keep _ _)) rfl).trans (h2.shift _)
  ·rw [h1];exact A7.tuple (A7.cons h2.shift (A7.keep _ _)) rfl⟩)
 refine F2 [7,10] Tryz.func59 ?_
 refine B8 (fun h1=>?_) (fun h1=>?_)<;>rw [h1]<;>simp only [D5E,D5D] at h1
 ·rw [if_pos (.inl (by omega))] at hB;conv=>whnf
  exact .inl ⟨2,hB,rfl,E8.refl _⟩
 conv=>whnf
 refine B8 (fun h2=>?_) (fun h2=>?_)<;>rw [h2]<;>simp only [D5E,D5D] at h2
 ·rw [if_pos (.inr (by omega))] at hB;conv=>whnf
  exact .inl ⟨2,hB,rfl,E8.refl _⟩
 rw [if_neg (by omega)] at hB;conv=>whnf
 refine lp adds.length [0,1,20,21,22] (fun i vs t=>(∀ j,j<i→A0O (adds.getD j default)=false)∧vs=[A8 4 E5 items,A8 2 A4U adds,A8 2 A4U adds,eI adds.length,eI i]∧t=st) ?_ ?_
 ·conv=>whnf
  exact ⟨fun j hj=>absurd hj (by omega),rfl,rfl⟩
 rintro i vs t hi' ⟨hno,rfl,rfl⟩
 conv=>whnf
 cases h3:decide ((i:Int)<(adds.length:Int))
 case true =>
  have hi2:=D8 h3
  have hbad:A0O (adds.getD (i:Int).toNat default)=true→X2 items adds=([],2):=fun h=>by
   rw [if_pos (D7i.2 ⟨_,A6 hi2,h⟩)] at hB;exact hB
  conv=>whnf
  refine E7 ?_
  refine B8 (fun h4=>?_) (fun h4=>?_)<;>rw [h4]
  ·conv=>whnf
   exact .inl ⟨2,hbad (by unfold A0O;rw [h4];rfl),rfl,E8.refl _⟩
  conv=>whnf
  refine B8 (fun h5=>?_) (fun h5=>?_)<;>rw [h5]
  ·conv=>whnf
   exact .inl ⟨2,hbad (by unfold A0O;rw [h5,D6t]),rfl,E8.refl _⟩
  conv=>whnf
  refine F7 ?_
  exact nx hi2 ⟨H8 hno (show A0O (adds.getD (i:Int).toNat default)=false by unfold A0O;rw [h4,h5];rfl),by rw [B4 (by omega)],rfl⟩
 obtain rfl:=C4 h3 hi'
 rw [if_neg (by
  rw [D6D,D6E]
  intro x hx
  obtain ⟨j,hj,rfl⟩:=D3 hx
  rw [hno j hj];simp)] at hB
 conv=>whnf
 refine lp adds.length [0,8,35,36,37] (fun i vs s=>∃ sv,(∀ j,j<i→(fun x:Add=>decide (P2 items x.sku<0)) (adds.getD j default)=false)∧vs=[A8 4 E5 items,sv,A8 2 A4U adds,eI adds.length,eI i]∧E0 137 3 H6 ((adds.take i).map (K0 items)) t sv s) ?_ ?_
 ·conv=>whnf
  exact ⟨.emp,fun j hj=>absurd hj (by omega),rfl,E0.start _ _ _ _⟩
 rintro i vs s hi2 ⟨sv,hno2,rfl,hc⟩
 conv=>whnf
 cases h4:decide ((i:Int)<(adds.length:Int))
 case false =>
  obtain rfl:=C4 h4 hi2
  rw [D5N] at hc
  rw [if_neg (by
   rw [D6D,D6E]
   intro x hx
   obtain ⟨j,hj,rfl⟩:=D3 hx
   have:=hno2 j hj
   simp only at this
   rw [this];simp)] at hB
  conv=>whnf
  exact .inr ⟨sv,hB,rfl,hc⟩
 have hi3:=D8 h4
 have hF:=fun u=>B7F items (adds.getD (i:Int).toNat default).sku hi u
 have hln:((adds.take i).map (K0 items)).length=i:=by rw [D5H,D5M];omega
 have htk:(adds.take (i+1)).map (K0 items)=(adds.take i).map (K0 items)++[K0 items (adds.getD (i:Int).toNat default)]:=by rw [K4 hi3,D6g];rfl
 have hrng:=A9f (fun x:Ab.Item=>x.sku.toList==(adds.getD (i:Int).toNat default).sku.toList) items
 have hAL:K0 items (adds.getD (i:Int).toNat default)=⟨(adds.getD (i:Int).toNat default).sku,(adds.getD (i:Int).toNat default).qty,(items.getD (P2 items (adds.getD (i:Int).toNat default).sku).toNat default).price⟩:=rfl
 have hno3:=fun h=>H8 (q:=fun j=>(fun x:Add=>decide (P2 items x.sku<0)) (adds.getD j default)=false) hno2 h
 have hpos:(fun x:Add=>decide (P2 items x.sku<0)) (adds.getD (i:Int).toNat default)=true→X2 items adds=([],7):=fun h=>by
  rw [if_pos (D7i.2 ⟨_,A6 hi3,h⟩)] at hB;exact hB
 have hf0:P2 items (adds.getD (i:Int).toNat default).sku=P2 items (adds.getD i default).sku:=rfl
 simp only at hpos hno3
 rw [←hf0] at hno3
 generalize hfv:P2 items (adds.getD (i:Int).toNat default).sku=FV at hF hpos hno3 hAL
 have hrng2 : -1≤FV∧FV<items.length:=by rw [←hfv];exact hrng
 conv=>whnf
 refine E7 ?_
 refine I5 (hF _) ?_
 refine B8 (fun h5=>?_) (fun h5=>?_)<;>rw [h5]
 ·conv=>whnf
  exact .inl ⟨7,hpos h5,rfl,hc.sup⟩
 have h5':=D5G h5
 conv=>whnf
 refine ⟨[11,12],[],List.range 14,by kernel_rfl,?_⟩;conv=>whnf
 refine E7 ?_
 refine E0.app (y:=K0 items (adds.getD (i:Int).toNat default)) (q:=C3T) rfl rfl rfl rfl rfl (by rw [hAL];rfl) (by rw [hln];show (i+1) * 32≤140737488355328;omega) hc (fun sv' t' hc'=>?_);conv=>whnf
 refine F7 ?_
 exact nx hi3 ⟨sv',hno3 h5,by rw [B4 (by omega)],by rw [htk];exact hc'⟩
end Go.Proofs.YtaapofnkmpiknaaGreat
namespace Go.Proofs.YtaapofnkmpiknaaGreat
open Go Go.Ab
structure A2m where
 sku:C8
 price:Int
 sold:Int
 left:Int
 goods:Int
 tax:Int
 deriving Inhabited
def Q7 (x:A2m):AV:=.agg [eS x.sku,eI x.price,eI x.sold,eI x.left,eI x.goods,eI x.tax]
structure A2A where
 kind:Int
 taken:Int
 given:Int
 deriving Inhabited
def A0d (x:A2A):AV:=.agg [eI x.kind,eI x.taken,eI x.given]
instance:Inhabited A4H:=⟨⟨0,0,0,0,0⟩⟩
structure T9 where
 id:C8
 rules:Int
 zone:C8
 exempt:Bool
 codes:List C8
 day:Int
 lines:List A2m
 ship:Int
 shipTax:Int
 fee:Int
 net:Int
 book:A4H
 tenders:List A2A
 deriving Inhabited
def W8 (o:T9):AV:=.agg [eS o.id,eI o.rules,eS o.zone,eB o.exempt,C9 o.codes,eI o.day,A8 6 Q7 o.lines,eI o.ship,eI o.shipTax,eI o.fee,eI o.net,eI o.book.goods,eI o.book.tax,eI o.book.ship,eI o.book.shipTax,eI o.book.fee,A8 3 A0d o.tenders]
def A1y (x:Int):Bool:=O7 0 10000000000000 x
def K6 (x:Int):Bool:=O7 0 100000000000000 x
def A1T (x:A2m):Bool:=D0 x.sku&&O7 0 1000000000 x.price&&O7 1 100000 x.sold&&O7 0 x.sold x.left&&A1y x.goods&&A1y x.tax
def tenderB (x:A2A):Bool:=O7 1 9 x.kind&&K6 x.taken&&O7 0 x.taken x.given
def W0 (b:A4H):List Int:=[b.goods,b.tax,b.ship,b.shipTax,b.fee]
def A5M (b:A4H):Bool:=(W0 b).all K6
def A0h (b:A4H):Int:=if A5M b=true then A2 (W0 b) else 0
def A2r (l:List A2A):Int:=l.foldl (fun a x=>a+(x.taken - x.given)) 0
def A9J (o:T9):Bool:=D0 o.id&&D0 o.zone&&O7 1 40 o.rules&&S7 o.codes&&O7 0 100000 o.day
def A3n (o:T9):Bool:=decide ((o.lines.length:Int)≥1)&&decide ((o.lines.length:Int)≤1000)&&o.lines.all A1T
def A1w (o:T9):Bool:=A1y o.ship&&A1y o.shipTax&&K6 o.fee&&K6 o.net
def A5L (o:T9):Bool:=A5M o.book&&(A0h o.book==o.net)
def A0s (o:T9):Bool:=o.tenders.all tenderB&&(decide ((o.tenders.length:Int)≤6)&&(A2r o.tenders==o.net))
def A0R (o:T9):Bool:=decide ((o.tenders.length:Int)≤6)&&A9J o&&A3n o&&A1w o&&A5L o&&A0s o
def C0N (o:T9):List E4:=o.lines.map fun x=>⟨x.sku,x.left,x.price⟩
def I8 (t n k:Int):Int:=t * k / n
def shG (l:List A2m):Int:=l.foldl (fun a x=>a+I8 x.goods x.sold x.left) 0
def shT (l:List A2m):Int:=l.foldl (fun a x=>a+I8 x.tax x.sold x.left) 0
def M8 (l:List A2m):Bool:=l.any fun x=>decide (x.left>0)
def A3N (o:T9):A4H:=if A0R o=true then ⟨shG o.lines,shT o.lines,if M8 o.lines=true then o.ship else 0,if M8 o.lines=true then o.shipTax else 0,0⟩ else ⟨0,0,0,0,0⟩
theorem B1c {x:A2m} (h:A1T x=true):D0 x.sku=true∧(0≤x.price∧x.price≤1000000000)∧(1≤x.sold∧x.sold≤100000)∧(0≤x.left∧x.left≤x.sold)∧(0≤x.goods∧x.goods≤10000000000000)∧(0≤x.tax∧x.tax≤10000000000000):=by
 unfold A1T A1y at h
 simp only [D5I,E3] at h
 obtain ⟨⟨⟨⟨⟨h1,h2⟩,h3⟩,h4⟩,h5⟩,h6⟩:=h
 exact ⟨h1,h2,h3,h4,h5,h6⟩
theorem A0H {t n k:Int} (ht:0≤t) (hn:1≤n) (hk:0≤k) (hkn:k≤n):0≤I8 t n k∧I8 t n k≤t:=by
 unfold I8
 refine ⟨D7l (D7d ht hk) (by omega),?_⟩
 have h1:t * k≤t * n:=D6A hkn ht
 have h2:t * k / n≤t * n / n:=Int.ediv_le_ediv (by omega) h1
 rwa [Int.mul_ediv_cancel _ (by omega)] at h2
theorem B1u {α : Type} [Inhabited α] {f : α→Int} {M:Int} (hM:0≤M):∀ (l:List α),(∀ x∈l,0≤f x∧f x≤M)→∀ a:Int,a≤l.foldl (fun a x=>a+f x) a∧l.foldl (fun a x=>a+f x) a≤a+M * l.length
 | [],_,a=>⟨D6i _,by simp⟩
 | x::l,h,a=>by
  have h1:=h x (D6f ..)
  have h2:=B1u hM l (fun y hy=>h y (D6d _ hy)) (a+f x)
  simp only [D6U,D6p]
  have e:M * ((l.length+1:Nat):Int)=M * (l.length:Int)+M:=by rw [show ((l.length+1:Nat):Int)=(l.length:Int)+1 from rfl,D7J,D8r]
  rw [e]
  exact ⟨by omega,by omega⟩
end Go.Proofs.YtaapofnkmpiknaaGreat
namespace Go.Proofs.YtaapofnkmpiknaaGreat
open Go Go.Ab
attribute [local irreducible] upd del
theorem B0p (x:Int) (st:St):S P 130 [eI x] st fun v st'=>v=.bool (A1y x)∧st'=st:=by
 refine F2 [] Tryz.func130 ?_
 unfold A1y O7
 refine B8 (fun h=>?_) (fun h=>?_)<;>rw [h]<;>(conv=>whnf)<;>exact ⟨rfl,rfl⟩
theorem A5a (x:Int) (st:St):S P 72 [eI x] st fun v st'=>v=.bool (K6 x)∧st'=st:=A6Q x st
theorem C6w (x:A2m) (st:St):S P 129 [Q7 x] st fun v st'=>v=.bool (A1T x)∧st'=st:=by
 have n1:=A2F x.sku st
 have n2:=B0p x.goods st
 have n3:=B0p x.tax st
 unfold A1T O7
 generalize D0 x.sku=b1 at *
 generalize A1y x.goods=b2 at *
 generalize A1y x.tax=b3 at *
 refine SyW [1] Tryz.func129 ?_
 repeat' ((conv=>whnf);first | refine B3 n1 ?_ | refine B3 n2 ?_ | refine B3 n3 ?_ | refine ⟨rfl,?_⟩ | (refine B8 (fun h=>?_) (fun h=>?_)<;>rw [h]))
 all_goals (conv=>whnf)
 all_goals (refine ⟨?_,rfl⟩;show AV.bool _=AV.bool _;clear n1 n2 n3)
 all_goals (simp only [*,D5T,D6b,D6w,D6j,D6t,D6u,D6x,D6q,D6r,D6k,D6X])
theorem C1v (x:A2m) (st:St):S P 128 [Q7 x] st fun v st'=>v=.bool (!A1T x)∧st'=st:=by
 have n1:=C6w x st
 generalize A1T x=b at *
 refine F2 [1] Tryz.func128 ?_
 refine I5 n1 ?_
 exact ⟨rfl,rfl⟩
theorem B4o (l:List A2m) (hl:l.length≤9223372036854775807) (g:FuncId) (cs:List AV) (p:A2m→Bool) (st:St)
  (hg:∀ x,x∈l→S P g (Q7 x::cs) st fun v st'=>v=.bool (p x)∧st'=st) :
  S P 193 [A8 6 Q7 l,.fn (.func g) [] cs] st fun v st'=>v=eI (idx p l)∧st'=st:=by
 refine F2 [] Tryz.func193 ?_
 refine ⟨[0,1,7,8],fun m vs st'=>∃ i:Nat,i≤l.length∧(∀ k,k<i→p (l.getD k default)=false)∧m=l.length - i∧vs=[A8 6 Q7 l,.fn (.func g) [] cs,eI l.length,eI i]∧st'=st,?_,?_⟩
 ·conv=>whnf
  exact ⟨_,0,D6e _,fun k hk=>absurd hk (by omega),rfl,rfl,rfl⟩
 ·rintro m vs st' ⟨i,hi,hok,rfl,rfl,rfl⟩
  conv=>whnf
  cases h:decide ((i:Int)<(l.length:Int))
  ·have:=D5G h
   conv=>whnf
   refine ⟨?_,rfl⟩
   rw [U1 fun k hk=>hok k (by omega)];rfl
  ·have hi':i<l.length:=by have:=D5F h;omega
   conv=>whnf
   refine E7 ?_
   refine B3 (hg (l.getD (i:Int).toNat default) (by simp [hi'])) ?_
   rw [D5P]
   cases hp:p (l.getD i default)
   ·conv=>whnf
    refine F7 ?_
    refine ⟨l.length - (i+1),by omega,i+1,by omega,fun k hk=>?_,rfl,by rw [B4 (by omega)],rfl⟩
    rcases D6y.1 hk with h' | h'
    ·exact hok k h'
    ·rw [h'];exact hp
   ·conv=>whnf
    refine ⟨?_,rfl⟩
    rw [A1A hi' hok hp];rfl
theorem B7N (l:List A2m) (hl:l.length≤9223372036854775807) (g:FuncId) (cs:List AV) (p:A2m→Bool) (st:St)
  (hg:∀ x,x∈l→S P g (Q7 x::cs) st fun v st'=>v=.bool (p x)∧st'=st) :
  S P 127 [A8 6 Q7 l,.fn (.func g) [] cs] st fun v st'=>v=.bool (l.any p)∧st'=st:=by
 refine F2 [] Tryz.func127 ?_
 refine I5 (B4o l hl g cs p st hg) ?_
 refine ⟨?_,rfl⟩
 rw [←A1z];rfl
structure B2U (o:T9):Prop where
 id:Sm o.id.size
 zone:Sm o.zone.size
 codes:Sm o.codes.length
 scodes:∀ s∈o.codes,Sm s.size
 lines:o.lines.length≤100000
 slines:∀ x∈o.lines,Sm x.sku.size
 tenders:o.tenders.length≤100000
theorem C5Z (o:T9) (hs:B2U o) (st:St):S P 66 [W8 o] st fun v st'=>v=.bool (A9J o)∧st'=st:=by
 have n1:=A2F o.id st
 have n2:=A2F o.zone st
 have n3:=B4f o.codes hs.codes st
 have n4:=C2U o.day st
 have e:A9J o=(D0 o.id&&D0 o.zone&&(decide (o.rules≥1)&&decide (o.rules≤40))&&S7 o.codes&&O7 0 100000 o.day):=rfl
 rw [e]
 clear e hs
 generalize D0 o.id=b1 at *
 generalize D0 o.zone=b2 at *
 generalize S7 o.codes=b3 at *
 generalize O7 0 100000 o.day=b4 at *
 refine SyW [1] Tryz.func66 ?_
 repeat' ((conv=>whnf);first | refine B3 n1 ?_ | refine B3 n2 ?_ | refine B3 n3 ?_ | refine B3 n4 ?_ | refine ⟨rfl,?_⟩ | (refine B8 (fun h=>?_) (fun h=>?_)<;>rw [h]))
 all_goals (conv=>whnf)
 all_goals (refine ⟨?_,rfl⟩;show AV.bool _=AV.bool _;clear n1 n2 n3 n4)
 all_goals (simp only [*,D5T,D6b,D6w,D6j,D6t,D6u,D6x,D6q,D6r,D6k,D6X])
theorem C3D (o:T9) (hs:B2U o) (st:St):S P 67 [W8 o] st fun v st'=>v=.bool (A3n o)∧st'=st:=by
 have n1:=B7N o.lines (by have:=hs.lines;omega) 128 [] (fun x=>!A1T x) st (fun x _=>C1v x st)
 have e:A3n o=(decide ((o.lines.length:Int)≥1)&&decide ((o.lines.length:Int)≤1000)&&!(o.lines.any fun x=>!A1T x)):=by unfold A3n;rw [List.all_eq_not_any_not]
 rw [e]
 clear e hs
 generalize (o.lines.any fun x=>!A1T x)=b1 at *
 refine SyW [1] Tryz.func67 ?_
 repeat' ((conv=>whnf);first | refine B3 n1 ?_ | refine ⟨rfl,?_⟩ | (refine B8 (fun h=>?_) (fun h=>?_)<;>rw [h]))
 all_goals (conv=>whnf)
 all_goals (refine ⟨?_,rfl⟩;show AV.bool _=AV.bool _;clear n1)
 all_goals (simp only [*,D5T,D6b,D6w,D6j,D6t,D6u,D6x,D6q,D6r,D6k,D6X])
theorem B8a (o:T9) (st:St):S P 68 [W8 o] st fun v st'=>v=.bool (A1w o)∧st'=st:=by
 have n1:=B0p o.ship st
 have n2:=B0p o.shipTax st
 have n3:=A5a o.fee st
 have n4:=A5a o.net st
 unfold A1w
 generalize A1y o.ship=b1 at *
 generalize A1y o.shipTax=b2 at *
 generalize K6 o.fee=b3 at *
 generalize K6 o.net=b4 at *
 refine SyW [1] Tryz.func68 ?_
 repeat' ((conv=>whnf);first | refine B3 n1 ?_ | refine B3 n2 ?_ | refine B3 n3 ?_ | refine B3 n4 ?_ | refine ⟨rfl,?_⟩ | (refine B8 (fun h=>?_) (fun h=>?_)<;>rw [h]))
 all_goals (conv=>whnf)
 all_goals (refine ⟨?_,rfl⟩;show AV.bool _=AV.bool _;clear n1 n2 n3 n4)
 all_goals (simp only [*,D5T,D6b,D6w,D6j,D6t,D6u,D6x,D6q,D6r,D6k,D6X])
theorem B3v (b:A4H) (st:St):S P 71 [A5q b] st fun v st'=>v=A5q b∧st'=st:=by
 refine A1S ?_
 refine F2 [1] Tryz.func71 ?_
 intro b2 hb;conv=>whnf
 refine Y9 (A0 ..) rfl ?_
 refine J0 (A0 ..) (A4 ..) ?_
 exact ⟨rfl,((E8.refl st).upd hb).over hb⟩
theorem B2h {l:List Int}:∀ i,i≤l.length→(∀ k,k<i→K6 (gI l k)=true)→0≤A2 (l.take i)∧A2 (l.take i)≤100000000000000 * (i:Int)
 | 0,_,_=>⟨by rw [D7p];exact D6i _,by rw [D7p];exact D6i _⟩
 | i+1,hi,h=>by
  have ih:=B2h i (by omega) fun k hk=>h k (by omega)
  have hx:=E3.1 (h i (by omega))
  rw [L1 (by omega)]
  omega
theorem B3c {b:A4H} (h:∀ k,k<5→K6 (gI (W0 b) k)=true):A5M b=true:=D5Y.2 fun x hx=>by
 obtain ⟨k,hk,rfl⟩:=D3 hx
 exact h k hk
theorem B3d {b:A4H} {k:Nat} (hk:k<5) (h:K6 (gI (W0 b) k)=false):A5M b=false:=by
 rw [D7s];intro e
 rw [D5Y.1 e _ (A6 (l:=W0 b) (i:=k) hk)] at h;cases h
theorem B9S (b:A4H) (st:St):S P 20 [A5q b] st fun v st'=>v=eI (A0h b)∧st'=st:=by
 have c1:=fun s=>B3v b s
 refine F2 [1] Tryz.func20 ?_
 refine I5 (c1 _) ?_
 refine lp 5 [3,7,8] (fun i vs s=>(∀ k,k<i→K6 (gI (W0 b) k)=true)∧vs=[eI (A2 ((W0 b).take i)),A5q b,eI i]∧s=st) ?_ ?_
 ·conv=>whnf
  exact ⟨fun k hk=>absurd hk (by omega),rfl,rfl⟩
 rintro i vs s hi ⟨hok,rfl,rfl⟩
 conv=>whnf
 cases h:decide ((i:Int)<5)
 ·obtain rfl:i=5:=by have:=D5G h;omega
  have e:A0h b=A2 (W0 b):=by unfold A0h;rw [if_pos (B3c hok)]
  rw [e];conv=>whnf
  exact ⟨rfl,rfl⟩
 have hi':i<5:=by have:=D5F h;omega
 have hr:=fun s=>A5a (gI (W0 b) i) s
 have hb:=B2h (l:=W0 b) i (by show i≤5;omega) hok
 have hn:=L1 (l:=W0 b) (i:=i) hi'
 have hw:K6 (gI (W0 b) i)=true→IntKind.i64.wrap (A2 ((W0 b).take i)+gI (W0 b) i)=A2 ((W0 b).take (i+1)):=fun hm=>by
  have hx:=E3.1 hm
  rw [hn];exact A5 (by omega) (by omega)
 have yes:K6 (gI (W0 b) i)=true→∀ k,k<i+1→K6 (gI (W0 b) k)=true:=fun hm=>H8 hok hm
 have no:K6 (gI (W0 b) i)=false→A0h b=0:=fun hm=>by unfold A0h;rw [B3d hi' hm];rfl
 generalize A2 ((W0 b).take i)=Z at *
 generalize hY:A2 ((W0 b).take (i+1))=Y at *
 generalize K6 (gI (W0 b) i)=m at hr hw yes no
 clear hn hok hb h hi
 conv=>whnf
 rcases (by omega:i=0∨i=1∨i=2∨i=3∨i=4) with rfl | rfl | rfl | rfl | rfl
 all_goals
  refine ⟨⟨rfl,Nat.le_of_ble_eq_true rfl,by omega,by omega⟩,?_⟩;conv=>whnf
  refine B3 (hr _) ?_
  cases m
  ·conv=>whnf
   rw [no rfl]
   exact ⟨rfl,rfl⟩
  ·conv=>whnf
   refine F7 ?_
   exact nx hi' ⟨yes rfl,by rw [hY,←hw rfl,B4 (by omega)];rfl,rfl⟩
theorem C5Y (o:T9) (st:St):S P 69 [W8 o] st fun v st'=>v=.bool (A5L o)∧st'=st:=by
 have c1:=fun s=>B3v o.book s
 have c2:=fun s=>B9S o.book s
 refine F2 [1] Tryz.func69 ?_
 refine I5 (c1 _) ?_
 refine lp 5 [1,8,9] (fun i vs s=>(∀ k,k<i→K6 (gI (W0 o.book) k)=true)∧vs=[.fptr (W8 o) 0,A5q o.book,eI i]∧s=st) ?_ ?_
 ·conv=>whnf
  exact ⟨fun k hk=>absurd hk (by omega),rfl,rfl⟩
 rintro i vs s hi ⟨hok,rfl,rfl⟩
 conv=>whnf
 cases h:decide ((i:Int)<5)
 ·obtain rfl:i=5:=by have:=D5G h;omega
  have e:A5L o=(A0h o.book==o.net):=by unfold A5L;rw [B3c hok];rfl
  rw [e]
  generalize A0h o.book=Z at *
  conv=>whnf
  refine ⟨[],[],List.range 9,by kernel_rfl,?_⟩;conv=>whnf
  refine cqW (c2 _) ?_
  exact ⟨rfl,rfl⟩
 have hi':i<5:=by have:=D5F h;omega
 have hr:=fun s=>A5a (gI (W0 o.book) i) s
 have yes:K6 (gI (W0 o.book) i)=true→∀ k,k<i+1→K6 (gI (W0 o.book) k)=true:=fun hm=>H8 hok hm
 have no:K6 (gI (W0 o.book) i)=false→A5L o=false:=fun hm=>by unfold A5L;rw [B3d hi' hm];rfl
 generalize K6 (gI (W0 o.book) i)=m at hr yes no
 clear hok h hi c2
 conv=>whnf
 rcases (by omega:i=0∨i=1∨i=2∨i=3∨i=4) with rfl | rfl | rfl | rfl | rfl
 all_goals
  refine ⟨⟨rfl,Nat.le_of_ble_eq_true rfl,by omega,by omega⟩,?_⟩;conv=>whnf
  refine B3 (hr _) ?_
  cases m
  ·conv=>whnf
   rw [no rfl]
   exact ⟨rfl,rfl⟩
  ·conv=>whnf
   refine F7 ?_
   exact nx hi' ⟨yes rfl,by rw [B4 (by omega)],rfl⟩
theorem B3M {x:A2A} (h:tenderB x=true):0≤x.taken - x.given∧x.taken - x.given≤100000000000000∧0≤x.taken∧x.taken≤100000000000000∧0≤x.given:=by
 unfold tenderB K6 at h
 simp only [D5I,E3] at h
 omega
theorem B3p {l:List A2A} {i:Nat} (hi:i<l.length):A2r (l.take (i+1))=A2r (l.take i)+((l.getD i default).taken - (l.getD i default).given):=I0 hi _ _
theorem B9u {l:List A2A}:∀ i,i≤l.length→(∀ k,k<i→tenderB (l.getD k default)=true)→0≤A2r (l.take i)∧A2r (l.take i)≤100000000000000 * (i:Int)
 | 0,_,_=>⟨by rw [D7p];exact D6i _,by rw [D7p];exact D6i _⟩
 | i+1,hi,h=>by
  have ih:=B9u i (by omega) fun k hk=>h k (by omega)
  have hx:=B3M (h i (by omega))
  rw [B3p (by omega)]
  omega
theorem B6Z {l:List A2A} (h:∀ k,k<l.length→tenderB (l.getD k default)=true):l.all tenderB=true:=D5Y.2 fun x hx=>by
 obtain ⟨k,hk,rfl⟩:=D3 hx;exact h k hk
theorem B8N {l:List A2A} {k:Nat} (hk:k<l.length) (h:tenderB (l.getD k default)=false):l.all tenderB=false:=by
 rw [D7s];intro e
 rw [D5Y.1 e _ (A6 hk)] at h;cases h
theorem B8M {b1 b2:Bool} {t g:Int} (h:b1=true∧b2=true∧0≤g∧g≤t):(b1&&b2&&(decide (g≥0)&&decide (g≤t)))=true:=by
 simp only [D5I,D5E]
 exact ⟨⟨h.1,h.2.1⟩,h.2.2⟩
theorem B8e (o:T9) (h6:o.tenders.length≤6) (st:St):S P 70 [W8 o] st fun v st'=>v=.bool (A0s o)∧st'=st:=by
 refine F2 [1,5] Tryz.func70 ?_
 refine lp o.tenders.length [1,3,8,9,10] (fun i vs s=>(∀ k,k<i→tenderB (o.tenders.getD k default)=true)∧vs=[.fptr (W8 o) 0,eI (A2r (o.tenders.take i)),A8 3 A0d o.tenders,eI o.tenders.length,eI i]∧s=st) ?_ ?_
 ·conv=>whnf
  exact ⟨fun k hk=>absurd hk (by omega),rfl,rfl⟩
 rintro i vs s hi ⟨hok,rfl,rfl⟩
 conv=>whnf
 cases h:decide ((i:Int)<(o.tenders.length:Int))
 ·obtain rfl:=C4 h hi
  have e:A0s o=(decide ((o.tenders.length:Int)≤6)&&(A2r o.tenders==o.net)):=by unfold A0s;rw [B6Z hok];rfl
  rw [e,D5N]
  generalize A2r o.tenders=Z
  conv=>whnf
  refine B8 (fun h=>?_) (fun h=>?_)<;>rw [h]
  all_goals
   conv=>whnf
   exact ⟨rfl,rfl⟩
 have hi':=D8 h
 have n1:=fun s=>B7O (o.tenders.getD (i:Int).toNat default).kind s
 have n2:=fun s=>A5a (o.tenders.getD (i:Int).toNat default).taken s
 have hx:tenderB (o.tenders.getD (i:Int).toNat default)=(O7 1 9 (o.tenders.getD (i:Int).toNat default).kind&&K6 (o.tenders.getD (i:Int).toNat default).taken&&(decide ((o.tenders.getD (i:Int).toNat default).given≥0)&&decide ((o.tenders.getD (i:Int).toNat default).given≤(o.tenders.getD (i:Int).toNat default).taken))):=rfl
 have hb:=B9u i hi hok
 have hw:tenderB (o.tenders.getD (i:Int).toNat default)=true→IntKind.i64.wrap (A2r (o.tenders.take i)+IntKind.i64.wrap ((o.tenders.getD (i:Int).toNat default).taken - (o.tenders.getD (i:Int).toNat default).given))=A2r (o.tenders.take (i+1)):=fun hm=>by
  have hx:=B3M hm
  have h4:=B3p hi'
  rw [A5 (x:=(o.tenders.getD (i:Int).toNat default).taken - (o.tenders.getD (i:Int).toNat default).given) (by omega) (by omega)]
  have e:A2r (o.tenders.take (i+1))=A2r (o.tenders.take i)+((o.tenders.getD (i:Int).toNat default).taken - (o.tenders.getD (i:Int).toNat default).given):=h4
  rw [e];exact A5 (by omega) (by omega)
 have yes:tenderB (o.tenders.getD (i:Int).toNat default)=true→∀ k,k<i+1→tenderB (o.tenders.getD k default)=true:=fun hm=>H8 hok hm
 have no:tenderB (o.tenders.getD (i:Int).toNat default)=false→A0s o=false:=fun hm=>by unfold A0s;rw [B8N hi' hm];rfl
 generalize tenderB (o.tenders.getD (i:Int).toNat default)=t at hx hw yes no
 generalize hY:A2r (o.tenders.take (i+1))=Y at hw
 generalize A2r (o.tenders.take i)=Z at hw hb ⊢
 clear hok hb
 conv=>whnf
 refine ⟨rfl,⟨by omega,by omega⟩,?_⟩
 generalize O7 1 9 (o.tenders.getD (i:Int).toNat default).kind=b1 at *
 generalize K6 (o.tenders.getD (i:Int).toNat default).taken=b2 at *
 cases t with
 | true =>
  have hx:=hx.symm
  simp only [D5I,D5E] at hx
  obtain ⟨⟨rfl,rfl⟩,e3,e4⟩:=hx
  have g1:decide ((o.tenders.getD (i:Int).toNat default).given<0)=false:=D5J (by omega)
  have g2:decide ((o.tenders.getD (i:Int).toNat default).given>(o.tenders.getD (i:Int).toNat default).taken)=false:=D5J (by omega)
  repeat' ((conv=>whnf);first | refine B3 (n1 _) ?_ | refine B3 (n2 _) ?_ | rw [g1] | rw [g2])
  refine F7 ?_
  exact nx hi' ⟨yes rfl,by rw [hY,←hw rfl,B4 (by omega)],rfl⟩
 | false =>
  repeat' ((conv=>whnf);first | refine B3 (n1 _) ?_ | refine B3 (n2 _) ?_ | (refine B8 (fun h=>?_) (fun h=>?_)<;>rw [h]))
  all_goals first
   | (exfalso
      simp only [D5W,D6l,D5E,D5D] at *
      have:=B8M (b1:=b1) (b2:=b2) (t:=(o.tenders.getD (i:Int).toNat default).taken) (g:=(o.tenders.getD (i:Int).toNat default).given) ⟨by assumption,by assumption,by omega,by omega⟩
      rw [←hx] at this;cases this;done)
   | (conv=>whnf
      rw [no rfl]
      exact ⟨rfl,rfl⟩)
theorem B6w (o:T9) (hs:B2U o) (st:St):S P 19 [W8 o] st fun v st'=>v=.bool (A0R o)∧st'=st:=by
 have n1:=fun s=>C5Z o hs s
 have n2:=fun s=>C3D o hs s
 have n3:=fun s=>B8a o s
 have n4:=fun s=>C5Y o s
 have n5:=fun h6 s=>B8e o h6 s
 have hB:A0R o=(decide ((o.tenders.length:Int)≤6)&&A9J o&&A3n o&&A1w o&&A5L o&&A0s o):=rfl
 generalize A9J o=b1 at *
 generalize A3n o=b2 at *
 generalize A1w o=b3 at *
 generalize A5L o=b4 at *
 generalize A0s o=b5 at *
 refine F2 [1,3] Tryz.func19 ?_
 refine B8 (fun h=>?_) (fun h=>?_)<;>rw [h]<;>simp only [D5E,D5D] at h
 ·rw [D5J (by omega)] at hB
  rw [hB];conv=>whnf
  exact ⟨rfl,rfl⟩
 rw [D6m (by omega),D5T] at hB
 have n5:=n5 (by omega)
 conv=>whnf
 refine lp 5 [22,23,24] (fun i vs s=>((0<i→b1=true)∧(1<i→b2=true)∧(2<i→b3=true)∧(3<i→b4=true)∧(4<i→b5=true))∧(∃ F:Nat→AV,F 0=.fn (.func 66) [W8 o] []∧F 1=.fn (.func 67) [W8 o] []∧F 2=.fn (.func 68) [W8 o] []∧F 3=.fn (.func 69) [W8 o] []∧F 4=.fn (.func 70) [W8 o] []∧vs=[.arr 1 5 F,eI 5,eI i])∧s=st) ?_ ?_
 ·conv=>whnf
  exact ⟨⟨fun h=>absurd h (by omega),fun h=>absurd h (by omega),fun h=>absurd h (by omega),fun h=>absurd h (by omega),fun h=>absurd h (by omega)⟩,⟨_,rfl,rfl,rfl,rfl,rfl,rfl⟩,rfl⟩
 rintro i vs s hi ⟨⟨g1,g2,g3,g4,g5⟩,⟨F,f0,f1,f2,f3,f4,rfl⟩,rfl⟩
 conv=>whnf
 cases h5:decide ((i:Int)<5)
 ·have h5:=D5G h5
  rw [g1 (by omega),g2 (by omega),g3 (by omega),g4 (by omega),g5 (by omega)] at hB
  rw [hB];conv=>whnf
  exact ⟨rfl,rfl⟩
 have hi':i<5:=by have:=D5F h5;omega
 conv=>whnf
 refine ⟨rfl,⟨by omega,by omega⟩,?_⟩
 rcases (by omega:i=0∨i=1∨i=2∨i=3∨i=4) with rfl | rfl | rfl | rfl | rfl
 case' inl=>rw [show F ((0:Nat):Int).toNat=_ from f0]
 case' inr.inl=>rw [show F ((1:Nat):Int).toNat=_ from f1]
 case' inr.inr.inl=>rw [show F ((2:Nat):Int).toNat=_ from f2]
 case' inr.inr.inr.inl=>rw [show F ((3:Nat):Int).toNat=_ from f3]
 case' inr.inr.inr.inr=>rw [show F ((4:Nat):Int).toNat=_ from f4]
 all_goals
  conv=>whnf
  first | refine B3 (n1 _) ?_ | refine B3 (n2 _) ?_ | refine B3 (n3 _) ?_ | refine B3 (n4 _) ?_ | refine B3 (n5 _) ?_
  conv=>whnf
  refine B8 (fun h6=>?_) (fun h6=>?_)<;>rw [h6]
  ·rw [D5W] at h6
   rw [h6] at hB
   simp only [D6b,D6j] at hB
   rw [hB];conv=>whnf
   exact ⟨rfl,rfl⟩
  ·rw [D6l] at h6;conv=>whnf
   refine F7 ?_
   exact nx hi' ⟨⟨fun _=>by first | exact h6 | exact g1 (by omega),fun h=>by first | exact h6 | exact g2 (by omega) | omega,fun h=>by first | exact h6 | exact g3 (by omega) | omega,fun h=>by first | exact h6 | exact g4 (by omega) | omega,fun h=>by first | exact h6 | exact g5 (by omega) | omega⟩,⟨F,f0,f1,f2,f3,f4,by rw [B4 (by omega)]⟩,rfl⟩
theorem C4h (l:List A2n) (hl:Sm l.length) (hs:∀ x∈l,A2f x.scope) (st:St):S P 240 [A8 3 W1 l] st fun v st'=>v=.bool (L4 l (fun _ x=>A0Y x)&&(decide ((l.length:Int)≥1)&&decide ((l.length:Int)≤3)))∧st'=st:=by
 refine F2 [] Tryz.func240 ?_
 refine lp l.length [0,3] (fun i vs st'=>(∀ k,k<i→A0Y (l.getD k default)=true)∧vs=[A8 3 W1 l,eI i]∧st'=st) ?_ ?_
 ·conv=>whnf
  exact ⟨fun k hk=>absurd hk (by omega),rfl,rfl⟩
 ·rintro i vs st' hi ⟨hok,rfl,rfl⟩
  conv=>whnf
  cases h:decide ((i:Int)<(l.length:Int))
  ·obtain rfl:=C4 h hi
   rw [L0 hok,D5T];conv=>whnf
   refine B8 (fun h=>?_) (fun h=>?_)<;>rw [h]<;>(conv=>whnf)<;>exact ⟨rfl,rfl⟩
  ·have hi':=D8 h
   have yes:A0Y (l.getD (i:Int).toNat default)=true→∀ k,k<i+1→A0Y (l.getD k default)=true:=fun h=>H8 hok h
   have no:A0Y (l.getD (i:Int).toNat default)=false→L4 l (fun _ x=>A0Y x)=false:=fun h=>W7 (p:=fun _ x=>A0Y x) hi' h
   have n1:=B6x (l.getD (i:Int).toNat default).scope (hs _ (A6 hi')) st'
   rw [show A0Y (l.getD (i:Int).toNat default)=(A0r (l.getD (i:Int).toNat default).scope&&!(decide ((l.getD (i:Int).toNat default).count<1)||decide ((l.getD (i:Int).toNat default).count>100))) from rfl] at yes no
   generalize A0r (l.getD (i:Int).toNat default).scope=b1 at n1 yes no
   repeat' ((conv=>whnf);first | refine ⟨rfl,⟨by omega,by omega⟩,?_⟩ | refine B3 n1 ?_ | cases b1 | (refine B8 (fun h=>?_) (fun h=>?_)<;>rw [h]))
   all_goals (conv=>whnf)
   all_goals first
    | (rw [no (by simp only [*,D6x,D6t,D6r,D6j,D6b])];exact ⟨rfl,rfl⟩)
    | (refine ⟨rfl,?_⟩;conv=>whnf
       exact nx hi' ⟨yes (by simp only [*,D6u,D6k,D6w]),by rw [B4 (by omega)],rfl⟩)
theorem B6D (l:List Int) (hl:Sm l.length) (st:St):S P 137 [B0 l] st fun v st'=>v=.bool (A1i l)∧st'=st:=by
 refine F2 [] Tryz.func137 ?_
 refine lp l.length [0,3] (fun i vs st'=>(∀ k,k<i→A2E l k (l.getD k default)=true)∧vs=[B0 l,eI i]∧st'=st) ?_ ?_
 ·conv=>whnf
  exact ⟨fun k hk=>absurd hk (by omega),rfl,rfl⟩
 ·rintro i vs st' hi ⟨hok,rfl,rfl⟩
  conv=>whnf
  cases h:decide ((i:Int)<(l.length:Int))
  ·obtain rfl:=C4 h hi
   conv=>whnf
   exact ⟨by rw [show A1i l=true from L0 hok];rfl,rfl⟩
  ·have hi':=D8 h
   have yes:A2E l i (l.getD (i:Int).toNat default)=true→∀ k,k<i+1→A2E l k (l.getD k default)=true:=fun h=>H8 hok h
   have no:A2E l i (l.getD (i:Int).toNat default)=false→A1i l=false:=fun h=>W7 hi' h
   rw [show A2E l i (l.getD (i:Int).toNat default)=!(!(decide ((l.getD (i:Int).toNat default)≥1)&&decide ((l.getD (i:Int).toNat default)≤9))||(l.take i).any fun y=>l.getD (i:Int).toNat default==y) from rfl] at yes no
   have no':(decide ((l.getD (i:Int).toNat default)≥1)&&decide ((l.getD (i:Int).toNat default)≤9))=false→A1i l=false:=fun h=>no (by rw [h];rfl)
   repeat' ((conv=>whnf);first | refine ⟨rfl,⟨by omega,by omega⟩,?_⟩ | (refine B8 (fun h=>?_) (fun h=>?_)<;>rw [h]))
   all_goals (conv=>whnf)
   ·rw [no' (by rw [D7L,D5D,D5D];simp only [D5E,D5D] at *;omega)];exact ⟨rfl,rfl⟩
   ·rw [no' (by rw [D7L,D5D,D5D];simp only [D5E,D5D] at *;omega)];exact ⟨rfl,rfl⟩
   have hk:(decide ((l.getD (i:Int).toNat default)≥1)&&decide ((l.getD (i:Int).toNat default)≤9))=true:=by rw [D5I,D5E,D5E];simp only [D5E,D5D] at *;omega
   rw [hk] at yes no
   refine lp i [0,3,4] (fun j vs s=>(∀ k,k<j→(l.getD k default==l.getD i default)=false)∧vs=[B0 l,eI i,eI j]∧s=st') ?_ ?_
   ·conv=>whnf
    exact ⟨fun k hk=>absurd hk (by omega),rfl,rfl⟩
   ·rintro j vs s hj ⟨hokj,rfl,rfl⟩
    conv=>whnf
    cases h:decide ((j:Int)<(i:Int))
    ·obtain rfl:=C4 h hj
     conv=>whnf
     refine F7 ?_
     refine nx hi' ⟨yes ?_,by rw [B4 (by omega)],rfl⟩
     rw [D6E.2 fun x hx=>?_];rfl
     obtain ⟨k,hk2,rfl⟩:=D3 hx
     rw [D5M] at hk2
     have h4:=hokj k (by omega)
     rw [D5P,show (l.take j).getD k default=l.getD k default by rw [D5C,D5C,D5Q (by omega)],D8K,h4];simp
    ·have hj':=D8 h
     conv=>whnf
     refine ⟨[],[],List.range 9,by kernel_rfl,?_⟩;conv=>whnf
     refine E7 ?_
     refine E7 ?_
     refine B8 (fun h1=>?_) (fun h1=>?_)<;>rw [h1]
     ·conv=>whnf
      refine ⟨?_,rfl⟩
      rw [no ?_];rfl
      rw [D7i.2 ⟨l.getD j default,?_,?_⟩];rfl
      ·rw [List.mem_take_iff_getElem]
       exact ⟨j,by omega,by simp [show j<l.length by omega]⟩
      ·rw [D8K];exact h1
     ·conv=>whnf
      refine F7 ?_
      exact nx hj' ⟨H8 hokj h1,by rw [B4 (by omega)],rfl⟩
structure B7n (z:K5):Prop where
 n:Sm z.rates.length
 s:Sm z.name.size
 r:∀ x∈z.rates,Sm x.cat.size
def A3W (l:List G4) (k:Nat) (x:G4):Bool:=D0 x.cat&&O7 0 10000 x.rate&&P0 (l.map G4.cat) k
def B2t (z:K5):Bool:=L4 z.rates (A3W z.rates)&&(decide ((z.rates.length:Int)≤40)&&O7 0 10000 z.rest&&O7 0 10000 z.ship)
theorem C4i (z:K5) (hz:B7n z) (st:St):S P 195 [T4 z] st fun v st'=>v=.bool (B2t z)∧st'=st:=by
 rw [show B2t z=(L4 z.rates (A3W z.rates)&&(decide ((z.rates.length:Int)≤40)&&O7 0 10000 z.rest&&O7 0 10000 z.ship)) from rfl]
 refine F2 [1] Tryz.func195 ?_
 refine lp z.rates.length [1,3] (fun i vs st'=>(∀ k,k<i→A3W z.rates k (z.rates.getD k default)=true)∧vs=[.fptr (T4 z) 0,eI i]∧st'=st) ?_ ?_
 ·conv=>whnf
  exact ⟨fun k hk=>absurd hk (by omega),rfl,rfl⟩
 ·rintro i vs st' hi ⟨hok,rfl,rfl⟩
  conv=>whnf
  cases h:decide ((i:Int)<(z.rates.length:Int))
  ·obtain rfl:=C4 h hi
   rw [show L4 z.rates (A3W z.rates)=true from L0 hok,D5T];conv=>whnf
   cases hd:decide ((z.rates.length:Int)≤40)
   ·conv=>whnf
    exact ⟨rfl,rfl⟩
   ·conv=>whnf
    refine I5 (A2N z.rest 10000 _) ?_
    cases O7 0 10000 z.rest
    ·conv=>whnf
     exact ⟨rfl,rfl⟩
    ·conv=>whnf
     refine I5 (A2N z.ship 10000 _) ?_
     exact ⟨rfl,rfl⟩
  ·have hi':=D8 h
   have yes:A3W z.rates i (z.rates.getD (i:Int).toNat default)=true→∀ k,k<i+1→A3W z.rates k (z.rates.getD k default)=true:=fun h=>H8 hok h
   have no:A3W z.rates i (z.rates.getD (i:Int).toNat default)=false→L4 z.rates (A3W z.rates)=false:=fun h=>W7 hi' h
   have hl:=hz.n
   have hm:=hz.r _ (A6 hi')
   have n1:=A2i (z.rates.getD (i:Int).toNat default).cat hm st'
   have n2:=A2N (z.rates.getD (i:Int).toNat default).rate 10000 st'
   have e:0<i→P0 (z.rates.map G4.cat) i=!(Op.bytesLess (z.rates.getD i default).cat.toList (z.rates.getD (i - 1) default).cat.toList||(z.rates.getD i default).cat.toList==(z.rates.getD (i - 1) default).cat.toList):=fun hp=>by
    rw [B4L hp]
    have e1:(z.rates.map G4.cat).getD i default=(z.rates.getD i default).cat:=D4 G4.cat z.rates hi'
    have e2:(z.rates.map G4.cat).getD (i - 1) default=(z.rates.getD (i - 1) default).cat:=D4 G4.cat z.rates (by omega)
    rw [e1,e2]
   have e0:i=0→P0 (z.rates.map G4.cat) i=true:=fun h=>by rw [h];rfl
   rw [show A3W z.rates i (z.rates.getD (i:Int).toNat default)=(D0 (z.rates.getD (i:Int).toNat default).cat&&O7 0 10000 (z.rates.getD (i:Int).toNat default).rate&&P0 (z.rates.map G4.cat) i) from rfl] at yes no
   generalize D0 (z.rates.getD (i:Int).toNat default).cat=b1 at n1 yes no
   generalize O7 0 10000 (z.rates.getD (i:Int).toNat default).rate=b2 at n2 yes no
   conv=>whnf
   refine ⟨[],[],List.range 38,by kernel_rfl,?_⟩
   cases h0:decide ((i:Int)>0)
   ·replace e:=e0 (by have:=D5G h0;omega)
    repeat' ((conv=>whnf);first | refine ⟨rfl,⟨by omega,by omega⟩,?_⟩ | refine ⟨_,H0 n1,?_⟩ | refine ⟨_,H0 n2,?_⟩ | rw [h0] | cases b1 | cases b2)
    all_goals (conv=>whnf)
    all_goals first
     | (rw [no (by rfl)];exact ⟨rfl,rfl⟩)
     | (refine ⟨rfl,?_⟩;conv=>whnf
        exact nx hi' ⟨yes (by rw [e];rfl),by rw [B4 (by omega)],rfl⟩)
   ·have h0':0<i:=by have:=D5F h0;omega
    replace e:=e h0'
    have hw:=A7l h0' (by omega)
    repeat' ((conv=>whnf);first | refine ⟨rfl,⟨by omega,by omega⟩,?_⟩ | refine ⟨rfl,⟨by rw [hw];omega,by rw [hw];omega⟩,?_⟩ | refine ⟨_,H0 n1,?_⟩ | refine ⟨_,H0 n2,?_⟩ | rw [h0] | cases b1 | cases b2 | refine B8 (fun h=>?_) (fun h=>?_))
    all_goals (conv=>whnf)
    all_goals first
     | (rw [no (by rfl)];exact ⟨rfl,rfl⟩)
     | (rw [hw] at h;rw [no (by rw [e];exact D7E not h)];exact ⟨rfl,rfl⟩)
     | (rw [hw] at h;refine ⟨rfl,?_⟩;conv=>whnf
        exact nx hi' ⟨yes (by rw [e];exact D7E not h),by rw [B4 (by omega)],rfl⟩)
def A4b (l:List K5) (k:Nat) (x:K5):Bool:=D0 x.name&&B2t x&&P0 (l.map K5.name) k
structure B2V (x:Tax):Prop where
 n:Sm x.zones.length
 z:∀ z∈x.zones,B7n z
def C6J (x:Tax):Bool:=L4 x.zones (A4b x.zones)&&(decide ((x.zones.length:Int)≤20)&&decide (x.round≥0)&&decide (x.round≤2))
theorem C6r (x:Tax) (hx:B2V x) (st:St):S P 135 [S8 x] st fun v st'=>v=.bool (C6J x)∧st'=st:=by
 rw [show C6J x=(L4 x.zones (A4b x.zones)&&(decide ((x.zones.length:Int)≤20)&&decide (x.round≥0)&&decide (x.round≤2))) from rfl]
 refine F2 [1] Tryz.func135 ?_
 refine lp x.zones.length [1,3] (fun i vs st'=>(∀ k,k<i→A4b x.zones k (x.zones.getD k default)=true)∧vs=[.fptr (S8 x) 0,eI i]∧st'=st) ?_ ?_
 ·conv=>whnf
  exact ⟨fun k hk=>absurd hk (by omega),rfl,rfl⟩
 ·rintro i vs st' hi ⟨hok,rfl,rfl⟩
  conv=>whnf
  cases h:decide ((i:Int)<(x.zones.length:Int))
  ·obtain rfl:=C4 h hi
   rw [show L4 x.zones (A4b x.zones)=true from L0 hok,D5T];conv=>whnf
   refine B8 (fun h=>?_) (fun h=>?_)<;>rw [h]
   ·conv=>whnf
    refine B8 (fun h=>?_) (fun h=>?_)<;>rw [h]<;>(conv=>whnf)<;>exact ⟨rfl,rfl⟩
   ·conv=>whnf
    exact ⟨rfl,rfl⟩
  ·have hi':=D8 h
   have yes:A4b x.zones i (x.zones.getD (i:Int).toNat default)=true→∀ k,k<i+1→A4b x.zones k (x.zones.getD k default)=true:=fun h=>H8 hok h
   have no:A4b x.zones i (x.zones.getD (i:Int).toNat default)=false→L4 x.zones (A4b x.zones)=false:=fun h=>W7 hi' h
   have hl:=hx.n
   have hm:=hx.z _ (A6 hi')
   have n1:=A2i (x.zones.getD (i:Int).toNat default).name hm.s st'
   have n2:=C4i (x.zones.getD (i:Int).toNat default) hm st'
   have e:0<i→P0 (x.zones.map K5.name) i=!(Op.bytesLess (x.zones.getD i default).name.toList (x.zones.getD (i - 1) default).name.toList||(x.zones.getD i default).name.toList==(x.zones.getD (i - 1) default).name.toList):=fun hp=>by
    rw [B4L hp]
    have e1:(x.zones.map K5.name).getD i default=(x.zones.getD i default).name:=D4 K5.name x.zones hi'
    have e2:(x.zones.map K5.name).getD (i - 1) default=(x.zones.getD (i - 1) default).name:=D4 K5.name x.zones (by omega)
    rw [e1,e2]
   have e0:i=0→P0 (x.zones.map K5.name) i=true:=fun h=>by rw [h];rfl
   rw [show A4b x.zones i (x.zones.getD (i:Int).toNat default)=(D0 (x.zones.getD (i:Int).toNat default).name&&B2t (x.zones.getD (i:Int).toNat default)&&P0 (x.zones.map K5.name) i) from rfl] at yes no
   generalize D0 (x.zones.getD (i:Int).toNat default).name=b1 at n1 yes no
   generalize B2t (x.zones.getD (i:Int).toNat default)=b2 at n2 yes no
   conv=>whnf
   refine ⟨[],[],List.range 37,by kernel_rfl,?_⟩
   cases h0:decide ((i:Int)>0)
   ·replace e:=e0 (by have:=D5G h0;omega)
    repeat' ((conv=>whnf);first | refine ⟨rfl,⟨by omega,by omega⟩,?_⟩ | refine ⟨_,H0 n1,?_⟩ | refine ⟨_,H0 n2,?_⟩ | rw [h0] | cases b1 | cases b2)
    all_goals (conv=>whnf)
    all_goals first
     | (rw [no (by rfl)];exact ⟨rfl,rfl⟩)
     | (refine ⟨rfl,?_⟩;conv=>whnf
        exact nx hi' ⟨yes (by rw [e];rfl),by rw [B4 (by omega)],rfl⟩)
   ·have h0':0<i:=by have:=D5F h0;omega
    replace e:=e h0'
    have hw:=A7l h0' (by omega)
    repeat' ((conv=>whnf);first | refine ⟨rfl,⟨by omega,by omega⟩,?_⟩ | refine ⟨rfl,⟨by rw [hw];omega,by rw [hw];omega⟩,?_⟩ | refine ⟨_,H0 n1,?_⟩ | refine ⟨_,H0 n2,?_⟩ | rw [h0] | cases b1 | cases b2 | refine B8 (fun h=>?_) (fun h=>?_))
    all_goals (conv=>whnf)
    all_goals first
     | (rw [no (by rfl)];exact ⟨rfl,rfl⟩)
     | (rw [hw] at h;rw [no (by rw [e];exact D7E not h)];exact ⟨rfl,rfl⟩)
     | (rw [hw] at h;refine ⟨rfl,?_⟩;conv=>whnf
        exact nx hi' ⟨yes (by rw [e];exact D7E not h),by rw [B4 (by omega)],rfl⟩)
theorem C4W (z:K5):(D0 z.name&&B2t z)=Y0 z:=by
 unfold B2t Y0 L4 A0q A3W A4w O7
 rw [D5H,←D7M]
 simp only [D5I,D5Y,D5S,D5W,D6Q,D6l,D5E,D5D]
 constructor
 ·rintro ⟨h0,h1,⟨h2,h3⟩,h4⟩
  exact ⟨⟨⟨⟨h0,h3⟩,h4⟩,by omega⟩,fun k hk=>(h1 k hk).1,fun k hk=>(h1 k hk).2⟩
 ·rintro ⟨⟨⟨⟨h0,h3⟩,h4⟩,h2⟩,h1,h5⟩
  exact ⟨h0,fun k hk=>⟨h1 k hk,h5 k hk⟩,⟨by omega,h3⟩,h4⟩
theorem C6K (x:Tax):C6J x=taxC x:=by
 unfold C6J taxC
 rw [←D7M]
 unfold L4 A0q A4b
 rw [D5H]
 simp only [C4W,D5I,D5Y,D5S,D5W,D6Q,D6l,D5E,D5D]
 constructor
 ·rintro ⟨h1,⟨h2,h3⟩,h4⟩
  exact ⟨⟨⟨by omega,by omega⟩,by omega⟩,fun k hk=>(h1 k hk).1,fun k hk=>(h1 k hk).2⟩
 ·rintro ⟨⟨⟨h3,h4⟩,h2⟩,h1,h5⟩
  exact ⟨fun k hk=>⟨h1 k hk,h5 k hk⟩,⟨by omega,by omega⟩,by omega⟩
theorem C4a (x:Tax) (hx:B2V x) (st:St):S P 135 [S8 x] st fun v st'=>v=.bool (taxC x)∧st'=st:=by
 rw [←C6K];exact C6r x hx st
def A2Z (l:List A0U) (k:Nat) (x:A0U):Bool:=O7 0 10000000000000 x.least&&O7 0 10000 x.rate&&O7 0 10000000000000 x.amount&&!(x.rate==0&&x.amount==0)&&(k==0||!decide (x.least≤(l.getD (k - 1) default).least))
theorem C4j (l:List A0U) (hl:Sm l.length) (st:St):S P 241 [A8 3 S3 l] st fun v st'=>v=.bool (L4 l (A2Z l)&&(decide ((l.length:Int)≥1)&&decide ((l.length:Int)≤6)))∧st'=st:=by
 refine F2 [4] Tryz.func241 ?_
 refine lp l.length [0,3] (fun i vs st'=>(∀ k,k<i→A2Z l k (l.getD k default)=true)∧vs=[A8 3 S3 l,eI i]∧st'=st) ?_ ?_
 ·conv=>whnf
  exact ⟨fun k hk=>absurd hk (by omega),rfl,rfl⟩
 ·rintro i vs st' hi ⟨hok,rfl,rfl⟩
  conv=>whnf
  cases h:decide ((i:Int)<(l.length:Int))
  ·obtain rfl:=C4 h hi
   rw [L0 hok,D5T];conv=>whnf
   refine B8 (fun h=>?_) (fun h=>?_)<;>rw [h]<;>(conv=>whnf)<;>exact ⟨rfl,rfl⟩
  ·have hi':=D8 h
   have yes:A2Z l i (l.getD (i:Int).toNat default)=true→∀ k,k<i+1→A2Z l k (l.getD k default)=true:=fun h=>H8 hok h
   have no:A2Z l i (l.getD (i:Int).toNat default)=false→L4 l (A2Z l)=false:=fun h=>W7 hi' h
   have n1:=A2N (l.getD (i:Int).toNat default).least 10000000000000 st'
   have n2:=A2N (l.getD (i:Int).toNat default).rate 10000 st'
   have n3:=A2N (l.getD (i:Int).toNat default).amount 10000000000000 st'
   have hw:=fun h=>A7l (i:=i) h (by omega)
   rw [show A2Z l i (l.getD (i:Int).toNat default)=(O7 0 10000000000000 (l.getD (i:Int).toNat default).least&&O7 0 10000 (l.getD (i:Int).toNat default).rate&&O7 0 10000000000000 (l.getD (i:Int).toNat default).amount&&!((l.getD (i:Int).toNat default).rate==0&&(l.getD (i:Int).toNat default).amount==0)&&(i==0||!decide ((l.getD (i:Int).toNat default).least≤(l.getD (i - 1) default).least))) from rfl] at yes no
   generalize O7 0 10000000000000 (l.getD (i:Int).toNat default).least=b1 at n1 yes no
   generalize O7 0 10000 (l.getD (i:Int).toNat default).rate=b2 at n2 yes no
   generalize O7 0 10000000000000 (l.getD (i:Int).toNat default).amount=b3 at n3 yes no
   conv=>whnf
   refine E7 ?_
   refine ⟨[],[],List.range 41,by kernel_rfl,?_⟩
   have step:∀ b4:Bool,b4=((l.getD (i:Int).toNat default).rate==0&&(l.getD (i:Int).toNat default).amount==0)→True:=fun _ _=>trivial
   rcases D7b i with h0 | h0
   ·have h1:decide ((i:Int)>0)=false:=D5J (by omega)
    rw [show (i==0)=true from by rw [h0];rfl,D6x,D6w] at yes no
    repeat' ((conv=>whnf);first | refine ⟨rfl,⟨by omega,by omega⟩,?_⟩ | refine ⟨_,H0 n1,?_⟩ | refine ⟨_,H0 n2,?_⟩ | refine ⟨_,H0 n3,?_⟩ | rw [h1] | cases b1 | cases b2 | cases b3 | (refine B8 (fun h=>?_) (fun h=>?_)<;>rw [h] at yes no ⊢))
    all_goals (conv=>whnf)
    all_goals first
     | (rw [no (by rfl)];exact ⟨rfl,rfl⟩)
     | (refine ⟨rfl,?_⟩;conv=>whnf
        exact nx hi' ⟨yes (by rfl),by rw [B4 (by omega)],rfl⟩)
   ·have h1:decide ((i:Int)>0)=true:=D6m (by omega)
    rw [show (i==0)=false from D7u (by omega),D6q] at yes no
    have hw:=hw h0
    repeat' ((conv=>whnf);first | refine ⟨rfl,⟨by omega,by omega⟩,?_⟩ | refine ⟨rfl,⟨by rw [hw];omega,by rw [hw];omega⟩,?_⟩ | refine ⟨_,H0 n1,?_⟩ | refine ⟨_,H0 n2,?_⟩ | refine ⟨_,H0 n3,?_⟩ | rw [h1] | cases b1 | cases b2 | cases b3 | (refine B8 (fun h=>?_) (fun h=>?_)<;>rw [h] at yes no ⊢) | (rw [hw];refine B8 (fun h=>?_) (fun h=>?_)))
    all_goals (conv=>whnf)
    all_goals first
     | (rw [no (by rfl)];exact ⟨rfl,rfl⟩)
     | (rw [no (D7E not h)];exact ⟨rfl,rfl⟩)
     | (refine ⟨rfl,?_⟩;conv=>whnf
        exact nx hi' ⟨yes (D7E not h),by rw [B4 (by omega)],rfl⟩)
theorem C1V (l:List A0U):(L4 l (A2Z l)&&(decide ((l.length:Int)≥1)&&decide ((l.length:Int)≤6)))=A0c l:=by
 unfold A0c
 rw [Bool.and_comm]
 congr 1
 ·rw [Bool.not_or];congr 1<;>(rw [←decide_not];exact D7t.2 (by omega))
 ·rw [←D7M]
  unfold L4 A2Z A4a O7
  simp only [D5I,D5Y,D5S,D5W,D6Q,D6l,D5E,D5D,D6K,D6z]
  constructor
  ·intro h k hk
   obtain ⟨⟨⟨⟨h1,h2⟩,h3⟩,h4⟩,h5⟩:=h k hk
   refine ⟨⟨⟨⟨⟨⟨?_,by omega⟩,by omega⟩,by omega⟩,by omega⟩,by omega⟩,h4⟩
   split
   ·omega
   ·rcases h5 with h5 | h5<;>omega
  ·intro h
   have pos:∀ k,k<l.length→0≤(l.getD k default).least:=fun k=>by
    induction k with
    | zero=>intro hk;have:=(h 0 hk).1.1.1.1.1.1;rw [if_pos rfl] at this;omega
    | succ k ih=>intro hk;have:=(h (k+1) hk).1.1.1.1.1.1;rw [if_neg (by omega),Nat.add_sub_cancel] at this;have:=ih (by omega);omega
   intro k hk
   obtain ⟨⟨⟨⟨⟨⟨h1,h2⟩,h3⟩,h4⟩,h5⟩,h6⟩,h7⟩:=h k hk
   have:=pos k hk
   refine ⟨⟨⟨⟨⟨by omega,by omega⟩,by omega,by omega⟩,by omega,by omega⟩,h7⟩,?_⟩
   by_cases h0:k=0
   ·exact .inl h0
   ·rw [if_neg h0] at h1;exact .inr h1
structure A2T (p:B1):Prop where
 id:Sm p.id.size
 group:Sm p.group.size
 code:Sm p.code.size
 scope:A2f p.scope
 parts:Sm p.parts.length
 part:∀ x∈p.parts,A2f x.scope
 tiers:Sm p.tiers.length
def A6c (l:List A2n):Bool:=L4 l (fun _ x=>A0Y x)&&(decide ((l.length:Int)≥1)&&decide ((l.length:Int)≤3))
def B1D (p:B1):Bool :=
 if p.kind=1 then (decide (p.rate≥1)&&decide (p.rate≤10000))&&p.amount==0&&(p.buy==0&&p.get==0)&&(p.parts.length:Int)==0&&(p.tiers.length:Int)==0
 else if p.kind=2 then p.rate==0&&decide (p.amount≥1)&&decide (p.amount≤1000000000)&&(p.buy==0&&p.get==0)&&(p.parts.length:Int)==0&&(p.tiers.length:Int)==0
 else if p.kind=3 then (decide (p.rate≥1)&&decide (p.rate≤10000))&&p.amount==0&&decide (p.buy≥1)&&decide (p.buy≤100)&&decide (p.get≥1)&&decide (p.get≤100)&&(p.parts.length:Int)==0&&(p.tiers.length:Int)==0
 else if p.kind=4 then p.rate==0&&O7 0 10000000000000 p.amount&&(p.buy==0&&p.get==0)&&A6c p.parts&&(p.tiers.length:Int)==0&&((p.scope.skus.length:Int)==0&&(p.scope.cats.length:Int)==0)
 else if p.kind=7 then (decide (p.rate≥1)&&decide (p.rate≤10000))&&p.amount==0&&(p.buy==0&&p.get==0)&&(p.parts.length:Int)==0&&(p.tiers.length:Int)==0&&((p.scope.skus.length:Int)==0&&(p.scope.cats.length:Int)==0)&&!p.closes
 else p.rate==0&&p.amount==0&&(p.buy==0&&p.get==0)&&(p.parts.length:Int)==0&&A0c p.tiers
theorem C1e (p:B1):(A6c p.parts&&O7 0 10000000000000 p.amount)=A6M p:=by
 unfold A6c A6M L4 O7
 rw [←D7M]
 simp only [D5I,D5Y,D5S,D5W,D6Q,D5E,D5D,D6E,D6l]
 constructor
 ·rintro ⟨⟨h1,h2⟩,h3⟩
  exact ⟨⟨⟨⟨by omega,by omega⟩,by omega⟩,by omega⟩,fun x hx=>by obtain ⟨k,hk,rfl⟩:=D3 hx;rw [h1 k hk];simp⟩
 ·rintro ⟨h1,h2⟩
  exact ⟨⟨fun k hk=>by have:=h2 _ (A6 hk);simpa using this,by omega⟩,by omega⟩
theorem C1k (p:B1) (hk:1≤p.kind∧p.kind≤7):B1D p=(A9n p&&A7h p):=by
 have hb:=C1e p
 unfold B1D A9n A7h A8q A8r A8s
 rw [←hb]
 rw [A3J,A3J,A3J,A3J]
 have e:(p.scope.skus.length+p.scope.cats.length==0)=(p.scope.skus.length==0&&p.scope.cats.length==0):=by
  rw [←D7M];simp only [D5I,D6z];omega
 have u:∀ m x,O7 1 m x=true→(x==0)=false:=fun m x h=>by simp only [O7,D5I,D5E] at h;exact D7u (by omega)
 have e4:A6c p.parts=true→(p.parts.length==0)=false:=fun h=>by
  simp only [A6c,D5I,D5E] at h;exact D7u (by omega)
 have e5:A0c p.tiers=true→(p.tiers.length==0)=false:=fun h=>by
  simp only [A0c,D5I,D5W,D6Q,D5D] at h;exact D7u (by omega)
 rw [e]
 rcases (by omega:p.kind=1∨p.kind=2∨p.kind=3∨p.kind=4∨p.kind=5∨p.kind=6∨p.kind=7) with h | h | h | h | h | h | h
 all_goals (rw [h];simp only [show ∀ a b:Int,(if a=b then _ else _)=_ from fun _ _=>rfl,O7,if_true,D8m,Int.reduceEq,Int.reduceBEq,D6x,D6t,D5T,D6w,D6q,D6u,bne,D6r,D6k])
 all_goals (generalize A0c p.tiers=b1 at *;generalize A6c p.parts=b2 at *;generalize (p.parts.length==0)=b3 at *;generalize (p.tiers.length==0)=b4 at *;generalize (p.scope.skus.length==0&&p.scope.cats.length==0)=b5;generalize (p.buy==0&&p.get==0)=b6;generalize (p.rate==0)=b7;generalize (p.amount==0)=b8;generalize decide (p.rate≥1)=b9;generalize decide (p.rate≤10000)=b10)
 all_goals first | done | ac_rfl
theorem C1j (p:B1):G9 p=(D0 p.id&&!decide (p.kind<1)&&!decide (p.kind>7)&&!decide (p.prio<0)&&!decide (p.prio>1000)&&((p.group.toList==(⟨#[]⟩:C8).toList)||D0 p.group)&&((p.code.toList==(⟨#[]⟩:C8).toList)||D0 p.code)&&A0r p.scope&&O7 0 10000000000000 p.least&&B1D p):=by
 by_cases hk:1≤p.kind∧p.kind≤7
 ·have e:O7 0 1000 p.prio=(!decide (p.prio<0)&&!decide (p.prio>1000)):=by
   unfold O7;congr 1<;>(rw [←decide_not];exact D7t.2 (by omega))
  unfold G9 A7g A2G N3
  rw [C1k p hk,e,D6m (show p.kind≥1 from hk.1),D6m (show p.kind<8 by omega),D5J (show ¬ p.kind<1 by omega),D5J (show ¬ p.kind>7 by omega)]
  simp only [D5T,D6w,D6k,Bool.and_assoc]
 ·have:G9 p=false:=by
   unfold G9
   rw [show (decide (p.kind≥1)&&decide (p.kind<8))=false from by rw [D7L,D5D,D5D];omega];rfl
  rw [this]
  by_cases h:p.kind<1
  ·rw [D6m h];simp
  ·rw [D6m (show p.kind>7 by omega)];simp
set_option maxHeartbeats 8000000 in
theorem B6v (p:B1) (hp:A2T p) (st:St):S P 194 [B7 p] st fun v st'=>v=.bool (G9 p)∧st'=st:=by
 have n1:=A2i p.id hp.id st
 have n2:=A2i p.group hp.group st
 have n3:=A2i p.code hp.code st
 have n4:=B6x p.scope hp.scope st
 have n5:=A2N p.least 10000000000000 st
 have n6:=A2N p.amount 10000000000000 st
 have n7:=C4h p.parts hp.parts hp.part st
 have n8:=C4j p.tiers hp.tiers st
 rw [C1V] at n8
 rw [show (L4 p.parts (fun _ x=>A0Y x)&&(decide ((p.parts.length:Int)≥1)&&decide ((p.parts.length:Int)≤3)))=A6c p.parts from rfl] at n7
 have hC:=C1j p
 generalize hb5:O7 0 10000000000000 p.least=b5 at *
 generalize hb6:O7 0 10000000000000 p.amount=b6 at *
 generalize hb7:A6c p.parts=b7 at *
 generalize hb8:A0c p.tiers=b8 at *
 generalize G9 p=R at *
 clear hp hb5
 obtain ⟨id,kind,prio,group,code,closes,scope,least,rate,amount,buy,get,parts,tiers⟩:=p
 simp only at *
 generalize D0 id=b1 at *
 generalize D0 group=b2 at *
 generalize D0 code=b3 at *
 generalize A0r scope=b4 at *
 obtain ⟨H,hH⟩:∃ H:Bool,H=(b1&&!decide (kind<1)&&!decide (kind>7)&&!decide (prio<0)&&!decide (prio>1000)&&((group.toList==(⟨#[]⟩:C8).toList)||b2)&&((code.toList==(⟨#[]⟩:C8).toList)||b3)&&b4&&b5):=⟨_,rfl⟩
 rw [←hH] at hC
 obtain ⟨q,hq⟩:∃ q:B1,q=⟨id,kind,prio,group,code,closes,scope,least,rate,amount,buy,get,parts,tiers⟩:=⟨_,rfl⟩
 have hB:∀ h:buy=q.buy,True:=fun _=>trivial
 refine C2q [1] [(1,[1,67]),(3,[1,3,4,5,6,7]),(4,[1,3,4,5,6,7,8]),(5,[1,3,4,5,6,7,8,9])] B4k mixed Tryz.func194 (by rfl) rfl rfl rfl ?_;conv=>whnf
 refine ⟨fun us s=>us=[.fptr (B7 ⟨id,kind,prio,group,code,closes,scope,least,rate,amount,buy,get,parts,tiers⟩) 0,.bool (!H)]∧s=st,?_,?_⟩
 ·repeat' ((conv=>whnf);first | refine B3 n1 ?_ | refine B3 n2 ?_ | refine B3 n3 ?_ | refine B3 n4 ?_ | refine B3 n5 ?_ | refine ⟨rfl,?_⟩ | (refine B8 (fun h=>?_) (fun h=>?_)<;>rw [h]))
  all_goals (refine ⟨?_,rfl⟩;refine D7E (fun b=>[_,AV.bool b]) ?_;rw [hH];clear hH hC n1 n2 n3 n4 n5 n6 n7 n8)
  all_goals (simp only [D5W,D6l] at *;simp only [*,D5T,D6b,D6w,D6j,D6t,D6u,D6x,D6q,D6r,D6k,D6X])
 rintro vs s ⟨rfl,rfl⟩
 conv=>whnf
 refine B8 (fun h=>?_) (fun h=>?_)<;>rw [h]
 ·conv=>whnf
  exact ⟨by rw [hC,show H=false by simpa using h];rfl,rfl⟩
 have hT:R=B1D q:=by rw [hC,show H=true by simpa using h,hq];rfl
 clear hC h n1 n2 n3 n4 n5 hH
 conv=>whnf
 refine ⟨fun us s'=>us=[.fptr (B7 ⟨id,kind,prio,group,code,closes,scope,least,rate,amount,buy,get,parts,tiers⟩) 0,.bool (rate==0),.bool (amount==0),.bool (buy==0&&get==0),.bool ((parts.length:Int)==0),.bool ((tiers.length:Int)==0)]∧s'=s,?_,?_⟩
 ·refine .inl ⟨[],[],List.range 27,by kernel_rfl,?_⟩
  repeat' ((conv=>whnf);first | refine ⟨rfl,?_⟩ | (refine B8 (fun h=>?_) (fun h=>?_)<;>rw [h]))
  all_goals rfl
 rintro vs s ⟨rfl,rfl⟩
 conv=>whnf
 refine ⟨fun us s'=>us=[.fptr (B7 ⟨id,kind,prio,group,code,closes,scope,least,rate,amount,buy,get,parts,tiers⟩) 0,.bool (rate==0),.bool (amount==0),.bool (buy==0&&get==0),.bool ((parts.length:Int)==0),.bool ((tiers.length:Int)==0),.bool ((scope.skus.length:Int)==0&&(scope.cats.length:Int)==0)]∧s'=s,?_,?_⟩
 ·repeat' ((conv=>whnf);first | refine ⟨rfl,?_⟩ | (refine B8 (fun h=>?_) (fun h=>?_)<;>rw [h]))
  all_goals rfl
 rintro vs s ⟨rfl,rfl⟩
 conv=>whnf
 refine ⟨fun us s'=>us=[.fptr (B7 ⟨id,kind,prio,group,code,closes,scope,least,rate,amount,buy,get,parts,tiers⟩) 0,.bool (rate==0),.bool (amount==0),.bool (buy==0&&get==0),.bool ((parts.length:Int)==0),.bool ((tiers.length:Int)==0),.bool ((scope.skus.length:Int)==0&&(scope.cats.length:Int)==0),.bool (decide (rate≥1)&&decide (rate≤10000))]∧s'=s,?_,?_⟩
 ·repeat' ((conv=>whnf);first | refine ⟨rfl,?_⟩ | (refine B8 (fun h=>?_) (fun h=>?_)<;>rw [h]))
  all_goals rfl
 rintro vs s ⟨rfl,rfl⟩
 subst hq
 unfold B1D at hT
 simp only [hb6,hb7,hb8] at hT
 generalize (rate==0)=a1 at *
 generalize (amount==0)=a2 at *
 generalize (buy==0&&get==0)=a3 at *
 generalize ((parts.length:Int)==0)=a4 at *
 generalize ((tiers.length:Int)==0)=a5 at *
 generalize ((scope.skus.length:Int)==0&&(scope.cats.length:Int)==0)=a6 at *
 generalize (decide (rate≥1)&&decide (rate≤10000))=a7 at *
 have hk:kind=1∨kind=2∨kind=3∨kind=4∨kind=7∨(kind≠1∧kind≠2∧kind≠3∧kind≠4∧kind≠7):=by omega
 rcases hk with rfl | rfl | rfl | rfl | rfl | ⟨k1,k2,k3,k4,k7⟩
 case' inr.inr.inr.inr.inr =>
  rw [if_neg k1,if_neg k2,if_neg k3,if_neg k4,if_neg k7] at hT
  have e1:=D7u k1
  have e2:=D7u k2
  have e3:=D7u k3
  have e4:=D7u k4
  have e7:=D7u k7
 all_goals try simp only [if_true,D8m,Int.reduceEq] at hT
 all_goals repeat' ((conv=>whnf);first | refine B3 n6 ?_ | refine B3 n7 ?_ | refine B3 n8 ?_ | rw [e1] | rw [e2] | rw [e3] | rw [e4] | rw [e7] | (refine B8 (fun h=>?_) (fun h=>?_)<;>rw [h]))
 all_goals (conv=>whnf)
 all_goals (refine ⟨?_,rfl⟩;show AV.bool _=AV.bool _;rw [hT];clear hT n6 n7 n8;try simp only [D5W,D6l] at *)
 all_goals (simp only [*,D5T,D6b,D6w,D6j,D6t,D6u,D6x,D6q,D6r,D6k,D6X])
theorem A7E (p:B1) (hp:A2T p) (hC:G9 p=true) (st:St):S P 194 [B7 p] st fun v st'=>v=.bool true∧st'=st:=by
 have h:=B6v p hp st
 rw [hC] at h;exact h
end Go.Proofs.YtaapofnkmpiknaaGreat
