/- Part 26 of the proof: contracts of the functions that the law reaches -/
import Derived.Test.YtaapofnkmpiknaaGreatPl25
set_option maxRecDepth 100000
set_option linter.unusedVariables false
set_option linter.unusedSimpArgs false
namespace Go.Proofs.YtaapofnkmpiknaaGreat
open Go Go.Ab
attribute [local irreducible] upd del
theorem B0G {α : Type} [Inhabited α] {l:List α} {p : α→Bool} {i:Nat} (hi:i<l.length) (h:p (l.getD i default)=true) (hno:∀ j,j<i→p (l.getD j default)=false):l.find? p=some (l.getD i default):=by
 have g:∀ j (hj:j<l.length),l.getD j default=l[j]:=fun j hj=>by rw [D6D,D6K hj];rfl
 rw [List.find?_eq_some_iff_getElem]
 refine ⟨h,i,hi,(g i hi).symm,fun j hj=>?_⟩
 have:=hno j hj
 rw [g j (by omega)] at this
 rw [this];rfl
theorem B0H {α : Type} [Inhabited α] {l:List α} {p : α→Bool} (hno:∀ j,j<l.length→p (l.getD j default)=false):l.find? p=none:=by
 rw [D9i]
 intro x hx
 obtain ⟨j,hj,rfl⟩:=D5 hx
 rw [hno j hj];simp
theorem B8U (z:K3) (c:C8) (hl:z.rates.length≤100000) (st:St):S P 189 [S3 z,eS c] st fun v st'=>v=eI (F3 z c)∧st'=st:=by
 refine F4 [2,6] Tryz.func189 ?_
 refine lp z.rates.length [1,2,8,9,10] (fun i vs t=>(∀ j,j<i→((z.rates.getD j default).cat.toList==c.toList)=false)∧vs=[eS c,.fptr (S3 z) 0,A8 2 A0U z.rates,eI z.rates.length,eI i]∧t=st) ?_ ?_
 ·conv=>whnf
  exact ⟨fun j hj=>absurd hj (by omega),rfl,rfl⟩
 ·rintro i vs t hi ⟨hno,rfl,rfl⟩
  conv=>whnf
  cases h1:decide ((i:Int)<(z.rates.length:Int))
  ·obtain rfl:=C5 h1 hi
   have hf:F3 z c=z.rest:=by unfold F3;rw [B0H hno]
   rw [hf];conv=>whnf
   exact ⟨rfl,rfl⟩
  ·have hi':=E2 h1
   conv=>whnf
   refine E7 ?_
   refine B9 (fun h2=>?_) (fun h2=>?_)<;>rw [h2]
   ·have hf:F3 z c=(z.rates.getD (i:Int).toNat default).rate:=by unfold F3;rw [B0G (p:=fun x:G8=>x.cat.toList==c.toList) hi' h2 hno];rfl
    rw [hf];conv=>whnf
    exact ⟨rfl,rfl⟩
   ·conv=>whnf
    refine G2 ?_
    exact nx hi' ⟨H5 hno h2,by rw [B4 (by omega)],rfl⟩
theorem B4z (l:List G8) (hl:l.length≤100000) (st:St):S P 276 [A8 2 A0U l] st fun v st'=>v=A8 2 A0U l∧st'=st:=by
 refine A0L (ty:=209) ?_
 refine SyW [] Tryz.func276 ?_
 cases l with
 | nil =>
  conv=>whnf
  refine ⟨?_,?_⟩
  ·conv=>whnf
   exact Col.start _ _ _ _
  ·conv=>whnf
   refine apE rfl rfl rfl rfl rfl (by show 0 * 24≤_;omega) (fun _=>?_) (fun h=>absurd h (by show ¬ 0<0;omega));conv=>whnf
   exact Col.start _ _ _ _
 | cons u us =>
  conv=>whnf
  refine Col.apps (n:=0) (m:=us.length+1) (q:=C6Z) (f:=fun k=>A0U ((u::us).getD k default)) rfl rfl rfl rfl rfl (fun i hi=>by rw [D6Q]) (by show (0+(us.length+1)) * 24≤140737488355328;simp only [D7o] at hl;omega) (Col.start _ _ _ _) (fun sv' st'' hc'=>?_);conv=>whnf
  rw [D6Q] at hc'
  exact hc'
theorem B5X (z:K3) (hl:z.rates.length≤100000) (st:St):S P 236 [S3 z] st fun v st'=>v=S3 z∧st'=st:=by
 have hc:=fun s=>B4z z.rates hl s
 refine A0Q ?_
 refine F4 [] Tryz.func236 ?_
 intro b1 h1;conv=>whnf
 intro b2 h2
 have h12:b1≠b2:=fun e=>by subst e;rw [A0] at h2;cases h2
 conv=>whnf
 refine J6 (by rw [A9 h12];exact A0 ..) rfl ?_
 refine I2 (hc _) ?_
 refine Z7 (by rw [A9 h12];exact A0 ..) rfl ?_
 refine J6 (A0 ..) (A4 ..) ?_
 refine Z7 (by rw [A9 h12.symm];exact A0 ..) rfl ?_
 refine J6 (A0 ..) (A4 ..) ?_
 have hn2:st b2=none:=by rw [A9 h12.symm] at h2;exact h2
 exact ⟨rfl,((((F1.refl st).upd h1).upd h2).over h1).over hn2⟩
def C8l:K3:=⟨⟨#[]⟩,[],0,0⟩
theorem B8V (t:Tax) (s:C8) (hl:t.zones.length≤100000) (hr:∀ z∈t.zones,z.rates.length≤100000) (st:St) :
  S P 188 [S7 t,eS s] st fun v st'=>v=.tuple [S3 ((Z8 t.zones s).getD C8l),.bool (Z8 t.zones s).isSome]∧st'=st:=by
 refine S.post (post:=fun v s'=>F1 st s'∧((∃ z,Z8 t.zones s=some z∧v=.tuple [S3 z,.bool true])∨(Z8 t.zones s=none∧v=.tuple [.agg [eS ⟨#[]⟩,.emp,eI 0,eI 0],.bool false]))) ?_ (fun v s' ⟨hs,h⟩=>⟨_,st,⟨rfl,rfl⟩,by
  rcases h with ⟨z,h1,rfl⟩ | ⟨h1,rfl⟩
  ·rw [h1];exact hs.shift _
  ·rw [h1]
   exact (A6.tuple (A6.cons (Le.shift (Le.agg (F0.cons (Le.refl _) (F0.cons (Le.emp _ _) (F0.refl _)))) _) (A6.keep _ _)) rfl).trans (hs.shift _)⟩)
 refine F4 [2,7] Tryz.func188 ?_
 intro b4 hb4;conv=>whnf
 refine lp t.zones.length [1,4,9,10,11] (fun i vs u=>(∀ j,j<i→((t.zones.getD j default).name.toList==s.toList)=false)∧vs=[eS s,.optr 4 b4 0 0,A8 4 S3 t.zones,eI t.zones.length,eI i]∧u=upd st b4 ⟨103,4,1,fun _=>H7 C1K.zero⟩) ?_ ?_
 ·conv=>whnf
  exact ⟨fun j hj=>absurd hj (by omega),rfl,rfl⟩
 ·rintro i vs u hi ⟨hno,rfl,rfl⟩
  conv=>whnf
  cases h1:decide ((i:Int)<(t.zones.length:Int))
  ·obtain rfl:=C5 h1 hi
   have hf:Z8 t.zones s=none:=B0H hno
   conv=>whnf
   refine Z7 (A0 ..) rfl ?_
   refine J6 (A0 ..) (A4 ..) ?_
   exact ⟨((F1.refl st).upd hb4).over hb4,.inr ⟨hf,rfl⟩⟩
  ·have hi':=E2 h1
   conv=>whnf
   refine E7 ?_
   refine B9 (fun h2=>?_) (fun h2=>?_)<;>rw [h2]
   ·have hf:Z8 t.zones s=some (t.zones.getD (i:Int).toNat default):=B0G (p:=fun z:K3=>z.name.toList==s.toList) hi' h2 hno
    have hc:=fun u=>B5X (t.zones.getD (i:Int).toNat default) (hr _ (A7 hi')) u
    generalize t.zones.getD (i:Int).toNat default=z at hf hc
    conv=>whnf
    refine I2 (hc _) ?_
    refine Z7 (A0 ..) rfl ?_
    refine J6 (A0 ..) (A4 ..) ?_
    exact ⟨((F1.refl st).upd hb4).over hb4,.inl ⟨z,hf,rfl⟩⟩
   ·conv=>whnf
    refine G2 ?_
    exact nx hi' ⟨H5 hno h2,by rw [B4 (by omega)],rfl⟩
theorem A7N (x:Int) (st:St):S P 235 [eI x] st fun v st'=>v=.bool (N9 0 10000000000000 x)∧st'=st:=by
 refine SyW [] Tryz.func235 ?_
 repeat' ((conv=>whnf);first | (refine B9 (fun h=>?_) (fun h=>?_)<;>rw [h]))
 all_goals (conv=>whnf)
 all_goals (refine ⟨?_,rfl⟩;show AV.bool _=AV.bool _;congr 1)
 all_goals (simp only [N9, *,D6Y,D7c];try rfl)
theorem B8w (t:Tax) (x rate:Int) (hr:0≤rate∧rate≤10000) (st:St):S P 192 [S7 t,eI x,eI rate] st fun v st'=>v=eI (N6 t x rate)∧st'=st:=by
 have hM:N6 t x rate=(W7 x rate (A9o t rate) t.round).1:=rfl
 have hw:IntKind.i64.wrap (10000+rate)=10000+rate:=A5 (by omega) (by omega)
 refine F4 [3] Tryz.func192 ?_
 cases hi:t.incl
 ·have hd:A9o t rate=10000:=by unfold A9o;rw [if_neg (by rw [hi];simp)];rfl
  conv=>whnf
  refine B3 (B5B x rate 10000 t.round st) ?_
  rw [hM,hd]
  generalize W7 x rate 10000 t.round=Y
  conv=>whnf
  exact ⟨rfl,rfl⟩
 ·have hd:A9o t rate=10000+rate:=by unfold A9o;rw [if_pos hi]
  conv=>whnf
  rw [hw]
  refine B3 (B5B x rate (10000+rate) t.round st) ?_
  rw [hM,hd]
  generalize W7 x rate (10000+rate) t.round=Y
  conv=>whnf
  exact ⟨rfl,rfl⟩
theorem B1A (t:Tax) (rates nets:List Int) (i:Nat):(List.range (i+1)).map (fun i=>N6 t (gI nets i) (gI rates i))=(List.range i).map (fun i=>N6 t (gI nets i) (gI rates i))++[N6 t (gI nets i) (gI rates i)]:=by rw [D8m,D7k];rfl
theorem B5U (t:Tax) (rates nets:List Int) (hn:nets.length≤1000) (hl:rates.length=nets.length) (hq:∀ x∈rates,0≤x∧x≤10000) (st:St):S P 190 [S7 t,B0 rates,B0 nets] st fun v st'=>v=B0 (X5 t rates nets)∧st'=st:=by
 refine A0L (ty:=2) ?_
 have hL:X5 t rates nets=(List.range nets.length).map fun i=>N6 t (gI nets i) (gI rates i):=rfl
 rw [hL]
 refine F4 [3] Tryz.func190 ?_
 refine lp nets.length [1,3,7,10,11,12] (fun i vs s=>∃ sv,vs=[B0 rates,.fptr (S7 t) 0,sv,B0 nets,eI nets.length,eI i]∧E6 2 1 eI ((List.range i).map fun i=>N6 t (gI nets i) (gI rates i)) st sv s) ?_ ?_
 ·conv=>whnf
  exact ⟨.emp,rfl,E6.start _ _ _ _⟩
 ·rintro i vs s hi ⟨sv,rfl,hc⟩
  conv=>whnf
  cases h1:decide ((i:Int)<(nets.length:Int))
  ·obtain rfl:=C5 h1 hi
   conv=>whnf
   exact hc
  ·have hi':=E2 h1
   have hm:=fun u=>B8w t (gI nets (i:Int).toNat) (gI rates (i:Int).toNat) (hq _ (A7 (by show i<_;omega))) u
   have hs:=B1A t rates nets i
   have hln:((List.range i).map fun i=>N6 t (gI nets i) (gI rates i)).length=i:=by rw [D6J,D7g]
   conv=>whnf
   refine E7 ?_
   refine ⟨[8,9],[],List.range 11,by kernel_rfl,?_⟩;conv=>whnf
   refine E7 ?_
   refine ⟨_,H8 (hm _),?_⟩
   have hy:N6 t (gI nets i) (gI rates i)=N6 t (gI nets (i:Int).toNat) (gI rates (i:Int).toNat):=rfl
   rw [hy] at hs
   generalize N6 t (gI nets (i:Int).toNat) (gI rates (i:Int).toNat)=Y at hs
   conv=>whnf
   refine E6.app (y:=Y) (q:=r2) rfl rfl rfl rfl rfl (by rfl) (by rw [hln];show (i+1) * 8≤140737488355328;omega) hc (fun sv' t' hc'=>?_);conv=>whnf
   refine G2 ?_
   exact nx hi' ⟨sv',by rw [B4 (by omega)],by rw [hs];exact hc'⟩
theorem C6F {t:Tax} {z:K3} {cats:List C8} {nets:List Int} {ship:Int} (h:A2C t z cats nets ship) (st:St):S P 187 [S7 t,C7 cats,B0 nets,eI ship] st fun v st'=>v=.bool true∧st'=st:=by
 have hn:=h.nets.len
 have hs:=h.nets.sum
 have hp:=h.nets.pos
 have hc:=h.cats
 have hT:=fun s=>C8i t s
 have hA:=fun s=>A7N ship s
 rw [h.tax] at hT
 rw [show N9 0 10000000000000 ship=true from E0.2 h.ship] at hA
 have htk:∀ i,0≤A2 (nets.take i)∧A2 (nets.take i)≤10000000000000:=fun i=>by
  have:=N0 hp i
  exact ⟨C1 fun x hx=>hp x (D9C hx),by omega⟩
 refine F4 [4] Tryz.func187 ?_
 refine I2 (hT _) ?_
 rw [hc,show ((nets.length:Int) != (nets.length:Int))=false from bne_self_eq_false _];conv=>whnf
 refine B9 (fun h1=>absurd (D6H h1) (by omega)) (fun h1=>?_)
 rw [h1];conv=>whnf
 refine I2 (hA _) ?_
 refine lp nets.length [9,32,33,34] (fun i vs s=>vs=[eI (A2 (nets.take i)),B0 nets,eI nets.length,eI i]∧s=st) ?_ ?_
 ·conv=>whnf
  exact ⟨rfl,rfl⟩
 ·rintro i vs s hi ⟨rfl,rfl⟩
  conv=>whnf
  cases h2:decide ((i:Int)<(nets.length:Int))
  ·obtain rfl:=C5 h2 hi
   have hB:=fun s=>A7N (A2 (nets.take nets.length)) s
   rw [show N9 0 10000000000000 (A2 (nets.take nets.length))=true from E0.2 (htk _)] at hB;conv=>whnf
   refine I2 (hB _) ?_
   exact ⟨rfl,rfl⟩
  ·have hi':=E2 h2
   have hx:0≤gI nets (i:Int).toNat:=hp _ (A7 hi')
   have hx2:gI nets (i:Int).toNat≤A2 nets:=J4 hp (A7 hi')
   have hB:=fun s=>A7N (gI nets (i:Int).toNat) s
   rw [show N9 0 10000000000000 (gI nets (i:Int).toNat)=true from E0.2 (by omega)] at hB
   have hst:A2 (nets.take (i+1))=A2 (nets.take i)+gI nets (i:Int).toNat:=K9 hi'
   have h3:=htk (i+1)
   have hw:IntKind.i64.wrap (A2 (nets.take i)+gI nets (i:Int).toNat)=A2 (nets.take (i+1)):=by rw [hst] at h3 ⊢;exact A5 (by omega) (by omega)
   conv=>whnf
   refine E7 ?_
   refine I2 (hB _) ?_
   rw [hw]
   refine G2 ?_
   exact nx hi' ⟨by rw [B4 (by omega)],rfl⟩
theorem B4h {t:Tax} (h:taxC t=true):t.zones.length≤20∧∀ z∈t.zones,z.rates.length≤40:=by
 have h':=h
 unfold taxC at h
 simp only [D6I,D6X,D7Q,D6E] at h
 refine ⟨by omega,fun z hz=>?_⟩
 obtain ⟨k,hk,rfl⟩:=D5 hz
 exact (A4M (A4q.1 h.2.1 k hk)).2.2.1
def C5v (t:Tax):FuncId:=if t.byOrder=true then 191 else 190
def Z2 (t:Tax) (taxes nets:List Int) (i:Nat):Int:=if t.incl=true then gI nets i - gI taxes i else gI nets i
theorem B8v (f:Nat→Int) (i:Nat):(List.range (i+1)).map f=(List.range i).map f++[f i]:=by rw [D8m,D7k];rfl
theorem B7F (n i:Nat):(List.replicate n (0:Int)).getD i default=0:=by
 rw [D6D,D8V];split<;>rfl
set_option maxHeartbeats 8000000 in
theorem C8P {t:Tax} {z:K3} {s:C8} {cats:List C8} {nets:List Int} {ship:Int} (h:A2C t z cats nets ship) (hz:Z8 t.zones s=some z) (exempt:Bool)
  (hTax:∀ st,S P (C5v t) [S7 t,B0 (cats.map (F3 z)),B0 nets] st fun v st'=>v=B0 (K7 t (cats.map (F3 z)) nets)∧st'=st) (st:St) :
  S P 124 [S7 t,eS s,eB exempt,C7 cats,B0 nets,eI ship] st fun v st' =>
   v=.tuple [B0 (L4 t z exempt cats nets ship).goods,B0 (L4 t z exempt cats nets ship).taxes,eI (L4 t z exempt cats nets ship).ship,eI (L4 t z exempt cats nets ship).shipTax,eI 0]∧st'=st:=by
 obtain ⟨hr1,hr2⟩:=A3C h
 obtain ⟨t1,t2⟩:=A6D (t:=t) h.nets hr1 hr2
 obtain ⟨l1,l2⟩:=B4h h.tax
 have hzm:z∈t.zones:=D9e hz
 have hzr:=l2 z hzm
 have hn:=h.nets.len
 have hcl:=h.cats
 have hq:=(A4M h.zone).2.1
 have hm:=A2Z (t:=t) h.ship.1 hq
 have hs:=h.ship
 have hM:=fun st=>C6F h st
 have hZ:∀ st,S P 188 [S7 t,eS s] st fun v st'=>v=.tuple [S3 z,.bool true]∧st'=st:=fun st=>by
  have:=B8V t s (by omega) (fun z hz=>by have:=l2 z hz;omega) st
  rw [hz] at this;exact this
 have hR:=fun c st=>B8U z c (by omega) st
 have hU:=fun st=>B8w t ship z.ship hq st
 have hL:L4 t z exempt cats nets ship=⟨(List.range nets.length).map (Z2 t (K7 t (cats.map (F3 z)) nets) nets),if exempt=true then List.replicate nets.length 0 else K7 t (cats.map (F3 z)) nets,if t.incl=true then ship - N6 t ship z.ship else ship,if exempt=true then 0 else N6 t ship z.ship⟩:=rfl
 rw [hL]
 have hnx:∀ i,i<nets.length→0≤gI nets i∧gI nets i≤10000000000000:=fun i hi=>by
  have h1:=h.nets.pos _ (show gI nets i∈nets from A7 hi)
  have h2:=J4 h.nets.pos (show gI nets i∈nets from A7 hi)
  have h3:=h.nets.sum
  exact ⟨h1,by omega⟩
 have htx:∀ i,i<nets.length→0≤gI (K7 t (cats.map (F3 z)) nets) i∧gI (K7 t (cats.map (F3 z)) nets) i≤10000000000000:=fun i hi=>t2 _ (A7 (by omega))
 generalize K7 t (cats.map (F3 z)) nets=TX at hTax t1 htx ⊢
 generalize N6 t ship z.ship=MS at hU hm ⊢
 clear hL t2
 refine S.post (post:=fun v s'=>∃ gv tv c1 c2,v=.tuple [gv,tv,eI (if t.incl=true then ship - MS else ship),eI (if exempt=true then 0 else MS),eI 0] ∧
   A6 [gv] s' [B0 ((List.range nets.length).map (Z2 t TX nets))] c1∧A6 [tv] c1 [B0 (if exempt=true then List.replicate nets.length 0 else TX)] c2∧F1 st c2) ?_
  (fun v s' ⟨gv,tv,c1,c2,h1,h2,h3,h4⟩=>⟨_,st,⟨rfl,rfl⟩,by
   rw [h1]
   exact (A6.tuple (A6.cons h2 (A6.cons h3 (A6.keep _ _))) rfl).trans (h4.shift _)⟩)
 refine F4 [6] Tryz.func124 ?_
 refine I2 (hM _) ?_
 refine I2 (hZ _) ?_
 intro b17 hb17;conv=>whnf
 refine stU (A0 ..) rfl ?_
 rw [C0];conv=>whnf
 generalize hst:(upd st b17 _:St)=S0
 obtain ⟨f17,at17,hf17⟩:∃ f17:Nat→AV,S0 b17=some ⟨103,4,1,f17⟩∧f17 0=S3 z:=by rw [←hst];exact ⟨_,A0 ..,by rw [A4];rfl⟩
 have hs0:F1 st S0:=by rw [←hst];exact (F1.refl st).upd hb17
 clear hst
 refine lp cats.length [2,4,5,6,12,17,19,39,40,41] (fun i vs u=>∃ sv,vs=[eB exempt,B0 nets,eI ship,.fptr (S7 t) 0,.emp,.optr 4 b17 0 0,sv,C7 cats,eI cats.length,eI i]∧E6 2 1 eI ((cats.take i).map (F3 z)) S0 sv u) ?_ ?_
 ·conv=>whnf
  exact ⟨.emp,rfl,E6.start _ _ _ _⟩
 rintro i vs u hi ⟨sv,rfl,hc⟩
 have hcs:=hc.sup
 conv=>whnf
 cases h1:decide ((i:Int)<(cats.length:Int))
 case true =>
  have hi':=E2 h1
  have hln:((cats.take i).map (F3 z)).length=i:=by rw [D6J,D6N];omega
  have hRi:=fun st=>hR (cats.getD (i:Int).toNat default) st
  have htk:(cats.take (i+1)).map (F3 z)=(cats.take i).map (F3 z)++[F3 z (cats.getD (i:Int).toNat default)]:=by rw [L0 hi',D7k];rfl
  generalize F3 z (cats.getD (i:Int).toNat default)=RT at hRi htk
  conv=>whnf
  refine E7 ?_
  refine J6 (hcs b17 _ at17) hf17 ?_
  refine I2 (hRi _) ?_
  refine E6.app (y:=RT) (q:=r2) rfl rfl rfl rfl rfl (by rfl) (by rw [hln];show (i+1) * 8≤140737488355328;omega) hc (fun sv' t' hc'=>?_);conv=>whnf
  refine G2 ?_
  exact nx hi' ⟨sv',by rw [B4 (by omega)],by rw [htk];exact hc'⟩
 obtain rfl:=C5 h1 hi
 rw [D6O] at hc
 have hTS:A6 [AV.agg [eB t.incl,eB t.byOrder,eI t.round,A8 4 S3 t.zones],sv,B0 nets] u [S7 t,B0 (cats.map (F3 z)),B0 nets] S0:=A6.cons (A6.keep [S7 t] _) (A6.cons hc.shift (A6.keep _ _))
 clear hc hcs hM hZ hR
 generalize cats.map (F3 z)=RS at hTax hTS
 unfold C5v at hTax;conv=>whnf
 cases hbo:t.byOrder
 case' false=>rw [if_neg (by rw [hbo];simp)] at hTax
 case' true=>rw [if_pos hbo] at hTax
 all_goals
  conv=>whnf
  refine E5 hTS (B3 (hTax _) ?_);conv=>whnf
  refine J6 at17 hf17 ?_
  refine I2 (hU _) ?_
  refine lp nets.length [2,4,6,12,13,14,15,65,66,67] (fun i vs u=>∃ sv,vs=[eB exempt,B0 nets,.fptr (S7 t) 0,sv,B0 TX,eI ship,eI MS,B0 nets,eI nets.length,eI i]∧E6 2 1 eI ((List.range i).map (Z2 t TX nets)) S0 sv u) ?_ ?_
  ·conv=>whnf
   exact ⟨.emp,rfl,E6.start _ _ _ _⟩
  rintro i vs u hi ⟨sv,rfl,hc⟩
  have hcs:=hc.sup
  conv=>whnf
  cases h1:decide ((i:Int)<(nets.length:Int))
  case true =>
   have hi':=E2 h1
   have hln:((List.range i).map (Z2 t TX nets)).length=i:=by rw [D6J,D7g]
   have hnx1:=hnx i hi'
   have htx1:=htx i hi'
   have htk:=B8v (Z2 t TX nets) i
   have hgA:Z2 t TX nets i=if t.incl=true then gI nets (i:Int).toNat - gI TX (i:Int).toNat else gI nets (i:Int).toNat:=rfl
   have hgw:IntKind.i64.wrap (gI nets (i:Int).toNat - gI TX (i:Int).toNat)=gI nets (i:Int).toNat - gI TX (i:Int).toNat:=A5 (show _≤gI nets i - gI TX i by omega) (show gI nets i - gI TX i≤_ by omega)
   generalize Z2 t TX nets i=GA at htk hgA
   conv=>whnf
   refine E7 ?_
   cases hin:t.incl
   case' false=>rw [if_neg (by rw [hin];simp)] at hgA
   case' true =>
    rw [if_pos hin] at hgA;conv=>whnf
    refine E7 ?_
    rw [hgw]
   all_goals
    conv=>whnf
    refine E6.app (y:=GA) (q:=r2) rfl rfl rfl rfl rfl (by rw [hgA];rfl) (by rw [hln];show (i+1) * 8≤140737488355328;omega) hc (fun sv' t' hc'=>?_);conv=>whnf
    refine G2 ?_
    exact nx hi' ⟨sv',by rw [B4 (by omega)],by rw [htk];exact hc'⟩
  obtain rfl:=C5 h1 hi
  have hwS:IntKind.i64.wrap (ship - MS)=ship - MS:=A5 (by omega) (by omega)
  conv=>whnf
  cases hin:t.incl
  case' false=>rw [if_neg (show ¬(false=true) by simp)]
  case' true =>
   rw [if_pos rfl];conv=>whnf
   rw [hwS]
  all_goals
   conv=>whnf
   cases exempt
   ·conv=>whnf
    exact ⟨sv,B0 TX,S0,S0,rfl,hc.shift,A6.keep _ _,hs0⟩
   ·conv=>whnf
    refine mkO rfl rfl rfl (by show 8 * nets.length≤_;omega) (by omega) (by rfl) (fun bz hbz=>?_);conv=>whnf
    have hb0:S0 bz=none:=Col.off hc hbz
    have hc2:=Col.under (y:=⟨2,1,nets.length,fun _=>H7 r2.zero⟩) hc hbz
    refine ⟨sv,.own 1 bz 0 nets.length,upd S0 bz ⟨2,1,nets.length,fun _=>H7 r2.zero⟩,del (upd S0 bz ⟨2,1,nets.length,fun _=>H7 r2.zero⟩) bz,rfl,Col.shift hc2,?_,F1.del (hs0.upd hb0) (hs0.none hb0)⟩
    have e:B0 (List.replicate nets.length 0)=.arr 1 nets.length (fun k=>eI ((List.replicate nets.length (0:Int)).getD k default)):=by unfold B0 A8;rw [D7L]
    rw [if_pos rfl,e]
    exact O4 (A0 ..) rfl (D6M _) (fun k hk=>by rw [B7F];rfl)
structure Add where
 sku:C8
 qty:Int
 deriving Inhabited
def A8s (x:Add):AV:=.agg [eS x.sku,eI x.qty]
theorem B2f (l:List Int) (h:I6 l) (st:St):S P 125 [B0 l] st fun v st'=>v=eI (A2 l)∧st'=st:=by
 have hn:=h.len
 refine F4 [] Tryz.func125 ?_
 refine lp l.length [3,6,7,8] (fun i vs t=>vs=[eI (A2 (l.take i)),B0 l,eI l.length,eI i]∧t=st) ?_ ?_
 ·conv=>whnf
  exact ⟨rfl,rfl⟩
 ·rintro i vs t hi ⟨rfl,rfl⟩
  conv=>whnf
  cases h1:decide ((i:Int)<(l.length:Int))
  ·obtain rfl:=C5 h1 hi
   rw [D6O];conv=>whnf
   exact ⟨rfl,rfl⟩
  ·have hi':=E2 h1
   have hs:IntKind.i64.wrap (A2 (l.take i)+gI l (i:Int).toNat)=A2 (l.take (i+1)):=h.step hi'
   conv=>whnf
   refine E7 ?_
   rw [hs]
   refine G2 ?_
   exact nx hi' ⟨by rw [B4 (by omega)],rfl⟩
theorem C8y (q:U5) (h1:I6 q.goods) (h2:I6 q.taxes) (st:St):S P 64 [A1e q] st fun v st'=>v=A2O (T4 q)∧st'=st:=by
 have c1:=fun s=>B2f q.goods h1 s
 have c2:=fun s=>B2f q.taxes h2 s
 have hB:T4 q=⟨A2 q.goods,A2 q.taxes,q.ship,q.shipTax,0⟩:=rfl
 rw [hB]
 generalize A2 q.goods=G at c1 ⊢
 generalize A2 q.taxes=T' at c2 ⊢
 refine A0Q ?_
 refine F4 [1] Tryz.func64 ?_
 intro b2 hb;conv=>whnf
 refine ⟨[11],[],List.range 12,by kernel_rfl,?_⟩;conv=>whnf
 refine cqW (c1 _) ?_
 refine cqW (c2 _) ?_
 refine Z7 (A0 ..) rfl ?_
 refine J6 (A0 ..) (A4 ..) ?_
 exact ⟨rfl,((F1.refl st).upd hb).over hb⟩
theorem C0P (r:D6) (l:List E8):(N1 r l).length=l.length:=by unfold N1 C3;rw [D6J,D6J]
theorem C6l {a b c d:Int} (ha : -10000000000000≤a∧a≤10000000000000) (hb : -10000000000000≤b∧b≤10000000000000) (hc : -10000000000000≤c∧c≤10000000000000) (hd : -10000000000000≤d∧d≤10000000000000):I6 [a,b,c,d]:=by
 refine ⟨by show 4≤1000;decide,fun x hx=>?_⟩
 simp only [D8f,D8j,or_false] at hx
 rcases hx with rfl | rfl | rfl | rfl<;>assumption
theorem B9a {a b c d:Int} {F:Nat→AV} {st:St} (h0:F 0=eI a) (h1:F 1=eI b) (h2:F 2=eI c) (h3:F 3=eI d):A6 [.arr 1 4 F] st [B0 [a,b,c,d]] st :=
 A6.arr (g:=fun i=>eI ([a,b,c,d].getD i default)) fun i hi=>by
  match i,hi with
  | 0,_=>exact h0
  | 1,_=>exact h1
  | 2,_=>exact h2
  | 3,_=>exact h3
set_option maxHeartbeats 8000000 in
theorem quote_S {r:D6} {codes:List C8} {l:List E8} {Pr:A3V} {z:K3} {zone:C8} (exempt:Bool)
  (hP:∀ st,S P 122 [F7 r,C7 codes,A8 3 J1 l] st fun v s=>v=.tuple [A1a Pr,eI 0]∧s=st)
  (hI:∀ st,S P 123 [A8 4 E9 r.items,A8 3 J1 l] st fun v s=>v=A8 4 E9 (C3 r.items l)∧s=st)
  (hln:l.length≤1000) (hV:A2C r.tax z (N1 r l) Pr.nets Pr.ship) (hz:Z8 r.tax.zones zone=some z)
  (hTax:∀ st,S P (C5v r.tax) [S7 r.tax,B0 ((N1 r l).map (F3 z)),B0 Pr.nets] st fun v st'=>v=B0 (K7 r.tax ((N1 r l).map (F3 z)) Pr.nets)∧st'=st)
  (hsm:A2 (L4 r.tax z exempt (N1 r l) Pr.nets Pr.ship).goods≤10000000000000∧-10000000000000≤A2 (L4 r.tax z exempt (N1 r l) Pr.nets Pr.ship).goods∧A2 (L4 r.tax z exempt (N1 r l) Pr.nets Pr.ship).taxes≤10000000000000) (st:St) :
  S P 60 [F7 r,eS zone,eB exempt,C7 codes,A8 3 J1 l] st fun v st'=>v=.tuple [A1e (A9M r z exempt l Pr),eI 0]∧st'=st:=by
 have hQ:=B0K hV exempt Pr.deals
 have hlv:=fun s=>C8P hV hz exempt hTax s
 have hq:A9M r z exempt l Pr=⟨(L4 r.tax z exempt (N1 r l) Pr.nets Pr.ship).goods,(L4 r.tax z exempt (N1 r l) Pr.nets Pr.ship).taxes,(L4 r.tax z exempt (N1 r l) Pr.nets Pr.ship).ship,(L4 r.tax z exempt (N1 r l) Pr.nets Pr.ship).shipTax,A2 (L4 r.tax z exempt (N1 r l) Pr.nets Pr.ship).goods+A2 (L4 r.tax z exempt (N1 r l) Pr.nets Pr.ship).taxes+(L4 r.tax z exempt (N1 r l) Pr.nets Pr.ship).ship+(L4 r.tax z exempt (N1 r l) Pr.nets Pr.ship).shipTax,Pr.deals⟩:=rfl
 rw [hq]
 have hpos:0≤A2 (L4 r.tax z exempt (N1 r l) Pr.nets Pr.ship).taxes:=C1 hQ.pos
 obtain ⟨q1,q2,q3,q4,q5,q6,q7,_⟩:=hQ
 have q1:I6 (L4 r.tax z exempt (N1 r l) Pr.nets Pr.ship).goods:=q1
 have q2:I6 (L4 r.tax z exempt (N1 r l) Pr.nets Pr.ship).taxes:=q2
 have q6:0≤(L4 r.tax z exempt (N1 r l) Pr.nets Pr.ship).ship∧(L4 r.tax z exempt (N1 r l) Pr.nets Pr.ship).ship≤10000000000000:=q6
 have q7:0≤(L4 r.tax z exempt (N1 r l) Pr.nets Pr.ship).shipTax∧(L4 r.tax z exempt (N1 r l) Pr.nets Pr.ship).shipTax≤10000000000000:=q7
 clear hq q3 q4 q5 hTax hV hz
 generalize L4 r.tax z exempt (N1 r l) Pr.nets Pr.ship=V at *
 have s1:=fun s=>B2f V.goods q1 s
 have s2:=fun s=>B2f V.taxes q2 s
 have s3:=fun s=>B2f [A2 V.goods,A2 V.taxes,V.ship,V.shipTax] (C6l (by omega) (by omega) (by omega) (by omega)) s
 have e3:A2 [A2 V.goods,A2 V.taxes,V.ship,V.shipTax]=A2 V.goods+A2 V.taxes+V.ship+V.shipTax:=by
  show 0+A2 V.goods+A2 V.taxes+V.ship+V.shipTax=_;omega
 rw [e3] at s3
 have hil:(C3 r.items l).length=l.length:=D6J ..
 have hcb:N1 r l=(C3 r.items l).map Ab.Item.cat:=rfl
 rw [hcb] at hlv
 generalize C3 r.items l=IT at hI hil hlv
 clear hcb
 refine A0Q ?_
 refine F4 [5,16] Tryz.func60 ?_
 intro b10 hb10;conv=>whnf
 refine I2 (hP _) ?_
 intro b12 hb12
 have h02:b10≠b12:=fun e=>by subst e;rw [A0] at hb12;cases hb12
 conv=>whnf
 refine stU (A0 ..) rfl ?_
 rw [C0];conv=>whnf
 refine I2 (hI _) ?_
 generalize hst:(upd (upd st b10 _) b12 _:St)=S0
 obtain ⟨f12,at12,hf12⟩:∃ f12:Nat→AV,S0 b12=some ⟨170,4,1,f12⟩∧f12 0=A1a Pr:=by rw [←hst];exact ⟨_,A0 ..,by rw [A4];rfl⟩
 obtain ⟨f10,at10⟩:∃ f10:Nat→AV,S0 b10=some ⟨113,6,1,f10⟩∧f10 0=H7 C6W.zero:=by rw [←hst,A9 h02];exact ⟨_,A0 ..,rfl⟩
 obtain ⟨at10,hf10⟩:=at10
 have hs0:F1 st S0:=by rw [←hst];exact ((F1.refl st).upd hb10).upd hb12
 have n12:st b12=none:=by rw [A9 h02.symm] at hb12;exact hb12
 clear hst
 refine lp IT.length [1,2,5,10,12,14,35,36,37] (fun i vs u=>∃ sv,vs=[eS zone,eB exempt,.fptr (F7 r) 0,.optr 6 b10 0 0,.optr 4 b12 0 0,sv,A8 4 E9 IT,eI IT.length,eI i]∧E6 9 1 eS ((IT.take i).map Ab.Item.cat) S0 sv u) ?_ ?_
 ·conv=>whnf
  exact ⟨.emp,rfl,E6.start _ _ _ _⟩
 rintro i vs u hi ⟨sv,rfl,hc⟩
 have hcs:=hc.sup
 conv=>whnf
 cases h1:decide ((i:Int)<(IT.length:Int))
 case true =>
  have hi':=E2 h1
  have hln2:((IT.take i).map Ab.Item.cat).length=i:=by rw [D6J,D6N];omega
  have htk:(IT.take (i+1)).map Ab.Item.cat=(IT.take i).map Ab.Item.cat++[(IT.getD (i:Int).toNat default).cat]:=by rw [L0 hi',D7k];rfl
  conv=>whnf
  refine E7 ?_
  refine E6.app (y:=(IT.getD (i:Int).toNat default).cat) (q:=r9) rfl rfl rfl rfl rfl (by rfl) (by rw [hln2];show (i+1) * 16≤140737488355328;omega) hc (fun sv' t' hc'=>?_);conv=>whnf
  refine G2 ?_
  exact nx hi' ⟨sv',by rw [B4 (by omega)],by rw [htk];exact hc'⟩
 obtain rfl:=C5 h1 hi
 rw [D6O] at hc;conv=>whnf
 refine J6 (hcs b12 _ at12) hf12 ?_
 refine J6 (hcs b12 _ at12) hf12 ?_
 have hTS:A6 [S7 r.tax,eS zone,eB exempt,sv,B0 Pr.nets,eI Pr.ship] u [S7 r.tax,eS zone,eB exempt,C7 (IT.map Ab.Item.cat),B0 Pr.nets,eI Pr.ship] S0 :=
  A6.cons (A6.keep [S7 r.tax] _) (A6.cons (A6.keep [eS zone] _) (A6.cons (A6.keep [eB exempt] _) (A6.cons hc.shift (A6.keep _ _))))
 refine E5 hTS (B3 (hlv _) ?_);conv=>whnf
 refine ⟨[15],[],List.range 17,by kernel_rfl,?_⟩;conv=>whnf
 refine cqW (s1 _) ?_
 refine cqW (s2 _) ?_
 refine ⟨_,⟨rfl,rfl⟩,?_⟩;conv=>whnf
 refine ⟨_,E5 (B9a rfl rfl rfl rfl) (H8 (s3 _)),?_⟩;conv=>whnf
 refine J6 at12 hf12 ?_
 refine Z7 at10 hf10 ?_
 refine J6 (A0 ..) (A4 ..) ?_
 exact ⟨rfl,hs0.over hb10⟩
def A4Y (x:Add):Bool:=decide (x.qty<1)||decide (x.qty>100000)
def R4 (items:List Ab.Item) (x:Add):E8:=⟨x.sku,x.qty,(items.getD (P9 items x.sku).toNat default).price⟩
def A2J (items:List Ab.Item) (adds:List Add):List E8×Int :=
 if adds.length<1∨adds.length>1000 then ([],2) else if (adds.any A4Y)=true then ([],2) else if (adds.any fun x=>decide (P9 items x.sku<0))=true then ([],7) else (adds.map (R4 items),0)
end Go.Proofs.YtaapofnkmpiknaaGreat
namespace Go.Proofs.YtaapofnkmpiknaaGreat
open Go Go.Ab
structure A0J where
 sku:C8
 price:Int
 sold:Int
 left:Int
 goods:Int
 tax:Int
 deriving Inhabited
def V7 (x:A0J):AV:=.agg [eS x.sku,eI x.price,eI x.sold,eI x.left,eI x.goods,eI x.tax]
structure A2D where
 kind:Int
 taken:Int
 given:Int
 deriving Inhabited
def V8 (x:A2D):AV:=.agg [eI x.kind,eI x.taken,eI x.given]
instance:Inhabited A1v:=⟨⟨0,0,0,0,0⟩⟩
structure H3 where
 id:C8
 rules:Int
 zone:C8
 exempt:Bool
 codes:List C8
 day:Int
 lines:List A0J
 ship:Int
 shipTax:Int
 fee:Int
 net:Int
 book:A1v
 tenders:List A2D
 deriving Inhabited
def O7 (o:H3):AV:=.agg [eS o.id,eI o.rules,eS o.zone,eB o.exempt,C7 o.codes,eI o.day,A8 6 V7 o.lines,eI o.ship,eI o.shipTax,eI o.fee,eI o.net,eI o.book.goods,eI o.book.tax,eI o.book.ship,eI o.book.shipTax,eI o.book.fee,A8 3 V8 o.tenders]
def A1Z (x:Int):Bool:=N9 0 10000000000000 x
def G7 (x:Int):Bool:=N9 0 100000000000000 x
def A1Q (x:A0J):Bool:=D1 x.sku&&N9 0 1000000000 x.price&&N9 1 100000 x.sold&&N9 0 x.sold x.left&&A1Z x.goods&&A1Z x.tax
def tenderB (x:A2D):Bool:=N9 1 9 x.kind&&G7 x.taken&&N9 0 x.taken x.given
def W5 (b:A1v):List Int:=[b.goods,b.tax,b.ship,b.shipTax,b.fee]
def A1U (b:A1v):Bool:=(W5 b).all G7
def A0G (b:A1v):Int:=if A1U b=true then A2 (W5 b) else 0
def A2u (l:List A2D):Int:=l.foldl (fun a x=>a+(x.taken - x.given)) 0
def A6d (o:H3):Bool:=D1 o.id&&D1 o.zone&&N9 1 40 o.rules&&S6 o.codes&&N9 0 100000 o.day
def A3t (o:H3):Bool:=decide ((o.lines.length:Int)≥1)&&decide ((o.lines.length:Int)≤1000)&&o.lines.all A1Q
def A1x (o:H3):Bool:=A1Z o.ship&&A1Z o.shipTax&&G7 o.fee&&G7 o.net
def A5z (o:H3):Bool:=A1U o.book&&(A0G o.book==o.net)
def A0r (o:H3):Bool:=o.tenders.all tenderB&&(decide ((o.tenders.length:Int)≤6)&&(A2u o.tenders==o.net))
def N8 (o:H3):Bool:=decide ((o.tenders.length:Int)≤6)&&A6d o&&A3t o&&A1x o&&A5z o&&A0r o
def A9z (o:H3):List E8:=o.lines.map fun x=>⟨x.sku,x.left,x.price⟩
def R6 (t n k:Int):Int:=t * k / n
def shG (l:List A0J):Int:=l.foldl (fun a x=>a+R6 x.goods x.sold x.left) 0
def shT (l:List A0J):Int:=l.foldl (fun a x=>a+R6 x.tax x.sold x.left) 0
def U2 (l:List A0J):Bool:=l.any fun x=>decide (x.left>0)
def A5q (o:H3):A1v:=if N8 o=true then ⟨shG o.lines,shT o.lines,if U2 o.lines=true then o.ship else 0,if U2 o.lines=true then o.shipTax else 0,0⟩ else ⟨0,0,0,0,0⟩
theorem A4w {x:A0J} (h:A1Q x=true):D1 x.sku=true∧(0≤x.price∧x.price≤1000000000)∧(1≤x.sold∧x.sold≤100000)∧(0≤x.left∧x.left≤x.sold)∧(0≤x.goods∧x.goods≤10000000000000)∧(0≤x.tax∧x.tax≤10000000000000):=by
 unfold A1Q A1Z at h
 simp only [D6I,E0] at h
 obtain ⟨⟨⟨⟨⟨h1,h2⟩,h3⟩,h4⟩,h5⟩,h6⟩:=h
 exact ⟨h1,h2,h3,h4,h5,h6⟩
theorem A3g {t n k:Int} (ht:0≤t) (hn:1≤n) (hk:0≤k) (hkn:k≤n):0≤R6 t n k∧R6 t n k≤t:=by
 unfold R6
 refine ⟨D8l (D8d ht hk) (by omega),?_⟩
 have h1:t * k≤t * n:=D7y hkn ht
 have h2:t * k / n≤t * n / n:=Int.ediv_le_ediv (by omega) h1
 rwa [Int.mul_ediv_cancel _ (by omega)] at h2
theorem B1P {α : Type} [Inhabited α] {f : α→Int} {M:Int} (hM:0≤M):∀ (l:List α),(∀ x∈l,0≤f x∧f x≤M)→∀ a:Int,a≤l.foldl (fun a x=>a+f x) a∧l.foldl (fun a x=>a+f x) a≤a+M * l.length
 | [],_,a=>⟨D7l _,by simp⟩
 | x::l,h,a=>by
  have h1:=h x (D7f ..)
  have h2:=B1P hM l (fun y hy=>h y (D7d _ hy)) (a+f x)
  simp only [D7U,D7o]
  have e:M * ((l.length+1:Nat):Int)=M * (l.length:Int)+M:=by rw [show ((l.length+1:Nat):Int)=(l.length:Int)+1 from rfl,D8Q,D9B]
  rw [e]
  exact ⟨by omega,by omega⟩
end Go.Proofs.YtaapofnkmpiknaaGreat
namespace Go.Proofs.YtaapofnkmpiknaaGreat
open Go Go.Ab
attribute [local irreducible] upd del
theorem B0I (x:Int) (st:St):S P 130 [eI x] st fun v st'=>v=.bool (A1Z x)∧st'=st:=by
 refine F4 [] Tryz.func130 ?_
 unfold A1Z N9
 refine B9 (fun h=>?_) (fun h=>?_)<;>rw [h]<;>(conv=>whnf)<;>exact ⟨rfl,rfl⟩
theorem A5i (x:Int) (st:St):S P 72 [eI x] st fun v st'=>v=.bool (G7 x)∧st'=st:=A7b x st
theorem C7l (x:A0J) (st:St):S P 129 [V7 x] st fun v st'=>v=.bool (A1Q x)∧st'=st:=by
 have n1:=A4a x.sku st
 have n2:=B0I x.goods st
 have n3:=B0I x.tax st
 unfold A1Q N9
 generalize D1 x.sku=b1 at *
 generalize A1Z x.goods=b2 at *
 generalize A1Z x.tax=b3 at *
 refine SyW [1] Tryz.func129 ?_
 repeat' ((conv=>whnf);first | refine B3 n1 ?_ | refine B3 n2 ?_ | refine B3 n3 ?_ | refine ⟨rfl,?_⟩ | (refine B9 (fun h=>?_) (fun h=>?_)<;>rw [h]))
 all_goals (conv=>whnf)
 all_goals (refine ⟨?_,rfl⟩;show AV.bool _=AV.bool _;clear n1 n2 n3)
 all_goals (simp only [*,D6Y,D7c,D7u,D7h,D7v,D7w,D7z,D7r,D7s,D7j,D7Y])
theorem C1V (x:A0J) (st:St):S P 128 [V7 x] st fun v st'=>v=.bool (!A1Q x)∧st'=st:=by
 have n1:=C7l x st
 generalize A1Q x=b at *
 refine F4 [1] Tryz.func128 ?_
 refine I2 n1 ?_
 exact ⟨rfl,rfl⟩
theorem B4J (l:List A0J) (hl:l.length≤9223372036854775807) (g:FuncId) (cs:List AV) (p:A0J→Bool) (st:St)
  (hg:∀ x,x∈l→S P g (V7 x::cs) st fun v st'=>v=.bool (p x)∧st'=st) :
  S P 193 [A8 6 V7 l,.fn (.func g) [] cs] st fun v st'=>v=eI (idx p l)∧st'=st:=by
 refine F4 [] Tryz.func193 ?_
 refine ⟨[0,1,7,8],fun m vs st'=>∃ i:Nat,i≤l.length∧(∀ k,k<i→p (l.getD k default)=false)∧m=l.length - i∧vs=[A8 6 V7 l,.fn (.func g) [] cs,eI l.length,eI i]∧st'=st,?_,?_⟩
 ·conv=>whnf
  exact ⟨_,0,D7e _,fun k hk=>absurd hk (by omega),rfl,rfl,rfl⟩
 ·rintro m vs st' ⟨i,hi,hok,rfl,rfl,rfl⟩
  conv=>whnf
  cases h:decide ((i:Int)<(l.length:Int))
  ·have:=D6G h
   conv=>whnf
   refine ⟨?_,rfl⟩
   rw [T8 fun k hk=>hok k (by omega)];rfl
  ·have hi':i<l.length:=by have:=D6H h;omega
   conv=>whnf
   refine E7 ?_
   refine B3 (hg (l.getD (i:Int).toNat default) (by simp [hi'])) ?_
   rw [D6R]
   cases hp:p (l.getD i default)
   ·conv=>whnf
    refine G2 ?_
    refine ⟨l.length - (i+1),by omega,i+1,by omega,fun k hk=>?_,rfl,by rw [B4 (by omega)],rfl⟩
    rcases D7A.1 hk with h' | h'
    ·exact hok k h'
    ·rw [h'];exact hp
   ·conv=>whnf
    refine ⟨?_,rfl⟩
    rw [A1B hi' hok hp];rfl
theorem B8o (l:List A0J) (hl:l.length≤9223372036854775807) (g:FuncId) (cs:List AV) (p:A0J→Bool) (st:St)
  (hg:∀ x,x∈l→S P g (V7 x::cs) st fun v st'=>v=.bool (p x)∧st'=st) :
  S P 127 [A8 6 V7 l,.fn (.func g) [] cs] st fun v st'=>v=.bool (l.any p)∧st'=st:=by
 refine F4 [] Tryz.func127 ?_
 refine I2 (B4J l hl g cs p st hg) ?_
 refine ⟨?_,rfl⟩
 rw [←A1A];rfl
structure A5R (o:H3):Prop where
 id:Sm o.id.size
 zone:Sm o.zone.size
 codes:Sm o.codes.length
 scodes:∀ s∈o.codes,Sm s.size
 lines:o.lines.length≤100000
 slines:∀ x∈o.lines,Sm x.sku.size
 tenders:o.tenders.length≤100000
theorem C6L (o:H3) (hs:A5R o) (st:St):S P 66 [O7 o] st fun v st'=>v=.bool (A6d o)∧st'=st:=by
 have n1:=A4a o.id st
 have n2:=A4a o.zone st
 have n3:=B9L o.codes hs.codes st
 have n4:=C3u o.day st
 have e:A6d o=(D1 o.id&&D1 o.zone&&(decide (o.rules≥1)&&decide (o.rules≤40))&&S6 o.codes&&N9 0 100000 o.day):=rfl
 rw [e]
 clear e hs
 generalize D1 o.id=b1 at *
 generalize D1 o.zone=b2 at *
 generalize S6 o.codes=b3 at *
 generalize N9 0 100000 o.day=b4 at *
 refine SyW [1] Tryz.func66 ?_
 repeat' ((conv=>whnf);first | refine B3 n1 ?_ | refine B3 n2 ?_ | refine B3 n3 ?_ | refine B3 n4 ?_ | refine ⟨rfl,?_⟩ | (refine B9 (fun h=>?_) (fun h=>?_)<;>rw [h]))
 all_goals (conv=>whnf)
 all_goals (refine ⟨?_,rfl⟩;show AV.bool _=AV.bool _;clear n1 n2 n3 n4)
 all_goals (simp only [*,D6Y,D7c,D7u,D7h,D7v,D7w,D7z,D7r,D7s,D7j,D7Y])
theorem C4k (o:H3) (hs:A5R o) (st:St):S P 67 [O7 o] st fun v st'=>v=.bool (A3t o)∧st'=st:=by
 have n1:=B8o o.lines (by have:=hs.lines;omega) 128 [] (fun x=>!A1Q x) st (fun x _=>C1V x st)
 have e:A3t o=(decide ((o.lines.length:Int)≥1)&&decide ((o.lines.length:Int)≤1000)&&!(o.lines.any fun x=>!A1Q x)):=by unfold A3t;rw [List.all_eq_not_any_not]
 rw [e]
 clear e hs
 generalize (o.lines.any fun x=>!A1Q x)=b1 at *
 refine SyW [1] Tryz.func67 ?_
 repeat' ((conv=>whnf);first | refine B3 n1 ?_ | refine ⟨rfl,?_⟩ | (refine B9 (fun h=>?_) (fun h=>?_)<;>rw [h]))
 all_goals (conv=>whnf)
 all_goals (refine ⟨?_,rfl⟩;show AV.bool _=AV.bool _;clear n1)
 all_goals (simp only [*,D6Y,D7c,D7u,D7h,D7v,D7w,D7z,D7r,D7s,D7j,D7Y])
theorem B8B (o:H3) (st:St):S P 68 [O7 o] st fun v st'=>v=.bool (A1x o)∧st'=st:=by
 have n1:=B0I o.ship st
 have n2:=B0I o.shipTax st
 have n3:=A5i o.fee st
 have n4:=A5i o.net st
 unfold A1x
 generalize A1Z o.ship=b1 at *
 generalize A1Z o.shipTax=b2 at *
 generalize G7 o.fee=b3 at *
 generalize G7 o.net=b4 at *
 refine SyW [1] Tryz.func68 ?_
 repeat' ((conv=>whnf);first | refine B3 n1 ?_ | refine B3 n2 ?_ | refine B3 n3 ?_ | refine B3 n4 ?_ | refine ⟨rfl,?_⟩ | (refine B9 (fun h=>?_) (fun h=>?_)<;>rw [h]))
 all_goals (conv=>whnf)
 all_goals (refine ⟨?_,rfl⟩;show AV.bool _=AV.bool _;clear n1 n2 n3 n4)
 all_goals (simp only [*,D6Y,D7c,D7u,D7h,D7v,D7w,D7z,D7r,D7s,D7j,D7Y])
theorem B3S (b:A1v) (st:St):S P 71 [A2O b] st fun v st'=>v=A2O b∧st'=st:=by
 refine A0Q ?_
 refine F4 [1] Tryz.func71 ?_
 intro b2 hb;conv=>whnf
 refine Z7 (A0 ..) rfl ?_
 refine J6 (A0 ..) (A4 ..) ?_
 exact ⟨rfl,((F1.refl st).upd hb).over hb⟩
theorem B2E {l:List Int}:∀ i,i≤l.length→(∀ k,k<i→G7 (gI l k)=true)→0≤A2 (l.take i)∧A2 (l.take i)≤100000000000000 * (i:Int)
 | 0,_,_=>⟨by rw [D8h];exact D7l _,by rw [D8h];exact D7l _⟩
 | i+1,hi,h=>by
  have ih:=B2E i (by omega) fun k hk=>h k (by omega)
  have hx:=E0.1 (h i (by omega))
  rw [K9 (by omega)]
  omega
theorem B3w {b:A1v} (h:∀ k,k<5→G7 (gI (W5 b) k)=true):A1U b=true:=D6W.2 fun x hx=>by
 obtain ⟨k,hk,rfl⟩:=D5 hx
 exact h k hk
theorem B3x {b:A1v} {k:Nat} (hk:k<5) (h:G7 (gI (W5 b) k)=false):A1U b=false:=by
 rw [D8x];intro e
 rw [D6W.1 e _ (A7 (l:=W5 b) (i:=k) hk)] at h;cases h
theorem C7z (b:A1v) (st:St):S P 20 [A2O b] st fun v st'=>v=eI (A0G b)∧st'=st:=by
 have c1:=fun s=>B3S b s
 refine F4 [1] Tryz.func20 ?_
 refine I2 (c1 _) ?_
 refine lp 5 [3,7,8] (fun i vs s=>(∀ k,k<i→G7 (gI (W5 b) k)=true)∧vs=[eI (A2 ((W5 b).take i)),A2O b,eI i]∧s=st) ?_ ?_
 ·conv=>whnf
  exact ⟨fun k hk=>absurd hk (by omega),rfl,rfl⟩
 rintro i vs s hi ⟨hok,rfl,rfl⟩
 conv=>whnf
 cases h:decide ((i:Int)<5)
 ·obtain rfl:i=5:=by have:=D6G h;omega
  have e:A0G b=A2 (W5 b):=by unfold A0G;rw [if_pos (B3w hok)]
  rw [e];conv=>whnf
  exact ⟨rfl,rfl⟩
 have hi':i<5:=by have:=D6H h;omega
 have hr:=fun s=>A5i (gI (W5 b) i) s
 have hb:=B2E (l:=W5 b) i (by show i≤5;omega) hok
 have hn:=K9 (l:=W5 b) (i:=i) hi'
 have hw:G7 (gI (W5 b) i)=true→IntKind.i64.wrap (A2 ((W5 b).take i)+gI (W5 b) i)=A2 ((W5 b).take (i+1)):=fun hm=>by
  have hx:=E0.1 hm
  rw [hn];exact A5 (by omega) (by omega)
 have yes:G7 (gI (W5 b) i)=true→∀ k,k<i+1→G7 (gI (W5 b) k)=true:=fun hm=>H5 hok hm
 have no:G7 (gI (W5 b) i)=false→A0G b=0:=fun hm=>by unfold A0G;rw [B3x hi' hm];rfl
 generalize A2 ((W5 b).take i)=Z at *
 generalize hY:A2 ((W5 b).take (i+1))=Y at *
 generalize G7 (gI (W5 b) i)=m at hr hw yes no
 clear hn hok hb h hi
 conv=>whnf
 rcases (by omega:i=0∨i=1∨i=2∨i=3∨i=4) with rfl | rfl | rfl | rfl | rfl
 all_goals
  refine ⟨⟨rfl,Nat.le_of_ble_eq_true rfl,by omega,by omega⟩,?_⟩;conv=>whnf
  refine B3 (hr _) ?_
  cases m
  ·conv=>whnf
   rw [no rfl]
   exact ⟨rfl,rfl⟩
  ·conv=>whnf
   refine G2 ?_
   exact nx hi' ⟨yes rfl,by rw [hY,←hw rfl,B4 (by omega)];rfl,rfl⟩
theorem C6J (o:H3) (st:St):S P 69 [O7 o] st fun v st'=>v=.bool (A5z o)∧st'=st:=by
 have c1:=fun s=>B3S o.book s
 have c2:=fun s=>C7z o.book s
 refine F4 [1] Tryz.func69 ?_
 refine I2 (c1 _) ?_
 refine lp 5 [1,8,9] (fun i vs s=>(∀ k,k<i→G7 (gI (W5 o.book) k)=true)∧vs=[.fptr (O7 o) 0,A2O o.book,eI i]∧s=st) ?_ ?_
 ·conv=>whnf
  exact ⟨fun k hk=>absurd hk (by omega),rfl,rfl⟩
 rintro i vs s hi ⟨hok,rfl,rfl⟩
 conv=>whnf
 cases h:decide ((i:Int)<5)
 ·obtain rfl:i=5:=by have:=D6G h;omega
  have e:A5z o=(A0G o.book==o.net):=by unfold A5z;rw [B3w hok];rfl
  rw [e]
  generalize A0G o.book=Z at *
  conv=>whnf
  refine ⟨[],[],List.range 9,by kernel_rfl,?_⟩;conv=>whnf
  refine cqW (c2 _) ?_
  exact ⟨rfl,rfl⟩
 have hi':i<5:=by have:=D6H h;omega
 have hr:=fun s=>A5i (gI (W5 o.book) i) s
 have yes:G7 (gI (W5 o.book) i)=true→∀ k,k<i+1→G7 (gI (W5 o.book) k)=true:=fun hm=>H5 hok hm
 have no:G7 (gI (W5 o.book) i)=false→A5z o=false:=fun hm=>by unfold A5z;rw [B3x hi' hm];rfl
 generalize G7 (gI (W5 o.book) i)=m at hr yes no
 clear hok h hi c2
 conv=>whnf
 rcases (by omega:i=0∨i=1∨i=2∨i=3∨i=4) with rfl | rfl | rfl | rfl | rfl
 all_goals
  refine ⟨⟨rfl,Nat.le_of_ble_eq_true rfl,by omega,by omega⟩,?_⟩;conv=>whnf
  refine B3 (hr _) ?_
  cases m
  ·conv=>whnf
   rw [no rfl]
   exact ⟨rfl,rfl⟩
  ·conv=>whnf
   refine G2 ?_
   exact nx hi' ⟨yes rfl,by rw [B4 (by omega)],rfl⟩
theorem B4i {x:A2D} (h:tenderB x=true):0≤x.taken - x.given∧x.taken - x.given≤100000000000000∧0≤x.taken∧x.taken≤100000000000000∧0≤x.given:=by
 unfold tenderB G7 at h
 simp only [D6I,E0] at h
 omega
theorem B3K {l:List A2D} {i:Nat} (hi:i<l.length):A2u (l.take (i+1))=A2u (l.take i)+((l.getD i default).taken - (l.getD i default).given):=H6 hi _ _
theorem B9X {l:List A2D}:∀ i,i≤l.length→(∀ k,k<i→tenderB (l.getD k default)=true)→0≤A2u (l.take i)∧A2u (l.take i)≤100000000000000 * (i:Int)
 | 0,_,_=>⟨by rw [D8h];exact D7l _,by rw [D8h];exact D7l _⟩
 | i+1,hi,h=>by
  have ih:=B9X i (by omega) fun k hk=>h k (by omega)
  have hx:=B4i (h i (by omega))
  rw [B3K (by omega)]
  omega
theorem B7w {l:List A2D} (h:∀ k,k<l.length→tenderB (l.getD k default)=true):l.all tenderB=true:=D6W.2 fun x hx=>by
 obtain ⟨k,hk,rfl⟩:=D5 hx;exact h k hk
theorem B9q {l:List A2D} {k:Nat} (hk:k<l.length) (h:tenderB (l.getD k default)=false):l.all tenderB=false:=by
 rw [D8x];intro e
 rw [D6W.1 e _ (A7 hk)] at h;cases h
theorem B9p {b1 b2:Bool} {t g:Int} (h:b1=true∧b2=true∧0≤g∧g≤t):(b1&&b2&&(decide (g≥0)&&decide (g≤t)))=true:=by
 simp only [D6I,D6F]
 exact ⟨⟨h.1,h.2.1⟩,h.2.2⟩
theorem B8E (o:H3) (h6:o.tenders.length≤6) (st:St):S P 70 [O7 o] st fun v st'=>v=.bool (A0r o)∧st'=st:=by
 refine F4 [1,5] Tryz.func70 ?_
 refine lp o.tenders.length [1,3,8,9,10] (fun i vs s=>(∀ k,k<i→tenderB (o.tenders.getD k default)=true)∧vs=[.fptr (O7 o) 0,eI (A2u (o.tenders.take i)),A8 3 V8 o.tenders,eI o.tenders.length,eI i]∧s=st) ?_ ?_
 ·conv=>whnf
  exact ⟨fun k hk=>absurd hk (by omega),rfl,rfl⟩
 rintro i vs s hi ⟨hok,rfl,rfl⟩
 conv=>whnf
 cases h:decide ((i:Int)<(o.tenders.length:Int))
 ·obtain rfl:=C5 h hi
  have e:A0r o=(decide ((o.tenders.length:Int)≤6)&&(A2u o.tenders==o.net)):=by unfold A0r;rw [B7w hok];rfl
  rw [e,D6O]
  generalize A2u o.tenders=Z
  conv=>whnf
  refine B9 (fun h=>?_) (fun h=>?_)<;>rw [h]
  all_goals
   conv=>whnf
   exact ⟨rfl,rfl⟩
 have hi':=E2 h
 have n1:=fun s=>C3Q (o.tenders.getD (i:Int).toNat default).kind s
 have n2:=fun s=>A5i (o.tenders.getD (i:Int).toNat default).taken s
 have hx:tenderB (o.tenders.getD (i:Int).toNat default)=(N9 1 9 (o.tenders.getD (i:Int).toNat default).kind&&G7 (o.tenders.getD (i:Int).toNat default).taken&&(decide ((o.tenders.getD (i:Int).toNat default).given≥0)&&decide ((o.tenders.getD (i:Int).toNat default).given≤(o.tenders.getD (i:Int).toNat default).taken))):=rfl
 have hb:=B9X i hi hok
 have hw:tenderB (o.tenders.getD (i:Int).toNat default)=true→IntKind.i64.wrap (A2u (o.tenders.take i)+IntKind.i64.wrap ((o.tenders.getD (i:Int).toNat default).taken - (o.tenders.getD (i:Int).toNat default).given))=A2u (o.tenders.take (i+1)):=fun hm=>by
  have hx:=B4i hm
  have h4:=B3K hi'
  rw [A5 (x:=(o.tenders.getD (i:Int).toNat default).taken - (o.tenders.getD (i:Int).toNat default).given) (by omega) (by omega)]
  have e:A2u (o.tenders.take (i+1))=A2u (o.tenders.take i)+((o.tenders.getD (i:Int).toNat default).taken - (o.tenders.getD (i:Int).toNat default).given):=h4
  rw [e];exact A5 (by omega) (by omega)
 have yes:tenderB (o.tenders.getD (i:Int).toNat default)=true→∀ k,k<i+1→tenderB (o.tenders.getD k default)=true:=fun hm=>H5 hok hm
 have no:tenderB (o.tenders.getD (i:Int).toNat default)=false→A0r o=false:=fun hm=>by unfold A0r;rw [B9q hi' hm];rfl
 generalize tenderB (o.tenders.getD (i:Int).toNat default)=t at hx hw yes no
 generalize hY:A2u (o.tenders.take (i+1))=Y at hw
 generalize A2u (o.tenders.take i)=Z at hw hb ⊢
 clear hok hb
 conv=>whnf
 refine ⟨rfl,⟨by omega,by omega⟩,?_⟩
 generalize N9 1 9 (o.tenders.getD (i:Int).toNat default).kind=b1 at *
 generalize G7 (o.tenders.getD (i:Int).toNat default).taken=b2 at *
 cases t with
 | true =>
  have hx:=hx.symm
  simp only [D6I,D6F] at hx
  obtain ⟨⟨rfl,rfl⟩,e3,e4⟩:=hx
  have g1:decide ((o.tenders.getD (i:Int).toNat default).given<0)=false:=D6L (by omega)
  have g2:decide ((o.tenders.getD (i:Int).toNat default).given>(o.tenders.getD (i:Int).toNat default).taken)=false:=D6L (by omega)
  repeat' ((conv=>whnf);first | refine B3 (n1 _) ?_ | refine B3 (n2 _) ?_ | rw [g1] | rw [g2])
  refine G2 ?_
  exact nx hi' ⟨yes rfl,by rw [hY,←hw rfl,B4 (by omega)],rfl⟩
 | false =>
  repeat' ((conv=>whnf);first | refine B3 (n1 _) ?_ | refine B3 (n2 _) ?_ | (refine B9 (fun h=>?_) (fun h=>?_)<;>rw [h]))
  all_goals first
   | (exfalso
      simp only [D6X,D7q,D6F,D6E] at *
      have:=B9p (b1:=b1) (b2:=b2) (t:=(o.tenders.getD (i:Int).toNat default).taken) (g:=(o.tenders.getD (i:Int).toNat default).given) ⟨by assumption,by assumption,by omega,by omega⟩
      rw [←hx] at this;cases this;done)
   | (conv=>whnf
      rw [no rfl]
      exact ⟨rfl,rfl⟩)
theorem A8P (o:H3) (hs:A5R o) (st:St):S P 19 [O7 o] st fun v st'=>v=.bool (N8 o)∧st'=st:=by
 have n1:=fun s=>C6L o hs s
 have n2:=fun s=>C4k o hs s
 have n3:=fun s=>B8B o s
 have n4:=fun s=>C6J o s
 have n5:=fun h6 s=>B8E o h6 s
 have hB:N8 o=(decide ((o.tenders.length:Int)≤6)&&A6d o&&A3t o&&A1x o&&A5z o&&A0r o):=rfl
 generalize A6d o=b1 at *
 generalize A3t o=b2 at *
 generalize A1x o=b3 at *
 generalize A5z o=b4 at *
 generalize A0r o=b5 at *
 refine F4 [1,3] Tryz.func19 ?_
 refine B9 (fun h=>?_) (fun h=>?_)<;>rw [h]<;>simp only [D6F,D6E] at h
 ·rw [D6L (by omega)] at hB
  rw [hB];conv=>whnf
  exact ⟨rfl,rfl⟩
 rw [D7m (by omega),D6Y] at hB
 have n5:=n5 (by omega)
 conv=>whnf
 refine lp 5 [22,23,24] (fun i vs s=>((0<i→b1=true)∧(1<i→b2=true)∧(2<i→b3=true)∧(3<i→b4=true)∧(4<i→b5=true))∧(∃ F:Nat→AV,F 0=.fn (.func 66) [O7 o] []∧F 1=.fn (.func 67) [O7 o] []∧F 2=.fn (.func 68) [O7 o] []∧F 3=.fn (.func 69) [O7 o] []∧F 4=.fn (.func 70) [O7 o] []∧vs=[.arr 1 5 F,eI 5,eI i])∧s=st) ?_ ?_
 ·conv=>whnf
  exact ⟨⟨fun h=>absurd h (by omega),fun h=>absurd h (by omega),fun h=>absurd h (by omega),fun h=>absurd h (by omega),fun h=>absurd h (by omega)⟩,⟨_,rfl,rfl,rfl,rfl,rfl,rfl⟩,rfl⟩
 rintro i vs s hi ⟨⟨g1,g2,g3,g4,g5⟩,⟨F,f0,f1,f2,f3,f4,rfl⟩,rfl⟩
 conv=>whnf
 cases h5:decide ((i:Int)<5)
 ·have h5:=D6G h5
  rw [g1 (by omega),g2 (by omega),g3 (by omega),g4 (by omega),g5 (by omega)] at hB
  rw [hB];conv=>whnf
  exact ⟨rfl,rfl⟩
 have hi':i<5:=by have:=D6H h5;omega
 conv=>whnf
 refine ⟨rfl,⟨by omega,by omega⟩,?_⟩
 rcases (by omega:i=0∨i=1∨i=2∨i=3∨i=4) with rfl | rfl | rfl | rfl | rfl
 case' inl=>rw [show F ((0:Nat):Int).toNat=_ from f0]
 case' inr.inl=>rw [show F ((1:Nat):Int).toNat=_ from f1]
 case' inr.inr.inl=>rw [show F ((2:Nat):Int).toNat=_ from f2]
 case' inr.inr.inr.inl=>rw [show F ((3:Nat):Int).toNat=_ from f3]
 case' inr.inr.inr.inr=>rw [show F ((4:Nat):Int).toNat=_ from f4]
 all_goals
  conv=>whnf
  first | refine B3 (n1 _) ?_ | refine B3 (n2 _) ?_ | refine B3 (n3 _) ?_ | refine B3 (n4 _) ?_ | refine B3 (n5 _) ?_
  conv=>whnf
  refine B9 (fun h6=>?_) (fun h6=>?_)<;>rw [h6]
  ·rw [D6X] at h6
   rw [h6] at hB
   simp only [D7c,D7h] at hB
   rw [hB];conv=>whnf
   exact ⟨rfl,rfl⟩
  ·rw [D7q] at h6;conv=>whnf
   refine G2 ?_
   exact nx hi' ⟨⟨fun _=>by first | exact h6 | exact g1 (by omega),fun h=>by first | exact h6 | exact g2 (by omega) | omega,fun h=>by first | exact h6 | exact g3 (by omega) | omega,fun h=>by first | exact h6 | exact g4 (by omega) | omega,fun h=>by first | exact h6 | exact g5 (by omega) | omega⟩,⟨F,f0,f1,f2,f3,f4,by rw [B4 (by omega)]⟩,rfl⟩
theorem C4P (l:List A2q) (hl:Sm l.length) (hs:∀ x∈l,A2h x.scope) (st:St):S P 240 [A8 3 W6 l] st fun v st'=>v=.bool (L3 l (fun _ x=>A0W x)&&(decide ((l.length:Int)≥1)&&decide ((l.length:Int)≤3)))∧st'=st:=by
 refine F4 [] Tryz.func240 ?_
 refine lp l.length [0,3] (fun i vs st'=>(∀ k,k<i→A0W (l.getD k default)=true)∧vs=[A8 3 W6 l,eI i]∧st'=st) ?_ ?_
 ·conv=>whnf
  exact ⟨fun k hk=>absurd hk (by omega),rfl,rfl⟩
 ·rintro i vs st' hi ⟨hok,rfl,rfl⟩
  conv=>whnf
  cases h:decide ((i:Int)<(l.length:Int))
  ·obtain rfl:=C5 h hi
   rw [K8 hok,D6Y];conv=>whnf
   refine B9 (fun h=>?_) (fun h=>?_)<;>rw [h]<;>(conv=>whnf)<;>exact ⟨rfl,rfl⟩
  ·have hi':=E2 h
   have yes:A0W (l.getD (i:Int).toNat default)=true→∀ k,k<i+1→A0W (l.getD k default)=true:=fun h=>H5 hok h
   have no:A0W (l.getD (i:Int).toNat default)=false→L3 l (fun _ x=>A0W x)=false:=fun h=>X2 (p:=fun _ x=>A0W x) hi' h
   have n1:=B6V (l.getD (i:Int).toNat default).scope (hs _ (A7 hi')) st'
   rw [show A0W (l.getD (i:Int).toNat default)=(A0q (l.getD (i:Int).toNat default).scope&&!(decide ((l.getD (i:Int).toNat default).count<1)||decide ((l.getD (i:Int).toNat default).count>100))) from rfl] at yes no
   generalize A0q (l.getD (i:Int).toNat default).scope=b1 at n1 yes no
   repeat' ((conv=>whnf);first | refine ⟨rfl,⟨by omega,by omega⟩,?_⟩ | refine B3 n1 ?_ | cases b1 | (refine B9 (fun h=>?_) (fun h=>?_)<;>rw [h]))
   all_goals (conv=>whnf)
   all_goals first
    | (rw [no (by simp only [*,D7z,D7v,D7s,D7h,D7c])];exact ⟨rfl,rfl⟩)
    | (refine ⟨rfl,?_⟩;conv=>whnf
       exact nx hi' ⟨yes (by simp only [*,D7w,D7j,D7u]),by rw [B4 (by omega)],rfl⟩)
theorem B7a (l:List Int) (hl:Sm l.length) (st:St):S P 137 [B0 l] st fun v st'=>v=.bool (A1h l)∧st'=st:=by
 refine F4 [] Tryz.func137 ?_
 refine lp l.length [0,3] (fun i vs st'=>(∀ k,k<i→A2H l k (l.getD k default)=true)∧vs=[B0 l,eI i]∧st'=st) ?_ ?_
 ·conv=>whnf
  exact ⟨fun k hk=>absurd hk (by omega),rfl,rfl⟩
 ·rintro i vs st' hi ⟨hok,rfl,rfl⟩
  conv=>whnf
  cases h:decide ((i:Int)<(l.length:Int))
  ·obtain rfl:=C5 h hi
   conv=>whnf
   exact ⟨by rw [show A1h l=true from K8 hok];rfl,rfl⟩
  ·have hi':=E2 h
   have yes:A2H l i (l.getD (i:Int).toNat default)=true→∀ k,k<i+1→A2H l k (l.getD k default)=true:=fun h=>H5 hok h
   have no:A2H l i (l.getD (i:Int).toNat default)=false→A1h l=false:=fun h=>X2 hi' h
   rw [show A2H l i (l.getD (i:Int).toNat default)=!(!(decide ((l.getD (i:Int).toNat default)≥1)&&decide ((l.getD (i:Int).toNat default)≤9))||(l.take i).any fun y=>l.getD (i:Int).toNat default==y) from rfl] at yes no
   have no':(decide ((l.getD (i:Int).toNat default)≥1)&&decide ((l.getD (i:Int).toNat default)≤9))=false→A1h l=false:=fun h=>no (by rw [h];rfl)
   repeat' ((conv=>whnf);first | refine ⟨rfl,⟨by omega,by omega⟩,?_⟩ | (refine B9 (fun h=>?_) (fun h=>?_)<;>rw [h]))
   all_goals (conv=>whnf)
   ·rw [no' (by rw [D8M,D6E,D6E];simp only [D6F,D6E] at *;omega)];exact ⟨rfl,rfl⟩
   ·rw [no' (by rw [D8M,D6E,D6E];simp only [D6F,D6E] at *;omega)];exact ⟨rfl,rfl⟩
   have hk:(decide ((l.getD (i:Int).toNat default)≥1)&&decide ((l.getD (i:Int).toNat default)≤9))=true:=by rw [D6I,D6F,D6F];simp only [D6F,D6E] at *;omega
   rw [hk] at yes no
   refine lp i [0,3,4] (fun j vs s=>(∀ k,k<j→(l.getD k default==l.getD i default)=false)∧vs=[B0 l,eI i,eI j]∧s=st') ?_ ?_
   ·conv=>whnf
    exact ⟨fun k hk=>absurd hk (by omega),rfl,rfl⟩
   ·rintro j vs s hj ⟨hokj,rfl,rfl⟩
    conv=>whnf
    cases h:decide ((j:Int)<(i:Int))
    ·obtain rfl:=C5 h hj
     conv=>whnf
     refine G2 ?_
     refine nx hi' ⟨yes ?_,by rw [B4 (by omega)],rfl⟩
     rw [D7R.2 fun x hx=>?_];rfl
     obtain ⟨k,hk2,rfl⟩:=D5 hx
     rw [D6N] at hk2
     have h4:=hokj k (by omega)
     rw [D6R,show (l.take j).getD k default=l.getD k default by rw [D6D,D6D,D6S (by omega)],D9L,h4];simp
    ·have hj':=E2 h
     conv=>whnf
     refine ⟨[],[],List.range 9,by kernel_rfl,?_⟩;conv=>whnf
     refine E7 ?_
     refine E7 ?_
     refine B9 (fun h1=>?_) (fun h1=>?_)<;>rw [h1]
     ·conv=>whnf
      refine ⟨?_,rfl⟩
      rw [no ?_];rfl
      rw [D8r.2 ⟨l.getD j default,?_,?_⟩];rfl
      ·rw [List.mem_take_iff_getElem]
       exact ⟨j,by omega,by simp [show j<l.length by omega]⟩
      ·rw [D9L];exact h1
     ·conv=>whnf
      refine G2 ?_
      exact nx hj' ⟨H5 hokj h1,by rw [B4 (by omega)],rfl⟩
structure B7M (z:K3):Prop where
 n:Sm z.rates.length
 s:Sm z.name.size
 r:∀ x∈z.rates,Sm x.cat.size
def A4c (l:List G8) (k:Nat) (x:G8):Bool:=D1 x.cat&&N9 0 10000 x.rate&&O9 (l.map G8.cat) k
def B2R (z:K3):Bool:=L3 z.rates (A4c z.rates)&&(decide ((z.rates.length:Int)≤40)&&N9 0 10000 z.rest&&N9 0 10000 z.ship)
theorem C4Q (z:K3) (hz:B7M z) (st:St):S P 195 [S3 z] st fun v st'=>v=.bool (B2R z)∧st'=st:=by
 rw [show B2R z=(L3 z.rates (A4c z.rates)&&(decide ((z.rates.length:Int)≤40)&&N9 0 10000 z.rest&&N9 0 10000 z.ship)) from rfl]
 refine F4 [1] Tryz.func195 ?_
 refine lp z.rates.length [1,3] (fun i vs st'=>(∀ k,k<i→A4c z.rates k (z.rates.getD k default)=true)∧vs=[.fptr (S3 z) 0,eI i]∧st'=st) ?_ ?_
 ·conv=>whnf
  exact ⟨fun k hk=>absurd hk (by omega),rfl,rfl⟩
 ·rintro i vs st' hi ⟨hok,rfl,rfl⟩
  conv=>whnf
  cases h:decide ((i:Int)<(z.rates.length:Int))
  ·obtain rfl:=C5 h hi
   rw [show L3 z.rates (A4c z.rates)=true from K8 hok,D6Y];conv=>whnf
   cases hd:decide ((z.rates.length:Int)≤40)
   ·conv=>whnf
    exact ⟨rfl,rfl⟩
   ·conv=>whnf
    refine I2 (A2R z.rest 10000 _) ?_
    cases N9 0 10000 z.rest
    ·conv=>whnf
     exact ⟨rfl,rfl⟩
    ·conv=>whnf
     refine I2 (A2R z.ship 10000 _) ?_
     exact ⟨rfl,rfl⟩
  ·have hi':=E2 h
   have yes:A4c z.rates i (z.rates.getD (i:Int).toNat default)=true→∀ k,k<i+1→A4c z.rates k (z.rates.getD k default)=true:=fun h=>H5 hok h
   have no:A4c z.rates i (z.rates.getD (i:Int).toNat default)=false→L3 z.rates (A4c z.rates)=false:=fun h=>X2 hi' h
   have hl:=hz.n
   have hm:=hz.r _ (A7 hi')
   have n1:=A2m (z.rates.getD (i:Int).toNat default).cat hm st'
   have n2:=A2R (z.rates.getD (i:Int).toNat default).rate 10000 st'
   have e:0<i→O9 (z.rates.map G8.cat) i=!(Op.bytesLess (z.rates.getD i default).cat.toList (z.rates.getD (i - 1) default).cat.toList||(z.rates.getD i default).cat.toList==(z.rates.getD (i - 1) default).cat.toList):=fun hp=>by
    rw [B5f hp]
    have e1:(z.rates.map G8.cat).getD i default=(z.rates.getD i default).cat:=D4 G8.cat z.rates hi'
    have e2:(z.rates.map G8.cat).getD (i - 1) default=(z.rates.getD (i - 1) default).cat:=D4 G8.cat z.rates (by omega)
    rw [e1,e2]
   have e0:i=0→O9 (z.rates.map G8.cat) i=true:=fun h=>by rw [h];rfl
   rw [show A4c z.rates i (z.rates.getD (i:Int).toNat default)=(D1 (z.rates.getD (i:Int).toNat default).cat&&N9 0 10000 (z.rates.getD (i:Int).toNat default).rate&&O9 (z.rates.map G8.cat) i) from rfl] at yes no
   generalize D1 (z.rates.getD (i:Int).toNat default).cat=b1 at n1 yes no
   generalize N9 0 10000 (z.rates.getD (i:Int).toNat default).rate=b2 at n2 yes no
   conv=>whnf
   refine ⟨[],[],List.range 38,by kernel_rfl,?_⟩
   cases h0:decide ((i:Int)>0)
   ·replace e:=e0 (by have:=D6G h0;omega)
    repeat' ((conv=>whnf);first | refine ⟨rfl,⟨by omega,by omega⟩,?_⟩ | refine ⟨_,H8 n1,?_⟩ | refine ⟨_,H8 n2,?_⟩ | rw [h0] | cases b1 | cases b2)
    all_goals (conv=>whnf)
    all_goals first
     | (rw [no (by rfl)];exact ⟨rfl,rfl⟩)
     | (refine ⟨rfl,?_⟩;conv=>whnf
        exact nx hi' ⟨yes (by rw [e];rfl),by rw [B4 (by omega)],rfl⟩)
   ·have h0':0<i:=by have:=D6H h0;omega
    replace e:=e h0'
    have hw:=A7x h0' (by omega)
    repeat' ((conv=>whnf);first | refine ⟨rfl,⟨by omega,by omega⟩,?_⟩ | refine ⟨rfl,⟨by rw [hw];omega,by rw [hw];omega⟩,?_⟩ | refine ⟨_,H8 n1,?_⟩ | refine ⟨_,H8 n2,?_⟩ | rw [h0] | cases b1 | cases b2 | refine B9 (fun h=>?_) (fun h=>?_))
    all_goals (conv=>whnf)
    all_goals first
     | (rw [no (by rfl)];exact ⟨rfl,rfl⟩)
     | (rw [hw] at h;rw [no (by rw [e];exact D8E not h)];exact ⟨rfl,rfl⟩)
     | (rw [hw] at h;refine ⟨rfl,?_⟩;conv=>whnf
        exact nx hi' ⟨yes (by rw [e];exact D8E not h),by rw [B4 (by omega)],rfl⟩)
def A4i (l:List K3) (k:Nat) (x:K3):Bool:=D1 x.name&&B2R x&&O9 (l.map K3.name) k
structure B3q (x:Tax):Prop where
 n:Sm x.zones.length
 z:∀ z∈x.zones,B7M z
def C7B (x:Tax):Bool:=L3 x.zones (A4i x.zones)&&(decide ((x.zones.length:Int)≤20)&&decide (x.round≥0)&&decide (x.round≤2))
theorem C7g (x:Tax) (hx:B3q x) (st:St):S P 135 [S7 x] st fun v st'=>v=.bool (C7B x)∧st'=st:=by
 rw [show C7B x=(L3 x.zones (A4i x.zones)&&(decide ((x.zones.length:Int)≤20)&&decide (x.round≥0)&&decide (x.round≤2))) from rfl]
 refine F4 [1] Tryz.func135 ?_
 refine lp x.zones.length [1,3] (fun i vs st'=>(∀ k,k<i→A4i x.zones k (x.zones.getD k default)=true)∧vs=[.fptr (S7 x) 0,eI i]∧st'=st) ?_ ?_
 ·conv=>whnf
  exact ⟨fun k hk=>absurd hk (by omega),rfl,rfl⟩
 ·rintro i vs st' hi ⟨hok,rfl,rfl⟩
  conv=>whnf
  cases h:decide ((i:Int)<(x.zones.length:Int))
  ·obtain rfl:=C5 h hi
   rw [show L3 x.zones (A4i x.zones)=true from K8 hok,D6Y];conv=>whnf
   refine B9 (fun h=>?_) (fun h=>?_)<;>rw [h]
   ·conv=>whnf
    refine B9 (fun h=>?_) (fun h=>?_)<;>rw [h]<;>(conv=>whnf)<;>exact ⟨rfl,rfl⟩
   ·conv=>whnf
    exact ⟨rfl,rfl⟩
  ·have hi':=E2 h
   have yes:A4i x.zones i (x.zones.getD (i:Int).toNat default)=true→∀ k,k<i+1→A4i x.zones k (x.zones.getD k default)=true:=fun h=>H5 hok h
   have no:A4i x.zones i (x.zones.getD (i:Int).toNat default)=false→L3 x.zones (A4i x.zones)=false:=fun h=>X2 hi' h
   have hl:=hx.n
   have hm:=hx.z _ (A7 hi')
   have n1:=A2m (x.zones.getD (i:Int).toNat default).name hm.s st'
   have n2:=C4Q (x.zones.getD (i:Int).toNat default) hm st'
   have e:0<i→O9 (x.zones.map K3.name) i=!(Op.bytesLess (x.zones.getD i default).name.toList (x.zones.getD (i - 1) default).name.toList||(x.zones.getD i default).name.toList==(x.zones.getD (i - 1) default).name.toList):=fun hp=>by
    rw [B5f hp]
    have e1:(x.zones.map K3.name).getD i default=(x.zones.getD i default).name:=D4 K3.name x.zones hi'
    have e2:(x.zones.map K3.name).getD (i - 1) default=(x.zones.getD (i - 1) default).name:=D4 K3.name x.zones (by omega)
    rw [e1,e2]
   have e0:i=0→O9 (x.zones.map K3.name) i=true:=fun h=>by rw [h];rfl
   rw [show A4i x.zones i (x.zones.getD (i:Int).toNat default)=(D1 (x.zones.getD (i:Int).toNat default).name&&B2R (x.zones.getD (i:Int).toNat default)&&O9 (x.zones.map K3.name) i) from rfl] at yes no
   generalize D1 (x.zones.getD (i:Int).toNat default).name=b1 at n1 yes no
   generalize B2R (x.zones.getD (i:Int).toNat default)=b2 at n2 yes no
   conv=>whnf
   refine ⟨[],[],List.range 37,by kernel_rfl,?_⟩
   cases h0:decide ((i:Int)>0)
   ·replace e:=e0 (by have:=D6G h0;omega)
    repeat' ((conv=>whnf);first | refine ⟨rfl,⟨by omega,by omega⟩,?_⟩ | refine ⟨_,H8 n1,?_⟩ | refine ⟨_,H8 n2,?_⟩ | rw [h0] | cases b1 | cases b2)
    all_goals (conv=>whnf)
    all_goals first
     | (rw [no (by rfl)];exact ⟨rfl,rfl⟩)
     | (refine ⟨rfl,?_⟩;conv=>whnf
        exact nx hi' ⟨yes (by rw [e];rfl),by rw [B4 (by omega)],rfl⟩)
   ·have h0':0<i:=by have:=D6H h0;omega
    replace e:=e h0'
    have hw:=A7x h0' (by omega)
    repeat' ((conv=>whnf);first | refine ⟨rfl,⟨by omega,by omega⟩,?_⟩ | refine ⟨rfl,⟨by rw [hw];omega,by rw [hw];omega⟩,?_⟩ | refine ⟨_,H8 n1,?_⟩ | refine ⟨_,H8 n2,?_⟩ | rw [h0] | cases b1 | cases b2 | refine B9 (fun h=>?_) (fun h=>?_))
    all_goals (conv=>whnf)
    all_goals first
     | (rw [no (by rfl)];exact ⟨rfl,rfl⟩)
     | (rw [hw] at h;rw [no (by rw [e];exact D8E not h)];exact ⟨rfl,rfl⟩)
     | (rw [hw] at h;refine ⟨rfl,?_⟩;conv=>whnf
        exact nx hi' ⟨yes (by rw [e];exact D8E not h),by rw [B4 (by omega)],rfl⟩)
theorem C5E (z:K3):(D1 z.name&&B2R z)=Y6 z:=by
 unfold B2R Y6 L3 A0p A4c A4D N9
 rw [D6J,←D8N]
 simp only [D6I,D6W,D6T,D6X,D7Q,D7q,D6F,D6E]
 constructor
 ·rintro ⟨h0,h1,⟨h2,h3⟩,h4⟩
  exact ⟨⟨⟨⟨h0,h3⟩,h4⟩,by omega⟩,fun k hk=>(h1 k hk).1,fun k hk=>(h1 k hk).2⟩
 ·rintro ⟨⟨⟨⟨h0,h3⟩,h4⟩,h2⟩,h1,h5⟩
  exact ⟨h0,fun k hk=>⟨h1 k hk,h5 k hk⟩,⟨by omega,h3⟩,h4⟩
theorem C7C (x:Tax):C7B x=taxC x:=by
 unfold C7B taxC
 rw [←D8N]
 unfold L3 A0p A4i
 rw [D6J]
 simp only [C5E,D6I,D6W,D6T,D6X,D7Q,D7q,D6F,D6E]
 constructor
 ·rintro ⟨h1,⟨h2,h3⟩,h4⟩
  exact ⟨⟨⟨by omega,by omega⟩,by omega⟩,fun k hk=>(h1 k hk).1,fun k hk=>(h1 k hk).2⟩
 ·rintro ⟨⟨⟨h3,h4⟩,h2⟩,h1,h5⟩
  exact ⟨fun k hk=>⟨h1 k hk,h5 k hk⟩,⟨by omega,by omega⟩,by omega⟩
theorem C4I (x:Tax) (hx:B3q x) (st:St):S P 135 [S7 x] st fun v st'=>v=.bool (taxC x)∧st'=st:=by
 rw [←C7C];exact C7g x hx st
def A3d (l:List A0S) (k:Nat) (x:A0S):Bool:=N9 0 10000000000000 x.least&&N9 0 10000 x.rate&&N9 0 10000000000000 x.amount&&!(x.rate==0&&x.amount==0)&&(k==0||!decide (x.least≤(l.getD (k - 1) default).least))
theorem C4R (l:List A0S) (hl:Sm l.length) (st:St):S P 241 [A8 3 R9 l] st fun v st'=>v=.bool (L3 l (A3d l)&&(decide ((l.length:Int)≥1)&&decide ((l.length:Int)≤6)))∧st'=st:=by
 refine F4 [4] Tryz.func241 ?_
 refine lp l.length [0,3] (fun i vs st'=>(∀ k,k<i→A3d l k (l.getD k default)=true)∧vs=[A8 3 R9 l,eI i]∧st'=st) ?_ ?_
 ·conv=>whnf
  exact ⟨fun k hk=>absurd hk (by omega),rfl,rfl⟩
 ·rintro i vs st' hi ⟨hok,rfl,rfl⟩
  conv=>whnf
  cases h:decide ((i:Int)<(l.length:Int))
  ·obtain rfl:=C5 h hi
   rw [K8 hok,D6Y];conv=>whnf
   refine B9 (fun h=>?_) (fun h=>?_)<;>rw [h]<;>(conv=>whnf)<;>exact ⟨rfl,rfl⟩
  ·have hi':=E2 h
   have yes:A3d l i (l.getD (i:Int).toNat default)=true→∀ k,k<i+1→A3d l k (l.getD k default)=true:=fun h=>H5 hok h
   have no:A3d l i (l.getD (i:Int).toNat default)=false→L3 l (A3d l)=false:=fun h=>X2 hi' h
   have n1:=A2R (l.getD (i:Int).toNat default).least 10000000000000 st'
   have n2:=A2R (l.getD (i:Int).toNat default).rate 10000 st'
   have n3:=A2R (l.getD (i:Int).toNat default).amount 10000000000000 st'
   have hw:=fun h=>A7x (i:=i) h (by omega)
   rw [show A3d l i (l.getD (i:Int).toNat default)=(N9 0 10000000000000 (l.getD (i:Int).toNat default).least&&N9 0 10000 (l.getD (i:Int).toNat default).rate&&N9 0 10000000000000 (l.getD (i:Int).toNat default).amount&&!((l.getD (i:Int).toNat default).rate==0&&(l.getD (i:Int).toNat default).amount==0)&&(i==0||!decide ((l.getD (i:Int).toNat default).least≤(l.getD (i - 1) default).least))) from rfl] at yes no
   generalize N9 0 10000000000000 (l.getD (i:Int).toNat default).least=b1 at n1 yes no
   generalize N9 0 10000 (l.getD (i:Int).toNat default).rate=b2 at n2 yes no
   generalize N9 0 10000000000000 (l.getD (i:Int).toNat default).amount=b3 at n3 yes no
   conv=>whnf
   refine E7 ?_
   refine ⟨[],[],List.range 41,by kernel_rfl,?_⟩
   have step:∀ b4:Bool,b4=((l.getD (i:Int).toNat default).rate==0&&(l.getD (i:Int).toNat default).amount==0)→True:=fun _ _=>trivial
   rcases D8b i with h0 | h0
   ·have h1:decide ((i:Int)>0)=false:=D6L (by omega)
    rw [show (i==0)=true from by rw [h0];rfl,D7z,D7u] at yes no
    repeat' ((conv=>whnf);first | refine ⟨rfl,⟨by omega,by omega⟩,?_⟩ | refine ⟨_,H8 n1,?_⟩ | refine ⟨_,H8 n2,?_⟩ | refine ⟨_,H8 n3,?_⟩ | rw [h1] | cases b1 | cases b2 | cases b3 | (refine B9 (fun h=>?_) (fun h=>?_)<;>rw [h] at yes no ⊢))
    all_goals (conv=>whnf)
    all_goals first
     | (rw [no (by rfl)];exact ⟨rfl,rfl⟩)
     | (refine ⟨rfl,?_⟩;conv=>whnf
        exact nx hi' ⟨yes (by rfl),by rw [B4 (by omega)],rfl⟩)
   ·have h1:decide ((i:Int)>0)=true:=D7m (by omega)
    rw [show (i==0)=false from D8t (by omega),D7r] at yes no
    have hw:=hw h0
    repeat' ((conv=>whnf);first | refine ⟨rfl,⟨by omega,by omega⟩,?_⟩ | refine ⟨rfl,⟨by rw [hw];omega,by rw [hw];omega⟩,?_⟩ | refine ⟨_,H8 n1,?_⟩ | refine ⟨_,H8 n2,?_⟩ | refine ⟨_,H8 n3,?_⟩ | rw [h1] | cases b1 | cases b2 | cases b3 | (refine B9 (fun h=>?_) (fun h=>?_)<;>rw [h] at yes no ⊢) | (rw [hw];refine B9 (fun h=>?_) (fun h=>?_)))
    all_goals (conv=>whnf)
    all_goals first
     | (rw [no (by rfl)];exact ⟨rfl,rfl⟩)
     | (rw [no (D8E not h)];exact ⟨rfl,rfl⟩)
     | (refine ⟨rfl,?_⟩;conv=>whnf
        exact nx hi' ⟨yes (D8E not h),by rw [B4 (by omega)],rfl⟩)
theorem C2A (l:List A0S):(L3 l (A3d l)&&(decide ((l.length:Int)≥1)&&decide ((l.length:Int)≤6)))=A0d l:=by
 unfold A0d
 rw [Bool.and_comm]
 congr 1
 ·rw [Bool.not_or];congr 1<;>(rw [←decide_not];exact D8s.2 (by omega))
 ·rw [←D8N]
  unfold L3 A3d A4h N9
  simp only [D6I,D6W,D6T,D6X,D7Q,D7q,D6F,D6E,D7J,D7B]
  constructor
  ·intro h k hk
   obtain ⟨⟨⟨⟨h1,h2⟩,h3⟩,h4⟩,h5⟩:=h k hk
   refine ⟨⟨⟨⟨⟨⟨?_,by omega⟩,by omega⟩,by omega⟩,by omega⟩,by omega⟩,h4⟩
   split
   ·omega
   ·rcases h5 with h5 | h5<;>omega
  ·intro h
   have pos:∀ k,k<l.length→0≤(l.getD k default).least:=fun k=>by
    induction k with
    | zero=>intro hk;have:=(h 0 hk).1.1.1.1.1.1;rw [if_pos rfl] at this;omega
    | succ k ih=>intro hk;have:=(h (k+1) hk).1.1.1.1.1.1;rw [if_neg (by omega),Nat.add_sub_cancel] at this;have:=ih (by omega);omega
   intro k hk
   obtain ⟨⟨⟨⟨⟨⟨h1,h2⟩,h3⟩,h4⟩,h5⟩,h6⟩,h7⟩:=h k hk
   have:=pos k hk
   refine ⟨⟨⟨⟨⟨by omega,by omega⟩,by omega,by omega⟩,by omega,by omega⟩,h7⟩,?_⟩
   by_cases h0:k=0
   ·exact .inl h0
   ·rw [if_neg h0] at h1;exact .inr h1
structure A2X (p:B1):Prop where
 id:Sm p.id.size
 group:Sm p.group.size
 code:Sm p.code.size
 scope:A2h p.scope
 parts:Sm p.parts.length
 part:∀ x∈p.parts,A2h x.scope
 tiers:Sm p.tiers.length
def A6n (l:List A2q):Bool:=L3 l (fun _ x=>A0W x)&&(decide ((l.length:Int)≥1)&&decide ((l.length:Int)≤3))
def B1Z (p:B1):Bool :=
 if p.kind=1 then (decide (p.rate≥1)&&decide (p.rate≤10000))&&p.amount==0&&(p.buy==0&&p.get==0)&&(p.parts.length:Int)==0&&(p.tiers.length:Int)==0
 else if p.kind=2 then p.rate==0&&decide (p.amount≥1)&&decide (p.amount≤1000000000)&&(p.buy==0&&p.get==0)&&(p.parts.length:Int)==0&&(p.tiers.length:Int)==0
 else if p.kind=3 then (decide (p.rate≥1)&&decide (p.rate≤10000))&&p.amount==0&&decide (p.buy≥1)&&decide (p.buy≤100)&&decide (p.get≥1)&&decide (p.get≤100)&&(p.parts.length:Int)==0&&(p.tiers.length:Int)==0
 else if p.kind=4 then p.rate==0&&N9 0 10000000000000 p.amount&&(p.buy==0&&p.get==0)&&A6n p.parts&&(p.tiers.length:Int)==0&&((p.scope.skus.length:Int)==0&&(p.scope.cats.length:Int)==0)
 else if p.kind=7 then (decide (p.rate≥1)&&decide (p.rate≤10000))&&p.amount==0&&(p.buy==0&&p.get==0)&&(p.parts.length:Int)==0&&(p.tiers.length:Int)==0&&((p.scope.skus.length:Int)==0&&(p.scope.cats.length:Int)==0)&&!p.closes
 else p.rate==0&&p.amount==0&&(p.buy==0&&p.get==0)&&(p.parts.length:Int)==0&&A0d p.tiers
theorem C1C (p:B1):(A6n p.parts&&N9 0 10000000000000 p.amount)=A6Y p:=by
 unfold A6n A6Y L3 N9
 rw [←D8N]
 simp only [D6I,D6W,D6T,D6X,D7Q,D6F,D6E,D7R,D7q]
 constructor
 ·rintro ⟨⟨h1,h2⟩,h3⟩
  exact ⟨⟨⟨⟨by omega,by omega⟩,by omega⟩,by omega⟩,fun x hx=>by obtain ⟨k,hk,rfl⟩:=D5 hx;rw [h1 k hk];simp⟩
 ·rintro ⟨h1,h2⟩
  exact ⟨⟨fun k hk=>by have:=h2 _ (A7 hk);simpa using this,by omega⟩,by omega⟩
theorem C1I (p:B1) (hk:1≤p.kind∧p.kind≤7):B1Z p=(A9D p&&A7t p):=by
 have hb:=C1C p
 unfold B1Z A9D A7t A8G A8H A8I
 rw [←hb]
 rw [A3P,A3P,A3P,A3P]
 have e:(p.scope.skus.length+p.scope.cats.length==0)=(p.scope.skus.length==0&&p.scope.cats.length==0):=by
  rw [←D8N];simp only [D6I,D7B];omega
 have u:∀ m x,N9 1 m x=true→(x==0)=false:=fun m x h=>by simp only [N9,D6I,D6F] at h;exact D8t (by omega)
 have e4:A6n p.parts=true→(p.parts.length==0)=false:=fun h=>by
  simp only [A6n,D6I,D6F] at h;exact D8t (by omega)
 have e5:A0d p.tiers=true→(p.tiers.length==0)=false:=fun h=>by
  simp only [A0d,D6I,D6X,D7Q,D6E] at h;exact D8t (by omega)
 rw [e]
 rcases (by omega:p.kind=1∨p.kind=2∨p.kind=3∨p.kind=4∨p.kind=5∨p.kind=6∨p.kind=7) with h | h | h | h | h | h | h
 all_goals (rw [h];simp only [show ∀ a b:Int,(if a=b then _ else _)=_ from fun _ _=>rfl,N9,if_true,D9l,Int.reduceEq,Int.reduceBEq,D7z,D7v,D6Y,D7u,D7r,D7w,bne,D7s,D7j])
 all_goals (generalize A0d p.tiers=b1 at *;generalize A6n p.parts=b2 at *;generalize (p.parts.length==0)=b3 at *;generalize (p.tiers.length==0)=b4 at *;generalize (p.scope.skus.length==0&&p.scope.cats.length==0)=b5;generalize (p.buy==0&&p.get==0)=b6;generalize (p.rate==0)=b7;generalize (p.amount==0)=b8;generalize decide (p.rate≥1)=b9;generalize decide (p.rate≤10000)=b10)
 all_goals first | done | ac_rfl
theorem C1H (p:B1):H2 p=(D1 p.id&&!decide (p.kind<1)&&!decide (p.kind>7)&&!decide (p.prio<0)&&!decide (p.prio>1000)&&((p.group.toList==(⟨#[]⟩:C8).toList)||D1 p.group)&&((p.code.toList==(⟨#[]⟩:C8).toList)||D1 p.code)&&A0q p.scope&&N9 0 10000000000000 p.least&&B1Z p):=by
 by_cases hk:1≤p.kind∧p.kind≤7
 ·have e:N9 0 1000 p.prio=(!decide (p.prio<0)&&!decide (p.prio>1000)):=by
   unfold N9;congr 1<;>(rw [←decide_not];exact D8s.2 (by omega))
  unfold H2 A7s A2K N2
  rw [C1I p hk,e,D7m (show p.kind≥1 from hk.1),D7m (show p.kind<8 by omega),D6L (show ¬ p.kind<1 by omega),D6L (show ¬ p.kind>7 by omega)]
  simp only [D6Y,D7u,D7j,Bool.and_assoc]
 ·have:H2 p=false:=by
   unfold H2
   rw [show (decide (p.kind≥1)&&decide (p.kind<8))=false from by rw [D8M,D6E,D6E];omega];rfl
  rw [this]
  by_cases h:p.kind<1
  ·rw [D7m h];simp
  ·rw [D7m (show p.kind>7 by omega)];simp
set_option maxHeartbeats 8000000 in
theorem B6U (p:B1) (hp:A2X p) (st:St):S P 194 [B7 p] st fun v st'=>v=.bool (H2 p)∧st'=st:=by
 have n1:=A2m p.id hp.id st
 have n2:=A2m p.group hp.group st
 have n3:=A2m p.code hp.code st
 have n4:=B6V p.scope hp.scope st
 have n5:=A2R p.least 10000000000000 st
 have n6:=A2R p.amount 10000000000000 st
 have n7:=C4P p.parts hp.parts hp.part st
 have n8:=C4R p.tiers hp.tiers st
 rw [C2A] at n8
 rw [show (L3 p.parts (fun _ x=>A0W x)&&(decide ((p.parts.length:Int)≥1)&&decide ((p.parts.length:Int)≤3)))=A6n p.parts from rfl] at n7
 have hC:=C1H p
 generalize hb5:N9 0 10000000000000 p.least=b5 at *
 generalize hb6:N9 0 10000000000000 p.amount=b6 at *
 generalize hb7:A6n p.parts=b7 at *
 generalize hb8:A0d p.tiers=b8 at *
 generalize H2 p=R at *
 clear hp hb5
 obtain ⟨id,kind,prio,group,code,closes,scope,least,rate,amount,buy,get,parts,tiers⟩:=p
 simp only at *
 generalize D1 id=b1 at *
 generalize D1 group=b2 at *
 generalize D1 code=b3 at *
 generalize A0q scope=b4 at *
 obtain ⟨H,hH⟩:∃ H:Bool,H=(b1&&!decide (kind<1)&&!decide (kind>7)&&!decide (prio<0)&&!decide (prio>1000)&&((group.toList==(⟨#[]⟩:C8).toList)||b2)&&((code.toList==(⟨#[]⟩:C8).toList)||b3)&&b4&&b5):=⟨_,rfl⟩
 rw [←hH] at hC
 obtain ⟨q,hq⟩:∃ q:B1,q=⟨id,kind,prio,group,code,closes,scope,least,rate,amount,buy,get,parts,tiers⟩:=⟨_,rfl⟩
 have hB:∀ h:buy=q.buy,True:=fun _=>trivial
 refine C2W [1] [(1,[1,67]),(3,[1,3,4,5,6,7]),(4,[1,3,4,5,6,7,8]),(5,[1,3,4,5,6,7,8,9])] A7o mixed Tryz.func194 (by rfl) rfl rfl rfl ?_;conv=>whnf
 refine ⟨fun us s=>us=[.fptr (B7 ⟨id,kind,prio,group,code,closes,scope,least,rate,amount,buy,get,parts,tiers⟩) 0,.bool (!H)]∧s=st,?_,?_⟩
 ·repeat' ((conv=>whnf);first | refine B3 n1 ?_ | refine B3 n2 ?_ | refine B3 n3 ?_ | refine B3 n4 ?_ | refine B3 n5 ?_ | refine ⟨rfl,?_⟩ | (refine B9 (fun h=>?_) (fun h=>?_)<;>rw [h]))
  all_goals (refine ⟨?_,rfl⟩;refine D8E (fun b=>[_,AV.bool b]) ?_;rw [hH];clear hH hC n1 n2 n3 n4 n5 n6 n7 n8)
  all_goals (simp only [D6X,D7q] at *;simp only [*,D6Y,D7c,D7u,D7h,D7v,D7w,D7z,D7r,D7s,D7j,D7Y])
 rintro vs s ⟨rfl,rfl⟩
 conv=>whnf
 refine B9 (fun h=>?_) (fun h=>?_)<;>rw [h]
 ·conv=>whnf
  exact ⟨by rw [hC,show H=false by simpa using h];rfl,rfl⟩
 have hT:R=B1Z q:=by rw [hC,show H=true by simpa using h,hq];rfl
 clear hC h n1 n2 n3 n4 n5 hH
 conv=>whnf
 refine ⟨fun us s'=>us=[.fptr (B7 ⟨id,kind,prio,group,code,closes,scope,least,rate,amount,buy,get,parts,tiers⟩) 0,.bool (rate==0),.bool (amount==0),.bool (buy==0&&get==0),.bool ((parts.length:Int)==0),.bool ((tiers.length:Int)==0)]∧s'=s,?_,?_⟩
 ·refine .inl ⟨[],[],List.range 27,by kernel_rfl,?_⟩
  repeat' ((conv=>whnf);first | refine ⟨rfl,?_⟩ | (refine B9 (fun h=>?_) (fun h=>?_)<;>rw [h]))
  all_goals rfl
 rintro vs s ⟨rfl,rfl⟩
 conv=>whnf
 refine ⟨fun us s'=>us=[.fptr (B7 ⟨id,kind,prio,group,code,closes,scope,least,rate,amount,buy,get,parts,tiers⟩) 0,.bool (rate==0),.bool (amount==0),.bool (buy==0&&get==0),.bool ((parts.length:Int)==0),.bool ((tiers.length:Int)==0),.bool ((scope.skus.length:Int)==0&&(scope.cats.length:Int)==0)]∧s'=s,?_,?_⟩
 ·repeat' ((conv=>whnf);first | refine ⟨rfl,?_⟩ | (refine B9 (fun h=>?_) (fun h=>?_)<;>rw [h]))
  all_goals rfl
 rintro vs s ⟨rfl,rfl⟩
 conv=>whnf
 refine ⟨fun us s'=>us=[.fptr (B7 ⟨id,kind,prio,group,code,closes,scope,least,rate,amount,buy,get,parts,tiers⟩) 0,.bool (rate==0),.bool (amount==0),.bool (buy==0&&get==0),.bool ((parts.length:Int)==0),.bool ((tiers.length:Int)==0),.bool ((scope.skus.length:Int)==0&&(scope.cats.length:Int)==0),.bool (decide (rate≥1)&&decide (rate≤10000))]∧s'=s,?_,?_⟩
 ·repeat' ((conv=>whnf);first | refine ⟨rfl,?_⟩ | (refine B9 (fun h=>?_) (fun h=>?_)<;>rw [h]))
  all_goals rfl
 rintro vs s ⟨rfl,rfl⟩
 subst hq
 unfold B1Z at hT
 simp only [hb6,hb7,hb8] at hT
 generalize (rate==0)=a1 at *
 generalize (amount==0)=a2 at *
 generalize (buy==0&&get==0)=a3 at *
 generalize ((parts.length:Int)==0)=a4 at *
 generalize ((tiers.length:Int)==0)=a5 at *
 generalize ((scope.skus.length:Int)==0&&(scope.cats.length:Int)==0)=a6 at *
 generalize (decide (rate≥1)&&decide (rate≤10000))=a7 at *
 have hk:kind=1∨kind=2∨kind=3∨kind=4∨kind=7∨(kind≠1∧kind≠2∧kind≠3∧kind≠4∧kind≠7):=by omega
 rcases hk with rfl | rfl | rfl | rfl | rfl | ⟨k1,k2,k3,k4,k7⟩
 case' inr.inr.inr.inr.inr =>
  rw [if_neg k1,if_neg k2,if_neg k3,if_neg k4,if_neg k7] at hT
  have e1:=D8t k1
  have e2:=D8t k2
  have e3:=D8t k3
  have e4:=D8t k4
  have e7:=D8t k7
 all_goals try simp only [if_true,D9l,Int.reduceEq] at hT
 all_goals repeat' ((conv=>whnf);first | refine B3 n6 ?_ | refine B3 n7 ?_ | refine B3 n8 ?_ | rw [e1] | rw [e2] | rw [e3] | rw [e4] | rw [e7] | (refine B9 (fun h=>?_) (fun h=>?_)<;>rw [h]))
 all_goals (conv=>whnf)
 all_goals (refine ⟨?_,rfl⟩;show AV.bool _=AV.bool _;rw [hT];clear hT n6 n7 n8;try simp only [D6X,D7q] at *)
 all_goals (simp only [*,D6Y,D7c,D7u,D7h,D7v,D7w,D7z,D7r,D7s,D7j,D7Y])
theorem A7S (p:B1) (hp:A2X p) (hC:H2 p=true) (st:St):S P 194 [B7 p] st fun v st'=>v=.bool true∧st'=st:=by
 have h:=B6U p hp st
 rw [hC] at h;exact h
end Go.Proofs.YtaapofnkmpiknaaGreat
