/- Part 24 of the proof: contracts of the functions that the law reaches -/
import Derived.Test.YthdimklenlikgaaGreatQa23
set_option maxRecDepth 100000
set_option linter.unusedVariables false
set_option linter.unusedSimpArgs false
namespace Go.Proofs.YthdimklenlikgaaGreat
open Go Go.Ab
structure C4i where
 goods:Int
 tax:Int
 ship:Int
 shipTax:Int
 fee:Int
def C3N (b:C4i):AV:=.agg [eI b.goods,eI b.tax,eI b.ship,eI b.shipTax,eI b.fee]
def A0l (q:A4f):AV:=.agg [A6 q.goods,A6 q.taxes,eI q.ship,eI q.shipTax,eI q.total,B2 2 A3i q.deals]
def J7 (r:I4) (l:List G4):List D6:=(C2 r.items l).map Ab.Item.cat
def B7b (v:B4U) (deals:List A0D):A4f:=⟨v.goods,v.taxes,v.ship,v.shipTax,A5 v.goods+A5 v.taxes+v.ship+v.shipTax,deals⟩
def A8a (r:I4) (z:K3) (exempt:Bool) (l:List G4) (Pr:A2e):A4f:=B7b (K9 r.tax z exempt (J7 r l) Pr.nets Pr.ship) Pr.deals
def B3r (q:A4f):C4i:=⟨A5 q.goods,A5 q.taxes,q.ship,q.shipTax,0⟩
theorem B6h {l:List Int} {B:Int} (hB:0≤B) (h:∀ x∈l,-B≤x∧x≤B) : -(l.length * B)≤A5 l∧A5 l≤l.length * B:=by
 induction l with
 | nil=>exact ⟨by show -(((0:Nat):Int) * B)≤0;rw [Int.natCast_zero,Int.zero_mul];omega,by show (0:Int)≤((0:Nat):Int) * B;rw [Int.natCast_zero,Int.zero_mul];omega⟩
 | cons x l ih =>
  have h1:=ih fun y hy=>h y (List.mem_cons_of_mem _ hy)
  have h2:=h x (List.mem_cons_self ..)
  rw [K1,List.length_cons,show ((l.length+1:Nat):Int) * B=l.length * B+B by rw [Int.natCast_add,Int.add_mul];simp]
  omega
structure J3 (l:List Int):Prop where
 len:l.length≤1000
 all:∀ x∈l,-10000000000000≤x∧x≤10000000000000
theorem J3.take {l:List Int} (h:J3 l) (i:Nat) : -10000000000000000≤A5 (l.take i)∧A5 (l.take i)≤10000000000000000:=by
 have h1:=B6h (l:=l.take i) (B:=10000000000000) (by decide) fun x hx=>h.all x (List.mem_of_mem_take hx)
 have h2:(l.take i).length≤1000:=by rw [List.length_take];have:=h.len;omega
 omega
theorem J3.sum {l:List Int} (h:J3 l) : -10000000000000000≤A5 l∧A5 l≤10000000000000000:=by
 have:=h.take l.length
 rwa [List.take_length] at this
theorem J3.step {l:List Int} (h:J3 l) {i:Nat} (hi:i<l.length):IntKind.i64.wrap (A5 (l.take i)+gI l i)=A5 (l.take (i+1)):=by
 have h1:=h.take (i+1)
 rw [L3 hi] at h1 ⊢
 exact A9 (by omega) (by omega)
structure A0i (t:Z9) (z:K3) (cats:List D6) (nets:List Int) (ship:Int):Prop where
 tax:taxC t=true
 zone:U3 z=true
 cats:cats.length=nets.length
 nets:A3E nets
 ship:0≤ship∧ship≤10000000000000
structure B6x (q:A4f) (n:Nat):Prop where
 goods:J3 q.goods
 taxes:J3 q.taxes
 ngoods:q.goods.length=n
 ntaxes:q.taxes.length=n
 pos:∀ x∈q.taxes,0≤x
 ship:0≤q.ship∧q.ship≤10000000000000
 shipTax:0≤q.shipTax∧q.shipTax≤10000000000000
 total:q.total=A5 q.goods+A5 q.taxes+q.ship+q.shipTax
theorem A3s {t:Z9} {z:K3} {cats:List D6} {nets:List Int} {ship:Int} (h:A0i t z cats nets ship):(cats.map (E6 z)).length=nets.length∧∀ x∈cats.map (E6 z),0≤x∧x≤10000:=by
 refine ⟨by rw [List.length_map];exact h.cats,fun x hx=>?_⟩
 obtain ⟨c,_,rfl⟩:=List.mem_map.1 hx
 exact B4o h.zone c
theorem B2o {t:Z9} {z:K3} {cats:List D6} {nets:List Int} {ship:Int} (h:A0i t z cats nets ship) (exempt:Bool) (deals:List A0D):B6x (B7b (K9 t z exempt cats nets ship) deals) nets.length:=by
 obtain ⟨r1,r2⟩:=A3s h
 obtain ⟨t1,t2⟩:=A7t (t:=t) h.nets r1 r2
 have hz:=(A5p h.zone).2.1
 have hm:=A2F (t:=t) h.ship.1 hz
 have hs:=h.ship
 have hn:=h.nets
 have hnx:∀ i,i<nets.length→0≤gI nets i∧gI nets i≤10000000000000:=fun i hi=>by
  have h1:=hn.pos _ (show gI nets i∈nets from B3 hi)
  have h2:=I5 hn.pos (show gI nets i∈nets from B3 hi)
  have h3:=hn.sum
  exact ⟨h1,by omega⟩
 have htx:∀ i,i<nets.length→0≤gI (I2 t (cats.map (E6 z)) nets) i∧gI (I2 t (cats.map (E6 z)) nets) i≤10000000000000:=fun i hi=>t2 _ (B3 (by omega))
 have hnl:=hn.len
 have gl:(A3Q t (I2 t (cats.map (E6 z)) nets) nets).length=nets.length:=by unfold A3Q;rw [List.length_map,List.length_range]
 refine ⟨⟨by show (A3Q _ _ _).length≤_;omega,fun x hx=>?_⟩,⟨?_,fun x hx=>?_⟩,gl,?_,fun x hx=>?_,?_,?_,rfl⟩
 ·obtain ⟨i,hi,rfl⟩:=List.mem_map.1 (show x∈A3Q _ _ _ from hx)
  have hi:=List.mem_range.1 hi
  have h1:=hnx i hi
  have h2:=htx i hi
  split<;>omega
 ·show (if exempt=true then List.replicate nets.length 0 else I2 t (cats.map (E6 z)) nets).length≤1000
  split
  ·rw [List.length_replicate];omega
  ·omega
 ·have hx:x∈(if exempt=true then List.replicate nets.length 0 else I2 t (cats.map (E6 z)) nets):=hx
  split at hx
  ·rw [(List.mem_replicate.1 hx).2];omega
  ·have:=t2 x hx;omega
 ·show (if exempt=true then List.replicate nets.length 0 else I2 t (cats.map (E6 z)) nets).length=nets.length
  split
  ·exact List.length_replicate
  ·exact t1
 ·have hx:x∈(if exempt=true then List.replicate nets.length 0 else I2 t (cats.map (E6 z)) nets):=hx
  split at hx
  ·rw [(List.mem_replicate.1 hx).2];exact Int.le_refl _
  ·exact (t2 x hx).1
 ·show 0≤(if t.incl=true then ship - B6 t ship z.ship else ship)∧(if t.incl=true then ship - B6 t ship z.ship else ship)≤10000000000000
  split<;>omega
 ·show 0≤(if exempt=true then 0 else B6 t ship z.ship)∧(if exempt=true then 0 else B6 t ship z.ship)≤10000000000000
  split<;>omega
theorem B1s {t:Z9} {z:K3} {cats:List D6} {nets:List Int} {ship:Int} (h:A0i t z cats nets ship) (exempt:Bool) :
  A5 (K9 t z exempt cats nets ship).goods≤10000000000000∧-10000000000000≤A5 (K9 t z exempt cats nets ship).goods∧A5 (K9 t z exempt cats nets ship).taxes≤10000000000000:=by
 obtain ⟨r1,r2⟩:=A3s h
 obtain ⟨t1,t2⟩:=A7t (t:=t) h.nets r1 r2
 have hs:=h.nets.sum
 have hle:∀ i,i<nets.length→gI (I2 t (cats.map (E6 z)) nets) i≤gI nets i:=fun i hi=>C1z h.nets r1 r2 hi
 have h0:∀ i,i<nets.length→0≤gI (I2 t (cats.map (E6 z)) nets) i:=fun i hi=>(t2 _ (B3 (by omega))).1
 have hn0:∀ i,i<nets.length→0≤gI nets i:=fun i hi=>h.nets.pos _ (B3 hi)
 have hrn:=A4Y nets
 have hg:A5 (A3Q t (I2 t (cats.map (E6 z)) nets) nets)≤A5 ((List.range nets.length).map (gI nets)):=by
  refine A5f _ _ _ fun i hi=>?_
  have:=h0 i hi
  split<;>omega
 have hg0:0≤A5 (A3Q t (I2 t (cats.map (E6 z)) nets) nets):=C4 fun x hx=>by
  obtain ⟨i,hi,rfl⟩:=List.mem_map.1 hx
  have hi:=List.mem_range.1 hi
  have h1:=hle i hi
  have h2:=hn0 i hi
  split<;>omega
 have ht:A5 (I2 t (cats.map (E6 z)) nets)≤A5 ((List.range nets.length).map (gI nets)):=by
  have e:=A4Y (I2 t (cats.map (E6 z)) nets)
  rw [t1] at e
  rw [←e]
  exact A5f _ _ _ fun i hi=>hle i hi
 rw [hrn] at hg ht
 refine ⟨by show A5 (A3Q _ _ _)≤_;omega,by show _≤A5 (A3Q _ _ _);omega,?_⟩
 show A5 (if exempt=true then List.replicate nets.length 0 else I2 t (cats.map (E6 z)) nets)≤_
 split
 ·have e:∀ n,A5 (List.replicate n (0:Int))=0:=fun n=>by
   induction n with
   | zero=>rfl
   | succ n ih=>rw [List.replicate_succ,K1,ih];rfl
  rw [e];omega
 ·omega
theorem B9f (t:Z9) {k:Nat} (hk:k<3):S4 (K2 t).zones (O9 k)=some (E0 t.zones k):=by
 have e:∀ j,(E0 t.zones j).name=O9 j:=fun j=>by unfold E0;split<;>rfl
 have h:(K2 t).zones=[E0 t.zones 0,E0 t.zones 1,E0 t.zones 2]:=rfl
 have d01:((O9 (0:Nat)).toList==(O9 (1:Nat)).toList)=false:=by kernel_rfl
 have d02:((O9 (0:Nat)).toList==(O9 (2:Nat)).toList)=false:=by kernel_rfl
 have d12:((O9 (1:Nat)).toList==(O9 (2:Nat)).toList)=false:=by kernel_rfl
 unfold S4
 rw [h]
 rcases lt3 hk with rfl | rfl | rfl
 ·rw [List.find?_cons_of_pos (by rw [e];exact beq_self_eq_true _)]
 ·rw [List.find?_cons_of_neg (by rw [e,d01];simp),List.find?_cons_of_pos (by rw [e];exact beq_self_eq_true _)]
 ·rw [List.find?_cons_of_neg (by rw [e,d02];simp),List.find?_cons_of_neg (by rw [e,d12];simp),List.find?_cons_of_pos (by rw [e];exact beq_self_eq_true _)]
theorem B5n {t:Z9} (h:taxC t=true) {s:D6} {z:K3} (hz:S4 t.zones s=some z):U3 z=true:=by
 unfold taxC at h
 simp only [Bool.and_eq_true] at h
 obtain ⟨k,hk,rfl⟩:=E8 (List.mem_of_find?_eq_some hz)
 exact A3f.1 h.2.1 k hk
end Go.Proofs.YthdimklenlikgaaGreat
namespace Go.Proofs.YthdimklenlikgaaGreat
open Go Go.Ab
attribute [local irreducible] upd del
theorem A8R {α : Type} [Inhabited α] {l:List α} {p : α→Bool} {i:Nat} (hi:i<l.length) (h:p (l.getD i default)=true) (hno:∀ j,j<i→p (l.getD j default)=false):l.find? p=some (l.getD i default):=by
 have g:∀ j (hj:j<l.length),l.getD j default=l[j]:=fun j hj=>by rw [List.getD_eq_getElem?_getD,List.getElem?_eq_getElem hj];rfl
 rw [List.find?_eq_some_iff_getElem]
 refine ⟨h,i,hi,(g i hi).symm,fun j hj=>?_⟩
 have:=hno j hj
 rw [g j (by omega)] at this
 rw [this];rfl
theorem A8S {α : Type} [Inhabited α] {l:List α} {p : α→Bool} (hno:∀ j,j<l.length→p (l.getD j default)=false):l.find? p=none:=by
 rw [List.find?_eq_none]
 intro x hx
 obtain ⟨j,hj,rfl⟩:=E8 hx
 rw [hno j hj];simp
theorem B5V (z:K3) (c:D6) (hl:z.rates.length≤100000) (st:St):S P 213 [Q3 z,eS c] st fun v st'=>v=eI (E6 z c)∧st'=st:=by
 refine A8 [2,6] B8 mixed Tryz.func213 (by rfl) rfl rfl rfl ?_;conv=>whnf
 refine lp z.rates.length [1,2,8,9,10] (fun i vs t=>(∀ j,j<i→((z.rates.getD j default).cat.toList==c.toList)=false)∧vs=[eS c,.fptr (Q3 z) 0,B2 2 A0c z.rates,eI z.rates.length,eI i]∧t=st) ?_ ?_
 ·conv=>whnf
  exact ⟨fun j hj=>absurd hj (by omega),rfl,rfl⟩
 ·rintro i vs t hi ⟨hno,rfl,rfl⟩
  conv=>whnf
  cases h1:decide ((i:Int)<(z.rates.length:Int))
  ·obtain rfl:=C6 h1 hi
   have hf:E6 z c=z.rest:=by unfold E6;rw [A8S hno]
   rw [hf];conv=>whnf
   exact ⟨rfl,rfl⟩
  ·have hi':=E4 h1
   conv=>whnf
   refine ⟨rfl,⟨by omega,by omega⟩,?_⟩;conv=>whnf
   refine C3 (fun h2=>?_) (fun h2=>?_)<;>rw [h2]
   ·have hf:E6 z c=(z.rates.getD (i:Int).toNat default).rate:=by unfold E6;rw [A8R (p:=fun x:G8=>x.cat.toList==c.toList) hi' h2 hno];rfl
    rw [hf];conv=>whnf
    exact ⟨rfl,rfl⟩
   ·conv=>whnf
    refine ⟨rfl,?_⟩;conv=>whnf
    exact nx hi' ⟨J8 hno h2,by rw [B9 (by omega)],rfl⟩
theorem B2c (l:List G8) (hl:l.length≤100000) (st:St):S P 265 [B2 2 A0c l] st fun v st'=>v=B2 2 A0c l∧st'=st:=by
 refine A0Z (ty:=218) ?_
 refine A8 [] B8 mixed Tryz.func265 (by rfl) rfl rfl rfl ?_
 cases l with
 | nil =>
  conv=>whnf
  refine ⟨?_,?_⟩
  ·conv=>whnf
   exact M8.start _ _ _ _
  ·conv=>whnf
   refine apE rfl rfl rfl rfl rfl (by show 0 * 24≤_;omega) (fun _=>?_) (fun h=>absurd h (by show ¬ 0<0;omega));conv=>whnf
   exact M8.start _ _ _ _
 | cons u us =>
  conv=>whnf
  refine M8.apps (n:=0) (m:=us.length+1) (q:=C3c) (f:=fun k=>A0c ((u::us).getD k default)) rfl rfl rfl rfl rfl (fun i hi=>by rw [Nat.zero_add]) (by show (0+(us.length+1)) * 24≤140737488355328;simp only [List.length_cons] at hl;omega) (M8.start _ _ _ _) (fun sv' st'' hc'=>?_);conv=>whnf
  rw [Nat.zero_add] at hc'
  exact hc'
theorem B3v (z:K3) (hl:z.rates.length≤100000) (st:St):S P 193 [Q3 z] st fun v st'=>v=Q3 z∧st'=st:=by
 have hc:=fun s=>B2c z.rates hl s
 refine A1u ?_
 refine A8 [] B8 mixed Tryz.func193 (by rfl) rfl rfl rfl ?_;conv=>whnf
 intro b1 h1;conv=>whnf
 intro b2 h2
 have h12:b1≠b2:=fun e=>by subst e;rw [A0] at h2;cases h2
 conv=>whnf
 refine D9 (by rw [A4 h12];exact A0 ..) rfl (by omega) rfl ?_;conv=>whnf
 refine A7 (hc _) ?_;conv=>whnf
 refine G6 (by rw [A4 h12];exact A0 ..) rfl (by omega) rfl (by rfl) ?_;conv=>whnf
 refine D9 (A0 ..) rfl (by omega) (A2 ..) ?_;conv=>whnf
 refine G6 (by rw [A4 h12.symm];exact A0 ..) rfl (by omega) rfl (by rfl) ?_;conv=>whnf
 refine D9 (A0 ..) rfl (by omega) (A2 ..) ?_;conv=>whnf
 have hn2:st b2=none:=by rw [A4 h12.symm] at h2;exact h2
 exact ⟨rfl,((((D7.refl st).upd h1).upd h2).over h1).over hn2⟩
def B7w:K3:=⟨⟨#[]⟩,[],0,0⟩
theorem B0k (t:Z9) (s:D6) (hl:t.zones.length≤100000) (hr:∀ z∈t.zones,z.rates.length≤100000) (st:St) :
  S P 212 [L7 t,eS s] st fun v st'=>v=.tuple [Q3 ((S4 t.zones s).getD B7w),.bool (S4 t.zones s).isSome]∧st'=st:=by
 refine S.post (post:=fun v s'=>D7 st s'∧((∃ z,S4 t.zones s=some z∧v=.tuple [Q3 z,.bool true])∨(S4 t.zones s=none∧v=.tuple [.agg [eS ⟨#[]⟩,.emp,eI 0,eI 0],.bool false]))) ?_ (fun v s' ⟨hs,h⟩=>⟨_,st,⟨rfl,rfl⟩,by
  rcases h with ⟨z,h1,rfl⟩ | ⟨h1,rfl⟩
  ·rw [h1];exact hs.shift _
  ·rw [h1]
   exact (B0.tuple (B0.cons (Le.shift (Le.agg (F7.cons (Le.refl _) (F7.cons (Le.emp _ _) (F7.refl _)))) _) (B0.keep _ _)) rfl).trans (hs.shift _)⟩)
 refine A8 [2,7] B8 mixed Tryz.func212 (by rfl) rfl rfl rfl ?_;conv=>whnf
 intro b4 hb4;conv=>whnf
 refine lp t.zones.length [1,4,9,10,11] (fun i vs u=>(∀ j,j<i→((t.zones.getD j default).name.toList==s.toList)=false)∧vs=[eS s,.optr 4 b4 0 0,B2 4 Q3 t.zones,eI t.zones.length,eI i]∧u=upd st b4 ⟨184,4,1,fun _=>G9 B8t.zero⟩) ?_ ?_
 ·conv=>whnf
  exact ⟨fun j hj=>absurd hj (by omega),rfl,rfl⟩
 ·rintro i vs u hi ⟨hno,rfl,rfl⟩
  conv=>whnf
  cases h1:decide ((i:Int)<(t.zones.length:Int))
  ·obtain rfl:=C6 h1 hi
   have hf:S4 t.zones s=none:=A8S hno
   conv=>whnf
   refine G6 (A0 ..) rfl (by omega) rfl (by rfl) ?_;conv=>whnf
   refine D9 (A0 ..) rfl (by omega) (A2 ..) ?_;conv=>whnf
   exact ⟨((D7.refl st).upd hb4).over hb4,.inr ⟨hf,rfl⟩⟩
  ·have hi':=E4 h1
   conv=>whnf
   refine ⟨rfl,⟨by omega,by omega⟩,?_⟩;conv=>whnf
   refine C3 (fun h2=>?_) (fun h2=>?_)<;>rw [h2]
   ·have hf:S4 t.zones s=some (t.zones.getD (i:Int).toNat default):=A8R (p:=fun z:K3=>z.name.toList==s.toList) hi' h2 hno
    have hc:=fun u=>B3v (t.zones.getD (i:Int).toNat default) (hr _ (B3 hi')) u
    generalize t.zones.getD (i:Int).toNat default=z at hf hc
    conv=>whnf
    refine A7 (hc _) ?_;conv=>whnf
    refine G6 (A0 ..) rfl (by omega) rfl (by rfl) ?_;conv=>whnf
    refine D9 (A0 ..) rfl (by omega) (A2 ..) ?_;conv=>whnf
    exact ⟨((D7.refl st).upd hb4).over hb4,.inl ⟨z,hf,rfl⟩⟩
   ·conv=>whnf
    refine ⟨rfl,?_⟩;conv=>whnf
    exact nx hi' ⟨J8 hno h2,by rw [B9 (by omega)],rfl⟩
theorem A6k (x:Int) (st:St):S P 282 [eI x] st fun v st'=>v=.bool (R4 0 10000000000000 x)∧st'=st:=by
 refine A8 [] B8 mixed Tryz.func282 (by rfl) rfl rfl rfl ?_
 repeat' ((conv=>whnf);first | (refine C3 (fun h=>?_) (fun h=>?_)<;>rw [h]))
 all_goals (conv=>whnf)
 all_goals (refine ⟨?_,rfl⟩;show AV.bool _=AV.bool _;congr 1)
 all_goals (simp only [R4, *,Bool.true_and,Bool.false_and];try rfl)
theorem B5z (t:Z9) (x rate:Int) (hr:0≤rate∧rate≤10000) (st:St):S P 216 [L7 t,eI x,eI rate] st fun v st'=>v=eI (B6 t x rate)∧st'=st:=by
 have hM:B6 t x rate=(U2 x rate (A7H t rate) t.round).1:=rfl
 have hw:IntKind.i64.wrap (10000+rate)=10000+rate:=A9 (by omega) (by omega)
 refine A8 [3] B8 mixed Tryz.func216 (by rfl) rfl rfl rfl ?_;conv=>whnf
 cases hi:t.incl
 ·have hd:A7H t rate=10000:=by unfold A7H;rw [if_neg (by rw [hi];simp)];rfl
  conv=>whnf
  refine A7 (B3c x rate 10000 t.round st) ?_
  rw [hM,hd]
  generalize U2 x rate 10000 t.round=Y
  conv=>whnf
  exact ⟨rfl,rfl⟩
 ·have hd:A7H t rate=10000+rate:=by unfold A7H;rw [if_pos hi]
  conv=>whnf
  rw [hw]
  refine A7 (B3c x rate (10000+rate) t.round st) ?_
  rw [hM,hd]
  generalize U2 x rate (10000+rate) t.round=Y
  conv=>whnf
  exact ⟨rfl,rfl⟩
theorem A9F (t:Z9) (rates nets:List Int) (i:Nat):(List.range (i+1)).map (fun i=>B6 t (gI nets i) (gI rates i))=(List.range i).map (fun i=>B6 t (gI nets i) (gI rates i))++[B6 t (gI nets i) (gI rates i)]:=by rw [List.range_succ,List.map_append];rfl
theorem B3u (t:Z9) (rates nets:List Int) (hn:nets.length≤1000) (hl:rates.length=nets.length) (hq:∀ x∈rates,0≤x∧x≤10000) (st:St):S P 214 [L7 t,A6 rates,A6 nets] st fun v st'=>v=A6 (Q5 t rates nets)∧st'=st:=by
 refine A0Z (ty:=2) ?_
 have hL:Q5 t rates nets=(List.range nets.length).map fun i=>B6 t (gI nets i) (gI rates i):=rfl
 rw [hL]
 refine A8 [3] B8 mixed Tryz.func214 (by rfl) rfl rfl rfl ?_;conv=>whnf
 refine lp nets.length [1,3,7,10,11,12] (fun i vs s=>∃ sv,vs=[A6 rates,.fptr (L7 t) 0,sv,A6 nets,eI nets.length,eI i]∧F2 2 1 eI ((List.range i).map fun i=>B6 t (gI nets i) (gI rates i)) st sv s) ?_ ?_
 ·conv=>whnf
  exact ⟨.emp,rfl,F2.start _ _ _ _⟩
 ·rintro i vs s hi ⟨sv,rfl,hc⟩
  conv=>whnf
  cases h1:decide ((i:Int)<(nets.length:Int))
  ·obtain rfl:=C6 h1 hi
   conv=>whnf
   exact hc
  ·have hi':=E4 h1
   have hm:=fun u=>B5z t (gI nets (i:Int).toNat) (gI rates (i:Int).toNat) (hq _ (B3 (by show i<_;omega))) u
   have hs:=A9F t rates nets i
   have hln:((List.range i).map fun i=>B6 t (gI nets i) (gI rates i)).length=i:=by rw [List.length_map,List.length_range]
   conv=>whnf
   refine ⟨rfl,⟨by omega,by omega⟩,?_⟩;conv=>whnf
   refine ⟨[8,9],[],List.range 11,by kernel_rfl,?_⟩;conv=>whnf
   refine ⟨rfl,⟨by omega,by omega⟩,?_⟩;conv=>whnf
   refine ⟨_,D1 (hm _),?_⟩
   have hy:B6 t (gI nets i) (gI rates i)=B6 t (gI nets (i:Int).toNat) (gI rates (i:Int).toNat):=rfl
   rw [hy] at hs
   generalize B6 t (gI nets (i:Int).toNat) (gI rates (i:Int).toNat)=Y at hs
   conv=>whnf
   refine F2.app (y:=Y) (q:=r2) rfl rfl rfl rfl rfl (by rfl) (by rw [hln];show (i+1) * 8≤140737488355328;omega) hc (fun sv' t' hc'=>?_);conv=>whnf
   refine ⟨rfl,?_⟩;conv=>whnf
   exact nx hi' ⟨sv',by rw [B9 (by omega)],by rw [hs];exact hc'⟩
theorem B6S {t:Z9} {z:K3} {cats:List D6} {nets:List Int} {ship:Int} (h:A0i t z cats nets ship) (st:St):S P 211 [L7 t,D3 cats,A6 nets,eI ship] st fun v st'=>v=.bool true∧st'=st:=by
 have hn:=h.nets.len
 have hs:=h.nets.sum
 have hp:=h.nets.pos
 have hc:=h.cats
 have hT:=fun s=>C4f t s
 have hA:=fun s=>A6k ship s
 rw [h.tax] at hT
 rw [show R4 0 10000000000000 ship=true from J2.2 h.ship] at hA
 have htk:∀ i,0≤A5 (nets.take i)∧A5 (nets.take i)≤10000000000000:=fun i=>by
  have:=J9 hp i
  exact ⟨C4 fun x hx=>hp x (List.mem_of_mem_take hx),by omega⟩
 refine A8 [4] B8 mixed Tryz.func211 (by rfl) rfl rfl rfl ?_;conv=>whnf
 refine A7 (hT _) ?_;conv=>whnf
 rw [hc,show ((nets.length:Int) != (nets.length:Int))=false from bne_self_eq_false _];conv=>whnf
 refine C3 (fun h1=>absurd (of_decide_eq_true h1) (by omega)) (fun h1=>?_)
 rw [h1];conv=>whnf
 refine A7 (hA _) ?_;conv=>whnf
 refine lp nets.length [9,32,33,34] (fun i vs s=>vs=[eI (A5 (nets.take i)),A6 nets,eI nets.length,eI i]∧s=st) ?_ ?_
 ·conv=>whnf
  exact ⟨rfl,rfl⟩
 ·rintro i vs s hi ⟨rfl,rfl⟩
  conv=>whnf
  cases h2:decide ((i:Int)<(nets.length:Int))
  ·obtain rfl:=C6 h2 hi
   have hB:=fun s=>A6k (A5 (nets.take nets.length)) s
   rw [show R4 0 10000000000000 (A5 (nets.take nets.length))=true from J2.2 (htk _)] at hB;conv=>whnf
   refine A7 (hB _) ?_;conv=>whnf
   exact ⟨rfl,rfl⟩
  ·have hi':=E4 h2
   have hx:0≤gI nets (i:Int).toNat:=hp _ (B3 hi')
   have hx2:gI nets (i:Int).toNat≤A5 nets:=I5 hp (B3 hi')
   have hB:=fun s=>A6k (gI nets (i:Int).toNat) s
   rw [show R4 0 10000000000000 (gI nets (i:Int).toNat)=true from J2.2 (by omega)] at hB
   have hst:A5 (nets.take (i+1))=A5 (nets.take i)+gI nets (i:Int).toNat:=L3 hi'
   have h3:=htk (i+1)
   have hw:IntKind.i64.wrap (A5 (nets.take i)+gI nets (i:Int).toNat)=A5 (nets.take (i+1)):=by rw [hst] at h3 ⊢;exact A9 (by omega) (by omega)
   conv=>whnf
   refine ⟨rfl,⟨by omega,by omega⟩,?_⟩;conv=>whnf
   refine A7 (hB _) ?_;conv=>whnf
   rw [hw]
   refine ⟨rfl,?_⟩;conv=>whnf
   exact nx hi' ⟨by rw [B9 (by omega)],rfl⟩
def A0x (o:List Int) (a:Nat) (x:Int):List Int:=o.take a++x::o.drop a
theorem R5 {o:List Int} {a:Nat} {x:Int} (h:a≤o.length):(A0x o a x).length=o.length+1:=by
 unfold A0x;simp;omega
theorem A7M {o:List Int} {a:Nat} {x:Int} (h:a≤o.length) {j:Nat} (hj:j<o.length+1):gI (A0x o a x) j=if j<a then gI o j else if j=a then x else gI o (j - 1):=by
 unfold A0x gI
 simp only [List.getD_eq_getElem?_getD]
 by_cases h1:j<a
 ·rw [if_pos h1,List.getElem?_append_left (by rw [List.length_take];omega),List.getElem?_take_of_lt h1]
 ·rw [if_neg h1,List.getElem?_append_right (by rw [List.length_take];omega),List.length_take,Nat.min_eq_left h]
  by_cases h2:j=a
  ·rw [if_pos h2,h2,Nat.sub_self];rfl
  ·rw [if_neg h2,show j - a=(j - 1 - a)+1 by omega,List.getElem?_cons_succ,List.getElem?_drop,show a+(j - 1 - a)=j - 1 by omega]
theorem A6i (o:List Int) (a:Nat) (x:Int):(A0x o a x).Perm (o++[x]):=by
 unfold A0x
 refine List.perm_middle.trans ?_
 rw [List.take_append_drop]
 exact (List.perm_append_comm (l₁:=[x]) (l₂:=o))
theorem A3S {R:Int→Int→Prop} {o:List Int} {a:Nat} {x:Int} (hs:o.Pairwise R) (h1:∀ k,k<a→k<o.length→R (gI o k) x) (h2:∀ k,a≤k→k<o.length→R x (gI o k)):(A0x o a x).Pairwise R:=by
 unfold A0x
 rw [List.pairwise_append,List.pairwise_cons]
 refine ⟨hs.sublist (List.take_sublist ..),⟨fun y hy=>?_,hs.sublist (List.drop_sublist ..)⟩,fun y hy z hz=>?_⟩
 ·obtain ⟨k,hk,rfl⟩:=List.getElem_of_mem hy
  rw [List.length_drop] at hk
  have:=h2 (a+k) (by omega) (by omega)
  rw [List.getElem_drop];simpa [gI,show a+k<o.length by omega] using this
 ·obtain ⟨k,hk,rfl⟩:=List.getElem_of_mem hy
  rw [List.length_take] at hk
  rcases List.mem_cons.1 hz with rfl | hz
  ·have:=h1 k (by omega) (by omega)
   rw [List.getElem_take];simpa [gI,show k<o.length by omega] using this
  ·obtain ⟨j,hj,rfl⟩:=List.getElem_of_mem hz
   rw [List.length_drop] at hj
   rw [List.getElem_take,List.getElem_drop]
   exact List.pairwise_iff_getElem.1 hs k (a+j) (by omega) (by omega) (by omega)
theorem B1z {R:Int→Int→Prop} {o:List Int} (hs:o.Pairwise R) {i j:Nat} (hij:i<j) (hj:j<o.length):R (gI o i) (gI o j):=by
 have:=List.pairwise_iff_getElem.1 hs i j (by omega) hj hij
 simpa [gI,show i<o.length by omega,hj] using this
theorem A7e {o p:List Int} (h:o.Perm p) {P:Int→Prop} (hp:∀ x∈p,P x) {k:Nat} (hk:k<o.length):P (gI o k):=hp _ (h.subset (B3 hk))
def B0e (ranks:List Int) (x:Int):QE:=(gI ranks x.toNat,x)
def B1Q (ranks:List Int) (x y:Int):Prop:=G7 (B0e ranks y) (B0e ranks x)=false
def A3n (n:Nat):List Int:=(List.range n).map Int.ofNat
theorem B5B (n:Nat):A3n (n+1)=A3n n++[(n:Int)]:=by unfold A3n;rw [List.range_succ,List.map_append];rfl
theorem A5B {n:Nat} {x:Int} (h:x∈A3n n):0≤x∧x.toNat<n:=by
 obtain ⟨k,hk,rfl⟩:=List.mem_map.1 h
 have:=List.mem_range.1 hk
 show 0≤(k:Int)∧(k:Int).toNat<n
 omega
theorem A7P (n:Nat):(A3n n).length=n:=by unfold A3n;simp
theorem B4l (ranks:List Int) (hl:ranks.length≤1000000) (st:St):S P 310 [A6 ranks] st fun v st'=>(∃ o:List Int,o.Perm (A3n ranks.length)∧o.Pairwise (B1Q ranks)∧v=A6 o)∧st'=st:=by
 refine S.post (post:=fun v st'=>∃ o:List Int,o.Perm (A3n ranks.length)∧o.Pairwise (B1Q ranks)∧F2 3 1 eI o st v st') ?_ (fun v st' ⟨o,h1,h2,h3⟩=>⟨_,st,⟨⟨o,h1,h2,rfl⟩,rfl⟩,h3.shift⟩)
 refine A8 [] B8 mixed Tryz.func310 (by rfl) rfl rfl rfl ?_;conv=>whnf
 refine lp ranks.length [0,3,4] (fun i vs s=>∃ o sv,o.Perm (A3n i)∧o.Pairwise (B1Q ranks)∧vs=[A6 ranks,sv,eI i]∧F2 3 1 eI o st sv s) ?_ ?_
 ·conv=>whnf
  exact ⟨[],.emp,.refl _,.nil,rfl,F2.start _ _ _ _⟩
 ·rintro i vs st' hi ⟨o,sv,hp,hs,rfl,hc0⟩
  conv=>whnf
  cases h:decide ((i:Int)<(ranks.length:Int))
  ·obtain rfl:=C6 h hi
   conv=>whnf
   exact ⟨o,hp,hs,hc0⟩
  ·have hi':=E4 h
   have hol:o.length=i:=by rw [hp.length_eq,A7P]
   have hom:∀ {k:Nat},k<o.length→0≤gI o k∧(gI o k).toNat<i:=fun hk=>A7e hp (fun x hx=>A5B hx) hk
   conv=>whnf
   refine lp o.length [0,3,4,5] (fun a vs s=>(∀ k,k<a→gI ranks (gI o k).toNat≥gI ranks i)∧vs=[A6 ranks,sv,eI i,eI a]∧s=st') ?_ ?_
   ·conv=>whnf
    exact ⟨fun k hk=>absurd hk (by omega),rfl,rfl⟩
   ·rintro a vs s ha ⟨hok,rfl,rfl⟩
    conv=>whnf
    refine ⟨[],[],List.range 18,by kernel_rfl,?_⟩
    have hc1:=hc0
    have hB:(a=o.length∨gI ranks (gI o a).toNat<gI ranks i)→(A0x o a (i:Int)).Perm (A3n (i+1))∧(A0x o a (i:Int)).Pairwise (B1Q ranks):=fun hB=>by
     refine ⟨by rw [B5B];exact (A6i o a i).trans (hp.append_right _),A3S hs (fun k hk hk2=>?_) (fun k hk hk2=>?_)⟩
     ·have:=hok k hk
      have:=hom hk2
      unfold B1Q B0e;rw [P8];simp only [Int.toNat_natCast];omega
     ·rcases hB with hB | hB
      ·omega
      ·have h6:gI ranks (gI o k).toNat≤gI ranks (gI o a).toNat:=by
        rcases Nat.eq_or_lt_of_le hk with e | e
        ·rw [e];exact Int.le_refl _
        ·have:=B1z hs e hk2
         unfold B1Q B0e at this;rw [P8] at this;simp only at this;omega
       unfold B1Q B0e;rw [P8];simp only [Int.toNat_natCast];omega
    rcases hc1 with ⟨h0,rfl,hst⟩ | ⟨h0,b,g,hb,rfl,rfl,hg⟩
    case' inl =>
     have hst':=hst.symm
     subst hst'
     have hS:=hB (.inl (by omega))
     have hd:decide ((a:Int)<0)=false:=decide_eq_false (by omega)
     conv=>whnf
     rw [hd];conv=>whnf
    case' inr =>
     conv=>whnf
     cases hd:decide ((a:Int)<(o.length:Int))
     case' false =>
      have hS:=hB (.inl (by have:=of_decide_eq_false hd;omega))
      conv=>whnf
     case' true =>
      have hao:=E4 hd
      have hoa:=hom hao
      have hga:g (0+(a:Int).toNat)=eI (gI o a):=by rw [show 0+(a:Int).toNat=a by omega];exact hg a hao
      conv=>whnf
      refine ⟨rfl,⟨by omega,by omega⟩,?_⟩;conv=>whnf
      refine D9 (A0 ..) rfl (by omega) hga ?_;conv=>whnf
      refine ⟨rfl,⟨by omega,by omega⟩,?_⟩;conv=>whnf
      refine ⟨rfl,⟨by omega,by omega⟩,?_⟩;conv=>whnf
      refine C3 (fun h2=>?_) (fun h2=>?_)<;>rw [h2]
      case' refine_1 =>
       conv=>whnf
       refine ⟨rfl,?_⟩;conv=>whnf
       refine nx hao ⟨J8 hok (of_decide_eq_true h2),by rw [B9 (by omega)],rfl⟩
      case' refine_2 =>
       have hS:=hB (.inr (by have h7:=of_decide_eq_false h2;rw [Int.toNat_natCast] at h7;exact Int.not_le.1 h7))
       conv=>whnf
    all_goals
     refine F2.app (q:=r3) (y:=0) (enc:=eI) rfl rfl rfl rfl rfl rfl (by show (_+1) * 8≤140737488355328;omega) hc0 (fun sv' s' hc'=>?_)
     have hln:(o++[0]).length=o.length+1:=by simp
     rcases hc' with ⟨h1,_⟩ | ⟨h1,b',g',hb',rfl,rfl,hg'⟩
     ·omega
     generalize (o++[0]).length=N at *
     subst hln;conv=>whnf
     have hw0:IntKind.i64.wrap (((o.length+1:Nat):Int) - 1)=((o.length - 0:Nat):Int):=by rw [A9 (by omega) (by omega)];omega
     rw [hw0]
     refine lp (o.length - a) [0,3,4,5,6] (fun r vs s=>vs=[A6 ranks,.own 1 b' 0 (o.length+1),eI i,eI a,eI (o.length - r:Nat)]∧∃ f,s=upd st b' ⟨3,1,o.length+1,f⟩∧∀ j,j<o.length+1→f j=eI (if o.length - r<j then gI o (j - 1) else gI (o++[0]) j)) ?_ ?_
     ·conv=>whnf
      exact ⟨rfl,g',rfl,fun j hj=>by rw [if_neg (by omega)];exact hg' j hj⟩
     ·clear hg' hc0
      rintro r vs s hr ⟨rfl,f,rfl,hf⟩
      conv=>whnf
      cases hk:decide (((o.length - r:Nat):Int)>(a:Int))
      ·have hra:r=o.length - a:=by have:=of_decide_eq_false hk;omega
       conv=>whnf
       refine ⟨rfl,⟨by omega,by omega⟩,?_⟩;conv=>whnf
       refine G6 (A0 ..) rfl (by omega) (hf _ (by omega)) (by rfl) ?_;conv=>whnf
       refine ⟨rfl,?_⟩;conv=>whnf
       rw [A5L]
       refine nx hi' ⟨A0x o a (i:Int),.own 1 b' 0 (o.length+1),hS.1,hS.2,by rw [B9 (by omega)],?_⟩
       refine .inr ⟨by rw [R5 ha];omega,b',_,hb',by rw [R5 ha],by rw [R5 ha],fun j hj=>?_⟩
       rw [R5 ha] at hj
       show C9 f (0+(a:Int).toNat) _ j=eI (gI (A0x o a (i:Int)) j)
       rw [A7M ha hj]
       by_cases hja:j=a
       ·subst hja
        rw [show 0+((j:Nat):Int).toNat=j by omega,A2];show eI (i:Int)=_;rw [if_neg (by omega),if_pos rfl]
       ·rw [H7 (by omega),hf j hj]
        congr 1
        by_cases hj2:j<a
        ·rw [if_neg (by omega),if_pos hj2,L8 (by omega)]
        ·rw [if_pos (by omega),if_neg hj2,if_neg hja]
      ·have hra:a<o.length - r:=by have:=of_decide_eq_true hk;omega
       have hw1:=A6a (i:=o.length - r) (by omega) (by omega)
       conv=>whnf
       rw [hw1]
       refine ⟨rfl,⟨by omega,by omega⟩,?_⟩;conv=>whnf
       refine D9 (v:=eI (gI o (o.length - r - 1))) (A0 ..) rfl (by omega) (by rw [hf _ (by omega),if_neg (by omega),L8 (by omega)];congr 2;omega) ?_;conv=>whnf
       refine ⟨rfl,⟨by omega,by omega⟩,?_⟩;conv=>whnf
       refine G6 (A0 ..) rfl (by omega) (hf _ (by omega)) (by rfl) ?_;conv=>whnf
       refine ⟨rfl,?_⟩;conv=>whnf
       rw [A5L,hw1]
       refine nx (by omega) ⟨by rw [show o.length - (r+1)=o.length - r - 1 by omega],_,rfl,fun j hj=>?_⟩
       by_cases hj2:j=o.length - r
       ·subst hj2
        rw [show 0+((o.length - r:Nat):Int).toNat=o.length - r by omega,A2];show eI (gI o (o.length - r - 1))=_;rw [if_pos (by omega)]
       ·rw [H7 (by omega),hf j hj]
        congr 1
        by_cases hj3:o.length - r<j
        ·rw [if_pos hj3,if_pos (by omega)]
        ·rw [if_neg hj3,if_neg (by omega)]
def Z6 (a b:B4):Bool:=if (a.prio != b.prio)=true then decide (a.prio>b.prio) else slt a.id b.id
theorem C0V (a b:B4) (st:St):S P 167 [C1 a,C1 b] st fun v st'=>v=.bool (Z6 a b)∧st'=st:=by
 refine A8 [2,3] B8 mixed Tryz.func167 (by rfl) rfl rfl rfl ?_;conv=>whnf
 unfold Z6
 refine C3 (fun h=>?_) (fun h=>?_)<;>rw [h]<;>(conv=>whnf)<;>exact ⟨rfl,rfl⟩
theorem A2h (a b:B4):Z6 a b=true↔a.prio>b.prio∨(a.prio=b.prio∧slt a.id b.id=true):=by
 unfold Z6
 split
 ·rename_i h;simp only [bne_iff_ne,ne_eq] at h;rw [decide_eq_true_eq];omega
 ·rename_i h;simp only [bne_iff_ne,ne_eq,Classical.not_not] at h;constructor
  ·exact fun h2=>.inr ⟨h,h2⟩
  ·rintro (h2 | h2)
   ·omega
   ·exact h2.2
theorem A8h {a b:B4} (h:Z6 a b=true):Z6 b a=false:=by
 rw [←Bool.not_eq_true,A2h]
 rw [A2h] at h
 rcases h with h | ⟨h1,h2⟩
 ·rintro (h3 | h3)<;>omega
 ·rintro (h3 | h3)
  ·omega
  ·rw [A5H h2] at h3;cases h3.2
theorem A6Z {a b c:B4} (h:Z6 b a=false) (k:Z6 c b=false):Z6 c a=false:=by
 rw [←Bool.not_eq_true,A2h] at *
 rintro (h3 | ⟨h3,h4⟩)
 ·by_cases e:b.prio>a.prio
  ·exact h (.inl e)
  ·exact k (.inl (by omega))
 ·by_cases e:b.prio=a.prio
  ·have h5:slt b.id a.id=false:=by rw [←Bool.not_eq_true];exact fun e2=>h (.inr ⟨e,e2⟩)
   have h6:slt c.id b.id=false:=by rw [←Bool.not_eq_true];exact fun e2=>k (.inr ⟨by omega,e2⟩)
   rw [A3x h5 h6] at h4;cases h4
  ·by_cases e2:b.prio>a.prio
   ·exact h (.inl e2)
   ·exact k (.inl (by omega))
def A3b (l:List B4) (x y:Int):Prop:=Z6 (F6 l y) (F6 l x)=false
theorem B4E (l:List Int):(C7 l).Pairwise (·≤·):=by
 have:=List.pairwise_mergeSort (le:=fun a b:Int=>decide (a≤b)) (fun a b c h1 h2=>by simp only [decide_eq_true_eq] at *;omega) (fun a b=>by simp only [Bool.or_eq_true,decide_eq_true_eq];omega) l
 exact this.imp (fun h=>by simpa using h)
theorem B8F (l:List Int) (hl:l.length≤1000000) (st:St):S P 312 [A6 l] st fun v st'=>v=A6 (C7 l)∧st'=st:=by
 refine A0Z (ty:=3) ?_
 refine A8 [] B8 mixed Tryz.func312 (by rfl) rfl rfl rfl ?_;conv=>whnf
 refine lp l.length [0,3,4] (fun i vs s=>∃ o sv,o.Perm (l.take i)∧o.Pairwise (·≤·)∧vs=[A6 l,sv,eI i]∧F2 3 1 eI o st sv s) ?_ ?_
 ·conv=>whnf
  exact ⟨[],.emp,.refl _,.nil,rfl,F2.start _ _ _ _⟩
 ·rintro i vs st' hi ⟨o,sv,hp,hs,rfl,hc0⟩
  conv=>whnf
  cases h:decide ((i:Int)<(l.length:Int))
  ·obtain rfl:=C6 h hi
   conv=>whnf
   rw [List.take_length] at hp
   have e:o=C7 l:=List.Perm.eq_of_pairwise (le:=fun a b:Int=>a≤b) (fun a b _ _ h1 h2=>Int.le_antisymm h1 h2) hs (B4E l) (hp.trans (A0s l).symm)
   rw [←e]
   exact hc0
  ·have hi':=E4 h
   have hol:o.length=i:=by rw [hp.length_eq,List.length_take];omega
   have hom:∀ {k:Nat},k<o.length→True:=fun hk=>trivial
   have hB:∀ a,a≤o.length→(∀ k,a≤k→k<o.length→gI o k>gI l i)→(a=0∨gI o (a - 1)≤gI l i)→(A0x o a (gI l i)).Perm (l.take (i+1))∧(A0x o a (gI l i)).Pairwise (·≤·):=fun a ha hok hB=>by
    refine ⟨by rw [I6 hi'];exact (A6i o a _).trans (hp.append_right _),A3S hs (fun k hk hk2=>?_) (fun k hk hk2=>?_)⟩
    ·rcases hB with hB | hB
     ·omega
     ·rcases Nat.lt_or_ge k (a - 1) with e | e
      ·exact Int.le_trans (B1z hs e (by omega)) hB
      ·rw [show k=a - 1 by omega];exact hB
    ·have:=hok k hk hk2;omega
   have hc1:=hc0
   rcases hc1 with ⟨h0,hsv,hst⟩ | ⟨h0,b,g,hb,hsv,hst,hg⟩
   all_goals rw [hsv]
   all_goals (conv=>whnf)
   all_goals refine lp o.length [0,3,4,5] (fun r vs s=>(∀ k,o.length - r≤k→k<o.length→gI o k>gI l i)∧vs=[A6 l,sv,eI i,eI (o.length - r:Nat)]∧s=st') ?_ ?_
   all_goals first
    | (conv=>whnf
       exact ⟨fun k h1 h2=>absurd h2 (by omega),by first | (rw [hsv];rfl) | (rw [hsv,h0];rfl),rfl⟩)
    | skip
   all_goals
    rintro r vs s hr ⟨hok,rfl,rfl⟩
    conv=>whnf
    refine ⟨[],[],List.range 14,by kernel_rfl,?_⟩
    cases hd:decide (((o.length - r:Nat):Int)>0)
    case' false =>
     have ha:=Nat.sub_le o.length r
     have hS:=hB (o.length - r) ha hok (.inl (by have:=of_decide_eq_false hd;omega))
     generalize o.length - r=a at *
     conv=>whnf
     rw [hd];conv=>whnf
    case' true =>
     have hpos:0<o.length - r:=by have:=of_decide_eq_true hd;omega
     have hw2:=A6a hpos (by omega)
     have hoa:=hom (k:=o.length - r - 1) (by omega)
     first
      | (exfalso;omega)
      | (conv=>whnf
         rw [hd];conv=>whnf
         rw [hsv] at hc0
         rw [hsv,hw2]
         refine ⟨rfl,⟨by omega,by omega⟩,?_⟩;conv=>whnf
         refine D9 (v:=eI (gI o (o.length - r - 1))) (by rw [hst];exact A0 ..) rfl (by omega) (by rw [hg _ (by omega)];congr 2;omega) ?_;conv=>whnf
         refine ⟨rfl,⟨by omega,by omega⟩,?_⟩;conv=>whnf
         refine C3 (fun h2=>?_) (fun h2=>?_)<;>rw [h2]
         ·conv=>whnf
          refine ⟨rfl,?_⟩;conv=>whnf
          refine nx (by omega) ⟨fun k h3 h4=>?_,by rw [hw2,show o.length - (r+1)=o.length - r - 1 by omega],rfl⟩
          rcases Nat.eq_or_lt_of_le h3 with h5 | h5
          ·rw [←h5,show o.length - (r+1)=o.length - r - 1 by omega];exact of_decide_eq_true h2
          ·exact hok k (by omega) h4
         have ha:=Nat.sub_le o.length r
         have hS:=hB (o.length - r) ha hok (.inr (by have h7:=of_decide_eq_false h2;rw [Int.toNat_natCast] at h7;exact Int.not_lt.1 h7))
         clear hw2 hoa
         generalize o.length - r=a at *
         conv=>whnf)
    all_goals
     refine F2.app (q:=r3) (y:=0) (enc:=eI) rfl rfl rfl rfl rfl rfl (by show (_+1) * 8≤140737488355328;omega) hc0 (fun sv' s' hc'=>?_)
     have hln:(o++[0]).length=o.length+1:=by simp
     rcases hc' with ⟨h1,_⟩ | ⟨h1,b',g',hb',rfl,rfl,hg'⟩
     ·omega
     generalize (o++[0]).length=N at *
     subst hln;conv=>whnf
     have hw0:IntKind.i64.wrap (((o.length+1:Nat):Int) - 1)=((o.length - 0:Nat):Int):=by rw [A9 (by omega) (by omega)];omega
     rw [hw0]
     refine lp (o.length - a) [0,3,4,5,6] (fun r vs s=>vs=[A6 l,.own 1 b' 0 (o.length+1),eI i,eI a,eI (o.length - r:Nat)]∧∃ f,s=upd st b' ⟨3,1,o.length+1,f⟩∧∀ j,j<o.length+1→f j=eI (if o.length - r<j then gI o (j - 1) else gI (o++[0]) j)) ?_ ?_
     ·conv=>whnf
      exact ⟨rfl,g',rfl,fun j hj=>by rw [if_neg (by omega)];exact hg' j hj⟩
     ·clear hg' hc0
      rintro r vs s hr ⟨rfl,f,rfl,hf⟩
      conv=>whnf
      cases hk:decide (((o.length - r:Nat):Int)>(a:Int))
      ·have hra:r=o.length - a:=by have:=of_decide_eq_false hk;omega
       conv=>whnf
       refine ⟨rfl,⟨by omega,by omega⟩,?_⟩;conv=>whnf
       refine ⟨rfl,⟨by omega,by omega⟩,?_⟩;conv=>whnf
       refine G6 (A0 ..) rfl (by omega) (hf _ (by omega)) (by rfl) ?_;conv=>whnf
       refine ⟨rfl,?_⟩;conv=>whnf
       rw [A5L]
       refine nx hi' ⟨A0x o a (gI l i),.own 1 b' 0 (o.length+1),hS.1,hS.2,by rw [B9 (by omega)],?_⟩
       refine .inr ⟨by rw [R5 ha];omega,b',_,hb',by rw [R5 ha],by rw [R5 ha],fun j hj=>?_⟩
       rw [R5 ha] at hj
       show C9 f (0+(a:Int).toNat) _ j=eI (gI (A0x o a (gI l i)) j)
       rw [A7M ha hj]
       by_cases hja:j=a
       ·subst hja
        rw [show 0+((j:Nat):Int).toNat=j by omega,A2];show eI (gI l i)=_;rw [if_neg (by omega),if_pos rfl]
       ·rw [H7 (by omega),hf j hj]
        congr 1
        by_cases hj2:j<a
        ·rw [if_neg (by omega),if_pos hj2,L8 (by omega)]
        ·rw [if_pos (by omega),if_neg hj2,if_neg hja]
      ·have hra:a<o.length - r:=by have:=of_decide_eq_true hk;omega
       have hw1:=A6a (i:=o.length - r) (by omega) (by omega)
       conv=>whnf
       rw [hw1]
       refine ⟨rfl,⟨by omega,by omega⟩,?_⟩;conv=>whnf
       refine D9 (v:=eI (gI o (o.length - r - 1))) (A0 ..) rfl (by omega) (by rw [hf _ (by omega),if_neg (by omega),L8 (by omega)];congr 2;omega) ?_;conv=>whnf
       refine ⟨rfl,⟨by omega,by omega⟩,?_⟩;conv=>whnf
       refine G6 (A0 ..) rfl (by omega) (hf _ (by omega)) (by rfl) ?_;conv=>whnf
       refine ⟨rfl,?_⟩;conv=>whnf
       rw [A5L,hw1]
       refine nx (by omega) ⟨by rw [show o.length - (r+1)=o.length - r - 1 by omega],_,rfl,fun j hj=>?_⟩
       by_cases hj2:j=o.length - r
       ·subst hj2
        rw [show 0+((o.length - r:Nat):Int).toNat=o.length - r by omega,A2];show eI (gI o (o.length - r - 1))=_;rw [if_pos (by omega)]
       ·rw [H7 (by omega),hf j hj]
        congr 1
        by_cases hj3:o.length - r<j
        ·rw [if_pos hj3,if_pos (by omega)]
        ·rw [if_neg hj3,if_neg (by omega)]
set_option maxHeartbeats 1000000 in
theorem C0X (l:List B4) (codes:List D6) (hl:l.length≤1000) (hc:Sm codes.length) (st:St):S P 96 [B2 15 C1 l,D3 codes] st fun v st'=>(∃ o:List Int,o.Perm (places l codes l.length)∧o.Pairwise (A3b l)∧v=A6 o)∧st'=st:=by
 refine S.post (post:=fun v st'=>∃ o:List Int,o.Perm (places l codes l.length)∧o.Pairwise (A3b l)∧F2 3 1 eI o st v st') ?_ (fun v st' ⟨o,h1,h2,h3⟩=>⟨_,st,⟨⟨o,h1,h2,rfl⟩,rfl⟩,h3.shift⟩)
 refine A8 [] B8 mixed Tryz.func96 (by rfl) rfl rfl rfl ?_;conv=>whnf
 refine lp l.length [0,1,5,6] (fun i vs s=>∃ o sv,o.Perm (places l codes i)∧o.Pairwise (A3b l)∧vs=[B2 15 C1 l,D3 codes,sv,eI i]∧F2 3 1 eI o st sv s) ?_ ?_
 ·conv=>whnf
  exact ⟨[],.emp,.refl _,.nil,rfl,F2.start _ _ _ _⟩
 ·rintro i vs st' hi ⟨o,sv,hp,hs,rfl,hc0⟩
  conv=>whnf
  cases h:decide ((i:Int)<(l.length:Int))
  ·obtain rfl:=C6 h hi
   conv=>whnf
   exact ⟨o,hp,hs,hc0⟩
  ·have hi':=E4 h
   have hol:o.length≤i:=by rw [hp.length_eq];exact X5 ..
   have hom:∀ {k:Nat},k<o.length→0≤gI o k∧(gI o k).toNat<i:=fun hk=>A7e hp (fun x hx=>Y9 hx) hk
   have hps:=A4U l codes i
   have n1:=B5T codes (l.getD (i:Int).toNat default).code hc st'
   have ea:W8 codes (l.getD i default)=(!(!((l.getD (i:Int).toNat default).code.toList==(⟨#[]⟩:D6).toList))||codes.any fun y=>y.toList==(l.getD (i:Int).toNat default).code.toList):=by
    rw [Bool.not_not];unfold W8 L4;congr 1;congr 1;funext c;exact Bool.beq_comm
   have skip:W8 codes (l.getD i default)=false→o.Perm (places l codes (i+1)):=fun h=>by rw [hps,if_neg (by rw [h];simp),List.append_nil];exact hp
   have hB:W8 codes (l.getD i default)=true→∀ a,a≤o.length→(∀ k,a≤k→k<o.length→Z6 (F6 l i) (F6 l (gI o k))=true)→(a=0∨Z6 (F6 l i) (F6 l (gI o (a - 1)))=false)→(A0x o a (i:Int)).Perm (places l codes (i+1))∧(A0x o a (i:Int)).Pairwise (A3b l):=fun hask a ha hok hB=>by
    refine ⟨by rw [hps,if_pos hask];exact (A6i o a _).trans (hp.append_right _),A3S hs (fun k hk hk2=>?_) (fun k hk hk2=>?_)⟩
    ·rcases hB with hB | hB
     ·omega
     ·rcases Nat.lt_or_ge k (a - 1) with e | e
      ·exact A6Z (B1z hs e (by omega)) hB
      ·rw [show k=a - 1 by omega];exact hB
    ·exact A8h (hok k hk hk2)
   rw [ea] at hB skip
   generalize (codes.any fun y=>y.toList==(l.getD (i:Int).toNat default).code.toList)=b1 at n1 hB skip
   clear ea hps
   conv=>whnf
   refine ⟨rfl,⟨by omega,by omega⟩,?_⟩;conv=>whnf
   cases hn:(!((l.getD (i:Int).toNat default).code.toList==(⟨#[]⟩:D6).toList))
   case' true =>
    rw [hn] at hB skip;conv=>whnf
    refine ⟨rfl,⟨by omega,by omega⟩,?_⟩;conv=>whnf
    refine A7 n1 ?_
    cases b1
    ·conv=>whnf
     refine ⟨rfl,?_⟩;conv=>whnf
     exact nx hi' ⟨o,sv,skip rfl,hs,by rw [B9 (by omega)],hc0⟩
    replace hB:=hB rfl
   case' false =>
    rw [hn] at hB
    replace hB:=hB rfl
   all_goals clear skip n1
   all_goals (conv=>whnf)
   all_goals
    have hc1:=hc0
    rcases hc1 with ⟨h0,hsv,hst⟩ | ⟨h0,b,g,hb,hsv,hst,hg⟩
    all_goals rw [hsv]
    all_goals (conv=>whnf)
    all_goals refine lp o.length [0,1,5,6,7] (fun r vs s=>(∀ k,o.length - r≤k→k<o.length→Z6 (F6 l i) (F6 l (gI o k))=true)∧vs=[B2 15 C1 l,D3 codes,sv,eI i,eI (o.length - r:Nat)]∧s=st') ?_ ?_
    all_goals first
     | (conv=>whnf
        exact ⟨fun k h1 h2=>absurd h2 (by omega),by first | (rw [hsv];rfl) | (rw [hsv,h0];rfl),rfl⟩)
     | skip
    all_goals
     rintro r vs s hr ⟨hok,rfl,rfl⟩
     conv=>whnf
     refine ⟨[],[],List.range 17,by kernel_rfl,?_⟩
     cases hd:decide (((o.length - r:Nat):Int)>0)
     case' false =>
      have ha:=Nat.sub_le o.length r
      have hS:=hB (o.length - r) ha hok (.inl (by have:=of_decide_eq_false hd;omega))
      generalize o.length - r=a at *
      conv=>whnf
      rw [hd];conv=>whnf
     case' true =>
      have hpos:0<o.length - r:=by have:=of_decide_eq_true hd;omega
      have hw2:=A6a hpos (by omega)
      have hoa:=hom (k:=o.length - r - 1) (by omega)
      first
       | (exfalso;omega)
       | (conv=>whnf
          rw [hd];conv=>whnf
          refine ⟨rfl,⟨by omega,by omega⟩,?_⟩;conv=>whnf
          rw [hsv] at hc0
          rw [hsv,hw2]
          refine ⟨rfl,⟨by omega,by omega⟩,?_⟩;conv=>whnf
          refine D9 (v:=eI (gI o (o.length - r - 1))) (by rw [hst];exact A0 ..) rfl (by omega) (by rw [hg _ (by omega)];congr 2;omega) ?_;conv=>whnf
          refine ⟨rfl,⟨by omega,by omega⟩,?_⟩;conv=>whnf
          refine ⟨_,D1 (C0V (F6 l i) (F6 l (gI o (o.length - r - 1))) _),?_⟩;conv=>whnf
          refine C3 (fun h2=>?_) (fun h2=>?_)<;>rw [h2]
          ·conv=>whnf
           refine ⟨rfl,?_⟩;conv=>whnf
           refine nx (by omega) ⟨fun k h3 h4=>?_,by rw [hw2,show o.length - (r+1)=o.length - r - 1 by omega],rfl⟩
           rcases Nat.eq_or_lt_of_le h3 with h5 | h5
           ·rw [←h5,show o.length - (r+1)=o.length - r - 1 by omega];exact h2
           ·exact hok k (by omega) h4
          have ha:=Nat.sub_le o.length r
          have hS:=hB (o.length - r) ha hok (.inr h2)
          clear hw2 hoa
          generalize o.length - r=a at *
          conv=>whnf)
     all_goals
      refine F2.app (q:=r3) (y:=0) (enc:=eI) rfl rfl rfl rfl rfl rfl (by show (_+1) * 8≤140737488355328;omega) hc0 (fun sv' s' hc'=>?_)
      have hln:(o++[0]).length=o.length+1:=by simp
      rcases hc' with ⟨h1,_⟩ | ⟨h1,b',g',hb',rfl,rfl,hg'⟩
      ·omega
      generalize (o++[0]).length=N at *
      subst hln;conv=>whnf
      have hw0:IntKind.i64.wrap (((o.length+1:Nat):Int) - 1)=((o.length - 0:Nat):Int):=by rw [A9 (by omega) (by omega)];omega
      rw [hw0]
      refine lp (o.length - a) [0,1,5,6,7,8] (fun r vs s=>vs=[B2 15 C1 l,D3 codes,.own 1 b' 0 (o.length+1),eI i,eI a,eI (o.length - r:Nat)]∧∃ f,s=upd st b' ⟨3,1,o.length+1,f⟩∧∀ j,j<o.length+1→f j=eI (if o.length - r<j then gI o (j - 1) else gI (o++[0]) j)) ?_ ?_
      ·conv=>whnf
       exact ⟨rfl,g',rfl,fun j hj=>by rw [if_neg (by omega)];exact hg' j hj⟩
      ·clear hg' hc0
       rintro r vs s hr ⟨rfl,f,rfl,hf⟩
       conv=>whnf
       cases hk:decide (((o.length - r:Nat):Int)>(a:Int))
       ·have hra:r=o.length - a:=by have:=of_decide_eq_false hk;omega
        conv=>whnf
        refine ⟨rfl,⟨by omega,by omega⟩,?_⟩;conv=>whnf
        refine G6 (A0 ..) rfl (by omega) (hf _ (by omega)) (by rfl) ?_;conv=>whnf
        refine ⟨rfl,?_⟩;conv=>whnf
        rw [A5L]
        refine nx hi' ⟨A0x o a (i:Int),.own 1 b' 0 (o.length+1),hS.1,hS.2,by rw [B9 (by omega)],?_⟩
        refine .inr ⟨by rw [R5 ha];omega,b',_,hb',by rw [R5 ha],by rw [R5 ha],fun j hj=>?_⟩
        rw [R5 ha] at hj
        show C9 f (0+(a:Int).toNat) _ j=eI (gI (A0x o a (i:Int)) j)
        rw [A7M ha hj]
        by_cases hja:j=a
        ·subst hja
         rw [show 0+((j:Nat):Int).toNat=j by omega,A2];show eI (i:Int)=_;rw [if_neg (by omega),if_pos rfl]
        ·rw [H7 (by omega),hf j hj]
         congr 1
         by_cases hj2:j<a
         ·rw [if_neg (by omega),if_pos hj2,L8 (by omega)]
         ·rw [if_pos (by omega),if_neg hj2,if_neg hja]
       ·have hra:a<o.length - r:=by have:=of_decide_eq_true hk;omega
        have hw1:=A6a (i:=o.length - r) (by omega) (by omega)
        conv=>whnf
        rw [hw1]
        refine ⟨rfl,⟨by omega,by omega⟩,?_⟩;conv=>whnf
        refine D9 (v:=eI (gI o (o.length - r - 1))) (A0 ..) rfl (by omega) (by rw [hf _ (by omega),if_neg (by omega),L8 (by omega)];congr 2;omega) ?_;conv=>whnf
        refine ⟨rfl,⟨by omega,by omega⟩,?_⟩;conv=>whnf
        refine G6 (A0 ..) rfl (by omega) (hf _ (by omega)) (by rfl) ?_;conv=>whnf
        refine ⟨rfl,?_⟩;conv=>whnf
        rw [A5L,hw1]
        refine nx (by omega) ⟨by rw [show o.length - (r+1)=o.length - r - 1 by omega],_,rfl,fun j hj=>?_⟩
        by_cases hj2:j=o.length - r
        ·subst hj2
         rw [show 0+((o.length - r:Nat):Int).toNat=o.length - r by omega,A2];show eI (gI o (o.length - r - 1))=_;rw [if_pos (by omega)]
        ·rw [H7 (by omega),hf j hj]
         congr 1
         by_cases hj3:o.length - r<j
         ·rw [if_pos hj3,if_pos (by omega)]
         ·rw [if_neg hj3,if_neg (by omega)]
theorem A1x (x:Int) (st:St):S P 227 [eI x] st fun v st'=>v=.bool (Q8 x)∧st'=st:=by
 refine A8 [] B8 mixed Tryz.func227 (by rfl) rfl rfl rfl ?_;conv=>whnf
 unfold Q8
 cases h:decide (0≤x)
 ·conv=>whnf
  exact ⟨rfl,rfl⟩
 ·conv=>whnf
  exact ⟨rfl,rfl⟩
theorem C8V {v:Int} (h0:0≤v) (h1:v≤9223372036854775807):IntKind.i64.wrap ((BitVec.ofInt IntKind.i64.bits v &&& BitVec.ofInt IntKind.i64.bits 1).toNat:Int)=v % 2:=by
 show IntKind.i64.wrap ((BitVec.ofInt 64 v &&& BitVec.ofInt 64 1).toNat:Int)=v % 2
 obtain ⟨n,rfl⟩:=Int.eq_ofNat_of_zero_le h0
 have e1:(BitVec.ofInt 64 ((n:Nat):Int)).toNat=n:=by rw [BitVec.ofInt_natCast,BitVec.toNat_ofNat,Nat.mod_eq_of_lt (by omega)]
 have e2:(BitVec.ofInt 64 1).toNat=1:=by decide
 rw [BitVec.toNat_and,e1,e2,Nat.and_one_is_mod,A9 (by omega) (by omega)];omega
theorem B2g {d q r Y:Int} (h:Y=d * q+r) (h0:0≤r) (h1:r<d):Y / d=q∧Y % d=r:=by
 have:=(Int.ediv_emod_unique (a:=Y) (b:=d) (r:=r) (q:=q) (by omega)).2 ⟨by omega,h0,h1⟩
 exact this
def Y0 (num:Int) (j:Nat):Int:=num / 2 ^ (63 - j)
theorem B8Z {num:Int} (h:0≤num) {j:Nat} (hj:j<63):Y0 num (j+1)=2 * Y0 num j+Y0 num (j+1) % 2:=by
 have e:Y0 num j=Y0 num (j+1) / 2:=by
  unfold Y0
  rw [show 63 - j=(63 - (j+1))+1 by omega,Int.pow_succ,Int.ediv_ediv_of_nonneg (Int.pow_nonneg (by omega))]
 omega
theorem A8y {num:Int} (h:0≤num) (j:Nat):0≤Y0 num j:=Int.ediv_nonneg h (Int.pow_nonneg (by omega))
theorem C3A {num:Int} (h:0≤num) (j:Nat):Y0 num j≤num:=Int.ediv_le_self _ h
theorem C1B {num:Int} (h:0≤num) (h1:num≤100000000000000):Y0 num 0=0:=Int.ediv_eq_zero_of_lt h (by show num<2 ^ 63;omega)
theorem B7o (num:Int):Y0 num 63=num:=by unfold Y0;simp
def A7T (x num den:Int):AV:=if x * num / den>100000000000000 then .tuple [eI 0,eI 0,.bool false] else .tuple [eI (x * num / den),eI (x * num % den),.bool true]
set_option maxHeartbeats 1000000 in
theorem B0i (x num den:Int) (hx:0≤x) (hx1:x≤100000000000000) (hn:0≤num) (hn1:num≤100000000000000) (hd:0<den) (hd1:den≤100000000000000) (st:St) :
  S P 286 [eI x,eI num,eI den] st fun v st'=>v=A7T x num den∧st'=st:=by
 refine A8 [] B8 mixed Tryz.func286 (by rfl) rfl rfl rfl ?_;conv=>whnf
 refine lp 63 [0,1,2,9,10,11] (fun j vs s=>(x * Y0 num j / den≤100000000000000)∧vs=[eI x,eI num,eI den,eI (x * Y0 num j / den),eI (x * Y0 num j % den),eI (62 - (j:Int))]∧s=st) ?_ ?_
 ·conv=>whnf
  refine ⟨?_,?_,rfl⟩
  ·rw [C1B hn hn1,Int.mul_zero,Int.zero_ediv];omega
  ·rw [C1B hn hn1,Int.mul_zero,Int.zero_ediv,Int.zero_emod];rfl
 ·rintro j vs s hj ⟨hq,rfl,rfl⟩
  conv=>whnf
  have hY0:0≤x * Y0 num j:=Int.mul_nonneg hx (A8y hn j)
  have hA0:0≤x * Y0 num j / den:=Int.ediv_nonneg hY0 (by omega)
  have hB0:=Int.emod_nonneg (x * Y0 num j) (show den≠0 by omega)
  have hB1:=Int.emod_lt_of_pos (x * Y0 num j) hd
  have hY:=Int.mul_ediv_add_emod (x * Y0 num j) den
  cases h:decide (62 - (j:Int)≥0)
  ·have hj63:j=63:=by have:=of_decide_eq_false h;omega
   subst hj63
   rw [B7o] at hq;conv=>whnf
   refine ⟨?_,rfl⟩
   unfold A7T
   rw [if_neg (by omega),B7o];rfl
  ·have hj':j<63:=by have:=of_decide_eq_true h;omega
   have hC0:0≤x / den:=Int.ediv_nonneg hx (by omega)
   have hC1:x / den≤x:=Int.ediv_le_self _ hx
   have hD0:=Int.emod_nonneg x (show den≠0 by omega)
   have hD1:=Int.emod_lt_of_pos x hd
   have hX:=Int.mul_ediv_add_emod x den
   have hst:=B8Z hn hj'
   have hN0:=A8y hn (j+1)
   have hN1:=C3A hn (j+1)
   have hbit:x * Y0 num (j+1)=2 * (x * Y0 num j)+x * (Y0 num (j+1) % 2):=by
    conv=>lhs;rw [hst]
    rw [Int.mul_add,Int.mul_left_comm]
   have hshr:Int.fdiv num (2 ^ (min (IntKind.u64.wrap (62 - (j:Int))).toNat IntKind.i64.bits))=Y0 num (j+1):=by
    show Int.fdiv num (2 ^ (min (IntKind.u64.wrap (62 - (j:Int))).toNat 64))=_
    rw [C0 (by omega) (by omega)]
    unfold Y0
    rw [show min (62 - (j:Int)).toNat 64=63 - (j+1) by omega,Int.fdiv_eq_ediv_of_nonneg _ (Int.pow_nonneg (by omega))]
   have hbig:x * Y0 num (j+1) / den>100000000000000→A7T x num den=.tuple [eI 0,eI 0,.bool false]:=fun hb=>by
    unfold A7T
    refine if_pos ?_
    have:x * Y0 num (j+1) / den≤x * num / den:=Int.ediv_le_ediv hd (Int.mul_le_mul_of_nonneg_left hN1 hx)
    omega
   have hand:=C8V (v:=Y0 num (j+1)) hN0 (by omega)
   have htd:x.tdiv den=x / den:=Int.tdiv_eq_ediv_of_nonneg hx
   have htm:x.tmod den=x % den:=Int.tmod_eq_emod_of_nonneg hx
   generalize hAe:x * Y0 num j / den=A at *
   generalize hBe:x * Y0 num j % den=B at *
   generalize hYe:x * Y0 num j=Y at *
   generalize hCe:x / den=C at *
   generalize hDe:x % den=D at *
   have w1:IntKind.i64.wrap (2 * A)=2 * A:=A9 (by omega) (by omega)
   have w2:IntKind.i64.wrap (2 * B)=2 * B:=A9 (by omega) (by omega)
   conv=>whnf
   rw [w1,w2]
   -- doubled
   refine C3 (fun h1=>?_) (fun h1=>?_)<;>rw [h1]
   case' refine_1 =>
    have:=of_decide_eq_true h1
    have w3:IntKind.i64.wrap (2 * A+1)=2 * A+1:=A9 (by omega) (by omega)
    have w4:IntKind.i64.wrap (2 * B - den)=2 * B - den:=A9 (by omega) (by omega)
    have hq1:2 * Y=den * (2 * A+1)+(2 * B - den):=by rw [Int.mul_add,Int.mul_left_comm,Int.mul_one];omega
    have hq2:0≤2 * A+1∧2 * A+1≤200000000000001:=by omega
    have hr1:0≤2 * B - den∧2 * B - den<den:=by omega
    conv=>whnf
    rw [w3,w4]
    generalize 2 * A+1=q1 at *
    generalize 2 * B - den=r1 at *
   case' refine_2 =>
    have:=of_decide_eq_false h1
    have hq1:2 * Y=den * (2 * A)+(2 * B):=by rw [Int.mul_left_comm];omega
    have hq2:0≤2 * A∧2 * A≤200000000000001:=by omega
    have hr1:0≤2 * B∧2 * B<den:=by omega
    conv=>whnf
    generalize 2 * A=q1 at *
    generalize 2 * B=r1 at *
   all_goals clear w1 w2 hY hA0 hB0 hB1 hq hAe hBe
   all_goals (rw [decide_eq_false (show ¬ IntKind.u64.wrap (62 - (j:Int))<0 by rw [C0 (by omega) (by omega)];omega)])
   all_goals (conv=>whnf)
   all_goals rw [hshr,hand]
   all_goals refine C3 (fun h2=>?_) (fun h2=>?_)<;>rw [h2]
   -- a bit of num
   case' refine_2.true.refine_1.refine_1 | refine_2.true.refine_2.refine_1 =>
    have hb1:Y0 num (j+1) % 2=1:=eq_of_beq h2
    have w5:IntKind.i64.wrap C=C:=A9 (by omega) (by omega)
    have w6:IntKind.i64.wrap (q1+C)=q1+C:=A9 (by omega) (by omega)
    have w7:IntKind.i64.wrap (r1+D)=r1+D:=A9 (by omega) (by omega)
    have hd0:decide (den=0)=false:=decide_eq_false (by omega)
    rw [hb1,Int.mul_one] at hbit;conv=>whnf
    refine ⟨[],[],List.range 12,by kernel_rfl,?_⟩;conv=>whnf
    rw [hd0];conv=>whnf
    rw [hd0];conv=>whnf
    rw [htd,htm,w5,w6,w7]
    refine C3 (fun h3=>?_) (fun h3=>?_)<;>rw [h3]
    case' refine_1 =>
     have:=of_decide_eq_true h3
     have w8:IntKind.i64.wrap (q1+C+1)=q1+C+1:=A9 (by omega) (by omega)
     have w9:IntKind.i64.wrap (r1+D - den)=r1+D - den:=A9 (by omega) (by omega)
     obtain ⟨e1,e2⟩:=B2g (Y:=x * Y0 num (j+1)) (d:=den) (q:=q1+C+1) (r:=r1+D - den) (by rw [hbit,Int.mul_add,Int.mul_add,Int.mul_one];omega) (by omega) (by omega)
     conv=>whnf
     rw [w8,w9,←e1,←e2]
    case' refine_2 =>
     have:=of_decide_eq_false h3
     obtain ⟨e1,e2⟩:=B2g (Y:=x * Y0 num (j+1)) (d:=den) (q:=q1+C) (r:=r1+D) (by rw [hbit,Int.mul_add];omega) (by omega) (by omega)
     conv=>whnf
     rw [←e1,←e2]
   case' refine_2.true.refine_1.refine_2 | refine_2.true.refine_2.refine_2 =>
    have hb1:Y0 num (j+1) % 2=0:=by have:=ne_of_beq_false h2;omega
    rw [hb1,Int.mul_zero,Int.add_zero] at hbit
    obtain ⟨e1,e2⟩:=B2g (Y:=x * Y0 num (j+1)) (d:=den) (q:=q1) (r:=r1) (by rw [hbit];omega) (by omega) (by omega)
    conv=>whnf
    rw [←e1,←e2]
   all_goals refine C3 (fun h4=>?_) (fun h4=>?_)<;>rw [h4]
   all_goals (conv=>whnf)
   all_goals first
    | exact ⟨by rw [hbig (of_decide_eq_true h4)];rfl,rfl⟩
    | (refine ⟨rfl,?_⟩;conv=>whnf
       have w10:IntKind.i64.wrap (62 - (j:Int) - 1)=62 - ((j+1:Nat):Int):=by rw [A9 (by omega) (by omega)];omega
       exact nx hj' ⟨by have:=of_decide_eq_false h4;omega,by rw [w10],rfl⟩)
theorem B0j (x num den round:Int) (st:St):S P 228 [eI x,eI num,eI den,eI round] st fun v st'=>v=.tuple [eI (U2 x num den round).1,eI (U2 x num den round).2]∧st'=st:=by
 refine A8 [] B8 mixed Tryz.func228 (by rfl) rfl rfl rfl ?_
 by_cases hok:(Q8 x&&Q8 num&&Q8 den&&den != 0&&decide (0≤round)&&decide (round<3))=false
 ·rw [show U2 x num den round=(0,2) from if_pos hok]
  have n1:=A1x x st
  have n2:=A1x num st
  have hok':¬(Q8 x=true∧Q8 num=true∧1≤den∧den≤100000000000000∧0≤round∧round≤2):=fun ⟨h1,h2,h3,h4,h5,h6⟩=>by
   rw [h1,h2,(A0q den).2 ⟨by omega,h4⟩,decide_eq_true h5,decide_eq_true (show round<3 by omega),bne_iff_ne.2 (show den≠0 by omega)] at hok;cases hok
  repeat' ((conv=>whnf);first | refine A7 n1 ?_ | refine A7 n2 ?_ | (refine C3 (fun h=>?_) (fun h=>?_)<;>rw [h]))
  all_goals (conv=>whnf)
  all_goals first
   | exact ⟨rfl,rfl⟩
   | (exfalso
      simp only [Bool.not_eq_false',decide_eq_false_iff_not] at *
      exact hok' ⟨by assumption,by assumption,by omega,by omega,by omega,by omega⟩)
 ·rw [Bool.not_eq_false] at hok
  have ht:U2 x num den round=if x * num / den>100000000000000 then (0,5) else if Q9 (x * num / den) (x * num % den) den round>100000000000000 then (0,5) else (Q9 (x * num / den) (x * num % den) den round,0):=if_neg (by rw [hok];simp)
  simp only [Bool.and_eq_true,bne_iff_ne,ne_eq,decide_eq_true_eq] at hok
  obtain ⟨⟨⟨⟨⟨x0,n0⟩,d0⟩,d2⟩,r0⟩,r1⟩:=hok
  have x1:=(A0q x).1 x0
  have n1:=(A0q num).1 n0
  have d1:=(A0q den).1 d0
  have e1:decide (den<1)=false:=decide_eq_false (by omega)
  have e2:decide (den>100000000000000)=false:=decide_eq_false (by omega)
  have e3:decide (round<0)=false:=decide_eq_false (by omega)
  have e4:decide (round>2)=false:=decide_eq_false (by omega)
  have hp:=B0i x num den (by omega) (by omega) (by omega) (by omega) (by omega) (by omega) st
  have hN:0≤x * num:=Int.mul_nonneg x1.1 n1.1
  have hq0:0≤x * num / den:=Int.ediv_nonneg hN (by omega)
  have hm0:=Int.emod_nonneg (x * num) d2
  have hm1:=Int.emod_lt_of_pos (x * num) (show 0<den by omega)
  have m1:=A1x x st
  have m2:=A1x num st
  rw [x0] at m1
  rw [n0] at m2
  unfold A7T at hp
  rw [ht]
  clear ht
  generalize x * num / den=q at *
  generalize x * num % den=r at *
  have bq:0≤Q9 q r den round:=by unfold Q9;repeat' split<;>omega
  by_cases hbig:q>100000000000000
  ·rw [if_pos hbig] at hp ⊢
   repeat' ((conv=>whnf);first | refine A7 m1 ?_ | refine A7 m2 ?_ | refine A7 hp ?_ | rw [e1] | rw [e2] | rw [e3] | rw [e4])
   conv=>whnf
   exact ⟨rfl,rfl⟩
  ·rw [if_neg hbig] at hp ⊢
   have w1:IntKind.i64.wrap (2 * r)=2 * r:=A9 (by omega) (by omega)
   have w2:IntKind.i64.wrap (q+1)=q+1:=A9 (by omega) (by omega)
   have w3:q.tmod 2=q % 2:=Int.tmod_eq_emod_of_nonneg hq0
   have m3:=A1x q st
   have m4:=A1x (q+1) st
   rcases (by omega:round=0∨round=1∨round=2) with rfl | rfl | rfl
   all_goals repeat' ((conv=>whnf);first | refine A7 m1 ?_ | refine A7 m2 ?_ | refine A7 m3 ?_ | refine A7 m4 ?_ | refine A7 hp ?_ | rw [e1] | rw [e2] | rw [e3] | rw [e4] | rw [w1] | rw [w2] | rw [w3] | (refine C3 (fun h=>?_) (fun h=>?_)<;>rw [h]))
   all_goals (conv=>whnf)
   all_goals (refine ⟨?_,rfl⟩;show AV.tuple [AV.int .i64 _,AV.int .i64 _]=AV.tuple [AV.int .i64 _,AV.int .i64 _])
   all_goals (simp only [Q9,Bool.not_eq_true',Bool.not_eq_false',decide_eq_true_eq,decide_eq_false_iff_not,beq_iff_eq,beq_eq_false_iff_ne,ne_eq,Q8,Bool.and_eq_true,Bool.and_eq_false_iff,if_true,if_false,Int.reduceEq] at *)
   all_goals (repeat' split)
   all_goals first | rfl | (exfalso;omega)
theorem C2w (x:Int) (st:St):S P 175 [eI x,eI x] st fun v st'=>v=.bool true∧st'=st:=by
 refine A8 [] B8 mixed Tryz.func175 (by rfl) rfl rfl rfl ?_;conv=>whnf
 refine ⟨?_,rfl⟩
 show AV.bool (x==x)=_
 rw [beq_self_eq_true]
theorem B9X (x:A0D) (st:St):S P 177 [A3i x,A3i x] st fun v st'=>v=.bool true∧st'=st:=by
 refine A8 [2,3] B8 mixed Tryz.func177 (by rfl) rfl rfl rfl ?_;conv=>whnf
 refine ⟨?_,rfl⟩
 show AV.bool ((x.id.toList==x.id.toList)&&((x.off==x.off)&&true))=AV.bool true
 rw [beq_self_eq_true,beq_self_eq_true];rfl
theorem B5W (l:List Int) (hl:Sm l.length) (st:St):S P 174 [A6 l,A6 l,.fn (.func 175) [] []] st fun v st'=>v=.bool true∧st'=st:=by
 refine A8 [] B8 mixed Tryz.func174 (by rfl) rfl rfl rfl ?_;conv=>whnf
 rw [show ((l.length:Int) != (l.length:Int))=false from bne_self_eq_false _];conv=>whnf
 refine lp l.length [0,1,2,7] (fun i vs s=>vs=[A6 l,A6 l,.fn (.func 175) [] [],eI i]∧s=st) ?_ ?_
 ·conv=>whnf
  exact ⟨rfl,rfl⟩
 ·rintro i vs s hi ⟨rfl,rfl⟩
  conv=>whnf
  cases h:decide ((i:Int)<(l.length:Int))
  ·obtain rfl:=C6 h hi
   conv=>whnf
   exact ⟨rfl,rfl⟩
  ·have hi':=E4 h
   conv=>whnf
   refine ⟨[],[],List.range 11,by kernel_rfl,?_⟩;conv=>whnf
   refine ⟨rfl,⟨by omega,by omega⟩,?_⟩;conv=>whnf
   refine ⟨rfl,⟨by omega,by omega⟩,?_⟩;conv=>whnf
   refine ⟨_,D1 (C2w _ _),?_⟩;conv=>whnf
   refine ⟨rfl,?_⟩;conv=>whnf
   exact nx hi' ⟨by rw [B9 (by omega)],rfl⟩
theorem B4y (l:List A0D) (hl:Sm l.length) (st:St):S P 176 [B2 2 A3i l,B2 2 A3i l,.fn (.func 177) [] []] st fun v st'=>v=.bool true∧st'=st:=by
 refine A8 [] B8 mixed Tryz.func176 (by rfl) rfl rfl rfl ?_;conv=>whnf
 rw [show ((l.length:Int) != (l.length:Int))=false from bne_self_eq_false _];conv=>whnf
 refine lp l.length [0,1,2,7] (fun i vs s=>vs=[B2 2 A3i l,B2 2 A3i l,.fn (.func 177) [] [],eI i]∧s=st) ?_ ?_
 ·conv=>whnf
  exact ⟨rfl,rfl⟩
 ·rintro i vs s hi ⟨rfl,rfl⟩
  conv=>whnf
  cases h:decide ((i:Int)<(l.length:Int))
  ·obtain rfl:=C6 h hi
   conv=>whnf
   exact ⟨rfl,rfl⟩
  ·have hi':=E4 h
   conv=>whnf
   refine ⟨[],[],List.range 11,by kernel_rfl,?_⟩;conv=>whnf
   refine ⟨rfl,⟨by omega,by omega⟩,?_⟩;conv=>whnf
   refine ⟨rfl,⟨by omega,by omega⟩,?_⟩;conv=>whnf
   refine ⟨_,D1 (B9X _ _),?_⟩;conv=>whnf
   refine ⟨rfl,?_⟩;conv=>whnf
   exact nx hi' ⟨by rw [B9 (by omega)],rfl⟩
theorem A8p (l:List Int) (hl:Sm l.length) (st:St):S P 100 [A6 l,A6 l] st fun v st'=>v=.bool true∧st'=st:=by
 refine A8 [] B8 mixed Tryz.func100 (by rfl) rfl rfl rfl ?_;conv=>whnf
 refine A7 (B5W l hl _) ?_;conv=>whnf
 exact ⟨rfl,rfl⟩
theorem B2y (l:List A0D) (hl:Sm l.length) (st:St):S P 101 [B2 2 A3i l,B2 2 A3i l] st fun v st'=>v=.bool true∧st'=st:=by
 refine A8 [] B8 mixed Tryz.func101 (by rfl) rfl rfl rfl ?_;conv=>whnf
 refine A7 (B4y l hl _) ?_;conv=>whnf
 exact ⟨rfl,rfl⟩
theorem B2M (t:Z9) (x rate:Int) (hr:0≤rate∧rate≤10000) (st:St):S P 218 [L7 t,eI x,eI rate] st fun v st'=>v=eI (B6 t x rate)∧st'=st:=by
 have hM:B6 t x rate=(U2 x rate (A7H t rate) t.round).1:=rfl
 have hw:IntKind.i64.wrap (10000+rate)=10000+rate:=A9 (by omega) (by omega)
 refine A8 [3] B8 mixed Tryz.func218 (by rfl) rfl rfl rfl ?_;conv=>whnf
 cases hi:t.incl
 ·have hd:A7H t rate=10000:=by unfold A7H;rw [if_neg (by rw [hi];simp)];rfl
  conv=>whnf
  refine A7 (B0j x rate 10000 t.round st) ?_
  rw [hM,hd]
  generalize U2 x rate 10000 t.round=Y
  conv=>whnf
  exact ⟨rfl,rfl⟩
 ·have hd:A7H t rate=10000+rate:=by unfold A7H;rw [if_pos hi]
  conv=>whnf
  rw [hw]
  refine A7 (B0j x rate (10000+rate) t.round st) ?_
  rw [hM,hd]
  generalize U2 x rate (10000+rate) t.round=Y
  conv=>whnf
  exact ⟨rfl,rfl⟩
theorem B8x (z:K3) (c:D6) (hl:z.rates.length≤100000) (st:St):S P 219 [Q3 z,eS c] st fun v st'=>v=eI (E6 z c)∧st'=st:=by
 refine A8 [2] B8 mixed Tryz.func219 (by rfl) rfl rfl rfl ?_;conv=>whnf
 refine lp z.rates.length [1,2,5] (fun i vs t=>(∀ j,j<i→((z.rates.getD j default).cat.toList==c.toList)=false)∧vs=[eS c,.fptr (Q3 z) 0,eI i]∧t=st) ?_ ?_
 ·conv=>whnf
  exact ⟨fun j hj=>absurd hj (by omega),rfl,rfl⟩
 ·rintro i vs t hi ⟨hno,rfl,rfl⟩
  conv=>whnf
  cases h1:decide ((i:Int)<(z.rates.length:Int))
  ·obtain rfl:=C6 h1 hi
   have hf:E6 z c=z.rest:=by unfold E6;rw [A8S hno]
   rw [hf];conv=>whnf
   exact ⟨rfl,rfl⟩
  ·have hi':=E4 h1
   conv=>whnf
   refine ⟨rfl,⟨by omega,by omega⟩,?_⟩;conv=>whnf
   refine C3 (fun h2=>?_) (fun h2=>?_)<;>rw [h2]
   ·have hf:E6 z c=(z.rates.getD (i:Int).toNat default).rate:=by unfold E6;rw [A8R (p:=fun x:G8=>x.cat.toList==c.toList) hi' h2 hno];rfl
    rw [hf];conv=>whnf
    refine ⟨rfl,⟨by omega,by omega⟩,?_⟩;conv=>whnf
    exact ⟨rfl,rfl⟩
   ·conv=>whnf
    refine ⟨rfl,?_⟩;conv=>whnf
    exact nx hi' ⟨J8 hno h2,by rw [B9 (by omega)],rfl⟩
theorem B1A (t:Z9) (s:D6) (hl:t.zones.length≤100000) (st:St) :
  S P 217 [L7 t,eS s] st fun v st'=>v=.tuple [Q3 ((S4 t.zones s).getD B7w),.bool (S4 t.zones s).isSome]∧st'=st:=by
 refine S.post (post:=fun v s'=>D7 st s'∧((∃ z,S4 t.zones s=some z∧v=.tuple [Q3 z,.bool true])∨(S4 t.zones s=none∧v=.tuple [.agg [eS ⟨#[]⟩,.emp,eI 0,eI 0],.bool false]))) ?_ (fun v s' ⟨hs,h⟩=>⟨_,st,⟨rfl,rfl⟩,by
  rcases h with ⟨z,h1,rfl⟩ | ⟨h1,rfl⟩
  ·rw [h1];exact hs.shift _
  ·rw [h1]
   exact (B0.tuple (B0.cons (Le.shift (Le.agg (F7.cons (Le.refl _) (F7.cons (Le.emp _ _) (F7.refl _)))) _) (B0.keep _ _)) rfl).trans (hs.shift _)⟩)
 refine A8 [2] B8 mixed Tryz.func217 (by rfl) rfl rfl rfl ?_;conv=>whnf
 intro b4 hb4;conv=>whnf
 refine lp t.zones.length [1,2,4,6] (fun i vs u=>(∀ j,j<i→((t.zones.getD j default).name.toList==s.toList)=false)∧vs=[eS s,.fptr (L7 t) 0,.optr 4 b4 0 0,eI i]∧u=upd st b4 ⟨184,4,1,fun _=>G9 B8t.zero⟩) ?_ ?_
 ·conv=>whnf
  exact ⟨fun j hj=>absurd hj (by omega),rfl,rfl⟩
 ·rintro i vs u hi ⟨hno,rfl,rfl⟩
  conv=>whnf
  cases h1:decide ((i:Int)<(t.zones.length:Int))
  ·obtain rfl:=C6 h1 hi
   have hf:S4 t.zones s=none:=A8S hno
   conv=>whnf
   refine G6 (A0 ..) rfl (by omega) rfl (by rfl) ?_;conv=>whnf
   refine D9 (A0 ..) rfl (by omega) (A2 ..) ?_;conv=>whnf
   exact ⟨((D7.refl st).upd hb4).over hb4,.inr ⟨hf,rfl⟩⟩
  ·have hi':=E4 h1
   conv=>whnf
   refine ⟨rfl,⟨by omega,by omega⟩,?_⟩;conv=>whnf
   refine C3 (fun h2=>?_) (fun h2=>?_)<;>rw [h2]
   ·have hf:S4 t.zones s=some (t.zones.getD (i:Int).toNat default):=A8R (p:=fun z:K3=>z.name.toList==s.toList) hi' h2 hno
    conv=>whnf
    refine ⟨rfl,⟨by omega,by omega⟩,?_⟩;conv=>whnf
    refine G6 (A0 ..) rfl (by omega) rfl (by rfl) ?_;conv=>whnf
    refine D9 (A0 ..) rfl (by omega) (A2 ..) ?_;conv=>whnf
    exact ⟨((D7.refl st).upd hb4).over hb4,.inl ⟨_,hf,rfl⟩⟩
   ·conv=>whnf
    refine ⟨rfl,?_⟩;conv=>whnf
    exact nx hi' ⟨J8 hno h2,by rw [B9 (by omega)],rfl⟩
theorem B4z (q:A4f) (h1:Sm q.goods.length) (h2:Sm q.taxes.length) (h3:Sm q.deals.length) (st:St):S P 53 [A0l q,A0l q] st fun v st'=>v=.bool true∧st'=st:=by
 have c1:=fun s=>A8p q.goods h1 s
 have c2:=fun s=>A8p q.taxes h2 s
 have c3:=fun s=>B2y q.deals h3 s
 have w8:∀ x:Int,(x==x)=true:=fun x=>beq_self_eq_true x
 refine A8 [2,3] B8 mixed Tryz.func53 (by rfl) rfl rfl rfl ?_
 repeat' ((conv=>whnf);first | refine A7 (c1 _) ?_ | refine A7 (c2 _) ?_ | refine A7 (c3 _) ?_ | rw [w8])
 all_goals
  conv=>whnf
  exact ⟨rfl,rfl⟩
end Go.Proofs.YthdimklenlikgaaGreat
namespace Go.Proofs.YthdimklenlikgaaGreat
open Go Go.Ab
def B9W (rates:List Int) (i:Nat):QE:=(-(gI rates i),(i:Int))
def B6K (rates:List Int):List QE:=(List.range rates.length).map (B9W rates)
def A8v (rates:List Int):List QE:=(B6K rates).mergeSort fun a b=>!G7 b a
theorem A7p (rates:List Int):(A8v rates).Pairwise fun a b=>G7 b a=false:=by
 have:=List.pairwise_mergeSort (le:=fun a b:QE=>!G7 b a) (fun a b c h1 h2=>by simp only [Bool.not_eq_true'] at *;exact Y8 h2 h1) (fun a b=>by
  cases h:G7 b a with
  | false=>rfl
  | true=>rw [X6 h];rfl) (B6K rates)
 exact this.imp (fun h=>by simpa using h)
theorem A4c (rates:List Int):(A8v rates).Perm (B6K rates):=List.mergeSort_perm ..
def K0 (rates:List Int) (k:Int):List Nat:=(List.range rates.length).filter fun i=>-(gI rates i)==k
theorem B8L (rates:List Int) (k:Int):(A8v rates).filter (fun e=>e.1==k)=(K0 rates k).map fun i:Nat=>(k,(i:Int)):=by
 have h1:((A8v rates).filter (fun e=>e.1==k)).Perm ((K0 rates k).map fun i:Nat=>(k,(i:Int))):=by
  refine ((A4c rates).filter _).trans ?_
  unfold B6K K0
  rw [List.filter_map]
  refine List.Perm.of_eq ?_
  refine List.map_congr_left fun i hi=>?_
  have:=(List.mem_filter.1 hi).2
  show (-(gI rates i),(i:Int))=(k,(i:Int))
  have h : -(gI rates i)=k:=by simpa [B9W] using this
  rw [h]
 refine h1.eq_of_pairwise (le:=fun a b=>G7 b a=false) (fun a b _ _ h3 h4=>(A3p h4 h3)) (List.Pairwise.sublist List.filter_sublist (A7p rates)) ?_
 refine List.pairwise_map.2 ?_
 unfold K0
 refine (List.Pairwise.sublist List.filter_sublist List.pairwise_lt_range).imp fun {a b} hab=>?_
 rw [P8]
 show ¬(k>k∨k=k∧(b:Int)<(a:Int))
 omega
theorem B8M {E:List QE} (hs:E.Pairwise fun a b=>G7 b a=false) {k:Int} (hk:∀ e∈E,e.1≤k):E=E.filter (fun e=>e.1==k)++E.filter (fun e=>!(e.1==k)):=by
 induction E with
 | nil=>rfl
 | cons e E ih =>
  have hs':=List.pairwise_cons.1 hs
  by_cases h:e.1=k
  ·rw [List.filter_cons_of_pos (by simpa using h),List.filter_cons_of_neg (by simpa using h),List.cons_append,←ih hs'.2 fun x hx=>hk x (List.mem_cons_of_mem _ hx)]
  ·have hlt:∀ x∈E,x.1<k:=fun x hx=>by
    have h1:=(P8 _ _).1 (hs'.1 x hx)
    have h2:=hk e (List.mem_cons_self ..)
    omega
   have hn:E.filter (fun e=>e.1==k)=[]:=List.filter_eq_nil_iff.2 fun x hx=>by have:=hlt x hx;simp;omega
   have ha:E.filter (fun e=>!(e.1==k))=E:=List.filter_eq_self.2 fun x hx=>by have:=hlt x hx;simp;omega
   rw [List.filter_cons_of_neg (by simpa using h),List.filter_cons_of_pos (by simpa using h),hn,ha];rfl
def A0M (rates:List Int) (D:Int→Bool):List QE:=(A8v rates).filter fun e=>!D e.1
theorem A6V (rates:List Int) (D:Int→Bool):(A0M rates D).Pairwise fun a b=>G7 b a=false:=List.Pairwise.sublist List.filter_sublist (A7p rates)
theorem B5t {rates:List Int} {D:Int→Bool} {x:QE} {E:List QE} (h:A0M rates D=x::E) :
  D x.1=false∧x::E=((K0 rates x.1).map fun i:Nat=>(x.1,(i:Int)))++A0M rates (fun y=>D y||y==x.1):=by
 have hs:=A6V rates D
 have hx:x∈A0M rates D:=by rw [h];exact List.mem_cons_self ..
 have hD:D x.1=false:=by
  have:=(List.mem_filter.1 hx).2
  simpa using this
 refine ⟨hD,?_⟩
 have hk:∀ e∈A0M rates D,e.1≤x.1:=fun e he=>by
  rw [h] at he hs
  rcases List.mem_cons.1 he with rfl | he
  ·exact Int.le_refl _
  ·have:=(P8 _ _).1 ((List.pairwise_cons.1 hs).1 e he);omega
 have h2:=B8M hs hk
 rw [←h,h2]
 congr 1
 ·rw [←B8L]
  unfold A0M
  rw [List.filter_filter]
  refine List.filter_congr fun e he=>?_
  by_cases e1:e.1=x.1
  ·rw [e1,hD];simp
  ·simp [e1]
 ·unfold A0M
  rw [List.filter_filter]
  refine List.filter_congr fun e he=>?_
  show (!(e.1==x.1)&&!D e.1)=!(D e.1||e.1==x.1)
  rw [Bool.not_or,Bool.and_comm]
theorem B2m {rates:List Int} {D:Int→Bool} {k:Int}:∀ y∈A0M rates (fun z=>D z||z==k),(y.1==k)=false:=fun y hy=>by
 have:=(List.mem_filter.1 hy).2
 simp only [Bool.not_eq_true',Bool.or_eq_false_iff] at this
 exact this.2
theorem B3J (rates:List Int):A0M rates (fun _=>false)=A8v rates:=List.filter_eq_self.2 fun x _=>rfl
theorem Y4 {rates:List Int} {k:Int} {i:Nat} (hi:i∈K0 rates k) : -(gI rates i)=k∧i<rates.length∧A6X rates i=K0 rates k:=by
 have h1:=List.mem_filter.1 hi
 have h2 : -(gI rates i)=k:=by simpa using h1.2
 refine ⟨h2,List.mem_range.1 h1.1,?_⟩
 unfold A6X K0
 refine List.filter_congr fun j _=>?_
 rw [Bool.eq_iff_iff,beq_iff_eq,beq_iff_eq];omega
theorem B1p (rates:List Int) (k:Int):(K0 rates k).Nodup:=List.Pairwise.sublist List.filter_sublist List.nodup_range
theorem C2D {rates:List Int} {k:Int} {j:Nat} (hj:j<(K0 rates k).length):Y6 rates ((K0 rates k)[j])=j:=by
 have hm:=Y4 (List.getElem_mem hj)
 have h1:=A6Y hm.2.1
 rw [hm.2.2] at h1
 have h2:=List.getElem?_eq_some_iff.1 h1
 obtain ⟨h3,h4⟩:=h2
 have:=(List.nodup_iff_pairwise_ne.1 (B1p rates k))
 rcases Nat.lt_trichotomy (Y6 rates ((K0 rates k)[j])) j with e | e | e
 ·exact absurd h4 (List.pairwise_iff_getElem.1 this _ _ h3 hj e)
 ·exact e
 ·exact absurd h4.symm (List.pairwise_iff_getElem.1 this _ _ hj h3 e)
def A1I (t:Z9) (rates nets:List Int) (k:Int):List Int:=D5 (B6 t (A5 ((K0 rates k).map (gI nets))) (-k)) ((K0 rates k).map (gI nets))
theorem C0C {t:Z9} {rates nets:List Int} {k:Int} {j:Nat} (hj:j<(K0 rates k).length):gI (A1I t rates nets k) j=A0Q t rates nets ((K0 rates k)[j]):=by
 have hm:=Y4 (List.getElem_mem hj)
 unfold A1I A0Q I1
 rw [C2D hj,hm.2.2,show gI rates ((K0 rates k)[j]) = -k by omega]
end Go.Proofs.YthdimklenlikgaaGreat
namespace Go.Ab
open Go
theorem B8z {w:World} {st st':St} (h:∀ b,st b=none↔st' b=none):A2t w st=A2t w st':=by
 funext a
 unfold A2t
 cases h1:st a.block with
 | none=>rw [(h _).1 h1]
 | some x =>
  cases h2:st' a.block with
  | none=>rw [(h _).2 h2] at h1;cases h1
  | some y=>rfl
theorem B0.cell {vs:List AV} {st st2:St} {a i:Nat} {y:R3} {sv v':AV} {pre post:List AV} (h:B0 [sv] st [v'] st2) (hy:st a=some y) (hy2:st2 a=some y) (hi:i<y.n)
  (hf:y.f i=.agg (pre++sv::post)) (h1:v'.one=true):B0 vs st vs (upd st2 a { y with f:=C9 y.f i (.agg (pre++v'::post)) }):=fun w cs hS hR=>by
 obtain ⟨ds,hok⟩:=hS a y hy
 obtain ⟨c,hc1,hc2⟩:=hok.cell i pre.length sv hi (by rw [hf];show (pre++sv::post)[pre.length]?=some sv;simp)
 obtain ⟨hS2,hR2,hE⟩:=h w #[c] hS ⟨rfl,fun k z c' hz hc'=>by
  cases k with
  | zero=>simp at hz hc';subst hz;subst hc';exact hc2
  | succ k=>simp at hz⟩
 have hv:L0 w st2 v' c:=hR2.2 0 v' c rfl rfl
 have e:A2t w (upd st2 a { y with f:=C9 y.f i (.agg (pre++v'::post)) })=A2t w st2:=B8z fun b=>by
  by_cases eb:b=a
  ·subst eb;rw [A0,hy2];constructor<;>(intro h0;cases h0)
  ·rw [A4 eb]
 have hrep:∀ v c,L0 w st2 v c→L0 w (upd st2 a { y with f:=C9 y.f i (.agg (pre++v'::post)) }) v c:=fun v c hv=>by
  show Rep (A2t w _) _ _ _
  rw [e];exact hv
 refine ⟨fun b x hb=>?_,⟨hR.1,fun k y c hy hc=>hrep _ _ (hE.rep (hR.2 k y c hy hc))⟩,⟨hE.os,hE.tape,hE.output,hE.size,fun b hb hn=>⟨(hE.blk b hb hn).1,?_⟩,hE.szm⟩⟩
 ·by_cases eb:b=a
  ·subst eb
   rw [A0] at hb;cases hb
   obtain ⟨ds2,hok2⟩:=hS2 b y hy2
   have hds:ds2=ds:=by
    have h3:=hok2.heap
    rw [hok.heap] at h3
    cases h3;rfl
   subst hds
   have hlen:=hok2.len i hi
   have hone:=hok2.one i hi
   rw [hf] at hlen hone
   refine ⟨ds2,hok2.heap,hok2.size,fun k hk=>?_,fun k hk=>?_,fun k m z hk hz=>?_⟩
   ·by_cases ek:k=i
    ·subst ek
     show (cellsOf (C9 y.f k _ k)).length=y.e
     unfold C9;rw [if_pos rfl,←hlen]
     show (pre++v'::post).length=(pre++sv::post).length
     simp
    ·show (cellsOf (C9 y.f i _ k)).length=y.e
     unfold C9;rw [if_neg ek];exact hok2.len k hk
   ·by_cases ek:k=i
    ·subst ek
     show (cellsOf (C9 y.f k _ k)).all AV.one=true
     unfold C9;rw [if_pos rfl]
     have hone':(pre++sv::post).all AV.one=true:=hone
     show (pre++v'::post).all AV.one=true
     simp only [List.all_append,List.all_cons,Bool.and_eq_true] at hone' ⊢
     exact ⟨hone'.1,h1,hone'.2.2⟩
    ·show (cellsOf (C9 y.f i _ k)).all AV.one=true
     unfold C9;rw [if_neg ek];exact hok2.one k hk
   ·have hz:(cellsOf (C9 y.f i (.agg (pre++v'::post)) k))[m]?=some z:=hz
    unfold C9 at hz
    by_cases ek:k=i
    ·subst ek
     rw [if_pos rfl] at hz
     have hz:(pre++v'::post)[m]?=some z:=hz
     by_cases em:m=pre.length
     ·subst em
      simp at hz
      subst hz
      exact ⟨c,hc1,hrep _ _ hv⟩
     ·have e3:(pre++sv::post)[m]?=some z:=by
       rw [←hz]
       by_cases hm:m<pre.length
       ·rw [List.getElem?_append_left hm,List.getElem?_append_left hm]
       ·rw [List.getElem?_append_right (by omega),List.getElem?_append_right (by omega)]
        obtain ⟨q,hq⟩:∃ q,m - pre.length=q+1:=⟨m - pre.length - 1,by omega⟩
        rw [hq];rfl
      obtain ⟨c',k1,k2⟩:=hok2.cell k m z hk (by rw [hf];exact e3)
      exact ⟨c',k1,hrep _ _ k2⟩
    ·rw [if_neg ek] at hz
     obtain ⟨c',k1,k2⟩:=hok2.cell k m z hk hz
     exact ⟨c',k1,hrep _ _ k2⟩
  ·rw [A4 eb] at hb
   obtain ⟨ds2,hok2⟩:=hS2 b x hb
   exact ⟨ds2,hok2.heap,hok2.size,hok2.len,hok2.one,fun k m z hk hz=>by
    obtain ⟨c',k1,k2⟩:=hok2.cell k m z hk hz
    exact ⟨c',k1,hrep _ _ k2⟩⟩
 ·have:=(hE.blk b hb hn).2
  have eb:b≠a:=fun h=>by rw [h,hy] at hn;cases hn
  rw [A4 eb];exact this
end Go.Ab
namespace Go.Proofs.YthdimklenlikgaaGreat
open Go Go.Ab
attribute [local irreducible] upd del
abbrev A6h (l:List G8):Nat→AV:=fun i=>A0c (l.getD i default)
def A1E (zs:Nat→List G8) (sv:Nat→AV):Nat→St→St→Prop
 | 0=>D7
 | k+1=>fun s t=>ROut (A1E zs sv k) 218 2 (A6h (zs k)) (zs k).length s (sv k) t
theorem A1w (zs:Nat→List G8) (sv:Nat→AV):∀ k,J5 (A1E zs sv k)
 | 0=>B1
 | k+1=>D8 (A1w zs sv k) _ _ _ _ _
theorem A8k {zs zs':Nat→List G8} {sv sv':Nat→AV}:∀ (k:Nat) {s t:St},(∀ j,j<k→zs j=zs' j∧sv j=sv' j)→A1E zs sv k s t→A1E zs' sv' k s t
 | 0,s,t,_,h=>h
 | k+1,s,t,he,h=>by
  obtain ⟨s0,h1,h2⟩:=h
  obtain ⟨e1,e2⟩:=he k (Nat.lt_succ_self k)
  rw [e1,e2] at h1
  exact ⟨s0,h1,A8k k (fun j hj=>he j (Nat.lt_succ_of_lt hj)) h2⟩
theorem A6R {bz n ty:Nat} {zs:Nat→List G8} {sv:Nat→AV} {nm:Nat→D6} {r1 r2:Nat→Int}:∀ (k:Nat) (s t:St) (g:Nat→AV),k≤n→A1E zs sv k s t→s bz=some ⟨ty,4,n,g⟩→(∀ j,j<k→g j=.agg [eS (nm j),sv j,eI (r1 j),eI (r2 j)]) →
  ∃ t' g',(∀ vs,B0 vs t vs t')∧D7 (upd s bz ⟨ty,4,n,g'⟩) t'∧(∀ j,j<k→g' j=.agg [eS (nm j),B2 2 A0c (zs j),eI (r1 j),eI (r2 j)])∧∀ j,k≤j→g' j=g j
 | 0,s,t,g,hk,h,hs,hg=>by
  refine ⟨t,g,fun vs=>B0.refl _ _,fun b x hb=>?_,fun j hj=>absurd hj (by omega),fun j _=>rfl⟩
  by_cases e:b=bz
  ·subst e;rw [A0] at hb;cases hb;exact h _ _ hs
  ·rw [A4 e] at hb;exact h _ _ hb
 | k+1,s,t,g,hk,h,hs,hg=>by
  have hB:=A1w zs sv k
  have ht:t bz=some ⟨ty,4,n,g⟩:=(A1w zs sv (k+1)).sup h _ _ hs
  obtain ⟨t1,hsh,hc⟩:=ROut.shift hB h
  have ht1:t1 bz=some ⟨ty,4,n,g⟩:=hB.sup hc _ _ hs
  have hcell:=fun vs=>B0.cell (vs:=vs) (pre:=[eS (nm k)]) (post:=[eI (r1 k),eI (r2 k)]) hsh ht ht1 (show k<n by omega) (hg k (by omega)) rfl
  have hc':=hB.write (y':=⟨ty,4,n,C9 g k (.agg ([eS (nm k)]++AV.arr 2 (zs k).length (A6h (zs k))::[eI (r1 k),eI (r2 k)]))⟩) hc hs
  obtain ⟨t',g',k1,k2,k3,k4⟩:=A6R (nm:=nm) (r1:=r1) (r2:=r2) k _ _ _ (by omega) hc' (A0 ..) (fun j hj=>by rw [H7 (by omega)];exact hg j (by omega))
  rw [B7] at k2
  refine ⟨t',g',fun vs=>(hcell vs).trans (k1 vs),k2,fun j hj=>?_,fun j hj=>?_⟩
  ·by_cases e:j=k
   ·subst e;rw [k4 j (Nat.le_refl _),A2];rfl
   ·exact k3 j (by omega)
  ·rw [k4 j (by omega),H7 (by omega)]
theorem ROut.putB {R:St→St→Prop} (hR:J5 R) {ty e n b:Nat} {fo:Nat→AV} {s t:St} {sv:AV} {y:R3} (h:ROut R ty e fo n (upd s b y) sv t) (y':R3):ROut R ty e fo n (upd s b y') sv (upd t b y'):=by
 have:=ROut.write (y':=y') hR h (A0 ..)
 rwa [B7] at this
theorem C1N (k:Nat) (h:k<3):(⟨#[122]⟩:D6)++B0t ([]++[IntKind.u8.wrap (48+IntKind.u8.wrap (k:Int))])=O9 k:=by rw [B0B];rfl
theorem B4e {l:List K3} {k:Nat} (h:k<l.length):E0 l k=⟨O9 k,Q6 (l.getD k default).rates,C5 (l.getD k default).rest 3000,C5 (l.getD k default).ship 3000⟩:=if_pos h
theorem B2F {l:List K3} {k:Nat} (h:¬ k<l.length):E0 l k=⟨O9 k,[],1000 * k,500 * k⟩:=if_neg h
theorem C3i {l:List G8} {c:Nat} (hc:c<min 3 l.length):(Q6 l).getD c default=A7f l c:=by
 unfold Q6
 rw [List.getD_eq_getElem?_getD,List.getElem?_map,List.getElem?_range hc];rfl
abbrev B0H (z:K3) (rv:AV):AV:=.agg [eS z.name,rv,eI z.rest,eI z.ship]
def ZO (t:Z9) (k:Nat) (base:St) (zv:AV) (s:St):Prop :=
 ∃ (sv g:Nat→AV),ROut (A1E (fun j=>(E0 t.zones j).rates) sv k) 184 4 g k base zv s∧∀ j,j<k→g j=B0H (E0 t.zones j) (sv j)
theorem ZO.end {t:Z9} {base s:St} {zv:AV} (h:ZO t 3 base zv s):∃ t',B0 [zv] s [B2 4 Q3 (K2 t).zones] t'∧D7 base t':=by
 obtain ⟨sv,g,⟨s1,hcol,hch⟩,hg⟩:=h
 rcases hcol with ⟨h0,_,_⟩ | ⟨h0,bz,g0,hbz,rfl,rfl,hgg⟩
 ·cases h0
 obtain ⟨t',g',hsh,hsup,hg',_⟩:=A6R (nm:=fun j=>(E0 t.zones j).name) (r1:=fun j=>(E0 t.zones j).rest) (r2:=fun j=>(E0 t.zones j).ship) 3 _ s g0 (Nat.le_refl _) hch (A0 ..) (fun j hj=>by rw [hgg j hj,hg j hj])
 rw [B7] at hsup
 refine ⟨del t' bz,(hsh _).trans (G0 (hsup bz _ (A0 ..)) rfl (Nat.le_refl _) fun i hi=>?_),?_⟩
 ·show g' i=Q3 ((K2 t).zones.getD i default)
  rw [hg' i hi]
  have:(K2 t).zones.getD i default=E0 t.zones i:=by
   show ((List.range 3).map (E0 t.zones)).getD i default=_
   rw [List.getD_eq_getElem?_getD,List.getElem?_map,List.getElem?_range hi];rfl
  rw [this];rfl
 ·exact D7.del (((D7.refl base).upd hbz).trans hsup) hbz
theorem ZO.next {t:Z9} {k:Nat} {base s1 s:St} {zv rv:AV} {sv g:Nat→AV} (hcol:M8 184 4 g base k zv s1) (hR:ROut (A1E (fun j=>(E0 t.zones j).rates) sv k) 218 2 (A6h (E0 t.zones k).rates) (E0 t.zones k).rates.length s1 rv s) (hg:∀ j,j<k→g j=B0H (E0 t.zones j) (sv j)) :
  ∃ sv' g',ROut (A1E (fun j=>(E0 t.zones j).rates) sv' (k+1)) 184 4 g' k base zv s∧sv' k=rv∧(∀ j,j<k+1→g' j=B0H (E0 t.zones j) (sv' j)):=by
 have hsv:∀ j,j<k→sv j=(fun j=>if j=k then rv else sv j) j:=fun j hj=>by simp only;rw [if_neg (by omega)]
 refine ⟨fun j=>if j=k then rv else sv j,fun j=>B0H (E0 t.zones j) (if j=k then rv else sv j),⟨s1,M8.congr hcol fun j hj=>by rw [hg j hj];show B0H _ _=B0H _ (if j=k then rv else sv j);rw [if_neg (by omega)],?_⟩,by simp,fun j _=>rfl⟩
 obtain ⟨s2,h1,h2⟩:=hR
 refine ⟨s2,?_,A8k k (fun j hj=>⟨rfl,hsv j hj⟩) h2⟩
 simp only [if_true];exact h1
theorem B4G {R:St→St→Prop} {ty e n b:Nat} {fo:Nat→AV} {base s:St} {zv:AV} {y:R3} (h:ROut R ty e fo n (upd base b y) zv (upd s b y)) (ty' e':Nat) (fo':Nat→AV):∃ s1,M8 ty e fo (upd base b y) n zv s1∧ROut R ty' e' fo' 0 s1 .emp (upd s b y):=by
 obtain ⟨s1,h1,h2⟩:=h
 exact ⟨s1,h1,ROut.start h2 _ _ _⟩
theorem C3w {R:St→St→Prop} (hR:J5 R) {ty e n b ty' e' m:Nat} {fo fo':Nat→AV} {base s1 t:St} {zv rv:AV} {y:R3} (h1:M8 ty e fo (upd base b y) n zv s1) (h2:ROut R ty' e' fo' m s1 rv t) (y':R3) :
  ∃ s1',M8 ty e fo (upd base b y') n zv s1'∧ROut R ty' e' fo' m s1' rv (upd t b y'):=by
 have h3:=M8.write (y':=y') h1 (A0 ..)
 rw [B7] at h3
 exact ⟨_,h3,ROut.write hR h2 (h1.sup b _ (A0 ..))⟩
set_option maxHeartbeats 8000000 in
theorem B8p (x:Z9) (st:St):S P 74 [L7 x] st fun v st'=>v=L7 (K2 x)∧st'=st:=by
 have hE:L7 (K2 x)=.agg [eB x.incl,eB x.byOrder,eI (C5 x.round 3),B2 4 Q3 (K2 x).zones]:=rfl
 refine S.post (post:=fun v s=>∃ zv base,v=.agg [eB x.incl,eB x.byOrder,eI (C5 x.round 3),zv]∧B0 [zv] s [B2 4 Q3 (K2 x).zones] base∧D7 st base) ?_ (fun v s ⟨zv,base,h1,h2,h3⟩=>⟨_,st,⟨hE.symm,rfl⟩,by
  rw [h1]
  exact (B0.agg (B0.cons (B0.keep [eB x.incl] _) (B0.cons (B0.keep [eB x.byOrder] _) (B0.cons (B0.keep [eI (C5 x.round 3)] _) h2)))).trans (h3.shift _)⟩)
 clear hE
 have hRd:=fun s=>A0y x.round 3 (by decide) (by decide) s
 obtain ⟨RD',hRD'⟩:∃ RD',RD'=C5 x.round 3:=⟨_,rfl⟩
 rw [←hRD'] at hRd ⊢
 have hend:=fun base s zv=>ZO.end (t:=x) (base:=base) (s:=s) (zv:=zv)
 have hnext:=fun k base s1 s zv rv sv g=>ZO.next (t:=x) (k:=k) (base:=base) (s1:=s1) (s:=s) (zv:=zv) (rv:=rv) (sv:=sv) (g:=g)
 generalize B2 4 Q3 (K2 x).zones=ZS at hend ⊢
 refine A8 [1] B8 mixed Tryz.func74 (by rfl) rfl rfl rfl ?_;conv=>whnf
 intro b2 hb2;conv=>whnf
 refine ⟨[8,9],[1,3,5,6],List.range 10,by kernel_rfl,?_⟩;conv=>whnf
 refine ⟨_,fun s _=>⟨rfl,rfl⟩,?_⟩;conv=>whnf
 refine ⟨_,fun s _=>⟨rfl,rfl⟩,?_⟩;conv=>whnf
 refine ⟨_,fun s _=>⟨rfl,rfl⟩,?_⟩;conv=>whnf
 refine ⟨_,fun s _=>D1 (hRd s),?_⟩;conv=>whnf
 intro b3 hb3
 have h23:b2≠b3:=fun e=>by subst e;rw [A0] at hb3;cases hb3
 conv=>whnf
 refine G6 (A0 ..) rfl (by omega) rfl (by rfl) ?_
 rw [B7];conv=>whnf
 refine lp 3 [1,2,3,4] (fun k vs s=>∃ zv f,vs=[.fptr (L7 x) 0,.optr 4 b2 0 0,.optr 4 b3 0 0,eI k]∧f 0=.agg [eB x.incl,eB x.byOrder,eI RD',zv]∧ZO x k (upd (upd st b2 ⟨26,4,1,fun _=>G9 r26.zero⟩) b3 ⟨26,4,1,f⟩) zv s) ?_ ?_
 ·conv=>whnf
  exact ⟨.emp,_,rfl,by first | rfl | (rw [A2];rfl),fun _=>.junk,fun _=>.junk,ROut.start (show A1E _ _ 0 _ _ from D7.refl _) _ _ _,fun j hj=>absurd hj (by omega)⟩
 rintro k vs s hk ⟨zv,f,rfl,hf,sv,g,hR,hg⟩
 have hB:=A1w (fun j=>(E0 x.zones j).rates) sv k
 have hsup:=ROut.sup hB hR
 have at3:s b3=some ⟨26,4,1,f⟩:=hsup b3 _ (A0 ..)
 have at2:s b2=some ⟨26,4,1,fun _=>G9 r26.zero⟩:=hsup b2 _ (by rw [A4 h23];exact A0 ..)
 conv=>whnf
 refine C3 (fun h1=>?_) (fun h1=>?_)<;>rw [h1]<;>simp only [decide_eq_true_eq,decide_eq_false_iff_not] at h1
 case refine_2 =>
  obtain rfl:k=3:=by omega
  have hz:=ROut.head hR
  obtain ⟨y2,hy2⟩:∃ y2:R3,y2=⟨26,4,1,C9 (fun _=>G9 r26.zero) 0 (.agg [eB x.incl,eB x.byOrder,eI RD',zv])⟩:=⟨_,rfl⟩
  obtain ⟨base,k1,k2⟩:=hend _ _ _ ⟨sv,g,ROut.write hB hR (b:=b2) (y':=y2) (by rw [A4 h23];exact A0 ..),hg⟩
  subst hy2
  rcases hz with rfl | ⟨bz,rfl⟩
  all_goals
   conv=>whnf
   refine D9 at3 rfl (by omega) hf ?_;conv=>whnf
   refine G6 at2 rfl (by omega) rfl (by rfl) ?_;conv=>whnf
   refine D9 (A0 ..) rfl (by omega) (A2 ..) ?_;conv=>whnf
   exact ⟨_,base,rfl,k1,((((D7.refl st).upd hb2).upd hb3).over hb2).trans k2⟩
 have hk3:k<3:=by omega
 have hzn:=C1N k hk3
 have w1:IntKind.i64.wrap (1000 * (k:Int))=1000 * k:=A9 (by omega) (by omega)
 have w2:IntKind.i64.wrap (500 * (k:Int))=500 * k:=A9 (by omega) (by omega)
 have hname:∀ j,(E0 x.zones j).name=O9 j:=fun j=>by unfold E0;split<;>rfl
 conv=>whnf
 intro b5 hb5
 have h35:b3≠b5:=fun e=>by subst e;rw [at3] at hb5;cases hb5
 have h25:b2≠b5:=fun e=>by subst e;rw [at2] at hb5;cases hb5
 have hbase5:(upd (upd st b2 ⟨26,4,1,fun _=>G9 r26.zero⟩) b3 ⟨26,4,1,f⟩) b5=none:=hsup.none hb5
 conv=>whnf
 rw [hzn,w1,w2]
 refine G6 (A0 ..) rfl (by omega) rfl (by rfl) ?_
 rw [B7]
 /- the tail: the zone as it then stands is appended -/
 have tail:∀ (s2 s1:St) (rv:AV) (f5:Nat→AV),M8 184 4 g (upd (upd (upd st b2 ⟨26,4,1,fun _=>G9 r26.zero⟩) b3 ⟨26,4,1,f⟩) b5 ⟨184,4,1,f5⟩) k zv s1 →
   ROut (A1E (fun j=>(E0 x.zones j).rates) sv k) 218 2 (A6h (E0 x.zones k).rates) (E0 x.zones k).rates.length s1 rv s2 →
   ∀ (X:AV) (gg:Nat→AV),X9 4 s2 X=some (1,gg)→gg 0=B0H (E0 x.zones k) rv →
   ∀ (K:KK),(∀ zv' t2,t2 b3=some ⟨26,4,1,f⟩→(zv'=.emp∨∃ b,zv'=.own 4 b 0 (k+1))→(∀ f',ZO x (k+1) (upd (upd st b2 ⟨26,4,1,fun _=>G9 r26.zero⟩) b3 ⟨26,4,1,f'⟩) zv' (upd t2 b3 ⟨26,4,1,f'⟩))→K zv' t2) →
   A5j T 24 zv X s2 K:=by
  intro s2 s1 rv f5 hcol hrt X gg hs hgg K hK
  obtain ⟨sv',g',q1,q2,q3⟩:=hnext _ _ _ _ _ _ _ _ hcol hrt hg
  have hB':=A1w (fun j=>(E0 x.zones j).rates) sv' (k+1)
  refine ROut.app (q:=B8t) (f:=g') hB' rfl rfl rfl rfl hs (by rw [q3 k (Nat.lt_succ_self k),q2,hgg]) (by show (k+1) * 56≤140737488355328;omega) q1 (fun zv' t2 hR2=>?_)
  have hsup2:=ROut.sup hB' hR2
  have hd:∀ f',ROut (A1E (fun j=>(E0 x.zones j).rates) sv' (k+1)) 184 4 g' (k+1) (upd (upd st b2 ⟨26,4,1,fun _=>G9 r26.zero⟩) b3 ⟨26,4,1,f'⟩) zv' (upd t2 b3 ⟨26,4,1,f'⟩):=fun f'=>by
   have h1:=ROut.write hB' hR2 (b:=b3) (y':=⟨26,4,1,f'⟩) (by rw [A4 h35];exact A0 ..)
   rw [P9 h35.symm,B7] at h1
   refine (D8 hB' _ _ _ _ _).drop h1 ?_
   rw [A4 h35.symm] at hbase5 ⊢;exact hbase5
  exact hK zv' t2 (hsup2 b3 _ (by rw [A4 h35];exact A0 ..)) (ROut.head hR2) fun f'=>⟨sv',g',hd f',q3⟩
 have hbeg:=fun y=>(D8 hB 184 4 g k zv).begin (y:=y) hR hb5
 conv=>whnf
 refine C3 (fun h2=>?_) (fun h2=>?_)<;>rw [h2]<;>simp only [decide_eq_true_eq,decide_eq_false_iff_not] at h2
 case refine_2 =>
  have hz:=B2F (l:=x.zones) (k:=k) (by omega)
  rw [hz] at tail
  rcases ROut.head hR with rfl | ⟨bz,rfl⟩
  all_goals
   conv=>whnf
   refine D9 (by rw [A4 h35];exact at3) rfl (by omega) hf ?_;conv=>whnf
   refine D9 (A0 ..) rfl (by omega) (A2 ..) ?_;conv=>whnf
   obtain ⟨s1,hcol,hrt⟩:=B4G (hbeg ⟨184,4,1,C9 (fun _=>G9 B8t.zero) 0 (.agg [eS (O9 k),.emp,eI (1000 * k),eI (500 * k)])⟩) 218 2 (A6h [])
   refine tail _ s1 .emp _ hcol hrt _ _ rfl rfl _ (fun zv' t2 q1 q2 q3=>?_)
   rcases q2 with rfl | ⟨bq,rfl⟩
   all_goals
    conv=>whnf
    refine G6 q1 rfl (by omega) hf (by rfl) ?_;conv=>whnf
    refine ⟨rfl,?_⟩;conv=>whnf
    exact nx hk3 ⟨_,_,by rw [B9 (by omega)],(by rw [A2];rfl),q3 _⟩
 have hz:=B4e (l:=x.zones) (k:=k) (by omega)
 have hrl:=fun c=>C3i (l:=(x.zones.getD (k:Int).toNat default).rates) (c:=c)
 have hrn:(Q6 (x.zones.getD (k:Int).toNat default).rates).length=min 3 (x.zones.getD (k:Int).toNat default).rates.length:=by unfold Q6;rw [List.length_map,List.length_range]
 rw [hz] at tail
 have hM1:=fun s=>N7 (x.zones.getD (k:Int).toNat default).rest 3000 (by decide) (by decide) s
 have hM2:=fun s=>N7 (x.zones.getD (k:Int).toNat default).ship 3000 (by decide) (by decide) s
 have tail':_:=tail
 rw [show x.zones.getD k default=x.zones.getD (k:Int).toNat default from rfl] at tail'
 clear tail
 generalize Q6 (x.zones.getD (k:Int).toNat default).rates=RL at tail' hrl hrn
 generalize C5 (x.zones.getD (k:Int).toNat default).rest 3000=M1 at tail' hM1
 generalize C5 (x.zones.getD (k:Int).toNat default).ship 3000=M2 at tail' hM2
 conv=>whnf
 refine ⟨[15,17],[],List.range 18,by kernel_rfl,?_⟩;conv=>whnf
 refine ⟨rfl,⟨by omega,by omega⟩,?_⟩;conv=>whnf
 refine ⟨_,D1 (hM1 _),?_⟩;conv=>whnf
 refine ⟨rfl,⟨by omega,by omega⟩,?_⟩;conv=>whnf
 refine ⟨_,D1 (hM2 _),?_⟩;conv=>whnf
 refine G6 (A0 ..) rfl (by omega) (A2 ..) (by rfl) ?_
 rw [B7];conv=>whnf
 refine G6 (A0 ..) rfl (by omega) (A2 ..) (by rfl) ?_
 rw [B7];conv=>whnf
 refine lp (min 3 (x.zones.getD (k:Int).toNat default).rates.length) [1,2,3,4,5,6] (fun c vs s'=>∃ rv f5,vs=[.fptr (L7 x) 0,.optr 4 b2 0 0,.optr 4 b3 0 0,eI k,.optr 4 b5 0 0,eI c]∧f5 0=.agg [eS (O9 k),rv,eI M1,eI M2] ∧
   ∃ s1,M8 184 4 g (upd (upd (upd st b2 ⟨26,4,1,fun _=>G9 r26.zero⟩) b3 ⟨26,4,1,f⟩) b5 ⟨184,4,1,f5⟩) k zv s1∧ROut (A1E (fun j=>(E0 x.zones j).rates) sv k) 218 2 (A6h RL) c s1 rv s') ?_ ?_
 ·conv=>whnf
  exact ⟨.emp,_,rfl,by first | rfl | (rw [A2];rfl),B4G (hbeg _) _ _ _⟩
 rintro c vs s' hc ⟨rv,f5,rfl,hf5,s1,hcol,hrt⟩
 have hsup':=ROut.sup hB hrt
 have at5:s' b5=some ⟨184,4,1,f5⟩:=hsup' b5 _ (hcol.sup b5 _ (A0 ..))
 have at3':s' b3=some ⟨26,4,1,f⟩:=hsup' b3 _ (hcol.sup b3 _ (by rw [A4 h35];exact A0 ..))
 conv=>whnf
 refine C3 (fun h3=>?_) (fun h3=>?_)<;>rw [h3]<;>simp only [decide_eq_true_eq,decide_eq_false_iff_not] at h3
 case' refine_1 =>
  conv=>whnf
  refine ⟨rfl,⟨by omega,by omega⟩,?_⟩;conv=>whnf
  refine C3 (fun h4=>?_) (fun h4=>?_)<;>rw [h4]<;>simp only [decide_eq_true_eq,decide_eq_false_iff_not] at h4
 case refine_1.refine_1 =>
  have hc':c<min 3 (x.zones.getD (k:Int).toNat default).rates.length:=by omega
  have hra:=hrl c hc'
  rcases ROut.head hrt with rfl | ⟨br,rfl⟩
  all_goals
   conv=>whnf
   refine ⟨[17,19],[14],List.range 20,by kernel_rfl,?_⟩;conv=>whnf
   refine D9 at5 rfl (by omega) hf5 ?_;conv=>whnf
   refine ⟨_,D1 (A3N _ _),?_⟩;conv=>whnf
   refine ⟨rfl,⟨by omega,by omega⟩,?_⟩;conv=>whnf
   refine ⟨rfl,⟨by omega,by omega⟩,?_⟩;conv=>whnf
   refine ⟨_,fun s _=>D1 (N7 _ 3000 (by decide) (by decide) s),?_⟩;conv=>whnf
   refine ⟨_,⟨rfl,rfl⟩,?_⟩;conv=>whnf
   refine ROut.app (q:=C3c) hB rfl rfl rfl rfl rfl (f:=A6h RL) (by show _=A0c _;rw [hra];rfl) (by show (c+1) * 24≤140737488355328;omega) hrt (fun rv' t2 hrt2=>?_)
   have at5':t2 b5=some ⟨184,4,1,f5⟩:=ROut.sup hB hrt2 b5 _ (hcol.sup b5 _ (A0 ..))
   rcases ROut.head hrt2 with rfl | ⟨br',rfl⟩
   all_goals
    conv=>whnf
    refine G6 at5' rfl (by omega) hf5 (by rfl) ?_;conv=>whnf
    refine ⟨rfl,?_⟩;conv=>whnf
    exact nx hc' ⟨_,_,by rw [B9 (by omega)],(by rw [A2];rfl),C3w hB hcol hrt2 _⟩
 all_goals
  have hce:RL.length=c:=by omega
  rw [←hce] at hrt
  rcases ROut.head hR with rfl | ⟨bz,rfl⟩
  all_goals
   rcases ROut.head hrt with rfl | ⟨br,rfl⟩
   all_goals
    conv=>whnf
    refine D9 at3' rfl (by omega) hf ?_;conv=>whnf
    refine D9 at5 rfl (by omega) hf5 ?_;conv=>whnf
    refine tail' _ s1 _ _ hcol hrt _ _ rfl rfl _ (fun zv' t2 q1 q2 q3=>?_)
    rcases q2 with rfl | ⟨bq,rfl⟩
    all_goals
     conv=>whnf
     refine G6 q1 rfl (by omega) hf (by rfl) ?_;conv=>whnf
     refine ⟨rfl,?_⟩;conv=>whnf
     exact nx hk3 ⟨_,_,by rw [B9 (by omega)],(by rw [A2];rfl),q3 _⟩
end Go.Proofs.YthdimklenlikgaaGreat
