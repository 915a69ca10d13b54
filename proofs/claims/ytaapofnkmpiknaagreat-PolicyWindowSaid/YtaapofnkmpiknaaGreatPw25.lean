/- Part 25 of the proof: contracts of the functions that the law reaches -/
import Derived.Test.YtaapofnkmpiknaaGreatPw24
set_option maxRecDepth 100000
set_option linter.unusedVariables false
set_option linter.unusedSimpArgs false
namespace Go.Proofs.YtaapofnkmpiknaaGreat
open Go Go.Ab
attribute [local irreducible] upd del
structure A6r (s:R4):Prop where
 n1:Sm s.skus.length
 n2:Sm s.cats.length
 s1:∀ x∈s.skus,Sm x.size
 s2:∀ x∈s.cats,Sm x.size
end Go.Proofs.YtaapofnkmpiknaaGreat
namespace Go.Proofs.YtaapofnkmpiknaaGreat
open Go Go.Ab
theorem A5G (l:List A8) (o:List Int):(H5 l o).Perm o:=by
 have h:=(T5 l o).map fun e:QE=>gI o e.2.toNat
 rw [D2c] at h
 have e:(List.range o.length).map ((fun e:QE=>gI o e.2.toNat) ∘ A7F l o)=o:=by
  refine D2f (by simp) fun k h1 h2=>?_
  rw [List.getElem_map,List.getElem_range]
  show o.getD k default=_
  rw [C9i,C9p h2];rfl
 rw [e] at h;exact h
end Go.Proofs.YtaapofnkmpiknaaGreat
namespace Go.Proofs.YtaapofnkmpiknaaGreat
open Go Go.Ab
attribute [local irreducible] upd del
def A2D (v n:Int):Int:=v % 18446744073709551616 % n
theorem A2c (v:Int) {n:Int} (h:0<n):0≤A2D v n∧A2D v n<n:=⟨D0k _ (by omega),D0c _ h⟩
theorem B4y (x:Int):IntKind.u64.wrap x=x % 18446744073709551616:=rfl
theorem B7r (v:Int) {n:Int} (h0:0<n) (h1:n≤9223372036854775807):IntKind.i64.wrap (Int.tmod (IntKind.u64.wrap v) (IntKind.u64.wrap n))=A2D v n:=by
 have h2:=A2c v h0
 have e1:IntKind.u64.wrap n=n:=by rw [B4y];omega
 have e2:Int.tmod (IntKind.u64.wrap v) n=A2D v n:=by rw [D1i (by rw [B4y];omega)];rfl
 rw [e1,e2,A6 (by omega) (by omega)]
theorem B7q (v n:Int) (h0:0<n) (h1:n≤9223372036854775807) (st:St):S P 22 [eI v,eI n] st fun r st'=>r=eI (A2D v n)∧st'=st:=by
 refine F5 [] Tryz.func22 ?_
 rw [C9s (show ¬ IntKind.u64.wrap n=0 by rw [B4y];omega)];conv=>whnf
 refine ⟨?_,rfl⟩
 rw [←B7r v h0 h1];rfl
theorem B7p (v n:Int) (h0:0<n) (h1:n≤9223372036854775807) (st:St):S P 24 [eI v,eI n] st fun r st'=>r=eI (A2D v n)∧st'=st:=by
 refine F5 [] Tryz.func24 ?_
 rw [C9s (show ¬ IntKind.u64.wrap n=0 by rw [B4y];omega)];conv=>whnf
 refine ⟨?_,rfl⟩
 rw [←B7r v h0 h1];rfl
def B6N (c:Int):C9:=C0d [IntKind.u8.wrap c]
def C1E (n:Int):C9:=B6N (97+A2D n 8)
def C6t (n:Int):C9:=B6N (120+A2D n 3)
structure A2G (l:List E6):Prop where
 len:l.length≤8
 line:∀ x∈l,(0≤x.qty∧x.qty≤9)∧0≤x.price∧x.price<4000
 sku:∀ x∈l,∃ n,x.sku=C1E n
theorem A2G.lineC {l:List E6} (h:A2G l) {x:E6} (hx:x∈l):lineC x=true:=by
 have:=h.line x hx
 rw [A0g];omega
theorem B4o {l:List E6} (h1:∀ x∈l,(0≤x.qty∧x.qty≤9)∧0≤x.price∧x.price<4000):(0≤O6 l∧O6 l≤9 * l.length)∧0≤M8 l∧M8 l≤36000 * l.length:=by
 have:∀ (l:List E6) (a b:Int),(∀ x∈l,(0≤x.qty∧x.qty≤9)∧0≤x.price∧x.price<4000)→(a≤l.foldl (fun s x=>s+x.qty) a∧l.foldl (fun s x=>s+x.qty) a≤a+9 * l.length)∧b≤l.foldl (fun s x=>s+x.qty * x.price) b∧l.foldl (fun s x=>s+x.qty * x.price) b≤b+36000 * l.length:=by
  intro l
  induction l with
  | nil=>intro a b _;simp
  | cons y l ih =>
   intro a b h
   have hy:=h y (C9C ..)
   have h0:0≤y.qty * y.price:=D0x hy.1.1 hy.2.1
   have h9:y.qty * y.price≤9 * 4000:=D1U hy.1.2 (by omega) hy.2.1 (by omega)
   have:=ih (a+y.qty) (b+y.qty * y.price) fun x hx=>h x (C9x _ hx)
   rw [D0E,D0E,C9G]
   omega
 have:=this l 0 0 h1
 unfold O6 M8;omega
theorem B2s {kn:C9→Bool} {l:List E6} (h:∀ x∈l,kn x.sku=true∧lineC x=true):l.find? (M5 kn)=none:=by
 rw [D1N]
 intro x hx
 unfold M5
 rw [(h x hx).1,(h x hx).2];simp
theorem A2G.check {l:List E6} (h:A2G l) {kn:C9→Bool} (hk:∀ n,kn (C1E n)=true):S1 kn l=0:=by
 unfold S1
 have hl:=h.len
 have hs:=B4o h.line
 rw [if_neg (by omega),B2s fun x hx=>⟨by obtain ⟨n,hn⟩:=h.sku x hx;rw [hn];exact hk n,h.lineC hx⟩]
 show (if _ then (5:Int) else 0)=0
 rw [if_neg]
 rw [C9s (by omega),C9s (by omega)];decide
def C0D (k:Int):C9:=(⟨#[122]⟩:C9)++B6N (48+k)
def B7K (l:List I4) (c:Nat):I4:=⟨C6t c,A2D (l.getD c default).rate 3000⟩
def B5m (l:List I4):List I4:=(List.range (min 3 l.length)).map (B7K l)
def X6 (l:List J9) (k:Nat):J9 :=
 if k<l.length then ⟨C0D k,B5m (l.getD k default).rates,A2D (l.getD k default).rest 3000,A2D (l.getD k default).ship 3000⟩ else ⟨C0D k,[],1000 * k,500 * k⟩
def A9V (t:Y6):Y6:=⟨t.incl,t.byOrder,A2D t.round 3,(List.range 3).map (X6 t.zones)⟩
theorem A6r.fit {s:R4} (h:A6r s):A6M s:=⟨by have:=h.n1;show _≤9223372036854775807;omega,by have:=h.n2;show _≤9223372036854775807;omega⟩
end Go.Proofs.YtaapofnkmpiknaaGreat
namespace Go.Proofs.YtaapofnkmpiknaaGreat
open Go Go.Ab
structure Z6 where
 goods:Int
 tax:Int
 ship:Int
 shipTax:Int
 fee:Int
def A0O (b:Z6):AV:=.agg [eI b.goods,eI b.tax,eI b.ship,eI b.shipTax,eI b.fee]
def A7b (q:A0k):AV:=.agg [B2 q.goods,B2 q.taxes,eI q.ship,eI q.shipTax,eI q.total,B0 2 B6T q.deals]
def M1 (r:D4) (l:List E6):List C9:=(C2 r.items l).map Ab.Item.cat
def A9Z (v:B6p) (deals:List A0Z):A0k:=⟨v.goods,v.taxes,v.ship,v.shipTax,A3 v.goods+A3 v.taxes+v.ship+v.shipTax,deals⟩
def A9Y (r:D4) (z:J9) (exempt:Bool) (l:List E6) (Pr:A3N):A0k:=A9Z (L0 r.tax z exempt (M1 r l) Pr.nets Pr.ship) Pr.deals
def B3y (q:A0k):Z6:=⟨A3 q.goods,A3 q.taxes,q.ship,q.shipTax,0⟩
theorem B3e {l:List Int} {B:Int} (hB:0≤B) (h:∀ x∈l,-B≤x∧x≤B) : -(l.length * B)≤A3 l∧A3 l≤l.length * B:=by
 induction l with
 | nil=>exact ⟨by show -(((0:Nat):Int) * B)≤0;rw [Int.natCast_zero,Int.zero_mul];omega,by show (0:Int)≤((0:Nat):Int) * B;rw [Int.natCast_zero,Int.zero_mul];omega⟩
 | cons x l ih =>
  have h1:=ih fun y hy=>h y (C9x _ hy)
  have h2:=h x (C9C ..)
  rw [F6,C9G,show ((l.length+1:Nat):Int) * B=l.length * B+B by rw [Int.natCast_add,D1t];simp]
  omega
structure I0 (l:List Int):Prop where
 len:l.length≤1000
 all:∀ x∈l,-10000000000000≤x∧x≤10000000000000
theorem I0.take {l:List Int} (h:I0 l) (i:Nat) : -10000000000000000≤A3 (l.take i)∧A3 (l.take i)≤10000000000000000:=by
 have h1:=B3e (l:=l.take i) (B:=10000000000000) (by decide) fun x hx=>h.all x (D1T hx)
 have h2:(l.take i).length≤1000:=by rw [C9D];have:=h.len;omega
 omega
theorem I0.sum {l:List Int} (h:I0 l) : -10000000000000000≤A3 l∧A3 l≤10000000000000000:=by
 have:=h.take l.length
 rwa [C9u] at this
theorem I0.step {l:List Int} (h:I0 l) {i:Nat} (hi:i<l.length):IntKind.i64.wrap (A3 (l.take i)+gI l i)=A3 (l.take (i+1)):=by
 have h1:=h.take (i+1)
 rw [J2 hi] at h1 ⊢
 exact A6 (by omega) (by omega)
structure A1a (t:Y6) (z:J9) (cats:List C9) (nets:List Int) (ship:Int):Prop where
 tax:taxC t=true
 zone:Y3 z=true
 cats:cats.length=nets.length
 nets:A2L nets
 ship:0≤ship∧ship≤10000000000000
structure B8U (q:A0k) (n:Nat):Prop where
 goods:I0 q.goods
 taxes:I0 q.taxes
 ngoods:q.goods.length=n
 ntaxes:q.taxes.length=n
 pos:∀ x∈q.taxes,0≤x
 ship:0≤q.ship∧q.ship≤10000000000000
 shipTax:0≤q.shipTax∧q.shipTax≤10000000000000
 total:q.total=A3 q.goods+A3 q.taxes+q.ship+q.shipTax
theorem A1v {t:Y6} {z:J9} {cats:List C9} {nets:List Int} {ship:Int} (h:A1a t z cats nets ship):(cats.map (F9 z)).length=nets.length∧∀ x∈cats.map (F9 z),0≤x∧x≤10000:=by
 refine ⟨by rw [C9o];exact h.cats,fun x hx=>?_⟩
 obtain ⟨c,_,rfl⟩:=C9H.1 hx
 exact B7V h.zone c
theorem B3S {t:Y6} {z:J9} {cats:List C9} {nets:List Int} {ship:Int} (h:A1a t z cats nets ship) (exempt:Bool) (deals:List A0Z):B8U (A9Z (L0 t z exempt cats nets ship) deals) nets.length:=by
 obtain ⟨r1,r2⟩:=A1v h
 obtain ⟨t1,t2⟩:=A4Z (t:=t) h.nets r1 r2
 have hz:=(A3m h.zone).2.1
 have hm:=A0T (t:=t) h.ship.1 hz
 have hs:=h.ship
 have hn:=h.nets
 have hnx:∀ i,i<nets.length→0≤gI nets i∧gI nets i≤10000000000000:=fun i hi=>by
  have h1:=hn.pos _ (show gI nets i∈nets from A7 hi)
  have h2:=I7 hn.pos (show gI nets i∈nets from A7 hi)
  have h3:=hn.sum
  exact ⟨h1,by omega⟩
 have htx:∀ i,i<nets.length→0≤gI (G7 t (cats.map (F9 z)) nets) i∧gI (G7 t (cats.map (F9 z)) nets) i≤10000000000000:=fun i hi=>t2 _ (A7 (by omega))
 have hnl:=hn.len
 have gl:(Y7 t (G7 t (cats.map (F9 z)) nets) nets).length=nets.length:=by unfold Y7;rw [C9o,D0h]
 refine ⟨⟨by show (Y7 _ _ _).length≤_;omega,fun x hx=>?_⟩,⟨?_,fun x hx=>?_⟩,gl,?_,fun x hx=>?_,?_,?_,rfl⟩
 ·obtain ⟨i,hi,rfl⟩:=C9H.1 (show x∈Y7 _ _ _ from hx)
  have hi:=C9S.1 hi
  have h1:=hnx i hi
  have h2:=htx i hi
  split<;>omega
 ·show (if exempt=true then List.replicate nets.length 0 else G7 t (cats.map (F9 z)) nets).length≤1000
  split
  ·rw [D0i];omega
  ·omega
 ·have hx:x∈(if exempt=true then List.replicate nets.length 0 else G7 t (cats.map (F9 z)) nets):=hx
  split at hx
  ·rw [(List.mem_replicate.1 hx).2];omega
  ·have:=t2 x hx;omega
 ·show (if exempt=true then List.replicate nets.length 0 else G7 t (cats.map (F9 z)) nets).length=nets.length
  split
  ·exact D0i
  ·exact t1
 ·have hx:x∈(if exempt=true then List.replicate nets.length 0 else G7 t (cats.map (F9 z)) nets):=hx
  split at hx
  ·rw [(List.mem_replicate.1 hx).2];exact C9R _
  ·exact (t2 x hx).1
 ·show 0≤(if t.incl=true then ship - J6 t ship z.ship else ship)∧(if t.incl=true then ship - J6 t ship z.ship else ship)≤10000000000000
  split<;>omega
 ·show 0≤(if exempt=true then 0 else J6 t ship z.ship)∧(if exempt=true then 0 else J6 t ship z.ship)≤10000000000000
  split<;>omega
theorem A8N {t:Y6} {z:J9} {cats:List C9} {nets:List Int} {ship:Int} (h:A1a t z cats nets ship) (exempt:Bool) :
  A3 (L0 t z exempt cats nets ship).goods≤10000000000000∧-10000000000000≤A3 (L0 t z exempt cats nets ship).goods∧A3 (L0 t z exempt cats nets ship).taxes≤10000000000000:=by
 obtain ⟨r1,r2⟩:=A1v h
 obtain ⟨t1,t2⟩:=A4Z (t:=t) h.nets r1 r2
 have hs:=h.nets.sum
 have hle:∀ i,i<nets.length→gI (G7 t (cats.map (F9 z)) nets) i≤gI nets i:=fun i hi=>B1Q h.nets r1 r2 hi
 have h0:∀ i,i<nets.length→0≤gI (G7 t (cats.map (F9 z)) nets) i:=fun i hi=>(t2 _ (A7 (by omega))).1
 have hn0:∀ i,i<nets.length→0≤gI nets i:=fun i hi=>h.nets.pos _ (A7 hi)
 have hrn:=A4Q nets
 have hg:A3 (Y7 t (G7 t (cats.map (F9 z)) nets) nets)≤A3 ((List.range nets.length).map (gI nets)):=by
  refine A3d _ _ _ fun i hi=>?_
  have:=h0 i hi
  split<;>omega
 have hg0:0≤A3 (Y7 t (G7 t (cats.map (F9 z)) nets) nets):=B8 fun x hx=>by
  obtain ⟨i,hi,rfl⟩:=C9H.1 hx
  have hi:=C9S.1 hi
  have h1:=hle i hi
  have h2:=hn0 i hi
  split<;>omega
 have ht:A3 (G7 t (cats.map (F9 z)) nets)≤A3 ((List.range nets.length).map (gI nets)):=by
  have e:=A4Q (G7 t (cats.map (F9 z)) nets)
  rw [t1] at e
  rw [←e]
  exact A3d _ _ _ fun i hi=>hle i hi
 rw [hrn] at hg ht
 refine ⟨by show A3 (Y7 _ _ _)≤_;omega,by show _≤A3 (Y7 _ _ _);omega,?_⟩
 show A3 (if exempt=true then List.replicate nets.length 0 else G7 t (cats.map (F9 z)) nets)≤_
 split
 ·have e:∀ n,A3 (List.replicate n (0:Int))=0:=fun n=>by
   induction n with
   | zero=>rfl
   | succ n ih=>rw [List.replicate_succ,F6,ih];rfl
  rw [e];omega
 ·omega
theorem B2t {t:Y6} (h:taxC t=true) {s:C9} {z:J9} (hz:A2A t.zones s=some z):Y3 z=true:=by
 unfold taxC at h
 simp only [C9l] at h
 obtain ⟨k,hk,rfl⟩:=F2 (D1E hz)
 exact A1n.1 h.2.1 k hk
end Go.Proofs.YtaapofnkmpiknaaGreat
namespace Go.Proofs.YtaapofnkmpiknaaGreat
open Go Go.Ab
attribute [local irreducible] upd del
theorem B3I {α : Type} [Inhabited α] {l:List α} {p : α→Bool} {i:Nat} (hi:i<l.length) (h:p (l.getD i default)=true) (hno:∀ j,j<i→p (l.getD j default)=false):l.find? p=some (l.getD i default):=by
 have g:∀ j (hj:j<l.length),l.getD j default=l[j]:=fun j hj=>by rw [C9i,C9p hj];rfl
 rw [List.find?_eq_some_iff_getElem]
 refine ⟨h,i,hi,(g i hi).symm,fun j hj=>?_⟩
 have:=hno j hj
 rw [g j (by omega)] at this
 rw [this];rfl
theorem B3J {α : Type} [Inhabited α] {l:List α} {p : α→Bool} (hno:∀ j,j<l.length→p (l.getD j default)=false):l.find? p=none:=by
 rw [D1N]
 intro x hx
 obtain ⟨j,hj,rfl⟩:=F2 hx
 rw [hno j hj];simp
theorem B2U (z:J9) (c:C9) (hl:z.rates.length≤100000) (st:St):S P 189 [X1 z,eS c] st fun v st'=>v=eI (F9 z c)∧st'=st:=by
 refine F5 [2,6] Tryz.func189 ?_
 refine lp z.rates.length [1,2,8,9,10] (fun i vs t=>(∀ j,j<i→((z.rates.getD j default).cat.toList==c.toList)=false)∧vs=[eS c,.fptr (X1 z) 0,B0 2 X0 z.rates,eI z.rates.length,eI i]∧t=st) ?_ ?_
 ·conv=>whnf
  exact ⟨fun j hj=>absurd hj (by omega),rfl,rfl⟩
 ·rintro i vs t hi ⟨hno,rfl,rfl⟩
  conv=>whnf
  cases h1:decide ((i:Int)<(z.rates.length:Int))
  ·obtain rfl:=L5 h1 hi
   have hf:F9 z c=z.rest:=by unfold F9;rw [B3J hno]
   rw [hf];conv=>whnf
   exact ⟨rfl,rfl⟩
  ·have hi':=X4 h1
   conv=>whnf
   refine I8 ?_
   refine B7 (fun h2=>?_) (fun h2=>?_)<;>rw [h2]
   ·have hf:F9 z c=(z.rates.getD (i:Int).toNat default).rate:=by unfold F9;rw [B3I (p:=fun x:I4=>x.cat.toList==c.toList) hi' h2 hno];rfl
    rw [hf];conv=>whnf
    exact ⟨rfl,rfl⟩
   ·conv=>whnf
    refine I9 ?_
    exact nx hi' ⟨M6 hno h2,by rw [C1 (by omega)],rfl⟩
theorem A9w (l:List I4) (hl:l.length≤100000) (st:St):S P 276 [B0 2 X0 l] st fun v st'=>v=B0 2 X0 l∧st'=st:=by
 refine A6L (ty:=209) ?_
 refine SyW [] Tryz.func276 ?_
 cases l with
 | nil =>
  conv=>whnf
  refine ⟨?_,?_⟩
  ·conv=>whnf
   exact Col.start _ _ _ _
  ·conv=>whnf
   refine apE rfl rfl rfl rfl rfl (by show 0 * 24≤_;omega) (fun _=>?_) (fun h=>absurd h (by show ¬ 0<0;omega));conv=>whnf
   exact Col.start _ _ _ _
 | cons u us =>
  conv=>whnf
  refine Col.apps (n:=0) (m:=us.length+1) (q:=C1w) (f:=fun k=>X0 ((u::us).getD k default)) rfl rfl rfl rfl rfl (fun i hi=>by rw [C9y]) (by show (0+(us.length+1)) * 24≤140737488355328;simp only [C9G] at hl;omega) (Col.start _ _ _ _) (fun sv' st'' hc'=>?_);conv=>whnf
  rw [C9y] at hc'
  exact hc'
theorem B0W (z:J9) (hl:z.rates.length≤100000) (st:St):S P 236 [X1 z] st fun v st'=>v=X1 z∧st'=st:=by
 have hc:=fun s=>A9w z.rates hl s
 refine A1k ?_
 refine F5 [] Tryz.func236 ?_
 intro b1 h1;conv=>whnf
 intro b2 h2
 have h12:b1≠b2:=fun e=>by subst e;rw [A0] at h2;cases h2
 conv=>whnf
 refine K9 (by rw [A5 h12];exact A0 ..) rfl ?_
 refine J0 (hc _) ?_
 refine stW (by rw [A5 h12];exact A0 ..) rfl ?_
 refine K9 (A0 ..) (B4 ..) ?_
 refine stW (by rw [A5 h12.symm];exact A0 ..) rfl ?_
 refine K9 (A0 ..) (B4 ..) ?_
 have hn2:st b2=none:=by rw [A5 h12.symm] at h2;exact h2
 exact ⟨rfl,((((E9.refl st).upd h1).upd h2).over h1).over hn2⟩
def C6h:J9:=⟨⟨#[]⟩,[],0,0⟩
theorem B2V (t:Y6) (s:C9) (hl:t.zones.length≤100000) (hr:∀ z∈t.zones,z.rates.length≤100000) (st:St) :
  S P 188 [A0t t,eS s] st fun v st'=>v=.tuple [X1 ((A2A t.zones s).getD C6h),.bool (A2A t.zones s).isSome]∧st'=st:=by
 refine S.post (post:=fun v s'=>E9 st s'∧((∃ z,A2A t.zones s=some z∧v=.tuple [X1 z,.bool true])∨(A2A t.zones s=none∧v=.tuple [.agg [eS ⟨#[]⟩,.emp,eI 0,eI 0],.bool false]))) ?_ (fun v s' ⟨hs,h⟩=>⟨_,st,⟨rfl,rfl⟩,by
  rcases h with ⟨z,h1,rfl⟩ | ⟨h1,rfl⟩
  ·rw [h1];exact hs.shift _
  ·rw [h1]
   exact (A4.tuple (A4.cons (Le.shift (Le.agg (LeL.cons (Le.refl _) (LeL.cons (Le.emp _ _) (LeL.refl _)))) _) (A4.keep _ _)) rfl).trans (hs.shift _)⟩)
 refine F5 [2,7] Tryz.func188 ?_
 intro b4 hb4;conv=>whnf
 refine lp t.zones.length [1,4,9,10,11] (fun i vs u=>(∀ j,j<i→((t.zones.getD j default).name.toList==s.toList)=false)∧vs=[eS s,.optr 4 b4 0 0,B0 4 X1 t.zones,eI t.zones.length,eI i]∧u=upd st b4 ⟨103,4,1,fun _=>H4 C1t.zero⟩) ?_ ?_
 ·conv=>whnf
  exact ⟨fun j hj=>absurd hj (by omega),rfl,rfl⟩
 ·rintro i vs u hi ⟨hno,rfl,rfl⟩
  conv=>whnf
  cases h1:decide ((i:Int)<(t.zones.length:Int))
  ·obtain rfl:=L5 h1 hi
   have hf:A2A t.zones s=none:=B3J hno
   conv=>whnf
   refine stW (A0 ..) rfl ?_
   refine K9 (A0 ..) (B4 ..) ?_
   exact ⟨((E9.refl st).upd hb4).over hb4,.inr ⟨hf,rfl⟩⟩
  ·have hi':=X4 h1
   conv=>whnf
   refine I8 ?_
   refine B7 (fun h2=>?_) (fun h2=>?_)<;>rw [h2]
   ·have hf:A2A t.zones s=some (t.zones.getD (i:Int).toNat default):=B3I (p:=fun z:J9=>z.name.toList==s.toList) hi' h2 hno
    have hc:=fun u=>B0W (t.zones.getD (i:Int).toNat default) (hr _ (A7 hi')) u
    generalize t.zones.getD (i:Int).toNat default=z at hf hc
    conv=>whnf
    refine J0 (hc _) ?_
    refine stW (A0 ..) rfl ?_
    refine K9 (A0 ..) (B4 ..) ?_
    exact ⟨((E9.refl st).upd hb4).over hb4,.inl ⟨z,hf,rfl⟩⟩
   ·conv=>whnf
    refine I9 ?_
    exact nx hi' ⟨M6 hno h2,by rw [C1 (by omega)],rfl⟩
theorem A3Z (x:Int) (st:St):S P 235 [eI x] st fun v st'=>v=.bool (R1 0 10000000000000 x)∧st'=st:=by
 refine SyW [] Tryz.func235 ?_
 repeat' ((conv=>whnf);first | (refine B7 (fun h=>?_) (fun h=>?_)<;>rw [h]))
 all_goals (conv=>whnf)
 all_goals (refine ⟨?_,rfl⟩;show AV.bool _=AV.bool _;congr 1)
 all_goals (simp only [R1, *,C9K,C9A];try rfl)
theorem B2F (t:Y6) (x rate:Int) (hr:0≤rate∧rate≤10000) (st:St):S P 192 [A0t t,eI x,eI rate] st fun v st'=>v=eI (J6 t x rate)∧st'=st:=by
 have hM:J6 t x rate=(N6 x rate (B0Y t rate) t.round).1:=rfl
 have hw:IntKind.i64.wrap (10000+rate)=10000+rate:=A6 (by omega) (by omega)
 refine F5 [3] Tryz.func192 ?_
 cases hi:t.incl
 ·have hd:B0Y t rate=10000:=by unfold B0Y;rw [if_neg (by rw [hi];simp)];rfl
  conv=>whnf
  refine B6 (B0x x rate 10000 t.round st) ?_
  rw [hM,hd]
  generalize N6 x rate 10000 t.round=Y
  conv=>whnf
  exact ⟨rfl,rfl⟩
 ·have hd:B0Y t rate=10000+rate:=by unfold B0Y;rw [if_pos hi]
  conv=>whnf
  rw [hw]
  refine B6 (B0x x rate (10000+rate) t.round st) ?_
  rw [hM,hd]
  generalize N6 x rate (10000+rate) t.round=Y
  conv=>whnf
  exact ⟨rfl,rfl⟩
theorem A7l (t:Y6) (rates nets:List Int) (i:Nat):(List.range (i+1)).map (fun i=>J6 t (gI nets i) (gI rates i))=(List.range i).map (fun i=>J6 t (gI nets i) (gI rates i))++[J6 t (gI nets i) (gI rates i)]:=by rw [D1m,C9P];rfl
theorem B0T (t:Y6) (rates nets:List Int) (hn:nets.length≤1000) (hl:rates.length=nets.length) (hq:∀ x∈rates,0≤x∧x≤10000) (st:St):S P 190 [A0t t,B2 rates,B2 nets] st fun v st'=>v=B2 (A0h t rates nets)∧st'=st:=by
 refine A6L (ty:=2) ?_
 have hL:A0h t rates nets=(List.range nets.length).map fun i=>J6 t (gI nets i) (gI rates i):=rfl
 rw [hL]
 refine F5 [3] Tryz.func190 ?_
 refine lp nets.length [1,3,7,10,11,12] (fun i vs s=>∃ sv,vs=[B2 rates,.fptr (A0t t) 0,sv,B2 nets,eI nets.length,eI i]∧U9 2 1 eI ((List.range i).map fun i=>J6 t (gI nets i) (gI rates i)) st sv s) ?_ ?_
 ·conv=>whnf
  exact ⟨.emp,rfl,U9.start _ _ _ _⟩
 ·rintro i vs s hi ⟨sv,rfl,hc⟩
  conv=>whnf
  cases h1:decide ((i:Int)<(nets.length:Int))
  ·obtain rfl:=L5 h1 hi
   conv=>whnf
   exact hc
  ·have hi':=X4 h1
   have hm:=fun u=>B2F t (gI nets (i:Int).toNat) (gI rates (i:Int).toNat) (hq _ (A7 (by show i<_;omega))) u
   have hs:=A7l t rates nets i
   have hln:((List.range i).map fun i=>J6 t (gI nets i) (gI rates i)).length=i:=by rw [C9o,D0h]
   conv=>whnf
   refine I8 ?_
   refine ⟨[8,9],[],List.range 11,by kernel_rfl,?_⟩;conv=>whnf
   refine I8 ?_
   refine ⟨_,A3H (hm _),?_⟩
   have hy:J6 t (gI nets i) (gI rates i)=J6 t (gI nets (i:Int).toNat) (gI rates (i:Int).toNat):=rfl
   rw [hy] at hs
   generalize J6 t (gI nets (i:Int).toNat) (gI rates (i:Int).toNat)=Y at hs
   conv=>whnf
   refine U9.app (y:=Y) (q:=r2) rfl rfl rfl rfl rfl (by rfl) (by rw [hln];show (i+1) * 8≤140737488355328;omega) hc (fun sv' t' hc'=>?_);conv=>whnf
   refine I9 ?_
   exact nx hi' ⟨sv',by rw [C1 (by omega)],by rw [hs];exact hc'⟩
theorem B9z {t:Y6} {z:J9} {cats:List C9} {nets:List Int} {ship:Int} (h:A1a t z cats nets ship) (st:St):S P 187 [A0t t,E3 cats,B2 nets,eI ship] st fun v st'=>v=.bool true∧st'=st:=by
 have hn:=h.nets.len
 have hs:=h.nets.sum
 have hp:=h.nets.pos
 have hc:=h.cats
 have hT:=fun s=>C0A t s
 have hA:=fun s=>A3Z ship s
 rw [h.tax] at hT
 rw [show R1 0 10000000000000 ship=true from G2.2 h.ship] at hA
 have htk:∀ i,0≤A3 (nets.take i)∧A3 (nets.take i)≤10000000000000:=fun i=>by
  have:=L6 hp i
  exact ⟨B8 fun x hx=>hp x (D1T hx),by omega⟩
 refine F5 [4] Tryz.func187 ?_
 refine J0 (hT _) ?_
 rw [hc,show ((nets.length:Int) != (nets.length:Int))=false from bne_self_eq_false _];conv=>whnf
 refine B7 (fun h1=>absurd (C9j h1) (by omega)) (fun h1=>?_)
 rw [h1];conv=>whnf
 refine J0 (hA _) ?_
 refine lp nets.length [9,32,33,34] (fun i vs s=>vs=[eI (A3 (nets.take i)),B2 nets,eI nets.length,eI i]∧s=st) ?_ ?_
 ·conv=>whnf
  exact ⟨rfl,rfl⟩
 ·rintro i vs s hi ⟨rfl,rfl⟩
  conv=>whnf
  cases h2:decide ((i:Int)<(nets.length:Int))
  ·obtain rfl:=L5 h2 hi
   have hB:=fun s=>A3Z (A3 (nets.take nets.length)) s
   rw [show R1 0 10000000000000 (A3 (nets.take nets.length))=true from G2.2 (htk _)] at hB;conv=>whnf
   refine J0 (hB _) ?_
   exact ⟨rfl,rfl⟩
  ·have hi':=X4 h2
   have hx:0≤gI nets (i:Int).toNat:=hp _ (A7 hi')
   have hx2:gI nets (i:Int).toNat≤A3 nets:=I7 hp (A7 hi')
   have hB:=fun s=>A3Z (gI nets (i:Int).toNat) s
   rw [show R1 0 10000000000000 (gI nets (i:Int).toNat)=true from G2.2 (by omega)] at hB
   have hst:A3 (nets.take (i+1))=A3 (nets.take i)+gI nets (i:Int).toNat:=J2 hi'
   have h3:=htk (i+1)
   have hw:IntKind.i64.wrap (A3 (nets.take i)+gI nets (i:Int).toNat)=A3 (nets.take (i+1)):=by rw [hst] at h3 ⊢;exact A6 (by omega) (by omega)
   conv=>whnf
   refine I8 ?_
   refine J0 (hB _) ?_
   rw [hw]
   refine I9 ?_
   exact nx hi' ⟨by rw [C1 (by omega)],rfl⟩
theorem B5W {t:Y6} (h:taxC t=true):t.zones.length≤20∧∀ z∈t.zones,z.rates.length≤40:=by
 have h':=h
 unfold taxC at h
 simp only [C9l,C9F,D0S,C9m] at h
 refine ⟨by omega,fun z hz=>?_⟩
 obtain ⟨k,hk,rfl⟩:=F2 hz
 exact (A3m (A1n.1 h.2.1 k hk)).2.2.1
def B8z (t:Y6):FuncId:=if t.byOrder=true then 191 else 190
def A2n (t:Y6) (taxes nets:List Int) (i:Nat):Int:=if t.incl=true then gI nets i - gI taxes i else gI nets i
theorem B2D (f:Nat→Int) (i:Nat):(List.range (i+1)).map f=(List.range i).map f++[f i]:=by rw [D1m,C9P];rfl
theorem B8H (n i:Nat):(List.replicate n (0:Int)).getD i default=0:=by
 rw [C9i,D1I];split<;>rfl
set_option maxHeartbeats 8000000 in
theorem C1h {t:Y6} {z:J9} {s:C9} {cats:List C9} {nets:List Int} {ship:Int} (h:A1a t z cats nets ship) (hz:A2A t.zones s=some z) (exempt:Bool)
  (hTax:∀ st,S P (B8z t) [A0t t,B2 (cats.map (F9 z)),B2 nets] st fun v st'=>v=B2 (G7 t (cats.map (F9 z)) nets)∧st'=st) (st:St) :
  S P 124 [A0t t,eS s,eB exempt,E3 cats,B2 nets,eI ship] st fun v st' =>
   v=.tuple [B2 (L0 t z exempt cats nets ship).goods,B2 (L0 t z exempt cats nets ship).taxes,eI (L0 t z exempt cats nets ship).ship,eI (L0 t z exempt cats nets ship).shipTax,eI 0]∧st'=st:=by
 obtain ⟨hr1,hr2⟩:=A1v h
 obtain ⟨t1,t2⟩:=A4Z (t:=t) h.nets hr1 hr2
 obtain ⟨l1,l2⟩:=B5W h.tax
 have hzm:z∈t.zones:=D1E hz
 have hzr:=l2 z hzm
 have hn:=h.nets.len
 have hcl:=h.cats
 have hq:=(A3m h.zone).2.1
 have hm:=A0T (t:=t) h.ship.1 hq
 have hs:=h.ship
 have hM:=fun st=>B9z h st
 have hZ:∀ st,S P 188 [A0t t,eS s] st fun v st'=>v=.tuple [X1 z,.bool true]∧st'=st:=fun st=>by
  have:=B2V t s (by omega) (fun z hz=>by have:=l2 z hz;omega) st
  rw [hz] at this;exact this
 have hR:=fun c st=>B2U z c (by omega) st
 have hU:=fun st=>B2F t ship z.ship hq st
 have hL:L0 t z exempt cats nets ship=⟨(List.range nets.length).map (A2n t (G7 t (cats.map (F9 z)) nets) nets),if exempt=true then List.replicate nets.length 0 else G7 t (cats.map (F9 z)) nets,if t.incl=true then ship - J6 t ship z.ship else ship,if exempt=true then 0 else J6 t ship z.ship⟩:=rfl
 rw [hL]
 have hnx:∀ i,i<nets.length→0≤gI nets i∧gI nets i≤10000000000000:=fun i hi=>by
  have h1:=h.nets.pos _ (show gI nets i∈nets from A7 hi)
  have h2:=I7 h.nets.pos (show gI nets i∈nets from A7 hi)
  have h3:=h.nets.sum
  exact ⟨h1,by omega⟩
 have htx:∀ i,i<nets.length→0≤gI (G7 t (cats.map (F9 z)) nets) i∧gI (G7 t (cats.map (F9 z)) nets) i≤10000000000000:=fun i hi=>t2 _ (A7 (by omega))
 generalize G7 t (cats.map (F9 z)) nets=TX at hTax t1 htx ⊢
 generalize J6 t ship z.ship=MS at hU hm ⊢
 clear hL t2
 refine S.post (post:=fun v s'=>∃ gv tv c1 c2,v=.tuple [gv,tv,eI (if t.incl=true then ship - MS else ship),eI (if exempt=true then 0 else MS),eI 0] ∧
   A4 [gv] s' [B2 ((List.range nets.length).map (A2n t TX nets))] c1∧A4 [tv] c1 [B2 (if exempt=true then List.replicate nets.length 0 else TX)] c2∧E9 st c2) ?_
  (fun v s' ⟨gv,tv,c1,c2,h1,h2,h3,h4⟩=>⟨_,st,⟨rfl,rfl⟩,by
   rw [h1]
   exact (A4.tuple (A4.cons h2 (A4.cons h3 (A4.keep _ _))) rfl).trans (h4.shift _)⟩)
 refine F5 [6] Tryz.func124 ?_
 refine J0 (hM _) ?_
 refine J0 (hZ _) ?_
 intro b17 hb17;conv=>whnf
 refine stU (A0 ..) rfl ?_
 rw [I2];conv=>whnf
 generalize hst:(upd st b17 _:St)=S0
 obtain ⟨f17,at17,hf17⟩:∃ f17:Nat→AV,S0 b17=some ⟨103,4,1,f17⟩∧f17 0=X1 z:=by rw [←hst];exact ⟨_,A0 ..,by rw [B4];rfl⟩
 have hs0:E9 st S0:=by rw [←hst];exact (E9.refl st).upd hb17
 clear hst
 refine lp cats.length [2,4,5,6,12,17,19,39,40,41] (fun i vs u=>∃ sv,vs=[eB exempt,B2 nets,eI ship,.fptr (A0t t) 0,.emp,.optr 4 b17 0 0,sv,E3 cats,eI cats.length,eI i]∧U9 2 1 eI ((cats.take i).map (F9 z)) S0 sv u) ?_ ?_
 ·conv=>whnf
  exact ⟨.emp,rfl,U9.start _ _ _ _⟩
 rintro i vs u hi ⟨sv,rfl,hc⟩
 have hcs:=hc.sup
 conv=>whnf
 cases h1:decide ((i:Int)<(cats.length:Int))
 case true =>
  have hi':=X4 h1
  have hln:((cats.take i).map (F9 z)).length=i:=by rw [C9o,C9D];omega
  have hRi:=fun st=>hR (cats.getD (i:Int).toNat default) st
  have htk:(cats.take (i+1)).map (F9 z)=(cats.take i).map (F9 z)++[F9 z (cats.getD (i:Int).toNat default)]:=by rw [N5 hi',C9P];rfl
  generalize F9 z (cats.getD (i:Int).toNat default)=RT at hRi htk
  conv=>whnf
  refine I8 ?_
  refine K9 (hcs b17 _ at17) hf17 ?_
  refine J0 (hRi _) ?_
  refine U9.app (y:=RT) (q:=r2) rfl rfl rfl rfl rfl (by rfl) (by rw [hln];show (i+1) * 8≤140737488355328;omega) hc (fun sv' t' hc'=>?_);conv=>whnf
  refine I9 ?_
  exact nx hi' ⟨sv',by rw [C1 (by omega)],by rw [htk];exact hc'⟩
 obtain rfl:=L5 h1 hi
 rw [C9u] at hc
 have hTS:A4 [AV.agg [eB t.incl,eB t.byOrder,eI t.round,B0 4 X1 t.zones],sv,B2 nets] u [A0t t,B2 (cats.map (F9 z)),B2 nets] S0:=A4.cons (A4.keep [A0t t] _) (A4.cons hc.shift (A4.keep _ _))
 clear hc hcs hM hZ hR
 generalize cats.map (F9 z)=RS at hTax hTS
 unfold B8z at hTax;conv=>whnf
 cases hbo:t.byOrder
 case' false=>rw [if_neg (by rw [hbo];simp)] at hTax
 case' true=>rw [if_pos hbo] at hTax
 all_goals
  conv=>whnf
  refine D3 hTS (B6 (hTax _) ?_);conv=>whnf
  refine K9 at17 hf17 ?_
  refine J0 (hU _) ?_
  refine lp nets.length [2,4,6,12,13,14,15,65,66,67] (fun i vs u=>∃ sv,vs=[eB exempt,B2 nets,.fptr (A0t t) 0,sv,B2 TX,eI ship,eI MS,B2 nets,eI nets.length,eI i]∧U9 2 1 eI ((List.range i).map (A2n t TX nets)) S0 sv u) ?_ ?_
  ·conv=>whnf
   exact ⟨.emp,rfl,U9.start _ _ _ _⟩
  rintro i vs u hi ⟨sv,rfl,hc⟩
  have hcs:=hc.sup
  conv=>whnf
  cases h1:decide ((i:Int)<(nets.length:Int))
  case true =>
   have hi':=X4 h1
   have hln:((List.range i).map (A2n t TX nets)).length=i:=by rw [C9o,D0h]
   have hnx1:=hnx i hi'
   have htx1:=htx i hi'
   have htk:=B2D (A2n t TX nets) i
   have hgA:A2n t TX nets i=if t.incl=true then gI nets (i:Int).toNat - gI TX (i:Int).toNat else gI nets (i:Int).toNat:=rfl
   have hgw:IntKind.i64.wrap (gI nets (i:Int).toNat - gI TX (i:Int).toNat)=gI nets (i:Int).toNat - gI TX (i:Int).toNat:=A6 (show _≤gI nets i - gI TX i by omega) (show gI nets i - gI TX i≤_ by omega)
   generalize A2n t TX nets i=GA at htk hgA
   conv=>whnf
   refine I8 ?_
   cases hin:t.incl
   case' false=>rw [if_neg (by rw [hin];simp)] at hgA
   case' true =>
    rw [if_pos hin] at hgA;conv=>whnf
    refine I8 ?_
    rw [hgw]
   all_goals
    conv=>whnf
    refine U9.app (y:=GA) (q:=r2) rfl rfl rfl rfl rfl (by rw [hgA];rfl) (by rw [hln];show (i+1) * 8≤140737488355328;omega) hc (fun sv' t' hc'=>?_);conv=>whnf
    refine I9 ?_
    exact nx hi' ⟨sv',by rw [C1 (by omega)],by rw [htk];exact hc'⟩
  obtain rfl:=L5 h1 hi
  have hwS:IntKind.i64.wrap (ship - MS)=ship - MS:=A6 (by omega) (by omega)
  conv=>whnf
  cases hin:t.incl
  case' false=>rw [if_neg (show ¬(false=true) by simp)]
  case' true =>
   rw [if_pos rfl];conv=>whnf
   rw [hwS]
  all_goals
   conv=>whnf
   cases exempt
   ·conv=>whnf
    exact ⟨sv,B2 TX,S0,S0,rfl,hc.shift,A4.keep _ _,hs0⟩
   ·conv=>whnf
    refine mkO rfl rfl rfl (by show 8 * nets.length≤_;omega) (by omega) (by rfl) (fun bz hbz=>?_);conv=>whnf
    have hb0:S0 bz=none:=Col.off hc hbz
    have hc2:=Col.under (y:=⟨2,1,nets.length,fun _=>H4 r2.zero⟩) hc hbz
    refine ⟨sv,.own 1 bz 0 nets.length,upd S0 bz ⟨2,1,nets.length,fun _=>H4 r2.zero⟩,del (upd S0 bz ⟨2,1,nets.length,fun _=>H4 r2.zero⟩) bz,rfl,Col.shift hc2,?_,E9.del (hs0.upd hb0) (hs0.none hb0)⟩
    have e:B2 (List.replicate nets.length 0)=.arr 1 nets.length (fun k=>eI ((List.replicate nets.length (0:Int)).getD k default)):=by unfold B2 B0;rw [D0i]
    rw [if_pos rfl,e]
    exact K1 (A0 ..) rfl (C9q _) (fun k hk=>by rw [B8H];rfl)
structure Add where
 sku:C9
 qty:Int
 deriving Inhabited
theorem A7E (l:List Int) (h:I0 l) (st:St):S P 125 [B2 l] st fun v st'=>v=eI (A3 l)∧st'=st:=by
 have hn:=h.len
 refine F5 [] Tryz.func125 ?_
 refine lp l.length [3,6,7,8] (fun i vs t=>vs=[eI (A3 (l.take i)),B2 l,eI l.length,eI i]∧t=st) ?_ ?_
 ·conv=>whnf
  exact ⟨rfl,rfl⟩
 ·rintro i vs t hi ⟨rfl,rfl⟩
  conv=>whnf
  cases h1:decide ((i:Int)<(l.length:Int))
  ·obtain rfl:=L5 h1 hi
   rw [C9u];conv=>whnf
   exact ⟨rfl,rfl⟩
  ·have hi':=X4 h1
   have hs:IntKind.i64.wrap (A3 (l.take i)+gI l (i:Int).toNat)=A3 (l.take (i+1)):=h.step hi'
   conv=>whnf
   refine I8 ?_
   rw [hs]
   refine I9 ?_
   exact nx hi' ⟨by rw [C1 (by omega)],rfl⟩
theorem C0V (q:A0k) (h1:I0 q.goods) (h2:I0 q.taxes) (st:St):S P 64 [A7b q] st fun v st'=>v=A0O (B3y q)∧st'=st:=by
 have c1:=fun s=>A7E q.goods h1 s
 have c2:=fun s=>A7E q.taxes h2 s
 have hB:B3y q=⟨A3 q.goods,A3 q.taxes,q.ship,q.shipTax,0⟩:=rfl
 rw [hB]
 generalize A3 q.goods=G at c1 ⊢
 generalize A3 q.taxes=T' at c2 ⊢
 refine A1k ?_
 refine F5 [1] Tryz.func64 ?_
 intro b2 hb;conv=>whnf
 refine ⟨[11],[],List.range 12,by kernel_rfl,?_⟩;conv=>whnf
 refine cqW (c1 _) ?_
 refine cqW (c2 _) ?_
 refine stW (A0 ..) rfl ?_
 refine K9 (A0 ..) (B4 ..) ?_
 exact ⟨rfl,((E9.refl st).upd hb).over hb⟩
theorem B4G (r:D4) (l:List E6):(M1 r l).length=l.length:=by unfold M1 C2;rw [C9o,C9o]
theorem B9j {a b c d:Int} (ha : -10000000000000≤a∧a≤10000000000000) (hb : -10000000000000≤b∧b≤10000000000000) (hc : -10000000000000≤c∧c≤10000000000000) (hd : -10000000000000≤d∧d≤10000000000000):I0 [a,b,c,d]:=by
 refine ⟨by show 4≤1000;decide,fun x hx=>?_⟩
 simp only [D0M,D1b,or_false] at hx
 rcases hx with rfl | rfl | rfl | rfl<;>assumption
theorem B2W {a b c d:Int} {F:Nat→AV} {st:St} (h0:F 0=eI a) (h1:F 1=eI b) (h2:F 2=eI c) (h3:F 3=eI d):A4 [.arr 1 4 F] st [B2 [a,b,c,d]] st :=
 A4.arr (g:=fun i=>eI ([a,b,c,d].getD i default)) fun i hi=>by
  match i,hi with
  | 0,_=>exact h0
  | 1,_=>exact h1
  | 2,_=>exact h2
  | 3,_=>exact h3
set_option maxHeartbeats 8000000 in
theorem quote_S {r:D4} {codes:List C9} {l:List E6} {Pr:A3N} {z:J9} {zone:C9} (exempt:Bool)
  (hP:∀ st,S P 122 [M0 r,E3 codes,B0 3 M2 l] st fun v s=>v=.tuple [A1S Pr,eI 0]∧s=st)
  (hI:∀ st,S P 123 [B0 4 H2 r.items,B0 3 M2 l] st fun v s=>v=B0 4 H2 (C2 r.items l)∧s=st)
  (hln:l.length≤1000) (hV:A1a r.tax z (M1 r l) Pr.nets Pr.ship) (hz:A2A r.tax.zones zone=some z)
  (hTax:∀ st,S P (B8z r.tax) [A0t r.tax,B2 ((M1 r l).map (F9 z)),B2 Pr.nets] st fun v st'=>v=B2 (G7 r.tax ((M1 r l).map (F9 z)) Pr.nets)∧st'=st)
  (hsm:A3 (L0 r.tax z exempt (M1 r l) Pr.nets Pr.ship).goods≤10000000000000∧-10000000000000≤A3 (L0 r.tax z exempt (M1 r l) Pr.nets Pr.ship).goods∧A3 (L0 r.tax z exempt (M1 r l) Pr.nets Pr.ship).taxes≤10000000000000) (st:St) :
  S P 60 [M0 r,eS zone,eB exempt,E3 codes,B0 3 M2 l] st fun v st'=>v=.tuple [A7b (A9Y r z exempt l Pr),eI 0]∧st'=st:=by
 have hQ:=B3S hV exempt Pr.deals
 have hlv:=fun s=>C1h hV hz exempt hTax s
 have hq:A9Y r z exempt l Pr=⟨(L0 r.tax z exempt (M1 r l) Pr.nets Pr.ship).goods,(L0 r.tax z exempt (M1 r l) Pr.nets Pr.ship).taxes,(L0 r.tax z exempt (M1 r l) Pr.nets Pr.ship).ship,(L0 r.tax z exempt (M1 r l) Pr.nets Pr.ship).shipTax,A3 (L0 r.tax z exempt (M1 r l) Pr.nets Pr.ship).goods+A3 (L0 r.tax z exempt (M1 r l) Pr.nets Pr.ship).taxes+(L0 r.tax z exempt (M1 r l) Pr.nets Pr.ship).ship+(L0 r.tax z exempt (M1 r l) Pr.nets Pr.ship).shipTax,Pr.deals⟩:=rfl
 rw [hq]
 have hpos:0≤A3 (L0 r.tax z exempt (M1 r l) Pr.nets Pr.ship).taxes:=B8 hQ.pos
 obtain ⟨q1,q2,q3,q4,q5,q6,q7,_⟩:=hQ
 have q1:I0 (L0 r.tax z exempt (M1 r l) Pr.nets Pr.ship).goods:=q1
 have q2:I0 (L0 r.tax z exempt (M1 r l) Pr.nets Pr.ship).taxes:=q2
 have q6:0≤(L0 r.tax z exempt (M1 r l) Pr.nets Pr.ship).ship∧(L0 r.tax z exempt (M1 r l) Pr.nets Pr.ship).ship≤10000000000000:=q6
 have q7:0≤(L0 r.tax z exempt (M1 r l) Pr.nets Pr.ship).shipTax∧(L0 r.tax z exempt (M1 r l) Pr.nets Pr.ship).shipTax≤10000000000000:=q7
 clear hq q3 q4 q5 hTax hV hz
 generalize L0 r.tax z exempt (M1 r l) Pr.nets Pr.ship=V at *
 have s1:=fun s=>A7E V.goods q1 s
 have s2:=fun s=>A7E V.taxes q2 s
 have s3:=fun s=>A7E [A3 V.goods,A3 V.taxes,V.ship,V.shipTax] (B9j (by omega) (by omega) (by omega) (by omega)) s
 have e3:A3 [A3 V.goods,A3 V.taxes,V.ship,V.shipTax]=A3 V.goods+A3 V.taxes+V.ship+V.shipTax:=by
  show 0+A3 V.goods+A3 V.taxes+V.ship+V.shipTax=_;omega
 rw [e3] at s3
 have hil:(C2 r.items l).length=l.length:=C9o ..
 have hcb:M1 r l=(C2 r.items l).map Ab.Item.cat:=rfl
 rw [hcb] at hlv
 generalize C2 r.items l=IT at hI hil hlv
 clear hcb
 refine A1k ?_
 refine F5 [5,16] Tryz.func60 ?_
 intro b10 hb10;conv=>whnf
 refine J0 (hP _) ?_
 intro b12 hb12
 have h02:b10≠b12:=fun e=>by subst e;rw [A0] at hb12;cases hb12
 conv=>whnf
 refine stU (A0 ..) rfl ?_
 rw [I2];conv=>whnf
 refine J0 (hI _) ?_
 generalize hst:(upd (upd st b10 _) b12 _:St)=S0
 obtain ⟨f12,at12,hf12⟩:∃ f12:Nat→AV,S0 b12=some ⟨170,4,1,f12⟩∧f12 0=A1S Pr:=by rw [←hst];exact ⟨_,A0 ..,by rw [B4];rfl⟩
 obtain ⟨f10,at10⟩:∃ f10:Nat→AV,S0 b10=some ⟨113,6,1,f10⟩∧f10 0=H4 C1u.zero:=by rw [←hst,A5 h02];exact ⟨_,A0 ..,rfl⟩
 obtain ⟨at10,hf10⟩:=at10
 have hs0:E9 st S0:=by rw [←hst];exact ((E9.refl st).upd hb10).upd hb12
 have n12:st b12=none:=by rw [A5 h02.symm] at hb12;exact hb12
 clear hst
 refine lp IT.length [1,2,5,10,12,14,35,36,37] (fun i vs u=>∃ sv,vs=[eS zone,eB exempt,.fptr (M0 r) 0,.optr 6 b10 0 0,.optr 4 b12 0 0,sv,B0 4 H2 IT,eI IT.length,eI i]∧U9 9 1 eS ((IT.take i).map Ab.Item.cat) S0 sv u) ?_ ?_
 ·conv=>whnf
  exact ⟨.emp,rfl,U9.start _ _ _ _⟩
 rintro i vs u hi ⟨sv,rfl,hc⟩
 have hcs:=hc.sup
 conv=>whnf
 cases h1:decide ((i:Int)<(IT.length:Int))
 case true =>
  have hi':=X4 h1
  have hln2:((IT.take i).map Ab.Item.cat).length=i:=by rw [C9o,C9D];omega
  have htk:(IT.take (i+1)).map Ab.Item.cat=(IT.take i).map Ab.Item.cat++[(IT.getD (i:Int).toNat default).cat]:=by rw [N5 hi',C9P];rfl
  conv=>whnf
  refine I8 ?_
  refine U9.app (y:=(IT.getD (i:Int).toNat default).cat) (q:=r9) rfl rfl rfl rfl rfl (by rfl) (by rw [hln2];show (i+1) * 16≤140737488355328;omega) hc (fun sv' t' hc'=>?_);conv=>whnf
  refine I9 ?_
  exact nx hi' ⟨sv',by rw [C1 (by omega)],by rw [htk];exact hc'⟩
 obtain rfl:=L5 h1 hi
 rw [C9u] at hc;conv=>whnf
 refine K9 (hcs b12 _ at12) hf12 ?_
 refine K9 (hcs b12 _ at12) hf12 ?_
 have hTS:A4 [A0t r.tax,eS zone,eB exempt,sv,B2 Pr.nets,eI Pr.ship] u [A0t r.tax,eS zone,eB exempt,E3 (IT.map Ab.Item.cat),B2 Pr.nets,eI Pr.ship] S0 :=
  A4.cons (A4.keep [A0t r.tax] _) (A4.cons (A4.keep [eS zone] _) (A4.cons (A4.keep [eB exempt] _) (A4.cons hc.shift (A4.keep _ _))))
 refine D3 hTS (B6 (hlv _) ?_);conv=>whnf
 refine ⟨[15],[],List.range 17,by kernel_rfl,?_⟩;conv=>whnf
 refine cqW (s1 _) ?_
 refine cqW (s2 _) ?_
 refine ⟨_,⟨rfl,rfl⟩,?_⟩;conv=>whnf
 refine ⟨_,D3 (B2W rfl rfl rfl rfl) (A3H (s3 _)),?_⟩;conv=>whnf
 refine K9 at12 hf12 ?_
 refine stW at10 hf10 ?_
 refine K9 (A0 ..) (B4 ..) ?_
 exact ⟨rfl,hs0.over hb10⟩
end Go.Proofs.YtaapofnkmpiknaaGreat
namespace Go.Proofs.YtaapofnkmpiknaaGreat
open Go Go.Ab
structure T7 where
 sku:C9
 price:Int
 sold:Int
 left:Int
 goods:Int
 tax:Int
 deriving Inhabited
def R6 (x:T7):AV:=.agg [eS x.sku,eI x.price,eI x.sold,eI x.left,eI x.goods,eI x.tax]
structure A0l where
 kind:Int
 taken:Int
 given:Int
 deriving Inhabited
def A0a (x:A0l):AV:=.agg [eI x.kind,eI x.taken,eI x.given]
instance:Inhabited Z6:=⟨⟨0,0,0,0,0⟩⟩
structure D6 where
 id:C9
 rules:Int
 zone:C9
 exempt:Bool
 codes:List C9
 day:Int
 lines:List T7
 ship:Int
 shipTax:Int
 fee:Int
 net:Int
 book:Z6
 tenders:List A0l
 deriving Inhabited
def I3 (o:D6):AV:=.agg [eS o.id,eI o.rules,eS o.zone,eB o.exempt,E3 o.codes,eI o.day,B0 6 R6 o.lines,eI o.ship,eI o.shipTax,eI o.fee,eI o.net,eI o.book.goods,eI o.book.tax,eI o.book.ship,eI o.book.shipTax,eI o.book.fee,B0 3 A0a o.tenders]
def A0u (x:Int):Bool:=R1 0 10000000000000 x
def E4 (x:Int):Bool:=R1 0 100000000000000 x
def Z2 (x:T7):Bool:=J7 x.sku&&R1 0 1000000000 x.price&&R1 1 100000 x.sold&&R1 0 x.sold x.left&&A0u x.goods&&A0u x.tax
def K8 (x:A0l):Bool:=R1 1 9 x.kind&&E4 x.taken&&R1 0 x.taken x.given
def M7 (b:Z6):List Int:=[b.goods,b.tax,b.ship,b.shipTax,b.fee]
def A1P (b:Z6):Bool:=(M7 b).all E4
def W6 (b:Z6):Int:=if A1P b=true then A3 (M7 b) else 0
def Z3 (l:List A0l):Int:=l.foldl (fun a x=>a+(x.taken - x.given)) 0
def A3I (o:D6):Bool:=J7 o.id&&J7 o.zone&&R1 1 40 o.rules&&U0 o.codes&&R1 0 100000 o.day
def A1c (o:D6):Bool:=decide ((o.lines.length:Int)≥1)&&decide ((o.lines.length:Int)≤1000)&&o.lines.all Z2
def W9 (o:D6):Bool:=A0u o.ship&&A0u o.shipTax&&E4 o.fee&&E4 o.net
def A3G (o:D6):Bool:=A1P o.book&&(W6 o.book==o.net)
def R7 (o:D6):Bool:=o.tenders.all K8&&(decide ((o.tenders.length:Int)≤6)&&(Z3 o.tenders==o.net))
def H7 (o:D6):Bool:=decide ((o.tenders.length:Int)≤6)&&A3I o&&A1c o&&W9 o&&A3G o&&R7 o
def A8M (o:D6):List E6:=o.lines.map fun x=>⟨x.sku,x.left,x.price⟩
def L9 (t n k:Int):Int:=t * k / n
def shG (l:List T7):Int:=l.foldl (fun a x=>a+L9 x.goods x.sold x.left) 0
def shT (l:List T7):Int:=l.foldl (fun a x=>a+L9 x.tax x.sold x.left) 0
def O7 (l:List T7):Bool:=l.any fun x=>decide (x.left>0)
def A4U (o:D6):Z6:=if H7 o=true then ⟨shG o.lines,shT o.lines,if O7 o.lines=true then o.ship else 0,if O7 o.lines=true then o.shipTax else 0,0⟩ else ⟨0,0,0,0,0⟩
theorem A1r {x:T7} (h:Z2 x=true):J7 x.sku=true∧(0≤x.price∧x.price≤1000000000)∧(1≤x.sold∧x.sold≤100000)∧(0≤x.left∧x.left≤x.sold)∧(0≤x.goods∧x.goods≤10000000000000)∧(0≤x.tax∧x.tax≤10000000000000):=by
 unfold Z2 A0u at h
 simp only [C9l,G2] at h
 obtain ⟨⟨⟨⟨⟨h1,h2⟩,h3⟩,h4⟩,h5⟩,h6⟩:=h
 exact ⟨h1,h2,h3,h4,h5,h6⟩
theorem A0d {t n k:Int} (ht:0≤t) (hn:1≤n) (hk:0≤k) (hkn:k≤n):0≤L9 t n k∧L9 t n k≤t:=by
 unfold L9
 refine ⟨D0v (D0x ht hk) (by omega),?_⟩
 have h1:t * k≤t * n:=C9N hkn ht
 have h2:t * k / n≤t * n / n:=Int.ediv_le_ediv (by omega) h1
 rwa [Int.mul_ediv_cancel _ (by omega)] at h2
theorem A7x {α : Type} [Inhabited α] {f : α→Int} {M:Int} (hM:0≤M):∀ (l:List α),(∀ x∈l,0≤f x∧f x≤M)→∀ a:Int,a≤l.foldl (fun a x=>a+f x) a∧l.foldl (fun a x=>a+f x) a≤a+M * l.length
 | [],_,a=>⟨C9R _,by simp⟩
 | x::l,h,a=>by
  have h1:=h x (C9C ..)
  have h2:=A7x hM l (fun y hy=>h y (C9x _ hy)) (a+f x)
  simp only [D0E,C9G]
  have e:M * ((l.length+1:Nat):Int)=M * (l.length:Int)+M:=by rw [show ((l.length+1:Nat):Int)=(l.length:Int)+1 from rfl,D1e,D1K]
  rw [e]
  exact ⟨by omega,by omega⟩
end Go.Proofs.YtaapofnkmpiknaaGreat
namespace Go.Proofs.YtaapofnkmpiknaaGreat
open Go Go.Ab
attribute [local irreducible] upd del
theorem A6y (x:Int) (st:St):S P 130 [eI x] st fun v st'=>v=.bool (A0u x)∧st'=st:=by
 refine F5 [] Tryz.func130 ?_
 unfold A0u R1
 refine B7 (fun h=>?_) (fun h=>?_)<;>rw [h]<;>(conv=>whnf)<;>exact ⟨rfl,rfl⟩
theorem A2d (x:Int) (st:St):S P 72 [eI x] st fun v st'=>v=.bool (E4 x)∧st'=st:=A3v x st
theorem B9S (x:T7) (st:St):S P 129 [R6 x] st fun v st'=>v=.bool (Z2 x)∧st'=st:=by
 have n1:=A1f x.sku st
 have n2:=A6y x.goods st
 have n3:=A6y x.tax st
 unfold Z2 R1
 generalize J7 x.sku=b1 at *
 generalize A0u x.goods=b2 at *
 generalize A0u x.tax=b3 at *
 refine SyW [1] Tryz.func129 ?_
 repeat' ((conv=>whnf);first | refine B6 n1 ?_ | refine B6 n2 ?_ | refine B6 n3 ?_ | refine ⟨rfl,?_⟩ | (refine B7 (fun h=>?_) (fun h=>?_)<;>rw [h]))
 all_goals (conv=>whnf)
 all_goals (refine ⟨?_,rfl⟩;show AV.bool _=AV.bool _;clear n1 n2 n3)
 all_goals (simp only [*,C9K,C9A,D0n,C9I,D0d,C9X,D0f,D0a,C9Y,C9V,D0G])
theorem B5u (x:T7) (st:St):S P 128 [R6 x] st fun v st'=>v=.bool (!Z2 x)∧st'=st:=by
 have n1:=B9S x st
 generalize Z2 x=b at *
 refine F5 [1] Tryz.func128 ?_
 refine J0 n1 ?_
 exact ⟨rfl,rfl⟩
theorem A9I (l:List T7) (hl:l.length≤9223372036854775807) (g:FuncId) (cs:List AV) (p:T7→Bool) (st:St)
  (hg:∀ x,x∈l→S P g (R6 x::cs) st fun v st'=>v=.bool (p x)∧st'=st) :
  S P 193 [B0 6 R6 l,.fn (.func g) [] cs] st fun v st'=>v=eI (idx p l)∧st'=st:=by
 refine F5 [] Tryz.func193 ?_
 refine ⟨[0,1,7,8],fun m vs st'=>∃ i:Nat,i≤l.length∧(∀ k,k<i→p (l.getD k default)=false)∧m=l.length - i∧vs=[B0 6 R6 l,.fn (.func g) [] cs,eI l.length,eI i]∧st'=st,?_,?_⟩
 ·conv=>whnf
  exact ⟨_,0,C9v _,fun k hk=>absurd hk (by omega),rfl,rfl,rfl⟩
 ·rintro m vs st' ⟨i,hi,hok,rfl,rfl,rfl⟩
  conv=>whnf
  cases h:decide ((i:Int)<(l.length:Int))
  ·have:=C9k h
   conv=>whnf
   refine ⟨?_,rfl⟩
   rw [L4 fun k hk=>hok k (by omega)];rfl
  ·have hi':i<l.length:=by have:=C9j h;omega
   conv=>whnf
   refine I8 ?_
   refine B6 (hg (l.getD (i:Int).toNat default) (by simp [hi'])) ?_
   rw [C9Q]
   cases hp:p (l.getD i default)
   ·conv=>whnf
    refine I9 ?_
    refine ⟨l.length - (i+1),by omega,i+1,by omega,fun k hk=>?_,rfl,by rw [C1 (by omega)],rfl⟩
    rcases C9T.1 hk with h' | h'
    ·exact hok k h'
    ·rw [h'];exact hp
   ·conv=>whnf
    refine ⟨?_,rfl⟩
    rw [V5 hi' hok hp];rfl
theorem B2y (l:List T7) (hl:l.length≤9223372036854775807) (g:FuncId) (cs:List AV) (p:T7→Bool) (st:St)
  (hg:∀ x,x∈l→S P g (R6 x::cs) st fun v st'=>v=.bool (p x)∧st'=st) :
  S P 127 [B0 6 R6 l,.fn (.func g) [] cs] st fun v st'=>v=.bool (l.any p)∧st'=st:=by
 refine F5 [] Tryz.func127 ?_
 refine J0 (A9I l hl g cs p st hg) ?_
 refine ⟨?_,rfl⟩
 rw [←W1];rfl
structure A3F (o:D6):Prop where
 id:Sm o.id.size
 zone:Sm o.zone.size
 codes:Sm o.codes.length
 scodes:∀ s∈o.codes,Sm s.size
 lines:o.lines.length≤100000
 slines:∀ x∈o.lines,Sm x.sku.size
 tenders:o.tenders.length≤100000
theorem B9G (o:D6) (hs:A3F o) (st:St):S P 66 [I3 o] st fun v st'=>v=.bool (A3I o)∧st'=st:=by
 have n1:=A1f o.id st
 have n2:=A1f o.zone st
 have n3:=B3B o.codes hs.codes st
 have n4:=B6Q o.day st
 have e:A3I o=(J7 o.id&&J7 o.zone&&(decide (o.rules≥1)&&decide (o.rules≤40))&&U0 o.codes&&R1 0 100000 o.day):=rfl
 rw [e]
 clear e hs
 generalize J7 o.id=b1 at *
 generalize J7 o.zone=b2 at *
 generalize U0 o.codes=b3 at *
 generalize R1 0 100000 o.day=b4 at *
 refine SyW [1] Tryz.func66 ?_
 repeat' ((conv=>whnf);first | refine B6 n1 ?_ | refine B6 n2 ?_ | refine B6 n3 ?_ | refine B6 n4 ?_ | refine ⟨rfl,?_⟩ | (refine B7 (fun h=>?_) (fun h=>?_)<;>rw [h]))
 all_goals (conv=>whnf)
 all_goals (refine ⟨?_,rfl⟩;show AV.bool _=AV.bool _;clear n1 n2 n3 n4)
 all_goals (simp only [*,C9K,C9A,D0n,C9I,D0d,C9X,D0f,D0a,C9Y,C9V,D0G])
theorem B7z (o:D6) (hs:A3F o) (st:St):S P 67 [I3 o] st fun v st'=>v=.bool (A1c o)∧st'=st:=by
 have n1:=B2y o.lines (by have:=hs.lines;omega) 128 [] (fun x=>!Z2 x) st (fun x _=>B5u x st)
 have e:A1c o=(decide ((o.lines.length:Int)≥1)&&decide ((o.lines.length:Int)≤1000)&&!(o.lines.any fun x=>!Z2 x)):=by unfold A1c;rw [List.all_eq_not_any_not]
 rw [e]
 clear e hs
 generalize (o.lines.any fun x=>!Z2 x)=b1 at *
 refine SyW [1] Tryz.func67 ?_
 repeat' ((conv=>whnf);first | refine B6 n1 ?_ | refine ⟨rfl,?_⟩ | (refine B7 (fun h=>?_) (fun h=>?_)<;>rw [h]))
 all_goals (conv=>whnf)
 all_goals (refine ⟨?_,rfl⟩;show AV.bool _=AV.bool _;clear n1)
 all_goals (simp only [*,C9K,C9A,D0n,C9I,D0d,C9X,D0f,D0a,C9Y,C9V,D0G])
theorem B2K (o:D6) (st:St):S P 68 [I3 o] st fun v st'=>v=.bool (W9 o)∧st'=st:=by
 have n1:=A6y o.ship st
 have n2:=A6y o.shipTax st
 have n3:=A2d o.fee st
 have n4:=A2d o.net st
 unfold W9
 generalize A0u o.ship=b1 at *
 generalize A0u o.shipTax=b2 at *
 generalize E4 o.fee=b3 at *
 generalize E4 o.net=b4 at *
 refine SyW [1] Tryz.func68 ?_
 repeat' ((conv=>whnf);first | refine B6 n1 ?_ | refine B6 n2 ?_ | refine B6 n3 ?_ | refine B6 n4 ?_ | refine ⟨rfl,?_⟩ | (refine B7 (fun h=>?_) (fun h=>?_)<;>rw [h]))
 all_goals (conv=>whnf)
 all_goals (refine ⟨?_,rfl⟩;show AV.bool _=AV.bool _;clear n1 n2 n3 n4)
 all_goals (simp only [*,C9K,C9A,D0n,C9I,D0d,C9X,D0f,D0a,C9Y,C9V,D0G])
theorem A8U (b:Z6) (st:St):S P 71 [A0O b] st fun v st'=>v=A0O b∧st'=st:=by
 refine A1k ?_
 refine F5 [1] Tryz.func71 ?_
 intro b2 hb;conv=>whnf
 refine stW (A0 ..) rfl ?_
 refine K9 (A0 ..) (B4 ..) ?_
 exact ⟨rfl,((E9.refl st).upd hb).over hb⟩
theorem A7X {l:List Int}:∀ i,i≤l.length→(∀ k,k<i→E4 (gI l k)=true)→0≤A3 (l.take i)∧A3 (l.take i)≤100000000000000 * (i:Int)
 | 0,_,_=>⟨by rw [D1q];exact C9R _,by rw [D1q];exact C9R _⟩
 | i+1,hi,h=>by
  have ih:=A7X i (by omega) fun k hk=>h k (by omega)
  have hx:=G2.1 (h i (by omega))
  rw [J2 (by omega)]
  omega
theorem A8A {b:Z6} (h:∀ k,k<5→E4 (gI (M7 b) k)=true):A1P b=true:=C9O.2 fun x hx=>by
 obtain ⟨k,hk,rfl⟩:=F2 hx
 exact h k hk
theorem A8B {b:Z6} {k:Nat} (hk:k<5) (h:E4 (gI (M7 b) k)=false):A1P b=false:=by
 rw [D0R];intro e
 rw [C9O.1 e _ (A7 (l:=M7 b) (i:=k) hk)] at h;cases h
theorem C0e (b:Z6) (st:St):S P 20 [A0O b] st fun v st'=>v=eI (W6 b)∧st'=st:=by
 have c1:=fun s=>A8U b s
 refine F5 [1] Tryz.func20 ?_
 refine J0 (c1 _) ?_
 refine lp 5 [3,7,8] (fun i vs s=>(∀ k,k<i→E4 (gI (M7 b) k)=true)∧vs=[eI (A3 ((M7 b).take i)),A0O b,eI i]∧s=st) ?_ ?_
 ·conv=>whnf
  exact ⟨fun k hk=>absurd hk (by omega),rfl,rfl⟩
 rintro i vs s hi ⟨hok,rfl,rfl⟩
 conv=>whnf
 cases h:decide ((i:Int)<5)
 ·obtain rfl:i=5:=by have:=C9k h;omega
  have e:W6 b=A3 (M7 b):=by unfold W6;rw [if_pos (A8A hok)]
  rw [e];conv=>whnf
  exact ⟨rfl,rfl⟩
 have hi':i<5:=by have:=C9j h;omega
 have hr:=fun s=>A2d (gI (M7 b) i) s
 have hb:=A7X (l:=M7 b) i (by show i≤5;omega) hok
 have hn:=J2 (l:=M7 b) (i:=i) hi'
 have hw:E4 (gI (M7 b) i)=true→IntKind.i64.wrap (A3 ((M7 b).take i)+gI (M7 b) i)=A3 ((M7 b).take (i+1)):=fun hm=>by
  have hx:=G2.1 hm
  rw [hn];exact A6 (by omega) (by omega)
 have yes:E4 (gI (M7 b) i)=true→∀ k,k<i+1→E4 (gI (M7 b) k)=true:=fun hm=>M6 hok hm
 have no:E4 (gI (M7 b) i)=false→W6 b=0:=fun hm=>by unfold W6;rw [A8B hi' hm];rfl
 generalize A3 ((M7 b).take i)=Z at *
 generalize hY:A3 ((M7 b).take (i+1))=Y at *
 generalize E4 (gI (M7 b) i)=m at hr hw yes no
 clear hn hok hb h hi
 conv=>whnf
 rcases (by omega:i=0∨i=1∨i=2∨i=3∨i=4) with rfl | rfl | rfl | rfl | rfl
 all_goals
  refine ⟨⟨rfl,Nat.le_of_ble_eq_true rfl,by omega,by omega⟩,?_⟩;conv=>whnf
  refine B6 (hr _) ?_
  cases m
  ·conv=>whnf
   rw [no rfl]
   exact ⟨rfl,rfl⟩
  ·conv=>whnf
   refine I9 ?_
   exact nx hi' ⟨yes rfl,by rw [hY,←hw rfl,C1 (by omega)];rfl,rfl⟩
theorem B9D (o:D6) (st:St):S P 69 [I3 o] st fun v st'=>v=.bool (A3G o)∧st'=st:=by
 have c1:=fun s=>A8U o.book s
 have c2:=fun s=>C0e o.book s
 refine F5 [1] Tryz.func69 ?_
 refine J0 (c1 _) ?_
 refine lp 5 [1,8,9] (fun i vs s=>(∀ k,k<i→E4 (gI (M7 o.book) k)=true)∧vs=[.fptr (I3 o) 0,A0O o.book,eI i]∧s=st) ?_ ?_
 ·conv=>whnf
  exact ⟨fun k hk=>absurd hk (by omega),rfl,rfl⟩
 rintro i vs s hi ⟨hok,rfl,rfl⟩
 conv=>whnf
 cases h:decide ((i:Int)<5)
 ·obtain rfl:i=5:=by have:=C9k h;omega
  have e:A3G o=(W6 o.book==o.net):=by unfold A3G;rw [A8A hok];rfl
  rw [e]
  generalize W6 o.book=Z at *
  conv=>whnf
  refine ⟨[],[],List.range 9,by kernel_rfl,?_⟩;conv=>whnf
  refine cqW (c2 _) ?_
  exact ⟨rfl,rfl⟩
 have hi':i<5:=by have:=C9j h;omega
 have hr:=fun s=>A2d (gI (M7 o.book) i) s
 have yes:E4 (gI (M7 o.book) i)=true→∀ k,k<i+1→E4 (gI (M7 o.book) k)=true:=fun hm=>M6 hok hm
 have no:E4 (gI (M7 o.book) i)=false→A3G o=false:=fun hm=>by unfold A3G;rw [A8B hi' hm];rfl
 generalize E4 (gI (M7 o.book) i)=m at hr yes no
 clear hok h hi c2
 conv=>whnf
 rcases (by omega:i=0∨i=1∨i=2∨i=3∨i=4) with rfl | rfl | rfl | rfl | rfl
 all_goals
  refine ⟨⟨rfl,Nat.le_of_ble_eq_true rfl,by omega,by omega⟩,?_⟩;conv=>whnf
  refine B6 (hr _) ?_
  cases m
  ·conv=>whnf
   rw [no rfl]
   exact ⟨rfl,rfl⟩
  ·conv=>whnf
   refine I9 ?_
   exact nx hi' ⟨yes rfl,by rw [C1 (by omega)],rfl⟩
theorem A9g {x:A0l} (h:K8 x=true):0≤x.taken - x.given∧x.taken - x.given≤100000000000000∧0≤x.taken∧x.taken≤100000000000000∧0≤x.given:=by
 unfold K8 E4 at h
 simp only [C9l,G2] at h
 omega
theorem A8K {l:List A0l} {i:Nat} (hi:i<l.length):Z3 (l.take (i+1))=Z3 (l.take i)+((l.getD i default).taken - (l.getD i default).given):=K3 hi _ _
theorem B3O {l:List A0l}:∀ i,i≤l.length→(∀ k,k<i→K8 (l.getD k default)=true)→0≤Z3 (l.take i)∧Z3 (l.take i)≤100000000000000 * (i:Int)
 | 0,_,_=>⟨by rw [D1q];exact C9R _,by rw [D1q];exact C9R _⟩
 | i+1,hi,h=>by
  have ih:=B3O i (by omega) fun k hk=>h k (by omega)
  have hx:=A9g (h i (by omega))
  rw [A8K (by omega)]
  omega
theorem B1R {l:List A0l} (h:∀ k,k<l.length→K8 (l.getD k default)=true):l.all K8=true:=C9O.2 fun x hx=>by
 obtain ⟨k,hk,rfl⟩:=F2 hx;exact h k hk
theorem B3l {l:List A0l} {k:Nat} (hk:k<l.length) (h:K8 (l.getD k default)=false):l.all K8=false:=by
 rw [D0R];intro e
 rw [C9O.1 e _ (A7 hk)] at h;cases h
theorem B3k {b1 b2:Bool} {t g:Int} (h:b1=true∧b2=true∧0≤g∧g≤t):(b1&&b2&&(decide (g≥0)&&decide (g≤t)))=true:=by
 simp only [C9l,C9n]
 exact ⟨⟨h.1,h.2.1⟩,h.2.2⟩
theorem B2L (o:D6) (h6:o.tenders.length≤6) (st:St):S P 70 [I3 o] st fun v st'=>v=.bool (R7 o)∧st'=st:=by
 refine F5 [1,5] Tryz.func70 ?_
 refine lp o.tenders.length [1,3,8,9,10] (fun i vs s=>(∀ k,k<i→K8 (o.tenders.getD k default)=true)∧vs=[.fptr (I3 o) 0,eI (Z3 (o.tenders.take i)),B0 3 A0a o.tenders,eI o.tenders.length,eI i]∧s=st) ?_ ?_
 ·conv=>whnf
  exact ⟨fun k hk=>absurd hk (by omega),rfl,rfl⟩
 rintro i vs s hi ⟨hok,rfl,rfl⟩
 conv=>whnf
 cases h:decide ((i:Int)<(o.tenders.length:Int))
 ·obtain rfl:=L5 h hi
  have e:R7 o=(decide ((o.tenders.length:Int)≤6)&&(Z3 o.tenders==o.net)):=by unfold R7;rw [B1R hok];rfl
  rw [e,C9u]
  generalize Z3 o.tenders=Z
  conv=>whnf
  refine B7 (fun h=>?_) (fun h=>?_)<;>rw [h]
  all_goals
   conv=>whnf
   exact ⟨rfl,rfl⟩
 have hi':=X4 h
 have n1:=fun s=>B7g (o.tenders.getD (i:Int).toNat default).kind s
 have n2:=fun s=>A2d (o.tenders.getD (i:Int).toNat default).taken s
 have hx:K8 (o.tenders.getD (i:Int).toNat default)=(R1 1 9 (o.tenders.getD (i:Int).toNat default).kind&&E4 (o.tenders.getD (i:Int).toNat default).taken&&(decide ((o.tenders.getD (i:Int).toNat default).given≥0)&&decide ((o.tenders.getD (i:Int).toNat default).given≤(o.tenders.getD (i:Int).toNat default).taken))):=rfl
 have hb:=B3O i hi hok
 have hw:K8 (o.tenders.getD (i:Int).toNat default)=true→IntKind.i64.wrap (Z3 (o.tenders.take i)+IntKind.i64.wrap ((o.tenders.getD (i:Int).toNat default).taken - (o.tenders.getD (i:Int).toNat default).given))=Z3 (o.tenders.take (i+1)):=fun hm=>by
  have hx:=A9g hm
  have h4:=A8K hi'
  rw [A6 (x:=(o.tenders.getD (i:Int).toNat default).taken - (o.tenders.getD (i:Int).toNat default).given) (by omega) (by omega)]
  have e:Z3 (o.tenders.take (i+1))=Z3 (o.tenders.take i)+((o.tenders.getD (i:Int).toNat default).taken - (o.tenders.getD (i:Int).toNat default).given):=h4
  rw [e];exact A6 (by omega) (by omega)
 have yes:K8 (o.tenders.getD (i:Int).toNat default)=true→∀ k,k<i+1→K8 (o.tenders.getD k default)=true:=fun hm=>M6 hok hm
 have no:K8 (o.tenders.getD (i:Int).toNat default)=false→R7 o=false:=fun hm=>by unfold R7;rw [B3l hi' hm];rfl
 generalize K8 (o.tenders.getD (i:Int).toNat default)=t at hx hw yes no
 generalize hY:Z3 (o.tenders.take (i+1))=Y at hw
 generalize Z3 (o.tenders.take i)=Z at hw hb ⊢
 clear hok hb
 conv=>whnf
 refine ⟨rfl,⟨by omega,by omega⟩,?_⟩
 generalize R1 1 9 (o.tenders.getD (i:Int).toNat default).kind=b1 at *
 generalize E4 (o.tenders.getD (i:Int).toNat default).taken=b2 at *
 cases t with
 | true =>
  have hx:=hx.symm
  simp only [C9l,C9n] at hx
  obtain ⟨⟨rfl,rfl⟩,e3,e4⟩:=hx
  have g1:decide ((o.tenders.getD (i:Int).toNat default).given<0)=false:=C9s (by omega)
  have g2:decide ((o.tenders.getD (i:Int).toNat default).given>(o.tenders.getD (i:Int).toNat default).taken)=false:=C9s (by omega)
  repeat' ((conv=>whnf);first | refine B6 (n1 _) ?_ | refine B6 (n2 _) ?_ | rw [g1] | rw [g2])
  refine I9 ?_
  exact nx hi' ⟨yes rfl,by rw [hY,←hw rfl,C1 (by omega)],rfl⟩
 | false =>
  repeat' ((conv=>whnf);first | refine B6 (n1 _) ?_ | refine B6 (n2 _) ?_ | (refine B7 (fun h=>?_) (fun h=>?_)<;>rw [h]))
  all_goals first
   | (exfalso
      simp only [C9F,D0q,C9n,C9m] at *
      have:=B3k (b1:=b1) (b2:=b2) (t:=(o.tenders.getD (i:Int).toNat default).taken) (g:=(o.tenders.getD (i:Int).toNat default).given) ⟨by assumption,by assumption,by omega,by omega⟩
      rw [←hx] at this;cases this;done)
   | (conv=>whnf
      rw [no rfl]
      exact ⟨rfl,rfl⟩)
theorem A4P (o:D6) (hs:A3F o) (st:St):S P 19 [I3 o] st fun v st'=>v=.bool (H7 o)∧st'=st:=by
 have n1:=fun s=>B9G o hs s
 have n2:=fun s=>B7z o hs s
 have n3:=fun s=>B2K o s
 have n4:=fun s=>B9D o s
 have n5:=fun h6 s=>B2L o h6 s
 have hB:H7 o=(decide ((o.tenders.length:Int)≤6)&&A3I o&&A1c o&&W9 o&&A3G o&&R7 o):=rfl
 generalize A3I o=b1 at *
 generalize A1c o=b2 at *
 generalize W9 o=b3 at *
 generalize A3G o=b4 at *
 generalize R7 o=b5 at *
 refine F5 [1,3] Tryz.func19 ?_
 refine B7 (fun h=>?_) (fun h=>?_)<;>rw [h]<;>simp only [C9n,C9m] at h
 ·rw [C9s (by omega)] at hB
  rw [hB];conv=>whnf
  exact ⟨rfl,rfl⟩
 rw [D0r (by omega),C9K] at hB
 have n5:=n5 (by omega)
 conv=>whnf
 refine lp 5 [22,23,24] (fun i vs s=>((0<i→b1=true)∧(1<i→b2=true)∧(2<i→b3=true)∧(3<i→b4=true)∧(4<i→b5=true))∧(∃ F:Nat→AV,F 0=.fn (.func 66) [I3 o] []∧F 1=.fn (.func 67) [I3 o] []∧F 2=.fn (.func 68) [I3 o] []∧F 3=.fn (.func 69) [I3 o] []∧F 4=.fn (.func 70) [I3 o] []∧vs=[.arr 1 5 F,eI 5,eI i])∧s=st) ?_ ?_
 ·conv=>whnf
  exact ⟨⟨fun h=>absurd h (by omega),fun h=>absurd h (by omega),fun h=>absurd h (by omega),fun h=>absurd h (by omega),fun h=>absurd h (by omega)⟩,⟨_,rfl,rfl,rfl,rfl,rfl,rfl⟩,rfl⟩
 rintro i vs s hi ⟨⟨g1,g2,g3,g4,g5⟩,⟨F,f0,f1,f2,f3,f4,rfl⟩,rfl⟩
 conv=>whnf
 cases h5:decide ((i:Int)<5)
 ·have h5:=C9k h5
  rw [g1 (by omega),g2 (by omega),g3 (by omega),g4 (by omega),g5 (by omega)] at hB
  rw [hB];conv=>whnf
  exact ⟨rfl,rfl⟩
 have hi':i<5:=by have:=C9j h5;omega
 conv=>whnf
 refine ⟨rfl,⟨by omega,by omega⟩,?_⟩
 rcases (by omega:i=0∨i=1∨i=2∨i=3∨i=4) with rfl | rfl | rfl | rfl | rfl
 case' inl=>rw [show F ((0:Nat):Int).toNat=_ from f0]
 case' inr.inl=>rw [show F ((1:Nat):Int).toNat=_ from f1]
 case' inr.inr.inl=>rw [show F ((2:Nat):Int).toNat=_ from f2]
 case' inr.inr.inr.inl=>rw [show F ((3:Nat):Int).toNat=_ from f3]
 case' inr.inr.inr.inr=>rw [show F ((4:Nat):Int).toNat=_ from f4]
 all_goals
  conv=>whnf
  first | refine B6 (n1 _) ?_ | refine B6 (n2 _) ?_ | refine B6 (n3 _) ?_ | refine B6 (n4 _) ?_ | refine B6 (n5 _) ?_
  conv=>whnf
  refine B7 (fun h6=>?_) (fun h6=>?_)<;>rw [h6]
  ·rw [C9F] at h6
   rw [h6] at hB
   simp only [C9A,C9I] at hB
   rw [hB];conv=>whnf
   exact ⟨rfl,rfl⟩
  ·rw [D0q] at h6;conv=>whnf
   refine I9 ?_
   exact nx hi' ⟨⟨fun _=>by first | exact h6 | exact g1 (by omega),fun h=>by first | exact h6 | exact g2 (by omega) | omega,fun h=>by first | exact h6 | exact g3 (by omega) | omega,fun h=>by first | exact h6 | exact g4 (by omega) | omega,fun h=>by first | exact h6 | exact g5 (by omega) | omega⟩,⟨F,f0,f1,f2,f3,f4,by rw [C1 (by omega)]⟩,rfl⟩
structure C0P (z:J9):Prop where
 n:Sm z.rates.length
 s:Sm z.name.size
 r:∀ x∈z.rates,Sm x.cat.size
structure C2e (x:Y6):Prop where
 n:Sm x.zones.length
 z:∀ z∈x.zones,C0P z
structure B8S (p:A8):Prop where
 id:Sm p.id.size
 group:Sm p.group.size
 code:Sm p.code.size
 scope:A6r p.scope
 parts:Sm p.parts.length
 part:∀ x∈p.parts,A6r x.scope
 tiers:Sm p.tiers.length
def A0o (a b:A8):Bool:=if (a.prio != b.prio)=true then decide (a.prio>b.prio) else Y4 a.id b.id
theorem A0p (a b:A8):A0o a b=true↔a.prio>b.prio∨(a.prio=b.prio∧Y4 a.id b.id=true):=by
 unfold A0o
 split
 ·rename_i h;simp only [D1S,ne_eq] at h;rw [C9n];omega
 ·rename_i h;simp only [D1S,ne_eq,Classical.not_not] at h;constructor
  ·exact fun h2=>.inr ⟨h,h2⟩
  ·rintro (h2 | h2)
   ·omega
   ·exact h2.2
theorem B0N {a b:A8} (h:A0o a b=true):A0o b a=false:=by
 rw [←D0z,A0p]
 rw [A0p] at h
 rcases h with h | ⟨h1,h2⟩
 ·rintro (h3 | h3)<;>omega
 ·rintro (h3 | h3)
  ·omega
  ·rw [A5J h2] at h3;cases h3.2
theorem A9M {a b c:A8} (h:A0o b a=false) (k:A0o c b=false):A0o c a=false:=by
 rw [←D0z,A0p] at *
 rintro (h3 | ⟨h3,h4⟩)
 ·by_cases e:b.prio>a.prio
  ·exact h (.inl e)
  ·exact k (.inl (by omega))
 ·by_cases e:b.prio=a.prio
  ·have h5:Y4 b.id a.id=false:=by rw [←D0z];exact fun e2=>h (.inr ⟨e,e2⟩)
   have h6:Y4 c.id b.id=false:=by rw [←D0z];exact fun e2=>k (.inr ⟨by omega,e2⟩)
   rw [A1z h5 h6] at h4;cases h4
  ·by_cases e2:b.prio>a.prio
   ·exact h (.inl e2)
   ·exact k (.inl (by omega))
def A4s (l:List A8) (x y:Int):Prop:=A0o (D2 l y) (D2 l x)=false
theorem A1y (x:Int) (st:St):S P 131 [eI x] st fun v st'=>v=.bool (K4 x)∧st'=st:=by
 refine F5 [] Tryz.func131 ?_
 unfold K4
 cases h:decide (0≤x)
 ·conv=>whnf
  exact ⟨rfl,rfl⟩
 ·conv=>whnf
  exact ⟨rfl,rfl⟩
theorem C6s {v:Int} (h0:0≤v) (h1:v≤9223372036854775807):IntKind.i64.wrap ((BitVec.ofInt IntKind.i64.bits v &&& BitVec.ofInt IntKind.i64.bits 1).toNat:Int)=v % 2:=by
 show IntKind.i64.wrap ((BitVec.ofInt 64 v &&& BitVec.ofInt 64 1).toNat:Int)=v % 2
 obtain ⟨n,rfl⟩:=Int.eq_ofNat_of_zero_le h0
 have e1:(BitVec.ofInt 64 ((n:Nat):Int)).toNat=n:=by rw [BitVec.ofInt_natCast,BitVec.toNat_ofNat,D1V (by omega)]
 have e2:(BitVec.ofInt 64 1).toNat=1:=by decide
 rw [BitVec.toNat_and,e1,e2,Nat.and_one_is_mod,A6 (by omega) (by omega)];omega
theorem A9B {d q r Y:Int} (h:Y=d * q+r) (h0:0≤r) (h1:r<d):Y / d=q∧Y % d=r:=by
 have:=(Int.ediv_emod_unique (a:=Y) (b:=d) (r:=r) (q:=q) (by omega)).2 ⟨by omega,h0,h1⟩
 exact this
def P4 (num:Int) (j:Nat):Int:=num / 2 ^ (63 - j)
theorem B5Y {num:Int} (h:0≤num) {j:Nat} (hj:j<63):P4 num (j+1)=2 * P4 num j+P4 num (j+1) % 2:=by
 have e:P4 num j=P4 num (j+1) / 2:=by
  unfold P4
  rw [show 63 - j=(63 - (j+1))+1 by omega,Int.pow_succ,Int.ediv_ediv_of_nonneg (Int.pow_nonneg (by omega))]
 omega
theorem A6f {num:Int} (h:0≤num) (j:Nat):0≤P4 num j:=D0v h (Int.pow_nonneg (by omega))
theorem C0f {num:Int} (h:0≤num) (j:Nat):P4 num j≤num:=Int.ediv_le_self _ h
theorem B8w {num:Int} (h:0≤num) (h1:num≤100000000000000):P4 num 0=0:=Int.ediv_eq_zero_of_lt h (by show num<2 ^ 63;omega)
theorem B4s (num:Int):P4 num 63=num:=by unfold P4;simp
def A7w (x num den:Int):AV:=if x * num / den>100000000000000 then .tuple [eI 0,eI 0,.bool false] else .tuple [eI (x * num / den),eI (x * num % den),.bool true]
set_option maxHeartbeats 1000000 in
theorem B2T (x num den:Int) (hx:0≤x) (hx1:x≤100000000000000) (hn:0≤num) (hn1:num≤100000000000000) (hd:0<den) (hd1:den≤100000000000000) (st:St) :
  S P 150 [eI x,eI num,eI den] st fun v st'=>v=A7w x num den∧st'=st:=by
 refine F5 [] Tryz.func150 ?_
 refine lp 63 [0,1,2,9,10,11] (fun j vs s=>(x * P4 num j / den≤100000000000000)∧vs=[eI x,eI num,eI den,eI (x * P4 num j / den),eI (x * P4 num j % den),eI (62 - (j:Int))]∧s=st) ?_ ?_
 ·conv=>whnf
  refine ⟨?_,?_,rfl⟩
  ·rw [B8w hn hn1,Int.mul_zero,Int.zero_ediv];omega
  ·rw [B8w hn hn1,Int.mul_zero,Int.zero_ediv,Int.zero_emod];rfl
 ·rintro j vs s hj ⟨hq,rfl,rfl⟩
  conv=>whnf
  have hY0:0≤x * P4 num j:=D0x hx (A6f hn j)
  have hA0:0≤x * P4 num j / den:=D0v hY0 (by omega)
  have hB0:=D0k (x * P4 num j) (show den≠0 by omega)
  have hB1:=D0c (x * P4 num j) hd
  have hY:=D0b (x * P4 num j) den
  cases h:decide (62 - (j:Int)≥0)
  ·have hj63:j=63:=by have:=C9k h;omega
   subst hj63
   rw [B4s] at hq;conv=>whnf
   refine ⟨?_,rfl⟩
   unfold A7w
   rw [if_neg (by omega),B4s];rfl
  ·have hj':j<63:=by have:=C9j h;omega
   have hC0:0≤x / den:=D0v hx (by omega)
   have hC1:x / den≤x:=Int.ediv_le_self _ hx
   have hD0:=D0k x (show den≠0 by omega)
   have hD1:=D0c x hd
   have hX:=D0b x den
   have hst:=B5Y hn hj'
   have hN0:=A6f hn (j+1)
   have hN1:=C0f hn (j+1)
   have hbit:x * P4 num (j+1)=2 * (x * P4 num j)+x * (P4 num (j+1) % 2):=by
    conv=>lhs;rw [hst]
    rw [D1e,Int.mul_left_comm]
   have hshr:Int.fdiv num (2 ^ (min (IntKind.u64.wrap (62 - (j:Int))).toNat IntKind.i64.bits))=P4 num (j+1):=by
    show Int.fdiv num (2 ^ (min (IntKind.u64.wrap (62 - (j:Int))).toNat 64))=_
    rw [B1 (by omega) (by omega)]
    unfold P4
    rw [show min (62 - (j:Int)).toNat 64=63 - (j+1) by omega,C9L _ (Int.pow_nonneg (by omega))]
   have hbig:x * P4 num (j+1) / den>100000000000000→A7w x num den=.tuple [eI 0,eI 0,.bool false]:=fun hb=>by
    unfold A7w
    refine if_pos ?_
    have:x * P4 num (j+1) / den≤x * num / den:=Int.ediv_le_ediv hd (C9N hN1 hx)
    omega
   have hand:=C6s (v:=P4 num (j+1)) hN0 (by omega)
   have htd:x.tdiv den=x / den:=D0u hx
   have htm:x.tmod den=x % den:=D1i hx
   generalize hAe:x * P4 num j / den=A at *
   generalize hBe:x * P4 num j % den=B at *
   generalize hYe:x * P4 num j=Y at *
   generalize hCe:x / den=C at *
   generalize hDe:x % den=D at *
   have w1:IntKind.i64.wrap (2 * A)=2 * A:=A6 (by omega) (by omega)
   have w2:IntKind.i64.wrap (2 * B)=2 * B:=A6 (by omega) (by omega)
   conv=>whnf
   rw [w1,w2]
   -- doubled
   refine B7 (fun h1=>?_) (fun h1=>?_)<;>rw [h1]
   case' refine_1 =>
    have:=C9j h1
    have w3:IntKind.i64.wrap (2 * A+1)=2 * A+1:=A6 (by omega) (by omega)
    have w4:IntKind.i64.wrap (2 * B - den)=2 * B - den:=A6 (by omega) (by omega)
    have hq1:2 * Y=den * (2 * A+1)+(2 * B - den):=by rw [D1e,Int.mul_left_comm,D1K];omega
    have hq2:0≤2 * A+1∧2 * A+1≤200000000000001:=by omega
    have hr1:0≤2 * B - den∧2 * B - den<den:=by omega
    conv=>whnf
    rw [w3,w4]
    generalize 2 * A+1=q1 at *
    generalize 2 * B - den=r1 at *
   case' refine_2 =>
    have:=C9k h1
    have hq1:2 * Y=den * (2 * A)+(2 * B):=by rw [Int.mul_left_comm];omega
    have hq2:0≤2 * A∧2 * A≤200000000000001:=by omega
    have hr1:0≤2 * B∧2 * B<den:=by omega
    conv=>whnf
    generalize 2 * A=q1 at *
    generalize 2 * B=r1 at *
   all_goals clear w1 w2 hY hA0 hB0 hB1 hq hAe hBe
   all_goals (rw [C9s (show ¬ IntKind.u64.wrap (62 - (j:Int))<0 by rw [B1 (by omega) (by omega)];omega)])
   all_goals (conv=>whnf)
   all_goals rw [hshr,hand]
   all_goals refine B7 (fun h2=>?_) (fun h2=>?_)<;>rw [h2]
   -- a bit of num
   case' refine_2.true.refine_1.refine_1 | refine_2.true.refine_2.refine_1 =>
    have hb1:P4 num (j+1) % 2=1:=eq_of_beq h2
    have w5:IntKind.i64.wrap C=C:=A6 (by omega) (by omega)
    have w6:IntKind.i64.wrap (q1+C)=q1+C:=A6 (by omega) (by omega)
    have w7:IntKind.i64.wrap (r1+D)=r1+D:=A6 (by omega) (by omega)
    have hd0:decide (den=0)=false:=C9s (by omega)
    rw [hb1,D1K] at hbit;conv=>whnf
    refine ⟨[],[],List.range 12,by kernel_rfl,?_⟩;conv=>whnf
    rw [hd0];conv=>whnf
    rw [hd0];conv=>whnf
    rw [htd,htm,w5,w6,w7]
    refine B7 (fun h3=>?_) (fun h3=>?_)<;>rw [h3]
    case' refine_1 =>
     have:=C9j h3
     have w8:IntKind.i64.wrap (q1+C+1)=q1+C+1:=A6 (by omega) (by omega)
     have w9:IntKind.i64.wrap (r1+D - den)=r1+D - den:=A6 (by omega) (by omega)
     obtain ⟨e1,e2⟩:=A9B (Y:=x * P4 num (j+1)) (d:=den) (q:=q1+C+1) (r:=r1+D - den) (by rw [hbit,D1e,D1e,D1K];omega) (by omega) (by omega)
     conv=>whnf
     rw [w8,w9,←e1,←e2]
    case' refine_2 =>
     have:=C9k h3
     obtain ⟨e1,e2⟩:=A9B (Y:=x * P4 num (j+1)) (d:=den) (q:=q1+C) (r:=r1+D) (by rw [hbit,D1e];omega) (by omega) (by omega)
     conv=>whnf
     rw [←e1,←e2]
   case' refine_2.true.refine_1.refine_2 | refine_2.true.refine_2.refine_2 =>
    have hb1:P4 num (j+1) % 2=0:=by have:=ne_of_beq_false h2;omega
    rw [hb1,Int.mul_zero,D1C] at hbit
    obtain ⟨e1,e2⟩:=A9B (Y:=x * P4 num (j+1)) (d:=den) (q:=q1) (r:=r1) (by rw [hbit];omega) (by omega) (by omega)
    conv=>whnf
    rw [←e1,←e2]
   all_goals refine B7 (fun h4=>?_) (fun h4=>?_)<;>rw [h4]
   all_goals (conv=>whnf)
   all_goals first
    | exact ⟨by rw [hbig (C9j h4)];rfl,rfl⟩
    | (refine ⟨rfl,?_⟩;conv=>whnf
       have w10:IntKind.i64.wrap (62 - (j:Int) - 1)=62 - ((j+1:Nat):Int):=by rw [A6 (by omega) (by omega)];omega
       exact nx hj' ⟨by have:=C9k h4;omega,by rw [w10],rfl⟩)
theorem B7Z (x num den round:Int) (st:St):S P 92 [eI x,eI num,eI den,eI round] st fun v st'=>v=.tuple [eI (N6 x num den round).1,eI (N6 x num den round).2]∧st'=st:=by
 refine SyW [] Tryz.func92 ?_
 by_cases hok:(K4 x&&K4 num&&K4 den&&den != 0&&decide (0≤round)&&decide (round<3))=false
 ·rw [show N6 x num den round=(0,2) from if_pos hok]
  have n1:=A1y x st
  have n2:=A1y num st
  have hok':¬(K4 x=true∧K4 num=true∧1≤den∧den≤100000000000000∧0≤round∧round≤2):=fun ⟨h1,h2,h3,h4,h5,h6⟩=>by
   rw [h1,h2,(A2j den).2 ⟨by omega,h4⟩,D0r h5,D0r (show round<3 by omega),D1S.2 (show den≠0 by omega)] at hok;cases hok
  repeat' ((conv=>whnf);first | refine B6 n1 ?_ | refine B6 n2 ?_ | (refine B7 (fun h=>?_) (fun h=>?_)<;>rw [h]))
  all_goals (conv=>whnf)
  all_goals first
   | exact ⟨rfl,rfl⟩
   | (exfalso
      simp only [D0q,C9m] at *
      exact hok' ⟨by assumption,by assumption,by omega,by omega,by omega,by omega⟩)
 ·rw [D1r] at hok
  have ht:N6 x num den round=if x * num / den>100000000000000 then (0,5) else if K5 (x * num / den) (x * num % den) den round>100000000000000 then (0,5) else (K5 (x * num / den) (x * num % den) den round,0):=if_neg (by rw [hok];simp)
  simp only [C9l,D1S,ne_eq,C9n] at hok
  obtain ⟨⟨⟨⟨⟨x0,n0⟩,d0⟩,d2⟩,r0⟩,r1⟩:=hok
  have x1:=(A2j x).1 x0
  have n1:=(A2j num).1 n0
  have d1:=(A2j den).1 d0
  have e1:decide (den<1)=false:=C9s (by omega)
  have e2:decide (den>100000000000000)=false:=C9s (by omega)
  have e3:decide (round<0)=false:=C9s (by omega)
  have e4:decide (round>2)=false:=C9s (by omega)
  have hp:=B2T x num den (by omega) (by omega) (by omega) (by omega) (by omega) (by omega) st
  have hN:0≤x * num:=D0x x1.1 n1.1
  have hq0:0≤x * num / den:=D0v hN (by omega)
  have hm0:=D0k (x * num) d2
  have hm1:=D0c (x * num) (show 0<den by omega)
  have m1:=A1y x st
  have m2:=A1y num st
  rw [x0] at m1
  rw [n0] at m2
  unfold A7w at hp
  rw [ht]
  clear ht
  generalize x * num / den=q at *
  generalize x * num % den=r at *
  have bq:0≤K5 q r den round:=by unfold K5;repeat' split<;>omega
  by_cases hbig:q>100000000000000
  ·rw [if_pos hbig] at hp ⊢
   repeat' ((conv=>whnf);first | refine B6 m1 ?_ | refine B6 m2 ?_ | refine B6 hp ?_ | rw [e1] | rw [e2] | rw [e3] | rw [e4])
   conv=>whnf
   exact ⟨rfl,rfl⟩
  ·rw [if_neg hbig] at hp ⊢
   have w1:IntKind.i64.wrap (2 * r)=2 * r:=A6 (by omega) (by omega)
   have w2:IntKind.i64.wrap (q+1)=q+1:=A6 (by omega) (by omega)
   have w3:q.tmod 2=q % 2:=D1i hq0
   have m3:=A1y q st
   have m4:=A1y (q+1) st
   rcases (by omega:round=0∨round=1∨round=2) with rfl | rfl | rfl
   all_goals repeat' ((conv=>whnf);first | refine B6 m1 ?_ | refine B6 m2 ?_ | refine B6 m3 ?_ | refine B6 m4 ?_ | refine B6 hp ?_ | rw [e1] | rw [e2] | rw [e3] | rw [e4] | rw [w1] | rw [w2] | rw [w3] | (refine B7 (fun h=>?_) (fun h=>?_)<;>rw [h]))
   all_goals (conv=>whnf)
   all_goals (refine ⟨?_,rfl⟩;show AV.tuple [AV.int .i64 _,AV.int .i64 _]=AV.tuple [AV.int .i64 _,AV.int .i64 _])
   all_goals (simp only [K5,C9F,D0q,C9n,C9m,D0Q,C9W,ne_eq,K4,C9l,D1Q,if_true,D1x,Int.reduceEq] at *)
   all_goals (repeat' split)
   all_goals first | rfl | (exfalso;omega)
theorem B5x (x rate round:Int) (st:St):S P 33 [eI x,eI rate,eI round] st fun v st'=>v=.tuple [eI (if 0≤rate∧rate≤10000 then N6 x rate 10000 round else (0,2)).1,eI (if 0≤rate∧rate≤10000 then N6 x rate 10000 round else (0,2)).2]∧st'=st:=by
 refine SyW [] Tryz.func33 ?_
 repeat' ((conv=>whnf);first | refine B6 (B7Z _ _ _ _ st) ?_ | (refine B7 (fun h=>?_) (fun h=>?_)<;>rw [h]))
 all_goals (conv=>whnf)
 all_goals (refine ⟨?_,rfl⟩;simp only [C9n,C9m] at *)
 ·rw [if_neg (by omega)];rfl
 ·rw [if_neg (by omega)];rfl
 ·rw [if_pos (by omega)];rfl
theorem B2H (us:List A9) (mine:List Int):(G9 us mine).length=mine.length:=C9o ..
theorem V0.take {us:List A9} {l:List Int} (h:V0 us l) (n:Nat):V0 us (l.take n):=by
 have e:∀ k,k<(l.take n).length→gI (l.take n) k=gI l k∧k<l.length:=fun k hk=>by
  rw [C9D] at hk
  unfold gI
  rw [C9i,C9i,C9w (by omega)]
  exact ⟨rfl,by omega⟩
 exact ⟨fun k hk=>by rw [(e k hk).1];exact h.rng k (e k hk).2,fun i k hik hk=>by rw [(e k hk).1,(e i (by omega)).1];exact h.ne i k hik (e k hk).2⟩
theorem B5U (used:List Bool) (l:List QE):∃ pre,l=pre++(J8 used l).2∧∀ e∈pre,used.getD e.2.toNat default=true∨(J8 used l).1=some e.2:=by
 induction l with
 | nil=>exact ⟨[],rfl,fun e h=>by cases h⟩
 | cons e l ih =>
  by_cases hu:used.getD e.2.toNat default=true
  ·have ht:J8 used (e::l)=J8 used l:=by
    show (if used.getD e.2.toNat default=true then J8 used l else (some e.2,l))=_
    rw [if_pos hu]
   obtain ⟨pre,h1,h2⟩:=ih
   rw [ht]
   exact ⟨e::pre,by rw [D1h,←h1],fun x hx=>by
    rcases D0M.1 hx with rfl | hx
    ·exact .inl hu
    ·exact h2 x hx⟩
  ·have ht:J8 used (e::l)=(some e.2,l):=by
    show (if used.getD e.2.toNat default=true then J8 used l else (some e.2,l))=_
    rw [if_neg hu]
   rw [ht]
   exact ⟨[e],rfl,fun x hx=>by rw [C9Z] at hx;subst hx;exact .inr rfl⟩
def A2r (E:Nat→List QE) (n:Nat) (s:MSt):Prop:=∀ k,k<n→∃ pre,E k=pre++s.es k∧∀ e∈pre,s.used.getD e.2.toNat default=true
theorem B1C {used:List Bool} {i:Nat} (hi:i<used.length) (j:Nat):(used.set i true).getD j default=if j=i then true else used.getD j default:=by
 simp only [C9i,D0O]
 by_cases h:j=i
 ·subst h;simp [hi]
 ·rw [if_neg (fun e=>h e.symm),if_neg h]
theorem A2r.take {E:Nat→List QE} {us:List A9} {n:Nat} {s s':MSt} (h:A2r E n s) (hok:MOk us n s) {k:Nat} (hk:k<n) (ht:Y0 k s=some s'):A2r E n s':=by
 obtain ⟨pre0,p1,p2⟩:=B5U s.used (s.es k)
 obtain ⟨_,t2,_,_⟩:=A0E s.used (s.es k)
 unfold Y0 at ht
 split at ht
 ·cases ht
 ·rename_i i hi
  cases ht
  obtain ⟨e0,he0,rfl,_⟩:=t2 i hi
  have hlt:e0.2.toNat<s.used.length:=by rw [hok.len];exact (hok.rng k hk e0 he0).2
  intro j hj
  obtain ⟨pre,h1,h2⟩:=h j hj
  have hmono:∀ e:QE,s.used.getD e.2.toNat default=true→(s.used.set e0.2.toNat true).getD e.2.toNat default=true:=fun e he=>by
   rw [B1C hlt];split
   ·rfl
   ·exact he
  by_cases ej:j=k
  ·subst ej
   refine ⟨pre++pre0,?_,fun e he=>?_⟩
   ·show E j=_++Q7 s.es j _ j
    rw [D5,D0P,←p1];exact h1
   ·rcases D0V.1 he with he | he
    ·exact hmono e (h2 e he)
    ·rcases p2 e he with he | he
     ·exact hmono e he
     ·rw [hi] at he
      have he:=Option.some.inj he
      show (s.used.set _ true).getD _ default=true
      rw [B1C hlt,if_pos (by rw [he])]
  ·refine ⟨pre,?_,fun e he=>hmono e (h2 e he)⟩
   show E j=_++Q7 s.es k _ j
   rw [G3 ej];exact h1
theorem A2r.takes {E:Nat→List QE} {us:List A9} {n:Nat} {s:MSt} (h:A2r E n s) (hok:MOk us n s) {k:Nat} (hk:k<n):∀ {c:Nat} {s':MSt},O5 k c s=some s'→A2r E n s'
 | 0,s',e=>by cases e;exact h
 | c+1,s',e=>by
  unfold O5 at e
  obtain ⟨s1,h1,h2⟩:=D0g.1 e
  exact (A2r.takes h hok hk h1).take (hok.takes hk h1) hk h2
theorem A2r.parts {E:Nat→List QE} {us:List A9} {p:A8} {s:MSt} (h:A2r E p.parts.length s) (hok:MOk us p.parts.length s):∀ {k:Nat} {s':MSt},k≤p.parts.length→H0 p.parts k s=some s'→A2r E p.parts.length s'
 | 0,s',_,e=>by cases e;exact h
 | k+1,s',hk,e=>by
  unfold H0 at e
  obtain ⟨s1,h1,h2⟩:=D0g.1 e
  exact (A2r.parts h hok (by omega) h1).takes (MOk.parts hok (by omega) h1) (by omega) h2
abbrev RL (ls:List Int) (svl:AV):St→St→Prop:=fun s t=>ROut E9 2 1 (fun k=>eI (gI ls k)) ls.length s svl t
abbrev RA (all ls:List Int) (sva svl:AV):St→St→Prop:=fun s t=>ROut (RL ls svl) 3 1 (fun k=>eI (gI all k)) all.length s sva t
theorem B9a (ls:List Int) (svl:AV):G4 (RL ls svl):=V2 O1 _ _ _ _ _
theorem RA.start (s:St):RA [] [] .emp .emp s s:=ROut.start (ROut.start (E9.refl s) _ _ _) _ _ _
theorem RA.shift {all ls:List Int} {sva svl:AV} {s t:St} (h:RA all ls sva svl s t) (a b:AV):∃ t2,A4 [a,sva,svl,b] t [a,B2 all,B2 ls,b] t2∧E9 s t2:=by
 obtain ⟨t1,h1,h2⟩:=ROut.shift (B9a ls svl) h
 obtain ⟨t2,h3,h4⟩:=ROut.shift O1 h2
 exact ⟨t2,A4.cons (A4.keep _ _) (A4.cons h1 (A4.cons h3 (A4.keep _ _))),h4⟩
theorem A6c {us:List A9} {l offs l' offs':List Int} (h:l.length=offs.length):∀ k,k≤offs'.length→k≤l'.length→D8 us (l++l') (offs++offs') (offs.length+k)=D8 (D8 us l offs offs.length) l' offs' k
 | 0,_,_=>by
  rw [D1p]
  have:∀ n,n≤offs.length→D8 us (l++l') (offs++offs') n=D8 us l offs n:=fun n=>by
   induction n with
   | zero=>intro _;rfl
   | succ n ih =>
    intro hn
    unfold D8
    rw [ih (by omega),O2 (by omega),O2 (by omega)]
  exact this _ (C9q _)
 | k+1,h1,h2=>by
  have ih:=A6c (us:=us) (l':=l') (offs':=offs') h k (by omega) (by omega)
  have e:∀ (a b:List Int),a.length=offs.length→gI (a++b) (offs.length+k)=gI b k:=fun a b ha=>by
   unfold gI
   rw [C9i,C9i,C9B (by omega),ha,Nat.add_sub_cancel_left]
  rw [←D1H]
  unfold D8
  rw [ih,e l l' h,e offs offs' rfl]
structure C0M (p:A8) (us:List A9) (E:Nat→List QE) (D:Nat) (b:BSt) (ls:List Int):Prop where
 ok:BOk p us D b
 pre:A2r E p.parts.length ⟨b.ms.used,b.ms.es,[]⟩
 len:ls.length=b.taken.length
 out:b.out=D8 us b.taken ls ls.length
 sum:A3 ls=b.all
 pos:b.taken=[]∨0<b.all
 bnd:∀ k,k<ls.length→0≤gI ls k∧gI ls k≤(gU us (gI b.taken k).toNat).net
 nd:(b.taken.map Int.toNat).Nodup
 used:∀ x∈b.taken,b.ms.used.getD x.toNat default=true
theorem C0M.step {p:A8} (hp:A2H p) {us:List A9} (hu:C4 us) {E:Nat→List QE} {D:Nat} {b:BSt} {ls:List Int} (h:C0M p us E D b ls) {s:MSt} (hs:H0 p.parts p.parts.length ⟨b.ms.used,b.ms.es,[]⟩=some s) (hc:F4 us s.l>p.amount) :
  G9 us (C0 s.l)=E5 b.out (C0 s.l)∧C0M p us E D ⟨A0S b.out (C0 s.l) (F4 us s.l - p.amount),s,b.taken++C0 s.l,b.all+(F4 us s.l - p.amount)⟩ (ls++C3 (F4 us s.l - p.amount) (G9 us (C0 s.l))):=by
 obtain ⟨k1,k2,k3⟩:=h.ok.step hp hu hs hc
 have hok0:MOk us p.parts.length ⟨b.ms.used,b.ms.es,[]⟩:=⟨h.ok.ok.len,h.ok.ok.rng,h.ok.ok.srt,fun x hx=>by simp at hx⟩
 have hok:=MOk.parts hok0 (C9q _) hs
 have htr:=O9.parts (O9.start b.ms.used b.ms.es) hok0 (C9q _) hs
 have hpre:=h.pre.parts hok0 (C9q _) hs
 have hN:G9 us (C0 s.l)=E5 b.out (C0 s.l):=by
  unfold G9 E5
  exact D1d fun x hx=>by rw [h.ok.same _ (htr.free x (V9.1 hx))]
 have hW:=k1.weights
 rw [←hN] at hW
 obtain ⟨a1,a2,a3⟩:=P1 hW
 have hle:=fun {k} (hk:k<(G9 us (C0 s.l)).length)=>A0v hW (by have:=k1.le;rw [←hN] at this;exact this) hk
 have hnl:=B2H us (C0 s.l)
 have hlf:A0S b.out (C0 s.l) (F4 us s.l - p.amount)=D8 b.out (C0 s.l) (C3 (F4 us s.l - p.amount) (G9 us (C0 s.l))) (C3 (F4 us s.l - p.amount) (G9 us (C0 s.l))).length:=by
  unfold A0S;rw [←hN,a2,hnl]
 have hlen:=h.len
 generalize C3 (F4 us s.l - p.amount) (G9 us (C0 s.l))=X at *
 refine ⟨hN,⟨k2,hpre,?_,?_,?_,?_,?_,?_,?_⟩⟩
 ·show (ls++X).length=(b.taken++C0 s.l).length
  rw [C9E,C9E];omega
 ·show A0S _ _ _=D8 us (b.taken++C0 s.l) (ls++X) (ls++X).length
  rw [hlf,h.out,C9E,A6c h.len.symm X.length (C9q _) (by omega)]
 ·show A3 (ls++X)=_
  rw [D1,h.sum,a1]
 ·refine .inr ?_
  show 0<b.all+(F4 us s.l - p.amount)
  have:=h.ok.off.pos
  omega
 ·intro k hk
  show 0≤gI (ls++X) k∧gI (ls++X) k≤(gU us (gI (b.taken++C0 s.l) k).toNat).net
  by_cases hkl:k<ls.length
  ·rw [O2 hkl,O2 (by omega)];exact h.bnd k hkl
  ·have e:∀ (a b:List Int),a.length=ls.length→gI (a++b) k=gI b (k - ls.length):=fun a b ha=>by
    unfold gI
    rw [C9i,C9i,C9B (by omega),ha]
   rw [C9E] at hk
   rw [e ls X rfl,e b.taken _ hlen.symm]
   refine ⟨a3 _ (A7 (by omega)),?_⟩
   have h9:=hle (k:=k - ls.length) (by omega)
   rw [show gI (G9 us (C0 s.l)) (k - ls.length)=(gU us (gI (C0 s.l) (k - ls.length)).toNat).net from F7 (fun i:Int=>(gU us i.toNat).net) _ (by omega)] at h9
   exact h9
 ·show ((b.taken++C0 s.l).map Int.toNat).Nodup
  rw [C9P]
  refine List.nodup_append.2 ⟨h.nd,((A0B s.l).map Int.toNat).nodup_iff.2 htr.nd,fun x hx y hy e=>?_⟩
  subst e
  obtain ⟨u,hu1,rfl⟩:=C9H.1 hx
  obtain ⟨w,hw1,hw2⟩:=C9H.1 hy
  have f1:=h.used u hu1
  have f2:=htr.free w (V9.1 hw1)
  rw [hw2,f1] at f2;cases f2
 ·intro x hx
  show s.used.getD x.toNat default=true
  rw [htr.used]
  rcases D0V.1 hx with hx | hx
  ·exact .inl (h.used x hx)
  ·exact .inr (D1X (V9.1 hx))
end Go.Proofs.YtaapofnkmpiknaaGreat
