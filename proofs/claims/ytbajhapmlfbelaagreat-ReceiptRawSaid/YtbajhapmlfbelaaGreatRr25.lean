/- Part 25 of the proof: contracts of the functions that the law reaches -/
import Derived.Test.YtbajhapmlfbelaaGreatRr24
set_option maxRecDepth 100000
set_option linter.unusedVariables false
set_option linter.unusedSimpArgs false
namespace Go.Proofs.YtbajhapmlfbelaaGreat
open Go Go.Ab
attribute [local irreducible] upd del
abbrev Sm (n:Nat):Prop:=n≤9223372036854775807
theorem A5G (s:D9) (hs:Sm s.size) (st:St):S P 120 [eS s] st fun v st'=>v=.bool (D0 s)∧st'=st:=by
 refine D6 [] Tryz.func120 ?_
 refine lp s.size [0,3] (fun i vs st'=>(∀ k,k<i→okc (chr s k)=true)∧vs=[eS s,eI i]∧st'=st) ?_ ?_
 ·conv=>whnf
  exact ⟨fun k hk=>absurd hk (by omega),rfl,rfl⟩
 ·rintro i vs st' hi ⟨hok,rfl,rfl⟩
  conv=>whnf
  cases h:decide ((i:Int)<(s.size:Int))
  ·obtain rfl:=G2 h hi
   have e:D0 s=(decide ((s.size:Int)≥1)&&decide ((s.size:Int)≤12)):=by
    unfold D0
    rw [A2x hok,Bool.and_true]
    congr 1<;>exact decide_eq_decide.2 (by omega)
   rw [e];conv=>whnf
   refine B6 (fun h1=>?_) (fun h1=>?_)<;>rw [h1]<;>(conv=>whnf)<;>exact ⟨rfl,rfl⟩
  ·have hi':=N3 h
   have no:okc (chr s i)=false→D0 s=false:=fun h=>by unfold D0;rw [A0O hi' h,Bool.and_false]
   have yes:okc (chr s i)=true→∀ k,k<i+1→okc (chr s k)=true:=fun h=>I1 hok h
   conv=>whnf
   refine B9f (i:=i) rfl hi' ?_
   generalize chr s i=c at *
   repeat' ((conv=>whnf);refine B6 (fun h=>?_) (fun h=>?_)<;>rw [h])
   all_goals (conv=>whnf)
   all_goals first
    | (refine ⟨?_,rfl⟩
       rw [no (by rw [←Bool.not_eq_true,A5z];simp only [Bool.not_eq_true',Bool.not_eq_false',beq_iff_eq,beq_eq_false_iff_ne,ne_eq,decide_eq_true_eq,decide_eq_false_iff_not] at *;omega)]
       rfl)
    | (refine ⟨rfl,?_⟩
       conv=>whnf
       exact nx hi' ⟨yes ((A5z c).2 (by simp only [Bool.not_eq_true',Bool.not_eq_false',beq_iff_eq,beq_eq_false_iff_ne,ne_eq,decide_eq_true_eq,decide_eq_false_iff_not] at *;omega)),by rw [B7 (by omega)],rfl⟩)
theorem C4q (l:List D9) (s:D9) (hl:Sm l.length) (st:St):S P 162 [D8 l,eS s] st fun v st'=>v=.bool (l.any fun y=>y.toList==s.toList)∧st'=st:=by
 refine D6 [] Tryz.func162 ?_
 refine lp l.length [0,1,5] (fun i vs st'=>(∀ k,k<i→((l.getD k default).toList==s.toList)=false)∧vs=[D8 l,eS s,eI i]∧st'=st) ?_ ?_
 ·conv=>whnf
  exact ⟨fun k hk=>absurd hk (by omega),rfl,rfl⟩
 ·rintro i vs st' hi ⟨hok,rfl,rfl⟩
  conv=>whnf
  cases h:decide ((i:Int)<(l.length:Int))
  ·obtain rfl:=G2 h hi
   conv=>whnf
   refine ⟨?_,rfl⟩
   rw [List.any_eq_false.2 fun x hx=>by obtain ⟨k,hk,rfl⟩:=D3 hx;rw [hok k hk];simp];rfl
  ·have hi':=N3 h
   conv=>whnf
   refine I3 ?_
   cases h1:((l.getD (i:Int).toNat default).toList==s.toList)
   ·conv=>whnf
    refine H4 ?_
    exact nx hi' ⟨I1 hok h1,by rw [B7 (by omega)],rfl⟩
   ·conv=>whnf
    refine ⟨?_,rfl⟩
    rw [List.any_eq_true.2 ⟨_,A7 hi',h1⟩];rfl
theorem B7P (a b:D9):(Op.bytesLess a.toList b.toList||a.toList==b.toList)=!X0 b a:=by
 show (X0 a b||_)=_
 cases h:X0 a b with
 | true=>rw [A4L h];rfl
 | false =>
  cases h2:X0 b a with
  | true =>
   rw [Bool.false_or,Bool.not_true,beq_eq_false_iff_ne]
   intro e
   rw [A8c e.symm e,h] at h2;cases h2
  | false=>rw [Bool.false_or,beq_iff_eq.2 (A4d h h2)];rfl
theorem B5L (l:List D9) (m:Int) (hl:Sm l.length) (hs:∀ s∈l,Sm s.size) (st:St):S P 160 [D8 l,eI m] st fun v st'=>v=.bool (A0y l&&decide ((l.length:Int)≤m))∧st'=st:=by
 have hN:A0y l=T3 l fun k x=>D0 x&&Q9 l k:=by
  unfold A0y A0n T3
  rw [←Bool.coe_iff_coe]
  simp only [Bool.and_eq_true,List.all_eq_true,List.mem_range,Bool.not_eq_true',List.any_eq_false,Bool.not_eq_true,Bool.not_eq_false']
  exact ⟨fun ⟨a,b⟩ k hk=>⟨Bool.not_eq_false _▸b _ (A7 hk),a k hk⟩,fun h=>⟨fun k hk=>(h k hk).2,fun x hx=>by obtain ⟨k,hk,rfl⟩:=D3 hx;rw [(h k hk).1];simp⟩⟩
 rw [hN]
 refine D6 [] Tryz.func160 ?_
 refine lp l.length [0,1,5] (fun i vs st'=>(∀ k,k<i→(D0 (l.getD k default)&&Q9 l k)=true)∧vs=[D8 l,eI m,eI i]∧st'=st) ?_ ?_
 ·conv=>whnf
  exact ⟨fun k hk=>absurd hk (by omega),rfl,rfl⟩
 ·rintro i vs st' hi ⟨hok,rfl,rfl⟩
  conv=>whnf
  cases h:decide ((i:Int)<(l.length:Int))
  ·obtain rfl:=G2 h hi
   conv=>whnf
   rw [T7 hok]
   exact ⟨rfl,rfl⟩
  ·have hi':=N3 h
   have yes:(D0 (l.getD (i:Int).toNat default)&&Q9 l i)=true→∀ k,k<i+1→(D0 (l.getD k default)&&Q9 l k)=true:=fun h=>I1 hok h
   have no:(D0 (l.getD (i:Int).toNat default)&&Q9 l i)=false→(T3 l fun k x=>D0 x&&Q9 l k)=false:=fun h=>Y5 hi' h
   conv=>whnf
   refine ⟨[],[],List.range 22,by kernel_rfl,?_⟩;conv=>whnf
   refine I3 ?_
   have n1:=A5G (l.getD (i:Int).toNat default) (hs _ (A7 hi')) st'
   generalize D0 (l.getD (i:Int).toNat default)=b1 at n1 no yes
   refine cqW n1 ?_
   cases b1
   ·conv=>whnf
    rw [no rfl]
    exact ⟨rfl,rfl⟩
   ·rw [Bool.true_and] at no yes;conv=>whnf
    cases h2:decide ((i:Int)>0)
    ·have h0:i=0:=by have:=of_decide_eq_false h2;omega
     conv=>whnf
     refine H4 ?_
     exact nx hi' ⟨yes (by rw [h0];rfl),by rw [B7 (by omega)],rfl⟩
    ·have hp:0<i:=by have:=of_decide_eq_true h2;omega
     have hw:IntKind.i64.wrap ((i:Int) - 1)=((i - 1:Nat):Int):=by rw [A5 (by omega) (by omega)];omega
     have e:Q9 l i=!(Op.bytesLess (l.getD (i:Int).toNat default).toList (l.getD ((i - 1:Nat):Int).toNat default).toList||(l.getD (i:Int).toNat default).toList==(l.getD ((i - 1:Nat):Int).toNat default).toList):=by
      rw [B7P,Bool.not_not]
      unfold Q9
      rw [Int.toNat_natCast,Int.toNat_natCast,beq_false_of_ne (by omega),Bool.false_or]
     rw [e] at yes no;conv=>whnf
     refine I3 ?_
     rw [hw]
     refine I3 ?_
     generalize (Op.bytesLess (l.getD (i:Int).toNat default).toList (l.getD ((i - 1:Nat):Int).toNat default).toList||(l.getD (i:Int).toNat default).toList==(l.getD ((i - 1:Nat):Int).toNat default).toList)=b at *
     cases b
     ·conv=>whnf
      refine H4 ?_
      exact nx hi' ⟨yes rfl,by rw [B7 (by omega)],rfl⟩
     ·conv=>whnf
      rw [no rfl]
      exact ⟨rfl,rfl⟩
structure B1S (s:P3):Prop where
 n1:Sm s.skus.length
 n2:Sm s.cats.length
 s1:∀ x∈s.skus,Sm x.size
 s2:∀ x∈s.cats,Sm x.size
end Go.Proofs.YtbajhapmlfbelaaGreat
namespace Go.Proofs.YtbajhapmlfbelaaGreat
open Go Go.Ab
theorem B3F (l:List B1) (o:List Int):(H0 l o).Perm o:=by
 have h:=(A0l l o).map fun e:QE=>gI o e.2.toNat
 rw [List.map_map] at h
 have e:(List.range o.length).map ((fun e:QE=>gI o e.2.toNat) ∘ A7V l o)=o:=by
  refine List.ext_getElem (by simp) fun k h1 h2=>?_
  rw [List.getElem_map,List.getElem_range]
  show o.getD k default=_
  rw [List.getD_eq_getElem?_getD,List.getElem?_eq_getElem h2];rfl
 rw [e] at h;exact h
end Go.Proofs.YtbajhapmlfbelaaGreat
namespace Go.Proofs.YtbajhapmlfbelaaGreat
open Go Go.Ab
attribute [local irreducible] upd del
theorem B1S.fit {s:P3} (h:B1S s):A5M s:=⟨by have:=h.n1;show _≤9223372036854775807;omega,by have:=h.n2;show _≤9223372036854775807;omega⟩
end Go.Proofs.YtbajhapmlfbelaaGreat
namespace Go.Proofs.YtbajhapmlfbelaaGreat
open Go Go.Ab
structure A0X where
 goods:Int
 tax:Int
 ship:Int
 shipTax:Int
 fee:Int
def Y9 (b:A0X):AV:=.agg [eI b.goods,eI b.tax,eI b.ship,eI b.shipTax,eI b.fee]
def A3j (q:A2U):AV:=.agg [B4 q.goods,B4 q.taxes,eI q.ship,eI q.shipTax,eI q.total,A6 2 B4Z q.deals]
def M6 (r:O6) (l:List F6):List D9:=(C2 r.items l).map Ab.Item.cat
def B2w (v:B4m) (deals:List A3a):A2U:=⟨v.goods,v.taxes,v.ship,v.shipTax,A2 v.goods+A2 v.taxes+v.ship+v.shipTax,deals⟩
def B1r (r:O6) (z:N4) (exempt:Bool) (l:List F6) (Pr:A8l):A2U:=B2w (K3 r.tax z exempt (M6 r l) Pr.nets Pr.ship) Pr.deals
def B4M (q:A2U):A0X:=⟨A2 q.goods,A2 q.taxes,q.ship,q.shipTax,0⟩
theorem B1D {l:List Int} {B:Int} (hB:0≤B) (h:∀ x∈l,-B≤x∧x≤B) : -(l.length * B)≤A2 l∧A2 l≤l.length * B:=by
 induction l with
 | nil=>exact ⟨by show -(((0:Nat):Int) * B)≤0;rw [Int.natCast_zero,Int.zero_mul];omega,by show (0:Int)≤((0:Nat):Int) * B;rw [Int.natCast_zero,Int.zero_mul];omega⟩
 | cons x l ih =>
  have h1:=ih fun y hy=>h y (List.mem_cons_of_mem _ hy)
  have h2:=h x (List.mem_cons_self ..)
  rw [G8,List.length_cons,show ((l.length+1:Nat):Int) * B=l.length * B+B by rw [Int.natCast_add,Int.add_mul];simp]
  omega
structure I5 (l:List Int):Prop where
 len:l.length≤1000
 all:∀ x∈l,-10000000000000≤x∧x≤10000000000000
theorem I5.take {l:List Int} (h:I5 l) (i:Nat) : -10000000000000000≤A2 (l.take i)∧A2 (l.take i)≤10000000000000000:=by
 have h1:=B1D (l:=l.take i) (B:=10000000000000) (by decide) fun x hx=>h.all x (List.mem_of_mem_take hx)
 have h2:(l.take i).length≤1000:=by rw [List.length_take];have:=h.len;omega
 omega
theorem I5.sum {l:List Int} (h:I5 l) : -10000000000000000≤A2 l∧A2 l≤10000000000000000:=by
 have:=h.take l.length
 rwa [List.take_length] at this
theorem I5.step {l:List Int} (h:I5 l) {i:Nat} (hi:i<l.length):IntKind.i64.wrap (A2 (l.take i)+gI l i)=A2 (l.take (i+1)):=by
 have h1:=h.take (i+1)
 rw [H8 hi] at h1 ⊢
 exact A5 (by omega) (by omega)
structure A3c (t:Tax) (z:N4) (cats:List D9) (nets:List Int) (ship:Int):Prop where
 tax:A7t t=true
 zone:X1 z=true
 cats:cats.length=nets.length
 nets:A3d nets
 ship:0≤ship∧ship≤10000000000000
structure B6J (q:A2U) (n:Nat):Prop where
 goods:I5 q.goods
 taxes:I5 q.taxes
 ngoods:q.goods.length=n
 ntaxes:q.taxes.length=n
 pos:∀ x∈q.taxes,0≤x
 ship:0≤q.ship∧q.ship≤10000000000000
 shipTax:0≤q.shipTax∧q.shipTax≤10000000000000
 total:q.total=A2 q.goods+A2 q.taxes+q.ship+q.shipTax
theorem A3Z {t:Tax} {z:N4} {cats:List D9} {nets:List Int} {ship:Int} (h:A3c t z cats nets ship):(cats.map (F4 z)).length=nets.length∧∀ x∈cats.map (F4 z),0≤x∧x≤10000:=by
 refine ⟨by rw [List.length_map];exact h.cats,fun x hx=>?_⟩
 obtain ⟨c,_,rfl⟩:=List.mem_map.1 hx
 exact B5J h.zone c
theorem B7s {t:Tax} {z:N4} {cats:List D9} {nets:List Int} {ship:Int} (h:A3c t z cats nets ship) (exempt:Bool) (deals:List A3a):B6J (B2w (K3 t z exempt cats nets ship) deals) nets.length:=by
 obtain ⟨r1,r2⟩:=A3Z h
 obtain ⟨t1,t2⟩:=A6T (t:=t) h.nets r1 r2
 have hz:=(A4j h.zone).2.1
 have hm:=A1r (t:=t) h.ship.1 hz
 have hs:=h.ship
 have hn:=h.nets
 have hnx:∀ i,i<nets.length→0≤gI nets i∧gI nets i≤10000000000000:=fun i hi=>by
  have h1:=hn.pos _ (show gI nets i∈nets from A7 hi)
  have h2:=J6 hn.pos (show gI nets i∈nets from A7 hi)
  have h3:=hn.sum
  exact ⟨h1,by omega⟩
 have htx:∀ i,i<nets.length→0≤gI (H2 t (cats.map (F4 z)) nets) i∧gI (H2 t (cats.map (F4 z)) nets) i≤10000000000000:=fun i hi=>t2 _ (A7 (by omega))
 have hnl:=hn.len
 have gl:(A1m t (H2 t (cats.map (F4 z)) nets) nets).length=nets.length:=by unfold A1m;rw [List.length_map,List.length_range]
 refine ⟨⟨by show (A1m _ _ _).length≤_;omega,fun x hx=>?_⟩,⟨?_,fun x hx=>?_⟩,gl,?_,fun x hx=>?_,?_,?_,rfl⟩
 ·obtain ⟨i,hi,rfl⟩:=List.mem_map.1 (show x∈A1m _ _ _ from hx)
  have hi:=List.mem_range.1 hi
  have h1:=hnx i hi
  have h2:=htx i hi
  split<;>omega
 ·show (if exempt=true then List.replicate nets.length 0 else H2 t (cats.map (F4 z)) nets).length≤1000
  split
  ·rw [List.length_replicate];omega
  ·omega
 ·have hx:x∈(if exempt=true then List.replicate nets.length 0 else H2 t (cats.map (F4 z)) nets):=hx
  split at hx
  ·rw [(List.mem_replicate.1 hx).2];omega
  ·have:=t2 x hx;omega
 ·show (if exempt=true then List.replicate nets.length 0 else H2 t (cats.map (F4 z)) nets).length=nets.length
  split
  ·exact List.length_replicate
  ·exact t1
 ·have hx:x∈(if exempt=true then List.replicate nets.length 0 else H2 t (cats.map (F4 z)) nets):=hx
  split at hx
  ·rw [(List.mem_replicate.1 hx).2];exact Int.le_refl _
  ·exact (t2 x hx).1
 ·show 0≤(if t.incl=true then ship - K7 t ship z.ship else ship)∧(if t.incl=true then ship - K7 t ship z.ship else ship)≤10000000000000
  split<;>omega
 ·show 0≤(if exempt=true then 0 else K7 t ship z.ship)∧(if exempt=true then 0 else K7 t ship z.ship)≤10000000000000
  split<;>omega
theorem B3o {t:Tax} {z:N4} {cats:List D9} {nets:List Int} {ship:Int} (h:A3c t z cats nets ship) (exempt:Bool) :
  A2 (K3 t z exempt cats nets ship).goods≤10000000000000∧-10000000000000≤A2 (K3 t z exempt cats nets ship).goods∧A2 (K3 t z exempt cats nets ship).taxes≤10000000000000:=by
 obtain ⟨r1,r2⟩:=A3Z h
 obtain ⟨t1,t2⟩:=A6T (t:=t) h.nets r1 r2
 have hs:=h.nets.sum
 have hle:∀ i,i<nets.length→gI (H2 t (cats.map (F4 z)) nets) i≤gI nets i:=fun i hi=>B6i h.nets r1 r2 hi
 have h0:∀ i,i<nets.length→0≤gI (H2 t (cats.map (F4 z)) nets) i:=fun i hi=>(t2 _ (A7 (by omega))).1
 have hn0:∀ i,i<nets.length→0≤gI nets i:=fun i hi=>h.nets.pos _ (A7 hi)
 have hrn:=A6B nets
 have hg:A2 (A1m t (H2 t (cats.map (F4 z)) nets) nets)≤A2 ((List.range nets.length).map (gI nets)):=by
  refine A2k _ _ _ fun i hi=>?_
  have:=h0 i hi
  split<;>omega
 have hg0:0≤A2 (A1m t (H2 t (cats.map (F4 z)) nets) nets):=B9 fun x hx=>by
  obtain ⟨i,hi,rfl⟩:=List.mem_map.1 hx
  have hi:=List.mem_range.1 hi
  have h1:=hle i hi
  have h2:=hn0 i hi
  split<;>omega
 have ht:A2 (H2 t (cats.map (F4 z)) nets)≤A2 ((List.range nets.length).map (gI nets)):=by
  have e:=A6B (H2 t (cats.map (F4 z)) nets)
  rw [t1] at e
  rw [←e]
  exact A2k _ _ _ fun i hi=>hle i hi
 rw [hrn] at hg ht
 refine ⟨by show A2 (A1m _ _ _)≤_;omega,by show _≤A2 (A1m _ _ _);omega,?_⟩
 show A2 (if exempt=true then List.replicate nets.length 0 else H2 t (cats.map (F4 z)) nets)≤_
 split
 ·have e:∀ n,A2 (List.replicate n (0:Int))=0:=fun n=>by
   induction n with
   | zero=>rfl
   | succ n ih=>rw [List.replicate_succ,G8,ih];rfl
  rw [e];omega
 ·omega
end Go.Proofs.YtbajhapmlfbelaaGreat
namespace Go.Proofs.YtbajhapmlfbelaaGreat
open Go Go.Ab
attribute [local irreducible] upd del
theorem B2c {α : Type} [Inhabited α] {l:List α} {p : α→Bool} {i:Nat} (hi:i<l.length) (h:p (l.getD i default)=true) (hno:∀ j,j<i→p (l.getD j default)=false):l.find? p=some (l.getD i default):=by
 have g:∀ j (hj:j<l.length),l.getD j default=l[j]:=fun j hj=>by rw [List.getD_eq_getElem?_getD,List.getElem?_eq_getElem hj];rfl
 rw [List.find?_eq_some_iff_getElem]
 refine ⟨h,i,hi,(g i hi).symm,fun j hj=>?_⟩
 have:=hno j hj
 rw [g j (by omega)] at this
 rw [this];rfl
theorem B2d {α : Type} [Inhabited α] {l:List α} {p : α→Bool} (hno:∀ j,j<l.length→p (l.getD j default)=false):l.find? p=none:=by
 rw [List.find?_eq_none]
 intro x hx
 obtain ⟨j,hj,rfl⟩:=D3 hx
 rw [hno j hj];simp
theorem B1w (z:N4) (c:D9) (hl:z.rates.length≤100000) (st:St):S P 209 [Z1 z,eS c] st fun v st'=>v=eI (F4 z c)∧st'=st:=by
 refine D6 [2,6] Tryz.func209 ?_
 refine lp z.rates.length [1,2,8,9,10] (fun i vs t=>(∀ j,j<i→((z.rates.getD j default).cat.toList==c.toList)=false)∧vs=[eS c,.fptr (Z1 z) 0,A6 2 Z0 z.rates,eI z.rates.length,eI i]∧t=st) ?_ ?_
 ·conv=>whnf
  exact ⟨fun j hj=>absurd hj (by omega),rfl,rfl⟩
 ·rintro i vs t hi ⟨hno,rfl,rfl⟩
  conv=>whnf
  cases h1:decide ((i:Int)<(z.rates.length:Int))
  ·obtain rfl:=G2 h1 hi
   have hf:F4 z c=z.rest:=by unfold F4;rw [B2d hno]
   rw [hf];conv=>whnf
   exact ⟨rfl,rfl⟩
  ·have hi':=N3 h1
   conv=>whnf
   refine I3 ?_
   refine B6 (fun h2=>?_) (fun h2=>?_)<;>rw [h2]
   ·have hf:F4 z c=(z.rates.getD (i:Int).toNat default).rate:=by unfold F4;rw [B2c (p:=fun x:N1=>x.cat.toList==c.toList) hi' h2 hno];rfl
    rw [hf];conv=>whnf
    exact ⟨rfl,rfl⟩
   ·conv=>whnf
    refine H4 ?_
    exact nx hi' ⟨I1 hno h2,by rw [B7 (by omega)],rfl⟩
theorem A8v (l:List N1) (hl:l.length≤100000) (st:St):S P 261 [A6 2 Z0 l] st fun v st'=>v=A6 2 Z0 l∧st'=st:=by
 refine A4m (ty:=212) ?_
 refine SyW [] Tryz.func261 ?_
 cases l with
 | nil =>
  conv=>whnf
  refine ⟨?_,?_⟩
  ·conv=>whnf
   exact I2.start _ _ _ _
  ·conv=>whnf
   refine apE rfl rfl rfl rfl rfl (by show 0 * 24≤_;omega) (fun _=>?_) (fun h=>absurd h (by show ¬ 0<0;omega));conv=>whnf
   exact I2.start _ _ _ _
 | cons u us =>
  conv=>whnf
  refine I2.apps (n:=0) (m:=us.length+1) (q:=B9A) (f:=fun k=>Z0 ((u::us).getD k default)) rfl rfl rfl rfl rfl (fun i hi=>by rw [Nat.zero_add]) (by show (0+(us.length+1)) * 24≤140737488355328;simp only [List.length_cons] at hl;omega) (I2.start _ _ _ _) (fun sv' st'' hc'=>?_);conv=>whnf
  rw [Nat.zero_add] at hc'
  exact hc'
theorem A9J (z:N4) (hl:z.rates.length≤100000) (st:St):S P 189 [Z1 z] st fun v st'=>v=Z1 z∧st'=st:=by
 have hc:=fun s=>A8v z.rates hl s
 refine A1R ?_
 refine D6 [] Tryz.func189 ?_
 intro b1 h1;conv=>whnf
 intro b2 h2
 have h12:b1≠b2:=fun e=>by subst e;rw [A0] at h2;cases h2
 conv=>whnf
 refine J5 (by rw [A3 h12];exact A0 ..) rfl ?_
 refine I7 (hc _) ?_
 refine stW (by rw [A3 h12];exact A0 ..) rfl ?_
 refine J5 (A0 ..) (A9 ..) ?_
 refine stW (by rw [A3 h12.symm];exact A0 ..) rfl ?_
 refine J5 (A0 ..) (A9 ..) ?_
 have hn2:st b2=none:=by rw [A3 h12.symm] at h2;exact h2
 exact ⟨rfl,((((E7.refl st).upd h1).upd h2).over h1).over hn2⟩
def C3W:N4:=⟨⟨#[]⟩,[],0,0⟩
theorem B1x (t:Tax) (s:D9) (hl:t.zones.length≤100000) (hr:∀ z∈t.zones,z.rates.length≤100000) (st:St) :
  S P 208 [A1W t,eS s] st fun v st'=>v=.tuple [Z1 ((A5l t.zones s).getD C3W),.bool (A5l t.zones s).isSome]∧st'=st:=by
 refine S.post (post:=fun v s'=>E7 st s'∧((∃ z,A5l t.zones s=some z∧v=.tuple [Z1 z,.bool true])∨(A5l t.zones s=none∧v=.tuple [.agg [eS ⟨#[]⟩,.emp,eI 0,eI 0],.bool false]))) ?_ (fun v s' ⟨hs,h⟩=>⟨_,st,⟨rfl,rfl⟩,by
  rcases h with ⟨z,h1,rfl⟩ | ⟨h1,rfl⟩
  ·rw [h1];exact hs.shift _
  ·rw [h1]
   exact (A4.tuple (A4.cons (Le.shift (Le.agg (H9.cons (Le.refl _) (H9.cons (Le.emp _ _) (H9.refl _)))) _) (A4.keep _ _)) rfl).trans (hs.shift _)⟩)
 refine D6 [2,7] Tryz.func208 ?_
 intro b4 hb4;conv=>whnf
 refine lp t.zones.length [1,4,9,10,11] (fun i vs u=>(∀ j,j<i→((t.zones.getD j default).name.toList==s.toList)=false)∧vs=[eS s,.optr 4 b4 0 0,A6 4 Z1 t.zones,eI t.zones.length,eI i]∧u=upd st b4 ⟨177,4,1,fun _=>H3 B9z.zero⟩) ?_ ?_
 ·conv=>whnf
  exact ⟨fun j hj=>absurd hj (by omega),rfl,rfl⟩
 ·rintro i vs u hi ⟨hno,rfl,rfl⟩
  conv=>whnf
  cases h1:decide ((i:Int)<(t.zones.length:Int))
  ·obtain rfl:=G2 h1 hi
   have hf:A5l t.zones s=none:=B2d hno
   conv=>whnf
   refine stW (A0 ..) rfl ?_
   refine J5 (A0 ..) (A9 ..) ?_
   exact ⟨((E7.refl st).upd hb4).over hb4,.inr ⟨hf,rfl⟩⟩
  ·have hi':=N3 h1
   conv=>whnf
   refine I3 ?_
   refine B6 (fun h2=>?_) (fun h2=>?_)<;>rw [h2]
   ·have hf:A5l t.zones s=some (t.zones.getD (i:Int).toNat default):=B2c (p:=fun z:N4=>z.name.toList==s.toList) hi' h2 hno
    have hc:=fun u=>A9J (t.zones.getD (i:Int).toNat default) (hr _ (A7 hi')) u
    generalize t.zones.getD (i:Int).toNat default=z at hf hc
    conv=>whnf
    refine I7 (hc _) ?_
    refine stW (A0 ..) rfl ?_
    refine J5 (A0 ..) (A9 ..) ?_
    exact ⟨((E7.refl st).upd hb4).over hb4,.inl ⟨z,hf,rfl⟩⟩
   ·conv=>whnf
    refine H4 ?_
    exact nx hi' ⟨I1 hno h2,by rw [B7 (by omega)],rfl⟩
theorem A3n (x:Int) (st:St):S P 278 [eI x] st fun v st'=>v=.bool (J9 0 10000000000000 x)∧st'=st:=by
 refine SyW [] Tryz.func278 ?_
 repeat' ((conv=>whnf);first | (refine B6 (fun h=>?_) (fun h=>?_)<;>rw [h]))
 all_goals (conv=>whnf)
 all_goals (refine ⟨?_,rfl⟩;show AV.bool _=AV.bool _;congr 1)
 all_goals (simp only [J9, *,Bool.true_and,Bool.false_and];try rfl)
theorem B5t (t:Tax) (x rate:Int) (hr:0≤rate∧rate≤10000) (st:St):S P 212 [A1W t,eI x,eI rate] st fun v st'=>v=eI (K7 t x rate)∧st'=st:=by
 have hM:K7 t x rate=(O7 x rate (A9L t rate) t.round).1:=rfl
 have hw:IntKind.i64.wrap (10000+rate)=10000+rate:=A5 (by omega) (by omega)
 refine D6 [3] Tryz.func212 ?_
 cases hi:t.incl
 ·have hd:A9L t rate=10000:=by unfold A9L;rw [if_neg (by rw [hi];simp)];rfl
  conv=>whnf
  refine B3 (A9s x rate 10000 t.round st) ?_
  rw [hM,hd]
  generalize O7 x rate 10000 t.round=Y
  conv=>whnf
  exact ⟨rfl,rfl⟩
 ·have hd:A9L t rate=10000+rate:=by unfold A9L;rw [if_pos hi]
  conv=>whnf
  rw [hw]
  refine B3 (A9s x rate (10000+rate) t.round st) ?_
  rw [hM,hd]
  generalize O7 x rate (10000+rate) t.round=Y
  conv=>whnf
  exact ⟨rfl,rfl⟩
theorem A6i (t:Tax) (rates nets:List Int) (i:Nat):(List.range (i+1)).map (fun i=>K7 t (gI nets i) (gI rates i))=(List.range i).map (fun i=>K7 t (gI nets i) (gI rates i))++[K7 t (gI nets i) (gI rates i)]:=by rw [List.range_succ,List.map_append];rfl
theorem B4P (t:Tax) (rates nets:List Int) (hn:nets.length≤1000) (hl:rates.length=nets.length) (hq:∀ x∈rates,0≤x∧x≤10000) (st:St):S P 210 [A1W t,B4 rates,B4 nets] st fun v st'=>v=B4 (X8 t rates nets)∧st'=st:=by
 refine A4m (ty:=2) ?_
 have hL:X8 t rates nets=(List.range nets.length).map fun i=>K7 t (gI nets i) (gI rates i):=rfl
 rw [hL]
 refine D6 [3] Tryz.func210 ?_
 refine lp nets.length [1,3,7,10,11,12] (fun i vs s=>∃ sv,vs=[B4 rates,.fptr (A1W t) 0,sv,B4 nets,eI nets.length,eI i]∧M5 2 1 eI ((List.range i).map fun i=>K7 t (gI nets i) (gI rates i)) st sv s) ?_ ?_
 ·conv=>whnf
  exact ⟨.emp,rfl,M5.start _ _ _ _⟩
 ·rintro i vs s hi ⟨sv,rfl,hc⟩
  conv=>whnf
  cases h1:decide ((i:Int)<(nets.length:Int))
  ·obtain rfl:=G2 h1 hi
   conv=>whnf
   exact hc
  ·have hi':=N3 h1
   have hm:=fun u=>B5t t (gI nets (i:Int).toNat) (gI rates (i:Int).toNat) (hq _ (A7 (by show i<_;omega))) u
   have hs:=A6i t rates nets i
   have hln:((List.range i).map fun i=>K7 t (gI nets i) (gI rates i)).length=i:=by rw [List.length_map,List.length_range]
   conv=>whnf
   refine I3 ?_
   refine ⟨[8,9],[],List.range 11,by kernel_rfl,?_⟩;conv=>whnf
   refine I3 ?_
   refine ⟨_,L9 (hm _),?_⟩
   have hy:K7 t (gI nets i) (gI rates i)=K7 t (gI nets (i:Int).toNat) (gI rates (i:Int).toNat):=rfl
   rw [hy] at hs
   generalize K7 t (gI nets (i:Int).toNat) (gI rates (i:Int).toNat)=Y at hs
   conv=>whnf
   refine M5.app (y:=Y) (q:=r2) rfl rfl rfl rfl rfl (by rfl) (by rw [hln];show (i+1) * 8≤140737488355328;omega) hc (fun sv' t' hc'=>?_);conv=>whnf
   refine H4 ?_
   exact nx hi' ⟨sv',by rw [B7 (by omega)],by rw [hs];exact hc'⟩
theorem B7v {t:Tax} {z:N4} {cats:List D9} {nets:List Int} {ship:Int} (h:A3c t z cats nets ship) (st:St):S P 207 [A1W t,D8 cats,B4 nets,eI ship] st fun v st'=>v=.bool true∧st'=st:=by
 have hn:=h.nets.len
 have hs:=h.nets.sum
 have hp:=h.nets.pos
 have hc:=h.cats
 have hT:=fun s=>B8A t s
 have hA:=fun s=>A3n ship s
 rw [h.tax] at hT
 rw [show J9 0 10000000000000 ship=true from J4.2 h.ship] at hA
 have htk:∀ i,0≤A2 (nets.take i)∧A2 (nets.take i)≤10000000000000:=fun i=>by
  have:=K4 hp i
  exact ⟨B9 fun x hx=>hp x (List.mem_of_mem_take hx),by omega⟩
 refine D6 [4] Tryz.func207 ?_
 refine I7 (hT _) ?_
 rw [hc,show ((nets.length:Int) != (nets.length:Int))=false from bne_self_eq_false _];conv=>whnf
 refine B6 (fun h1=>absurd (of_decide_eq_true h1) (by omega)) (fun h1=>?_)
 rw [h1];conv=>whnf
 refine I7 (hA _) ?_
 refine lp nets.length [9,32,33,34] (fun i vs s=>vs=[eI (A2 (nets.take i)),B4 nets,eI nets.length,eI i]∧s=st) ?_ ?_
 ·conv=>whnf
  exact ⟨rfl,rfl⟩
 ·rintro i vs s hi ⟨rfl,rfl⟩
  conv=>whnf
  cases h2:decide ((i:Int)<(nets.length:Int))
  ·obtain rfl:=G2 h2 hi
   have hB:=fun s=>A3n (A2 (nets.take nets.length)) s
   rw [show J9 0 10000000000000 (A2 (nets.take nets.length))=true from J4.2 (htk _)] at hB;conv=>whnf
   refine I7 (hB _) ?_
   exact ⟨rfl,rfl⟩
  ·have hi':=N3 h2
   have hx:0≤gI nets (i:Int).toNat:=hp _ (A7 hi')
   have hx2:gI nets (i:Int).toNat≤A2 nets:=J6 hp (A7 hi')
   have hB:=fun s=>A3n (gI nets (i:Int).toNat) s
   rw [show J9 0 10000000000000 (gI nets (i:Int).toNat)=true from J4.2 (by omega)] at hB
   have hst:A2 (nets.take (i+1))=A2 (nets.take i)+gI nets (i:Int).toNat:=H8 hi'
   have h3:=htk (i+1)
   have hw:IntKind.i64.wrap (A2 (nets.take i)+gI nets (i:Int).toNat)=A2 (nets.take (i+1)):=by rw [hst] at h3 ⊢;exact A5 (by omega) (by omega)
   conv=>whnf
   refine I3 ?_
   refine I7 (hB _) ?_
   rw [hw]
   refine H4 ?_
   exact nx hi' ⟨by rw [B7 (by omega)],rfl⟩
theorem B3W {t:Tax} (h:A7t t=true):t.zones.length≤20∧∀ z∈t.zones,z.rates.length≤40:=by
 have h':=h
 unfold A7t at h
 simp only [Bool.and_eq_true,Bool.not_eq_true',Bool.or_eq_false_iff,decide_eq_false_iff_not] at h
 refine ⟨by omega,fun z hz=>?_⟩
 obtain ⟨k,hk,rfl⟩:=D3 hz
 exact (A4j (A2w.1 h.2.1 k hk)).2.2.1
def B9U (t:Tax):FuncId:=if t.byOrder=true then 211 else 210
def A1z (t:Tax) (taxes nets:List Int) (i:Nat):Int:=if t.incl=true then gI nets i - gI taxes i else gI nets i
theorem B1h (f:Nat→Int) (i:Nat):(List.range (i+1)).map f=(List.range i).map f++[f i]:=by rw [List.range_succ,List.map_append];rfl
theorem B6w (n i:Nat):(List.replicate n (0:Int)).getD i default=0:=by
 rw [List.getD_eq_getElem?_getD,List.getElem?_replicate];split<;>rfl
set_option maxHeartbeats 8000000 in
theorem B9i {t:Tax} {z:N4} {s:D9} {cats:List D9} {nets:List Int} {ship:Int} (h:A3c t z cats nets ship) (hz:A5l t.zones s=some z) (exempt:Bool)
  (hTax:∀ st,S P (B9U t) [A1W t,B4 (cats.map (F4 z)),B4 nets] st fun v st'=>v=B4 (H2 t (cats.map (F4 z)) nets)∧st'=st) (st:St) :
  S P 116 [A1W t,eS s,eB exempt,D8 cats,B4 nets,eI ship] st fun v st' =>
   v=.tuple [B4 (K3 t z exempt cats nets ship).goods,B4 (K3 t z exempt cats nets ship).taxes,eI (K3 t z exempt cats nets ship).ship,eI (K3 t z exempt cats nets ship).shipTax,eI 0]∧st'=st:=by
 obtain ⟨hr1,hr2⟩:=A3Z h
 obtain ⟨t1,t2⟩:=A6T (t:=t) h.nets hr1 hr2
 obtain ⟨l1,l2⟩:=B3W h.tax
 have hzm:z∈t.zones:=List.mem_of_find?_eq_some hz
 have hzr:=l2 z hzm
 have hn:=h.nets.len
 have hcl:=h.cats
 have hq:=(A4j h.zone).2.1
 have hm:=A1r (t:=t) h.ship.1 hq
 have hs:=h.ship
 have hM:=fun st=>B7v h st
 have hZ:∀ st,S P 208 [A1W t,eS s] st fun v st'=>v=.tuple [Z1 z,.bool true]∧st'=st:=fun st=>by
  have:=B1x t s (by omega) (fun z hz=>by have:=l2 z hz;omega) st
  rw [hz] at this;exact this
 have hR:=fun c st=>B1w z c (by omega) st
 have hU:=fun st=>B5t t ship z.ship hq st
 have hL:K3 t z exempt cats nets ship=⟨(List.range nets.length).map (A1z t (H2 t (cats.map (F4 z)) nets) nets),if exempt=true then List.replicate nets.length 0 else H2 t (cats.map (F4 z)) nets,if t.incl=true then ship - K7 t ship z.ship else ship,if exempt=true then 0 else K7 t ship z.ship⟩:=rfl
 rw [hL]
 have hnx:∀ i,i<nets.length→0≤gI nets i∧gI nets i≤10000000000000:=fun i hi=>by
  have h1:=h.nets.pos _ (show gI nets i∈nets from A7 hi)
  have h2:=J6 h.nets.pos (show gI nets i∈nets from A7 hi)
  have h3:=h.nets.sum
  exact ⟨h1,by omega⟩
 have htx:∀ i,i<nets.length→0≤gI (H2 t (cats.map (F4 z)) nets) i∧gI (H2 t (cats.map (F4 z)) nets) i≤10000000000000:=fun i hi=>t2 _ (A7 (by omega))
 generalize H2 t (cats.map (F4 z)) nets=TX at hTax t1 htx ⊢
 generalize K7 t ship z.ship=MS at hU hm ⊢
 clear hL t2
 refine S.post (post:=fun v s'=>∃ gv tv c1 c2,v=.tuple [gv,tv,eI (if t.incl=true then ship - MS else ship),eI (if exempt=true then 0 else MS),eI 0] ∧
   A4 [gv] s' [B4 ((List.range nets.length).map (A1z t TX nets))] c1∧A4 [tv] c1 [B4 (if exempt=true then List.replicate nets.length 0 else TX)] c2∧E7 st c2) ?_
  (fun v s' ⟨gv,tv,c1,c2,h1,h2,h3,h4⟩=>⟨_,st,⟨rfl,rfl⟩,by
   rw [h1]
   exact (A4.tuple (A4.cons h2 (A4.cons h3 (A4.keep _ _))) rfl).trans (h4.shift _)⟩)
 refine D6 [6] Tryz.func116 ?_
 refine I7 (hM _) ?_
 refine I7 (hZ _) ?_
 intro b17 hb17;conv=>whnf
 refine stU (A0 ..) rfl ?_
 rw [E4];conv=>whnf
 generalize hst:(upd st b17 _:St)=S0
 obtain ⟨f17,at17,hf17⟩:∃ f17:Nat→AV,S0 b17=some ⟨177,4,1,f17⟩∧f17 0=Z1 z:=by rw [←hst];exact ⟨_,A0 ..,by rw [A9];rfl⟩
 have hs0:E7 st S0:=by rw [←hst];exact (E7.refl st).upd hb17
 clear hst
 refine lp cats.length [2,4,5,6,12,17,19,39,40,41] (fun i vs u=>∃ sv,vs=[eB exempt,B4 nets,eI ship,.fptr (A1W t) 0,.emp,.optr 4 b17 0 0,sv,D8 cats,eI cats.length,eI i]∧M5 2 1 eI ((cats.take i).map (F4 z)) S0 sv u) ?_ ?_
 ·conv=>whnf
  exact ⟨.emp,rfl,M5.start _ _ _ _⟩
 rintro i vs u hi ⟨sv,rfl,hc⟩
 have hcs:=hc.sup
 conv=>whnf
 cases h1:decide ((i:Int)<(cats.length:Int))
 case true =>
  have hi':=N3 h1
  have hln:((cats.take i).map (F4 z)).length=i:=by rw [List.length_map,List.length_take];omega
  have hRi:=fun st=>hR (cats.getD (i:Int).toNat default) st
  have htk:(cats.take (i+1)).map (F4 z)=(cats.take i).map (F4 z)++[F4 z (cats.getD (i:Int).toNat default)]:=by rw [L7 hi',List.map_append];rfl
  generalize F4 z (cats.getD (i:Int).toNat default)=RT at hRi htk
  conv=>whnf
  refine I3 ?_
  refine J5 (hcs b17 _ at17) hf17 ?_
  refine I7 (hRi _) ?_
  refine M5.app (y:=RT) (q:=r2) rfl rfl rfl rfl rfl (by rfl) (by rw [hln];show (i+1) * 8≤140737488355328;omega) hc (fun sv' t' hc'=>?_);conv=>whnf
  refine H4 ?_
  exact nx hi' ⟨sv',by rw [B7 (by omega)],by rw [htk];exact hc'⟩
 obtain rfl:=G2 h1 hi
 rw [List.take_length] at hc
 have hTS:A4 [AV.agg [eB t.incl,eB t.byOrder,eI t.round,A6 4 Z1 t.zones],sv,B4 nets] u [A1W t,B4 (cats.map (F4 z)),B4 nets] S0:=A4.cons (A4.keep [A1W t] _) (A4.cons hc.shift (A4.keep _ _))
 clear hc hcs hM hZ hR
 generalize cats.map (F4 z)=RS at hTax hTS
 unfold B9U at hTax;conv=>whnf
 cases hbo:t.byOrder
 case' false=>rw [if_neg (by rw [hbo];simp)] at hTax
 case' true=>rw [if_pos hbo] at hTax
 all_goals
  conv=>whnf
  refine F7 hTS (B3 (hTax _) ?_);conv=>whnf
  refine J5 at17 hf17 ?_
  refine I7 (hU _) ?_
  refine lp nets.length [2,4,6,12,13,14,15,65,66,67] (fun i vs u=>∃ sv,vs=[eB exempt,B4 nets,.fptr (A1W t) 0,sv,B4 TX,eI ship,eI MS,B4 nets,eI nets.length,eI i]∧M5 2 1 eI ((List.range i).map (A1z t TX nets)) S0 sv u) ?_ ?_
  ·conv=>whnf
   exact ⟨.emp,rfl,M5.start _ _ _ _⟩
  rintro i vs u hi ⟨sv,rfl,hc⟩
  have hcs:=hc.sup
  conv=>whnf
  cases h1:decide ((i:Int)<(nets.length:Int))
  case true =>
   have hi':=N3 h1
   have hln:((List.range i).map (A1z t TX nets)).length=i:=by rw [List.length_map,List.length_range]
   have hnx1:=hnx i hi'
   have htx1:=htx i hi'
   have htk:=B1h (A1z t TX nets) i
   have hgA:A1z t TX nets i=if t.incl=true then gI nets (i:Int).toNat - gI TX (i:Int).toNat else gI nets (i:Int).toNat:=rfl
   have hgw:IntKind.i64.wrap (gI nets (i:Int).toNat - gI TX (i:Int).toNat)=gI nets (i:Int).toNat - gI TX (i:Int).toNat:=A5 (show _≤gI nets i - gI TX i by omega) (show gI nets i - gI TX i≤_ by omega)
   generalize A1z t TX nets i=GA at htk hgA
   conv=>whnf
   refine I3 ?_
   cases hin:t.incl
   case' false=>rw [if_neg (by rw [hin];simp)] at hgA
   case' true =>
    rw [if_pos hin] at hgA;conv=>whnf
    refine I3 ?_
    rw [hgw]
   all_goals
    conv=>whnf
    refine M5.app (y:=GA) (q:=r2) rfl rfl rfl rfl rfl (by rw [hgA];rfl) (by rw [hln];show (i+1) * 8≤140737488355328;omega) hc (fun sv' t' hc'=>?_);conv=>whnf
    refine H4 ?_
    exact nx hi' ⟨sv',by rw [B7 (by omega)],by rw [htk];exact hc'⟩
  obtain rfl:=G2 h1 hi
  have hwS:IntKind.i64.wrap (ship - MS)=ship - MS:=A5 (by omega) (by omega)
  conv=>whnf
  cases hin:t.incl
  case' false=>rw [if_neg (show ¬(false=true) by simp)]
  case' true =>
   rw [if_pos rfl];conv=>whnf
   rw [hwS]
  all_goals
   conv=>whnf
   cases exempt
   ·conv=>whnf
    exact ⟨sv,B4 TX,S0,S0,rfl,hc.shift,A4.keep _ _,hs0⟩
   ·conv=>whnf
    refine mkO rfl rfl rfl (by show 8 * nets.length≤_;omega) (by omega) (by rfl) (fun bz hbz=>?_);conv=>whnf
    have hb0:S0 bz=none:=I2.off hc hbz
    have hc2:=I2.under (y:=⟨2,1,nets.length,fun _=>H3 r2.zero⟩) hc hbz
    refine ⟨sv,.own 1 bz 0 nets.length,upd S0 bz ⟨2,1,nets.length,fun _=>H3 r2.zero⟩,del (upd S0 bz ⟨2,1,nets.length,fun _=>H3 r2.zero⟩) bz,rfl,I2.shift hc2,?_,E7.del (hs0.upd hb0) (hs0.none hb0)⟩
    have e:B4 (List.replicate nets.length 0)=.arr 1 nets.length (fun k=>eI ((List.replicate nets.length (0:Int)).getD k default)):=by unfold B4 A6;rw [List.length_replicate]
    rw [if_pos rfl,e]
    exact L5 (A0 ..) rfl (Nat.le_refl _) (fun k hk=>by rw [B6w];rfl)
structure Add where
 sku:D9
 qty:Int
 deriving Inhabited
def B4Y (x:Add):AV:=.agg [eS x.sku,eI x.qty]
theorem A6x (l:List Int) (h:I5 l) (st:St):S P 117 [B4 l] st fun v st'=>v=eI (A2 l)∧st'=st:=by
 have hn:=h.len
 refine D6 [] Tryz.func117 ?_
 refine lp l.length [3,6,7,8] (fun i vs t=>vs=[eI (A2 (l.take i)),B4 l,eI l.length,eI i]∧t=st) ?_ ?_
 ·conv=>whnf
  exact ⟨rfl,rfl⟩
 ·rintro i vs t hi ⟨rfl,rfl⟩
  conv=>whnf
  cases h1:decide ((i:Int)<(l.length:Int))
  ·obtain rfl:=G2 h1 hi
   rw [List.take_length];conv=>whnf
   exact ⟨rfl,rfl⟩
  ·have hi':=N3 h1
   have hs:IntKind.i64.wrap (A2 (l.take i)+gI l (i:Int).toNat)=A2 (l.take (i+1)):=h.step hi'
   conv=>whnf
   refine I3 ?_
   rw [hs]
   refine H4 ?_
   exact nx hi' ⟨by rw [B7 (by omega)],rfl⟩
theorem B8R (q:A2U) (h1:I5 q.goods) (h2:I5 q.taxes) (st:St):S P 112 [A3j q] st fun v st'=>v=Y9 (B4M q)∧st'=st:=by
 have c1:=fun s=>A6x q.goods h1 s
 have c2:=fun s=>A6x q.taxes h2 s
 have hB:B4M q=⟨A2 q.goods,A2 q.taxes,q.ship,q.shipTax,0⟩:=rfl
 rw [hB]
 generalize A2 q.goods=G at c1 ⊢
 generalize A2 q.taxes=T' at c2 ⊢
 refine A1R ?_
 refine D6 [1] Tryz.func112 ?_
 intro b2 hb;conv=>whnf
 refine ⟨[11],[],List.range 12,by kernel_rfl,?_⟩;conv=>whnf
 refine cqW (c1 _) ?_
 refine cqW (c2 _) ?_
 refine stW (A0 ..) rfl ?_
 refine J5 (A0 ..) (A9 ..) ?_
 exact ⟨rfl,((E7.refl st).upd hb).over hb⟩
theorem B7g {a b c d:Int} (ha : -10000000000000≤a∧a≤10000000000000) (hb : -10000000000000≤b∧b≤10000000000000) (hc : -10000000000000≤c∧c≤10000000000000) (hd : -10000000000000≤d∧d≤10000000000000):I5 [a,b,c,d]:=by
 refine ⟨by show 4≤1000;decide,fun x hx=>?_⟩
 simp only [List.mem_cons,List.not_mem_nil,or_false] at hx
 rcases hx with rfl | rfl | rfl | rfl<;>assumption
theorem B1y {a b c d:Int} {F:Nat→AV} {st:St} (h0:F 0=eI a) (h1:F 1=eI b) (h2:F 2=eI c) (h3:F 3=eI d):A4 [.arr 1 4 F] st [B4 [a,b,c,d]] st :=
 A4.arr (g:=fun i=>eI ([a,b,c,d].getD i default)) fun i hi=>by
  match i,hi with
  | 0,_=>exact h0
  | 1,_=>exact h1
  | 2,_=>exact h2
  | 3,_=>exact h3
set_option maxHeartbeats 8000000 in
theorem B7I {r:O6} {codes:List D9} {l:List F6} {Pr:A8l} {z:N4} {zone:D9} (exempt:Bool)
  (hP:∀ st,S P 18 [Q1 r,D8 codes,A6 3 G3 l] st fun v s=>v=.tuple [A3S Pr,eI 0]∧s=st)
  (hI:∀ st,S P 75 [A6 4 E9 r.items,A6 3 G3 l] st fun v s=>v=A6 4 E9 (C2 r.items l)∧s=st)
  (hln:l.length≤1000) (hV:A3c r.tax z (M6 r l) Pr.nets Pr.ship) (hz:A5l r.tax.zones zone=some z)
  (hTax:∀ st,S P (B9U r.tax) [A1W r.tax,B4 ((M6 r l).map (F4 z)),B4 Pr.nets] st fun v st'=>v=B4 (H2 r.tax ((M6 r l).map (F4 z)) Pr.nets)∧st'=st)
  (hsm:A2 (K3 r.tax z exempt (M6 r l) Pr.nets Pr.ship).goods≤10000000000000∧-10000000000000≤A2 (K3 r.tax z exempt (M6 r l) Pr.nets Pr.ship).goods∧A2 (K3 r.tax z exempt (M6 r l) Pr.nets Pr.ship).taxes≤10000000000000) (st:St) :
  S P 45 [Q1 r,eS zone,eB exempt,D8 codes,A6 3 G3 l] st fun v st'=>v=.tuple [A3j (B1r r z exempt l Pr),eI 0]∧st'=st:=by
 have hQ:=B7s hV exempt Pr.deals
 have hlv:=fun s=>B9i hV hz exempt hTax s
 have hq:B1r r z exempt l Pr=⟨(K3 r.tax z exempt (M6 r l) Pr.nets Pr.ship).goods,(K3 r.tax z exempt (M6 r l) Pr.nets Pr.ship).taxes,(K3 r.tax z exempt (M6 r l) Pr.nets Pr.ship).ship,(K3 r.tax z exempt (M6 r l) Pr.nets Pr.ship).shipTax,A2 (K3 r.tax z exempt (M6 r l) Pr.nets Pr.ship).goods+A2 (K3 r.tax z exempt (M6 r l) Pr.nets Pr.ship).taxes+(K3 r.tax z exempt (M6 r l) Pr.nets Pr.ship).ship+(K3 r.tax z exempt (M6 r l) Pr.nets Pr.ship).shipTax,Pr.deals⟩:=rfl
 rw [hq]
 have hpos:0≤A2 (K3 r.tax z exempt (M6 r l) Pr.nets Pr.ship).taxes:=B9 hQ.pos
 obtain ⟨q1,q2,q3,q4,q5,q6,q7,_⟩:=hQ
 have q1:I5 (K3 r.tax z exempt (M6 r l) Pr.nets Pr.ship).goods:=q1
 have q2:I5 (K3 r.tax z exempt (M6 r l) Pr.nets Pr.ship).taxes:=q2
 have q6:0≤(K3 r.tax z exempt (M6 r l) Pr.nets Pr.ship).ship∧(K3 r.tax z exempt (M6 r l) Pr.nets Pr.ship).ship≤10000000000000:=q6
 have q7:0≤(K3 r.tax z exempt (M6 r l) Pr.nets Pr.ship).shipTax∧(K3 r.tax z exempt (M6 r l) Pr.nets Pr.ship).shipTax≤10000000000000:=q7
 clear hq q3 q4 q5 hTax hV hz
 generalize K3 r.tax z exempt (M6 r l) Pr.nets Pr.ship=V at *
 have s1:=fun s=>A6x V.goods q1 s
 have s2:=fun s=>A6x V.taxes q2 s
 have s3:=fun s=>A6x [A2 V.goods,A2 V.taxes,V.ship,V.shipTax] (B7g (by omega) (by omega) (by omega) (by omega)) s
 have e3:A2 [A2 V.goods,A2 V.taxes,V.ship,V.shipTax]=A2 V.goods+A2 V.taxes+V.ship+V.shipTax:=by
  show 0+A2 V.goods+A2 V.taxes+V.ship+V.shipTax=_;omega
 rw [e3] at s3
 have hil:(C2 r.items l).length=l.length:=List.length_map ..
 have hcb:M6 r l=(C2 r.items l).map Ab.Item.cat:=rfl
 rw [hcb] at hlv
 generalize C2 r.items l=IT at hI hil hlv
 clear hcb
 refine A1R ?_
 refine D6 [5,16] Tryz.func45 ?_
 intro b10 hb10;conv=>whnf
 refine I7 (hP _) ?_
 intro b12 hb12
 have h02:b10≠b12:=fun e=>by subst e;rw [A0] at hb12;cases hb12
 conv=>whnf
 refine stU (A0 ..) rfl ?_
 rw [E4];conv=>whnf
 refine I7 (hI _) ?_
 generalize hst:(upd (upd st b10 _) b12 _:St)=S0
 obtain ⟨f12,at12,hf12⟩:∃ f12:Nat→AV,S0 b12=some ⟨44,4,1,f12⟩∧f12 0=A3S Pr:=by rw [←hst];exact ⟨_,A0 ..,by rw [A9];rfl⟩
 obtain ⟨f10,at10⟩:∃ f10:Nat→AV,S0 b10=some ⟨90,6,1,f10⟩∧f10 0=H3 r90.zero:=by rw [←hst,A3 h02];exact ⟨_,A0 ..,rfl⟩
 obtain ⟨at10,hf10⟩:=at10
 have hs0:E7 st S0:=by rw [←hst];exact ((E7.refl st).upd hb10).upd hb12
 have n12:st b12=none:=by rw [A3 h02.symm] at hb12;exact hb12
 clear hst
 refine lp IT.length [1,2,5,10,12,14,35,36,37] (fun i vs u=>∃ sv,vs=[eS zone,eB exempt,.fptr (Q1 r) 0,.optr 6 b10 0 0,.optr 4 b12 0 0,sv,A6 4 E9 IT,eI IT.length,eI i]∧M5 9 1 eS ((IT.take i).map Ab.Item.cat) S0 sv u) ?_ ?_
 ·conv=>whnf
  exact ⟨.emp,rfl,M5.start _ _ _ _⟩
 rintro i vs u hi ⟨sv,rfl,hc⟩
 have hcs:=hc.sup
 conv=>whnf
 cases h1:decide ((i:Int)<(IT.length:Int))
 case true =>
  have hi':=N3 h1
  have hln2:((IT.take i).map Ab.Item.cat).length=i:=by rw [List.length_map,List.length_take];omega
  have htk:(IT.take (i+1)).map Ab.Item.cat=(IT.take i).map Ab.Item.cat++[(IT.getD (i:Int).toNat default).cat]:=by rw [L7 hi',List.map_append];rfl
  conv=>whnf
  refine I3 ?_
  refine M5.app (y:=(IT.getD (i:Int).toNat default).cat) (q:=r9) rfl rfl rfl rfl rfl (by rfl) (by rw [hln2];show (i+1) * 16≤140737488355328;omega) hc (fun sv' t' hc'=>?_);conv=>whnf
  refine H4 ?_
  exact nx hi' ⟨sv',by rw [B7 (by omega)],by rw [htk];exact hc'⟩
 obtain rfl:=G2 h1 hi
 rw [List.take_length] at hc;conv=>whnf
 refine J5 (hcs b12 _ at12) hf12 ?_
 refine J5 (hcs b12 _ at12) hf12 ?_
 have hTS:A4 [A1W r.tax,eS zone,eB exempt,sv,B4 Pr.nets,eI Pr.ship] u [A1W r.tax,eS zone,eB exempt,D8 (IT.map Ab.Item.cat),B4 Pr.nets,eI Pr.ship] S0 :=
  A4.cons (A4.keep [A1W r.tax] _) (A4.cons (A4.keep [eS zone] _) (A4.cons (A4.keep [eB exempt] _) (A4.cons hc.shift (A4.keep _ _))))
 refine F7 hTS (B3 (hlv _) ?_);conv=>whnf
 refine ⟨[15],[],List.range 17,by kernel_rfl,?_⟩;conv=>whnf
 refine cqW (s1 _) ?_
 refine cqW (s2 _) ?_
 refine ⟨_,⟨rfl,rfl⟩,?_⟩;conv=>whnf
 refine ⟨_,F7 (B1y rfl rfl rfl rfl) (L9 (s3 _)),?_⟩;conv=>whnf
 refine J5 at12 hf12 ?_
 refine stW at10 hf10 ?_
 refine J5 (A0 ..) (A9 ..) ?_
 exact ⟨rfl,hs0.over hb10⟩
def A1U (x:Add):Bool:=decide (x.qty<1)||decide (x.qty>100000)
def S3 (items:List Ab.Item) (x:Add):F6:=⟨x.sku,x.qty,(items.getD (R7 items x.sku).toNat default).price⟩
def A2a (items:List Ab.Item) (adds:List Add):List F6×Int :=
 if adds.length<1∨adds.length>1000 then ([],2) else if (adds.any A1U)=true then ([],2) else if (adds.any fun x=>decide (R7 items x.sku<0))=true then ([],7) else (adds.map (S3 items),0)
theorem B5H (items:List Ab.Item) (adds:List Add) (hi:items.length≤9223372036854775807) (st:St) :
  S P 41 [A6 4 E9 items,A6 2 B4Y adds] st fun v st'=>v=.tuple [A6 3 G3 (A2a items adds).1,eI (A2a items adds).2]∧st'=st:=by
 have hB:A2a items adds=if adds.length<1∨adds.length>1000 then ([],2) else if (adds.any A1U)=true then ([],2) else if (adds.any fun x=>decide (R7 items x.sku<0))=true then ([],7) else (adds.map (S3 items),0):=rfl
 refine S.post (post:=fun v s'=>(∃ e,A2a items adds=([],e)∧v=.tuple [.emp,eI e]∧E7 st s')∨(∃ sv,A2a items adds=(adds.map (S3 items),0)∧v=.tuple [sv,eI 0]∧M5 51 3 G3 (adds.map (S3 items)) st sv s')) ?_ (fun v s' hv=>⟨_,st,⟨rfl,rfl⟩,by
  rcases hv with ⟨e,h1,rfl,h2⟩ | ⟨sv,h1,rfl,h2⟩
  ·rw [h1];exact (A4.tuple (A4.cons (F9 3 _) (A4.keep _ _)) rfl).trans (h2.shift _)
  ·rw [h1];exact A4.tuple (A4.cons h2.shift (A4.keep _ _)) rfl⟩)
 refine D6 [7,10] Tryz.func41 ?_
 refine B6 (fun h1=>?_) (fun h1=>?_)<;>rw [h1]<;>simp only [decide_eq_true_eq,decide_eq_false_iff_not] at h1
 ·rw [if_pos (.inl (by omega))] at hB;conv=>whnf
  exact .inl ⟨2,hB,rfl,E7.refl _⟩
 conv=>whnf
 refine B6 (fun h2=>?_) (fun h2=>?_)<;>rw [h2]<;>simp only [decide_eq_true_eq,decide_eq_false_iff_not] at h2
 ·rw [if_pos (.inr (by omega))] at hB;conv=>whnf
  exact .inl ⟨2,hB,rfl,E7.refl _⟩
 rw [if_neg (by omega)] at hB;conv=>whnf
 refine lp adds.length [0,1,20,21,22] (fun i vs t=>(∀ j,j<i→A1U (adds.getD j default)=false)∧vs=[A6 4 E9 items,A6 2 B4Y adds,A6 2 B4Y adds,eI adds.length,eI i]∧t=st) ?_ ?_
 ·conv=>whnf
  exact ⟨fun j hj=>absurd hj (by omega),rfl,rfl⟩
 rintro i vs t hi' ⟨hno,rfl,rfl⟩
 conv=>whnf
 cases h3:decide ((i:Int)<(adds.length:Int))
 case true =>
  have hi2:=N3 h3
  have hbad:A1U (adds.getD (i:Int).toNat default)=true→A2a items adds=([],2):=fun h=>by
   rw [if_pos (List.any_eq_true.2 ⟨_,A7 hi2,h⟩)] at hB;exact hB
  conv=>whnf
  refine I3 ?_
  refine B6 (fun h4=>?_) (fun h4=>?_)<;>rw [h4]
  ·conv=>whnf
   exact .inl ⟨2,hbad (by unfold A1U;rw [h4];rfl),rfl,E7.refl _⟩
  conv=>whnf
  refine B6 (fun h5=>?_) (fun h5=>?_)<;>rw [h5]
  ·conv=>whnf
   exact .inl ⟨2,hbad (by unfold A1U;rw [h5,Bool.or_true]),rfl,E7.refl _⟩
  conv=>whnf
  refine H4 ?_
  exact nx hi2 ⟨I1 hno (show A1U (adds.getD (i:Int).toNat default)=false by unfold A1U;rw [h4,h5];rfl),by rw [B7 (by omega)],rfl⟩
 obtain rfl:=G2 h3 hi'
 rw [if_neg (by
  rw [Bool.not_eq_true,List.any_eq_false]
  intro x hx
  obtain ⟨j,hj,rfl⟩:=D3 hx
  rw [hno j hj];simp)] at hB
 conv=>whnf
 refine lp adds.length [0,8,35,36,37] (fun i vs s=>∃ sv,(∀ j,j<i→(fun x:Add=>decide (R7 items x.sku<0)) (adds.getD j default)=false)∧vs=[A6 4 E9 items,sv,A6 2 B4Y adds,eI adds.length,eI i]∧M5 51 3 G3 ((adds.take i).map (S3 items)) t sv s) ?_ ?_
 ·conv=>whnf
  exact ⟨.emp,fun j hj=>absurd hj (by omega),rfl,M5.start _ _ _ _⟩
 rintro i vs s hi2 ⟨sv,hno2,rfl,hc⟩
 conv=>whnf
 cases h4:decide ((i:Int)<(adds.length:Int))
 case false =>
  obtain rfl:=G2 h4 hi2
  rw [List.take_length] at hc
  rw [if_neg (by
   rw [Bool.not_eq_true,List.any_eq_false]
   intro x hx
   obtain ⟨j,hj,rfl⟩:=D3 hx
   have:=hno2 j hj
   simp only at this
   rw [this];simp)] at hB
  conv=>whnf
  exact .inr ⟨sv,hB,rfl,hc⟩
 have hi3:=N3 h4
 have hF:=fun u=>B0X items (adds.getD (i:Int).toNat default).sku hi u
 have hln:((adds.take i).map (S3 items)).length=i:=by rw [List.length_map,List.length_take];omega
 have htk:(adds.take (i+1)).map (S3 items)=(adds.take i).map (S3 items)++[S3 items (adds.getD (i:Int).toNat default)]:=by rw [L7 hi3,List.map_append];rfl
 have hrng:=A8E (fun x:Ab.Item=>x.sku.toList==(adds.getD (i:Int).toNat default).sku.toList) items
 have hAL:S3 items (adds.getD (i:Int).toNat default)=⟨(adds.getD (i:Int).toNat default).sku,(adds.getD (i:Int).toNat default).qty,(items.getD (R7 items (adds.getD (i:Int).toNat default).sku).toNat default).price⟩:=rfl
 have hno3:=fun h=>I1 (q:=fun j=>(fun x:Add=>decide (R7 items x.sku<0)) (adds.getD j default)=false) hno2 h
 have hpos:(fun x:Add=>decide (R7 items x.sku<0)) (adds.getD (i:Int).toNat default)=true→A2a items adds=([],7):=fun h=>by
  rw [if_pos (List.any_eq_true.2 ⟨_,A7 hi3,h⟩)] at hB;exact hB
 have hf0:R7 items (adds.getD (i:Int).toNat default).sku=R7 items (adds.getD i default).sku:=rfl
 simp only at hpos hno3
 rw [←hf0] at hno3
 generalize hfv:R7 items (adds.getD (i:Int).toNat default).sku=FV at hF hpos hno3 hAL
 have hrng2 : -1≤FV∧FV<items.length:=by rw [←hfv];exact hrng
 conv=>whnf
 refine I3 ?_
 refine I7 (hF _) ?_
 refine B6 (fun h5=>?_) (fun h5=>?_)<;>rw [h5]
 ·conv=>whnf
  exact .inl ⟨7,hpos h5,rfl,hc.sup⟩
 have h5':=of_decide_eq_false h5
 conv=>whnf
 refine ⟨[11,12],[],List.range 14,by kernel_rfl,?_⟩;conv=>whnf
 refine I3 ?_
 refine M5.app (y:=S3 items (adds.getD (i:Int).toNat default)) (q:=r51) rfl rfl rfl rfl rfl (by rw [hAL];rfl) (by rw [hln];show (i+1) * 32≤140737488355328;omega) hc (fun sv' t' hc'=>?_);conv=>whnf
 refine H4 ?_
 exact nx hi3 ⟨sv',hno3 h5,by rw [B7 (by omega)],by rw [htk];exact hc'⟩
end Go.Proofs.YtbajhapmlfbelaaGreat
namespace Go.Proofs.YtbajhapmlfbelaaGreat
open Go Go.Ab
structure Y0 where
 sku:D9
 price:Int
 sold:Int
 left:Int
 goods:Int
 tax:Int
 deriving Inhabited
def V3 (x:Y0):AV:=.agg [eS x.sku,eI x.price,eI x.sold,eI x.left,eI x.goods,eI x.tax]
structure T5 where
 kind:Int
 taken:Int
 given:Int
 deriving Inhabited
def U9 (x:T5):AV:=.agg [eI x.kind,eI x.taken,eI x.given]
instance:Inhabited A0X:=⟨⟨0,0,0,0,0⟩⟩
structure I6 where
 id:D9
 rules:Int
 zone:D9
 exempt:Bool
 codes:List D9
 day:Int
 lines:List Y0
 ship:Int
 shipTax:Int
 fee:Int
 net:Int
 book:A0X
 tenders:List T5
 deriving Inhabited
def H1 (o:I6):AV:=.agg [eS o.id,eI o.rules,eS o.zone,eB o.exempt,D8 o.codes,eI o.day,A6 6 V3 o.lines,eI o.ship,eI o.shipTax,eI o.fee,eI o.net,eI o.book.goods,eI o.book.tax,eI o.book.ship,eI o.book.shipTax,eI o.book.fee,A6 3 U9 o.tenders]
def Z2 (x:Int):Bool:=J9 0 10000000000000 x
def E6 (x:Int):Bool:=J9 0 100000000000000 x
def M7 (x:Y0):Bool:=D0 x.sku&&J9 0 1000000000 x.price&&J9 1 100000 x.sold&&J9 0 x.sold x.left&&Z2 x.goods&&Z2 x.tax
def D5 (x:T5):Bool:=J9 1 9 x.kind&&E6 x.taken&&J9 0 x.taken x.given
def F0 (b:A0X):List Int:=[b.goods,b.tax,b.ship,b.shipTax,b.fee]
def A1h (b:A0X):Bool:=(F0 b).all E6
def J8 (b:A0X):Int:=if A1h b=true then A2 (F0 b) else 0
def N6 (l:List T5):Int:=l.foldl (fun a x=>a+(x.taken - x.given)) 0
def A6c (o:I6):Bool:=D0 o.id&&D0 o.zone&&J9 1 40 o.rules&&N0 o.codes&&J9 0 100000 o.day
def A1Z (o:I6):Bool:=decide ((o.lines.length:Int)≥1)&&decide ((o.lines.length:Int)≤1000)&&o.lines.all M7
def P6 (o:I6):Bool:=Z2 o.ship&&Z2 o.shipTax&&E6 o.fee&&E6 o.net
def A2V (o:I6):Bool:=A1h o.book&&(J8 o.book==o.net)
def P7 (o:I6):Bool:=o.tenders.all D5&&(decide ((o.tenders.length:Int)≤6)&&(N6 o.tenders==o.net))
def Q7 (o:I6):Bool:=decide ((o.tenders.length:Int)≤6)&&A6c o&&A1Z o&&P6 o&&A2V o&&P7 o
def A0L (o:I6):List F6:=o.lines.map fun x=>⟨x.sku,x.left,x.price⟩
def K6 (t n k:Int):Int:=t * k / n
def shG (l:List Y0):Int:=l.foldl (fun a x=>a+K6 x.goods x.sold x.left) 0
def shT (l:List Y0):Int:=l.foldl (fun a x=>a+K6 x.tax x.sold x.left) 0
def I0 (l:List Y0):Bool:=l.any fun x=>decide (x.left>0)
def A0p (o:I6):A0X:=if Q7 o=true then ⟨shG o.lines,shT o.lines,if I0 o.lines=true then o.ship else 0,if I0 o.lines=true then o.shipTax else 0,0⟩ else ⟨0,0,0,0,0⟩
theorem A3W {x:Y0} (h:M7 x=true):D0 x.sku=true∧(0≤x.price∧x.price≤1000000000)∧(1≤x.sold∧x.sold≤100000)∧(0≤x.left∧x.left≤x.sold)∧(0≤x.goods∧x.goods≤10000000000000)∧(0≤x.tax∧x.tax≤10000000000000):=by
 unfold M7 Z2 at h
 simp only [Bool.and_eq_true,J4] at h
 obtain ⟨⟨⟨⟨⟨h1,h2⟩,h3⟩,h4⟩,h5⟩,h6⟩:=h
 exact ⟨h1,h2,h3,h4,h5,h6⟩
theorem A0s {t n k:Int} (ht:0≤t) (hn:1≤n) (hk:0≤k) (hkn:k≤n):0≤K6 t n k∧K6 t n k≤t:=by
 unfold K6
 refine ⟨Int.ediv_nonneg (Int.mul_nonneg ht hk) (by omega),?_⟩
 have h1:t * k≤t * n:=Int.mul_le_mul_of_nonneg_left hkn ht
 have h2:t * k / n≤t * n / n:=Int.ediv_le_ediv (by omega) h1
 rwa [Int.mul_ediv_cancel _ (by omega)] at h2
theorem A6s {α : Type} [Inhabited α] {f : α→Int} {M:Int} (hM:0≤M):∀ (l:List α),(∀ x∈l,0≤f x∧f x≤M)→∀ a:Int,a≤l.foldl (fun a x=>a+f x) a∧l.foldl (fun a x=>a+f x) a≤a+M * l.length
 | [],_,a=>⟨Int.le_refl _,by simp⟩
 | x::l,h,a=>by
  have h1:=h x (List.mem_cons_self ..)
  have h2:=A6s hM l (fun y hy=>h y (List.mem_cons_of_mem _ hy)) (a+f x)
  simp only [List.foldl_cons,List.length_cons]
  have e:M * ((l.length+1:Nat):Int)=M * (l.length:Int)+M:=by rw [show ((l.length+1:Nat):Int)=(l.length:Int)+1 from rfl,Int.mul_add,Int.mul_one]
  rw [e]
  exact ⟨by omega,by omega⟩
end Go.Proofs.YtbajhapmlfbelaaGreat
namespace Go.Proofs.YtbajhapmlfbelaaGreat
open Go Go.Ab
attribute [local irreducible] upd del
theorem A5x (x:Int) (st:St):S P 221 [eI x] st fun v st'=>v=.bool (Z2 x)∧st'=st:=by
 refine D6 [] Tryz.func221 ?_
 unfold Z2 J9
 refine B6 (fun h=>?_) (fun h=>?_)<;>rw [h]<;>(conv=>whnf)<;>exact ⟨rfl,rfl⟩
theorem A1q (x:Int) (st:St):S P 131 [eI x] st fun v st'=>v=.bool (E6 x)∧st'=st:=A2J x st
theorem B7N (x:Y0) (st:St):S P 220 [V3 x] st fun v st'=>v=.bool (M7 x)∧st'=st:=by
 have n1:=W4 x.sku st
 have n2:=A5x x.goods st
 have n3:=A5x x.tax st
 unfold M7 J9
 generalize D0 x.sku=b1 at *
 generalize Z2 x.goods=b2 at *
 generalize Z2 x.tax=b3 at *
 refine SyW [1] Tryz.func220 ?_
 repeat' ((conv=>whnf);first | refine B3 n1 ?_ | refine B3 n2 ?_ | refine B3 n3 ?_ | refine ⟨rfl,?_⟩ | (refine B6 (fun h=>?_) (fun h=>?_)<;>rw [h]))
 all_goals (conv=>whnf)
 all_goals (refine ⟨?_,rfl⟩;show AV.bool _=AV.bool _;clear n1 n2 n3)
 all_goals (simp only [*,Bool.true_and,Bool.false_and,Bool.and_true,Bool.and_false,Bool.or_true,Bool.or_false,Bool.true_or,Bool.false_or,Bool.not_true,Bool.not_false,Bool.not_not])
theorem B3G (x:Y0) (st:St):S P 219 [V3 x] st fun v st'=>v=.bool (!M7 x)∧st'=st:=by
 have n1:=B7N x st
 generalize M7 x=b at *
 refine D6 [1] Tryz.func219 ?_
 refine I7 n1 ?_
 exact ⟨rfl,rfl⟩
theorem A8J (l:List Y0) (hl:l.length≤9223372036854775807) (g:FuncId) (cs:List AV) (p:Y0→Bool) (st:St)
  (hg:∀ x,x∈l→S P g (V3 x::cs) st fun v st'=>v=.bool (p x)∧st'=st) :
  S P 281 [A6 6 V3 l,.fn (.func g) [] cs] st fun v st'=>v=eI (idx p l)∧st'=st:=by
 refine D6 [] Tryz.func281 ?_
 refine ⟨[0,1,7,8],fun m vs st'=>∃ i:Nat,i≤l.length∧(∀ k,k<i→p (l.getD k default)=false)∧m=l.length - i∧vs=[A6 6 V3 l,.fn (.func g) [] cs,eI l.length,eI i]∧st'=st,?_,?_⟩
 ·conv=>whnf
  exact ⟨_,0,Nat.zero_le _,fun k hk=>absurd hk (by omega),rfl,rfl,rfl⟩
 ·rintro m vs st' ⟨i,hi,hok,rfl,rfl,rfl⟩
  conv=>whnf
  cases h:decide ((i:Int)<(l.length:Int))
  ·have:=of_decide_eq_false h
   conv=>whnf
   refine ⟨?_,rfl⟩
   rw [K2 fun k hk=>hok k (by omega)];rfl
  ·have hi':i<l.length:=by have:=of_decide_eq_true h;omega
   conv=>whnf
   refine I3 ?_
   refine B3 (hg (l.getD (i:Int).toNat default) (by simp [hi'])) ?_
   rw [Int.toNat_natCast]
   cases hp:p (l.getD i default)
   ·conv=>whnf
    refine H4 ?_
    refine ⟨l.length - (i+1),by omega,i+1,by omega,fun k hk=>?_,rfl,by rw [B7 (by omega)],rfl⟩
    rcases Nat.lt_succ_iff_lt_or_eq.1 hk with h' | h'
    ·exact hok k h'
    ·rw [h'];exact hp
   ·conv=>whnf
    refine ⟨?_,rfl⟩
    rw [U2 hi' hok hp];rfl
theorem B1d (l:List Y0) (hl:l.length≤9223372036854775807) (g:FuncId) (cs:List AV) (p:Y0→Bool) (st:St)
  (hg:∀ x,x∈l→S P g (V3 x::cs) st fun v st'=>v=.bool (p x)∧st'=st) :
  S P 218 [A6 6 V3 l,.fn (.func g) [] cs] st fun v st'=>v=.bool (l.any p)∧st'=st:=by
 refine D6 [] Tryz.func218 ?_
 refine I7 (A8J l hl g cs p st hg) ?_
 refine ⟨?_,rfl⟩
 rw [←V0];rfl
structure A4R (o:I6):Prop where
 id:Sm o.id.size
 zone:Sm o.zone.size
 codes:Sm o.codes.length
 scodes:∀ s∈o.codes,Sm s.size
 lines:o.lines.length≤100000
 slines:∀ x∈o.lines,Sm x.sku.size
 tenders:o.tenders.length≤100000
theorem B7B (o:I6) (hs:A4R o) (st:St):S P 125 [H1 o] st fun v st'=>v=.bool (A6c o)∧st'=st:=by
 have n1:=W4 o.id st
 have n2:=W4 o.zone st
 have n3:=A8x o.codes hs.codes st
 have n4:=B4S o.day st
 have e:A6c o=(D0 o.id&&D0 o.zone&&(decide (o.rules≥1)&&decide (o.rules≤40))&&N0 o.codes&&J9 0 100000 o.day):=rfl
 rw [e]
 clear e hs
 generalize D0 o.id=b1 at *
 generalize D0 o.zone=b2 at *
 generalize N0 o.codes=b3 at *
 generalize J9 0 100000 o.day=b4 at *
 refine SyW [1] Tryz.func125 ?_
 repeat' ((conv=>whnf);first | refine B3 n1 ?_ | refine B3 n2 ?_ | refine B3 n3 ?_ | refine B3 n4 ?_ | refine ⟨rfl,?_⟩ | (refine B6 (fun h=>?_) (fun h=>?_)<;>rw [h]))
 all_goals (conv=>whnf)
 all_goals (refine ⟨?_,rfl⟩;show AV.bool _=AV.bool _;clear n1 n2 n3 n4)
 all_goals (simp only [*,Bool.true_and,Bool.false_and,Bool.and_true,Bool.and_false,Bool.or_true,Bool.or_false,Bool.true_or,Bool.false_or,Bool.not_true,Bool.not_false,Bool.not_not])
theorem B5z (o:I6) (hs:A4R o) (st:St):S P 126 [H1 o] st fun v st'=>v=.bool (A1Z o)∧st'=st:=by
 have n1:=B1d o.lines (by have:=hs.lines;omega) 219 [] (fun x=>!M7 x) st (fun x _=>B3G x st)
 have e:A1Z o=(decide ((o.lines.length:Int)≥1)&&decide ((o.lines.length:Int)≤1000)&&!(o.lines.any fun x=>!M7 x)):=by unfold A1Z;rw [List.all_eq_not_any_not]
 rw [e]
 clear e hs
 generalize (o.lines.any fun x=>!M7 x)=b1 at *
 refine SyW [1] Tryz.func126 ?_
 repeat' ((conv=>whnf);first | refine B3 n1 ?_ | refine ⟨rfl,?_⟩ | (refine B6 (fun h=>?_) (fun h=>?_)<;>rw [h]))
 all_goals (conv=>whnf)
 all_goals (refine ⟨?_,rfl⟩;show AV.bool _=AV.bool _;clear n1)
 all_goals (simp only [*,Bool.true_and,Bool.false_and,Bool.and_true,Bool.and_false,Bool.or_true,Bool.or_false,Bool.true_or,Bool.false_or,Bool.not_true,Bool.not_false,Bool.not_not])
theorem B1m (o:I6) (st:St):S P 127 [H1 o] st fun v st'=>v=.bool (P6 o)∧st'=st:=by
 have n1:=A5x o.ship st
 have n2:=A5x o.shipTax st
 have n3:=A1q o.fee st
 have n4:=A1q o.net st
 unfold P6
 generalize Z2 o.ship=b1 at *
 generalize Z2 o.shipTax=b2 at *
 generalize E6 o.fee=b3 at *
 generalize E6 o.net=b4 at *
 refine SyW [1] Tryz.func127 ?_
 repeat' ((conv=>whnf);first | refine B3 n1 ?_ | refine B3 n2 ?_ | refine B3 n3 ?_ | refine B3 n4 ?_ | refine ⟨rfl,?_⟩ | (refine B6 (fun h=>?_) (fun h=>?_)<;>rw [h]))
 all_goals (conv=>whnf)
 all_goals (refine ⟨?_,rfl⟩;show AV.bool _=AV.bool _;clear n1 n2 n3 n4)
 all_goals (simp only [*,Bool.true_and,Bool.false_and,Bool.and_true,Bool.and_false,Bool.or_true,Bool.or_false,Bool.true_or,Bool.false_or,Bool.not_true,Bool.not_false,Bool.not_not])
theorem A7T (b:A0X) (st:St):S P 130 [Y9 b] st fun v st'=>v=Y9 b∧st'=st:=by
 refine A1R ?_
 refine D6 [1] Tryz.func130 ?_
 intro b2 hb;conv=>whnf
 refine stW (A0 ..) rfl ?_
 refine J5 (A0 ..) (A9 ..) ?_
 exact ⟨rfl,((E7.refl st).upd hb).over hb⟩
theorem A3u {l:List Int}:∀ i,i≤l.length→(∀ k,k<i→E6 (gI l k)=true)→0≤A2 (l.take i)∧A2 (l.take i)≤100000000000000 * (i:Int)
 | 0,_,_=>⟨by rw [List.take_zero];exact Int.le_refl _,by rw [List.take_zero];exact Int.le_refl _⟩
 | i+1,hi,h=>by
  have ih:=A3u i (by omega) fun k hk=>h k (by omega)
  have hx:=J4.1 (h i (by omega))
  rw [H8 (by omega)]
  omega
theorem A4r {b:A0X} (h:∀ k,k<5→E6 (gI (F0 b) k)=true):A1h b=true:=List.all_eq_true.2 fun x hx=>by
 obtain ⟨k,hk,rfl⟩:=D3 hx
 exact h k hk
theorem A4s {b:A0X} {k:Nat} (hk:k<5) (h:E6 (gI (F0 b) k)=false):A1h b=false:=by
 rw [Bool.eq_false_iff];intro e
 rw [List.all_eq_true.1 e _ (A7 (l:=F0 b) (i:=k) hk)] at h;cases h
theorem A9p (b:A0X) (st:St):S P 52 [Y9 b] st fun v st'=>v=eI (J8 b)∧st'=st:=by
 have c1:=fun s=>A7T b s
 refine D6 [1] Tryz.func52 ?_
 refine I7 (c1 _) ?_
 refine lp 5 [3,7,8] (fun i vs s=>(∀ k,k<i→E6 (gI (F0 b) k)=true)∧vs=[eI (A2 ((F0 b).take i)),Y9 b,eI i]∧s=st) ?_ ?_
 ·conv=>whnf
  exact ⟨fun k hk=>absurd hk (by omega),rfl,rfl⟩
 rintro i vs s hi ⟨hok,rfl,rfl⟩
 conv=>whnf
 cases h:decide ((i:Int)<5)
 ·obtain rfl:i=5:=by have:=of_decide_eq_false h;omega
  have e:J8 b=A2 (F0 b):=by unfold J8;rw [if_pos (A4r hok)]
  rw [e];conv=>whnf
  exact ⟨rfl,rfl⟩
 have hi':i<5:=by have:=of_decide_eq_true h;omega
 have hr:=fun s=>A1q (gI (F0 b) i) s
 have hb:=A3u (l:=F0 b) i (by show i≤5;omega) hok
 have hn:=H8 (l:=F0 b) (i:=i) hi'
 have hw:E6 (gI (F0 b) i)=true→IntKind.i64.wrap (A2 ((F0 b).take i)+gI (F0 b) i)=A2 ((F0 b).take (i+1)):=fun hm=>by
  have hx:=J4.1 hm
  rw [hn];exact A5 (by omega) (by omega)
 have yes:E6 (gI (F0 b) i)=true→∀ k,k<i+1→E6 (gI (F0 b) k)=true:=fun hm=>I1 hok hm
 have no:E6 (gI (F0 b) i)=false→J8 b=0:=fun hm=>by unfold J8;rw [A4s hi' hm];rfl
 generalize A2 ((F0 b).take i)=Z at *
 generalize hY:A2 ((F0 b).take (i+1))=Y at *
 generalize E6 (gI (F0 b) i)=m at hr hw yes no
 clear hn hok hb h hi
 conv=>whnf
 rcases (by omega:i=0∨i=1∨i=2∨i=3∨i=4) with rfl | rfl | rfl | rfl | rfl
 all_goals
  refine ⟨⟨rfl,Nat.le_of_ble_eq_true rfl,by omega,by omega⟩,?_⟩;conv=>whnf
  refine B3 (hr _) ?_
  cases m
  ·conv=>whnf
   rw [no rfl]
   exact ⟨rfl,rfl⟩
  ·conv=>whnf
   refine H4 ?_
   exact nx hi' ⟨yes rfl,by rw [hY,←hw rfl,B7 (by omega)];rfl,rfl⟩
theorem B7z (o:I6) (st:St):S P 128 [H1 o] st fun v st'=>v=.bool (A2V o)∧st'=st:=by
 have c1:=fun s=>A7T o.book s
 have c2:=fun s=>A9p o.book s
 refine D6 [1] Tryz.func128 ?_
 refine I7 (c1 _) ?_
 refine lp 5 [1,8,9] (fun i vs s=>(∀ k,k<i→E6 (gI (F0 o.book) k)=true)∧vs=[.fptr (H1 o) 0,Y9 o.book,eI i]∧s=st) ?_ ?_
 ·conv=>whnf
  exact ⟨fun k hk=>absurd hk (by omega),rfl,rfl⟩
 rintro i vs s hi ⟨hok,rfl,rfl⟩
 conv=>whnf
 cases h:decide ((i:Int)<5)
 ·obtain rfl:i=5:=by have:=of_decide_eq_false h;omega
  have e:A2V o=(J8 o.book==o.net):=by unfold A2V;rw [A4r hok];rfl
  rw [e]
  generalize J8 o.book=Z at *
  conv=>whnf
  refine ⟨[],[],List.range 9,by kernel_rfl,?_⟩;conv=>whnf
  refine cqW (c2 _) ?_
  exact ⟨rfl,rfl⟩
 have hi':i<5:=by have:=of_decide_eq_true h;omega
 have hr:=fun s=>A1q (gI (F0 o.book) i) s
 have yes:E6 (gI (F0 o.book) i)=true→∀ k,k<i+1→E6 (gI (F0 o.book) k)=true:=fun hm=>I1 hok hm
 have no:E6 (gI (F0 o.book) i)=false→A2V o=false:=fun hm=>by unfold A2V;rw [A4s hi' hm];rfl
 generalize E6 (gI (F0 o.book) i)=m at hr yes no
 clear hok h hi c2
 conv=>whnf
 rcases (by omega:i=0∨i=1∨i=2∨i=3∨i=4) with rfl | rfl | rfl | rfl | rfl
 all_goals
  refine ⟨⟨rfl,Nat.le_of_ble_eq_true rfl,by omega,by omega⟩,?_⟩;conv=>whnf
  refine B3 (hr _) ?_
  cases m
  ·conv=>whnf
   rw [no rfl]
   exact ⟨rfl,rfl⟩
  ·conv=>whnf
   refine H4 ?_
   exact nx hi' ⟨yes rfl,by rw [B7 (by omega)],rfl⟩
theorem A4P {x:T5} (h:D5 x=true):0≤x.taken - x.given∧x.taken - x.given≤100000000000000∧0≤x.taken∧x.taken≤100000000000000∧0≤x.given:=by
 unfold D5 E6 at h
 simp only [Bool.and_eq_true,J4] at h
 omega
theorem A4D {l:List T5} {i:Nat} (hi:i<l.length):N6 (l.take (i+1))=N6 (l.take i)+((l.getD i default).taken - (l.getD i default).given):=H5 hi _ _
theorem A8I {l:List T5}:∀ i,i≤l.length→(∀ k,k<i→D5 (l.getD k default)=true)→0≤N6 (l.take i)∧N6 (l.take i)≤100000000000000 * (i:Int)
 | 0,_,_=>⟨by rw [List.take_zero];exact Int.le_refl _,by rw [List.take_zero];exact Int.le_refl _⟩
 | i+1,hi,h=>by
  have ih:=A8I i (by omega) fun k hk=>h k (by omega)
  have hx:=A4P (h i (by omega))
  rw [A4D (by omega)]
  omega
theorem A5g {l:List T5} (h:∀ k,k<l.length→D5 (l.getD k default)=true):l.all D5=true:=List.all_eq_true.2 fun x hx=>by
 obtain ⟨k,hk,rfl⟩:=D3 hx;exact h k hk
theorem A6U {l:List T5} {k:Nat} (hk:k<l.length) (h:D5 (l.getD k default)=false):l.all D5=false:=by
 rw [Bool.eq_false_iff];intro e
 rw [List.all_eq_true.1 e _ (A7 hk)] at h;cases h
theorem B1I {b1 b2:Bool} {t g:Int} (h:b1=true∧b2=true∧0≤g∧g≤t):(b1&&b2&&(decide (g≥0)&&decide (g≤t)))=true:=by
 simp only [Bool.and_eq_true,decide_eq_true_eq]
 exact ⟨⟨h.1,h.2.1⟩,h.2.2⟩
theorem B1n (o:I6) (h6:o.tenders.length≤6) (st:St):S P 129 [H1 o] st fun v st'=>v=.bool (P7 o)∧st'=st:=by
 refine D6 [1,5] Tryz.func129 ?_
 refine lp o.tenders.length [1,3,8,9,10] (fun i vs s=>(∀ k,k<i→D5 (o.tenders.getD k default)=true)∧vs=[.fptr (H1 o) 0,eI (N6 (o.tenders.take i)),A6 3 U9 o.tenders,eI o.tenders.length,eI i]∧s=st) ?_ ?_
 ·conv=>whnf
  exact ⟨fun k hk=>absurd hk (by omega),rfl,rfl⟩
 rintro i vs s hi ⟨hok,rfl,rfl⟩
 conv=>whnf
 cases h:decide ((i:Int)<(o.tenders.length:Int))
 ·obtain rfl:=G2 h hi
  have e:P7 o=(decide ((o.tenders.length:Int)≤6)&&(N6 o.tenders==o.net)):=by unfold P7;rw [A5g hok];rfl
  rw [e,List.take_length]
  generalize N6 o.tenders=Z
  conv=>whnf
  refine B6 (fun h=>?_) (fun h=>?_)<;>rw [h]
  all_goals
   conv=>whnf
   exact ⟨rfl,rfl⟩
 have hi':=N3 h
 have n1:=fun s=>B1e (o.tenders.getD (i:Int).toNat default).kind s
 have n2:=fun s=>A1q (o.tenders.getD (i:Int).toNat default).taken s
 have hx:D5 (o.tenders.getD (i:Int).toNat default)=(J9 1 9 (o.tenders.getD (i:Int).toNat default).kind&&E6 (o.tenders.getD (i:Int).toNat default).taken&&(decide ((o.tenders.getD (i:Int).toNat default).given≥0)&&decide ((o.tenders.getD (i:Int).toNat default).given≤(o.tenders.getD (i:Int).toNat default).taken))):=rfl
 have hb:=A8I i hi hok
 have hw:D5 (o.tenders.getD (i:Int).toNat default)=true→IntKind.i64.wrap (N6 (o.tenders.take i)+IntKind.i64.wrap ((o.tenders.getD (i:Int).toNat default).taken - (o.tenders.getD (i:Int).toNat default).given))=N6 (o.tenders.take (i+1)):=fun hm=>by
  have hx:=A4P hm
  have h4:=A4D hi'
  rw [A5 (x:=(o.tenders.getD (i:Int).toNat default).taken - (o.tenders.getD (i:Int).toNat default).given) (by omega) (by omega)]
  have e:N6 (o.tenders.take (i+1))=N6 (o.tenders.take i)+((o.tenders.getD (i:Int).toNat default).taken - (o.tenders.getD (i:Int).toNat default).given):=h4
  rw [e];exact A5 (by omega) (by omega)
 have yes:D5 (o.tenders.getD (i:Int).toNat default)=true→∀ k,k<i+1→D5 (o.tenders.getD k default)=true:=fun hm=>I1 hok hm
 have no:D5 (o.tenders.getD (i:Int).toNat default)=false→P7 o=false:=fun hm=>by unfold P7;rw [A6U hi' hm];rfl
 generalize D5 (o.tenders.getD (i:Int).toNat default)=t at hx hw yes no
 generalize hY:N6 (o.tenders.take (i+1))=Y at hw
 generalize N6 (o.tenders.take i)=Z at hw hb ⊢
 clear hok hb
 conv=>whnf
 refine ⟨rfl,⟨by omega,by omega⟩,?_⟩
 generalize J9 1 9 (o.tenders.getD (i:Int).toNat default).kind=b1 at *
 generalize E6 (o.tenders.getD (i:Int).toNat default).taken=b2 at *
 cases t with
 | true =>
  have hx:=hx.symm
  simp only [Bool.and_eq_true,decide_eq_true_eq] at hx
  obtain ⟨⟨rfl,rfl⟩,e3,e4⟩:=hx
  have g1:decide ((o.tenders.getD (i:Int).toNat default).given<0)=false:=decide_eq_false (by omega)
  have g2:decide ((o.tenders.getD (i:Int).toNat default).given>(o.tenders.getD (i:Int).toNat default).taken)=false:=decide_eq_false (by omega)
  repeat' ((conv=>whnf);first | refine B3 (n1 _) ?_ | refine B3 (n2 _) ?_ | rw [g1] | rw [g2])
  refine H4 ?_
  exact nx hi' ⟨yes rfl,by rw [hY,←hw rfl,B7 (by omega)],rfl⟩
 | false =>
  repeat' ((conv=>whnf);first | refine B3 (n1 _) ?_ | refine B3 (n2 _) ?_ | (refine B6 (fun h=>?_) (fun h=>?_)<;>rw [h]))
  all_goals first
   | (exfalso
      simp only [Bool.not_eq_true',Bool.not_eq_false',decide_eq_true_eq,decide_eq_false_iff_not] at *
      have:=B1I (b1:=b1) (b2:=b2) (t:=(o.tenders.getD (i:Int).toNat default).taken) (g:=(o.tenders.getD (i:Int).toNat default).given) ⟨by assumption,by assumption,by omega,by omega⟩
      rw [←hx] at this;cases this;done)
   | (conv=>whnf
      rw [no rfl]
      exact ⟨rfl,rfl⟩)
theorem A6z (o:I6) (hs:A4R o) (st:St):S P 51 [H1 o] st fun v st'=>v=.bool (Q7 o)∧st'=st:=by
 have n1:=fun s=>B7B o hs s
 have n2:=fun s=>B5z o hs s
 have n3:=fun s=>B1m o s
 have n4:=fun s=>B7z o s
 have n5:=fun h6 s=>B1n o h6 s
 have hB:Q7 o=(decide ((o.tenders.length:Int)≤6)&&A6c o&&A1Z o&&P6 o&&A2V o&&P7 o):=rfl
 generalize A6c o=b1 at *
 generalize A1Z o=b2 at *
 generalize P6 o=b3 at *
 generalize A2V o=b4 at *
 generalize P7 o=b5 at *
 refine D6 [1,3] Tryz.func51 ?_
 refine B6 (fun h=>?_) (fun h=>?_)<;>rw [h]<;>simp only [decide_eq_true_eq,decide_eq_false_iff_not] at h
 ·rw [decide_eq_false (by omega)] at hB
  rw [hB];conv=>whnf
  exact ⟨rfl,rfl⟩
 rw [decide_eq_true (by omega),Bool.true_and] at hB
 have n5:=n5 (by omega)
 conv=>whnf
 refine lp 5 [22,23,24] (fun i vs s=>((0<i→b1=true)∧(1<i→b2=true)∧(2<i→b3=true)∧(3<i→b4=true)∧(4<i→b5=true))∧(∃ F:Nat→AV,F 0=.fn (.func 125) [H1 o] []∧F 1=.fn (.func 126) [H1 o] []∧F 2=.fn (.func 127) [H1 o] []∧F 3=.fn (.func 128) [H1 o] []∧F 4=.fn (.func 129) [H1 o] []∧vs=[.arr 1 5 F,eI 5,eI i])∧s=st) ?_ ?_
 ·conv=>whnf
  exact ⟨⟨fun h=>absurd h (by omega),fun h=>absurd h (by omega),fun h=>absurd h (by omega),fun h=>absurd h (by omega),fun h=>absurd h (by omega)⟩,⟨_,rfl,rfl,rfl,rfl,rfl,rfl⟩,rfl⟩
 rintro i vs s hi ⟨⟨g1,g2,g3,g4,g5⟩,⟨F,f0,f1,f2,f3,f4,rfl⟩,rfl⟩
 conv=>whnf
 cases h5:decide ((i:Int)<5)
 ·have h5:=of_decide_eq_false h5
  rw [g1 (by omega),g2 (by omega),g3 (by omega),g4 (by omega),g5 (by omega)] at hB
  rw [hB];conv=>whnf
  exact ⟨rfl,rfl⟩
 have hi':i<5:=by have:=of_decide_eq_true h5;omega
 conv=>whnf
 refine ⟨rfl,⟨by omega,by omega⟩,?_⟩
 rcases (by omega:i=0∨i=1∨i=2∨i=3∨i=4) with rfl | rfl | rfl | rfl | rfl
 case' inl=>rw [show F ((0:Nat):Int).toNat=_ from f0]
 case' inr.inl=>rw [show F ((1:Nat):Int).toNat=_ from f1]
 case' inr.inr.inl=>rw [show F ((2:Nat):Int).toNat=_ from f2]
 case' inr.inr.inr.inl=>rw [show F ((3:Nat):Int).toNat=_ from f3]
 case' inr.inr.inr.inr=>rw [show F ((4:Nat):Int).toNat=_ from f4]
 all_goals
  conv=>whnf
  first | refine B3 (n1 _) ?_ | refine B3 (n2 _) ?_ | refine B3 (n3 _) ?_ | refine B3 (n4 _) ?_ | refine B3 (n5 _) ?_
  conv=>whnf
  refine B6 (fun h6=>?_) (fun h6=>?_)<;>rw [h6]
  ·rw [Bool.not_eq_true'] at h6
   rw [h6] at hB
   simp only [Bool.false_and,Bool.and_false] at hB
   rw [hB];conv=>whnf
   exact ⟨rfl,rfl⟩
  ·rw [Bool.not_eq_false'] at h6;conv=>whnf
   refine H4 ?_
   exact nx hi' ⟨⟨fun _=>by first | exact h6 | exact g1 (by omega),fun h=>by first | exact h6 | exact g2 (by omega) | omega,fun h=>by first | exact h6 | exact g3 (by omega) | omega,fun h=>by first | exact h6 | exact g4 (by omega) | omega,fun h=>by first | exact h6 | exact g5 (by omega) | omega⟩,⟨F,f0,f1,f2,f3,f4,by rw [B7 (by omega)]⟩,rfl⟩
theorem Z5 (x:Int) (st:St):S P 223 [eI x] st fun v st'=>v=.bool (H7 x)∧st'=st:=by
 refine D6 [] Tryz.func223 ?_
 unfold H7
 cases h:decide (0≤x)
 ·conv=>whnf
  exact ⟨rfl,rfl⟩
 ·conv=>whnf
  exact ⟨rfl,rfl⟩
theorem C4g {v:Int} (h0:0≤v) (h1:v≤9223372036854775807):IntKind.i64.wrap ((BitVec.ofInt IntKind.i64.bits v &&& BitVec.ofInt IntKind.i64.bits 1).toNat:Int)=v % 2:=by
 show IntKind.i64.wrap ((BitVec.ofInt 64 v &&& BitVec.ofInt 64 1).toNat:Int)=v % 2
 obtain ⟨n,rfl⟩:=Int.eq_ofNat_of_zero_le h0
 have e1:(BitVec.ofInt 64 ((n:Nat):Int)).toNat=n:=by rw [BitVec.ofInt_natCast,BitVec.toNat_ofNat,Nat.mod_eq_of_lt (by omega)]
 have e2:(BitVec.ofInt 64 1).toNat=1:=by decide
 rw [BitVec.toNat_and,e1,e2,Nat.and_one_is_mod,A5 (by omega) (by omega)];omega
theorem A8C {d q r Y:Int} (h:Y=d * q+r) (h0:0≤r) (h1:r<d):Y / d=q∧Y % d=r:=by
 have:=(Int.ediv_emod_unique (a:=Y) (b:=d) (r:=r) (q:=q) (by omega)).2 ⟨by omega,h0,h1⟩
 exact this
def N7 (num:Int) (j:Nat):Int:=num / 2 ^ (63 - j)
theorem B3Y {num:Int} (h:0≤num) {j:Nat} (hj:j<63):N7 num (j+1)=2 * N7 num j+N7 num (j+1) % 2:=by
 have e:N7 num j=N7 num (j+1) / 2:=by
  unfold N7
  rw [show 63 - j=(63 - (j+1))+1 by omega,Int.pow_succ,Int.ediv_ediv_of_nonneg (Int.pow_nonneg (by omega))]
 omega
theorem A5h {num:Int} (h:0≤num) (j:Nat):0≤N7 num j:=Int.ediv_nonneg h (Int.pow_nonneg (by omega))
theorem B7Y {num:Int} (h:0≤num) (j:Nat):N7 num j≤num:=Int.ediv_le_self _ h
theorem B6k {num:Int} (h:0≤num) (h1:num≤100000000000000):N7 num 0=0:=Int.ediv_eq_zero_of_lt h (by show num<2 ^ 63;omega)
theorem B2I (num:Int):N7 num 63=num:=by unfold N7;simp
def A6r (x num den:Int):AV:=if x * num / den>100000000000000 then .tuple [eI 0,eI 0,.bool false] else .tuple [eI (x * num / den),eI (x * num % den),.bool true]
set_option maxHeartbeats 1000000 in
theorem B1v (x num den:Int) (hx:0≤x) (hx1:x≤100000000000000) (hn:0≤num) (hn1:num≤100000000000000) (hd:0<den) (hd1:den≤100000000000000) (st:St) :
  S P 282 [eI x,eI num,eI den] st fun v st'=>v=A6r x num den∧st'=st:=by
 refine D6 [] Tryz.func282 ?_
 refine lp 63 [0,1,2,9,10,11] (fun j vs s=>(x * N7 num j / den≤100000000000000)∧vs=[eI x,eI num,eI den,eI (x * N7 num j / den),eI (x * N7 num j % den),eI (62 - (j:Int))]∧s=st) ?_ ?_
 ·conv=>whnf
  refine ⟨?_,?_,rfl⟩
  ·rw [B6k hn hn1,Int.mul_zero,Int.zero_ediv];omega
  ·rw [B6k hn hn1,Int.mul_zero,Int.zero_ediv,Int.zero_emod];rfl
 ·rintro j vs s hj ⟨hq,rfl,rfl⟩
  conv=>whnf
  have hY0:0≤x * N7 num j:=Int.mul_nonneg hx (A5h hn j)
  have hA0:0≤x * N7 num j / den:=Int.ediv_nonneg hY0 (by omega)
  have hB0:=Int.emod_nonneg (x * N7 num j) (show den≠0 by omega)
  have hB1:=Int.emod_lt_of_pos (x * N7 num j) hd
  have hY:=Int.mul_ediv_add_emod (x * N7 num j) den
  cases h:decide (62 - (j:Int)≥0)
  ·have hj63:j=63:=by have:=of_decide_eq_false h;omega
   subst hj63
   rw [B2I] at hq;conv=>whnf
   refine ⟨?_,rfl⟩
   unfold A6r
   rw [if_neg (by omega),B2I];rfl
  ·have hj':j<63:=by have:=of_decide_eq_true h;omega
   have hC0:0≤x / den:=Int.ediv_nonneg hx (by omega)
   have hC1:x / den≤x:=Int.ediv_le_self _ hx
   have hD0:=Int.emod_nonneg x (show den≠0 by omega)
   have hD1:=Int.emod_lt_of_pos x hd
   have hX:=Int.mul_ediv_add_emod x den
   have hst:=B3Y hn hj'
   have hN0:=A5h hn (j+1)
   have hN1:=B7Y hn (j+1)
   have hbit:x * N7 num (j+1)=2 * (x * N7 num j)+x * (N7 num (j+1) % 2):=by
    conv=>lhs;rw [hst]
    rw [Int.mul_add,Int.mul_left_comm]
   have hshr:Int.fdiv num (2 ^ (min (IntKind.u64.wrap (62 - (j:Int))).toNat IntKind.i64.bits))=N7 num (j+1):=by
    show Int.fdiv num (2 ^ (min (IntKind.u64.wrap (62 - (j:Int))).toNat 64))=_
    rw [B0 (by omega) (by omega)]
    unfold N7
    rw [show min (62 - (j:Int)).toNat 64=63 - (j+1) by omega,Int.fdiv_eq_ediv_of_nonneg _ (Int.pow_nonneg (by omega))]
   have hbig:x * N7 num (j+1) / den>100000000000000→A6r x num den=.tuple [eI 0,eI 0,.bool false]:=fun hb=>by
    unfold A6r
    refine if_pos ?_
    have:x * N7 num (j+1) / den≤x * num / den:=Int.ediv_le_ediv hd (Int.mul_le_mul_of_nonneg_left hN1 hx)
    omega
   have hand:=C4g (v:=N7 num (j+1)) hN0 (by omega)
   have htd:x.tdiv den=x / den:=Int.tdiv_eq_ediv_of_nonneg hx
   have htm:x.tmod den=x % den:=Int.tmod_eq_emod_of_nonneg hx
   generalize hAe:x * N7 num j / den=A at *
   generalize hBe:x * N7 num j % den=B at *
   generalize hYe:x * N7 num j=Y at *
   generalize hCe:x / den=C at *
   generalize hDe:x % den=D at *
   have w1:IntKind.i64.wrap (2 * A)=2 * A:=A5 (by omega) (by omega)
   have w2:IntKind.i64.wrap (2 * B)=2 * B:=A5 (by omega) (by omega)
   conv=>whnf
   rw [w1,w2]
   -- doubled
   refine B6 (fun h1=>?_) (fun h1=>?_)<;>rw [h1]
   case' refine_1 =>
    have:=of_decide_eq_true h1
    have w3:IntKind.i64.wrap (2 * A+1)=2 * A+1:=A5 (by omega) (by omega)
    have w4:IntKind.i64.wrap (2 * B - den)=2 * B - den:=A5 (by omega) (by omega)
    have hq1:2 * Y=den * (2 * A+1)+(2 * B - den):=by rw [Int.mul_add,Int.mul_left_comm,Int.mul_one];omega
    have hq2:0≤2 * A+1∧2 * A+1≤200000000000001:=by omega
    have hr1:0≤2 * B - den∧2 * B - den<den:=by omega
    conv=>whnf
    rw [w3,w4]
    generalize 2 * A+1=q1 at *
    generalize 2 * B - den=r1 at *
   case' refine_2 =>
    have:=of_decide_eq_false h1
    have hq1:2 * Y=den * (2 * A)+(2 * B):=by rw [Int.mul_left_comm];omega
    have hq2:0≤2 * A∧2 * A≤200000000000001:=by omega
    have hr1:0≤2 * B∧2 * B<den:=by omega
    conv=>whnf
    generalize 2 * A=q1 at *
    generalize 2 * B=r1 at *
   all_goals clear w1 w2 hY hA0 hB0 hB1 hq hAe hBe
   all_goals (rw [decide_eq_false (show ¬ IntKind.u64.wrap (62 - (j:Int))<0 by rw [B0 (by omega) (by omega)];omega)])
   all_goals (conv=>whnf)
   all_goals rw [hshr,hand]
   all_goals refine B6 (fun h2=>?_) (fun h2=>?_)<;>rw [h2]
   -- a bit of num
   case' refine_2.true.refine_1.refine_1 | refine_2.true.refine_2.refine_1 =>
    have hb1:N7 num (j+1) % 2=1:=eq_of_beq h2
    have w5:IntKind.i64.wrap C=C:=A5 (by omega) (by omega)
    have w6:IntKind.i64.wrap (q1+C)=q1+C:=A5 (by omega) (by omega)
    have w7:IntKind.i64.wrap (r1+D)=r1+D:=A5 (by omega) (by omega)
    have hd0:decide (den=0)=false:=decide_eq_false (by omega)
    rw [hb1,Int.mul_one] at hbit;conv=>whnf
    refine ⟨[],[],List.range 12,by kernel_rfl,?_⟩;conv=>whnf
    rw [hd0];conv=>whnf
    rw [hd0];conv=>whnf
    rw [htd,htm,w5,w6,w7]
    refine B6 (fun h3=>?_) (fun h3=>?_)<;>rw [h3]
    case' refine_1 =>
     have:=of_decide_eq_true h3
     have w8:IntKind.i64.wrap (q1+C+1)=q1+C+1:=A5 (by omega) (by omega)
     have w9:IntKind.i64.wrap (r1+D - den)=r1+D - den:=A5 (by omega) (by omega)
     obtain ⟨e1,e2⟩:=A8C (Y:=x * N7 num (j+1)) (d:=den) (q:=q1+C+1) (r:=r1+D - den) (by rw [hbit,Int.mul_add,Int.mul_add,Int.mul_one];omega) (by omega) (by omega)
     conv=>whnf
     rw [w8,w9,←e1,←e2]
    case' refine_2 =>
     have:=of_decide_eq_false h3
     obtain ⟨e1,e2⟩:=A8C (Y:=x * N7 num (j+1)) (d:=den) (q:=q1+C) (r:=r1+D) (by rw [hbit,Int.mul_add];omega) (by omega) (by omega)
     conv=>whnf
     rw [←e1,←e2]
   case' refine_2.true.refine_1.refine_2 | refine_2.true.refine_2.refine_2 =>
    have hb1:N7 num (j+1) % 2=0:=by have:=ne_of_beq_false h2;omega
    rw [hb1,Int.mul_zero,Int.add_zero] at hbit
    obtain ⟨e1,e2⟩:=A8C (Y:=x * N7 num (j+1)) (d:=den) (q:=q1) (r:=r1) (by rw [hbit];omega) (by omega) (by omega)
    conv=>whnf
    rw [←e1,←e2]
   all_goals refine B6 (fun h4=>?_) (fun h4=>?_)<;>rw [h4]
   all_goals (conv=>whnf)
   all_goals first
    | exact ⟨by rw [hbig (of_decide_eq_true h4)];rfl,rfl⟩
    | (refine ⟨rfl,?_⟩;conv=>whnf
       have w10:IntKind.i64.wrap (62 - (j:Int) - 1)=62 - ((j+1:Nat):Int):=by rw [A5 (by omega) (by omega)];omega
       exact nx hj' ⟨by have:=of_decide_eq_false h4;omega,by rw [w10],rfl⟩)
theorem B5N (x num den round:Int) (st:St):S P 224 [eI x,eI num,eI den,eI round] st fun v st'=>v=.tuple [eI (O7 x num den round).1,eI (O7 x num den round).2]∧st'=st:=by
 refine SyW [] Tryz.func224 ?_
 by_cases hok:(H7 x&&H7 num&&H7 den&&den != 0&&decide (0≤round)&&decide (round<3))=false
 ·rw [show O7 x num den round=(0,2) from if_pos hok]
  have n1:=Z5 x st
  have n2:=Z5 num st
  have hok':¬(H7 x=true∧H7 num=true∧1≤den∧den≤100000000000000∧0≤round∧round≤2):=fun ⟨h1,h2,h3,h4,h5,h6⟩=>by
   rw [h1,h2,(U6 den).2 ⟨by omega,h4⟩,decide_eq_true h5,decide_eq_true (show round<3 by omega),bne_iff_ne.2 (show den≠0 by omega)] at hok;cases hok
  repeat' ((conv=>whnf);first | refine B3 n1 ?_ | refine B3 n2 ?_ | (refine B6 (fun h=>?_) (fun h=>?_)<;>rw [h]))
  all_goals (conv=>whnf)
  all_goals first
   | exact ⟨rfl,rfl⟩
   | (exfalso
      simp only [Bool.not_eq_false',decide_eq_false_iff_not] at *
      exact hok' ⟨by assumption,by assumption,by omega,by omega,by omega,by omega⟩)
 ·rw [Bool.not_eq_false] at hok
  have ht:O7 x num den round=if x * num / den>100000000000000 then (0,5) else if J3 (x * num / den) (x * num % den) den round>100000000000000 then (0,5) else (J3 (x * num / den) (x * num % den) den round,0):=if_neg (by rw [hok];simp)
  simp only [Bool.and_eq_true,bne_iff_ne,ne_eq,decide_eq_true_eq] at hok
  obtain ⟨⟨⟨⟨⟨x0,n0⟩,d0⟩,d2⟩,r0⟩,r1⟩:=hok
  have x1:=(U6 x).1 x0
  have n1:=(U6 num).1 n0
  have d1:=(U6 den).1 d0
  have e1:decide (den<1)=false:=decide_eq_false (by omega)
  have e2:decide (den>100000000000000)=false:=decide_eq_false (by omega)
  have e3:decide (round<0)=false:=decide_eq_false (by omega)
  have e4:decide (round>2)=false:=decide_eq_false (by omega)
  have hp:=B1v x num den (by omega) (by omega) (by omega) (by omega) (by omega) (by omega) st
  have hN:0≤x * num:=Int.mul_nonneg x1.1 n1.1
  have hq0:0≤x * num / den:=Int.ediv_nonneg hN (by omega)
  have hm0:=Int.emod_nonneg (x * num) d2
  have hm1:=Int.emod_lt_of_pos (x * num) (show 0<den by omega)
  have m1:=Z5 x st
  have m2:=Z5 num st
  rw [x0] at m1
  rw [n0] at m2
  unfold A6r at hp
  rw [ht]
  clear ht
  generalize x * num / den=q at *
  generalize x * num % den=r at *
  have bq:0≤J3 q r den round:=by unfold J3;repeat' split<;>omega
  by_cases hbig:q>100000000000000
  ·rw [if_pos hbig] at hp ⊢
   repeat' ((conv=>whnf);first | refine B3 m1 ?_ | refine B3 m2 ?_ | refine B3 hp ?_ | rw [e1] | rw [e2] | rw [e3] | rw [e4])
   conv=>whnf
   exact ⟨rfl,rfl⟩
  ·rw [if_neg hbig] at hp ⊢
   have w1:IntKind.i64.wrap (2 * r)=2 * r:=A5 (by omega) (by omega)
   have w2:IntKind.i64.wrap (q+1)=q+1:=A5 (by omega) (by omega)
   have w3:q.tmod 2=q % 2:=Int.tmod_eq_emod_of_nonneg hq0
   have m3:=Z5 q st
   have m4:=Z5 (q+1) st
   rcases (by omega:round=0∨round=1∨round=2) with rfl | rfl | rfl
   all_goals repeat' ((conv=>whnf);first | refine B3 m1 ?_ | refine B3 m2 ?_ | refine B3 m3 ?_ | refine B3 m4 ?_ | refine B3 hp ?_ | rw [e1] | rw [e2] | rw [e3] | rw [e4] | rw [w1] | rw [w2] | rw [w3] | (refine B6 (fun h=>?_) (fun h=>?_)<;>rw [h]))
   all_goals (conv=>whnf)
   all_goals (refine ⟨?_,rfl⟩;show AV.tuple [AV.int .i64 _,AV.int .i64 _]=AV.tuple [AV.int .i64 _,AV.int .i64 _])
   all_goals (simp only [J3,Bool.not_eq_true',Bool.not_eq_false',decide_eq_true_eq,decide_eq_false_iff_not,beq_iff_eq,beq_eq_false_iff_ne,ne_eq,H7,Bool.and_eq_true,Bool.and_eq_false_iff,if_true,if_false,Int.reduceEq] at *)
   all_goals (repeat' split)
   all_goals first | rfl | (exfalso;omega)
theorem T4.take {us:List A8} {l:List Int} (h:T4 us l) (n:Nat):T4 us (l.take n):=by
 have e:∀ k,k<(l.take n).length→gI (l.take n) k=gI l k∧k<l.length:=fun k hk=>by
  rw [List.length_take] at hk
  unfold gI
  rw [List.getD_eq_getElem?_getD,List.getD_eq_getElem?_getD,List.getElem?_take_of_lt (by omega)]
  exact ⟨rfl,by omega⟩
 exact ⟨fun k hk=>by rw [(e k hk).1];exact h.rng k (e k hk).2,fun i k hik hk=>by rw [(e k hk).1,(e i (by omega)).1];exact h.ne i k hik (e k hk).2⟩
theorem B3U (used:List Bool) (l:List QE):∃ pre,l=pre++(J1 used l).2∧∀ e∈pre,used.getD e.2.toNat default=true∨(J1 used l).1=some e.2:=by
 induction l with
 | nil=>exact ⟨[],rfl,fun e h=>by cases h⟩
 | cons e l ih =>
  by_cases hu:used.getD e.2.toNat default=true
  ·have ht:J1 used (e::l)=J1 used l:=by
    show (if used.getD e.2.toNat default=true then J1 used l else (some e.2,l))=_
    rw [if_pos hu]
   obtain ⟨pre,h1,h2⟩:=ih
   rw [ht]
   exact ⟨e::pre,by rw [List.cons_append,←h1],fun x hx=>by
    rcases List.mem_cons.1 hx with rfl | hx
    ·exact .inl hu
    ·exact h2 x hx⟩
  ·have ht:J1 used (e::l)=(some e.2,l):=by
    show (if used.getD e.2.toNat default=true then J1 used l else (some e.2,l))=_
    rw [if_neg hu]
   rw [ht]
   exact ⟨[e],rfl,fun x hx=>by rw [List.mem_singleton] at hx;subst hx;exact .inr rfl⟩
def B4n (E:Nat→List QE) (n:Nat) (s:MSt):Prop:=∀ k,k<n→∃ pre,E k=pre++s.es k∧∀ e∈pre,s.used.getD e.2.toNat default=true
theorem B0q {used:List Bool} {i:Nat} (hi:i<used.length) (j:Nat):(used.set i true).getD j default=if j=i then true else used.getD j default:=by
 simp only [List.getD_eq_getElem?_getD,List.getElem?_set]
 by_cases h:j=i
 ·subst h;simp [hi]
 ·rw [if_neg (fun e=>h e.symm),if_neg h]
theorem B4n.take {E:Nat→List QE} {us:List A8} {n:Nat} {s s':MSt} (h:B4n E n s) (hok:MOk us n s) {k:Nat} (hk:k<n) (ht:V8 k s=some s'):B4n E n s':=by
 obtain ⟨pre0,p1,p2⟩:=B3U s.used (s.es k)
 obtain ⟨_,t2,_,_⟩:=Z9 s.used (s.es k)
 unfold V8 at ht
 split at ht
 ·cases ht
 ·rename_i i hi
  cases ht
  obtain ⟨e0,he0,rfl,_⟩:=t2 i hi
  have hlt:e0.2.toNat<s.used.length:=by rw [hok.len];exact (hok.rng k hk e0 he0).2
  intro j hj
  obtain ⟨pre,h1,h2⟩:=h j hj
  have hmono:∀ e:QE,s.used.getD e.2.toNat default=true→(s.used.set e0.2.toNat true).getD e.2.toNat default=true:=fun e he=>by
   rw [B0q hlt];split
   ·rfl
   ·exact he
  by_cases ej:j=k
  ·subst ej
   refine ⟨pre++pre0,?_,fun e he=>?_⟩
   ·show E j=_++O9 s.es j _ j
    rw [C6,List.append_assoc,←p1];exact h1
   ·rcases List.mem_append.1 he with he | he
    ·exact hmono e (h2 e he)
    ·rcases p2 e he with he | he
     ·exact hmono e he
     ·rw [hi] at he
      have he:=Option.some.inj he
      show (s.used.set _ true).getD _ default=true
      rw [B0q hlt,if_pos (by rw [he])]
  ·refine ⟨pre,?_,fun e he=>hmono e (h2 e he)⟩
   show E j=_++O9 s.es k _ j
   rw [F3 ej];exact h1
abbrev RL (ls:List Int) (svl:AV):St→St→Prop:=fun s t=>ROut E7 2 1 (fun k=>eI (gI ls k)) ls.length s svl t
abbrev RA (all ls:List Int) (sva svl:AV):St→St→Prop:=fun s t=>ROut (RL ls svl) 3 1 (fun k=>eI (gI all k)) all.length s sva t
theorem B6O (ls:List Int) (svl:AV):G5 (RL ls svl):=A2z R4 _ _ _ _ _
theorem RA.start (s:St):RA [] [] .emp .emp s s:=ROut.start (ROut.start (E7.refl s) _ _ _) _ _ _
theorem RA.shift {all ls:List Int} {sva svl:AV} {s t:St} (h:RA all ls sva svl s t) (a b:AV):∃ t2,A4 [a,sva,svl,b] t [a,B4 all,B4 ls,b] t2∧E7 s t2:=by
 obtain ⟨t1,h1,h2⟩:=ROut.shift (B6O ls svl) h
 obtain ⟨t2,h3,h4⟩:=ROut.shift R4 h2
 exact ⟨t2,A4.cons (A4.keep _ _) (A4.cons h1 (A4.cons h3 (A4.keep _ _))),h4⟩
theorem B5I (l:List D9) (hl:Sm l.length) (hs:∀ s∈l,Sm s.size) (st:St):S P 85 [D8 l] st fun v st'=>v=.bool (N0 l)∧st'=st:=by
 have e:N0 l=(A0y l&&decide ((l.length:Int)≤4)):=by
  unfold N0 A0y
  generalize decide ((l.length:Int)≤4)=a
  generalize A0n l=b
  generalize (l.any fun s=>!D0 s)=c
  cases a<;>cases b<;>cases c<;>rfl
 rw [e]
 refine D6 [] Tryz.func85 ?_
 refine I7 (B5L l 4 hl hs st) ?_
 exact ⟨rfl,rfl⟩
end Go.Proofs.YtbajhapmlfbelaaGreat
