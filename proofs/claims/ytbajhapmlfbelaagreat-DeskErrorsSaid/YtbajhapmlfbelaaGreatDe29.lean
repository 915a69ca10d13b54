/- Part 29 of the proof: contracts of the functions that the law reaches -/
import Derived.Test.YtbajhapmlfbelaaGreatDe28
set_option maxRecDepth 100000
set_option linter.unusedVariables false
set_option linter.unusedSimpArgs false
namespace Go.Proofs.YtbajhapmlfbelaaGreat
open Go Go.Ab
abbrev C0w (l:List B2) (xs:List (Int×Int)):List A1P:=xs.map fun a=>(⟨(D9 l a.1).id,a.2⟩:A1P)
abbrev A9m (l:List B2) (xs:List (Int×Int)):List E0:=(xs.map fun a=>(D9 l a.1).group).filter fun g=>!K1 g
structure Tr (l:List B2) (p:PSt) (xs:List (Int×Int)):Prop where
 deals:p.deals=C0w l xs
 groups:p.groups=A9m l xs
 pos:∀ a∈xs,1≤a.2
 apart:p.groups.Pairwise fun x y=>(y.toList==x.toList)=false
theorem Tr.start (l:List B2) (us:List B7):Tr l ⟨us,[],[]⟩ []:=⟨rfl,rfl,fun a h=>absurd h List.not_mem_nil,.nil⟩
def B1N {σ : Type} (px : σ→PSt) (step : σ→B2→σ) (sm:B2→Bool) (l:List B2) (Q : σ→Int→Prop):Prop :=
 ∀ (a : σ) (s:Int) (pr:B2),pr∈l→sm pr=true→Q a s →
  ((px (step a pr)).deals=(px a).deals∧(px (step a pr)).groups=(px a).groups∧Q (step a pr) s) ∨
  ∃ off,1≤off∧(px (step a pr)).deals=(px a).deals++[⟨pr.id,off⟩]∧(px (step a pr)).groups=(px a).groups++(if K1 pr.group=true then [] else [pr.group])∧Q (step a pr) (s+off)
theorem C3l {σ : Type} {px : σ→PSt} {step : σ→B2→σ} {sm:B2→Bool} {l:List B2} {Q : σ→Int→Prop} (hstep:B1N px step sm l Q) :
  ∀ (f:List Int) (a : σ) (xs:List (Int×Int)) (s:Int),(∀ x∈f,x.toNat<l.length∧sm (D9 l x)=true)→Tr l (px a) xs→Q a s →
   ∃ ys,Tr l (px (f.foldl (fun a x=>goB px step a (D9 l x)) a)) (xs++ys)∧(ys.map Prod.fst).Sublist f∧Q (f.foldl (fun a x=>goB px step a (D9 l x)) a) (s+A6 (ys.map Prod.snd)):=by
 intro f
 induction f with
 | nil=>intro a xs s _ ht hq;exact ⟨[],by rw [List.append_nil];exact ht,List.Sublist.slnil,by rw [show s+A6 (([]:List (Int×Int)).map Prod.snd)=s from Int.add_zero s];exact hq⟩
 | cons x f ih =>
  intro a xs s hm ht hq
  have hm':∀ y∈f,y.toNat<l.length∧sm (D9 l y)=true:=fun y hy=>hm y (List.mem_cons_of_mem _ hy)
  have hx:=hm x (List.mem_cons_self ..)
  have hmem:D9 l x∈l:=B5 hx.1
  rw [List.foldl_cons]
  unfold goB
  by_cases hg:(K1 (D9 l x).group||!inB (px a).groups (D9 l x).group)=true
  ·rw [if_pos hg]
   rcases hstep a s (D9 l x) hmem hx.2 hq with ⟨h1,h2,h3⟩ | ⟨off,h0,h1,h2,h3⟩
   ·obtain ⟨ys,k1,k2,k3⟩:=ih _ xs s hm' ⟨h1.trans ht.deals,h2.trans ht.groups,ht.pos,by rw [h2];exact ht.apart⟩ h3
    exact ⟨ys,k1,k2.cons _,k3⟩
   ·have ht':Tr l (px (step a (D9 l x))) (xs++[(x,off)]):=by
     refine ⟨?_,?_,fun b hb=>?_,?_⟩
     ·rw [h1,ht.deals];unfold C0w;rw [List.map_append];rfl
     ·rw [h2,ht.groups];unfold A9m
      rw [List.map_append,List.filter_append]
      congr 1
      cases hn:K1 (D9 l x).group
      ·rw [if_neg (by simp)]
       show [(D9 l x).group]=List.filter (fun g=>!K1 g) [(D9 l x).group]
       rw [List.filter_cons_of_pos (p:=fun g=>!K1 g) (by rw [hn];rfl)];rfl
      ·rw [if_pos rfl]
       show []=List.filter (fun g=>!K1 g) [(D9 l x).group]
       rw [List.filter_cons_of_neg (p:=fun g=>!K1 g) (by rw [hn];simp)];rfl
     ·rcases List.mem_append.1 hb with hb | hb
      ·exact ht.pos b hb
      ·rw [List.mem_singleton.1 hb];exact h0
     ·rw [h2]
      refine List.pairwise_append.2 ⟨ht.apart,?_,fun y hy z hz=>?_⟩
      ·split
       ·exact .nil
       ·exact List.pairwise_singleton _ _
      ·split at hz
       ·exact absurd hz List.not_mem_nil
       ·rename_i hn
        rw [List.mem_singleton.1 hz]
        rw [Bool.eq_false_iff.2 hn,Bool.false_or,Bool.not_eq_true'] at hg
        unfold inB at hg
        rw [List.any_eq_false] at hg
        exact Bool.eq_false_iff.2 (hg y hy)
    obtain ⟨ys,k1,k2,k3⟩:=ih _ (xs++[(x,off)]) (s+off) hm' ht' h3
    refine ⟨(x,off)::ys,by rw [List.append_assoc] at k1;exact k1,k2.cons_cons x,?_⟩
    rw [List.map_cons,N6,←Int.add_assoc];exact k3
  ·rw [if_neg hg]
   obtain ⟨ys,k1,k2,k3⟩:=ih _ xs s hm' ht hq
   exact ⟨ys,k1,k2.cons _,k3⟩
theorem B7x {σ : Type} {px : σ→PSt} {step : σ→B2→σ} {sm:B2→Bool} {l:List B2} {Q : σ→Int→Prop} (hstep:B1N px step sm l Q) {o:List Int} (ho:∀ x∈o,x.toNat<l.length) {a : σ} {xs:List (Int×Int)} {s:Int} (ht:Tr l (px a) xs) (hq:Q a s) :
  ∃ ys,Tr l (px (V9 px step sm l a o)) (xs++ys)∧(ys.map Prod.fst).Sublist (o.filter fun x=>sm (D9 l x))∧Q (V9 px step sm l a o) (s+A6 (ys.map Prod.snd)) :=
 C3l hstep _ a xs s (fun x hx=>⟨ho x (List.mem_filter.1 hx).1,(List.mem_filter.1 hx).2⟩) ht hq
theorem B9A {items:List Ab.Item} {us0:List B7} {l:List B2} (hf:∀ p∈l,O0 p) (hr:∀ p∈l,G2 p=true):B1N (fun p:PSt=>p) (A3G items) Q7 l (fun p s=>A5J items p.us∧Off us0 p.us s):=by
 intro a s pr hm hs hq
 have hk:pr.kind≠7:=by simpa [Q7] using hs
 unfold A3G
 by_cases h:(X2 items a.us pr).2>0
 ·rw [if_pos h]
  rcases B7A hq.1 (hf _ hm) (hr _ hm) hk with e | e
  ·rw [e] at h;exact absurd h (by decide)
  ·exact .inr ⟨_,by omega,rfl,rfl,hq.1.off e,hq.2.trans e⟩
 ·rw [if_neg h]
  exact .inl ⟨rfl,rfl,hq⟩
theorem B8F {net fee fee0:Int} {l:List B2} (hr:∀ p∈l,G2 p=true):B1N (fun a:PSt×Int=>a.1) (R7 net) X7 l (fun a s=>0≤a.2∧a.2≤fee∧a.2+s=fee0):=by
 intro a s pr hm hs hq
 have hk:pr.kind=7:=by simpa [X7] using hs
 have h7:=(A0U (hr _ hm)).ship hk
 have hb:=Q4 a.2 pr.rate
 have hle:=A3V hq.1 (show 0≤pr.rate by omega) h7.2
 unfold R7 A5U
 by_cases h:net<pr.least
 ·rw [if_pos h];exact .inl ⟨rfl,rfl,hq⟩
 ·rw [if_neg h]
  by_cases h2:I1 a.2 pr.rate>0
  ·rw [if_pos h2]
   exact .inr ⟨I1 a.2 pr.rate,by omega,rfl,rfl,by show 0≤a.2 - I1 a.2 pr.rate;omega,by show a.2 - I1 a.2 pr.rate≤_;omega,by show a.2 - I1 a.2 pr.rate+(s+I1 a.2 pr.rate)=_;omega⟩
  ·rw [if_neg h2]
   exact .inl ⟨rfl,rfl,by show 0≤a.2 - I1 a.2 pr.rate;omega,by show a.2 - I1 a.2 pr.rate≤_;omega,by show a.2 - I1 a.2 pr.rate+s=_;omega⟩
theorem A4I (a b:List B7) (j:Nat):F8 (a++b) j=F8 a j+F8 b j:=by
 unfold F8;rw [List.filter_append,List.map_append,G5]
theorem B3X (l:List F5) (i j n:Nat):F8 (List.replicate n (lnU l i)) j=if i=j then n * (l.getD i default).price else 0:=by
 induction n with
 | zero=>show (0:Int)=_;split<;>simp
 | succ n ih =>
  rw [show List.replicate (n+1) (lnU l i)=[lnU l i]++List.replicate n (lnU l i) from rfl,A4I,ih]
  by_cases h:i=j
  ·rw [if_pos h,if_pos h]
   have:F8 [lnU l i] j=(l.getD i default).price:=by
    unfold F8
    rw [List.filter_cons_of_pos (by show (((i:Int)).toNat==j)=true;rw [Int.toNat_natCast,h];simp)]
    show A6 [(l.getD i default).price]=_
    rw [N6];exact Int.add_zero _
   rw [this,show ((n+1:Nat):Int) * (l.getD i default).price=n * (l.getD i default).price+(l.getD i default).price by rw [Int.natCast_add,Int.add_mul];simp]
   omega
  ·rw [if_neg h,if_neg h]
   have:F8 [lnU l i] j=0:=by
    unfold F8
    rw [List.filter_cons_of_neg (by show ¬(((i:Int)).toNat==j)=true;rw [Int.toNat_natCast];simpa using h)];rfl
   rw [this];rfl
theorem B5L (l:List F5) (hl:∀ x∈l,0≤x.qty) (j k:Nat) (hk:k≤l.length):F8 (G3 l k) j=if j<k then (l.getD j default).qty * (l.getD j default).price else 0:=by
 induction k with
 | zero=>rfl
 | succ k ih =>
  show F8 (G3 l k++List.replicate (l.getD k default).qty.toNat (lnU l k)) j=_
  rw [A4I,ih (by omega),B3X]
  have hq:=hl _ (B5 (show k<l.length by omega))
  by_cases e:k=j
  ·subst e
   rw [if_neg (by omega),if_pos rfl,if_pos (by omega),Int.toNat_of_nonneg hq,Int.zero_add]
  ·rw [if_neg e]
   by_cases h:j<k
   ·rw [if_pos h,if_pos (by omega),Int.add_zero]
   ·rw [if_neg h,if_neg (by omega)];rfl
theorem A9t {us us':List B7} {x:Int} (h:Off us us' x) (j:Nat):∀ k,k≤us.length→F8 (us'.take k) j≤F8 (us.take k) j
 | 0,_=>Int.le_refl _
 | k+1,hk=>by
  have ih:=A9t h j k (by omega)
  have hl:=h.len
  rw [U9 (by omega),U9 (by omega),h.line k]
  have:=(h.net k).2
  split<;>omega
theorem B4V (f:Nat→Int) (t:Nat) (x:Int):∀ n,A6 ((List.range n).map fun j=>if t=j then f j+x else f j)=A6 ((List.range n).map f)+if t<n then x else 0
 | 0=>by rw [if_neg (by omega)];rfl
 | n+1=>by
  rw [N1,N1,B4V f t x n]
  by_cases e:t=n
  ·rw [if_pos e,if_neg (by omega),if_pos (by omega)];omega
  ·rw [if_neg e]
   by_cases h:t<n
   ·rw [if_pos h,if_pos (by omega)];omega
   ·rw [if_neg h,if_neg (by omega)];omega
theorem B0o:∀ n,A6 ((List.range n).map fun _=>(0:Int))=0
 | 0=>rfl
 | n+1=>by rw [N1,B0o n];rfl
theorem A6X {us:List B7} {n:Nat} (h:∀ k,k<us.length→(gU us k).line.toNat<n):∀ k,k≤us.length→A6 ((List.range n).map (F8 (us.take k)))=A6 (E1 (us.take k))
 | 0,_=>B0o n
 | k+1,hk=>by
  have ih:=A6X h k (by omega)
  have e1:(F8 (us.take (k+1)))=fun j=>if (gU us k).line.toNat=j then F8 (us.take k) j+(gU us k).net else F8 (us.take k) j:=funext fun j=>U9 (by omega) j
  rw [e1,B4V,ih,if_pos (h k (by omega)),L2 (by omega)]
  unfold E1
  rw [List.map_append,G5]
  show _+(gU us k).net=_+A6 [(gU us k).net]
  rw [N6];show _=_+((gU us k).net+0);omega
structure A6B (r:F9) (codes:List E0) (l:List F5) (Pr:A4v) (xs ys:List (Int×Int)):Prop where
 deals:Pr.deals=C0w r.promos (xs++ys)
 mem:∀ a∈xs++ys,(0≤a.1∧a.1.toNat<r.promos.length)∧X3 codes (D9 r.promos a.1)=true∧1≤a.2
 sx:(xs.map Prod.fst).Sublist (P2 r.promos codes)
 sy:(ys.map Prod.fst).Sublist (P2 r.promos codes)
 kx:∀ a∈xs,(D9 r.promos a.1).kind≠7
 ky:∀ a∈ys,(D9 r.promos a.1).kind=7
 apart:(A9m r.promos (xs++ys)).Pairwise fun x y=>(y.toList==x.toList)=false
 sum:Pr.net+A6 (xs.map Prod.snd)=I2 l
 len:Pr.nets.length=l.length
 nets:A6 Pr.nets=Pr.net
 each:∀ i,i<l.length→0≤gI Pr.nets i∧gI Pr.nets i≤(l.getD i default).qty * (l.getD i default).price
 ship:0≤Pr.ship∧Pr.ship≤r.ship.fee
 shipSum:Pr.ship+A6 (ys.map Prod.snd)=A0a r.ship (R8 l).length Pr.net
theorem B2B {l:List B2} {codes:List E0} {i:Nat} {x:Int} (h:x∈places l codes i):X3 codes (D9 l x)=true:=by
 unfold places at h
 obtain ⟨k,hk,rfl⟩:=List.mem_map.1 h
 exact (List.mem_filter.1 hk).2
theorem B1u {r:F9} {codes:List E0} {l:List F5} (hf:V6 r) (hck:D4 r codes l=0):∃ xs ys,A6B r codes l (S1 r l (P2 r.promos codes) (P2 r.promos codes)) xs ys:=by
 have ck:=A8D hck
 have hok:=ck.lines
 have hu:=B3f hok
 obtain ⟨u1,u2,u3⟩:=A1A l hok.line l.length (Nat.le_refl _)
 rw [List.take_length] at u1 u2
 have hitl:(D1 r.items l).length=l.length:=List.length_map ..
 have hpl:∀ x∈P2 r.promos codes,(0≤x∧x.toNat<r.promos.length)∧X3 codes (D9 r.promos x)=true:=fun x hx=>by
  have:=(W5 r.promos codes).mem_iff.1 hx
  exact ⟨T9 this,B2B this⟩
 have hlt:∀ x∈P2 r.promos codes,x.toNat<r.promos.length:=fun x hx=>(hpl x hx).1.2
 obtain ⟨xs,a1,a2,a3,a4⟩:=B7x (B9A (items:=D1 r.items l) (us0:=R8 l) hf.fit ck.promo) hlt (a:=⟨R8 l,[],[]⟩) (Tr.start r.promos (R8 l)) ⟨hu,Off.refl hu.ok⟩
 rw [List.nil_append] at a1
 rw [Int.zero_add] at a4
 have hfee:0≤A0a r.ship (R8 l).length (K8 (p1B r l (P2 r.promos codes)))∧A0a r.ship (R8 l).length (K8 (p1B r l (P2 r.promos codes)))≤r.ship.fee:=by
  unfold A0a;have:=ck.fee;split<;>omega
 obtain ⟨ys,b1,b2,b3⟩:=B7x (B8F (net:=K8 (p1B r l (P2 r.promos codes))) (fee:=r.ship.fee) (fee0:=A0a r.ship (R8 l).length (K8 (p1B r l (P2 r.promos codes)))) ck.promo) hlt (a:=(p1B r l (P2 r.promos codes),A0a r.ship (R8 l).length (K8 (p1B r l (P2 r.promos codes))))) (s:=0) a1 ⟨hfee.1,hfee.2,Int.add_zero _⟩
 rw [Int.zero_add] at b3
 have a2':∀ a∈xs,a.1∈P2 r.promos codes∧Q7 (D9 r.promos a.1)=true:=fun a ha=>List.mem_filter.1 (a2.subset (List.mem_map.2 ⟨a,ha,rfl⟩))
 have b2':∀ a∈ys,a.1∈P2 r.promos codes∧X7 (D9 r.promos a.1)=true:=fun a ha=>List.mem_filter.1 (b2.subset (List.mem_map.2 ⟨a,ha,rfl⟩))
 have hus:A5J (D1 r.items l) (p1B r l (P2 r.promos codes)).us:=a3
 have hlen:=a4.len
 have hln:∀ k,k<(p1B r l (P2 r.promos codes)).us.length→(gU (p1B r l (P2 r.promos codes)).us k).line.toNat<l.length:=fun k hk=>by
  have:=(hus.line _ (B5 hk)).2
  rw [hitl] at this;exact this
 have hsm:=A6X hln _ (Nat.le_refl _)
 rw [List.take_length] at hsm
 refine ⟨xs,ys,b1.deals,fun a ha=>?_,a2.trans List.filter_sublist,b2.trans List.filter_sublist,fun a ha=>by simpa [Q7] using (a2' a ha).2,fun a ha=>by simpa [X7] using (b2' a ha).2,by rw [←b1.groups];exact b1.apart,?_,?_,hsm,fun i hi=>?_,⟨b3.1,b3.2.1⟩,b3.2.2⟩
 ·have hp:=b1.pos a ha
  rcases List.mem_append.1 ha with h | h
  ·exact ⟨(hpl _ (a2' a h).1).1,(hpl _ (a2' a h).1).2,hp⟩
  ·exact ⟨(hpl _ (b2' a h).1).1,(hpl _ (b2' a h).1).2,hp⟩
 ·have:=a4.sum
  show A6 (E1 (p1B r l (P2 r.promos codes)).us)+_=_
  exact this.trans u2
 ·show ((List.range l.length).map _).length=_
  rw [List.length_map,List.length_range]
 ·have e:gI (S1 r l (P2 r.promos codes) (P2 r.promos codes)).nets i=F8 (p1B r l (P2 r.promos codes)).us i:=by
   show gI ((List.range l.length).map (F8 (p1B r l (P2 r.promos codes)).us)) i=_
   unfold gI
   rw [List.getD_eq_getElem?_getD,List.getElem?_map,List.getElem?_range hi];rfl
  rw [e]
  have h1:=(A0h hus.ok (p1B r l (P2 r.promos codes)).us.length i).1
  rw [List.take_length] at h1
  have h2:=A9t a4 i _ (Nat.le_refl _)
  rw [List.take_length,List.take_of_length_le (Nat.le_of_eq hlen)] at h2
  have h3:=B5L l (fun x hx=>((Z1 _).1 (hok.line x hx)).1.1) i l.length (Nat.le_refl _)
  rw [if_pos hi] at h3
  have h2':F8 (p1B r l (P2 r.promos codes)).us i≤F8 (G3 l l.length) i:=h2
  exact ⟨h1,by omega⟩
theorem A8n {xs:List (Int×Int)} (h:∀ a∈xs,1≤a.2) (hs:A6 (xs.map Prod.snd)≤0):xs=[]:=by
 cases xs with
 | nil=>rfl
 | cons a xs =>
  have h1:=h a (List.mem_cons_self ..)
  have h2:0≤A6 (xs.map Prod.snd):=D0 fun x hx=>by
   obtain ⟨b,hb,rfl⟩:=List.mem_map.1 hx
   have:=h b (List.mem_cons_of_mem _ hb);omega
  rw [List.map_cons,N6] at hs;omega
theorem A6B.nothing {r:F9} {codes:List E0} {l:List F5} {Pr:A4v} {xs ys:List (Int×Int)} (h:A6B r codes l Pr xs ys) (hq:∀ x∈l,x.qty=0) (hu:(R8 l).length=0) (hg:I2 l=0) :
  Pr.deals=[]∧Pr.ship=0∧(∀ x∈Pr.nets,x=0):=by
 have h0:∀ x∈Pr.nets,x=0:=fun x hx=>by
  obtain ⟨i,hi,rfl⟩:=F2 hx
  have hi':i<l.length:=by rw [←h.len];exact hi
  have h1:=h.each i hi'
  rw [hq _ (B5 hi'),Int.zero_mul] at h1
  show gI Pr.nets i=0
  omega
 have hn:0≤Pr.net:=by rw [←h.nets];exact D0 fun x hx=>by rw [h0 x hx];exact Int.le_refl _
 have hx:xs=[]:=A8n (fun a ha=>(h.mem a (List.mem_append_left _ ha)).2.2) (by have:=h.sum;omega)
 have hsh:=h.shipSum
 have hfee:A0a r.ship (R8 l).length Pr.net=0:=by unfold A0a;rw [if_pos (.inl (by omega))]
 have hy:ys=[]:=A8n (fun a ha=>(h.mem a (List.mem_append_right _ ha)).2.2) (by have:=h.ship;omega)
 subst hx hy
 refine ⟨by rw [h.deals];rfl,?_,h0⟩
 rw [hfee] at hsh
 have:Pr.ship+0=0:=hsh
 omega
end Go.Proofs.YtbajhapmlfbelaaGreat
namespace Go.Proofs.YtbajhapmlfbelaaGreat
open Go Go.Ab
attribute [local irreducible] upd del
structure A3B (R:F9) (C:List E0) (L:List F5):Prop where
 right:J0 R=true
 fit:V6 R
 sm:A0l R
 codes:R9 C=true
 ncodes:C.length≤3
 scodes:∀ s∈C,s.size≤12
 lines:A3c L
 check:D4 R C L=0
 few:R.promos.length≤6
 items:R.items.length≤8
 known:∀ n,known R.items (A0X n)=true
 fee:0≤R.ship.fee∧R.ship.fee≤1000000000
theorem C4x (r:F9) (codes:List E0) (l:List F5):A3B (U0 r) (W7 codes) (A0C l):=by
 have hc:=B2D codes
 have hl:=B2E l
 have hr:=A8z r
 have hn:=A0T r.promos
 have hck:D4 (U0 r) (W7 codes) (A0C l)=0:=by
  unfold D4
  rw [if_neg (by rw [hr];simp),if_neg (by rw [hc.1];simp)]
  exact hl.check (A9r r.items)
 exact ⟨hr,B0L r,B2G r,hc.1,hc.2.1,hc.2.2,hl,hck,by show (K2 r.promos).length≤6;omega,by show (N3 r.items).length≤8;rw [A2V];omega,A9r r.items,(A8D hck).fee⟩
theorem A3B.promosC {R:F9} {C:List E0} {L:List F5} (h:A3B R C L):promosC R.promos=true:=by
 have:=h.right
 unfold J0 at this
 simp only [Bool.and_eq_true] at this
 exact this.1.1.1.2
def A6l (R:F9) (C:List E0) (L:List F5):A4v:=S1 R L (P2 R.promos C) (P2 R.promos C)
theorem C0D {R:F9} {C:List E0} {L:List F5} (hck:D4 R C L=0) (hf:V6 R) (hC:Go.Proofs.YtbajhapmlfbelaaGreat.promosC R.promos=true) (hn:R.promos.length≤6) (hi:R.items.length≤8) (hc:C.length≤3) (st:St) :
  S P 18 [I8 R,D6 C,B1 3 F7 L] st fun v s=>v=.tuple [X1 (A6l R C L),eI 0]∧s=st :=
 (price_S A7p R C L hf (by show C.length≤9223372036854775807;omega) (by omega) (by have:=P3 R.promos C R.promos.length;omega) st).mono fun v s ⟨hv,hs⟩=>by
  refine ⟨?_,hs⟩
  rcases hv with ⟨h1,_⟩ | ⟨_,o1,o2,h1,h2,h3⟩
  ·exact absurd hck h1
  ·rw [A4U hC h1,A4U hC h2] at h3;exact h3
theorem A3B.price_S {R:F9} {C:List E0} {L:List F5} (h:A3B R C L) (st:St) :
  S P 18 [I8 R,D6 C,B1 3 F7 L] st fun v s=>v=.tuple [X1 (A6l R C L),eI 0]∧s=st :=
 C0D h.check h.fit h.promosC h.few h.items h.ncodes st
theorem A3B.law {R:F9} {C:List E0} {L:List F5} (h:A3B R C L):∃ xs ys,A6B R C L (A6l R C L) xs ys:=B1u h.fit h.check
structure C3S (L:List F5) (Pr:A4v) (g fee:Int):Prop where
 len:Pr.nets.length=L.length
 at':∀ i,i<L.length→0≤gI Pr.nets i∧gI Pr.nets i≤(L.getD i default).qty * (L.getD i default).price
 sum:A6 Pr.nets=Pr.net
 net:0≤Pr.net∧Pr.net≤g
 ship:0≤Pr.ship∧Pr.ship≤fee
theorem A3B.nets {R:F9} {C:List E0} {L:List F5} (h:A3B R C L):C3S L (A6l R C L) (I2 L) R.ship.fee:=by
 obtain ⟨xs,ys,hl⟩:=h.law
 have h0:∀ x∈(A6l R C L).nets,0≤x:=fun x hx=>by
  obtain ⟨i,hi,rfl⟩:=F2 hx
  exact (hl.each i (by rw [←hl.len];exact hi)).1
 have hx:0≤A6 (xs.map Prod.snd):=D0 fun x hx=>by
  obtain ⟨a,ha,rfl⟩:=List.mem_map.1 hx
  have:=(hl.mem a (List.mem_append_left _ ha)).2.2
  omega
 have hs:=hl.sum
 have hn:=hl.nets
 have:=D0 h0
 exact ⟨hl.len,hl.each,hl.nets,by omega,hl.ship⟩
theorem B4.pre {a b:List AV} {s t:St} (h:B4 a s b t):∀ l:List AV,B4 (l++a) s (l++b) t
 | []=>h
 | x::l=>B4.cons (B4.keep [x] s) (B4.pre h l)
abbrev B2m (l:List Q0):Nat→AV:=fun k=>O6 (l.getD k default)
theorem ROut.put {ty e n b:Nat} {fo:Nat→AV} {s t:St} {sv:AV} {y:Q3} (h:ROut F3 ty e fo n (upd s b y) sv t) (y':Q3):ROut F3 ty e fo n (upd s b y') sv (upd t b y'):=by
 have:=ROut.write (y':=y') C8 h (A0 ..)
 rwa [B8] at this
theorem A9J {l:List Q0} (h:l.length=0):N4 l=[⟨⟨[],[]⟩,2⟩]:=if_pos h
theorem A9K {l:List Q0} (h:l.length≠0):N4 l=(l.take 3).map W0:=if_neg h
theorem C2I {l:List Q0} {i:Nat} (hi:i<min l.length 3):((l.take 3).map W0).getD i default=W0 (l.getD i default):=by
 rw [List.getD_eq_getElem?_getD,List.getElem?_map,List.getElem?_take_of_lt (by omega),List.getElem?_eq_getElem (by omega),List.getD_eq_getElem?_getD,List.getElem?_eq_getElem (by omega)];rfl
set_option maxHeartbeats 80000000 in
theorem B4m (p:B2) (id:Int) (st:St):S P 143 [B9 p,eI id] st fun v st'=>v=B9 (A1k p id)∧st'=st:=by
 refine S.post (post:=fun v s=>(∃ W,v=.agg W∧F3 st s∧E3 W (cellsOf (B9 (A1k p id))))∨∃ (pre:List AV) (sv fin:AV) (base:St),v=.agg (pre++[sv,fin])∧B4 [sv] s [B1 3 O6 (N4 p.parts)] base∧F3 st base∧E3 (pre++[B1 3 O6 (N4 p.parts),fin]) (cellsOf (B9 (A1k p id)))) ?_ (fun v s h=>⟨_,st,⟨rfl,rfl⟩,by
   rcases h with ⟨W,h1,h3,h4⟩ | ⟨pre,sv,fin,base,h1,h2,h3,h4⟩
   ·rw [h1];exact (Le.shift (Le.agg h4) _).trans (h3.shift _)
   ·rw [h1]
    refine (B4.agg (B4.pre (B4.cons h2 (B4.keep [fin] _)) pre)).trans ?_
    exact (Le.shift (Le.agg h4) _).trans (h3.shift _)⟩)
 have hScope:=fun s=>B4t p.scope s
 obtain ⟨SC,hSC⟩:∃ SC,SC=O3 p.scope:=⟨_,rfl⟩
 rw [←hSC] at hScope
 have hId:=fun s=>C8D id s
 obtain ⟨I,hI⟩:∃ I,I=idN id:=⟨_,rfl⟩
 rw [←hI] at hId
 have hPr:=fun s=>A0P p.prio 5 (by decide) (by decide) s
 obtain ⟨PR,hPR⟩:∃ PR,PR=C6 p.prio 5:=⟨_,rfl⟩
 rw [←hPR] at hPr
 have hKd:=fun s=>A0P (IntKind.i64.wrap (p.kind - 1)) 7 (by decide) (by decide) s
 have hkm:=E7 (IntKind.i64.wrap (p.kind - 1)) (n:=7) (by decide)
 have hkw:IntKind.i64.wrap (1+C6 (IntKind.i64.wrap (p.kind - 1)) 7)=A2u p:=A8 (by omega) (by omega)
 have hK:=A4R p
 have hP:A1k p id=M8 p id (A2u p):=rfl
 rw [hP]
 generalize A2u p=K at hK hkw ⊢
 clear hP
 generalize C6 (IntKind.i64.wrap (p.kind - 1)) 7=KD at hKd hkw
 obtain ⟨G,hG⟩:∃ G,G=A1j p:=⟨_,rfl⟩
 obtain ⟨C,hC⟩:∃ C,C=A2t p:=⟨_,rfl⟩
 obtain ⟨L,hL⟩:∃ L,L=A2f p:=⟨_,rfl⟩
 have wr:IntKind.i64.wrap (1+C6 p.rate 10000)=1+C6 p.rate 10000:=by have:=E7 p.rate (n:=10000) (by decide);exact A8 (by omega) (by omega)
 have wa:IntKind.i64.wrap (1+C6 p.amount 900)=1+C6 p.amount 900:=by have:=E7 p.amount (n:=900) (by decide);exact A8 (by omega) (by omega)
 have wb:IntKind.i64.wrap (1+C6 p.buy 3)=1+C6 p.buy 3:=by have:=E7 p.buy (n:=3) (by decide);exact A8 (by omega) (by omega)
 have wg:IntKind.i64.wrap (1+C6 p.get 2)=1+C6 p.get 2:=by have:=E7 p.get (n:=2) (by decide);exact A8 (by omega) (by omega)
 have hT5:=fun s=>A8j p.tiers 5000 (by decide) (by decide) s
 obtain ⟨TS,hTS⟩:∃ TS,TS=N5 p.tiers 5000:=⟨_,rfl⟩
 rw [←hTS] at hT5
 have hT6:=fun s=>A8j p.tiers 5 (by decide) (by decide) s
 obtain ⟨TU,hTU⟩:∃ TU,TU=N5 p.tiers 5:=⟨_,rfl⟩
 rw [←hTU] at hT6
 have hA3:=fun s=>M0 p.amount 3000 (by decide) (by decide) s
 obtain ⟨A3,hA⟩:∃ A3,A3=C6 p.amount 3000:=⟨_,rfl⟩
 rw [←hA] at hA3
 refine A7 [2] C0 mixed Tryz.func143 (by rfl) rfl rfl rfl ?_;conv=>whnf
 intro b4 hb4;conv=>whnf
 refine ⟨[16,17],[1,3,5,8,9,11,13,14],List.range 18,by kernel_rfl,?_⟩;conv=>whnf
 refine ⟨_,fun s _=>D2 (hId s),?_⟩;conv=>whnf
 refine ⟨_,fun s _=>⟨rfl,rfl⟩,?_⟩;conv=>whnf
 refine ⟨_,fun s _=>D2 (hKd s),?_⟩;conv=>whnf
 refine ⟨_,fun s _=>⟨rfl,rfl⟩,?_⟩;conv=>whnf
 refine ⟨_,fun s _=>D2 (hPr s),?_⟩;conv=>whnf
 refine ⟨_,fun s _=>⟨rfl,rfl⟩,?_⟩;conv=>whnf
 refine ⟨_,fun s _=>⟨rfl,rfl⟩,?_⟩;conv=>whnf
 refine ⟨_,fun s _=>D2 (hScope s),?_⟩;conv=>whnf
 intro b5 hb5
 have hne:b4≠b5:=fun e=>by subst e;rw [A0] at hb5;cases hb5
 conv=>whnf
 refine J7 (A0 ..) rfl (by omega) rfl (by rfl) ?_
 rw [B8,hkw]
 have hst:∀ Y:Q3,F3 st (upd (upd st b4 ⟨71,15,1,fun _=>K6 r71.zero⟩) b5 Y):=fun Y=>((F3.refl st).upd hb4).upd hb5
 conv=>whnf
 refine B3 (A9I _ _) ?_;conv=>whnf
 refine B3 (A0P _ 3 (by decide) (by decide) _) ?_;conv=>whnf
 cases hg:(C6 (A2M p.group) 3==1)
 case' true =>
  have hgv:(⟨#[103]⟩:E0)++B0S ([]++[IntKind.u8.wrap (48+IntKind.u8.wrap (C6 p.group.size 2))])=G:=by rw [hG,B1G];exact (if_pos (by simpa using hg)).symm
  conv=>whnf
  refine B3 (A0P _ 2 (by decide) (by decide) _) ?_;conv=>whnf
  rw [hgv]
  refine J7 (A0 ..) rfl (by omega) (A5 ..) (by rfl) ?_
  rw [B8]
 case' false =>
  have hG0:(⟨#[]⟩:E0)=G:=by rw [hG];exact (if_neg (by simpa using hg)).symm
 all_goals
  conv=>whnf
  refine B3 (A9I _ _) ?_;conv=>whnf
  refine B3 (A0P _ 3 (by decide) (by decide) _) ?_;conv=>whnf
  cases hcd:(C6 (A2M p.code) 3==1)
  case' true =>
   have hcv:A4c p.code.size=C:=by rw [hC];exact (if_pos (by simpa using hcd)).symm
   conv=>whnf
   refine B3 (B9K _ _) ?_;conv=>whnf
   rw [hcv]
   refine J7 (A0 ..) rfl (by omega) (A5 ..) (by rfl) ?_
   rw [B8]
  case' false =>
   have hC0:(⟨#[]⟩:E0)=C:=by rw [hC];exact (if_neg (by simpa using hcd)).symm
  all_goals
   conv=>whnf
   refine B3 (M0 _ 3 (by decide) (by decide) _) ?_;conv=>whnf
   cases hl:(C6 p.least 3==1)
   case' true =>
    have hlv:C6 p.least 9000=L:=by rw [hL];exact (if_pos (by simpa using hl)).symm
    conv=>whnf
    refine B3 (M0 _ 9000 (by decide) (by decide) _) ?_;conv=>whnf
    rw [hlv]
    refine J7 (A0 ..) rfl (by omega) (A5 ..) (by rfl) ?_
    rw [B8]
   case' false =>
    have hL0:(0:Int)=L:=by rw [hL];exact (if_neg (by simpa using hl)).symm
   all_goals
    conv=>whnf
    refine E9 (A0 ..) rfl (by omega) (A5 ..) ?_
    rcases (show K=1∨K=2∨K=3∨K=4∨K=5∨K=6∨K=7 by omega) with rfl | rfl | rfl | rfl | rfl | rfl | rfl
    ·rw [show cellsOf (B9 (M8 p id 1))=[eS (I),eI 1,eI (PR),eS (G),eS (C),eB p.closes,D6 (SC).skus,D6 (SC).cats,eI (L),eI (1+C6 p.rate 10000),eI 0,eI 0,eI 0,B1 3 O6 [],B1 3 L7 []] from by rw [hI,hPR,hG,hC,hL,hSC];rfl]
     (try subst hG0);(try subst hC0);(try subst hL0)
     conv=>whnf
     refine B3 (M0 _ 10000 (by decide) (by decide) _) ?_;conv=>whnf
     rw [wr]
     refine J7 (A0 ..) rfl (by omega) (A5 ..) (by rfl) ?_
     rw [B8];conv=>whnf
     refine E9 (A0 ..) rfl (by omega) (A5 ..) ?_;conv=>whnf
     refine J7 (by rw [A9 hne];exact A0 ..) rfl (by omega) rfl (by rfl) ?_;conv=>whnf
     refine E9 (A0 ..) rfl (by omega) (A5 ..) ?_;conv=>whnf
     exact .inl ⟨_,rfl,(hst _).over hb4,E3.cons (Le.refl _) (E3.cons (Le.refl _) (E3.cons (Le.refl _) (E3.cons (Le.refl _) (E3.cons (Le.refl _) (E3.cons (Le.refl _) (E3.cons (Le.refl _) (E3.cons (Le.refl _) (E3.cons (Le.refl _) (E3.cons (Le.refl _) (E3.cons (Le.refl _) (E3.cons (Le.refl _) (E3.cons (Le.refl _) (E3.cons (Le.emp _ _) (E3.cons (Le.emp _ _) (E3.nil)))))))))))))))⟩
    ·rw [show cellsOf (B9 (M8 p id 2))=[eS (I),eI 2,eI (PR),eS (G),eS (C),eB p.closes,D6 (SC).skus,D6 (SC).cats,eI (L),eI 0,eI (1+C6 p.amount 900),eI 0,eI 0,B1 3 O6 [],B1 3 L7 []] from by rw [hI,hPR,hG,hC,hL,hSC];rfl]
     (try subst hG0);(try subst hC0);(try subst hL0)
     conv=>whnf
     refine B3 (M0 _ 900 (by decide) (by decide) _) ?_;conv=>whnf
     rw [wa]
     refine J7 (A0 ..) rfl (by omega) (A5 ..) (by rfl) ?_
     rw [B8];conv=>whnf
     refine E9 (A0 ..) rfl (by omega) (A5 ..) ?_;conv=>whnf
     refine J7 (by rw [A9 hne];exact A0 ..) rfl (by omega) rfl (by rfl) ?_;conv=>whnf
     refine E9 (A0 ..) rfl (by omega) (A5 ..) ?_;conv=>whnf
     exact .inl ⟨_,rfl,(hst _).over hb4,E3.cons (Le.refl _) (E3.cons (Le.refl _) (E3.cons (Le.refl _) (E3.cons (Le.refl _) (E3.cons (Le.refl _) (E3.cons (Le.refl _) (E3.cons (Le.refl _) (E3.cons (Le.refl _) (E3.cons (Le.refl _) (E3.cons (Le.refl _) (E3.cons (Le.refl _) (E3.cons (Le.refl _) (E3.cons (Le.refl _) (E3.cons (Le.emp _ _) (E3.cons (Le.emp _ _) (E3.nil)))))))))))))))⟩
    ·rw [show cellsOf (B9 (M8 p id 3))=[eS (I),eI 3,eI (PR),eS (G),eS (C),eB p.closes,D6 (SC).skus,D6 (SC).cats,eI (L),eI (1+C6 p.rate 10000),eI 0,eI (1+C6 p.buy 3),eI (1+C6 p.get 2),B1 3 O6 [],B1 3 L7 []] from by rw [hI,hPR,hG,hC,hL,hSC];rfl]
     (try subst hG0);(try subst hC0);(try subst hL0)
     conv=>whnf
     refine ⟨[13,15,17],[],List.range 18,by kernel_rfl,?_⟩;conv=>whnf
     refine ⟨_,D2 (M0 _ 10000 (by decide) (by decide) _),?_⟩;conv=>whnf
     rw [wr]
     refine ⟨_,D2 (A0P _ 3 (by decide) (by decide) _),?_⟩;conv=>whnf
     rw [wb]
     refine ⟨_,D2 (A0P _ 2 (by decide) (by decide) _),?_⟩;conv=>whnf
     rw [wg]
     refine J7 (A0 ..) rfl (by omega) (A5 ..) (by rfl) ?_
     rw [B8];conv=>whnf
     refine J7 (A0 ..) rfl (by omega) (A5 ..) (by rfl) ?_
     rw [B8];conv=>whnf
     refine J7 (A0 ..) rfl (by omega) (A5 ..) (by rfl) ?_
     rw [B8];conv=>whnf
     refine E9 (A0 ..) rfl (by omega) (A5 ..) ?_;conv=>whnf
     refine J7 (by rw [A9 hne];exact A0 ..) rfl (by omega) rfl (by rfl) ?_;conv=>whnf
     refine E9 (A0 ..) rfl (by omega) (A5 ..) ?_;conv=>whnf
     exact .inl ⟨_,rfl,(hst _).over hb4,E3.cons (Le.refl _) (E3.cons (Le.refl _) (E3.cons (Le.refl _) (E3.cons (Le.refl _) (E3.cons (Le.refl _) (E3.cons (Le.refl _) (E3.cons (Le.refl _) (E3.cons (Le.refl _) (E3.cons (Le.refl _) (E3.cons (Le.refl _) (E3.cons (Le.refl _) (E3.cons (Le.refl _) (E3.cons (Le.refl _) (E3.cons (Le.emp _ _) (E3.cons (Le.emp _ _) (E3.nil)))))))))))))))⟩
    ·rw [show cellsOf (B9 (M8 p id 4))=[eS (I),eI 4,eI (PR),eS (G),eS (C),eB p.closes,D6 [],D6 [],eI (L),eI 0,eI (A3),eI 0,eI 0,B1 3 O6 (N4 p.parts),B1 3 L7 []] from by rw [hI,hPR,hG,hC,hL,hA];rfl];conv=>whnf
     refine B3 (hA3 _) ?_;conv=>whnf
     refine J7 (A0 ..) rfl (by omega) (A5 ..) (by rfl) ?_
     rw [B8];conv=>whnf
     refine J7 (A0 ..) rfl (by omega) (A5 ..) (by rfl) ?_
     rw [B8];conv=>whnf
     refine lp (min p.parts.length 3) [2,4,5,6] (fun i vs s=>∃ sv f,vs=[.fptr (B9 p) 0,.optr 15 b4 0 0,.optr 15 b5 0 0,eI i]∧f 0=.agg ([eS I,eI 4,eI PR,eS G,eS C,eB p.closes,.emp,.emp,eI L,eI 0,eI A3,eI 0,eI 0]++[sv,.emp])∧ROut F3 237 3 (B2m ((p.parts.take 3).map W0)) i (upd (upd st b4 ⟨71,15,1,fun _=>K6 r71.zero⟩) b5 ⟨71,15,1,f⟩) sv s) ?_ ?_
     ·conv=>whnf
      exact ⟨.emp,_,rfl,by (try rw [←hG0]);(try rw [←hC0]);(try rw [←hL0]);first | rfl | (rw [A5];rfl),ROut.start (F3.refl _) _ _ _⟩
     ·rintro i vs s hi ⟨sv,f,rfl,hf,hR⟩
      have hsup:=ROut.sup C8 hR
      have at5:s b5=some ⟨71,15,1,f⟩:=hsup b5 _ (A0 ..)
      have at4:s b4=some ⟨71,15,1,fun _=>K6 r71.zero⟩:=hsup b4 _ (by rw [A9 hne];exact A0 ..)
      have n5:st b5=none:=by rw [A9 (Ne.symm hne)] at hb5;exact hb5
      conv=>whnf
      refine C4 (fun h1=>?_) (fun h1=>?_)<;>rw [h1]<;>simp only [decide_eq_true_eq,decide_eq_false_iff_not] at h1
      case' refine_1 =>
       conv=>whnf
       refine C4 (fun h2=>?_) (fun h2=>?_)<;>rw [h2]<;>simp only [decide_eq_true_eq,decide_eq_false_iff_not] at h2
      case refine_1.refine_1 =>
       have hi':i<min p.parts.length 3:=by omega
       have hsc2:=fun s=>B4t (p.parts.getD (i:Int).toNat default).scope s
       have hpa:=C2I hi'
       have hm2:=E7 (p.parts.getD (i:Int).toNat default).count (n:=2) (by decide)
       have wc:IntKind.i64.wrap (1+C6 (p.parts.getD (i:Int).toNat default).count 2)=1+C6 (p.parts.getD (i:Int).toNat default).count 2:=A8 (by omega) (by omega)
       have hpp:O6 (W0 (p.parts.getD i default))=.agg [D6 (O3 (p.parts.getD (i:Int).toNat default).scope).skus,D6 (O3 (p.parts.getD (i:Int).toNat default).scope).cats,eI (1+C6 (p.parts.getD (i:Int).toNat default).count 2)]:=rfl
       generalize O3 (p.parts.getD (i:Int).toNat default).scope=S2 at hsc2 hpp
       rcases ROut.head hR with rfl | ⟨bp,rfl⟩
       all_goals
        conv=>whnf
        refine ⟨[19,21],[15],List.range 22,by kernel_rfl,?_⟩;conv=>whnf
        refine E9 at5 rfl (by omega) hf ?_;conv=>whnf
        refine ⟨rfl,⟨by omega,by omega⟩,?_⟩;conv=>whnf
        refine ⟨_,D2 (hsc2 _),?_⟩;conv=>whnf
        refine ⟨rfl,⟨by omega,by omega⟩,?_⟩;conv=>whnf
        refine ⟨_,fun s _=>D2 (A0P _ 2 (by decide) (by decide) s),?_⟩;conv=>whnf
        rw [wc]
        refine ⟨_,⟨rfl,rfl⟩,?_⟩;conv=>whnf
        refine ROut.app (q:=C2O) C8 rfl rfl rfl rfl rfl (f:=B2m ((p.parts.take 3).map W0)) (by show _=O6 _;rw [hpa,hpp];rfl) (by show (i+1) * 56≤140737488355328;omega) hR (fun sv' t2 hR2=>?_)
        have at5':t2 b5=some ⟨71,15,1,f⟩:=ROut.sup C8 hR2 b5 _ (A0 ..)
        rcases ROut.head hR2 with rfl | ⟨bp',rfl⟩
        all_goals
         conv=>whnf
         refine J7 at5' rfl (by omega) hf (by rfl) ?_;conv=>whnf
         refine ⟨rfl,?_⟩;conv=>whnf
         exact nx hi' ⟨_,_,by rw [C2 (by omega)],(by rw [A5];rfl),ROut.put hR2 _⟩
      all_goals
       have hie:i=min p.parts.length 3:=by omega
       obtain ⟨s0,hcol,hss⟩:=hR
       rcases hcol with ⟨h0,rfl,rfl⟩ | ⟨h0,bp,g,hbp,rfl,rfl,hgg⟩
       ·have hPP:=A9J (l:=p.parts) (by omega)
        subst h0
        rw [hPP];conv=>whnf
        refine E9 at5 rfl (by omega) hf ?_;conv=>whnf
        refine J7 at5 rfl (by omega) hf (by rfl) ?_;conv=>whnf
        refine E9 (A0 ..) rfl (by omega) (A5 ..) ?_;conv=>whnf
        refine J7 (by rw [A9 hne];exact at4) rfl (by omega) rfl (by rfl) ?_;conv=>whnf
        refine E9 (A0 ..) rfl (by omega) (A5 ..) ?_;conv=>whnf
        exact .inl ⟨_,rfl,((((F3.refl st).upd hb4).upd hb5).trans hss |>.over n5).over hb4,E3.cons (Le.refl _) (E3.cons (Le.refl _) (E3.cons (Le.refl _) (E3.cons (Le.refl _) (E3.cons (Le.refl _) (E3.cons (Le.refl _) (E3.cons (Le.emp _ _) (E3.cons (Le.emp _ _) (E3.cons (Le.refl _) (E3.cons (Le.refl _) (E3.cons (Le.refl _) (E3.cons (Le.refl _) (E3.cons (Le.refl _) (E3.cons (Le.arr1 (E3.cons (Le.emp _ _) (E3.cons (Le.emp _ _) (E3.cons (Le.refl _) E3.nil))) rfl) (E3.cons (Le.emp _ _) (E3.nil)))))))))))))))⟩
       ·have hPP:=A9K (l:=p.parts) (by omega)
        have hAP:B1 3 O6 (N4 p.parts)=.arr 3 i (B2m ((p.parts.take 3).map W0)):=by unfold B1;rw [hPP,show ((p.parts.take 3).map W0).length=i by rw [List.length_map,List.length_take];omega]
        have hR3:ROut F3 237 3 (B2m ((p.parts.take 3).map W0)) i (upd (upd st b4 ⟨71,15,1,fun _=>K6 r71.zero⟩) b5 ⟨71,15,1,f⟩) (.own 3 bp 0 i) s:=⟨_,.inr ⟨h0,bp,g,hbp,rfl,rfl,hgg⟩,hss⟩
        conv=>whnf
        refine E9 at5 rfl (by omega) hf ?_;conv=>whnf
        rw [show ((i:Int)==0)=false by rw [beq_eq_false_iff_ne];omega];conv=>whnf
        refine E9 at5 rfl (by omega) hf ?_;conv=>whnf
        refine J7 at4 rfl (by omega) rfl (by rfl) ?_;conv=>whnf
        refine E9 (A0 ..) rfl (by omega) (A5 ..) ?_;conv=>whnf
        obtain ⟨base,hsh,hsb⟩:=ROut.shift C8 (ROut.write C8 hR3 (b:=b4) (by rw [A9 hne];exact A0 ..))
        refine .inr ⟨[eS I,eI 4,eI PR,eS G,eS C,eB p.closes,.emp,.emp,eI L,eI 0,eI A3,eI 0,eI 0],.own 3 bp 0 i,.emp,base,rfl,by rw [hAP];exact hsh,((((F3.refl st).upd hb4).upd hb5).over hb4).trans hsb,E3.cons (Le.refl _) (E3.cons (Le.refl _) (E3.cons (Le.refl _) (E3.cons (Le.refl _) (E3.cons (Le.refl _) (E3.cons (Le.refl _) (E3.cons (Le.emp _ _) (E3.cons (Le.emp _ _) (E3.cons (Le.refl _) (E3.cons (Le.refl _) (E3.cons (Le.refl _) (E3.cons (Le.refl _) (E3.cons (Le.refl _) (E3.cons (Le.refl _) (E3.cons (Le.emp _ _) (E3.nil)))))))))))))))⟩
    ·rw [show cellsOf (B9 (M8 p id 5))=[eS (I),eI 5,eI (PR),eS (G),eS (C),eB p.closes,D6 (SC).skus,D6 (SC).cats,eI (L),eI 0,eI 0,eI 0,eI 0,B1 3 O6 [],B1 3 L7 (TS)] from by rw [hI,hPR,hG,hC,hL,hSC,hTS];rfl]
     (try subst hG0);(try subst hC0);(try subst hL0)
     conv=>whnf
     refine B3 (hT5 _) ?_;conv=>whnf
     refine J7 (A0 ..) rfl (by omega) (A5 ..) (by rfl) ?_
     rw [B8];conv=>whnf
     refine E9 (A0 ..) rfl (by omega) (A5 ..) ?_;conv=>whnf
     refine J7 (by rw [A9 hne];exact A0 ..) rfl (by omega) rfl (by rfl) ?_;conv=>whnf
     refine E9 (A0 ..) rfl (by omega) (A5 ..) ?_;conv=>whnf
     exact .inl ⟨_,rfl,(hst _).over hb4,E3.cons (Le.refl _) (E3.cons (Le.refl _) (E3.cons (Le.refl _) (E3.cons (Le.refl _) (E3.cons (Le.refl _) (E3.cons (Le.refl _) (E3.cons (Le.refl _) (E3.cons (Le.refl _) (E3.cons (Le.refl _) (E3.cons (Le.refl _) (E3.cons (Le.refl _) (E3.cons (Le.refl _) (E3.cons (Le.refl _) (E3.cons (Le.emp _ _) (E3.cons (Le.refl _) (E3.nil)))))))))))))))⟩
    ·rw [show cellsOf (B9 (M8 p id 6))=[eS (I),eI 6,eI (PR),eS (G),eS (C),eB p.closes,D6 (SC).skus,D6 (SC).cats,eI (L),eI 0,eI 0,eI 0,eI 0,B1 3 O6 [],B1 3 L7 (TU)] from by rw [hI,hPR,hG,hC,hL,hSC,hTU];rfl]
     (try subst hG0);(try subst hC0);(try subst hL0)
     conv=>whnf
     refine B3 (hT6 _) ?_;conv=>whnf
     refine J7 (A0 ..) rfl (by omega) (A5 ..) (by rfl) ?_
     rw [B8];conv=>whnf
     refine E9 (A0 ..) rfl (by omega) (A5 ..) ?_;conv=>whnf
     refine J7 (by rw [A9 hne];exact A0 ..) rfl (by omega) rfl (by rfl) ?_;conv=>whnf
     refine E9 (A0 ..) rfl (by omega) (A5 ..) ?_;conv=>whnf
     exact .inl ⟨_,rfl,(hst _).over hb4,E3.cons (Le.refl _) (E3.cons (Le.refl _) (E3.cons (Le.refl _) (E3.cons (Le.refl _) (E3.cons (Le.refl _) (E3.cons (Le.refl _) (E3.cons (Le.refl _) (E3.cons (Le.refl _) (E3.cons (Le.refl _) (E3.cons (Le.refl _) (E3.cons (Le.refl _) (E3.cons (Le.refl _) (E3.cons (Le.refl _) (E3.cons (Le.emp _ _) (E3.cons (Le.refl _) (E3.nil)))))))))))))))⟩
    ·rw [show cellsOf (B9 (M8 p id 7))=[eS (I),eI 7,eI (PR),eS (G),eS (C),eB false,D6 [],D6 [],eI (L),eI (1+C6 p.rate 10000),eI 0,eI 0,eI 0,B1 3 O6 [],B1 3 L7 []] from by rw [hI,hPR,hG,hC,hL];rfl]
     (try subst hG0);(try subst hC0);(try subst hL0)
     conv=>whnf
     refine B3 (M0 _ 10000 (by decide) (by decide) _) ?_;conv=>whnf
     rw [wr]
     refine J7 (A0 ..) rfl (by omega) (A5 ..) (by rfl) ?_
     rw [B8];conv=>whnf
     refine J7 (A0 ..) rfl (by omega) (A5 ..) (by rfl) ?_
     rw [B8];conv=>whnf
     refine J7 (A0 ..) rfl (by omega) (A5 ..) (by rfl) ?_
     rw [B8];conv=>whnf
     refine E9 (A0 ..) rfl (by omega) (A5 ..) ?_;conv=>whnf
     refine J7 (by rw [A9 hne];exact A0 ..) rfl (by omega) rfl (by rfl) ?_;conv=>whnf
     refine E9 (A0 ..) rfl (by omega) (A5 ..) ?_;conv=>whnf
     exact .inl ⟨_,rfl,(hst _).over hb4,E3.cons (Le.refl _) (E3.cons (Le.refl _) (E3.cons (Le.refl _) (E3.cons (Le.refl _) (E3.cons (Le.refl _) (E3.cons (Le.refl _) (E3.cons (Le.emp _ _) (E3.cons (Le.emp _ _) (E3.cons (Le.refl _) (E3.cons (Le.refl _) (E3.cons (Le.refl _) (E3.cons (Le.refl _) (E3.cons (Le.refl _) (E3.cons (Le.emp _ _) (E3.cons (Le.emp _ _) (E3.nil)))))))))))))))⟩
theorem C2t (i:Nat) (h:i<6):Int.tmod (IntKind.i64.wrap (IntKind.i64.wrap ((i:Int) * 7)+3)) 10=B7Z i:=by
 rw [A8 (x:=(i:Int) * 7) (by omega) (by omega),A8 (by omega) (by omega),Int.tmod_eq_emod_of_nonneg (by omega)];rfl
theorem B2F (l:List B2) (st:St):S P 67 [B1 15 B9 l] st fun v st'=>v=B1 15 B9 (K2 l)∧st'=st:=by
 refine Z8 (ty:=71) ?_
 have hat:∀ i,i<6→U4 l i=A1k (l.getD (i:Int).toNat default) (Int.tmod (IntKind.i64.wrap (IntKind.i64.wrap ((i:Int) * 7)+3)) 10):=fun i hi=>by rw [C2t i hi];rfl
 have hPl:K2 l=(List.range (min l.length 6)).map (U4 l):=rfl
 rw [hPl]
 have hnext:=A4J (U4 l)
 have hS:=fun i=>B4m (l.getD (i:Nat) default)
 generalize U4 l=F at hat hnext ⊢
 refine A7 [] C0 mixed Tryz.func67 (by rfl) rfl rfl rfl ?_;conv=>whnf
 refine lp (min l.length 6) [0,3,4] (fun i vs s=>∃ sv,vs=[B1 15 B9 l,sv,eI i]∧G4 71 15 B9 ((List.range i).map F) st sv s) ?_ ?_
 ·conv=>whnf
  exact ⟨.emp,rfl,G4.start _ _ _ _⟩
 ·rintro i vs s hi ⟨sv,rfl,hc⟩
  have hfin:i=min l.length 6→G4 71 15 B9 ((List.range (min l.length 6)).map F) st sv s:=fun e=>by rw [←e];exact hc
  have hlen:((List.range i).map F).length=i:=by rw [List.length_map,List.length_range]
  conv=>whnf
  refine C4 (fun h1=>?_) (fun h1=>?_)<;>rw [h1]<;>simp only [decide_eq_true_eq,decide_eq_false_iff_not] at h1
  ·conv=>whnf
   refine C4 (fun h2=>?_) (fun h2=>?_)<;>rw [h2]<;>simp only [decide_eq_true_eq,decide_eq_false_iff_not] at h2
   ·have hi':i<min l.length 6:=by omega
    have hF:=hat i (by omega)
    conv=>whnf
    refine ⟨rfl,⟨by omega,by omega⟩,?_⟩;conv=>whnf
    refine B3 (hS (i:Int).toNat _ _) ?_
    generalize hid:Int.tmod (IntKind.i64.wrap (IntKind.i64.wrap ((i:Int) * 7)+3)) 10=ID at hF
    generalize A1k (l.getD (i:Int).toNat default) ID=Y at hF
    conv=>whnf
    refine G4.app (y:=Y) (q:=r71) rfl rfl rfl rfl rfl (by rfl) (by rw [hlen];show (i+1) * 208≤140737488355328;omega) hc (fun sv' t' hc'=>?_);conv=>whnf
    refine ⟨rfl,?_⟩;conv=>whnf
    refine nx hi' ⟨sv',by rw [C2 (by omega)],?_⟩
    rw [hnext,hF];exact hc'
   ·conv=>whnf
    exact hfin (by omega)
  ·conv=>whnf
   exact hfin (by omega)
set_option maxHeartbeats 8000000 in
theorem B4n (r:F9) (st:St):S P 15 [I8 r] st fun v st'=>v=I8 (U0 r)∧st'=st:=by
 have hE:I8 (U0 r)=.agg [B1 4 E5 (N3 r.items),B1 15 B9 (K2 r.promos),eB (K4 r.tax).incl,eB (K4 r.tax).byOrder,eI (K4 r.tax).round,B1 4 S8 (K4 r.tax).zones,eI (C6 r.ship.fee 900),eI (C6 r.ship.free 3 * 4000),
  eI (20+C6 r.policy.window 60),eI (C6 r.policy.grace 40),eI (1+C6 r.policy.mode 3),eI (C6 r.policy.restock 3 * C6 r.policy.restock 2500),B6 (K0 r.policy.order),B6 (K0 r.policy.credit)]:=rfl
 rw [hE]
 clear hE
 have h1:=E7 r.ship.fee (n:=900) (by decide)
 have h2:=E7 r.ship.free (n:=3) (by decide)
 have h3:=E7 r.policy.window (n:=60) (by decide)
 have h5:=E7 r.policy.mode (n:=3) (by decide)
 have h6:=E7 r.policy.restock (n:=3) (by decide)
 have h7:=E7 r.policy.restock (n:=2500) (by decide)
 have h8:C6 r.policy.restock 3 * C6 r.policy.restock 2500≤2 * 2499:=Int.mul_le_mul (by omega) (by omega) (by omega) (by omega)
 have h9:0≤C6 r.policy.restock 3 * C6 r.policy.restock 2500:=Int.mul_nonneg h6.1 h7.1
 have w1:IntKind.i64.wrap (C6 r.ship.free 3 * 4000)=C6 r.ship.free 3 * 4000:=A8 (by omega) (by omega)
 have w2:IntKind.i64.wrap (20+C6 r.policy.window 60)=20+C6 r.policy.window 60:=A8 (by omega) (by omega)
 have w3:IntKind.i64.wrap (1+C6 r.policy.mode 3)=1+C6 r.policy.mode 3:=A8 (by omega) (by omega)
 have w4:IntKind.i64.wrap (C6 r.policy.restock 3 * C6 r.policy.restock 2500)=C6 r.policy.restock 3 * C6 r.policy.restock 2500:=A8 (by omega) (by omega)
 have m1:=fun s=>M0 r.ship.fee 900 (by decide) (by decide) s
 have m2:=fun s=>M0 r.ship.free 3 (by decide) (by decide) s
 have m3:=fun s=>A0P r.policy.window 60 (by decide) (by decide) s
 have m4:=fun s=>A0P r.policy.grace 40 (by decide) (by decide) s
 have m5:=fun s=>A0P r.policy.mode 3 (by decide) (by decide) s
 have m6:=fun s=>M0 r.policy.restock 3 (by decide) (by decide) s
 have m7:=fun s=>M0 r.policy.restock 2500 (by decide) (by decide) s
 have c1:=fun s=>B4k r.items s
 have c2:=fun s=>B2F r.promos s
 have c3:∀ s,S P 68 [B0I r.tax] s fun v st'=>v=.agg [eB (K4 r.tax).incl,eB (K4 r.tax).byOrder,eI (K4 r.tax).round,B1 4 S8 (K4 r.tax).zones]∧st'=s:=fun s=>B8s r.tax s
 have c4:=fun s=>A8i r.policy.order s
 have c5:=fun s=>A8i r.policy.credit s
 clear h1 h2 h3 h5 h6 h7 h8 h9
 generalize C6 r.ship.fee 900=M1 at *
 generalize C6 r.ship.free 3=M2 at *
 generalize C6 r.policy.window 60=M3 at *
 generalize C6 r.policy.grace 40=M4 at *
 generalize C6 r.policy.mode 3=M5 at *
 generalize C6 r.policy.restock 3=M6 at *
 generalize C6 r.policy.restock 2500=M7 at *
 generalize N3 r.items=V1 at *
 generalize K2 r.promos=V2 at *
 generalize K4 r.tax=V3 at *
 generalize K0 r.policy.order=V4 at *
 generalize K0 r.policy.credit=V5 at *
 refine A2E ?_
 refine A7 [1,3] C0 mixed Tryz.func15 (by rfl) rfl rfl rfl ?_;conv=>whnf
 intro b2 hb;conv=>whnf
 refine ⟨[45],[],List.range 46,by kernel_rfl,?_⟩;conv=>whnf
 refine ⟨_,D2 (c1 _),?_⟩;conv=>whnf
 refine ⟨_,D2 (c2 _),?_⟩;conv=>whnf
 refine ⟨_,D2 (c3 _),?_⟩;conv=>whnf
 refine ⟨_,D2 (m1 _),?_⟩;conv=>whnf
 refine ⟨_,D2 (m2 _),?_⟩;conv=>whnf
 rw [w1]
 refine ⟨_,D2 (m3 _),?_⟩;conv=>whnf
 rw [w2]
 refine ⟨_,D2 (m4 _),?_⟩;conv=>whnf
 refine ⟨_,D2 (m5 _),?_⟩;conv=>whnf
 rw [w3]
 refine ⟨_,D2 (m6 _),?_⟩;conv=>whnf
 refine ⟨_,D2 (m7 _),?_⟩;conv=>whnf
 rw [w4]
 refine ⟨_,D2 (c4 _),?_⟩;conv=>whnf
 refine ⟨_,D2 (c5 _),?_⟩;conv=>whnf
 refine J7 (A0 ..) rfl (by omega) rfl (by rfl) ?_;conv=>whnf
 refine E9 (A0 ..) rfl (by omega) (A5 ..) ?_;conv=>whnf
 exact ⟨rfl,((F3.refl st).upd hb).over hb⟩
end Go.Proofs.YtbajhapmlfbelaaGreat
namespace Go.Proofs.YtbajhapmlfbelaaGreat
open Go Go.Ab
theorem B1v {p:B2} (h:G2 p=true):p.parts.length≤3∧p.tiers.length≤6:=by
 unfold G2 at h
 simp only [Bool.and_eq_true,decide_eq_true_eq] at h
 obtain ⟨⟨⟨⟨hk1,hk2⟩,hh⟩,hp⟩,hkd⟩:=h
 unfold A4L at hp
 unfold A4K A3R V0 at hkd
 simp only [Bool.and_eq_true,Bool.or_eq_true,beq_iff_eq] at hp
 rcases (by omega:p.kind=1∨p.kind=2∨p.kind=3∨p.kind=4∨p.kind=5∨p.kind=6∨p.kind=7) with h | h | h | h | h | h | h
 all_goals (rw [h] at hkd;simp only [h] at hp;simp only [Int.reduceEq,if_true,if_false,Bool.and_eq_true,Bool.not_eq_true',Bool.or_eq_false_iff,decide_eq_false_iff_not] at hkd)
 all_goals (simp only [Int.reduceEq,false_or,true_or,or_true,or_false,and_true,true_and] at hp;omega)
theorem A8l {r:F9} (h:J0 r=true) (ho:r.policy.order.length≤100000) (hc:r.policy.credit.length≤100000):A4w r:=by
 unfold J0 at h
 simp only [Bool.and_eq_true] at h
 obtain ⟨⟨⟨⟨h1,h2⟩,h3⟩,h4⟩,h5⟩:=h
 have hp:=A2v h2
 unfold A0q at h1
 unfold A6u J1 at h3
 simp only [Bool.and_eq_true,Bool.not_eq_true',Bool.or_eq_false_iff,decide_eq_false_iff_not,List.all_eq_true,List.mem_range] at h1 h3
 refine ⟨by omega,by have:=hp.few;omega,fun p hm=>?_,fun p hm=>?_,fun p hm x hx=>?_,fun p hm=>?_,by omega,fun z hz=>?_,ho,hc⟩
 ·have:=A0U (hp.right p hm);exact ⟨by have:=this.skus;omega,by have:=this.cats;omega⟩
 ·have:=B1v (hp.right p hm);omega
 ·have hC:=hp.right p hm
  have hK:=A0U hC
  have h4:p.kind=4:=by
   unfold G2 at hC
   simp only [Bool.and_eq_true] at hC
   have hpl:=hC.1.2
   unfold A4L at hpl
   simp only [Bool.and_eq_true,Bool.or_eq_true,beq_iff_eq] at hpl
   have:p.parts.length≠0:=by intro e;rw [List.length_eq_zero_iff.1 e] at hx;cases hx
   omega
  have:=(hK.bun h4).2 x hx
  exact ⟨by omega,by omega⟩
 ·have:=B1v (hp.right p hm);omega
 ·obtain ⟨k,hk,rfl⟩:=F2 hz
  have:=h3.2.1 k hk
  unfold Z5 at this
  simp only [Bool.and_eq_true,Bool.not_eq_true',Bool.or_eq_false_iff,decide_eq_false_iff_not] at this
  omega
end Go.Proofs.YtbajhapmlfbelaaGreat
namespace Go.Proofs.YtbajhapmlfbelaaGreat
open Go Go.Ab
attribute [local irreducible] upd del
def akR:F9:=⟨[⟨⟨#[97]⟩,⟨#[120]⟩,15,false⟩],[],C8J,⟨0,0⟩,⟨0,0,1,0,[],[]⟩⟩
def akX:F5:=⟨⟨#[97]⟩,2,15⟩
theorem B9t:V6 akR:=by
 refine ⟨by decide,fun p hp=>?_,by decide,by decide⟩
 cases hp
theorem B9v:J0 akR=true:=by kernel_rfl
theorem B9s:R9 []=true:=by kernel_rfl
theorem B9w:A2z (Q9 akR []) 0 akX=0:=by kernel_rfl
theorem B9r:D4 akR [] [akX]=0:=by kernel_rfl
theorem B9u:S1 akR [akX] [] []=⟨[30],30,0,[]⟩:=by kernel_rfl
theorem C3Z:A4w akR:=by
 refine ⟨by decide,by decide,fun p hp=>?_,fun p hp=>?_,fun p hp=>?_,fun p hp=>?_,by decide,fun z hz=>?_,by decide,by decide⟩
 all_goals first | (cases hp) | (cases hz)
theorem B7G (st:St):S P 18 [I8 akR,D6 [],B1 3 F7 [akX]] st fun v st'=>v=.tuple [X1 ⟨[30],30,0,[]⟩,eI 0]∧st'=st :=
 (price_S A7p akR [] [akX] B9t (by decide) (by decide) (by decide) st).mono fun v s hv=>by
  obtain ⟨hv,rfl⟩:=hv
  refine ⟨?_,rfl⟩
  rcases hv with ⟨h,_⟩ | ⟨_,o1,o2,h1,h2,h3⟩
  ·exact absurd B9r h
  ·have e1:L8 akR.promos o1=[]:=List.perm_nil.1 ((A7T [] o1).trans h1.1)
   have e2:L8 akR.promos o2=[]:=List.perm_nil.1 ((A7T [] o2).trans h2.1)
   rw [e1,e2,B9u] at h3
   exact h3
theorem B1c (st:St):S P 22 [] st fun v st'=>v=.bool true∧st'=st:=by
 refine A2E ?_
 refine A7 [1] C0 mixed Tryz.func22 (by rfl) rfl rfl rfl ?_;conv=>whnf
 have hnew:=B1i A7p akR [] B9t (by decide) (by decide) (fun _=>C3Z) st
 refine I7 ?_ (call hnew (fun v u hv=>?_))
 ·refine B4.cons (Le.shift (Le.agg ?_) _) (Le.shift (Le.emp _ _) _)
  repeat' first | exact E3.nil | refine E3.cons ?_ ?_ | exact Le.refl _ | exact Le.emp _ _ | refine Le.arr1 ?_ rfl
 rcases hv with ⟨h,_⟩ | ⟨_,h,_⟩ | ⟨_,_,bd,rfl,hD⟩
 ·rw [B9v] at h;cases h
 ·rw [B9s] at h;cases h
 have hok:B1K (Q9 akR []):=B9Q [] (by kernel_rfl) (by decide)
 have hset:=B7R bd (Q9 akR []) 0 akX hok st u hD
 rw [B9w] at hset
 have e:B6j (Q9 akR []) 0 akX=A4X (Q9 akR []) 0 akX:=if_pos B9w
 rw [e] at hset;conv=>whnf
 refine call hset (fun v u2 hv=>?_)
 obtain ⟨rfl,hD2⟩:=hv
 conv=>whnf
 refine B3 (B2i bd _ ⟨[30],30,0,[]⟩ 0 (fun u=>B7G u) st u2 hD2) ?_;conv=>whnf
 refine B3 (B3J bd _ (by decide) st u2 hD2) ?_;conv=>whnf
 exact ⟨rfl,(A6c ..).sup hD2⟩
theorem B6a (r:F9) (codes:List E0) (l:List F5) (hn:r.promos.length<9223372036854775807) (hsm:A0l r) (hR:J0 r=false) (st:St) :
  S P 19 [I8 r,D6 codes,B1 3 F7 l] st fun v st'=>v=.tuple [X1 ⟨[],0,0,[]⟩,eI 10]∧st'=st:=by
 refine S.post (post:=fun v st'=>v=.tuple [.agg [.emp,eI 0,eI 0,.emp],eI 10]∧F3 st st') ?_ (fun v st' ⟨hv,hs⟩=>by
  subst hv
  refine ⟨_,st,⟨rfl,rfl⟩,?_⟩
  refine (hs.shift _).trans (B4.tuple (B4.cons (B4.agg ?_) (B4.keep _ _)) rfl)
  exact B4.cons (I6 1 _) (B4.cons (B4.keep [eI 0] _) (B4.cons (B4.keep [eI 0] _) (I6 2 _))))
 have n1:=fun s=>B4y r hn hsm s
 rw [hR] at n1
 refine A7 [3,15,20] C0 mixed Tryz.func19 (by rfl) rfl rfl rfl ?_;conv=>whnf
 intro b6 hb6;conv=>whnf
 refine B3 (n1 _) ?_
 have h6s:∀ x:Q3,F3 st (upd st b6 x):=fun x=>(F3.refl st).upd hb6
 conv=>whnf
 refine J7 (A0 ..) rfl (by omega) rfl (by rfl) ?_;conv=>whnf
 refine E9 (A0 ..) rfl (by omega) (A5 ..) ?_;conv=>whnf
 exact ⟨rfl,(h6s _).over hb6⟩
theorem B4w (r:F9) (codes:List E0) (l:List F5) (hf:V6 r) (hsm:A0l r) (hn:r.promos.length<9223372036854775807) (hcn:Sm codes.length) (hcs:∀ s∈codes,Sm s.size) (hln:Sm l.length) (st:St) :
  S P 19 [I8 r,D6 codes,B1 3 F7 l] st fun v st' =>
   v=(if D4 r codes l=0 then .tuple [X1 (S1 r l (P2 r.promos codes) (P2 r.promos codes)),eI 0] else .tuple [X1 ⟨[],0,0,[]⟩,eI (D4 r codes l)])∧st'=st:=by
 cases hR:J0 r
 ·have hp:D4 r codes l=10:=if_pos hR
  rw [hp,if_neg (by decide)]
  exact B6a r codes l hn hsm hR st
 ·exact C0N r codes l hf hsm hR hcn hcs hln st
def xch (f:Nat→Int) (x y n k:Nat):Int:=if x≤k∧k<x+n then f (k - x+y) else if y≤k∧k<y+n then f (k - y+x) else f k
def A2x (f:Nat→Int) (a m e k:Nat):Int:=if k<a then f k else if k<a+(e - m) then f (k+(m - a)) else if k<e then f (k - (e - m)) else f k
theorem C0T {f g:Nat→Int} {m i j:Nat} (him:i≤m) (hij:j<i) (hg:∀ k,g k=xch f (m - i) m j k) (k:Nat):A2x g (m - i+j) m (m+j) k=A2x f (m - i) m (m+j) k:=by
 unfold A2x
 simp only [hg,xch]
 repeat' split
 all_goals first | (exfalso;omega) | (congr 1<;>omega)
theorem B8C {f g:Nat→Int} {m i j:Nat} (him:i≤m) (hij:i<j) (hg:∀ k,g k=xch f (m - i) (m+j - i) i k) (k:Nat):A2x g (m - i) m (m+j - i) k=A2x f (m - i) m (m+j) k:=by
 unfold A2x
 simp only [hg,xch]
 repeat' split
 all_goals first | (exfalso;omega) | (congr 1<;>omega)
theorem C0U {f g:Nat→Int} {m i:Nat} (him:i≤m) (hg:∀ k,g k=xch f (m - i) m i k) (k:Nat):g k=A2x f (m - i) m (m+i) k:=by
 unfold A2x
 simp only [hg,xch]
 repeat' split
 all_goals first | (exfalso;omega) | (congr 1<;>omega)
theorem B4C {f:Nat→Int} {s m t:Nat} (h:s=m∨m=t) (h1:s≤m) (h2:m≤t) (k:Nat):A2x f s m t k=f k:=by
 unfold A2x
 repeat' split
 all_goals first | rfl | (exfalso;omega) | (congr 1<;>omega)
structure Mid (lt:Int→Int→Bool) (f:Nat→Int) (s0 s r r0 p:Nat):Prop where
 le:s0≤s∧s≤r∧r≤r0
 lo:∀ c,s0≤c→c<s→lt (f (p - c)) (f c)=false
 hi:∀ c,r≤c→c<r0→lt (f (p - c)) (f c)=true
theorem Mid.low {lt:Int→Int→Bool} (ho:Ord lt) {f:Nat→Int} {s0 s r r0 p a m e c:Nat} (h:Mid lt f s0 s r r0 p) (hc:s≤c∧c<r) (ha:a≤s0) (hm:r0≤m) (hp:∀ k,s0≤k→k<r0→m≤p - k∧p - k<e∧k≤p)
  (hl:∀ x y,a≤x→x<y→y<m→lt (f y) (f x)=false) (hr:∀ x y,m≤x→x<y→y<e→lt (f y) (f x)=false) (hn:lt (f (p - c)) (f c)=false):Mid lt f s0 (c+1) r r0 p:=by
 obtain ⟨h1,h2,h3⟩:=h.le
 refine ⟨⟨by omega,by omega,h3⟩,fun k hk hkc=>?_,h.hi⟩
 by_cases e1:k=c
 ·subst e1;exact hn
 ·have g1:=hl k c (by omega) (by omega) (by omega)
  obtain ⟨q1,q2,q3⟩:=hp c (by omega) (by omega)
  obtain ⟨u1,u2,u3⟩:=hp k (by omega) (by omega)
  have g2:=hr (p - c) (p - k) (by omega) (by omega) (by omega)
  exact ho.le _ _ _ (ho.le _ _ _ g1 hn) g2
theorem Mid.high {lt:Int→Int→Bool} (ho:Ord lt) {f:Nat→Int} {s0 s r r0 p a m e c:Nat} (h:Mid lt f s0 s r r0 p) (hc:s≤c∧c<r) (ha:a≤s0) (hm:r0≤m) (hp:∀ k,s0≤k→k<r0→m≤p - k∧p - k<e∧k≤p)
  (hl:∀ x y,a≤x→x<y→y<m→lt (f y) (f x)=false) (hr:∀ x y,m≤x→x<y→y<e→lt (f y) (f x)=false) (hn:lt (f (p - c)) (f c)=true):Mid lt f s0 s c r0 p:=by
 obtain ⟨h1,h2,h3⟩:=h.le
 refine ⟨⟨h1,by omega,by omega⟩,h.lo,fun k hk hkr=>?_⟩
 by_cases e1:k=c
 ·subst e1;exact hn
 ·have g1:=hl c k (by omega) (by omega) (by omega)
  obtain ⟨q1,q2,q3⟩:=hp c (by omega) (by omega)
  obtain ⟨u1,u2,u3⟩:=hp k (by omega) (by omega)
  have g2:=hr (p - k) (p - c) (by omega) (by omega) (by omega)
  cases hb:lt (f (p - k)) (f k) with
  | true=>rfl
  | false=>rw [ho.le _ _ _ (ho.le _ _ _ g1 hb) g2] at hn;cases hn
structure Cut (lt:Int→Int→Bool) (f:Nat→Int) (a s mid t e:Nat):Prop where
 le:a≤s∧s≤mid∧mid≤t∧t≤e
 r1:∀ x y,a≤x→x<y→y<s→lt (f y) (f x)=false
 r2:∀ x y,s≤x→x<y→y<mid→lt (f y) (f x)=false
 r3:∀ x y,mid≤x→x<y→y<t→lt (f y) (f x)=false
 r4:∀ x y,t≤x→x<y→y<e→lt (f y) (f x)=false
 cross:∀ x y,a≤x→x<mid→mid≤y→y<e→lt (f y) (f x)=false
theorem C4e {lt:Int→Int→Bool} (ho:Ord lt) {f g:Nat→Int} {a m e mid n s0 r0 s t:Nat} (ham:a<m) (hme:m<e) (hmid:mid=(a+e) / 2) (hn:n=mid+m)
  (h0:s0=if mid<m then n - e else a) (hr0:r0=if mid<m then mid else m) (hM:Mid lt f s0 s s r0 (n - 1)) (ht:t=n - s) (hg:∀ k,g k=A2x f s m t k)
  (hl:∀ x y,a≤x→x<y→y<m→lt (f y) (f x)=false) (hr:∀ x y,m≤x→x<y→y<e→lt (f y) (f x)=false):Cut lt g a s mid t e:=by
 obtain ⟨h1,-,h3⟩:=hM.le
 have b0:a≤s0∧n - s0≤e∧r0≤m∧r0≤mid∧(s0=a∨n - s0=e)∧(r0=m∨r0=mid):=by split at h0<;>split at hr0<;>omega
 obtain ⟨b1,b2,b3,b4,b5,b6⟩:=b0
 have A1:∀ k,a≤k→k<s→g k=f k:=fun k _ hk=>by rw [hg];unfold A2x;rw [if_pos hk]
 have A2:∀ k,s≤k→k<mid→g k=f (k+(m - s)):=fun k h1 h2=>by rw [hg];unfold A2x;rw [if_neg (by omega),if_pos (by omega)]
 have A3:∀ k,mid≤k→k<t→g k=f (k - (t - m)):=fun k h1 h2=>by rw [hg];unfold A2x;rw [if_neg (by omega),if_neg (by omega),if_pos (by omega)]
 have A4:∀ k,t≤k→k<e→g k=f k:=fun k h1 h2=>by rw [hg];unfold A2x;rw [if_neg (by omega),if_neg (by omega),if_neg (by omega)]
 have lle:∀ x y,a≤x→x≤y→y<m→lt (f y) (f x)=false:=fun x y h1 h2 h3=>by
  by_cases e1:x=y
  ·subst e1;exact ho.irrefl _
  ·exact hl x y h1 (by omega) h3
 have rle:∀ x y,m≤x→x≤y→y<e→lt (f y) (f x)=false:=fun x y h1 h2 h3=>by
  by_cases e1:x=y
  ·subst e1;exact ho.irrefl _
  ·exact hr x y h1 (by omega) h3
 refine ⟨⟨by omega,by omega,by omega,by omega⟩,fun x y h1 h2 h3=>?_,fun x y h1 h2 h3=>?_,fun x y h1 h2 h3=>?_,fun x y h1 h2 h3=>?_,fun x y h1 h2 h3 h4=>?_⟩
 ·rw [A1 x (by omega) (by omega),A1 y (by omega) (by omega)];exact hl x y h1 h2 (by omega)
 ·rw [A2 x (by omega) (by omega),A2 y (by omega) (by omega)];exact hr _ _ (by omega) (by omega) (by omega)
 ·rw [A3 x (by omega) (by omega),A3 y (by omega) (by omega)];exact hl _ _ (by omega) (by omega) (by omega)
 ·rw [A4 x (by omega) (by omega),A4 y (by omega) (by omega)];exact hr x y (by omega) h2 h3
 ·by_cases ex:x<s
  ·rw [A1 x h1 ex]
   by_cases ey:y<t
   ·rw [A3 y h3 ey];exact lle _ _ h1 (by omega) (by omega)
   ·rw [A4 y (by omega) h4]
    have hs:s0<s:=by omega
    have hc:=hM.lo (s - 1) (by omega) (by omega)
    have e1:n - 1 - (s - 1)=t:=by omega
    rw [e1] at hc
    exact ho.le _ _ _ (ho.le _ _ _ (lle x (s - 1) h1 (by omega) (by omega)) hc) (rle t y (by omega) (by omega) h4)
  ·rw [A2 x (by omega) h2]
   by_cases ey:y<t
   ·rw [A3 y h3 ey]
    have hs:s<r0:=by omega
    have hc:=ho.asymm _ _ (hM.hi s (Nat.le_refl _) hs)
    have e1:n - 1 - s=t - 1:=by omega
    rw [e1] at hc
    exact ho.le _ _ _ (ho.le _ _ _ (rle (x+(m - s)) (t - 1) (by omega) (by omega) (by omega)) hc) (lle s _ (by omega) (by omega) (by omega))
   ·rw [A4 y (by omega) h4];exact rle _ _ (by omega) (by omega) h4
structure Q0 (lt:Int→Int→Bool) (f g:Nat→Int) (a e:Nat):Prop where
 srt:∀ x y,a≤x→x<y→y<e→lt (g y) (g x)=false
 out:∀ k,k<a∨e≤k→g k=f k
 frm:∀ k,a≤k→k<e→∃ k',a≤k'∧k'<e∧g k=f k'
theorem Cut.join {lt:Int→Int→Bool} {f g h:Nat→Int} {a s mid t e:Nat} (hc:Cut lt f a s mid t e) (h1:Q0 lt f g a mid) (h2:Q0 lt g h mid e):Q0 lt f h a e:=by
 obtain ⟨l1,l2,l3,l4⟩:=hc.le
 have lo:∀ k,a≤k→k<mid→∃ k',a≤k'∧k'<mid∧h k=f k':=fun k q1 q2=>by rw [h2.out k (.inl q2)];exact h1.frm k q1 q2
 have hi:∀ k,mid≤k→k<e→∃ k',mid≤k'∧k'<e∧h k=f k':=fun k q1 q2=>by
  obtain ⟨k',u1,u2,u3⟩:=h2.frm k q1 q2
  exact ⟨k',u1,u2,u3.trans (h1.out k' (.inr u1))⟩
 refine ⟨fun x y q1 q2 q3=>?_,fun k hk=>?_,fun k q1 q2=>?_⟩
 ·by_cases ey:y<mid
  ·rw [h2.out x (.inl (by omega)),h2.out y (.inl ey)];exact h1.srt x y q1 q2 ey
  ·by_cases ex:x<mid
   ·obtain ⟨x',u1,u2,u3⟩:=lo x q1 ex
    obtain ⟨y',v1,v2,v3⟩:=hi y (by omega) q3
    rw [u3,v3];exact hc.cross x' y' u1 u2 v1 v2
   ·exact h2.srt x y (by omega) q2 q3
 ·rw [h2.out k (by omega),h1.out k (by omega)]
 ·by_cases ek:k<mid
  ·obtain ⟨k',u1,u2,u3⟩:=lo k q1 ek;exact ⟨k',u1,by omega,u3⟩
  ·obtain ⟨k',u1,u2,u3⟩:=hi k (by omega) q2;exact ⟨k',by omega,u2,u3⟩
theorem Q0.refl {lt:Int→Int→Bool} {f:Nat→Int} {a e:Nat} (h:∀ x y,a≤x→x<y→y<e→lt (f y) (f x)=false):Q0 lt f f a e:=⟨h,fun _ _=>rfl,fun k h1 h2=>⟨k,h1,h2,rfl⟩⟩
theorem C0S {f g:Nat→Int} {a s m t e:Nat} (h1:a≤s) (h2:s≤m) (h3:m≤t) (h4:t≤e) (hg:∀ k,g k=A2x f s m t k):(∀ k,k<a∨e≤k→g k=f k)∧∀ k,a≤k→k<e→∃ k',a≤k'∧k'<e∧g k=f k':=by
 refine ⟨fun k hk=>?_,fun k q1 q2=>?_⟩
 ·rw [hg];unfold A2x
  repeat' split
  all_goals first | rfl | (exfalso;omega)
 ·rw [hg];unfold A2x
  repeat' split
  ·exact ⟨k,q1,q2,rfl⟩
  ·exact ⟨_,by omega,by omega,rfl⟩
  ·exact ⟨_,by omega,by omega,rfl⟩
  ·exact ⟨k,q1,q2,rfl⟩
theorem Q0.turned {lt:Int→Int→Bool} {f g h:Nat→Int} {a e:Nat} (ho:∀ k,k<a∨e≤k→g k=f k) (hf:∀ k,a≤k→k<e→∃ k',a≤k'∧k'<e∧g k=f k') (hp:Q0 lt g h a e):Q0 lt f h a e :=
 ⟨hp.srt,fun k hk=>(hp.out k hk).trans (ho k hk),fun k h1 h2=>by
  obtain ⟨k',u1,u2,u3⟩:=hp.frm k h1 h2
  obtain ⟨k2,v1,v2,v3⟩:=hf k' u1 u2
  exact ⟨k2,v1,v2,u3.trans v3⟩⟩
def A9y (f:Nat→Int) (a k q:Nat):Int:=if a≤q∧q<k then f (q+1) else if q=k then f a else f q
def A9x (f:Nat→Int) (m k q:Nat):Int:=if k<q∧q≤m then f (q - 1) else if q=k then f m else f q
theorem C3o {lt:Int→Int→Bool} (ho:Ord lt) {f g:Nat→Int} {a i e:Nat} (hai:a<i) (hie:i≤e) (hr:∀ x y,a+1≤x→x<y→y<e→lt (f y) (f x)=false)
  (hlo:∀ k,a+1≤k→k<i→lt (f k) (f a)=true) (hhi:∀ k,i≤k→k<e→lt (f k) (f a)=false) (hg:∀ q,g q=A9y f a (i - 1) q):Q0 lt f g a e:=by
 refine ⟨fun x y h1 h2 h3=>?_,fun k hk=>?_,fun k h1 h2=>?_⟩
 ·rw [hg,hg];unfold A9y
  repeat' split
  all_goals first | (exfalso;omega) | exact hr _ _ (by omega) (by omega) (by omega) | exact ho.asymm _ _ (hlo _ (by omega) (by omega)) | exact hhi _ (by omega) (by omega) | skip
 ·rw [hg];unfold A9y
  repeat' split
  all_goals first | rfl | (exfalso;omega)
 ·rw [hg];unfold A9y
  repeat' split
  all_goals exact ⟨_,by omega,by omega,rfl⟩
theorem C2i {lt:Int→Int→Bool} (ho:Ord lt) {f g:Nat→Int} {a i m:Nat} (hai:a≤i) (him:i≤m) (hr:∀ x y,a≤x→x<y→y<m→lt (f y) (f x)=false)
  (hlo:∀ k,a≤k→k<i→lt (f m) (f k)=false) (hhi:∀ k,i≤k→k<m→lt (f m) (f k)=true) (hg:∀ q,g q=A9x f m i q):Q0 lt f g a (m+1):=by
 refine ⟨fun x y h1 h2 h3=>?_,fun k hk=>?_,fun k h1 h2=>?_⟩
 ·rw [hg,hg];unfold A9x
  repeat' split
  all_goals first | (exfalso;omega) | exact hr _ _ (by omega) (by omega) (by omega) | exact ho.asymm _ _ (hhi _ (by omega) (by omega)) | exact hlo _ (by omega) (by omega) | skip
 ·rw [hg];unfold A9x
  repeat' split
  all_goals first | rfl | (exfalso;omega)
 ·rw [hg];unfold A9x
  repeat' split
  all_goals exact ⟨_,by omega,by omega,rfl⟩
theorem B3c {l:List Int} {f:Nat→AV} {i j i' j':Nat} (hf:∀ k,k<l.length→f k=eI (gI l k)) (hi:i<l.length) (hj:j<l.length) (ei:i'=i) (ej:j'=j) (k:Nat) (hk:k<(swI l i j).length) :
  G6 (G6 f i' (eI (gI l j))) j' (eI (gI l i)) k=eI (gI (swI l i j) k):=by
 subst ei;subst ej
 rw [A5F] at hk
 rw [A6r hi hj]
 by_cases e1:k=j'
 ·subst e1;rw [if_pos rfl,A5]
 ·rw [if_neg e1,F4 e1]
  by_cases e2:k=i'
  ·subst e2;rw [if_pos rfl,A5]
  ·rw [if_neg e2,F4 e2];exact hf k hk
theorem A5d (b:Nat) (l:List Int) (n x y m:Nat) (fv:AV) (st:St) (hb:A0c st b l) (hn:n≤l.length) (hy:y+m≤n) (hxy:x+m≤y) (hl:l.length<4611686018427387904) :
  S P 349 [.own 1 b 0 n,eI x,eI y,eI m,fv] st fun v st'=>v=.tuple []∧∃ l',l'.Perm l∧(∀ k,gI l' k=xch (gI l) x y m k)∧A0c st' b l'∧∀ c,c≠b→st' c=st c:=by
 refine A7 [] C0 mixed Tryz.func349 (by rfl) rfl rfl rfl ?_;conv=>whnf
 refine ⟨[0,1,2,3,10],fun q vs st'=>∃ (i:Nat) (l':List Int),i≤m∧l'.Perm l∧(∀ k,gI l' k=xch (gI l) x y i k)∧A0c st' b l'∧(∀ c,c≠b→st' c=st c)∧q=m - i∧vs=[.own 1 b 0 n,eI x,eI y,eI m,eI i],?_,?_⟩
 ·conv=>whnf
  exact ⟨_,0,l,Nat.zero_le _,List.Perm.refl _,fun k=>by unfold xch;rw [if_neg (by omega),if_neg (by omega)],hb,fun _ _=>rfl,rfl,rfl⟩
 ·rintro q vs st' ⟨i,l',him,hp,hx,⟨f,hst,hf⟩,hfr,rfl,rfl⟩
  have hlen:l'.length=l.length:=hp.length_eq
  conv=>whnf
  refine C4 (fun h=>?_) (fun h=>?_)<;>rw [h]<;>simp only [decide_eq_true_eq,decide_eq_false_iff_not] at h
  ·have hi:i<m:=by omega
   have w1:IntKind.i64.wrap ((x:Int)+(i:Int))=((x+i:Nat):Int):=by rw [A8 (by omega) (by omega)];omega
   have w2:IntKind.i64.wrap ((y:Int)+(i:Int))=((y+i:Nat):Int):=by rw [A8 (by omega) (by omega)];omega
   have f1:f (0+((x+i:Nat):Int).toNat)=eI (gI l' (x+i)):=by rw [show 0+((x+i:Nat):Int).toNat=x+i by omega];exact hf _ (by omega)
   have f2:f (0+((y+i:Nat):Int).toNat)=eI (gI l' (y+i)):=by rw [show 0+((y+i:Nat):Int).toNat=y+i by omega];exact hf _ (by omega)
   have f3:G6 f (0+((x+i:Nat):Int).toNat) (M9 (eI (gI l' (x+i))) 0 (cellsOf (eI (gI l' (y+i))))) (0+((y+i:Nat):Int).toNat)=eI (gI l' (y+i)):=(F4 (by omega)).trans f2
   conv=>whnf
   refine ⟨[21,23],[],List.range 24,by kernel_rfl,?_⟩;conv=>whnf
   try rw [w1]
   try rw [w2]
   refine ⟨rfl,⟨by omega,by omega⟩,?_⟩;conv=>whnf
   refine E9 hst rfl (by omega) f2 ?_;conv=>whnf
   try rw [w1]
   try rw [w2]
   refine ⟨rfl,⟨by omega,by omega⟩,?_⟩;conv=>whnf
   refine E9 hst rfl (by omega) f1 ?_;conv=>whnf
   try rw [w1]
   try rw [w2]
   refine ⟨rfl,⟨by omega,by omega⟩,?_⟩;conv=>whnf
   refine J7 hst rfl (by omega) f1 (by rfl) ?_;conv=>whnf
   try rw [w1]
   try rw [w2]
   refine ⟨rfl,⟨by omega,by omega⟩,?_⟩;conv=>whnf
   refine J7 (A0 ..) rfl (by omega) f3 (by rfl) ?_;conv=>whnf
   refine ⟨rfl,?_⟩;conv=>whnf
   have h1:x+i<l'.length:=by omega
   have h2:y+i<l'.length:=by omega
   refine ⟨m - (i+1),by omega,i+1,swI l' (x+i) (y+i),by omega,(A7q h1 h2).trans hp,fun k=>?_,⟨_,by rw [A0,A5F];rfl,B3c (i':=0+((x+i:Nat):Int).toNat) (j':=0+((y+i:Nat):Int).toNat) hf h1 h2 (by omega) (by omega)⟩,fun c hc=>by rw [A9 hc,A9 hc];exact hfr c hc,rfl,by rw [C2 (by omega)]⟩
   rw [A6r h1 h2,hx,hx,hx]
   unfold xch
   repeat' split
   all_goals first | (exfalso;omega) | (congr 1<;>omega)
  ·obtain rfl:i=m:=by omega
   conv=>whnf
   exact ⟨rfl,l',hp,hx,⟨f,hst,hf⟩,hfr⟩
theorem C0V (b:Nat) (l:List Int) (n a m e:Nat) (fv:AV) (st:St) (hb:A0c st b l) (ham:a<m) (hme:m<e) (he:e≤n) (hn:n≤l.length) (hl:l.length<4611686018427387904) :
  S P 342 [.own 1 b 0 n,eI a,eI m,eI e,fv] st fun v st'=>v=.tuple []∧∃ l',l'.Perm l∧(∀ k,gI l' k=A2x (gI l) a m e k)∧A0c st' b l'∧∀ c,c≠b→st' c=st c:=by
 refine A7 [] C0 mixed Tryz.func342 (by rfl) rfl rfl rfl ?_
 have w1:IntKind.i64.wrap ((m:Int) - (a:Int))=((m - a:Nat):Int):=by rw [A8 (by omega) (by omega)];omega
 have w2:IntKind.i64.wrap ((e:Int) - (m:Int))=((e - m:Nat):Int):=by rw [A8 (by omega) (by omega)];omega
 conv=>whnf
 rw [w1,w2]
 refine ⟨[0,2,4,10,11],fun q vs st'=>∃ (i j:Nat) (l':List Int),0<i∧0<j∧i≤m - a∧j≤e - m∧l'.Perm l∧(∀ k,A2x (gI l') (m - i) m (m+j) k=A2x (gI l) a m e k)∧A0c st' b l'∧(∀ c,c≠b→st' c=st c)∧q=i+j∧vs=[.own 1 b 0 n,eI m,fv,eI i,eI j],?_,?_⟩
 ·conv=>whnf
  exact ⟨_,m - a,e - m,l,by omega,by omega,Nat.le_refl _,Nat.le_refl _,List.Perm.refl _,fun k=>by rw [show m - (m - a)=a by omega,show m+(e - m)=e by omega],hb,fun _ _=>rfl,rfl,rfl⟩
 ·rintro q vs st' ⟨i,j,l',hi0,hj0,hi,hj,hp,hr,hb',hfr,rfl,rfl⟩
  have hlen:l'.length=l.length:=hp.length_eq
  have w3:IntKind.i64.wrap ((m:Int) - (i:Int))=((m - i:Nat):Int):=by rw [A8 (by omega) (by omega)];omega
  conv=>whnf
  refine C4 (fun h=>?_) (fun h=>?_)<;>rw [h]<;>simp only [bne_iff_ne,ne_eq,Bool.not_eq_true',bne_eq_false_iff_eq,beq_iff_eq,beq_eq_false_iff_ne,Bool.not_eq_false'] at h
  ·conv=>whnf
   refine C4 (fun h2=>?_) (fun h2=>?_)<;>rw [h2]<;>simp only [decide_eq_true_eq,decide_eq_false_iff_not] at h2
   ·have w4:IntKind.i64.wrap ((i:Int) - (j:Int))=((i - j:Nat):Int):=by rw [A8 (by omega) (by omega)];omega
    conv=>whnf
    rw [w3]
    refine call (A5d b l' n (m - i) m j fv _ hb' (by omega) (by omega) (by omega) (by omega)) (fun v st1 hv=>?_)
    obtain ⟨rfl,l2,hp2,hx,hb2,hfr2⟩:=hv
    conv=>whnf
    rw [w4]
    refine ⟨rfl,?_⟩;conv=>whnf
    refine ⟨_,?_,i - j,j,l2,by omega,hj0,by omega,hj,hp2.trans hp,fun k=>?_,hb2,fun c hc=>(hfr2 c hc).trans (hfr c hc),rfl,rfl⟩
    ·omega
    ·rw [←hr k,←C0T (f:=gI l') (by omega) (by omega) hx k,show m - (i - j)=m - i+j by omega]
   ·have w4:IntKind.i64.wrap ((j:Int) - (i:Int))=((j - i:Nat):Int):=by rw [A8 (by omega) (by omega)];omega
    have w5:IntKind.i64.wrap ((m:Int)+(j:Int))=((m+j:Nat):Int):=by rw [A8 (by omega) (by omega)];omega
    have w6:IntKind.i64.wrap (((m+j:Nat):Int) - (i:Int))=((m+j - i:Nat):Int):=by rw [A8 (by omega) (by omega)];omega
    conv=>whnf
    rw [w3,w5,w6]
    refine call (A5d b l' n (m - i) (m+j - i) i fv _ hb' (by omega) (by omega) (by omega) (by omega)) (fun v st1 hv=>?_)
    obtain ⟨rfl,l2,hp2,hx,hb2,hfr2⟩:=hv
    conv=>whnf
    rw [w4]
    refine ⟨rfl,?_⟩;conv=>whnf
    refine ⟨_,?_,i,j - i,l2,hi0,by omega,hi,by omega,hp2.trans hp,fun k=>?_,hb2,fun c hc=>(hfr2 c hc).trans (hfr c hc),rfl,rfl⟩
    ·omega
    ·rw [←hr k,←B8C (f:=gI l') (by omega) (by omega) hx k,show m+(j - i)=m+j - i by omega]
  ·obtain rfl:i=j:=by omega
   conv=>whnf
   rw [w3]
   refine call (A5d b l' n (m - i) m i fv _ hb' (by omega) (by omega) (by omega) (by omega)) (fun v st1 hv=>?_)
   obtain ⟨rfl,l2,hp2,hx,hb2,hfr2⟩:=hv
   conv=>whnf
   exact ⟨rfl,l2,hp2.trans hp,fun k=>by rw [←hr k,C0U (f:=gI l') (by omega) hx k],hb2,fun c hc=>(hfr2 c hc).trans (hfr c hc)⟩
structure C5c (lt:Int→Int→Bool) (b n:Nat) (g:FuncId) (cs:List AV) (cf:Int→Int→Int) (a m e:Nat) (l:List Int) (st:St):Prop where
 am:a<m
 me:m<e
 en:e≤n
 nl:n≤l.length
 big:l.length<4611686018427387904
 has:A0c st b l
 lo:∀ x y,a≤x→x<y→y<m→lt (gI l y) (gI l x)=false
 hi:∀ x y,m≤x→x<y→y<e→lt (gI l y) (gI l x)=false
 g:∀ x∈l,∀ y∈l,∀ st',S P g (eI x::eI y::cs) st' fun v s=>v=eI (cf x y)∧s=st'
def C3V (lt:Int→Int→Bool) (b:Nat) (a e:Nat) (l:List Int) (st:St):AV→St→Prop:=fun v st'=>v=.tuple []∧∃ l',l'.Perm l∧Q0 lt (gI l) (gI l') a e∧A0c st' b l'∧∀ c,c≠b→st' c=st c
set_option maxHeartbeats 8000000 in
theorem B6s (lt:Int→Int→Bool) (b n:Nat) (g:FuncId) (cs:List AV) (cf:Int→Int→Int) (hlt:∀ x y,decide (cf x y<0)=lt x y) (ho:Ord lt):∀ (d a m e:Nat) (l:List Int) (st:St),e - a≤d→C5c lt b n g cs cf a m e l st →
  S P 319 [.own 1 b 0 n,eI a,eI m,eI e,.fn (.func g) [] cs] st (C3V lt b a e l st):=by
 intro d
 induction d with
 | zero=>intro a m e l st hd h;have:=h.am;have:=h.me;omega
 | succ d ih =>
 intro a m e l st hd ⟨ham,hme,hen,hnl,hl,⟨f,hst,hf⟩,hlo,hhi,hg⟩
 have idx:∀ k:Nat,k<l.length→f (0+(k:Int).toNat)=eI (gI l k):=fun k hk=>by rw [show 0+(k:Int).toNat=k by omega];exact hf k hk
 have cal:∀ x y:Nat,x<l.length→y<l.length→∀ s,S P g (eI (gI l x)::eI (gI l y)::cs) s fun v s'=>v=eI (cf (gI l x) (gI l y))∧s'=s:=fun x y hx hy s=>hg _ (B5 hx) _ (B5 hy) s
 have wm:IntKind.i64.wrap ((m:Int) - (a:Int))=((m - a:Nat):Int):=by rw [A8 (by omega) (by omega)];omega
 have we:IntKind.i64.wrap ((e:Int) - (m:Int))=((e - m:Nat):Int):=by rw [A8 (by omega) (by omega)];omega
 have hasSt:A0c st b l:=⟨f,hst,hf⟩
 refine A7 [] C0 mixed Tryz.func319 (by rfl) rfl rfl rfl ?_;conv=>whnf
 rw [wm]
 refine C4 (fun h=>?_) (fun h=>?_)<;>rw [h]<;>simp only [beq_iff_eq,beq_eq_false_iff_ne] at h
 ·-- one ahead
  have hma:m=a+1:=by omega
  subst hma;conv=>whnf
  refine ⟨[0,1,4,10,11],fun q vs st'=>∃ i j:Nat,a+1≤i∧i≤j∧j≤e∧(∀ k,a+1≤k→k<i→lt (gI l k) (gI l a)=true)∧(∀ k,j≤k→k<e→lt (gI l k) (gI l a)=false)∧q=j - i∧vs=[.own 1 b 0 n,eI a,.fn (.func g) [] cs,eI i,eI j]∧st=st',?_,?_⟩
  ·conv=>whnf
   exact ⟨_,a+1,e,Nat.le_refl _,by omega,Nat.le_refl _,fun k h1 h2=>by omega,fun k h1 h2=>by omega,rfl,rfl,rfl⟩
  ·rintro q vs st' ⟨i,j,hi,hij,hj,h1,h2,rfl,rfl,rfl⟩
   conv=>whnf
   refine C4 (fun h=>?_) (fun h=>?_)<;>rw [h]<;>simp only [decide_eq_true_eq,decide_eq_false_iff_not] at h
   ·conv=>whnf
    rw [A6U (i:=i) (j:=j) (by omega) (by omega) (by omega),show ((i:Int)+(j:Int)) / 2=(((i+j) / 2:Nat):Int) by omega]
    generalize hh:(i+j) / 2=c
    refine ⟨[],[],List.range 11,by kernel_rfl,?_⟩;conv=>whnf
    refine ⟨rfl,⟨by omega,by omega⟩,?_⟩;conv=>whnf
    refine E9 hst rfl (by omega) (idx c (by omega)) ?_;conv=>whnf
    refine ⟨rfl,⟨by omega,by omega⟩,?_⟩;conv=>whnf
    refine E9 hst rfl (by omega) (idx a (by omega)) ?_;conv=>whnf
    refine ⟨_,D2 (cal c a (by omega) (by omega) _),?_⟩;conv=>whnf
    rw [hlt]
    refine C4 (fun h3=>?_) (fun h3=>?_)<;>rw [h3]
    ·conv=>whnf
     refine ⟨rfl,?_⟩;conv=>whnf
     refine ⟨j - (c+1),by omega,c+1,j,by omega,by omega,hj,fun k k1 k2=>?_,h2,rfl,by rw [C2 (by omega)],rfl⟩
     cases hk:lt (gI l k) (gI l a) with
     | true=>rfl
     | false =>
      by_cases ek:k=c
      ·subst ek;rw [h3] at hk;cases hk
      ·rw [ho.le _ _ _ hk (hhi k c k1 (by omega) (by omega))] at h3;cases h3
    ·conv=>whnf
     refine ⟨rfl,?_⟩;conv=>whnf
     refine ⟨c - i,by omega,i,c,hi,by omega,by omega,h1,fun k k1 k2=>?_,rfl,rfl,rfl⟩
     by_cases ek:k=c
     ·subst ek;exact h3
     ·exact ho.le _ _ _ h3 (hhi c k (by omega) (by omega) k2)
   ·obtain rfl:i=j:=by omega
    conv=>whnf
    refine ⟨[0,10,13],fun q vs st'=>∃ (k:Nat) (l':List Int),a≤k∧k≤i - 1∧l'.Perm l∧(∀ q,gI l' q=A9y (gI l) a k q)∧A0c st' b l'∧(∀ c,c≠b→st' c=st c)∧q=i - 1 - k∧vs=[.own 1 b 0 n,eI i,eI k],?_,?_⟩
    ·conv=>whnf
     refine ⟨_,a,l,Nat.le_refl _,by omega,List.Perm.refl _,fun q=>?_,hasSt,fun _ _=>rfl,rfl,rfl⟩
     unfold A9y
     rw [if_neg (by omega)]
     split
     ·rename_i hq;subst hq;rfl
     ·rfl
    ·rintro q vs st' ⟨k,l',hak,hki,hp,hm,⟨f',hst',hf'⟩,hfr,rfl,rfl⟩
     have hlen:l'.length=l.length:=hp.length_eq
     have wi:IntKind.i64.wrap ((i:Int) - 1)=((i - 1:Nat):Int):=by rw [A8 (by omega) (by omega)];omega
     conv=>whnf
     rw [wi]
     refine C4 (fun h=>?_) (fun h=>?_)<;>rw [h]<;>simp only [decide_eq_true_eq,decide_eq_false_iff_not] at h
     ·have f1:f' (0+(k:Int).toNat)=eI (gI l' k):=by rw [show 0+(k:Int).toNat=k by omega];exact hf' _ (by omega)
      have f2:f' (0+((k+1:Nat):Int).toNat)=eI (gI l' (k+1)):=by rw [show 0+((k+1:Nat):Int).toNat=k+1 by omega];exact hf' _ (by omega)
      have f3:G6 f' (0+(k:Int).toNat) (M9 (eI (gI l' k)) 0 (cellsOf (eI (gI l' (k+1))))) (0+((k+1:Nat):Int).toNat)=eI (gI l' (k+1)):=(F4 (by omega)).trans f2
      conv=>whnf
      refine ⟨[15,17],[],List.range 18,by kernel_rfl,?_⟩;conv=>whnf
      try rw [C2 (by omega)]
      refine ⟨rfl,⟨by omega,by omega⟩,?_⟩;conv=>whnf
      try rw [C2 (by omega)]
      refine E9 hst' rfl (by omega) f2 ?_;conv=>whnf
      refine ⟨rfl,⟨by omega,by omega⟩,?_⟩;conv=>whnf
      refine E9 hst' rfl (by omega) f1 ?_;conv=>whnf
      refine ⟨rfl,⟨by omega,by omega⟩,?_⟩;conv=>whnf
      refine J7 hst' rfl (by omega) f1 (by rfl) ?_;conv=>whnf
      try rw [C2 (by omega)]
      refine ⟨rfl,⟨by omega,by omega⟩,?_⟩;conv=>whnf
      refine J7 (A0 ..) rfl (by omega) f3 (by rfl) ?_;conv=>whnf
      refine ⟨rfl,?_⟩;conv=>whnf
      have k1:k<l'.length:=by omega
      have k2:k+1<l'.length:=by omega
      refine ⟨i - 1 - (k+1),by omega,k+1,swI l' k (k+1),by omega,by omega,(A7q k1 k2).trans hp,fun q=>?_,⟨_,by rw [A0,A5F];rfl,B3c (i':=0+(k:Int).toNat) (j':=0+((k+1:Nat):Int).toNat) hf' k1 k2 (by omega) (by omega)⟩,fun c hc=>by rw [A9 hc,A9 hc];exact hfr c hc,rfl,by rw [C2 (by omega)]⟩
      rw [A6r k1 k2,hm,hm,hm]
      unfold A9y
      repeat' split
      all_goals first | rfl | (exfalso;omega) | (congr 1<;>omega)
     ·obtain rfl:k=i - 1:=by omega
      conv=>whnf
      exact ⟨rfl,l',hp,C3o ho (by omega) hj (fun x y=>hhi x y) h1 (fun k k1 k2=>h2 k k1 k2) hm,⟨f',hst',hf'⟩,hfr⟩
 conv=>whnf
 rw [we]
 refine C4 (fun h=>?_) (fun h=>?_)<;>rw [h]<;>simp only [beq_iff_eq,beq_eq_false_iff_ne] at h
 ·-- one behind
  have hem:e=m+1:=by omega
  subst hem;conv=>whnf
  refine ⟨[0,2,4,14,15],fun q vs st'=>∃ i j:Nat,a≤i∧i≤j∧j≤m∧(∀ k,a≤k→k<i→lt (gI l m) (gI l k)=false)∧(∀ k,j≤k→k<m→lt (gI l m) (gI l k)=true)∧q=j - i∧vs=[.own 1 b 0 n,eI m,.fn (.func g) [] cs,eI i,eI j]∧st=st',?_,?_⟩
  ·conv=>whnf
   exact ⟨_,a,m,Nat.le_refl _,by omega,Nat.le_refl _,fun k h1 h2=>by omega,fun k h1 h2=>by omega,rfl,rfl,rfl⟩
  ·rintro q vs st' ⟨i,j,hi,hij,hj,h1,h2,rfl,rfl,rfl⟩
   conv=>whnf
   refine C4 (fun h=>?_) (fun h=>?_)<;>rw [h]<;>simp only [decide_eq_true_eq,decide_eq_false_iff_not] at h
   ·conv=>whnf
    rw [A6U (i:=i) (j:=j) (by omega) (by omega) (by omega),show ((i:Int)+(j:Int)) / 2=(((i+j) / 2:Nat):Int) by omega]
    generalize hh:(i+j) / 2=c
    refine ⟨[],[],List.range 12,by kernel_rfl,?_⟩;conv=>whnf
    refine ⟨rfl,⟨by omega,by omega⟩,?_⟩;conv=>whnf
    refine E9 hst rfl (by omega) (idx m (by omega)) ?_;conv=>whnf
    refine ⟨rfl,⟨by omega,by omega⟩,?_⟩;conv=>whnf
    refine E9 hst rfl (by omega) (idx c (by omega)) ?_;conv=>whnf
    refine ⟨_,D2 (cal m c (by omega) (by omega) _),?_⟩;conv=>whnf
    rw [hlt]
    cases h3:lt (gI l m) (gI l c)
    ·conv=>whnf
     refine ⟨rfl,?_⟩;conv=>whnf
     refine ⟨j - (c+1),by omega,c+1,j,by omega,by omega,hj,fun k k1 k2=>?_,h2,rfl,by rw [C2 (by omega)],rfl⟩
     by_cases ek:k=c
     ·subst ek;exact h3
     ·exact ho.le _ _ _ (hlo k c k1 (by omega) (by omega)) h3
    ·conv=>whnf
     refine ⟨rfl,?_⟩;conv=>whnf
     refine ⟨c - i,by omega,i,c,hi,by omega,by omega,h1,fun k k1 k2=>?_,rfl,rfl,rfl⟩
     cases hk:lt (gI l m) (gI l k) with
     | true=>rfl
     | false =>
      by_cases ek:k=c
      ·subst ek;rw [h3] at hk;cases hk
      ·rw [ho.le _ _ _ (hlo c k (by omega) (by omega) k2) hk] at h3;cases h3
   ·obtain rfl:i=j:=by omega
    conv=>whnf
    refine ⟨[0,14,17],fun q vs st'=>∃ (k:Nat) (l':List Int),i≤k∧k≤m∧l'.Perm l∧(∀ q,gI l' q=A9x (gI l) m k q)∧A0c st' b l'∧(∀ c,c≠b→st' c=st c)∧q=k - i∧vs=[.own 1 b 0 n,eI i,eI k],?_,?_⟩
    ·conv=>whnf
     refine ⟨_,m,l,by omega,Nat.le_refl _,List.Perm.refl _,fun q=>?_,hasSt,fun _ _=>rfl,rfl,rfl⟩
     unfold A9x
     rw [if_neg (by omega)]
     split
     ·rename_i hq;subst hq;rfl
     ·rfl
    ·rintro q vs st' ⟨k,l',hak,hki,hp,hm,⟨f',hst',hf'⟩,hfr,rfl,rfl⟩
     have hlen:l'.length=l.length:=hp.length_eq
     conv=>whnf
     refine C4 (fun h=>?_) (fun h=>?_)<;>rw [h]<;>simp only [decide_eq_true_eq,decide_eq_false_iff_not] at h
     ·have wk:IntKind.i64.wrap ((k:Int) - 1)=((k - 1:Nat):Int):=by rw [A8 (by omega) (by omega)];omega
      have f1:f' (0+(k:Int).toNat)=eI (gI l' k):=by rw [show 0+(k:Int).toNat=k by omega];exact hf' _ (by omega)
      have f2:f' (0+((k - 1:Nat):Int).toNat)=eI (gI l' (k - 1)):=by rw [show 0+((k - 1:Nat):Int).toNat=k - 1 by omega];exact hf' _ (by omega)
      have f3:G6 f' (0+(k:Int).toNat) (M9 (eI (gI l' k)) 0 (cellsOf (eI (gI l' (k - 1))))) (0+((k - 1:Nat):Int).toNat)=eI (gI l' (k - 1)):=(F4 (by omega)).trans f2
      conv=>whnf
      refine ⟨[15,17],[],List.range 18,by kernel_rfl,?_⟩;conv=>whnf
      try rw [wk]
      refine ⟨rfl,⟨by omega,by omega⟩,?_⟩;conv=>whnf
      try rw [wk]
      refine E9 hst' rfl (by omega) f2 ?_;conv=>whnf
      refine ⟨rfl,⟨by omega,by omega⟩,?_⟩;conv=>whnf
      refine E9 hst' rfl (by omega) f1 ?_;conv=>whnf
      refine ⟨rfl,⟨by omega,by omega⟩,?_⟩;conv=>whnf
      refine J7 hst' rfl (by omega) f1 (by rfl) ?_;conv=>whnf
      try rw [wk]
      refine ⟨rfl,⟨by omega,by omega⟩,?_⟩;conv=>whnf
      refine J7 (A0 ..) rfl (by omega) f3 (by rfl) ?_;conv=>whnf
      refine ⟨rfl,?_⟩;conv=>whnf
      have k1:k<l'.length:=by omega
      have k2:k - 1<l'.length:=by omega
      refine ⟨k - 1 - i,by omega,k - 1,swI l' k (k - 1),by omega,by omega,(A7q k1 k2).trans hp,fun q=>?_,⟨_,by rw [A0,A5F];rfl,B3c (i':=0+(k:Int).toNat) (j':=0+((k - 1:Nat):Int).toNat) hf' k1 k2 (by omega) (by omega)⟩,fun c hc=>by rw [A9 hc,A9 hc];exact hfr c hc,rfl,by rw [wk]⟩
      rw [A6r k1 k2,hm,hm,hm]
      unfold A9x
      repeat' split
      all_goals first | rfl | (exfalso;omega) | (congr 1<;>omega)
     ·obtain rfl:k=i:=by omega
      conv=>whnf
      exact ⟨rfl,l',hp,C2i ho hi hj (fun x y=>hlo x y) h1 (fun k k1 k2=>h2 k k1 k2) hm,⟨f',hst',hf'⟩,hfr⟩
 conv=>whnf
 rw [A6U (i:=a) (j:=e) (by omega) (by omega) (by omega),show ((a:Int)+(e:Int)) / 2=(((a+e) / 2:Nat):Int) by omega]
 obtain ⟨mid,hmid⟩:∃ mid,mid=(a+e) / 2:=⟨_,rfl⟩
 obtain ⟨nn,hnn⟩:∃ nn,nn=mid+m:=⟨_,rfl⟩
 rw [←hmid]
 have wn:IntKind.i64.wrap ((mid:Int)+(m:Int))=(nn:Int):=by rw [A8 (by omega) (by omega)];omega
 have wp:IntKind.i64.wrap ((nn:Int) - 1)=((nn - 1:Nat):Int):=by rw [A8 (by omega) (by omega)];omega
 have wne:mid<m→IntKind.i64.wrap ((nn:Int) - (e:Int))=((nn - e:Nat):Int):=fun _=>by rw [A8 (by omega) (by omega)];omega
 rw [wn]
 refine C4 (fun h=>?c1) (fun h=>?c2)
 case' c1 =>
  rw [h]
  simp only [decide_eq_true_eq] at h
  conv=>whnf
  rw [wne (by omega)]
  obtain ⟨s0,hs0⟩:∃ s0,s0=nn - e:=⟨_,rfl⟩
  obtain ⟨r0,hr0⟩:∃ r0,r0=mid:=⟨_,rfl⟩
  have hs:s0=if mid<m then nn - e else a:=by rw [if_pos (by omega)];exact hs0
  have hr:r0=if mid<m then mid else m:=by rw [if_pos (by omega)];exact hr0
 case' c2 =>
  rw [h]
  simp only [decide_eq_false_iff_not] at h
  conv=>whnf
  obtain ⟨s0,hs0⟩:∃ s0,s0=a:=⟨_,rfl⟩
  obtain ⟨r0,hr0⟩:∃ r0,r0=m:=⟨_,rfl⟩
  have hs:s0=if mid<m then nn - e else a:=by rw [if_neg (by omega)];exact hs0
  have hr:r0=if mid<m then mid else m:=by rw [if_neg (by omega)];exact hr0
 all_goals
  have b0:a≤s0∧nn - s0≤e∧r0≤m∧r0≤mid∧s0≤r0:=by omega
  obtain ⟨b1,b2,b3,b4,b5⟩:=b0
  have hrng:∀ k,s0≤k→k<r0→m≤nn - 1 - k∧nn - 1 - k<e∧k≤nn - 1:=fun k k1 k2=>by omega
  rw [wp]
  refine ⟨[0,1,2,3,4,18,19,20,21,22],fun q vs st'=>∃ s r:Nat,Mid lt (gI l) s0 s r r0 (nn - 1)∧q=r - s∧vs=[.own 1 b 0 n,eI a,eI m,eI e,.fn (.func g) [] cs,eI mid,eI nn,eI s,eI r,eI ((nn - 1:Nat):Int)]∧st=st',?_,?_⟩
  ·conv=>whnf
   exact ⟨_,s0,r0,⟨⟨Nat.le_refl _,b5,Nat.le_refl _⟩,fun c c1 c2=>by omega,fun c c1 c2=>by omega⟩,rfl,by rw [hs0,hr0],rfl⟩
  rintro q vs st' ⟨s,r,hM,rfl,rfl,rfl⟩
  obtain ⟨l1,l2,l3⟩:=hM.le
  clear hs0 hr0
  conv=>whnf
  refine C4 (fun h=>?_) (fun h=>?_)<;>rw [h]<;>simp only [decide_eq_true_eq,decide_eq_false_iff_not] at h
  ·conv=>whnf
   rw [A6U (i:=s) (j:=r) (by omega) (by omega) (by omega),show ((s:Int)+(r:Int)) / 2=(((s+r) / 2:Nat):Int) by omega]
   obtain ⟨c,hc⟩:∃ c,c=(s+r) / 2:=⟨_,rfl⟩
   rw [←hc]
   have wc:IntKind.i64.wrap (((nn - 1:Nat):Int) - (c:Int))=((nn - 1 - c:Nat):Int):=by rw [A8 (by omega) (by omega)];omega
   refine ⟨[],[],List.range 14,by kernel_rfl,?_⟩;conv=>whnf
   rw [wc]
   refine ⟨rfl,⟨by omega,by omega⟩,?_⟩;conv=>whnf
   refine E9 hst rfl (by omega) (idx (nn - 1 - c) (by omega)) ?_;conv=>whnf
   refine ⟨rfl,⟨by omega,by omega⟩,?_⟩;conv=>whnf
   refine E9 hst rfl (by omega) (idx c (by omega)) ?_;conv=>whnf
   refine ⟨_,D2 (cal (nn - 1 - c) c (by omega) (by omega) _),?_⟩;conv=>whnf
   rw [hlt]
   cases h3:lt (gI l (nn - 1 - c)) (gI l c)
   ·conv=>whnf
    refine ⟨rfl,?_⟩;conv=>whnf
    exact ⟨r - (c+1),by omega,c+1,r,hM.low ho (by omega) b1 b3 hrng hlo hhi h3,rfl,by rw [C2 (by omega)],rfl⟩
   ·conv=>whnf
    refine ⟨rfl,?_⟩;conv=>whnf
    exact ⟨c - s,by omega,s,c,hM.high ho (by omega) b1 b3 hrng hlo hhi h3,rfl,rfl,rfl⟩
  obtain rfl:s=r:=by omega
  have wt:IntKind.i64.wrap ((nn:Int) - (s:Int))=((nn - s:Nat):Int):=by rw [A8 (by omega) (by omega)];omega
  obtain ⟨t,ht⟩:∃ t,t=nn - s:=⟨_,rfl⟩
  rw [←ht] at wt;conv=>whnf
  rw [wt]
  have cut:=fun (l1:List Int)=>C4e (g:=gI l1) ho ham hme hmid hnn hs hr hM ht
  refine C4 (fun h4=>?_) (fun h4=>?_)<;>rw [h4]
  all_goals first
    | (have h4:=of_decide_eq_true h4
       conv=>whnf
       refine C4 (fun h5=>?_) (fun h5=>?_)<;>rw [h5])
    | (have h4:=of_decide_eq_false h4
       obtain ⟨l1,hl1⟩:∃ l1,l1=l:=⟨_,rfl⟩
       have hp1:l1.Perm l:=by rw [hl1]
       have hg1:∀ k,gI l1 k=A2x (gI l) s m t k:=fun k=>by rw [hl1,B4C (by omega) (by omega) (by omega)]
       have hb1:A0c st b l1:=by rw [hl1];exact hasSt
       have hfr1:∀ c,c≠b→st c=st c:=fun _ _=>rfl
       clear hl1)
  all_goals first
    | (have h5:=of_decide_eq_true h5
       conv=>whnf
       refine call (C0V b l n s m t _ _ hasSt (by omega) (by omega) (by omega) hnl hl) (fun v st1 hv=>?_)
       obtain ⟨rfl,l1,hp1,hg1,hb1,hfr1⟩:=hv)
    | (have h5:=of_decide_eq_false h5
       obtain ⟨l1,hl1⟩:∃ l1,l1=l:=⟨_,rfl⟩
       have hp1:l1.Perm l:=by rw [hl1]
       have hg1:∀ k,gI l1 k=A2x (gI l) s m t k:=fun k=>by rw [hl1,B4C (by omega) (by omega) (by omega)]
       have hb1:A0c st b l1:=by rw [hl1];exact hasSt
       have hfr1:∀ c,c≠b→st c=st c:=fun _ _=>rfl
       clear hl1)
    | skip
  all_goals
   have hlen1:l1.length=l.length:=hp1.length_eq
   have cut:=cut l1 hg1 hlo hhi
   obtain ⟨u1,u2,u3,u4⟩:=cut.le
   obtain ⟨o1,o2⟩:=C0S (f:=gI l) (g:=gI l1) u1 (show s≤m by omega) (show m≤t by omega) u4 hg1
   conv=>whnf
   refine C4 (fun h6=>?_) (fun h6=>?_)<;>rw [h6]
   all_goals first
    | (have h6:=of_decide_eq_true h6
       conv=>whnf
       refine C4 (fun h7=>?_) (fun h7=>?_)<;>rw [h7])
    | (have h6:=of_decide_eq_false h6
       obtain ⟨l2,hl2⟩:∃ l2,l2=l1:=⟨_,rfl⟩
       have hp2:l2.Perm l1:=by rw [hl2]
       have hP2:Q0 lt (gI l1) (gI l2) a mid:=by rw [hl2];exact Q0.refl fun x y q1 q2 q3=>cut.r2 x y (by omega) q2 q3
       have hfr2:=hfr1
       have hb2:=hb1
       rw [←hl2] at hb2
       clear hl2)
   all_goals first
    | (have h7:=of_decide_eq_true h7
       conv=>whnf
       refine call (ih a s mid l1 _ (by omega) ⟨by omega,by omega,by omega,by omega,by omega,hb1,cut.r1,cut.r2,fun x hx y hy=>hg x (hp1.subset hx) y (hp1.subset hy)⟩) (fun v st2 hv=>?_)
       obtain ⟨rfl,l2,hp2,hP2,hb2,hfr2⟩:=hv
       have hfr2:=fun c (hc:c≠b)=>(hfr2 c hc).trans (hfr1 c hc))
    | (have h7:=of_decide_eq_false h7
       obtain ⟨l2,hl2⟩:∃ l2,l2=l1:=⟨_,rfl⟩
       have hp2:l2.Perm l1:=by rw [hl2]
       have hP2:Q0 lt (gI l1) (gI l2) a mid:=by rw [hl2];exact Q0.refl fun x y q1 q2 q3=>cut.r1 x y q1 q2 (by omega)
       have hfr2:=hfr1
       have hb2:=hb1
       rw [←hl2] at hb2
       clear hl2)
    | skip
   all_goals
    have hlen2:l2.length=l1.length:=hp2.length_eq
    have same:∀ k,mid≤k→gI l2 k=gI l1 k:=fun k hk=>hP2.out k (.inr hk)
    have done:∀ l3:List Int,Q0 lt (gI l2) (gI l3) mid e→Q0 lt (gI l) (gI l3) a e:=fun l3 h3=>Q0.turned o1 o2 (cut.join hP2 h3)
    conv=>whnf
    refine C4 (fun h8=>?_) (fun h8=>?_)
    ·rw [h8]
     simp only [decide_eq_true_eq] at h8
     conv=>whnf
     refine C4 (fun h9=>?_) (fun h9=>?_)
     ·rw [h9]
      simp only [decide_eq_true_eq] at h9
      conv=>whnf
      refine call (ih mid t e l2 _ (by omega) ⟨by omega,by omega,by omega,by omega,by omega,hb2,fun x y q1 q2 q3=>by rw [same x q1,same y (by omega)];exact cut.r3 x y q1 q2 q3,fun x y q1 q2 q3=>by rw [same x (by omega),same y (by omega)];exact cut.r4 x y q1 q2 q3,fun x hx y hy=>hg x (hp1.subset (hp2.subset hx)) y (hp1.subset (hp2.subset hy))⟩) (fun v st3 hv=>?_)
      obtain ⟨rfl,l3,hp3,hP3,hb3,hfr3⟩:=hv
      conv=>whnf
      exact ⟨rfl,l3,hp3.trans (hp2.trans hp1),done l3 hP3,hb3,fun c hc=>(hfr3 c hc).trans (hfr2 c hc)⟩
     ·rw [h9]
      simp only [decide_eq_false_iff_not] at h9
      conv=>whnf
      exact ⟨rfl,l2,hp2.trans hp1,done l2 (Q0.refl fun x y q1 q2 q3=>by rw [same x q1,same y (by omega)];exact cut.r3 x y q1 q2 (by omega)),hb2,hfr2⟩
    ·rw [h8]
     simp only [decide_eq_false_iff_not] at h8
     conv=>whnf
     exact ⟨rfl,l2,hp2.trans hp1,done l2 (Q0.refl fun x y q1 q2 q3=>by rw [same x q1,same y (by omega)];exact cut.r4 x y (by omega) q2 q3),hb2,hfr2⟩
theorem B4Q:A2h 39:=by
 intro b l g cs cf lt hlt ho st hb hl hg
 by_cases h20:l.length≤20
 ·exact A7p b l g cs cf lt hlt ho st hb h20 hg
 refine A7 [] C0 mixed Tryz.func262 (by rfl) rfl rfl rfl ?_;conv=>whnf
 refine ⟨[0,1,2,6,7,8],fun m vs st'=>(m=1∧st'=st∧vs=[.own 1 b 0 l.length,eI l.length,.fn (.func g) [] cs,eI 20,eI 0,eI 20]) ∨
  (m=0∧(∃ l',l'.Perm l∧Srt lt l' 0 20∧A0c st' b l'∧∀ c,c≠b→st' c=st c)∧vs=[.own 1 b 0 l.length,eI l.length,.fn (.func g) [] cs,eI 20,eI 20,eI 40]),?_,?_⟩
 ·conv=>whnf
  exact ⟨1,.inl ⟨rfl,rfl,rfl⟩⟩
 ·rintro m vs st' (⟨rfl,rfl,rfl⟩ | ⟨rfl,⟨l',hp,hs,hb',hfr⟩,rfl⟩)
  ·conv=>whnf
   refine C4 (fun h1=>?_) (fun h1=>?_)<;>rw [h1]<;>simp only [decide_eq_true_eq,decide_eq_false_iff_not] at h1
   ·conv=>whnf
    refine call (A6V b l l.length 0 20 g cs cf lt hlt ho _ hb (by omega) (by omega) (by omega) (by omega) hg) (fun v st1 hv=>?_)
    obtain ⟨rfl,l',hp,hs,hout,hb',hfr⟩:=hv
    conv=>whnf
    refine ⟨rfl,?_⟩;conv=>whnf
    exact ⟨0,by omega,.inr ⟨rfl,⟨l',hp,hs,hb',hfr⟩,rfl⟩⟩
   ·exact absurd h1 (by omega)
  ·have hlen:l'.length=l.length:=hp.length_eq
   conv=>whnf
   refine C4 (fun h1=>?_) (fun h1=>?_)<;>rw [h1]<;>simp only [decide_eq_true_eq,decide_eq_false_iff_not] at h1
   ·exact absurd h1 (by omega)
   ·conv=>whnf
    refine call (A6V b l' l.length 20 l.length g cs cf lt hlt ho _ hb' (by omega) (by omega) (by omega) (by omega) (fun x hx y hy=>hg x (hp.subset hx) y (hp.subset hy))) (fun v st1 hv=>?_)
    obtain ⟨rfl,l2,hp2,hs2,hout,hb2,hfr2⟩:=hv
    have hp2:=hp2.trans hp
    have hlen2:l2.length=l.length:=hp2.length_eq
    have hfr2:=fun c (hc:c≠b)=>(hfr2 c hc).trans (hfr c hc)
    have hs1:Srt lt l2 0 20:=hs.congr fun k _ hk=>hout k (.inl hk)
    conv=>whnf
    refine ⟨[0,1,2,6],fun m vs st'=>(m=1∧st'=st1∧vs=[.own 1 b 0 l.length,eI l.length,.fn (.func g) [] cs,eI 20]) ∨
     (m=0∧(∃ l',l'.Perm l∧Srt lt l' 0 l.length∧A0c st' b l'∧∀ c,c≠b→st' c=st c)∧vs=[.own 1 b 0 l.length,eI l.length,.fn (.func g) [] cs,eI 40]),?_,?_⟩
    ·conv=>whnf
     exact ⟨1,.inl ⟨rfl,rfl,rfl⟩⟩
    ·rintro m vs st' (⟨rfl,rfl,rfl⟩ | ⟨rfl,⟨l3,hp3,hs3,hb3,hfr3⟩,rfl⟩)
     ·conv=>whnf
      refine C4 (fun h2=>?_) (fun h2=>?_)<;>rw [h2]<;>simp only [decide_eq_true_eq,decide_eq_false_iff_not] at h2
      ·conv=>whnf
       refine A5K [0,1,2,6,7,8] ?_;conv=>whnf
       intro I
       refine C4 (fun h3=>?_) (fun h3=>?_)<;>rw [h3]<;>simp only [decide_eq_true_eq,decide_eq_false_iff_not] at h3
       ·rw [show IntKind.i64.wrap (2 * 20)=40 from by rw [A8 (by omega) (by omega)];rfl] at h3;exact absurd h3 (by omega)
       ·conv=>whnf
        refine C4 (fun h4=>?_) (fun h4=>?_)<;>rw [h4]<;>simp only [decide_eq_true_eq,decide_eq_false_iff_not] at h4
        ·conv=>whnf
         refine call (B6s lt b l.length g cs cf hlt ho (l.length - 0) 0 20 l.length l2 _ (Nat.le_refl _) ⟨by omega,by omega,by omega,by omega,by omega,hb2,hs1,hs2,fun x hx y hy=>hg x (hp2.subset hx) y (hp2.subset hy)⟩) (fun v st3 hv=>?_)
         obtain ⟨rfl,l3,hp3,hP3,hb3,hfr3⟩:=hv
         conv=>whnf
         refine ⟨rfl,?_⟩;conv=>whnf
         exact ⟨0,by omega,.inr ⟨rfl,⟨l3,hp3.trans hp2,hP3.srt,hb3,fun c hc=>(hfr3 c hc).trans (hfr2 c hc)⟩,rfl⟩⟩
        ·exact absurd (show (20:Int)<(l.length:Int) by omega) h4
      ·exact absurd h2 (by omega)
     ·conv=>whnf
      refine C4 (fun h2=>?_) (fun h2=>?_)<;>rw [h2]<;>simp only [decide_eq_true_eq,decide_eq_false_iff_not] at h2
      ·exact absurd h2 (by omega)
      ·conv=>whnf
       exact ⟨rfl,l3,hp3,hs3,hb3,hfr3⟩
end Go.Proofs.YtbajhapmlfbelaaGreat
