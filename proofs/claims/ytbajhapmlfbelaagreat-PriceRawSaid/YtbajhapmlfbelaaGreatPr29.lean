/- Part 29 of the proof: contracts of the functions that the law reaches -/
import Derived.Test.YtbajhapmlfbelaaGreatPr28
set_option maxRecDepth 100000
set_option linter.unusedVariables false
set_option linter.unusedSimpArgs false
namespace Go.Proofs.YtbajhapmlfbelaaGreat
open Go Go.Ab
abbrev B8K (l:List A9) (xs:List (Int×Int)):List A0C:=xs.map fun a=>(⟨(E6 l a.1).id,a.2⟩:A0C)
abbrev A8t (l:List A9) (xs:List (Int×Int)):List D7:=(xs.map fun a=>(E6 l a.1).group).filter fun g=>!J0 g
structure Tr (l:List A9) (p:PSt) (xs:List (Int×Int)):Prop where
 deals:p.deals=B8K l xs
 groups:p.groups=A8t l xs
 pos:∀ a∈xs,1≤a.2
 apart:p.groups.Pairwise fun x y=>(y.toList==x.toList)=false
theorem Tr.start (l:List A9) (us:List B5):Tr l ⟨us,[],[]⟩ []:=⟨rfl,rfl,fun a h=>absurd h List.not_mem_nil,.nil⟩
def B0N {σ : Type} (px : σ→PSt) (step : σ→A9→σ) (sm:A9→Bool) (l:List A9) (Q : σ→Int→Prop):Prop :=
 ∀ (a : σ) (s:Int) (pr:A9),pr∈l→sm pr=true→Q a s →
  ((px (step a pr)).deals=(px a).deals∧(px (step a pr)).groups=(px a).groups∧Q (step a pr) s) ∨
  ∃ off,1≤off∧(px (step a pr)).deals=(px a).deals++[⟨pr.id,off⟩]∧(px (step a pr)).groups=(px a).groups++(if J0 pr.group=true then [] else [pr.group])∧Q (step a pr) (s+off)
theorem C1B {σ : Type} {px : σ→PSt} {step : σ→A9→σ} {sm:A9→Bool} {l:List A9} {Q : σ→Int→Prop} (hstep:B0N px step sm l Q) :
  ∀ (f:List Int) (a : σ) (xs:List (Int×Int)) (s:Int),(∀ x∈f,x.toNat<l.length∧sm (E6 l x)=true)→Tr l (px a) xs→Q a s →
   ∃ ys,Tr l (px (f.foldl (fun a x=>goB px step a (E6 l x)) a)) (xs++ys)∧(ys.map Prod.fst).Sublist f∧Q (f.foldl (fun a x=>goB px step a (E6 l x)) a) (s+A5 (ys.map Prod.snd)):=by
 intro f
 induction f with
 | nil=>intro a xs s _ ht hq;exact ⟨[],by rw [List.append_nil];exact ht,List.Sublist.slnil,by rw [show s+A5 (([]:List (Int×Int)).map Prod.snd)=s from Int.add_zero s];exact hq⟩
 | cons x f ih =>
  intro a xs s hm ht hq
  have hm':∀ y∈f,y.toNat<l.length∧sm (E6 l y)=true:=fun y hy=>hm y (List.mem_cons_of_mem _ hy)
  have hx:=hm x (List.mem_cons_self ..)
  have hmem:E6 l x∈l:=B4 hx.1
  rw [List.foldl_cons]
  unfold goB
  by_cases hg:(J0 (E6 l x).group||!inB (px a).groups (E6 l x).group)=true
  ·rw [if_pos hg]
   rcases hstep a s (E6 l x) hmem hx.2 hq with ⟨h1,h2,h3⟩ | ⟨off,h0,h1,h2,h3⟩
   ·obtain ⟨ys,k1,k2,k3⟩:=ih _ xs s hm' ⟨h1.trans ht.deals,h2.trans ht.groups,ht.pos,by rw [h2];exact ht.apart⟩ h3
    exact ⟨ys,k1,k2.cons _,k3⟩
   ·have ht':Tr l (px (step a (E6 l x))) (xs++[(x,off)]):=by
     refine ⟨?_,?_,fun b hb=>?_,?_⟩
     ·rw [h1,ht.deals];unfold B8K;rw [List.map_append];rfl
     ·rw [h2,ht.groups];unfold A8t
      rw [List.map_append,List.filter_append]
      congr 1
      cases hn:J0 (E6 l x).group
      ·rw [if_neg (by simp)]
       show [(E6 l x).group]=List.filter (fun g=>!J0 g) [(E6 l x).group]
       rw [List.filter_cons_of_pos (p:=fun g=>!J0 g) (by rw [hn];rfl)];rfl
      ·rw [if_pos rfl]
       show []=List.filter (fun g=>!J0 g) [(E6 l x).group]
       rw [List.filter_cons_of_neg (p:=fun g=>!J0 g) (by rw [hn];simp)];rfl
     ·rcases List.mem_append.1 hb with hb | hb
      ·exact ht.pos b hb
      ·rw [List.mem_singleton.1 hb];exact h0
     ·rw [h2]
      refine List.pairwise_append.2 ⟨ht.apart,?_,fun y hy z hz=>?_⟩
      ·split
       ·exact .nil
       ·exact List.pairwise_singleton _ _
      ·split at hz
       ·exact absurd hz List.not_mem_nil
       ·rename_i hn
        rw [List.mem_singleton.1 hz]
        rw [Bool.eq_false_iff.2 hn,Bool.false_or,Bool.not_eq_true'] at hg
        unfold inB at hg
        rw [List.any_eq_false] at hg
        exact Bool.eq_false_iff.2 (hg y hy)
    obtain ⟨ys,k1,k2,k3⟩:=ih _ (xs++[(x,off)]) (s+off) hm' ht' h3
    refine ⟨(x,off)::ys,by rw [List.append_assoc] at k1;exact k1,k2.cons_cons x,?_⟩
    rw [List.map_cons,O1,←Int.add_assoc];exact k3
  ·rw [if_neg hg]
   obtain ⟨ys,k1,k2,k3⟩:=ih _ xs s hm' ht hq
   exact ⟨ys,k1,k2.cons _,k3⟩
theorem B5N {σ : Type} {px : σ→PSt} {step : σ→A9→σ} {sm:A9→Bool} {l:List A9} {Q : σ→Int→Prop} (hstep:B0N px step sm l Q) {o:List Int} (ho:∀ x∈o,x.toNat<l.length) {a : σ} {xs:List (Int×Int)} {s:Int} (ht:Tr l (px a) xs) (hq:Q a s) :
  ∃ ys,Tr l (px (T0 px step sm l a o)) (xs++ys)∧(ys.map Prod.fst).Sublist (o.filter fun x=>sm (E6 l x))∧Q (T0 px step sm l a o) (s+A5 (ys.map Prod.snd)) :=
 C1B hstep _ a xs s (fun x hx=>⟨ho x (List.mem_filter.1 hx).1,(List.mem_filter.1 hx).2⟩) ht hq
theorem B7L {items:List Ab.Item} {us0:List B5} {l:List A9} (hf:∀ p∈l,M9 p) (hr:∀ p∈l,F6 p=true):B0N (fun p:PSt=>p) (A3e items) P8 l (fun p s=>A4Y items p.us∧Off us0 p.us s):=by
 intro a s pr hm hs hq
 have hk:pr.kind≠7:=by simpa [P8] using hs
 unfold A3e
 by_cases h:(U2 items a.us pr).2>0
 ·rw [if_pos h]
  rcases B5Q hq.1 (hf _ hm) (hr _ hm) hk with e | e
  ·rw [e] at h;exact absurd h (by decide)
  ·exact .inr ⟨_,by omega,rfl,rfl,hq.1.off e,hq.2.trans e⟩
 ·rw [if_neg h]
  exact .inl ⟨rfl,rfl,hq⟩
theorem B6X {net fee fee0:Int} {l:List A9} (hr:∀ p∈l,F6 p=true):B0N (fun a:PSt×Int=>a.1) (Q6 net) U7 l (fun a s=>0≤a.2∧a.2≤fee∧a.2+s=fee0):=by
 intro a s pr hm hs hq
 have hk:pr.kind=7:=by simpa [U7] using hs
 have h7:=(A2i (hr _ hm)).ship hk
 have hb:=P4 a.2 pr.rate
 have hle:=A3s hq.1 (show 0≤pr.rate by omega) h7.2
 unfold Q6 A5i
 by_cases h:net<pr.least
 ·rw [if_pos h];exact .inl ⟨rfl,rfl,hq⟩
 ·rw [if_neg h]
  by_cases h2:H4 a.2 pr.rate>0
  ·rw [if_pos h2]
   exact .inr ⟨H4 a.2 pr.rate,by omega,rfl,rfl,by show 0≤a.2 - H4 a.2 pr.rate;omega,by show a.2 - H4 a.2 pr.rate≤_;omega,by show a.2 - H4 a.2 pr.rate+(s+H4 a.2 pr.rate)=_;omega⟩
  ·rw [if_neg h2]
   exact .inl ⟨rfl,rfl,by show 0≤a.2 - H4 a.2 pr.rate;omega,by show a.2 - H4 a.2 pr.rate≤_;omega,by show a.2 - H4 a.2 pr.rate+s=_;omega⟩
theorem A4c (a b:List B5) (j:Nat):E9 (a++b) j=E9 a j+E9 b j:=by
 unfold E9;rw [List.filter_append,List.map_append,F3]
theorem B2C (l:List G1) (i j n:Nat):E9 (List.replicate n (lnU l i)) j=if i=j then n * (l.getD i default).price else 0:=by
 induction n with
 | zero=>show (0:Int)=_;split<;>simp
 | succ n ih =>
  rw [show List.replicate (n+1) (lnU l i)=[lnU l i]++List.replicate n (lnU l i) from rfl,A4c,ih]
  by_cases h:i=j
  ·rw [if_pos h,if_pos h]
   have:E9 [lnU l i] j=(l.getD i default).price:=by
    unfold E9
    rw [List.filter_cons_of_pos (by show (((i:Int)).toNat==j)=true;rw [Int.toNat_natCast,h];simp)]
    show A5 [(l.getD i default).price]=_
    rw [O1];exact Int.add_zero _
   rw [this,show ((n+1:Nat):Int) * (l.getD i default).price=n * (l.getD i default).price+(l.getD i default).price by rw [Int.natCast_add,Int.add_mul];simp]
   omega
  ·rw [if_neg h,if_neg h]
   have:E9 [lnU l i] j=0:=by
    unfold E9
    rw [List.filter_cons_of_neg (by show ¬(((i:Int)).toNat==j)=true;rw [Int.toNat_natCast];simpa using h)];rfl
   rw [this];rfl
theorem B4j (l:List G1) (hl:∀ x∈l,0≤x.qty) (j k:Nat) (hk:k≤l.length):E9 (F2 l k) j=if j<k then (l.getD j default).qty * (l.getD j default).price else 0:=by
 induction k with
 | zero=>rfl
 | succ k ih =>
  show E9 (F2 l k++List.replicate (l.getD k default).qty.toNat (lnU l k)) j=_
  rw [A4c,ih (by omega),B2C]
  have hq:=hl _ (B4 (show k<l.length by omega))
  by_cases e:k=j
  ·subst e
   rw [if_neg (by omega),if_pos rfl,if_pos (by omega),Int.toNat_of_nonneg hq,Int.zero_add]
  ·rw [if_neg e]
   by_cases h:j<k
   ·rw [if_pos h,if_pos (by omega),Int.add_zero]
   ·rw [if_neg h,if_neg (by omega)];rfl
theorem A8z {us us':List B5} {x:Int} (h:Off us us' x) (j:Nat):∀ k,k≤us.length→E9 (us'.take k) j≤E9 (us.take k) j
 | 0,_=>Int.le_refl _
 | k+1,hk=>by
  have ih:=A8z h j k (by omega)
  have hl:=h.len
  rw [S6 (by omega),S6 (by omega),h.line k]
  have:=(h.net k).2
  split<;>omega
theorem B3A (f:Nat→Int) (t:Nat) (x:Int):∀ n,A5 ((List.range n).map fun j=>if t=j then f j+x else f j)=A5 ((List.range n).map f)+if t<n then x else 0
 | 0=>by rw [if_neg (by omega)];rfl
 | n+1=>by
  rw [L5,L5,B3A f t x n]
  by_cases e:t=n
  ·rw [if_pos e,if_neg (by omega),if_pos (by omega)];omega
  ·rw [if_neg e]
   by_cases h:t<n
   ·rw [if_pos h,if_pos (by omega)];omega
   ·rw [if_neg h,if_neg (by omega)];omega
theorem A9t:∀ n,A5 ((List.range n).map fun _=>(0:Int))=0
 | 0=>rfl
 | n+1=>by rw [L5,A9t n];rfl
theorem A6h {us:List B5} {n:Nat} (h:∀ k,k<us.length→(gU us k).line.toNat<n):∀ k,k≤us.length→A5 ((List.range n).map (E9 (us.take k)))=A5 (D5 (us.take k))
 | 0,_=>A9t n
 | k+1,hk=>by
  have ih:=A6h h k (by omega)
  have e1:(E9 (us.take (k+1)))=fun j=>if (gU us k).line.toNat=j then E9 (us.take k) j+(gU us k).net else E9 (us.take k) j:=funext fun j=>S6 (by omega) j
  rw [e1,B3A,ih,if_pos (h k (by omega)),L9 (by omega)]
  unfold D5
  rw [List.map_append,F3]
  show _+(gU us k).net=_+A5 [(gU us k).net]
  rw [O1];show _=_+((gU us k).net+0);omega
structure B2d (r:I6) (codes:List D7) (l:List G1) (Pr:A5l) (xs ys:List (Int×Int)):Prop where
 deals:Pr.deals=B8K r.promos (xs++ys)
 mem:∀ a∈xs++ys,(0≤a.1∧a.1.toNat<r.promos.length)∧U4 codes (E6 r.promos a.1)=true∧1≤a.2
 sx:(xs.map Prod.fst).Sublist (Q0 r.promos codes)
 sy:(ys.map Prod.fst).Sublist (Q0 r.promos codes)
 kx:∀ a∈xs,(E6 r.promos a.1).kind≠7
 ky:∀ a∈ys,(E6 r.promos a.1).kind=7
 apart:(A8t r.promos (xs++ys)).Pairwise fun x y=>(y.toList==x.toList)=false
 sum:Pr.net+A5 (xs.map Prod.snd)=H9 l
 len:Pr.nets.length=l.length
 nets:A5 Pr.nets=Pr.net
 each:∀ i,i<l.length→0≤gI Pr.nets i∧gI Pr.nets i≤(l.getD i default).qty * (l.getD i default).price
 ship:0≤Pr.ship∧Pr.ship≤r.ship.fee
 shipSum:Pr.ship+A5 (ys.map Prod.snd)=Z0 r.ship (Q9 l).length Pr.net
theorem B1r {l:List A9} {codes:List D7} {i:Nat} {x:Int} (h:x∈places l codes i):U4 codes (E6 l x)=true:=by
 unfold places at h
 obtain ⟨k,hk,rfl⟩:=List.mem_map.1 h
 exact (List.mem_filter.1 hk).2
theorem B0u {r:I6} {codes:List D7} {l:List G1} (hf:U3 r) (hck:D0 r codes l=0):∃ xs ys,B2d r codes l (Q7 r l (Q0 r.promos codes) (Q0 r.promos codes)) xs ys:=by
 have ck:=A7N hck
 have hok:=ck.lines
 have hu:=B1V hok
 obtain ⟨u1,u2,u3⟩:=A1b l hok.line l.length (Nat.le_refl _)
 rw [List.take_length] at u1 u2
 have hitl:(C8 r.items l).length=l.length:=List.length_map ..
 have hpl:∀ x∈Q0 r.promos codes,(0≤x∧x.toNat<r.promos.length)∧U4 codes (E6 r.promos x)=true:=fun x hx=>by
  have:=(A1A r.promos codes).mem_iff.1 hx
  exact ⟨W8 this,B1r this⟩
 have hlt:∀ x∈Q0 r.promos codes,x.toNat<r.promos.length:=fun x hx=>(hpl x hx).1.2
 obtain ⟨xs,a1,a2,a3,a4⟩:=B5N (B7L (items:=C8 r.items l) (us0:=Q9 l) hf.fit ck.promo) hlt (a:=⟨Q9 l,[],[]⟩) (Tr.start r.promos (Q9 l)) ⟨hu,Off.refl hu.ok⟩
 rw [List.nil_append] at a1
 rw [Int.zero_add] at a4
 have hfee:0≤Z0 r.ship (Q9 l).length (K0 (p1B r l (Q0 r.promos codes)))∧Z0 r.ship (Q9 l).length (K0 (p1B r l (Q0 r.promos codes)))≤r.ship.fee:=by
  unfold Z0;have:=ck.fee;split<;>omega
 obtain ⟨ys,b1,b2,b3⟩:=B5N (B6X (net:=K0 (p1B r l (Q0 r.promos codes))) (fee:=r.ship.fee) (fee0:=Z0 r.ship (Q9 l).length (K0 (p1B r l (Q0 r.promos codes)))) ck.promo) hlt (a:=(p1B r l (Q0 r.promos codes),Z0 r.ship (Q9 l).length (K0 (p1B r l (Q0 r.promos codes))))) (s:=0) a1 ⟨hfee.1,hfee.2,Int.add_zero _⟩
 rw [Int.zero_add] at b3
 have a2':∀ a∈xs,a.1∈Q0 r.promos codes∧P8 (E6 r.promos a.1)=true:=fun a ha=>List.mem_filter.1 (a2.subset (List.mem_map.2 ⟨a,ha,rfl⟩))
 have b2':∀ a∈ys,a.1∈Q0 r.promos codes∧U7 (E6 r.promos a.1)=true:=fun a ha=>List.mem_filter.1 (b2.subset (List.mem_map.2 ⟨a,ha,rfl⟩))
 have hus:A4Y (C8 r.items l) (p1B r l (Q0 r.promos codes)).us:=a3
 have hlen:=a4.len
 have hln:∀ k,k<(p1B r l (Q0 r.promos codes)).us.length→(gU (p1B r l (Q0 r.promos codes)).us k).line.toNat<l.length:=fun k hk=>by
  have:=(hus.line _ (B4 hk)).2
  rw [hitl] at this;exact this
 have hsm:=A6h hln _ (Nat.le_refl _)
 rw [List.take_length] at hsm
 refine ⟨xs,ys,b1.deals,fun a ha=>?_,a2.trans List.filter_sublist,b2.trans List.filter_sublist,fun a ha=>by simpa [P8] using (a2' a ha).2,fun a ha=>by simpa [U7] using (b2' a ha).2,by rw [←b1.groups];exact b1.apart,?_,?_,hsm,fun i hi=>?_,⟨b3.1,b3.2.1⟩,b3.2.2⟩
 ·have hp:=b1.pos a ha
  rcases List.mem_append.1 ha with h | h
  ·exact ⟨(hpl _ (a2' a h).1).1,(hpl _ (a2' a h).1).2,hp⟩
  ·exact ⟨(hpl _ (b2' a h).1).1,(hpl _ (b2' a h).1).2,hp⟩
 ·have:=a4.sum
  show A5 (D5 (p1B r l (Q0 r.promos codes)).us)+_=_
  exact this.trans u2
 ·show ((List.range l.length).map _).length=_
  rw [List.length_map,List.length_range]
 ·have e:gI (Q7 r l (Q0 r.promos codes) (Q0 r.promos codes)).nets i=E9 (p1B r l (Q0 r.promos codes)).us i:=by
   show gI ((List.range l.length).map (E9 (p1B r l (Q0 r.promos codes)).us)) i=_
   unfold gI
   rw [List.getD_eq_getElem?_getD,List.getElem?_map,List.getElem?_range hi];rfl
  rw [e]
  have h1:=(Y2 hus.ok (p1B r l (Q0 r.promos codes)).us.length i).1
  rw [List.take_length] at h1
  have h2:=A8z a4 i _ (Nat.le_refl _)
  rw [List.take_length,List.take_of_length_le (Nat.le_of_eq hlen)] at h2
  have h3:=B4j l (fun x hx=>((W6 _).1 (hok.line x hx)).1.1) i l.length (Nat.le_refl _)
  rw [if_pos hi] at h3
  have h2':E9 (p1B r l (Q0 r.promos codes)).us i≤E9 (F2 l l.length) i:=h2
  exact ⟨h1,by omega⟩
end Go.Proofs.YtbajhapmlfbelaaGreat
namespace Go.Proofs.YtbajhapmlfbelaaGreat
open Go Go.Ab
attribute [local irreducible] upd del
structure A2Z (R:I6) (C:List D7) (L:List G1):Prop where
 right:P6 R=true
 fit:U3 R
 sm:Y7 R
 codes:A0n C=true
 ncodes:C.length≤3
 scodes:∀ s∈C,s.size≤12
 lines:A2y L
 check:D0 R C L=0
 few:R.promos.length≤6
 items:R.items.length≤8
 known:∀ n,known R.items (A0y n)=true
 fee:0≤R.ship.fee∧R.ship.fee≤1000000000
theorem C2L (r:I6) (codes:List D7) (l:List G1):A2Z (X1 r) (W9 codes) (R7 l):=by
 have hc:=B1u codes
 have hl:=B1w l
 have hr:=A7J r
 have hn:=A0v r.promos
 have hck:D0 (X1 r) (W9 codes) (R7 l)=0:=by
  unfold D0
  rw [if_neg (by rw [hr];simp),if_neg (by rw [hc.1];simp)]
  exact hl.check (A8x r.items)
 exact ⟨hr,A9P r,B1y r,hc.1,hc.2.1,hc.2.2,hl,hck,by show (J1 r.promos).length≤6;omega,by show (L6 r.items).length≤8;rw [A2r];omega,A8x r.items,(A7N hck).fee⟩
theorem A2Z.promosC {R:I6} {C:List D7} {L:List G1} (h:A2Z R C L):promosC R.promos=true:=by
 have:=h.right
 unfold P6 at this
 simp only [Bool.and_eq_true] at this
 exact this.1.1.1.2
def A5y (R:I6) (C:List D7) (L:List G1):A5l:=Q7 R L (Q0 R.promos C) (Q0 R.promos C)
theorem B8R {R:I6} {C:List D7} {L:List G1} (hck:D0 R C L=0) (hf:U3 R) (hC:Go.Proofs.YtbajhapmlfbelaaGreat.promosC R.promos=true) (hn:R.promos.length≤6) (hi:R.items.length≤8) (hc:C.length≤3) (st:St) :
  S P 18 [J6 R,D9 C,B2 3 I9 L] st fun v s=>v=.tuple [U1 (A5y R C L),eI 0]∧s=st :=
 (price_S A9s R C L hf (by show C.length≤9223372036854775807;omega) (by omega) (by have:=S7 R.promos C R.promos.length;omega) st).mono fun v s ⟨hv,hs⟩=>by
  refine ⟨?_,hs⟩
  rcases hv with ⟨h1,_⟩ | ⟨_,o1,o2,h1,h2,h3⟩
  ·exact absurd hck h1
  ·rw [A6s hC h1,A6s hC h2] at h3;exact h3
theorem A2Z.price_S {R:I6} {C:List D7} {L:List G1} (h:A2Z R C L) (st:St) :
  S P 18 [J6 R,D9 C,B2 3 I9 L] st fun v s=>v=.tuple [U1 (A5y R C L),eI 0]∧s=st :=
 B8R h.check h.fit h.promosC h.few h.items h.ncodes st
theorem A2Z.law {R:I6} {C:List D7} {L:List G1} (h:A2Z R C L):∃ xs ys,B2d R C L (A5y R C L) xs ys:=B0u h.fit h.check
structure C2e (L:List G1) (Pr:A5l) (g fee:Int):Prop where
 len:Pr.nets.length=L.length
 at':∀ i,i<L.length→0≤gI Pr.nets i∧gI Pr.nets i≤(L.getD i default).qty * (L.getD i default).price
 sum:A5 Pr.nets=Pr.net
 net:0≤Pr.net∧Pr.net≤g
 ship:0≤Pr.ship∧Pr.ship≤fee
theorem A2Z.nets {R:I6} {C:List D7} {L:List G1} (h:A2Z R C L):C2e L (A5y R C L) (H9 L) R.ship.fee:=by
 obtain ⟨xs,ys,hl⟩:=h.law
 have h0:∀ x∈(A5y R C L).nets,0≤x:=fun x hx=>by
  obtain ⟨i,hi,rfl⟩:=F0 hx
  exact (hl.each i (by rw [←hl.len];exact hi)).1
 have hx:0≤A5 (xs.map Prod.snd):=C9 fun x hx=>by
  obtain ⟨a,ha,rfl⟩:=List.mem_map.1 hx
  have:=(hl.mem a (List.mem_append_left _ ha)).2.2
  omega
 have hs:=hl.sum
 have hn:=hl.nets
 have:=C9 h0
 exact ⟨hl.len,hl.each,hl.nets,by omega,hl.ship⟩
theorem B1F (x:A5l) (h1:Sm x.nets.length) (h2:Sm x.deals.length) (st:St):S P 20 [U1 x,U1 x] st fun v st'=>v=.bool true∧st'=st:=by
 refine A8 [2,3] B9 mixed Tryz.func20 (by rfl) rfl rfl rfl ?_;conv=>whnf
 refine B0 (B2N x.nets h1 _) ?_;conv=>whnf
 rw [show (x.net==x.net)=true from beq_self_eq_true _];conv=>whnf
 rw [show (x.ship==x.ship)=true from beq_self_eq_true _];conv=>whnf
 refine B0 (B1s x.deals h2 _) ?_;conv=>whnf
 exact ⟨rfl,rfl⟩
end Go.Proofs.YtbajhapmlfbelaaGreat
namespace Go.Ab
open Go
theorem B6R {w:World} {st st':St} (h:∀ b,st b=none↔st' b=none):A1S w st=A1S w st':=by
 funext a
 unfold A1S
 cases h1:st a.block with
 | none=>rw [(h _).1 h1]
 | some x =>
  cases h2:st' a.block with
  | none=>rw [(h _).2 h2] at h1;cases h1
  | some y=>rfl
theorem B3.cellG {vs:List AV} {st st2:St} {a i:Nat} {y:Q3} {sv v' w':AV} {pre post:List AV} (h:B3 [sv] st [v'] st2) (hy:st a=some y) (hy2:st2 a=some y) (hi:i<y.n)
  (hf:cellsOf (y.f i)=pre++sv::post) (hw:cellsOf w'=pre++v'::post) (h1:v'.one=true):B3 vs st vs (upd st2 a { y with f:=H2 y.f i w' }):=fun w cs hS hR=>by
 obtain ⟨ds,hok⟩:=hS a y hy
 obtain ⟨c,hc1,hc2⟩:=hok.cell i pre.length sv hi (by rw [hf];show (pre++sv::post)[pre.length]?=some sv;simp)
 obtain ⟨hS2,hR2,hE⟩:=h w #[c] hS ⟨rfl,fun k z c' hz hc'=>by
  cases k with
  | zero=>simp at hz hc';subst hz;subst hc';exact hc2
  | succ k=>simp at hz⟩
 have hv:I1 w st2 v' c:=hR2.2 0 v' c rfl rfl
 have e:A1S w (upd st2 a { y with f:=H2 y.f i w' })=A1S w st2:=B6R fun b=>by
  by_cases eb:b=a
  ·subst eb;rw [A0,hy2];constructor<;>(intro h0;cases h0)
  ·rw [B1 eb]
 have hrep:∀ v c,I1 w st2 v c→I1 w (upd st2 a { y with f:=H2 y.f i w' }) v c:=fun v c hv=>by
  show Rep (A1S w _) _ _ _
  rw [e];exact hv
 refine ⟨fun b x hb=>?_,⟨hR.1,fun k y c hy hc=>hrep _ _ (hE.rep (hR.2 k y c hy hc))⟩,⟨hE.os,hE.tape,hE.output,hE.size,fun b hb hn=>⟨(hE.blk b hb hn).1,?_⟩,hE.szm⟩⟩
 ·by_cases eb:b=a
  ·subst eb
   rw [A0] at hb;cases hb
   obtain ⟨ds2,hok2⟩:=hS2 b y hy2
   have hds:ds2=ds:=by
    have h3:=hok2.heap
    rw [hok.heap] at h3
    cases h3;rfl
   subst hds
   have hlen:=hok2.len i hi
   have hone:=hok2.one i hi
   rw [hf] at hlen hone
   refine ⟨ds2,hok2.heap,hok2.size,fun k hk=>?_,fun k hk=>?_,fun k m z hk hz=>?_⟩
   ·by_cases ek:k=i
    ·subst ek
     show (cellsOf (H2 y.f k _ k)).length=y.e
     unfold H2;rw [if_pos rfl,←hlen]
     show (cellsOf w').length=(pre++sv::post).length
     rw [hw]
     simp
    ·show (cellsOf (H2 y.f i _ k)).length=y.e
     unfold H2;rw [if_neg ek];exact hok2.len k hk
   ·by_cases ek:k=i
    ·subst ek
     show (cellsOf (H2 y.f k _ k)).all AV.one=true
     unfold H2;rw [if_pos rfl]
     have hone':(pre++sv::post).all AV.one=true:=hone
     show (cellsOf w').all AV.one=true
     rw [hw]
     simp only [List.all_append,List.all_cons,Bool.and_eq_true] at hone' ⊢
     exact ⟨hone'.1,h1,hone'.2.2⟩
    ·show (cellsOf (H2 y.f i _ k)).all AV.one=true
     unfold H2;rw [if_neg ek];exact hok2.one k hk
   ·have hz:(cellsOf (H2 y.f i w' k))[m]?=some z:=hz
    unfold H2 at hz
    by_cases ek:k=i
    ·subst ek
     rw [if_pos rfl] at hz
     have hz:(pre++v'::post)[m]?=some z:=by rw [←hw];exact hz
     by_cases em:m=pre.length
     ·subst em
      simp at hz
      subst hz
      exact ⟨c,hc1,hrep _ _ hv⟩
     ·have e3:(pre++sv::post)[m]?=some z:=by
       rw [←hz]
       by_cases hm:m<pre.length
       ·rw [List.getElem?_append_left hm,List.getElem?_append_left hm]
       ·rw [List.getElem?_append_right (by omega),List.getElem?_append_right (by omega)]
        obtain ⟨q,hq⟩:∃ q,m - pre.length=q+1:=⟨m - pre.length - 1,by omega⟩
        rw [hq];rfl
      obtain ⟨c',k1,k2⟩:=hok2.cell k m z hk (by rw [hf];exact e3)
      exact ⟨c',k1,hrep _ _ k2⟩
    ·rw [if_neg ek] at hz
     obtain ⟨c',k1,k2⟩:=hok2.cell k m z hk hz
     exact ⟨c',k1,hrep _ _ k2⟩
  ·rw [B1 eb] at hb
   obtain ⟨ds2,hok2⟩:=hS2 b x hb
   exact ⟨ds2,hok2.heap,hok2.size,hok2.len,hok2.one,fun k m z hk hz=>by
    obtain ⟨c',k1,k2⟩:=hok2.cell k m z hk hz
    exact ⟨c',k1,hrep _ _ k2⟩⟩
 ·have:=(hE.blk b hb hn).2
  have eb:b≠a:=fun h=>by rw [h,hy] at hn;cases hn
  rw [B1 eb];exact this
theorem B3.cell {vs:List AV} {st st2:St} {a i:Nat} {y:Q3} {sv v':AV} {pre post:List AV} (h:B3 [sv] st [v'] st2) (hy:st a=some y) (hy2:st2 a=some y) (hi:i<y.n)
  (hf:y.f i=.agg (pre++sv::post)) (h1:v'.one=true):B3 vs st vs (upd st2 a { y with f:=H2 y.f i (.agg (pre++v'::post)) }) :=
 B3.cellG h hy hy2 hi (by rw [hf];rfl) rfl h1
end Go.Ab
namespace Go.Proofs.YtbajhapmlfbelaaGreat
open Go Go.Ab
attribute [local irreducible] upd del
theorem B3.pre {a b:List AV} {s t:St} (h:B3 a s b t):∀ l:List AV,B3 (l++a) s (l++b) t
 | []=>h
 | x::l=>B3.cons (B3.keep [x] s) (B3.pre h l)
abbrev B1d (l:List P3):Nat→AV:=fun k=>Q4 (l.getD k default)
theorem ROut.put {ty e n b:Nat} {fo:Nat→AV} {s t:St} {sv:AV} {y:Q3} (h:ROut G3 ty e fo n (upd s b y) sv t) (y':Q3):ROut G3 ty e fo n (upd s b y') sv (upd t b y'):=by
 have:=ROut.write (y':=y') J9 h (A0 ..)
 rwa [C5] at this
theorem A8M {l:List P3} (h:l.length=0):L7 l=[⟨⟨[],[]⟩,2⟩]:=if_pos h
theorem A8N {l:List P3} (h:l.length≠0):L7 l=(l.take 3).map T1:=if_neg h
theorem C0Z {l:List P3} {i:Nat} (hi:i<min l.length 3):((l.take 3).map T1).getD i default=T1 (l.getD i default):=by
 rw [List.getD_eq_getElem?_getD,List.getElem?_map,List.getElem?_take_of_lt (by omega),List.getElem?_eq_getElem (by omega),List.getD_eq_getElem?_getD,List.getElem?_eq_getElem (by omega)];rfl
set_option maxHeartbeats 80000000 in
theorem B2T (p:A9) (id:Int) (st:St):S P 143 [B7 p,eI id] st fun v st'=>v=B7 (A0M p id)∧st'=st:=by
 refine S.post (post:=fun v s=>(∃ W,v=.agg W∧G3 st s∧D6 W (cellsOf (B7 (A0M p id))))∨∃ (pre:List AV) (sv fin:AV) (base:St),v=.agg (pre++[sv,fin])∧B3 [sv] s [B2 3 Q4 (L7 p.parts)] base∧G3 st base∧D6 (pre++[B2 3 Q4 (L7 p.parts),fin]) (cellsOf (B7 (A0M p id)))) ?_ (fun v s h=>⟨_,st,⟨rfl,rfl⟩,by
   rcases h with ⟨W,h1,h3,h4⟩ | ⟨pre,sv,fin,base,h1,h2,h3,h4⟩
   ·rw [h1];exact (Le.shift (Le.agg h4) _).trans (h3.shift _)
   ·rw [h1]
    refine (B3.agg (B3.pre (B3.cons h2 (B3.keep [fin] _)) pre)).trans ?_
    exact (Le.shift (Le.agg h4) _).trans (h3.shift _)⟩)
 have hScope:=fun s=>B3a p.scope s
 obtain ⟨SC,hSC⟩:∃ SC,SC=N3 p.scope:=⟨_,rfl⟩
 rw [←hSC] at hScope
 have hId:=fun s=>C6K id s
 obtain ⟨I,hI⟩:∃ I,I=idN id:=⟨_,rfl⟩
 rw [←hI] at hId
 have hPr:=fun s=>A0r p.prio 5 (by decide) (by decide) s
 obtain ⟨PR,hPR⟩:∃ PR,PR=C3 p.prio 5:=⟨_,rfl⟩
 rw [←hPR] at hPr
 have hKd:=fun s=>A0r (IntKind.i64.wrap (p.kind - 1)) 7 (by decide) (by decide) s
 have hkm:=E3 (IntKind.i64.wrap (p.kind - 1)) (n:=7) (by decide)
 have hkw:IntKind.i64.wrap (1+C3 (IntKind.i64.wrap (p.kind - 1)) 7)=A1R p:=A7 (by omega) (by omega)
 have hK:=A4j p
 have hP:A0M p id=L2 p id (A1R p):=rfl
 rw [hP]
 generalize A1R p=K at hK hkw ⊢
 clear hP
 generalize C3 (IntKind.i64.wrap (p.kind - 1)) 7=KD at hKd hkw
 obtain ⟨G,hG⟩:∃ G,G=A0L p:=⟨_,rfl⟩
 obtain ⟨C,hC⟩:∃ C,C=A1Q p:=⟨_,rfl⟩
 obtain ⟨L,hL⟩:∃ L,L=A1B p:=⟨_,rfl⟩
 have wr:IntKind.i64.wrap (1+C3 p.rate 10000)=1+C3 p.rate 10000:=by have:=E3 p.rate (n:=10000) (by decide);exact A7 (by omega) (by omega)
 have wa:IntKind.i64.wrap (1+C3 p.amount 900)=1+C3 p.amount 900:=by have:=E3 p.amount (n:=900) (by decide);exact A7 (by omega) (by omega)
 have wb:IntKind.i64.wrap (1+C3 p.buy 3)=1+C3 p.buy 3:=by have:=E3 p.buy (n:=3) (by decide);exact A7 (by omega) (by omega)
 have wg:IntKind.i64.wrap (1+C3 p.get 2)=1+C3 p.get 2:=by have:=E3 p.get (n:=2) (by decide);exact A7 (by omega) (by omega)
 have hT5:=fun s=>A7t p.tiers 5000 (by decide) (by decide) s
 obtain ⟨TS,hTS⟩:∃ TS,TS=L8 p.tiers 5000:=⟨_,rfl⟩
 rw [←hTS] at hT5
 have hT6:=fun s=>A7t p.tiers 5 (by decide) (by decide) s
 obtain ⟨TU,hTU⟩:∃ TU,TU=L8 p.tiers 5:=⟨_,rfl⟩
 rw [←hTU] at hT6
 have hA3:=fun s=>L0 p.amount 3000 (by decide) (by decide) s
 obtain ⟨A3,hA⟩:∃ A3,A3=C3 p.amount 3000:=⟨_,rfl⟩
 rw [←hA] at hA3
 refine A8 [2] B9 mixed Tryz.func143 (by rfl) rfl rfl rfl ?_;conv=>whnf
 intro b4 hb4;conv=>whnf
 refine ⟨[16,17],[1,3,5,8,9,11,13,14],List.range 18,by kernel_rfl,?_⟩;conv=>whnf
 refine ⟨_,fun s _=>D3 (hId s),?_⟩;conv=>whnf
 refine ⟨_,fun s _=>⟨rfl,rfl⟩,?_⟩;conv=>whnf
 refine ⟨_,fun s _=>D3 (hKd s),?_⟩;conv=>whnf
 refine ⟨_,fun s _=>⟨rfl,rfl⟩,?_⟩;conv=>whnf
 refine ⟨_,fun s _=>D3 (hPr s),?_⟩;conv=>whnf
 refine ⟨_,fun s _=>⟨rfl,rfl⟩,?_⟩;conv=>whnf
 refine ⟨_,fun s _=>⟨rfl,rfl⟩,?_⟩;conv=>whnf
 refine ⟨_,fun s _=>D3 (hScope s),?_⟩;conv=>whnf
 intro b5 hb5
 have hne:b4≠b5:=fun e=>by subst e;rw [A0] at hb5;cases hb5
 conv=>whnf
 refine K8 (A0 ..) rfl (by omega) rfl (by rfl) ?_
 rw [C5,hkw]
 have hst:∀ Y:Q3,G3 st (upd (upd st b4 ⟨71,15,1,fun _=>J7 r71.zero⟩) b5 Y):=fun Y=>((G3.refl st).upd hb4).upd hb5
 conv=>whnf
 refine B0 (A8L _ _) ?_;conv=>whnf
 refine B0 (A0r _ 3 (by decide) (by decide) _) ?_;conv=>whnf
 cases hg:(C3 (A2h p.group) 3==1)
 case' true =>
  have hgv:(⟨#[103]⟩:D7)++A9V ([]++[IntKind.u8.wrap (48+IntKind.u8.wrap (C3 p.group.size 2))])=G:=by rw [hG,B0H];exact (if_pos (by simpa using hg)).symm
  conv=>whnf
  refine B0 (A0r _ 2 (by decide) (by decide) _) ?_;conv=>whnf
  rw [hgv]
  refine K8 (A0 ..) rfl (by omega) (A6 ..) (by rfl) ?_
  rw [C5]
 case' false =>
  have hG0:(⟨#[]⟩:D7)=G:=by rw [hG];exact (if_neg (by simpa using hg)).symm
 all_goals
  conv=>whnf
  refine B0 (A8L _ _) ?_;conv=>whnf
  refine B0 (A0r _ 3 (by decide) (by decide) _) ?_;conv=>whnf
  cases hcd:(C3 (A2h p.code) 3==1)
  case' true =>
   have hcv:A3y p.code.size=C:=by rw [hC];exact (if_pos (by simpa using hcd)).symm
   conv=>whnf
   refine B0 (B7Y _ _) ?_;conv=>whnf
   rw [hcv]
   refine K8 (A0 ..) rfl (by omega) (A6 ..) (by rfl) ?_
   rw [C5]
  case' false =>
   have hC0:(⟨#[]⟩:D7)=C:=by rw [hC];exact (if_neg (by simpa using hcd)).symm
  all_goals
   conv=>whnf
   refine B0 (L0 _ 3 (by decide) (by decide) _) ?_;conv=>whnf
   cases hl:(C3 p.least 3==1)
   case' true =>
    have hlv:C3 p.least 9000=L:=by rw [hL];exact (if_pos (by simpa using hl)).symm
    conv=>whnf
    refine B0 (L0 _ 9000 (by decide) (by decide) _) ?_;conv=>whnf
    rw [hlv]
    refine K8 (A0 ..) rfl (by omega) (A6 ..) (by rfl) ?_
    rw [C5]
   case' false =>
    have hL0:(0:Int)=L:=by rw [hL];exact (if_neg (by simpa using hl)).symm
   all_goals
    conv=>whnf
    refine F7 (A0 ..) rfl (by omega) (A6 ..) ?_
    rcases (show K=1∨K=2∨K=3∨K=4∨K=5∨K=6∨K=7 by omega) with rfl | rfl | rfl | rfl | rfl | rfl | rfl
    ·rw [show cellsOf (B7 (L2 p id 1))=[eS (I),eI 1,eI (PR),eS (G),eS (C),eB p.closes,D9 (SC).skus,D9 (SC).cats,eI (L),eI (1+C3 p.rate 10000),eI 0,eI 0,eI 0,B2 3 Q4 [],B2 3 O5 []] from by rw [hI,hPR,hG,hC,hL,hSC];rfl]
     (try subst hG0);(try subst hC0);(try subst hL0)
     conv=>whnf
     refine B0 (L0 _ 10000 (by decide) (by decide) _) ?_;conv=>whnf
     rw [wr]
     refine K8 (A0 ..) rfl (by omega) (A6 ..) (by rfl) ?_
     rw [C5];conv=>whnf
     refine F7 (A0 ..) rfl (by omega) (A6 ..) ?_;conv=>whnf
     refine K8 (by rw [B1 hne];exact A0 ..) rfl (by omega) rfl (by rfl) ?_;conv=>whnf
     refine F7 (A0 ..) rfl (by omega) (A6 ..) ?_;conv=>whnf
     exact .inl ⟨_,rfl,(hst _).over hb4,D6.cons (Le.refl _) (D6.cons (Le.refl _) (D6.cons (Le.refl _) (D6.cons (Le.refl _) (D6.cons (Le.refl _) (D6.cons (Le.refl _) (D6.cons (Le.refl _) (D6.cons (Le.refl _) (D6.cons (Le.refl _) (D6.cons (Le.refl _) (D6.cons (Le.refl _) (D6.cons (Le.refl _) (D6.cons (Le.refl _) (D6.cons (Le.emp _ _) (D6.cons (Le.emp _ _) (D6.nil)))))))))))))))⟩
    ·rw [show cellsOf (B7 (L2 p id 2))=[eS (I),eI 2,eI (PR),eS (G),eS (C),eB p.closes,D9 (SC).skus,D9 (SC).cats,eI (L),eI 0,eI (1+C3 p.amount 900),eI 0,eI 0,B2 3 Q4 [],B2 3 O5 []] from by rw [hI,hPR,hG,hC,hL,hSC];rfl]
     (try subst hG0);(try subst hC0);(try subst hL0)
     conv=>whnf
     refine B0 (L0 _ 900 (by decide) (by decide) _) ?_;conv=>whnf
     rw [wa]
     refine K8 (A0 ..) rfl (by omega) (A6 ..) (by rfl) ?_
     rw [C5];conv=>whnf
     refine F7 (A0 ..) rfl (by omega) (A6 ..) ?_;conv=>whnf
     refine K8 (by rw [B1 hne];exact A0 ..) rfl (by omega) rfl (by rfl) ?_;conv=>whnf
     refine F7 (A0 ..) rfl (by omega) (A6 ..) ?_;conv=>whnf
     exact .inl ⟨_,rfl,(hst _).over hb4,D6.cons (Le.refl _) (D6.cons (Le.refl _) (D6.cons (Le.refl _) (D6.cons (Le.refl _) (D6.cons (Le.refl _) (D6.cons (Le.refl _) (D6.cons (Le.refl _) (D6.cons (Le.refl _) (D6.cons (Le.refl _) (D6.cons (Le.refl _) (D6.cons (Le.refl _) (D6.cons (Le.refl _) (D6.cons (Le.refl _) (D6.cons (Le.emp _ _) (D6.cons (Le.emp _ _) (D6.nil)))))))))))))))⟩
    ·rw [show cellsOf (B7 (L2 p id 3))=[eS (I),eI 3,eI (PR),eS (G),eS (C),eB p.closes,D9 (SC).skus,D9 (SC).cats,eI (L),eI (1+C3 p.rate 10000),eI 0,eI (1+C3 p.buy 3),eI (1+C3 p.get 2),B2 3 Q4 [],B2 3 O5 []] from by rw [hI,hPR,hG,hC,hL,hSC];rfl]
     (try subst hG0);(try subst hC0);(try subst hL0)
     conv=>whnf
     refine ⟨[13,15,17],[],List.range 18,by kernel_rfl,?_⟩;conv=>whnf
     refine ⟨_,D3 (L0 _ 10000 (by decide) (by decide) _),?_⟩;conv=>whnf
     rw [wr]
     refine ⟨_,D3 (A0r _ 3 (by decide) (by decide) _),?_⟩;conv=>whnf
     rw [wb]
     refine ⟨_,D3 (A0r _ 2 (by decide) (by decide) _),?_⟩;conv=>whnf
     rw [wg]
     refine K8 (A0 ..) rfl (by omega) (A6 ..) (by rfl) ?_
     rw [C5];conv=>whnf
     refine K8 (A0 ..) rfl (by omega) (A6 ..) (by rfl) ?_
     rw [C5];conv=>whnf
     refine K8 (A0 ..) rfl (by omega) (A6 ..) (by rfl) ?_
     rw [C5];conv=>whnf
     refine F7 (A0 ..) rfl (by omega) (A6 ..) ?_;conv=>whnf
     refine K8 (by rw [B1 hne];exact A0 ..) rfl (by omega) rfl (by rfl) ?_;conv=>whnf
     refine F7 (A0 ..) rfl (by omega) (A6 ..) ?_;conv=>whnf
     exact .inl ⟨_,rfl,(hst _).over hb4,D6.cons (Le.refl _) (D6.cons (Le.refl _) (D6.cons (Le.refl _) (D6.cons (Le.refl _) (D6.cons (Le.refl _) (D6.cons (Le.refl _) (D6.cons (Le.refl _) (D6.cons (Le.refl _) (D6.cons (Le.refl _) (D6.cons (Le.refl _) (D6.cons (Le.refl _) (D6.cons (Le.refl _) (D6.cons (Le.refl _) (D6.cons (Le.emp _ _) (D6.cons (Le.emp _ _) (D6.nil)))))))))))))))⟩
    ·rw [show cellsOf (B7 (L2 p id 4))=[eS (I),eI 4,eI (PR),eS (G),eS (C),eB p.closes,D9 [],D9 [],eI (L),eI 0,eI (A3),eI 0,eI 0,B2 3 Q4 (L7 p.parts),B2 3 O5 []] from by rw [hI,hPR,hG,hC,hL,hA];rfl];conv=>whnf
     refine B0 (hA3 _) ?_;conv=>whnf
     refine K8 (A0 ..) rfl (by omega) (A6 ..) (by rfl) ?_
     rw [C5];conv=>whnf
     refine K8 (A0 ..) rfl (by omega) (A6 ..) (by rfl) ?_
     rw [C5];conv=>whnf
     refine lp (min p.parts.length 3) [2,4,5,6] (fun i vs s=>∃ sv f,vs=[.fptr (B7 p) 0,.optr 15 b4 0 0,.optr 15 b5 0 0,eI i]∧f 0=.agg ([eS I,eI 4,eI PR,eS G,eS C,eB p.closes,.emp,.emp,eI L,eI 0,eI A3,eI 0,eI 0]++[sv,.emp])∧ROut G3 237 3 (B1d ((p.parts.take 3).map T1)) i (upd (upd st b4 ⟨71,15,1,fun _=>J7 r71.zero⟩) b5 ⟨71,15,1,f⟩) sv s) ?_ ?_
     ·conv=>whnf
      exact ⟨.emp,_,rfl,by (try rw [←hG0]);(try rw [←hC0]);(try rw [←hL0]);first | rfl | (rw [A6];rfl),ROut.start (G3.refl _) _ _ _⟩
     ·rintro i vs s hi ⟨sv,f,rfl,hf,hR⟩
      have hsup:=ROut.sup J9 hR
      have at5:s b5=some ⟨71,15,1,f⟩:=hsup b5 _ (A0 ..)
      have at4:s b4=some ⟨71,15,1,fun _=>J7 r71.zero⟩:=hsup b4 _ (by rw [B1 hne];exact A0 ..)
      have n5:st b5=none:=by rw [B1 (Ne.symm hne)] at hb5;exact hb5
      conv=>whnf
      refine C0 (fun h1=>?_) (fun h1=>?_)<;>rw [h1]<;>simp only [decide_eq_true_eq,decide_eq_false_iff_not] at h1
      case' refine_1 =>
       conv=>whnf
       refine C0 (fun h2=>?_) (fun h2=>?_)<;>rw [h2]<;>simp only [decide_eq_true_eq,decide_eq_false_iff_not] at h2
      case refine_1.refine_1 =>
       have hi':i<min p.parts.length 3:=by omega
       have hsc2:=fun s=>B3a (p.parts.getD (i:Int).toNat default).scope s
       have hpa:=C0Z hi'
       have hm2:=E3 (p.parts.getD (i:Int).toNat default).count (n:=2) (by decide)
       have wc:IntKind.i64.wrap (1+C3 (p.parts.getD (i:Int).toNat default).count 2)=1+C3 (p.parts.getD (i:Int).toNat default).count 2:=A7 (by omega) (by omega)
       have hpp:Q4 (T1 (p.parts.getD i default))=.agg [D9 (N3 (p.parts.getD (i:Int).toNat default).scope).skus,D9 (N3 (p.parts.getD (i:Int).toNat default).scope).cats,eI (1+C3 (p.parts.getD (i:Int).toNat default).count 2)]:=rfl
       generalize N3 (p.parts.getD (i:Int).toNat default).scope=S2 at hsc2 hpp
       rcases ROut.head hR with rfl | ⟨bp,rfl⟩
       all_goals
        conv=>whnf
        refine ⟨[19,21],[15],List.range 22,by kernel_rfl,?_⟩;conv=>whnf
        refine F7 at5 rfl (by omega) hf ?_;conv=>whnf
        refine ⟨rfl,⟨by omega,by omega⟩,?_⟩;conv=>whnf
        refine ⟨_,D3 (hsc2 _),?_⟩;conv=>whnf
        refine ⟨rfl,⟨by omega,by omega⟩,?_⟩;conv=>whnf
        refine ⟨_,fun s _=>D3 (A0r _ 2 (by decide) (by decide) s),?_⟩;conv=>whnf
        rw [wc]
        refine ⟨_,⟨rfl,rfl⟩,?_⟩;conv=>whnf
        refine ROut.app (q:=C2N) J9 rfl rfl rfl rfl rfl (f:=B1d ((p.parts.take 3).map T1)) (by show _=Q4 _;rw [hpa,hpp];rfl) (by show (i+1) * 56≤140737488355328;omega) hR (fun sv' t2 hR2=>?_)
        have at5':t2 b5=some ⟨71,15,1,f⟩:=ROut.sup J9 hR2 b5 _ (A0 ..)
        rcases ROut.head hR2 with rfl | ⟨bp',rfl⟩
        all_goals
         conv=>whnf
         refine K8 at5' rfl (by omega) hf (by rfl) ?_;conv=>whnf
         refine ⟨rfl,?_⟩;conv=>whnf
         exact nx hi' ⟨_,_,by rw [C2 (by omega)],(by rw [A6];rfl),ROut.put hR2 _⟩
      all_goals
       have hie:i=min p.parts.length 3:=by omega
       obtain ⟨s0,hcol,hss⟩:=hR
       rcases hcol with ⟨h0,rfl,rfl⟩ | ⟨h0,bp,g,hbp,rfl,rfl,hgg⟩
       ·have hPP:=A8M (l:=p.parts) (by omega)
        subst h0
        rw [hPP];conv=>whnf
        refine F7 at5 rfl (by omega) hf ?_;conv=>whnf
        refine K8 at5 rfl (by omega) hf (by rfl) ?_;conv=>whnf
        refine F7 (A0 ..) rfl (by omega) (A6 ..) ?_;conv=>whnf
        refine K8 (by rw [B1 hne];exact at4) rfl (by omega) rfl (by rfl) ?_;conv=>whnf
        refine F7 (A0 ..) rfl (by omega) (A6 ..) ?_;conv=>whnf
        exact .inl ⟨_,rfl,((((G3.refl st).upd hb4).upd hb5).trans hss |>.over n5).over hb4,D6.cons (Le.refl _) (D6.cons (Le.refl _) (D6.cons (Le.refl _) (D6.cons (Le.refl _) (D6.cons (Le.refl _) (D6.cons (Le.refl _) (D6.cons (Le.emp _ _) (D6.cons (Le.emp _ _) (D6.cons (Le.refl _) (D6.cons (Le.refl _) (D6.cons (Le.refl _) (D6.cons (Le.refl _) (D6.cons (Le.refl _) (D6.cons (Le.arr1 (D6.cons (Le.emp _ _) (D6.cons (Le.emp _ _) (D6.cons (Le.refl _) D6.nil))) rfl) (D6.cons (Le.emp _ _) (D6.nil)))))))))))))))⟩
       ·have hPP:=A8N (l:=p.parts) (by omega)
        have hAP:B2 3 Q4 (L7 p.parts)=.arr 3 i (B1d ((p.parts.take 3).map T1)):=by unfold B2;rw [hPP,show ((p.parts.take 3).map T1).length=i by rw [List.length_map,List.length_take];omega]
        have hR3:ROut G3 237 3 (B1d ((p.parts.take 3).map T1)) i (upd (upd st b4 ⟨71,15,1,fun _=>J7 r71.zero⟩) b5 ⟨71,15,1,f⟩) (.own 3 bp 0 i) s:=⟨_,.inr ⟨h0,bp,g,hbp,rfl,rfl,hgg⟩,hss⟩
        conv=>whnf
        refine F7 at5 rfl (by omega) hf ?_;conv=>whnf
        rw [show ((i:Int)==0)=false by rw [beq_eq_false_iff_ne];omega];conv=>whnf
        refine F7 at5 rfl (by omega) hf ?_;conv=>whnf
        refine K8 at4 rfl (by omega) rfl (by rfl) ?_;conv=>whnf
        refine F7 (A0 ..) rfl (by omega) (A6 ..) ?_;conv=>whnf
        obtain ⟨base,hsh,hsb⟩:=ROut.shift J9 (ROut.write J9 hR3 (b:=b4) (by rw [B1 hne];exact A0 ..))
        refine .inr ⟨[eS I,eI 4,eI PR,eS G,eS C,eB p.closes,.emp,.emp,eI L,eI 0,eI A3,eI 0,eI 0],.own 3 bp 0 i,.emp,base,rfl,by rw [hAP];exact hsh,((((G3.refl st).upd hb4).upd hb5).over hb4).trans hsb,D6.cons (Le.refl _) (D6.cons (Le.refl _) (D6.cons (Le.refl _) (D6.cons (Le.refl _) (D6.cons (Le.refl _) (D6.cons (Le.refl _) (D6.cons (Le.emp _ _) (D6.cons (Le.emp _ _) (D6.cons (Le.refl _) (D6.cons (Le.refl _) (D6.cons (Le.refl _) (D6.cons (Le.refl _) (D6.cons (Le.refl _) (D6.cons (Le.refl _) (D6.cons (Le.emp _ _) (D6.nil)))))))))))))))⟩
    ·rw [show cellsOf (B7 (L2 p id 5))=[eS (I),eI 5,eI (PR),eS (G),eS (C),eB p.closes,D9 (SC).skus,D9 (SC).cats,eI (L),eI 0,eI 0,eI 0,eI 0,B2 3 Q4 [],B2 3 O5 (TS)] from by rw [hI,hPR,hG,hC,hL,hSC,hTS];rfl]
     (try subst hG0);(try subst hC0);(try subst hL0)
     conv=>whnf
     refine B0 (hT5 _) ?_;conv=>whnf
     refine K8 (A0 ..) rfl (by omega) (A6 ..) (by rfl) ?_
     rw [C5];conv=>whnf
     refine F7 (A0 ..) rfl (by omega) (A6 ..) ?_;conv=>whnf
     refine K8 (by rw [B1 hne];exact A0 ..) rfl (by omega) rfl (by rfl) ?_;conv=>whnf
     refine F7 (A0 ..) rfl (by omega) (A6 ..) ?_;conv=>whnf
     exact .inl ⟨_,rfl,(hst _).over hb4,D6.cons (Le.refl _) (D6.cons (Le.refl _) (D6.cons (Le.refl _) (D6.cons (Le.refl _) (D6.cons (Le.refl _) (D6.cons (Le.refl _) (D6.cons (Le.refl _) (D6.cons (Le.refl _) (D6.cons (Le.refl _) (D6.cons (Le.refl _) (D6.cons (Le.refl _) (D6.cons (Le.refl _) (D6.cons (Le.refl _) (D6.cons (Le.emp _ _) (D6.cons (Le.refl _) (D6.nil)))))))))))))))⟩
    ·rw [show cellsOf (B7 (L2 p id 6))=[eS (I),eI 6,eI (PR),eS (G),eS (C),eB p.closes,D9 (SC).skus,D9 (SC).cats,eI (L),eI 0,eI 0,eI 0,eI 0,B2 3 Q4 [],B2 3 O5 (TU)] from by rw [hI,hPR,hG,hC,hL,hSC,hTU];rfl]
     (try subst hG0);(try subst hC0);(try subst hL0)
     conv=>whnf
     refine B0 (hT6 _) ?_;conv=>whnf
     refine K8 (A0 ..) rfl (by omega) (A6 ..) (by rfl) ?_
     rw [C5];conv=>whnf
     refine F7 (A0 ..) rfl (by omega) (A6 ..) ?_;conv=>whnf
     refine K8 (by rw [B1 hne];exact A0 ..) rfl (by omega) rfl (by rfl) ?_;conv=>whnf
     refine F7 (A0 ..) rfl (by omega) (A6 ..) ?_;conv=>whnf
     exact .inl ⟨_,rfl,(hst _).over hb4,D6.cons (Le.refl _) (D6.cons (Le.refl _) (D6.cons (Le.refl _) (D6.cons (Le.refl _) (D6.cons (Le.refl _) (D6.cons (Le.refl _) (D6.cons (Le.refl _) (D6.cons (Le.refl _) (D6.cons (Le.refl _) (D6.cons (Le.refl _) (D6.cons (Le.refl _) (D6.cons (Le.refl _) (D6.cons (Le.refl _) (D6.cons (Le.emp _ _) (D6.cons (Le.refl _) (D6.nil)))))))))))))))⟩
    ·rw [show cellsOf (B7 (L2 p id 7))=[eS (I),eI 7,eI (PR),eS (G),eS (C),eB false,D9 [],D9 [],eI (L),eI (1+C3 p.rate 10000),eI 0,eI 0,eI 0,B2 3 Q4 [],B2 3 O5 []] from by rw [hI,hPR,hG,hC,hL];rfl]
     (try subst hG0);(try subst hC0);(try subst hL0)
     conv=>whnf
     refine B0 (L0 _ 10000 (by decide) (by decide) _) ?_;conv=>whnf
     rw [wr]
     refine K8 (A0 ..) rfl (by omega) (A6 ..) (by rfl) ?_
     rw [C5];conv=>whnf
     refine K8 (A0 ..) rfl (by omega) (A6 ..) (by rfl) ?_
     rw [C5];conv=>whnf
     refine K8 (A0 ..) rfl (by omega) (A6 ..) (by rfl) ?_
     rw [C5];conv=>whnf
     refine F7 (A0 ..) rfl (by omega) (A6 ..) ?_;conv=>whnf
     refine K8 (by rw [B1 hne];exact A0 ..) rfl (by omega) rfl (by rfl) ?_;conv=>whnf
     refine F7 (A0 ..) rfl (by omega) (A6 ..) ?_;conv=>whnf
     exact .inl ⟨_,rfl,(hst _).over hb4,D6.cons (Le.refl _) (D6.cons (Le.refl _) (D6.cons (Le.refl _) (D6.cons (Le.refl _) (D6.cons (Le.refl _) (D6.cons (Le.refl _) (D6.cons (Le.emp _ _) (D6.cons (Le.emp _ _) (D6.cons (Le.refl _) (D6.cons (Le.refl _) (D6.cons (Le.refl _) (D6.cons (Le.refl _) (D6.cons (Le.refl _) (D6.cons (Le.emp _ _) (D6.cons (Le.emp _ _) (D6.nil)))))))))))))))⟩
theorem C0J (i:Nat) (h:i<6):Int.tmod (IntKind.i64.wrap (IntKind.i64.wrap ((i:Int) * 7)+3)) 10=B6r i:=by
 rw [A7 (x:=(i:Int) * 7) (by omega) (by omega),A7 (by omega) (by omega),Int.tmod_eq_emod_of_nonneg (by omega)];rfl
theorem B1x (l:List A9) (st:St):S P 67 [B2 15 B7 l] st fun v st'=>v=B2 15 B7 (J1 l)∧st'=st:=by
 refine A1D (ty:=71) ?_
 have hat:∀ i,i<6→S3 l i=A0M (l.getD (i:Int).toNat default) (Int.tmod (IntKind.i64.wrap (IntKind.i64.wrap ((i:Int) * 7)+3)) 10):=fun i hi=>by rw [C0J i hi];rfl
 have hPl:J1 l=(List.range (min l.length 6)).map (S3 l):=rfl
 rw [hPl]
 have hnext:=A4d (S3 l)
 have hS:=fun i=>B2T (l.getD (i:Nat) default)
 generalize S3 l=F at hat hnext ⊢
 refine A8 [] B9 mixed Tryz.func67 (by rfl) rfl rfl rfl ?_;conv=>whnf
 refine lp (min l.length 6) [0,3,4] (fun i vs s=>∃ sv,vs=[B2 15 B7 l,sv,eI i]∧F8 71 15 B7 ((List.range i).map F) st sv s) ?_ ?_
 ·conv=>whnf
  exact ⟨.emp,rfl,F8.start _ _ _ _⟩
 ·rintro i vs s hi ⟨sv,rfl,hc⟩
  have hfin:i=min l.length 6→F8 71 15 B7 ((List.range (min l.length 6)).map F) st sv s:=fun e=>by rw [←e];exact hc
  have hlen:((List.range i).map F).length=i:=by rw [List.length_map,List.length_range]
  conv=>whnf
  refine C0 (fun h1=>?_) (fun h1=>?_)<;>rw [h1]<;>simp only [decide_eq_true_eq,decide_eq_false_iff_not] at h1
  ·conv=>whnf
   refine C0 (fun h2=>?_) (fun h2=>?_)<;>rw [h2]<;>simp only [decide_eq_true_eq,decide_eq_false_iff_not] at h2
   ·have hi':i<min l.length 6:=by omega
    have hF:=hat i (by omega)
    conv=>whnf
    refine ⟨rfl,⟨by omega,by omega⟩,?_⟩;conv=>whnf
    refine B0 (hS (i:Int).toNat _ _) ?_
    generalize hid:Int.tmod (IntKind.i64.wrap (IntKind.i64.wrap ((i:Int) * 7)+3)) 10=ID at hF
    generalize A0M (l.getD (i:Int).toNat default) ID=Y at hF
    conv=>whnf
    refine F8.app (y:=Y) (q:=r71) rfl rfl rfl rfl rfl (by rfl) (by rw [hlen];show (i+1) * 208≤140737488355328;omega) hc (fun sv' t' hc'=>?_);conv=>whnf
    refine ⟨rfl,?_⟩;conv=>whnf
    refine nx hi' ⟨sv',by rw [C2 (by omega)],?_⟩
    rw [hnext,hF];exact hc'
   ·conv=>whnf
    exact hfin (by omega)
  ·conv=>whnf
   exact hfin (by omega)
abbrev A5q (l:List G0):Nat→AV:=fun i=>A1K (l.getD i default)
def A1f (zs:Nat→List G0) (sv:Nat→AV):Nat→St→St→Prop
 | 0=>G3
 | k+1=>fun s t=>ROut (A1f zs sv k) 212 2 (A5q (zs k)) (zs k).length s (sv k) t
theorem A0V (zs:Nat→List G0) (sv:Nat→AV):∀ k,J5 (A1f zs sv k)
 | 0=>J9
 | k+1=>A0a (A0V zs sv k) _ _ _ _ _
theorem A7n {zs zs':Nat→List G0} {sv sv':Nat→AV}:∀ (k:Nat) {s t:St},(∀ j,j<k→zs j=zs' j∧sv j=sv' j)→A1f zs sv k s t→A1f zs' sv' k s t
 | 0,s,t,_,h=>h
 | k+1,s,t,he,h=>by
  obtain ⟨s0,h1,h2⟩:=h
  obtain ⟨e1,e2⟩:=he k (Nat.lt_succ_self k)
  rw [e1,e2] at h1
  exact ⟨s0,h1,A7n k (fun j hj=>he j (Nat.lt_succ_of_lt hj)) h2⟩
theorem A6b {bz n ty:Nat} {zs:Nat→List G0} {sv:Nat→AV} {nm:Nat→D7} {r1 r2:Nat→Int}:∀ (k:Nat) (s t:St) (g:Nat→AV),k≤n→A1f zs sv k s t→s bz=some ⟨ty,4,n,g⟩→(∀ j,j<k→g j=.agg [eS (nm j),sv j,eI (r1 j),eI (r2 j)]) →
  ∃ t' g',(∀ vs,B3 vs t vs t')∧G3 (upd s bz ⟨ty,4,n,g'⟩) t'∧(∀ j,j<k→g' j=.agg [eS (nm j),B2 2 A1K (zs j),eI (r1 j),eI (r2 j)])∧∀ j,k≤j→g' j=g j
 | 0,s,t,g,hk,h,hs,hg=>by
  refine ⟨t,g,fun vs=>B3.refl _ _,fun b x hb=>?_,fun j hj=>absurd hj (by omega),fun j _=>rfl⟩
  by_cases e:b=bz
  ·subst e;rw [A0] at hb;cases hb;exact h _ _ hs
  ·rw [B1 e] at hb;exact h _ _ hb
 | k+1,s,t,g,hk,h,hs,hg=>by
  have hB:=A0V zs sv k
  have ht:t bz=some ⟨ty,4,n,g⟩:=(A0V zs sv (k+1)).sup h _ _ hs
  obtain ⟨t1,hsh,hc⟩:=ROut.shift hB h
  have ht1:t1 bz=some ⟨ty,4,n,g⟩:=hB.sup hc _ _ hs
  have hcell:=fun vs=>B3.cell (vs:=vs) (pre:=[eS (nm k)]) (post:=[eI (r1 k),eI (r2 k)]) hsh ht ht1 (show k<n by omega) (hg k (by omega)) rfl
  have hc':=hB.write (y':=⟨ty,4,n,H2 g k (.agg ([eS (nm k)]++AV.arr 2 (zs k).length (A5q (zs k))::[eI (r1 k),eI (r2 k)]))⟩) hc hs
  obtain ⟨t',g',k1,k2,k3,k4⟩:=A6b (nm:=nm) (r1:=r1) (r2:=r2) k _ _ _ (by omega) hc' (A0 ..) (fun j hj=>by rw [G2 (by omega)];exact hg j (by omega))
  rw [C5] at k2
  refine ⟨t',g',fun vs=>(hcell vs).trans (k1 vs),k2,fun j hj=>?_,fun j hj=>?_⟩
  ·by_cases e:j=k
   ·subst e;rw [k4 j (Nat.le_refl _),A6];rfl
   ·exact k3 j (by omega)
  ·rw [k4 j (by omega),G2 (by omega)]
theorem B9V (k:Nat) (h:k<3):(⟨#[122]⟩:D7)++A9V ([]++[IntKind.u8.wrap (48+IntKind.u8.wrap (k:Int))])=T2 k:=by rw [B0H];rfl
theorem B2V {l:List T7} {k:Nat} (h:k<l.length):E5 l k=⟨T2 k,P2 (l.getD k default).rates,C3 (l.getD k default).rest 3000,C3 (l.getD k default).ship 3000⟩:=if_pos h
theorem B1z {l:List T7} {k:Nat} (h:¬ k<l.length):E5 l k=⟨T2 k,[],1000 * k,500 * k⟩:=if_neg h
theorem C1h {l:List G0} {c:Nat} (hc:c<min 3 l.length):(P2 l).getD c default=A6o l c:=by
 unfold P2
 rw [List.getD_eq_getElem?_getD,List.getElem?_map,List.getElem?_range hc];rfl
abbrev A9F (z:T7) (rv:AV):AV:=.agg [eS z.name,rv,eI z.rest,eI z.ship]
def ZO (t:Tax) (k:Nat) (base:St) (zv:AV) (s:St):Prop :=
 ∃ (sv g:Nat→AV),ROut (A1f (fun j=>(E5 t.zones j).rates) sv k) 177 4 g k base zv s∧∀ j,j<k→g j=A9F (E5 t.zones j) (sv j)
theorem ZO.end {t:Tax} {base s:St} {zv:AV} (h:ZO t 3 base zv s):∃ t',B3 [zv] s [B2 4 A1L (J3 t).zones] t'∧G3 base t':=by
 obtain ⟨sv,g,⟨s1,hcol,hch⟩,hg⟩:=h
 rcases hcol with ⟨h0,_,_⟩ | ⟨h0,bz,g0,hbz,rfl,rfl,hgg⟩
 ·cases h0
 obtain ⟨t',g',hsh,hsup,hg',_⟩:=A6b (nm:=fun j=>(E5 t.zones j).name) (r1:=fun j=>(E5 t.zones j).rest) (r2:=fun j=>(E5 t.zones j).ship) 3 _ s g0 (Nat.le_refl _) hch (A0 ..) (fun j hj=>by rw [hgg j hj,hg j hj])
 rw [C5] at hsup
 refine ⟨del t' bz,(hsh _).trans (O0 (hsup bz _ (A0 ..)) rfl (Nat.le_refl _) fun i hi=>?_),?_⟩
 ·show g' i=A1L ((J3 t).zones.getD i default)
  rw [hg' i hi]
  have:(J3 t).zones.getD i default=E5 t.zones i:=by
   show ((List.range 3).map (E5 t.zones)).getD i default=_
   rw [List.getD_eq_getElem?_getD,List.getElem?_map,List.getElem?_range hi];rfl
  rw [this];rfl
 ·exact G3.del (((G3.refl base).upd hbz).trans hsup) hbz
theorem ZO.next {t:Tax} {k:Nat} {base s1 s:St} {zv rv:AV} {sv g:Nat→AV} (hcol:N1 177 4 g base k zv s1) (hR:ROut (A1f (fun j=>(E5 t.zones j).rates) sv k) 212 2 (A5q (E5 t.zones k).rates) (E5 t.zones k).rates.length s1 rv s) (hg:∀ j,j<k→g j=A9F (E5 t.zones j) (sv j)) :
  ∃ sv' g',ROut (A1f (fun j=>(E5 t.zones j).rates) sv' (k+1)) 177 4 g' k base zv s∧sv' k=rv∧(∀ j,j<k+1→g' j=A9F (E5 t.zones j) (sv' j)):=by
 have hsv:∀ j,j<k→sv j=(fun j=>if j=k then rv else sv j) j:=fun j hj=>by simp only;rw [if_neg (by omega)]
 refine ⟨fun j=>if j=k then rv else sv j,fun j=>A9F (E5 t.zones j) (if j=k then rv else sv j),⟨s1,N1.congr hcol fun j hj=>by rw [hg j hj];show A9F _ _=A9F _ (if j=k then rv else sv j);rw [if_neg (by omega)],?_⟩,by simp,fun j _=>rfl⟩
 obtain ⟨s2,h1,h2⟩:=hR
 refine ⟨s2,?_,A7n k (fun j hj=>⟨rfl,hsv j hj⟩) h2⟩
 simp only [if_true];exact h1
theorem B3w {R:St→St→Prop} {ty e n b:Nat} {fo:Nat→AV} {base s:St} {zv:AV} {y:Q3} (h:ROut R ty e fo n (upd base b y) zv (upd s b y)) (ty' e':Nat) (fo':Nat→AV):∃ s1,N1 ty e fo (upd base b y) n zv s1∧ROut R ty' e' fo' 0 s1 .emp (upd s b y):=by
 obtain ⟨s1,h1,h2⟩:=h
 exact ⟨s1,h1,ROut.start h2 _ _ _⟩
theorem C1u {R:St→St→Prop} (hR:J5 R) {ty e n b ty' e' m:Nat} {fo fo':Nat→AV} {base s1 t:St} {zv rv:AV} {y:Q3} (h1:N1 ty e fo (upd base b y) n zv s1) (h2:ROut R ty' e' fo' m s1 rv t) (y':Q3) :
  ∃ s1',N1 ty e fo (upd base b y') n zv s1'∧ROut R ty' e' fo' m s1' rv (upd t b y'):=by
 have h3:=N1.write (y':=y') h1 (A0 ..)
 rw [C5] at h3
 exact ⟨_,h3,ROut.write hR h2 (h1.sup b _ (A0 ..))⟩
set_option maxHeartbeats 8000000 in
theorem B6K (x:Tax) (st:St):S P 68 [A9M x] st fun v st'=>v=A9M (J3 x)∧st'=st:=by
 have hE:A9M (J3 x)=.agg [eB x.incl,eB x.byOrder,eI (C3 x.round 3),B2 4 A1L (J3 x).zones]:=rfl
 refine S.post (post:=fun v s=>∃ zv base,v=.agg [eB x.incl,eB x.byOrder,eI (C3 x.round 3),zv]∧B3 [zv] s [B2 4 A1L (J3 x).zones] base∧G3 st base) ?_ (fun v s ⟨zv,base,h1,h2,h3⟩=>⟨_,st,⟨hE.symm,rfl⟩,by
  rw [h1]
  exact (B3.agg (B3.cons (B3.keep [eB x.incl] _) (B3.cons (B3.keep [eB x.byOrder] _) (B3.cons (B3.keep [eI (C3 x.round 3)] _) h2)))).trans (h3.shift _)⟩)
 clear hE
 have hRd:=fun s=>A0r x.round 3 (by decide) (by decide) s
 obtain ⟨RD',hRD'⟩:∃ RD',RD'=C3 x.round 3:=⟨_,rfl⟩
 rw [←hRD'] at hRd ⊢
 have hend:=fun base s zv=>ZO.end (t:=x) (base:=base) (s:=s) (zv:=zv)
 have hnext:=fun k base s1 s zv rv sv g=>ZO.next (t:=x) (k:=k) (base:=base) (s1:=s1) (s:=s) (zv:=zv) (rv:=rv) (sv:=sv) (g:=g)
 generalize B2 4 A1L (J3 x).zones=ZS at hend ⊢
 refine A8 [1] B9 mixed Tryz.func68 (by rfl) rfl rfl rfl ?_;conv=>whnf
 intro b2 hb2;conv=>whnf
 refine ⟨[8,9],[1,3,5,6],List.range 10,by kernel_rfl,?_⟩;conv=>whnf
 refine ⟨_,fun s _=>⟨rfl,rfl⟩,?_⟩;conv=>whnf
 refine ⟨_,fun s _=>⟨rfl,rfl⟩,?_⟩;conv=>whnf
 refine ⟨_,fun s _=>⟨rfl,rfl⟩,?_⟩;conv=>whnf
 refine ⟨_,fun s _=>D3 (hRd s),?_⟩;conv=>whnf
 intro b3 hb3
 have h23:b2≠b3:=fun e=>by subst e;rw [A0] at hb3;cases hb3
 conv=>whnf
 refine K8 (A0 ..) rfl (by omega) rfl (by rfl) ?_
 rw [C5];conv=>whnf
 refine lp 3 [1,2,3,4] (fun k vs s=>∃ zv f,vs=[.fptr (A9M x) 0,.optr 4 b2 0 0,.optr 4 b3 0 0,eI k]∧f 0=.agg [eB x.incl,eB x.byOrder,eI RD',zv]∧ZO x k (upd (upd st b2 ⟨26,4,1,fun _=>J7 r26.zero⟩) b3 ⟨26,4,1,f⟩) zv s) ?_ ?_
 ·conv=>whnf
  exact ⟨.emp,_,rfl,by first | rfl | (rw [A6];rfl),fun _=>.junk,fun _=>.junk,ROut.start (show A1f _ _ 0 _ _ from G3.refl _) _ _ _,fun j hj=>absurd hj (by omega)⟩
 rintro k vs s hk ⟨zv,f,rfl,hf,sv,g,hR,hg⟩
 have hB:=A0V (fun j=>(E5 x.zones j).rates) sv k
 have hsup:=ROut.sup hB hR
 have at3:s b3=some ⟨26,4,1,f⟩:=hsup b3 _ (A0 ..)
 have at2:s b2=some ⟨26,4,1,fun _=>J7 r26.zero⟩:=hsup b2 _ (by rw [B1 h23];exact A0 ..)
 conv=>whnf
 refine C0 (fun h1=>?_) (fun h1=>?_)<;>rw [h1]<;>simp only [decide_eq_true_eq,decide_eq_false_iff_not] at h1
 case refine_2 =>
  obtain rfl:k=3:=by omega
  have hz:=ROut.head hR
  obtain ⟨y2,hy2⟩:∃ y2:Q3,y2=⟨26,4,1,H2 (fun _=>J7 r26.zero) 0 (.agg [eB x.incl,eB x.byOrder,eI RD',zv])⟩:=⟨_,rfl⟩
  obtain ⟨base,k1,k2⟩:=hend _ _ _ ⟨sv,g,ROut.write hB hR (b:=b2) (y':=y2) (by rw [B1 h23];exact A0 ..),hg⟩
  subst hy2
  rcases hz with rfl | ⟨bz,rfl⟩
  all_goals
   conv=>whnf
   refine F7 at3 rfl (by omega) hf ?_;conv=>whnf
   refine K8 at2 rfl (by omega) rfl (by rfl) ?_;conv=>whnf
   refine F7 (A0 ..) rfl (by omega) (A6 ..) ?_;conv=>whnf
   exact ⟨_,base,rfl,k1,((((G3.refl st).upd hb2).upd hb3).over hb2).trans k2⟩
 have hk3:k<3:=by omega
 have hzn:=B9V k hk3
 have w1:IntKind.i64.wrap (1000 * (k:Int))=1000 * k:=A7 (by omega) (by omega)
 have w2:IntKind.i64.wrap (500 * (k:Int))=500 * k:=A7 (by omega) (by omega)
 have hname:∀ j,(E5 x.zones j).name=T2 j:=fun j=>by unfold E5;split<;>rfl
 conv=>whnf
 intro b5 hb5
 have h35:b3≠b5:=fun e=>by subst e;rw [at3] at hb5;cases hb5
 have h25:b2≠b5:=fun e=>by subst e;rw [at2] at hb5;cases hb5
 have hbase5:(upd (upd st b2 ⟨26,4,1,fun _=>J7 r26.zero⟩) b3 ⟨26,4,1,f⟩) b5=none:=hsup.none hb5
 conv=>whnf
 rw [hzn,w1,w2]
 refine K8 (A0 ..) rfl (by omega) rfl (by rfl) ?_
 rw [C5]
 /- the tail: the zone as it then stands is appended -/
 have tail:∀ (s2 s1:St) (rv:AV) (f5:Nat→AV),N1 177 4 g (upd (upd (upd st b2 ⟨26,4,1,fun _=>J7 r26.zero⟩) b3 ⟨26,4,1,f⟩) b5 ⟨177,4,1,f5⟩) k zv s1 →
   ROut (A1f (fun j=>(E5 x.zones j).rates) sv k) 212 2 (A5q (E5 x.zones k).rates) (E5 x.zones k).rates.length s1 rv s2 →
   ∀ (X:AV) (gg:Nat→AV),V9 4 s2 X=some (1,gg)→gg 0=A9F (E5 x.zones k) rv →
   ∀ (K:KK),(∀ zv' t2,t2 b3=some ⟨26,4,1,f⟩→(zv'=.emp∨∃ b,zv'=.own 4 b 0 (k+1))→(∀ f',ZO x (k+1) (upd (upd st b2 ⟨26,4,1,fun _=>J7 r26.zero⟩) b3 ⟨26,4,1,f'⟩) zv' (upd t2 b3 ⟨26,4,1,f'⟩))→K zv' t2) →
   A4w T 24 zv X s2 K:=by
  intro s2 s1 rv f5 hcol hrt X gg hs hgg K hK
  obtain ⟨sv',g',q1,q2,q3⟩:=hnext _ _ _ _ _ _ _ _ hcol hrt hg
  have hB':=A0V (fun j=>(E5 x.zones j).rates) sv' (k+1)
  refine ROut.app (q:=C1c) (f:=g') hB' rfl rfl rfl rfl hs (by rw [q3 k (Nat.lt_succ_self k),q2,hgg]) (by show (k+1) * 56≤140737488355328;omega) q1 (fun zv' t2 hR2=>?_)
  have hsup2:=ROut.sup hB' hR2
  have hd:∀ f',ROut (A1f (fun j=>(E5 x.zones j).rates) sv' (k+1)) 177 4 g' (k+1) (upd (upd st b2 ⟨26,4,1,fun _=>J7 r26.zero⟩) b3 ⟨26,4,1,f'⟩) zv' (upd t2 b3 ⟨26,4,1,f'⟩):=fun f'=>by
   have h1:=ROut.write hB' hR2 (b:=b3) (y':=⟨26,4,1,f'⟩) (by rw [B1 h35];exact A0 ..)
   rw [O6 h35.symm,C5] at h1
   refine (A0a hB' _ _ _ _ _).drop h1 ?_
   rw [B1 h35.symm] at hbase5 ⊢;exact hbase5
  exact hK zv' t2 (hsup2 b3 _ (by rw [B1 h35];exact A0 ..)) (ROut.head hR2) fun f'=>⟨sv',g',hd f',q3⟩
 have hbeg:=fun y=>(A0a hB 177 4 g k zv).begin (y:=y) hR hb5
 conv=>whnf
 refine C0 (fun h2=>?_) (fun h2=>?_)<;>rw [h2]<;>simp only [decide_eq_true_eq,decide_eq_false_iff_not] at h2
 case refine_2 =>
  have hz:=B1z (l:=x.zones) (k:=k) (by omega)
  rw [hz] at tail
  rcases ROut.head hR with rfl | ⟨bz,rfl⟩
  all_goals
   conv=>whnf
   refine F7 (by rw [B1 h35];exact at3) rfl (by omega) hf ?_;conv=>whnf
   refine F7 (A0 ..) rfl (by omega) (A6 ..) ?_;conv=>whnf
   obtain ⟨s1,hcol,hrt⟩:=B3w (hbeg ⟨177,4,1,H2 (fun _=>J7 C1c.zero) 0 (.agg [eS (T2 k),.emp,eI (1000 * k),eI (500 * k)])⟩) 212 2 (A5q [])
   refine tail _ s1 .emp _ hcol hrt _ _ rfl rfl _ (fun zv' t2 q1 q2 q3=>?_)
   rcases q2 with rfl | ⟨bq,rfl⟩
   all_goals
    conv=>whnf
    refine K8 q1 rfl (by omega) hf (by rfl) ?_;conv=>whnf
    refine ⟨rfl,?_⟩;conv=>whnf
    exact nx hk3 ⟨_,_,by rw [C2 (by omega)],(by rw [A6];rfl),q3 _⟩
 have hz:=B2V (l:=x.zones) (k:=k) (by omega)
 have hrl:=fun c=>C1h (l:=(x.zones.getD (k:Int).toNat default).rates) (c:=c)
 have hrn:(P2 (x.zones.getD (k:Int).toNat default).rates).length=min 3 (x.zones.getD (k:Int).toNat default).rates.length:=by unfold P2;rw [List.length_map,List.length_range]
 rw [hz] at tail
 have hM1:=fun s=>L0 (x.zones.getD (k:Int).toNat default).rest 3000 (by decide) (by decide) s
 have hM2:=fun s=>L0 (x.zones.getD (k:Int).toNat default).ship 3000 (by decide) (by decide) s
 have tail':_:=tail
 rw [show x.zones.getD k default=x.zones.getD (k:Int).toNat default from rfl] at tail'
 clear tail
 generalize P2 (x.zones.getD (k:Int).toNat default).rates=RL at tail' hrl hrn
 generalize C3 (x.zones.getD (k:Int).toNat default).rest 3000=M1 at tail' hM1
 generalize C3 (x.zones.getD (k:Int).toNat default).ship 3000=M2 at tail' hM2
 conv=>whnf
 refine ⟨[15,17],[],List.range 18,by kernel_rfl,?_⟩;conv=>whnf
 refine ⟨rfl,⟨by omega,by omega⟩,?_⟩;conv=>whnf
 refine ⟨_,D3 (hM1 _),?_⟩;conv=>whnf
 refine ⟨rfl,⟨by omega,by omega⟩,?_⟩;conv=>whnf
 refine ⟨_,D3 (hM2 _),?_⟩;conv=>whnf
 refine K8 (A0 ..) rfl (by omega) (A6 ..) (by rfl) ?_
 rw [C5];conv=>whnf
 refine K8 (A0 ..) rfl (by omega) (A6 ..) (by rfl) ?_
 rw [C5];conv=>whnf
 refine lp (min 3 (x.zones.getD (k:Int).toNat default).rates.length) [1,2,3,4,5,6] (fun c vs s'=>∃ rv f5,vs=[.fptr (A9M x) 0,.optr 4 b2 0 0,.optr 4 b3 0 0,eI k,.optr 4 b5 0 0,eI c]∧f5 0=.agg [eS (T2 k),rv,eI M1,eI M2] ∧
   ∃ s1,N1 177 4 g (upd (upd (upd st b2 ⟨26,4,1,fun _=>J7 r26.zero⟩) b3 ⟨26,4,1,f⟩) b5 ⟨177,4,1,f5⟩) k zv s1∧ROut (A1f (fun j=>(E5 x.zones j).rates) sv k) 212 2 (A5q RL) c s1 rv s') ?_ ?_
 ·conv=>whnf
  exact ⟨.emp,_,rfl,by first | rfl | (rw [A6];rfl),B3w (hbeg _) _ _ _⟩
 rintro c vs s' hc ⟨rv,f5,rfl,hf5,s1,hcol,hrt⟩
 have hsup':=ROut.sup hB hrt
 have at5:s' b5=some ⟨177,4,1,f5⟩:=hsup' b5 _ (hcol.sup b5 _ (A0 ..))
 have at3':s' b3=some ⟨26,4,1,f⟩:=hsup' b3 _ (hcol.sup b3 _ (by rw [B1 h35];exact A0 ..))
 conv=>whnf
 refine C0 (fun h3=>?_) (fun h3=>?_)<;>rw [h3]<;>simp only [decide_eq_true_eq,decide_eq_false_iff_not] at h3
 case' refine_1 =>
  conv=>whnf
  refine ⟨rfl,⟨by omega,by omega⟩,?_⟩;conv=>whnf
  refine C0 (fun h4=>?_) (fun h4=>?_)<;>rw [h4]<;>simp only [decide_eq_true_eq,decide_eq_false_iff_not] at h4
 case refine_1.refine_1 =>
  have hc':c<min 3 (x.zones.getD (k:Int).toNat default).rates.length:=by omega
  have hra:=hrl c hc'
  rcases ROut.head hrt with rfl | ⟨br,rfl⟩
  all_goals
   conv=>whnf
   refine ⟨[17,19],[14],List.range 20,by kernel_rfl,?_⟩;conv=>whnf
   refine F7 at5 rfl (by omega) hf5 ?_;conv=>whnf
   refine ⟨_,D3 (A3i _ _),?_⟩;conv=>whnf
   refine ⟨rfl,⟨by omega,by omega⟩,?_⟩;conv=>whnf
   refine ⟨rfl,⟨by omega,by omega⟩,?_⟩;conv=>whnf
   refine ⟨_,fun s _=>D3 (L0 _ 3000 (by decide) (by decide) s),?_⟩;conv=>whnf
   refine ⟨_,⟨rfl,rfl⟩,?_⟩;conv=>whnf
   refine ROut.app (q:=C2M) hB rfl rfl rfl rfl rfl (f:=A5q RL) (by show _=A1K _;rw [hra];rfl) (by show (c+1) * 24≤140737488355328;omega) hrt (fun rv' t2 hrt2=>?_)
   have at5':t2 b5=some ⟨177,4,1,f5⟩:=ROut.sup hB hrt2 b5 _ (hcol.sup b5 _ (A0 ..))
   rcases ROut.head hrt2 with rfl | ⟨br',rfl⟩
   all_goals
    conv=>whnf
    refine K8 at5' rfl (by omega) hf5 (by rfl) ?_;conv=>whnf
    refine ⟨rfl,?_⟩;conv=>whnf
    exact nx hc' ⟨_,_,by rw [C2 (by omega)],(by rw [A6];rfl),C1u hB hcol hrt2 _⟩
 all_goals
  have hce:RL.length=c:=by omega
  rw [←hce] at hrt
  rcases ROut.head hR with rfl | ⟨bz,rfl⟩
  all_goals
   rcases ROut.head hrt with rfl | ⟨br,rfl⟩
   all_goals
    conv=>whnf
    refine F7 at3' rfl (by omega) hf ?_;conv=>whnf
    refine F7 at5 rfl (by omega) hf5 ?_;conv=>whnf
    refine tail' _ s1 _ _ hcol hrt _ _ rfl rfl _ (fun zv' t2 q1 q2 q3=>?_)
    rcases q2 with rfl | ⟨bq,rfl⟩
    all_goals
     conv=>whnf
     refine K8 q1 rfl (by omega) hf (by rfl) ?_;conv=>whnf
     refine ⟨rfl,?_⟩;conv=>whnf
     exact nx hk3 ⟨_,_,by rw [C2 (by omega)],(by rw [A6];rfl),q3 _⟩
set_option maxHeartbeats 8000000 in
theorem B2U (r:I6) (st:St):S P 15 [J6 r] st fun v st'=>v=J6 (X1 r)∧st'=st:=by
 have hE:J6 (X1 r)=.agg [B2 4 F4 (L6 r.items),B2 15 B7 (J1 r.promos),eB (J3 r.tax).incl,eB (J3 r.tax).byOrder,eI (J3 r.tax).round,B2 4 A1L (J3 r.tax).zones,eI (C3 r.ship.fee 900),eI (C3 r.ship.free 3 * 4000),
  eI (20+C3 r.policy.window 60),eI (C3 r.policy.grace 40),eI (1+C3 r.policy.mode 3),eI (C3 r.policy.restock 3 * C3 r.policy.restock 2500),B6 (K1 r.policy.order),B6 (K1 r.policy.credit)]:=rfl
 rw [hE]
 clear hE
 have h1:=E3 r.ship.fee (n:=900) (by decide)
 have h2:=E3 r.ship.free (n:=3) (by decide)
 have h3:=E3 r.policy.window (n:=60) (by decide)
 have h5:=E3 r.policy.mode (n:=3) (by decide)
 have h6:=E3 r.policy.restock (n:=3) (by decide)
 have h7:=E3 r.policy.restock (n:=2500) (by decide)
 have h8:C3 r.policy.restock 3 * C3 r.policy.restock 2500≤2 * 2499:=Int.mul_le_mul (by omega) (by omega) (by omega) (by omega)
 have h9:0≤C3 r.policy.restock 3 * C3 r.policy.restock 2500:=Int.mul_nonneg h6.1 h7.1
 have w1:IntKind.i64.wrap (C3 r.ship.free 3 * 4000)=C3 r.ship.free 3 * 4000:=A7 (by omega) (by omega)
 have w2:IntKind.i64.wrap (20+C3 r.policy.window 60)=20+C3 r.policy.window 60:=A7 (by omega) (by omega)
 have w3:IntKind.i64.wrap (1+C3 r.policy.mode 3)=1+C3 r.policy.mode 3:=A7 (by omega) (by omega)
 have w4:IntKind.i64.wrap (C3 r.policy.restock 3 * C3 r.policy.restock 2500)=C3 r.policy.restock 3 * C3 r.policy.restock 2500:=A7 (by omega) (by omega)
 have m1:=fun s=>L0 r.ship.fee 900 (by decide) (by decide) s
 have m2:=fun s=>L0 r.ship.free 3 (by decide) (by decide) s
 have m3:=fun s=>A0r r.policy.window 60 (by decide) (by decide) s
 have m4:=fun s=>A0r r.policy.grace 40 (by decide) (by decide) s
 have m5:=fun s=>A0r r.policy.mode 3 (by decide) (by decide) s
 have m6:=fun s=>L0 r.policy.restock 3 (by decide) (by decide) s
 have m7:=fun s=>L0 r.policy.restock 2500 (by decide) (by decide) s
 have c1:=fun s=>B2Q r.items s
 have c2:=fun s=>B1x r.promos s
 have c3:∀ s,S P 68 [A9M r.tax] s fun v st'=>v=.agg [eB (J3 r.tax).incl,eB (J3 r.tax).byOrder,eI (J3 r.tax).round,B2 4 A1L (J3 r.tax).zones]∧st'=s:=fun s=>B6K r.tax s
 have c4:=fun s=>A7s r.policy.order s
 have c5:=fun s=>A7s r.policy.credit s
 clear h1 h2 h3 h5 h6 h7 h8 h9
 generalize C3 r.ship.fee 900=M1 at *
 generalize C3 r.ship.free 3=M2 at *
 generalize C3 r.policy.window 60=M3 at *
 generalize C3 r.policy.grace 40=M4 at *
 generalize C3 r.policy.mode 3=M5 at *
 generalize C3 r.policy.restock 3=M6 at *
 generalize C3 r.policy.restock 2500=M7 at *
 generalize L6 r.items=V1 at *
 generalize J1 r.promos=V2 at *
 generalize J3 r.tax=V3 at *
 generalize K1 r.policy.order=V4 at *
 generalize K1 r.policy.credit=V5 at *
 refine A5c ?_
 refine A8 [1,3] B9 mixed Tryz.func15 (by rfl) rfl rfl rfl ?_;conv=>whnf
 intro b2 hb;conv=>whnf
 refine ⟨[45],[],List.range 46,by kernel_rfl,?_⟩;conv=>whnf
 refine ⟨_,D3 (c1 _),?_⟩;conv=>whnf
 refine ⟨_,D3 (c2 _),?_⟩;conv=>whnf
 refine ⟨_,D3 (c3 _),?_⟩;conv=>whnf
 refine ⟨_,D3 (m1 _),?_⟩;conv=>whnf
 refine ⟨_,D3 (m2 _),?_⟩;conv=>whnf
 rw [w1]
 refine ⟨_,D3 (m3 _),?_⟩;conv=>whnf
 rw [w2]
 refine ⟨_,D3 (m4 _),?_⟩;conv=>whnf
 refine ⟨_,D3 (m5 _),?_⟩;conv=>whnf
 rw [w3]
 refine ⟨_,D3 (m6 _),?_⟩;conv=>whnf
 refine ⟨_,D3 (m7 _),?_⟩;conv=>whnf
 rw [w4]
 refine ⟨_,D3 (c4 _),?_⟩;conv=>whnf
 refine ⟨_,D3 (c5 _),?_⟩;conv=>whnf
 refine K8 (A0 ..) rfl (by omega) rfl (by rfl) ?_;conv=>whnf
 refine F7 (A0 ..) rfl (by omega) (A6 ..) ?_;conv=>whnf
 exact ⟨rfl,((G3.refl st).upd hb).over hb⟩
theorem B4y (r:I6) (codes:List D7) (l:List G1) (hn:r.promos.length<9223372036854775807) (hsm:Y7 r) (hR:P6 r=false) (st:St) :
  S P 19 [J6 r,D9 codes,B2 3 I9 l] st fun v st'=>v=.tuple [U1 ⟨[],0,0,[]⟩,eI 10]∧st'=st:=by
 refine S.post (post:=fun v st'=>v=.tuple [.agg [.emp,eI 0,eI 0,.emp],eI 10]∧G3 st st') ?_ (fun v st' ⟨hv,hs⟩=>by
  subst hv
  refine ⟨_,st,⟨rfl,rfl⟩,?_⟩
  refine (hs.shift _).trans (B3.tuple (B3.cons (B3.agg ?_) (B3.keep _ _)) rfl)
  exact B3.cons (I8 1 _) (B3.cons (B3.keep [eI 0] _) (B3.cons (B3.keep [eI 0] _) (I8 2 _))))
 have n1:=fun s=>B3f r hn hsm s
 rw [hR] at n1
 refine A8 [3,15,20] B9 mixed Tryz.func19 (by rfl) rfl rfl rfl ?_;conv=>whnf
 intro b6 hb6;conv=>whnf
 refine B0 (n1 _) ?_
 have h6s:∀ x:Q3,G3 st (upd st b6 x):=fun x=>(G3.refl st).upd hb6
 conv=>whnf
 refine K8 (A0 ..) rfl (by omega) rfl (by rfl) ?_;conv=>whnf
 refine F7 (A0 ..) rfl (by omega) (A6 ..) ?_;conv=>whnf
 exact ⟨rfl,(h6s _).over hb6⟩
theorem B3d (r:I6) (codes:List D7) (l:List G1) (hf:U3 r) (hsm:Y7 r) (hn:r.promos.length<9223372036854775807) (hcn:Sm codes.length) (hcs:∀ s∈codes,Sm s.size) (hln:Sm l.length) (st:St) :
  S P 19 [J6 r,D9 codes,B2 3 I9 l] st fun v st' =>
   v=(if D0 r codes l=0 then .tuple [U1 (Q7 r l (Q0 r.promos codes) (Q0 r.promos codes)),eI 0] else .tuple [U1 ⟨[],0,0,[]⟩,eI (D0 r codes l)])∧st'=st:=by
 cases hR:P6 r
 ·have hp:D0 r codes l=10:=if_pos hR
  rw [hp,if_neg (by decide)]
  exact B4y r codes l hn hsm hR st
 ·exact B8Z r codes l hf hsm hR hcn hcs hln st
def xch (f:Nat→Int) (x y n k:Nat):Int:=if x≤k∧k<x+n then f (k - x+y) else if y≤k∧k<y+n then f (k - y+x) else f k
def A1T (f:Nat→Int) (a m e k:Nat):Int:=if k<a then f k else if k<a+(e - m) then f (k+(m - a)) else if k<e then f (k - (e - m)) else f k
theorem B9f {f g:Nat→Int} {m i j:Nat} (him:i≤m) (hij:j<i) (hg:∀ k,g k=xch f (m - i) m j k) (k:Nat):A1T g (m - i+j) m (m+j) k=A1T f (m - i) m (m+j) k:=by
 unfold A1T
 simp only [hg,xch]
 repeat' split
 all_goals first | (exfalso;omega) | (congr 1<;>omega)
theorem B6U {f g:Nat→Int} {m i j:Nat} (him:i≤m) (hij:i<j) (hg:∀ k,g k=xch f (m - i) (m+j - i) i k) (k:Nat):A1T g (m - i) m (m+j - i) k=A1T f (m - i) m (m+j) k:=by
 unfold A1T
 simp only [hg,xch]
 repeat' split
 all_goals first | (exfalso;omega) | (congr 1<;>omega)
theorem B9g {f g:Nat→Int} {m i:Nat} (him:i≤m) (hg:∀ k,g k=xch f (m - i) m i k) (k:Nat):g k=A1T f (m - i) m (m+i) k:=by
 unfold A1T
 simp only [hg,xch]
 repeat' split
 all_goals first | (exfalso;omega) | (congr 1<;>omega)
theorem B3j {f:Nat→Int} {s m t:Nat} (h:s=m∨m=t) (h1:s≤m) (h2:m≤t) (k:Nat):A1T f s m t k=f k:=by
 unfold A1T
 repeat' split
 all_goals first | rfl | (exfalso;omega) | (congr 1<;>omega)
structure Mid (lt:Int→Int→Bool) (f:Nat→Int) (s0 s r r0 p:Nat):Prop where
 le:s0≤s∧s≤r∧r≤r0
 lo:∀ c,s0≤c→c<s→lt (f (p - c)) (f c)=false
 hi:∀ c,r≤c→c<r0→lt (f (p - c)) (f c)=true
theorem Mid.low {lt:Int→Int→Bool} (ho:Ord lt) {f:Nat→Int} {s0 s r r0 p a m e c:Nat} (h:Mid lt f s0 s r r0 p) (hc:s≤c∧c<r) (ha:a≤s0) (hm:r0≤m) (hp:∀ k,s0≤k→k<r0→m≤p - k∧p - k<e∧k≤p)
  (hl:∀ x y,a≤x→x<y→y<m→lt (f y) (f x)=false) (hr:∀ x y,m≤x→x<y→y<e→lt (f y) (f x)=false) (hn:lt (f (p - c)) (f c)=false):Mid lt f s0 (c+1) r r0 p:=by
 obtain ⟨h1,h2,h3⟩:=h.le
 refine ⟨⟨by omega,by omega,h3⟩,fun k hk hkc=>?_,h.hi⟩
 by_cases e1:k=c
 ·subst e1;exact hn
 ·have g1:=hl k c (by omega) (by omega) (by omega)
  obtain ⟨q1,q2,q3⟩:=hp c (by omega) (by omega)
  obtain ⟨u1,u2,u3⟩:=hp k (by omega) (by omega)
  have g2:=hr (p - c) (p - k) (by omega) (by omega) (by omega)
  exact ho.le _ _ _ (ho.le _ _ _ g1 hn) g2
theorem Mid.high {lt:Int→Int→Bool} (ho:Ord lt) {f:Nat→Int} {s0 s r r0 p a m e c:Nat} (h:Mid lt f s0 s r r0 p) (hc:s≤c∧c<r) (ha:a≤s0) (hm:r0≤m) (hp:∀ k,s0≤k→k<r0→m≤p - k∧p - k<e∧k≤p)
  (hl:∀ x y,a≤x→x<y→y<m→lt (f y) (f x)=false) (hr:∀ x y,m≤x→x<y→y<e→lt (f y) (f x)=false) (hn:lt (f (p - c)) (f c)=true):Mid lt f s0 s c r0 p:=by
 obtain ⟨h1,h2,h3⟩:=h.le
 refine ⟨⟨h1,by omega,by omega⟩,h.lo,fun k hk hkr=>?_⟩
 by_cases e1:k=c
 ·subst e1;exact hn
 ·have g1:=hl c k (by omega) (by omega) (by omega)
  obtain ⟨q1,q2,q3⟩:=hp c (by omega) (by omega)
  obtain ⟨u1,u2,u3⟩:=hp k (by omega) (by omega)
  have g2:=hr (p - k) (p - c) (by omega) (by omega) (by omega)
  cases hb:lt (f (p - k)) (f k) with
  | true=>rfl
  | false=>rw [ho.le _ _ _ (ho.le _ _ _ g1 hb) g2] at hn;cases hn
structure Cut (lt:Int→Int→Bool) (f:Nat→Int) (a s mid t e:Nat):Prop where
 le:a≤s∧s≤mid∧mid≤t∧t≤e
 r1:∀ x y,a≤x→x<y→y<s→lt (f y) (f x)=false
 r2:∀ x y,s≤x→x<y→y<mid→lt (f y) (f x)=false
 r3:∀ x y,mid≤x→x<y→y<t→lt (f y) (f x)=false
 r4:∀ x y,t≤x→x<y→y<e→lt (f y) (f x)=false
 cross:∀ x y,a≤x→x<mid→mid≤y→y<e→lt (f y) (f x)=false
theorem C2s {lt:Int→Int→Bool} (ho:Ord lt) {f g:Nat→Int} {a m e mid n s0 r0 s t:Nat} (ham:a<m) (hme:m<e) (hmid:mid=(a+e) / 2) (hn:n=mid+m)
  (h0:s0=if mid<m then n - e else a) (hr0:r0=if mid<m then mid else m) (hM:Mid lt f s0 s s r0 (n - 1)) (ht:t=n - s) (hg:∀ k,g k=A1T f s m t k)
  (hl:∀ x y,a≤x→x<y→y<m→lt (f y) (f x)=false) (hr:∀ x y,m≤x→x<y→y<e→lt (f y) (f x)=false):Cut lt g a s mid t e:=by
 obtain ⟨h1,-,h3⟩:=hM.le
 have b0:a≤s0∧n - s0≤e∧r0≤m∧r0≤mid∧(s0=a∨n - s0=e)∧(r0=m∨r0=mid):=by split at h0<;>split at hr0<;>omega
 obtain ⟨b1,b2,b3,b4,b5,b6⟩:=b0
 have A1:∀ k,a≤k→k<s→g k=f k:=fun k _ hk=>by rw [hg];unfold A1T;rw [if_pos hk]
 have A2:∀ k,s≤k→k<mid→g k=f (k+(m - s)):=fun k h1 h2=>by rw [hg];unfold A1T;rw [if_neg (by omega),if_pos (by omega)]
 have A3:∀ k,mid≤k→k<t→g k=f (k - (t - m)):=fun k h1 h2=>by rw [hg];unfold A1T;rw [if_neg (by omega),if_neg (by omega),if_pos (by omega)]
 have A4:∀ k,t≤k→k<e→g k=f k:=fun k h1 h2=>by rw [hg];unfold A1T;rw [if_neg (by omega),if_neg (by omega),if_neg (by omega)]
 have lle:∀ x y,a≤x→x≤y→y<m→lt (f y) (f x)=false:=fun x y h1 h2 h3=>by
  by_cases e1:x=y
  ·subst e1;exact ho.irrefl _
  ·exact hl x y h1 (by omega) h3
 have rle:∀ x y,m≤x→x≤y→y<e→lt (f y) (f x)=false:=fun x y h1 h2 h3=>by
  by_cases e1:x=y
  ·subst e1;exact ho.irrefl _
  ·exact hr x y h1 (by omega) h3
 refine ⟨⟨by omega,by omega,by omega,by omega⟩,fun x y h1 h2 h3=>?_,fun x y h1 h2 h3=>?_,fun x y h1 h2 h3=>?_,fun x y h1 h2 h3=>?_,fun x y h1 h2 h3 h4=>?_⟩
 ·rw [A1 x (by omega) (by omega),A1 y (by omega) (by omega)];exact hl x y h1 h2 (by omega)
 ·rw [A2 x (by omega) (by omega),A2 y (by omega) (by omega)];exact hr _ _ (by omega) (by omega) (by omega)
 ·rw [A3 x (by omega) (by omega),A3 y (by omega) (by omega)];exact hl _ _ (by omega) (by omega) (by omega)
 ·rw [A4 x (by omega) (by omega),A4 y (by omega) (by omega)];exact hr x y (by omega) h2 h3
 ·by_cases ex:x<s
  ·rw [A1 x h1 ex]
   by_cases ey:y<t
   ·rw [A3 y h3 ey];exact lle _ _ h1 (by omega) (by omega)
   ·rw [A4 y (by omega) h4]
    have hs:s0<s:=by omega
    have hc:=hM.lo (s - 1) (by omega) (by omega)
    have e1:n - 1 - (s - 1)=t:=by omega
    rw [e1] at hc
    exact ho.le _ _ _ (ho.le _ _ _ (lle x (s - 1) h1 (by omega) (by omega)) hc) (rle t y (by omega) (by omega) h4)
  ·rw [A2 x (by omega) h2]
   by_cases ey:y<t
   ·rw [A3 y h3 ey]
    have hs:s<r0:=by omega
    have hc:=ho.asymm _ _ (hM.hi s (Nat.le_refl _) hs)
    have e1:n - 1 - s=t - 1:=by omega
    rw [e1] at hc
    exact ho.le _ _ _ (ho.le _ _ _ (rle (x+(m - s)) (t - 1) (by omega) (by omega) (by omega)) hc) (lle s _ (by omega) (by omega) (by omega))
   ·rw [A4 y (by omega) h4];exact rle _ _ (by omega) (by omega) h4
structure P3 (lt:Int→Int→Bool) (f g:Nat→Int) (a e:Nat):Prop where
 srt:∀ x y,a≤x→x<y→y<e→lt (g y) (g x)=false
 out:∀ k,k<a∨e≤k→g k=f k
 frm:∀ k,a≤k→k<e→∃ k',a≤k'∧k'<e∧g k=f k'
theorem Cut.join {lt:Int→Int→Bool} {f g h:Nat→Int} {a s mid t e:Nat} (hc:Cut lt f a s mid t e) (h1:P3 lt f g a mid) (h2:P3 lt g h mid e):P3 lt f h a e:=by
 obtain ⟨l1,l2,l3,l4⟩:=hc.le
 have lo:∀ k,a≤k→k<mid→∃ k',a≤k'∧k'<mid∧h k=f k':=fun k q1 q2=>by rw [h2.out k (.inl q2)];exact h1.frm k q1 q2
 have hi:∀ k,mid≤k→k<e→∃ k',mid≤k'∧k'<e∧h k=f k':=fun k q1 q2=>by
  obtain ⟨k',u1,u2,u3⟩:=h2.frm k q1 q2
  exact ⟨k',u1,u2,u3.trans (h1.out k' (.inr u1))⟩
 refine ⟨fun x y q1 q2 q3=>?_,fun k hk=>?_,fun k q1 q2=>?_⟩
 ·by_cases ey:y<mid
  ·rw [h2.out x (.inl (by omega)),h2.out y (.inl ey)];exact h1.srt x y q1 q2 ey
  ·by_cases ex:x<mid
   ·obtain ⟨x',u1,u2,u3⟩:=lo x q1 ex
    obtain ⟨y',v1,v2,v3⟩:=hi y (by omega) q3
    rw [u3,v3];exact hc.cross x' y' u1 u2 v1 v2
   ·exact h2.srt x y (by omega) q2 q3
 ·rw [h2.out k (by omega),h1.out k (by omega)]
 ·by_cases ek:k<mid
  ·obtain ⟨k',u1,u2,u3⟩:=lo k q1 ek;exact ⟨k',u1,by omega,u3⟩
  ·obtain ⟨k',u1,u2,u3⟩:=hi k (by omega) q2;exact ⟨k',by omega,u2,u3⟩
theorem P3.refl {lt:Int→Int→Bool} {f:Nat→Int} {a e:Nat} (h:∀ x y,a≤x→x<y→y<e→lt (f y) (f x)=false):P3 lt f f a e:=⟨h,fun _ _=>rfl,fun k h1 h2=>⟨k,h1,h2,rfl⟩⟩
theorem B9e {f g:Nat→Int} {a s m t e:Nat} (h1:a≤s) (h2:s≤m) (h3:m≤t) (h4:t≤e) (hg:∀ k,g k=A1T f s m t k):(∀ k,k<a∨e≤k→g k=f k)∧∀ k,a≤k→k<e→∃ k',a≤k'∧k'<e∧g k=f k':=by
 refine ⟨fun k hk=>?_,fun k q1 q2=>?_⟩
 ·rw [hg];unfold A1T
  repeat' split
  all_goals first | rfl | (exfalso;omega)
 ·rw [hg];unfold A1T
  repeat' split
  ·exact ⟨k,q1,q2,rfl⟩
  ·exact ⟨_,by omega,by omega,rfl⟩
  ·exact ⟨_,by omega,by omega,rfl⟩
  ·exact ⟨k,q1,q2,rfl⟩
theorem P3.turned {lt:Int→Int→Bool} {f g h:Nat→Int} {a e:Nat} (ho:∀ k,k<a∨e≤k→g k=f k) (hf:∀ k,a≤k→k<e→∃ k',a≤k'∧k'<e∧g k=f k') (hp:P3 lt g h a e):P3 lt f h a e :=
 ⟨hp.srt,fun k hk=>(hp.out k hk).trans (ho k hk),fun k h1 h2=>by
  obtain ⟨k',u1,u2,u3⟩:=hp.frm k h1 h2
  obtain ⟨k2,v1,v2,v3⟩:=hf k' u1 u2
  exact ⟨k2,v1,v2,u3.trans v3⟩⟩
def A8E (f:Nat→Int) (a k q:Nat):Int:=if a≤q∧q<k then f (q+1) else if q=k then f a else f q
def A8D (f:Nat→Int) (m k q:Nat):Int:=if k<q∧q≤m then f (q - 1) else if q=k then f m else f q
theorem C1E {lt:Int→Int→Bool} (ho:Ord lt) {f g:Nat→Int} {a i e:Nat} (hai:a<i) (hie:i≤e) (hr:∀ x y,a+1≤x→x<y→y<e→lt (f y) (f x)=false)
  (hlo:∀ k,a+1≤k→k<i→lt (f k) (f a)=true) (hhi:∀ k,i≤k→k<e→lt (f k) (f a)=false) (hg:∀ q,g q=A8E f a (i - 1) q):P3 lt f g a e:=by
 refine ⟨fun x y h1 h2 h3=>?_,fun k hk=>?_,fun k h1 h2=>?_⟩
 ·rw [hg,hg];unfold A8E
  repeat' split
  all_goals first | (exfalso;omega) | exact hr _ _ (by omega) (by omega) (by omega) | exact ho.asymm _ _ (hlo _ (by omega) (by omega)) | exact hhi _ (by omega) (by omega) | skip
 ·rw [hg];unfold A8E
  repeat' split
  all_goals first | rfl | (exfalso;omega)
 ·rw [hg];unfold A8E
  repeat' split
  all_goals exact ⟨_,by omega,by omega,rfl⟩
theorem C0w {lt:Int→Int→Bool} (ho:Ord lt) {f g:Nat→Int} {a i m:Nat} (hai:a≤i) (him:i≤m) (hr:∀ x y,a≤x→x<y→y<m→lt (f y) (f x)=false)
  (hlo:∀ k,a≤k→k<i→lt (f m) (f k)=false) (hhi:∀ k,i≤k→k<m→lt (f m) (f k)=true) (hg:∀ q,g q=A8D f m i q):P3 lt f g a (m+1):=by
 refine ⟨fun x y h1 h2 h3=>?_,fun k hk=>?_,fun k h1 h2=>?_⟩
 ·rw [hg,hg];unfold A8D
  repeat' split
  all_goals first | (exfalso;omega) | exact hr _ _ (by omega) (by omega) (by omega) | exact ho.asymm _ _ (hhi _ (by omega) (by omega)) | exact hlo _ (by omega) (by omega) | skip
 ·rw [hg];unfold A8D
  repeat' split
  all_goals first | rfl | (exfalso;omega)
 ·rw [hg];unfold A8D
  repeat' split
  all_goals exact ⟨_,by omega,by omega,rfl⟩
theorem B1S {l:List Int} {f:Nat→AV} {i j i' j':Nat} (hf:∀ k,k<l.length→f k=eI (gI l k)) (hi:i<l.length) (hj:j<l.length) (ei:i'=i) (ej:j'=j) (k:Nat) (hk:k<(swI l i j).length) :
  H2 (H2 f i' (eI (gI l j))) j' (eI (gI l i)) k=eI (gI (swI l i j) k):=by
 subst ei;subst ej
 rw [A4U] at hk
 rw [A5F hi hj]
 by_cases e1:k=j'
 ·subst e1;rw [if_pos rfl,A6]
 ·rw [if_neg e1,G2 e1]
  by_cases e2:k=i'
  ·subst e2;rw [if_pos rfl,A6]
  ·rw [if_neg e2,G2 e2];exact hf k hk
theorem A4s (b:Nat) (l:List Int) (n x y m:Nat) (fv:AV) (st:St) (hb:X8 st b l) (hn:n≤l.length) (hy:y+m≤n) (hxy:x+m≤y) (hl:l.length<4611686018427387904) :
  S P 349 [.own 1 b 0 n,eI x,eI y,eI m,fv] st fun v st'=>v=.tuple []∧∃ l',l'.Perm l∧(∀ k,gI l' k=xch (gI l) x y m k)∧X8 st' b l'∧∀ c,c≠b→st' c=st c:=by
 refine A8 [] B9 mixed Tryz.func349 (by rfl) rfl rfl rfl ?_;conv=>whnf
 refine ⟨[0,1,2,3,10],fun q vs st'=>∃ (i:Nat) (l':List Int),i≤m∧l'.Perm l∧(∀ k,gI l' k=xch (gI l) x y i k)∧X8 st' b l'∧(∀ c,c≠b→st' c=st c)∧q=m - i∧vs=[.own 1 b 0 n,eI x,eI y,eI m,eI i],?_,?_⟩
 ·conv=>whnf
  exact ⟨_,0,l,Nat.zero_le _,List.Perm.refl _,fun k=>by unfold xch;rw [if_neg (by omega),if_neg (by omega)],hb,fun _ _=>rfl,rfl,rfl⟩
 ·rintro q vs st' ⟨i,l',him,hp,hx,⟨f,hst,hf⟩,hfr,rfl,rfl⟩
  have hlen:l'.length=l.length:=hp.length_eq
  conv=>whnf
  refine C0 (fun h=>?_) (fun h=>?_)<;>rw [h]<;>simp only [decide_eq_true_eq,decide_eq_false_iff_not] at h
  ·have hi:i<m:=by omega
   have w1:IntKind.i64.wrap ((x:Int)+(i:Int))=((x+i:Nat):Int):=by rw [A7 (by omega) (by omega)];omega
   have w2:IntKind.i64.wrap ((y:Int)+(i:Int))=((y+i:Nat):Int):=by rw [A7 (by omega) (by omega)];omega
   have f1:f (0+((x+i:Nat):Int).toNat)=eI (gI l' (x+i)):=by rw [show 0+((x+i:Nat):Int).toNat=x+i by omega];exact hf _ (by omega)
   have f2:f (0+((y+i:Nat):Int).toNat)=eI (gI l' (y+i)):=by rw [show 0+((y+i:Nat):Int).toNat=y+i by omega];exact hf _ (by omega)
   have f3:H2 f (0+((x+i:Nat):Int).toNat) (N8 (eI (gI l' (x+i))) 0 (cellsOf (eI (gI l' (y+i))))) (0+((y+i:Nat):Int).toNat)=eI (gI l' (y+i)):=(G2 (by omega)).trans f2
   conv=>whnf
   refine ⟨[21,23],[],List.range 24,by kernel_rfl,?_⟩;conv=>whnf
   try rw [w1]
   try rw [w2]
   refine ⟨rfl,⟨by omega,by omega⟩,?_⟩;conv=>whnf
   refine F7 hst rfl (by omega) f2 ?_;conv=>whnf
   try rw [w1]
   try rw [w2]
   refine ⟨rfl,⟨by omega,by omega⟩,?_⟩;conv=>whnf
   refine F7 hst rfl (by omega) f1 ?_;conv=>whnf
   try rw [w1]
   try rw [w2]
   refine ⟨rfl,⟨by omega,by omega⟩,?_⟩;conv=>whnf
   refine K8 hst rfl (by omega) f1 (by rfl) ?_;conv=>whnf
   try rw [w1]
   try rw [w2]
   refine ⟨rfl,⟨by omega,by omega⟩,?_⟩;conv=>whnf
   refine K8 (A0 ..) rfl (by omega) f3 (by rfl) ?_;conv=>whnf
   refine ⟨rfl,?_⟩;conv=>whnf
   have h1:x+i<l'.length:=by omega
   have h2:y+i<l'.length:=by omega
   refine ⟨m - (i+1),by omega,i+1,swI l' (x+i) (y+i),by omega,(A6A h1 h2).trans hp,fun k=>?_,⟨_,by rw [A0,A4U];rfl,B1S (i':=0+((x+i:Nat):Int).toNat) (j':=0+((y+i:Nat):Int).toNat) hf h1 h2 (by omega) (by omega)⟩,fun c hc=>by rw [B1 hc,B1 hc];exact hfr c hc,rfl,by rw [C2 (by omega)]⟩
   rw [A5F h1 h2,hx,hx,hx]
   unfold xch
   repeat' split
   all_goals first | (exfalso;omega) | (congr 1<;>omega)
  ·obtain rfl:i=m:=by omega
   conv=>whnf
   exact ⟨rfl,l',hp,hx,⟨f,hst,hf⟩,hfr⟩
theorem B9h (b:Nat) (l:List Int) (n a m e:Nat) (fv:AV) (st:St) (hb:X8 st b l) (ham:a<m) (hme:m<e) (he:e≤n) (hn:n≤l.length) (hl:l.length<4611686018427387904) :
  S P 342 [.own 1 b 0 n,eI a,eI m,eI e,fv] st fun v st'=>v=.tuple []∧∃ l',l'.Perm l∧(∀ k,gI l' k=A1T (gI l) a m e k)∧X8 st' b l'∧∀ c,c≠b→st' c=st c:=by
 refine A8 [] B9 mixed Tryz.func342 (by rfl) rfl rfl rfl ?_
 have w1:IntKind.i64.wrap ((m:Int) - (a:Int))=((m - a:Nat):Int):=by rw [A7 (by omega) (by omega)];omega
 have w2:IntKind.i64.wrap ((e:Int) - (m:Int))=((e - m:Nat):Int):=by rw [A7 (by omega) (by omega)];omega
 conv=>whnf
 rw [w1,w2]
 refine ⟨[0,2,4,10,11],fun q vs st'=>∃ (i j:Nat) (l':List Int),0<i∧0<j∧i≤m - a∧j≤e - m∧l'.Perm l∧(∀ k,A1T (gI l') (m - i) m (m+j) k=A1T (gI l) a m e k)∧X8 st' b l'∧(∀ c,c≠b→st' c=st c)∧q=i+j∧vs=[.own 1 b 0 n,eI m,fv,eI i,eI j],?_,?_⟩
 ·conv=>whnf
  exact ⟨_,m - a,e - m,l,by omega,by omega,Nat.le_refl _,Nat.le_refl _,List.Perm.refl _,fun k=>by rw [show m - (m - a)=a by omega,show m+(e - m)=e by omega],hb,fun _ _=>rfl,rfl,rfl⟩
 ·rintro q vs st' ⟨i,j,l',hi0,hj0,hi,hj,hp,hr,hb',hfr,rfl,rfl⟩
  have hlen:l'.length=l.length:=hp.length_eq
  have w3:IntKind.i64.wrap ((m:Int) - (i:Int))=((m - i:Nat):Int):=by rw [A7 (by omega) (by omega)];omega
  conv=>whnf
  refine C0 (fun h=>?_) (fun h=>?_)<;>rw [h]<;>simp only [bne_iff_ne,ne_eq,Bool.not_eq_true',bne_eq_false_iff_eq,beq_iff_eq,beq_eq_false_iff_ne,Bool.not_eq_false'] at h
  ·conv=>whnf
   refine C0 (fun h2=>?_) (fun h2=>?_)<;>rw [h2]<;>simp only [decide_eq_true_eq,decide_eq_false_iff_not] at h2
   ·have w4:IntKind.i64.wrap ((i:Int) - (j:Int))=((i - j:Nat):Int):=by rw [A7 (by omega) (by omega)];omega
    conv=>whnf
    rw [w3]
    refine call (A4s b l' n (m - i) m j fv _ hb' (by omega) (by omega) (by omega) (by omega)) (fun v st1 hv=>?_)
    obtain ⟨rfl,l2,hp2,hx,hb2,hfr2⟩:=hv
    conv=>whnf
    rw [w4]
    refine ⟨rfl,?_⟩;conv=>whnf
    refine ⟨_,?_,i - j,j,l2,by omega,hj0,by omega,hj,hp2.trans hp,fun k=>?_,hb2,fun c hc=>(hfr2 c hc).trans (hfr c hc),rfl,rfl⟩
    ·omega
    ·rw [←hr k,←B9f (f:=gI l') (by omega) (by omega) hx k,show m - (i - j)=m - i+j by omega]
   ·have w4:IntKind.i64.wrap ((j:Int) - (i:Int))=((j - i:Nat):Int):=by rw [A7 (by omega) (by omega)];omega
    have w5:IntKind.i64.wrap ((m:Int)+(j:Int))=((m+j:Nat):Int):=by rw [A7 (by omega) (by omega)];omega
    have w6:IntKind.i64.wrap (((m+j:Nat):Int) - (i:Int))=((m+j - i:Nat):Int):=by rw [A7 (by omega) (by omega)];omega
    conv=>whnf
    rw [w3,w5,w6]
    refine call (A4s b l' n (m - i) (m+j - i) i fv _ hb' (by omega) (by omega) (by omega) (by omega)) (fun v st1 hv=>?_)
    obtain ⟨rfl,l2,hp2,hx,hb2,hfr2⟩:=hv
    conv=>whnf
    rw [w4]
    refine ⟨rfl,?_⟩;conv=>whnf
    refine ⟨_,?_,i,j - i,l2,hi0,by omega,hi,by omega,hp2.trans hp,fun k=>?_,hb2,fun c hc=>(hfr2 c hc).trans (hfr c hc),rfl,rfl⟩
    ·omega
    ·rw [←hr k,←B6U (f:=gI l') (by omega) (by omega) hx k,show m+(j - i)=m+j - i by omega]
  ·obtain rfl:i=j:=by omega
   conv=>whnf
   rw [w3]
   refine call (A4s b l' n (m - i) m i fv _ hb' (by omega) (by omega) (by omega) (by omega)) (fun v st1 hv=>?_)
   obtain ⟨rfl,l2,hp2,hx,hb2,hfr2⟩:=hv
   conv=>whnf
   exact ⟨rfl,l2,hp2.trans hp,fun k=>by rw [←hr k,B9g (f:=gI l') (by omega) hx k],hb2,fun c hc=>(hfr2 c hc).trans (hfr c hc)⟩
end Go.Proofs.YtbajhapmlfbelaaGreat
