/- Part 27 of the proof: the law, for every input, and its row -/
import Derived.Test.YtaapofnkmpiknaaGreatPw26
import Derived.ChangeSlices
import Derived.ChangeArms
import Derived.Test.YtaapofnkmpiknaaGreatRows
import Derived.ProofKit
import Derived.JoinedOf
import Derived.KernelRfl
import Derived.WalkKit
import Derived.OpenShut
import Derived.ShutString
import Derived.ChangeOld
import Derived.Below
import Derived.SizedLaws
set_option maxRecDepth 100000
set_option linter.unusedVariables false
set_option linter.unusedSimpArgs false
namespace Go.Proofs.YtaapofnkmpiknaaGreat
open Go Go.Ab
end Go.Proofs.YtaapofnkmpiknaaGreat
namespace Go.Proofs.YtaapofnkmpiknaaGreat
open Go Go.Ab
attribute [local irreducible] upd del
theorem ROut.own {R:St→St→Prop} {ty e n:Nat} {fo:Nat→AV} {s t:St} {sv:AV} (h:ROut R ty e fo (n+1) s sv t):∃ b,sv=.own e b 0 (n+1):=by
 obtain ⟨s0,⟨h1,_⟩ | ⟨_,b,_,_,h1,_⟩,h2⟩:=h
 ·cases h1
 ·exact ⟨b,h1⟩
theorem RD.sup {dl:List A0Z} {gr:List C9} {dv gv:AV} {s t:St} (h:RD dl gr dv gv s t):E9 s t:=(A1N dl gr dv gv).sup h
theorem RD.start (s:St):RD [] [] .emp .emp s s:=ROut.start (ROut.start (E9.refl s) _ _ _) _ _ _
theorem RD.deals {dl:List A0Z} {gr:List C9} {dv gv:AV} {s t:St} (h:RD dl gr dv gv s t):(dl=[]∧dv=.emp)∨∃ bd g,dv=.own 2 bd 0 dl.length∧s bd=none∧t bd=some ⟨221,2,dl.length,g⟩∧∀ k,k<dl.length→g k=A1U dl k:=by
 obtain ⟨s0,hc,hg0⟩:=h
 rcases hc with ⟨h0,h1,rfl⟩ | ⟨h0,b,g0,hb,h1,rfl,hgg⟩
 ·exact .inl ⟨C9M h0,h1⟩
 ·exact .inr ⟨b,g0,h1,hb,(A6u _ _).sup hg0 b _ (A0 ..),hgg⟩
theorem RD.groups {dl:List A0Z} {gr:List C9} {dv gv:AV} {s t:St} (h:RD dl gr dv gv s t):(gv=.emp∧gr=[])∨∃ b g,gv=.own 1 b 0 gr.length∧t b=some ⟨9,1,gr.length,g⟩∧∀ k,k<gr.length→g k=eS (gr.getD k default):=by
 obtain ⟨s0,hc,s1,hc2,hs⟩:=h
 rcases hc2 with ⟨h0,h1,rfl⟩ | ⟨h0,b,g0,hb,h1,rfl,hgg⟩
 ·exact .inl ⟨h1,C9M h0⟩
 ·exact .inr ⟨b,g0,h1,hs b _ (A0 ..),hgg⟩
def named (l:List C9):List C9:=l.filter fun g=>!Q3 g
end Go.Proofs.YtaapofnkmpiknaaGreat
namespace Go.Proofs.YtaapofnkmpiknaaGreat
open Go Go.Ab
abbrev B7w (l:List A8) (xs:List (Int×Int)):List A0Z:=xs.map fun a=>(⟨(D2 l a.1).id,a.2⟩:A0Z)
abbrev A7f (l:List A8) (xs:List (Int×Int)):List C9:=(xs.map fun a=>(D2 l a.1).group).filter fun g=>!Q3 g
structure Tr (l:List A8) (p:Z7) (xs:List (Int×Int)):Prop where
 deals:p.deals=B7w l xs
 groups:p.groups=A7f l xs
 pos:∀ a∈xs,1≤a.2
 apart:p.groups.Pairwise fun x y=>(y.toList==x.toList)=false
theorem Tr.start (l:List A8) (us:List A9):Tr l ⟨us,[],[]⟩ []:=⟨rfl,rfl,fun a h=>absurd h D1b,.nil⟩
def A9k {σ : Type} (px : σ→Z7) (step : σ→A8→σ) (sm:A8→Bool) (l:List A8) (Q : σ→Int→Prop):Prop :=
 ∀ (a : σ) (s:Int) (pr:A8),pr∈l→sm pr=true→Q a s →
  ((px (step a pr)).deals=(px a).deals∧(px (step a pr)).groups=(px a).groups∧Q (step a pr) s) ∨
  ∃ off,1≤off∧(px (step a pr)).deals=(px a).deals++[⟨pr.id,off⟩]∧(px (step a pr)).groups=(px a).groups++(if Q3 pr.group=true then [] else [pr.group])∧Q (step a pr) (s+off)
theorem C0h {σ : Type} {px : σ→Z7} {step : σ→A8→σ} {sm:A8→Bool} {l:List A8} {Q : σ→Int→Prop} (hstep:A9k px step sm l Q) :
  ∀ (f:List Int) (a : σ) (xs:List (Int×Int)) (s:Int),(∀ x∈f,x.toNat<l.length∧sm (D2 l x)=true)→Tr l (px a) xs→Q a s →
   ∃ ys,Tr l (px (f.foldl (fun a x=>goB px step a (D2 l x)) a)) (xs++ys)∧(ys.map Prod.fst).Sublist f∧Q (f.foldl (fun a x=>goB px step a (D2 l x)) a) (s+A3 (ys.map Prod.snd)):=by
 intro f
 induction f with
 | nil=>intro a xs s _ ht hq;exact ⟨[],by rw [D1R];exact ht,List.Sublist.slnil,by rw [show s+A3 (([]:List (Int×Int)).map Prod.snd)=s from D1C s];exact hq⟩
 | cons x f ih =>
  intro a xs s hm ht hq
  have hm':∀ y∈f,y.toNat<l.length∧sm (D2 l y)=true:=fun y hy=>hm y (C9x _ hy)
  have hx:=hm x (C9C ..)
  have hmem:D2 l x∈l:=A7 hx.1
  rw [D0E]
  unfold goB
  by_cases hg:(Q3 (D2 l x).group||!inB (px a).groups (D2 l x).group)=true
  ·rw [if_pos hg]
   rcases hstep a s (D2 l x) hmem hx.2 hq with ⟨h1,h2,h3⟩ | ⟨off,h0,h1,h2,h3⟩
   ·obtain ⟨ys,k1,k2,k3⟩:=ih _ xs s hm' ⟨h1.trans ht.deals,h2.trans ht.groups,ht.pos,by rw [h2];exact ht.apart⟩ h3
    exact ⟨ys,k1,k2.cons _,k3⟩
   ·have ht':Tr l (px (step a (D2 l x))) (xs++[(x,off)]):=by
     refine ⟨?_,?_,fun b hb=>?_,?_⟩
     ·rw [h1,ht.deals];unfold B7w;rw [C9P];rfl
     ·rw [h2,ht.groups];unfold A7f
      rw [C9P,D1g]
      congr 1
      cases hn:Q3 (D2 l x).group
      ·rw [if_neg (by simp)]
       show [(D2 l x).group]=List.filter (fun g=>!Q3 g) [(D2 l x).group]
       rw [D0o (p:=fun g=>!Q3 g) (by rw [hn];rfl)];rfl
      ·rw [if_pos rfl]
       show []=List.filter (fun g=>!Q3 g) [(D2 l x).group]
       rw [D0w (p:=fun g=>!Q3 g) (by rw [hn];simp)];rfl
     ·rcases D0V.1 hb with hb | hb
      ·exact ht.pos b hb
      ·rw [C9Z.1 hb];exact h0
     ·rw [h2]
      refine List.pairwise_append.2 ⟨ht.apart,?_,fun y hy z hz=>?_⟩
      ·split
       ·exact .nil
       ·exact List.pairwise_singleton _ _
      ·split at hz
       ·exact absurd hz D1b
       ·rename_i hn
        rw [C9Z.1 hz]
        rw [D0R.2 hn,D0a,C9F] at hg
        unfold inB at hg
        rw [D2d] at hg
        exact D0R.2 (hg y hy)
    obtain ⟨ys,k1,k2,k3⟩:=ih _ (xs++[(x,off)]) (s+off) hm' ht' h3
    refine ⟨(x,off)::ys,by rw [D0P] at k1;exact k1,k2.cons_cons x,?_⟩
    rw [D0j,F6,←Int.add_assoc];exact k3
  ·rw [if_neg hg]
   obtain ⟨ys,k1,k2,k3⟩:=ih _ xs s hm' ht hq
   exact ⟨ys,k1,k2.cons _,k3⟩
theorem B4t {σ : Type} {px : σ→Z7} {step : σ→A8→σ} {sm:A8→Bool} {l:List A8} {Q : σ→Int→Prop} (hstep:A9k px step sm l Q) {o:List Int} (ho:∀ x∈o,x.toNat<l.length) {a : σ} {xs:List (Int×Int)} {s:Int} (ht:Tr l (px a) xs) (hq:Q a s) :
  ∃ ys,Tr l (px (A0P px step sm l a o)) (xs++ys)∧(ys.map Prod.fst).Sublist (o.filter fun x=>sm (D2 l x))∧Q (A0P px step sm l a o) (s+A3 (ys.map Prod.snd)) :=
 C0h hstep _ a xs s (fun x hx=>⟨ho x (D0C.1 hx).1,(D0C.1 hx).2⟩) ht hq
theorem B6G {items:List Ab.Item} {us0:List A9} {l:List A8} (hf:∀ p∈l,K2 p) (hr:∀ p∈l,I6 p=true):A9k (fun p:Z7=>p) (A6n items) W4 l (fun p s=>A6m items p.us∧Off us0 p.us s):=by
 intro a s pr hm hs hq
 have hk:pr.kind≠7:=by simpa [W4] using hs
 unfold A6n
 by_cases h:(A3C items a.us pr).2>0
 ·rw [if_pos h]
  rcases B4x hq.1 (hf _ hm) (hr _ hm) hk with e | e
  ·rw [e] at h;exact absurd h (by decide)
  ·exact .inr ⟨_,by omega,rfl,rfl,hq.1.off e,hq.2.trans e⟩
 ·rw [if_neg h]
  exact .inl ⟨rfl,rfl,hq⟩
theorem B5C {net fee fee0:Int} {l:List A8} (hr:∀ p∈l,I6 p=true):A9k (fun a:Z7×Int=>a.1) (X8 net) A1Z l (fun a s=>0≤a.2∧a.2≤fee∧a.2+s=fee0):=by
 intro a s pr hm hs hq
 have hk:pr.kind=7:=by simpa [A1Z] using hs
 have h7:=(A4N (hr _ hm)).ship hk
 have hb:=S4 a.2 pr.rate
 have hle:=A6E hq.1 (show 0≤pr.rate by omega) h7.2
 unfold X8 A7N
 by_cases h:net<pr.least
 ·rw [if_pos h];exact .inl ⟨rfl,rfl,hq⟩
 ·rw [if_neg h]
  by_cases h2:K0 a.2 pr.rate>0
  ·rw [if_pos h2]
   exact .inr ⟨K0 a.2 pr.rate,by omega,rfl,rfl,by show 0≤a.2 - K0 a.2 pr.rate;omega,by show a.2 - K0 a.2 pr.rate≤_;omega,by show a.2 - K0 a.2 pr.rate+(s+K0 a.2 pr.rate)=_;omega⟩
  ·rw [if_neg h2]
   exact .inl ⟨rfl,rfl,by show 0≤a.2 - K0 a.2 pr.rate;omega,by show a.2 - K0 a.2 pr.rate≤_;omega,by show a.2 - K0 a.2 pr.rate+s=_;omega⟩
theorem A2V (a b:List A9) (j:Nat):E1 (a++b) j=E1 a j+E1 b j:=by
 unfold E1;rw [D1g,C9P,D1]
theorem B1k (l:List E6) (i j n:Nat):E1 (List.replicate n (lnU l i)) j=if i=j then n * (l.getD i default).price else 0:=by
 induction n with
 | zero=>show (0:Int)=_;split<;>simp
 | succ n ih =>
  rw [show List.replicate (n+1) (lnU l i)=[lnU l i]++List.replicate n (lnU l i) from rfl,A2V,ih]
  by_cases h:i=j
  ·rw [if_pos h,if_pos h]
   have:E1 [lnU l i] j=(l.getD i default).price:=by
    unfold E1
    rw [D0o (by show (((i:Int)).toNat==j)=true;rw [C9Q,h];simp)]
    show A3 [(l.getD i default).price]=_
    rw [F6];exact D1C _
   rw [this,show ((n+1:Nat):Int) * (l.getD i default).price=n * (l.getD i default).price+(l.getD i default).price by rw [Int.natCast_add,D1t];simp]
   omega
  ·rw [if_neg h,if_neg h]
   have:E1 [lnU l i] j=0:=by
    unfold E1
    rw [D0w (by show ¬(((i:Int)).toNat==j)=true;rw [C9Q];simpa using h)];rfl
   rw [this];rfl
theorem B2A (l:List E6) (hl:∀ x∈l,0≤x.qty) (j k:Nat) (hk:k≤l.length):E1 (D9 l k) j=if j<k then (l.getD j default).qty * (l.getD j default).price else 0:=by
 induction k with
 | zero=>rfl
 | succ k ih =>
  show E1 (D9 l k++List.replicate (l.getD k default).qty.toNat (lnU l k)) j=_
  rw [A2V,ih (by omega),B1k]
  have hq:=hl _ (A7 (show k<l.length by omega))
  by_cases e:k=j
  ·subst e
   rw [if_neg (by omega),if_pos rfl,if_pos (by omega),D0N hq,Int.zero_add]
  ·rw [if_neg e]
   by_cases h:j<k
   ·rw [if_pos h,if_pos (by omega),D1C]
   ·rw [if_neg h,if_neg (by omega)];rfl
theorem A7k {us us':List A9} {x:Int} (h:Off us us' x) (j:Nat):∀ k,k≤us.length→E1 (us'.take k) j≤E1 (us.take k) j
 | 0,_=>C9R _
 | k+1,hk=>by
  have ih:=A7k h j k (by omega)
  have hl:=h.len
  rw [U2 (by omega),U2 (by omega),h.line k]
  have:=(h.net k).2
  split<;>omega
theorem B1O (f:Nat→Int) (t:Nat) (x:Int):∀ n,A3 ((List.range n).map fun j=>if t=j then f j+x else f j)=A3 ((List.range n).map f)+if t<n then x else 0
 | 0=>by rw [if_neg (by omega)];rfl
 | n+1=>by
  rw [H9,H9,B1O f t x n]
  by_cases e:t=n
  ·rw [if_pos e,if_neg (by omega),if_pos (by omega)];omega
  ·rw [if_neg e]
   by_cases h:t<n
   ·rw [if_pos h,if_pos (by omega)];omega
   ·rw [if_neg h,if_neg (by omega)];omega
theorem A7V:∀ n,A3 ((List.range n).map fun _=>(0:Int))=0
 | 0=>rfl
 | n+1=>by rw [H9,A7V n];rfl
theorem A4K {us:List A9} {n:Nat} (h:∀ k,k<us.length→(gU us k).line.toNat<n):∀ k,k≤us.length→A3 ((List.range n).map (E1 (us.take k)))=A3 (C6 (us.take k))
 | 0,_=>A7V n
 | k+1,hk=>by
  have ih:=A4K h k (by omega)
  have e1:(E1 (us.take (k+1)))=fun j=>if (gU us k).line.toNat=j then E1 (us.take k) j+(gU us k).net else E1 (us.take k) j:=funext fun j=>U2 (by omega) j
  rw [e1,B1O,ih,if_pos (h k (by omega)),N5 (by omega)]
  unfold C6
  rw [C9P,D1]
  show _+(gU us k).net=_+A3 [(gU us k).net]
  rw [F6];show _=_+((gU us k).net+0);omega
structure B0H (r:D4) (codes:List C9) (l:List E6) (Pr:A3N) (xs ys:List (Int×Int)):Prop where
 deals:Pr.deals=B7w r.promos (xs++ys)
 mem:∀ a∈xs++ys,(0≤a.1∧a.1.toNat<r.promos.length)∧T9 codes (D2 r.promos a.1)=true∧1≤a.2
 sx:(xs.map Prod.fst).Sublist (T6 r.promos codes)
 sy:(ys.map Prod.fst).Sublist (T6 r.promos codes)
 kx:∀ a∈xs,(D2 r.promos a.1).kind≠7
 ky:∀ a∈ys,(D2 r.promos a.1).kind=7
 apart:(A7f r.promos (xs++ys)).Pairwise fun x y=>(y.toList==x.toList)=false
 sum:Pr.net+A3 (xs.map Prod.snd)=M8 l
 len:Pr.nets.length=l.length
 nets:A3 Pr.nets=Pr.net
 each:∀ i,i<l.length→0≤gI Pr.nets i∧gI Pr.nets i≤(l.getD i default).qty * (l.getD i default).price
 ship:0≤Pr.ship∧Pr.ship≤r.ship.fee
 shipSum:Pr.ship+A3 (ys.map Prod.snd)=A2T r.ship (A2p l).length Pr.net
theorem A9T {l:List A8} {codes:List C9} {i:Nat} {x:Int} (h:x∈places l codes i):T9 codes (D2 l x)=true:=by
 unfold places at h
 obtain ⟨k,hk,rfl⟩:=C9H.1 h
 exact (D0C.1 hk).2
theorem B5n {r:D4} {codes:List C9} {l:List E6} (hf:R3 r) (hck:F8 r codes l=0):∃ xs ys,B0H r codes l (Q9 r l (T6 r.promos codes) (T6 r.promos codes)) xs ys:=by
 have ck:=A9v hck
 have hok:=ck.lines
 have hu:=B4w hok
 obtain ⟨u1,u2,u3⟩:=A0Y l hok.line l.length (C9q _)
 rw [C9u] at u1 u2
 have hitl:(C2 r.items l).length=l.length:=C9o ..
 have hpl:∀ x∈T6 r.promos codes,(0≤x∧x.toNat<r.promos.length)∧T9 codes (D2 r.promos x)=true:=fun x hx=>by
  have:=(A5A r.promos codes).mem_iff.1 hx
  exact ⟨V7 this,A9T this⟩
 have hlt:∀ x∈T6 r.promos codes,x.toNat<r.promos.length:=fun x hx=>(hpl x hx).1.2
 obtain ⟨xs,a1,a2,a3,a4⟩:=B4t (B6G (items:=C2 r.items l) (us0:=A2p l) hf.fit ck.promo) hlt (a:=⟨A2p l,[],[]⟩) (Tr.start r.promos (A2p l)) ⟨hu,Off.refl hu.ok⟩
 rw [D1P] at a1
 rw [Int.zero_add] at a4
 have hfee:0≤A2T r.ship (A2p l).length (A0L (p1B r l (T6 r.promos codes)))∧A2T r.ship (A2p l).length (A0L (p1B r l (T6 r.promos codes)))≤r.ship.fee:=by
  unfold A2T;have:=ck.fee;split<;>omega
 obtain ⟨ys,b1,b2,b3⟩:=B4t (B5C (net:=A0L (p1B r l (T6 r.promos codes))) (fee:=r.ship.fee) (fee0:=A2T r.ship (A2p l).length (A0L (p1B r l (T6 r.promos codes)))) ck.promo) hlt (a:=(p1B r l (T6 r.promos codes),A2T r.ship (A2p l).length (A0L (p1B r l (T6 r.promos codes))))) (s:=0) a1 ⟨hfee.1,hfee.2,D1C _⟩
 rw [Int.zero_add] at b3
 have a2':∀ a∈xs,a.1∈T6 r.promos codes∧W4 (D2 r.promos a.1)=true:=fun a ha=>D0C.1 (a2.subset (C9H.2 ⟨a,ha,rfl⟩))
 have b2':∀ a∈ys,a.1∈T6 r.promos codes∧A1Z (D2 r.promos a.1)=true:=fun a ha=>D0C.1 (b2.subset (C9H.2 ⟨a,ha,rfl⟩))
 have hus:A6m (C2 r.items l) (p1B r l (T6 r.promos codes)).us:=a3
 have hlen:=a4.len
 have hln:∀ k,k<(p1B r l (T6 r.promos codes)).us.length→(gU (p1B r l (T6 r.promos codes)).us k).line.toNat<l.length:=fun k hk=>by
  have:=(hus.line _ (A7 hk)).2
  rw [hitl] at this;exact this
 have hsm:=A4K hln _ (C9q _)
 rw [C9u] at hsm
 refine ⟨xs,ys,b1.deals,fun a ha=>?_,a2.trans D0X,b2.trans D0X,fun a ha=>by simpa [W4] using (a2' a ha).2,fun a ha=>by simpa [A1Z] using (b2' a ha).2,by rw [←b1.groups];exact b1.apart,?_,?_,hsm,fun i hi=>?_,⟨b3.1,b3.2.1⟩,b3.2.2⟩
 ·have hp:=b1.pos a ha
  rcases D0V.1 ha with h | h
  ·exact ⟨(hpl _ (a2' a h).1).1,(hpl _ (a2' a h).1).2,hp⟩
  ·exact ⟨(hpl _ (b2' a h).1).1,(hpl _ (b2' a h).1).2,hp⟩
 ·have:=a4.sum
  show A3 (C6 (p1B r l (T6 r.promos codes)).us)+_=_
  exact this.trans u2
 ·show ((List.range l.length).map _).length=_
  rw [C9o,D0h]
 ·have e:gI (Q9 r l (T6 r.promos codes) (T6 r.promos codes)).nets i=E1 (p1B r l (T6 r.promos codes)).us i:=by
   show gI ((List.range l.length).map (E1 (p1B r l (T6 r.promos codes)).us)) i=_
   unfold gI
   rw [C9i,D0y,D1c hi];rfl
  rw [e]
  have h1:=(A1d hus.ok (p1B r l (T6 r.promos codes)).us.length i).1
  rw [C9u] at h1
  have h2:=A7k a4 i _ (C9q _)
  rw [C9u,D2g (Nat.le_of_eq hlen)] at h2
  have h3:=B2A l (fun x hx=>((A0g _).1 (hok.line x hx)).1.1) i l.length (C9q _)
  rw [if_pos hi] at h3
  have h2':E1 (p1B r l (T6 r.promos codes)).us i≤E1 (D9 l l.length) i:=h2
  exact ⟨h1,by omega⟩
end Go.Proofs.YtaapofnkmpiknaaGreat
namespace Go.Proofs.YtaapofnkmpiknaaGreat
open Go Go.Ab
attribute [local irreducible] upd del
structure Q4 (R:D4) (C:List C9) (L:List E6):Prop where
 right:J4 R=true
 fit:R3 R
 sm:B8V R
 codes:U0 C=true
 ncodes:C.length≤3
 scodes:∀ s∈C,s.size≤12
 lines:A2G L
 check:F8 R C L=0
 few:R.promos.length≤6
 items:R.items.length≤8
 known:∀ n,known R.items (C1E n)=true
 fee:0≤R.ship.fee∧R.ship.fee≤1000000000
theorem Q4.promosC {R:D4} {C:List C9} {L:List E6} (h:Q4 R C L):promosC R.promos=true:=by
 have:=h.right
 unfold J4 at this
 simp only [C9l] at this
 exact this.1.1.1.2
def A2g (R:D4) (C:List C9) (L:List E6):A3N:=Q9 R L (T6 R.promos C) (T6 R.promos C)
theorem B7M {R:D4} {C:List C9} {L:List E6} (hck:F8 R C L=0) (hf:R3 R) (hC:Go.Proofs.YtaapofnkmpiknaaGreat.promosC R.promos=true) (hn:R.promos.length≤6) (hi:R.items.length≤8) (hc:C.length≤3) (st:St) :
  S P 122 [M0 R,E3 C,B0 3 M2 L] st fun v s=>v=.tuple [A1S (A2g R C L),eI 0]∧s=st :=
 (price_S B1J R C L hf (by show C.length≤9223372036854775807;omega) (by omega) (by have:=A0x R.promos C R.promos.length;omega) st).mono fun v s ⟨hv,hs⟩=>by
  refine ⟨?_,hs⟩
  rcases hv with ⟨h1,_⟩ | ⟨_,o1,o2,h1,h2,h3⟩
  ·exact absurd hck h1
  ·rw [B1x hC h1,B1x hC h2] at h3;exact h3
theorem Q4.price_S {R:D4} {C:List C9} {L:List E6} (h:Q4 R C L) (st:St) :
  S P 122 [M0 R,E3 C,B0 3 M2 L] st fun v s=>v=.tuple [A1S (A2g R C L),eI 0]∧s=st :=
 B7M h.check h.fit h.promosC h.few h.items h.ncodes st
theorem Q4.law {R:D4} {C:List C9} {L:List E6} (h:Q4 R C L):∃ xs ys,B0H R C L (A2g R C L) xs ys:=B5n h.fit h.check
structure C0J (L:List E6) (Pr:A3N) (g fee:Int):Prop where
 len:Pr.nets.length=L.length
 at':∀ i,i<L.length→0≤gI Pr.nets i∧gI Pr.nets i≤(L.getD i default).qty * (L.getD i default).price
 sum:A3 Pr.nets=Pr.net
 net:0≤Pr.net∧Pr.net≤g
 ship:0≤Pr.ship∧Pr.ship≤fee
theorem Q4.nets {R:D4} {C:List C9} {L:List E6} (h:Q4 R C L):C0J L (A2g R C L) (M8 L) R.ship.fee:=by
 obtain ⟨xs,ys,hl⟩:=h.law
 have h0:∀ x∈(A2g R C L).nets,0≤x:=fun x hx=>by
  obtain ⟨i,hi,rfl⟩:=F2 hx
  exact (hl.each i (by rw [←hl.len];exact hi)).1
 have hx:0≤A3 (xs.map Prod.snd):=B8 fun x hx=>by
  obtain ⟨a,ha,rfl⟩:=C9H.1 hx
  have:=(hl.mem a (List.mem_append_left _ ha)).2.2
  omega
 have hs:=hl.sum
 have hn:=hl.nets
 have:=B8 h0
 exact ⟨hl.len,hl.each,hl.nets,by omega,hl.ship⟩
theorem C6e {t:Y6} {z:J9} {cats:List C9} {nets:List Int} {ship:Int} (h:A1a t z cats nets ship) (st:St) :
  S P (B8z t) [A0t t,B2 (cats.map (F9 z)),B2 nets] st fun v st'=>v=B2 (G7 t (cats.map (F9 z)) nets)∧st'=st:=by
 obtain ⟨r1,r2⟩:=A1v h
 unfold B8z G7
 split
 ·exact B4F t _ _ h.nets r1 r2 st
 ·exact B0T t _ _ h.nets.len r1 r2 st
theorem Q4.taxC {R:D4} {C:List C9} {L:List E6} (h:Q4 R C L):taxC R.tax=true:=by
 have:=h.right
 unfold J4 at this
 simp only [C9l] at this
 exact this.1.1.2
theorem Q4.levy {R:D4} {C:List C9} {L:List E6} (h:Q4 R C L) {z:J9} {s:C9} (hz:A2A R.tax.zones s=some z):A1a R.tax z (M1 R L) (A2g R C L).nets (A2g R C L).ship:=by
 have hN:=h.nets
 have hg:=B4o h.lines.line
 have hl:=h.lines.len
 have hf:=h.fee
 have hsh:=hN.ship
 refine ⟨h.taxC,B2t h.taxC hz,by rw [B4G,hN.len],⟨by rw [hN.len];omega,fun x hx=>?_,by rw [hN.sum];have:=hN.net;omega⟩,by omega⟩
 obtain ⟨i,hi,rfl⟩:=F2 hx
 exact (hN.at' i (by rw [←hN.len];exact hi)).1
def B7T (R:D4) (C:List C9) (L:List E6) (z:J9) (exempt:Bool):A0k:=A9Y R z exempt L (A2g R C L)
theorem Q4.quote_S {R:D4} {C:List C9} {L:List E6} (h:Q4 R C L) {z:J9} {s:C9} (hz:A2A R.tax.zones s=some z) (exempt:Bool) (st:St) :
  S P 60 [M0 R,eS s,eB exempt,E3 C,B0 3 M2 L] st fun v st'=>v=.tuple [A7b (B7T R C L z exempt),eI 0]∧st'=st:=by
 have hv:=h.levy hz
 have hk:=(A9v h.check).lines.known
 have hi:=h.items
 have hl:=h.lines.len
 exact Go.Proofs.YtaapofnkmpiknaaGreat.quote_S exempt (fun st=>h.price_S st) (fun st=>A5u _ _ (by omega) (by omega) hk st) (by omega) hv hz (fun st=>C6e hv st) (A8N hv exempt) st
structure C8v where
 rules:D4
 zone:Int
 exempt:Bool
 codes:List C9
 adds:List Add
 pays:List Pay
 day:Int
theorem ROut.one {R:St→St→Prop} {ty e n:Nat} {fo:Nat→AV} {s t:St} {sv:AV} (h:ROut R ty e fo n s sv t):sv.one=true:=by rcases h.head with rfl | ⟨b,rfl⟩<;>rfl
section
variable {R0:St→St→Prop} {ty e:Nat} {F:Nat→Nat→AV} {len:Nat→Nat}
end
theorem _root_.Go.Ab.Col.over {ty e:Nat} {f:Nat→AV} {st:St} {n:Nat} {sv:AV} {st':St} (h:Col ty e f st n sv st') {b:Nat} {y y':H1} (hb:st b=some y):Col ty e f (upd st b y') n sv (upd st' b y'):=by
 rcases h with ⟨rfl,rfl,rfl⟩ | ⟨h0,c,g,hc,rfl,rfl,hg⟩
 ·exact .inl ⟨rfl,rfl,rfl⟩
 ·have hne:c≠b:=fun e=>by subst e;rw [hb] at hc;cases hc
  exact .inr ⟨h0,c,g,(A5 hne).trans hc,rfl,L8 hne,hg⟩
end Go.Proofs.YtaapofnkmpiknaaGreat
namespace Go.Proofs.YtaapofnkmpiknaaGreat
open Go Go.Ab
structure B6w (Q:A0k) (n:Nat):Prop where
 goods:∀ i,i<n→0≤gI Q.goods i∧gI Q.goods i≤1000000000000
 taxes:∀ i,i<n→0≤gI Q.taxes i∧gI Q.taxes i≤1000000000000
 ngoods:Q.goods.length=n
 ntaxes:Q.taxes.length=n
 ship:0≤Q.ship∧Q.ship≤1000000000000
 shipTax:0≤Q.shipTax∧Q.shipTax≤1000000000000
 total:Q.total=A3 Q.goods+A3 Q.taxes+Q.ship+Q.shipTax
end Go.Proofs.YtaapofnkmpiknaaGreat
namespace Go.Proofs.YtaapofnkmpiknaaGreat
open Go Go.Ab
attribute [local irreducible] upd del
def IsF (n:Nat) (F:Nat→Bool) (y:H1):Prop:=∃ f,y=⟨4,1,n,f⟩∧∀ k,k<n→f k=eB (F k)
theorem IsF.set {n i:Nat} {F F':Nat→Bool} {f:Nat→AV} (h:∀ k,k<n→f k=eB (F k)) (h1:F' i=true) (h2:∀ k,k≠i→F' k=F k):IsF n F' ⟨4,1,n,G8 f i (eB true)⟩:=by
 refine ⟨_,rfl,fun k hk=>?_⟩
 by_cases e:k=i
 ·subst e;rw [B4,h1]
 ·rw [J1 e,h k hk,h2 k e]
def OD (bo bd:Nat) (L:List Int) (n:Nat) (F:Nat→Bool):St→St→Prop:=R8 bo (IsL L) (R8 bd (IsF n F) E9)
section
variable {bo bd n:Nat} {L L':List Int} {F F':Nat→Bool} {s t:St} {y:H1}
theorem OD.setD (h:OD bo bd L n F s t) (hy:IsF n F' y):OD bo bd L n F' s (upd t bd y):=R8.map h fun s h=>R8.set O1 h hy
end
end Go.Proofs.YtaapofnkmpiknaaGreat
namespace Go.Proofs.YtaapofnkmpiknaaGreat
open Go Go.Ab
theorem C1e (f:Nat→Int) {n i:Nat} (hi:i<n):gI ((List.range n).map f) i=f i:=by
 unfold gI;simp [C9i,hi]
theorem B4Y {t:Y6} {z:J9} {cats:List C9} {nets:List Int} {ship:Int} (h:A1a t z cats nets ship) (hn:∀ i,i<nets.length→0≤gI nets i∧gI nets i≤1000000000000) (hs:ship≤1000000000000) (exempt:Bool) (deals:List A0Z) :
  B6w (A9Z (L0 t z exempt cats nets ship) deals) nets.length:=by
 have hq:=B3S h exempt deals
 obtain ⟨r1,r2⟩:=A1v h
 obtain ⟨t1,t2⟩:=A4Z (t:=t) h.nets r1 r2
 have hm:=A0T (t:=t) h.ship.1 (A3m h.zone).2.1
 have tl:=fun i (hi:i<nets.length)=>B1Q (t:=t) h.nets r1 r2 hi
 have tp:∀ i,i<nets.length→0≤gI (G7 t (cats.map (F9 z)) nets) i:=fun i hi=>(t2 _ (A7 (by omega))).1
 refine ⟨fun i hi=>?_,fun i hi=>?_,hq.ngoods,hq.ntaxes,⟨hq.ship.1,?_⟩,⟨hq.shipTax.1,?_⟩,hq.total⟩
 ·show 0≤gI (Y7 _ _ _) i∧gI (Y7 _ _ _) i≤_
  unfold Y7
  rw [C1e _ hi]
  have h1:=hn i hi
  have h2:=tl i hi
  have h3:=tp i hi
  split<;>omega
 ·show 0≤gI (if exempt=true then List.replicate nets.length 0 else _) i∧gI (if exempt=true then List.replicate nets.length 0 else _) i≤_
  have h1:=hn i hi
  have h2:=tl i hi
  have h3:=tp i hi
  split
  ·have:gI (List.replicate nets.length 0) i=0:=by unfold gI;simp [C9i,hi]
   rw [this];omega
  ·omega
 ·show (if t.incl=true then ship - J6 t ship z.ship else ship)≤_
  split<;>omega
 ·show (if exempt=true then 0 else J6 t ship z.ship)≤_
  split<;>omega
theorem Q4.sold {R:D4} {C:List C9} {L:List E6} (h:Q4 R C L) {z:J9} {s:C9} (hz:A2A R.tax.zones s=some z) (exempt:Bool):B6w (B7T R C L z exempt) L.length:=by
 have hN:=h.nets
 have hf:=h.fee
 have hsh:=hN.ship
 have:=B4Y (h.levy hz) (fun i hi=>by
  have hi:i<L.length:=by rw [←hN.len];exact hi
  have h1:=hN.at' i hi
  have h2:=h.lines.line _ (A7 hi)
  have h9:(L.getD i default).qty * (L.getD i default).price≤9 * 4000:=D1U h2.1.2 (by omega) h2.2.1 (by omega)
  omega) (by omega) exempt (A2g R C L).deals
 rw [hN.len] at this;exact this
end Go.Proofs.YtaapofnkmpiknaaGreat
namespace Go.Proofs.YtaapofnkmpiknaaGreat
open Go Go.Ab
attribute [local irreducible] upd del
end Go.Proofs.YtaapofnkmpiknaaGreat
namespace Go.Ab
open Go
end Go.Ab
namespace Go.Proofs.YtaapofnkmpiknaaGreat
open Go Go.Ab
attribute [local irreducible] upd del
theorem B8q (t n a b:Int) (ht:0≤t∧t≤10000000000000) (hn:1≤n∧n≤100000) (ha:0≤a) (hab:a≤b) (hb:b≤n) (st:St) :
  S P 90 [eI t,eI n,eI a,eI b] st fun v st'=>v=.tuple [eI (L9 t n b - L9 t n a),eI 0]∧st'=st:=by
 have n1:=B0y t n b ht hn ⟨by omega,hb⟩ st
 have n2:=B0y t n a ht hn ⟨ha,by omega⟩ st
 have b1:=A0d (k:=b) ht.1 hn.1 (by omega) hb
 have b2:=A0d (k:=a) ht.1 hn.1 ha (by omega)
 have g2:decide (a>b)=false:=C9s (by omega)
 have hw:IntKind.i64.wrap (L9 t n b - L9 t n a)=L9 t n b - L9 t n a:=A6 (by omega) (by omega)
 refine SyW [] Tryz.func90 ?_
 repeat' ((conv=>whnf);first | refine B6 n1 ?_ | refine B6 n2 ?_ | rw [g2] | rw [hw])
 exact ⟨rfl,rfl⟩
theorem B6b {t n a b:Int} (ht:0≤t) (hn:1≤n) (hab:a≤b):L9 t n a≤L9 t n b:=by
 unfold L9
 exact Int.ediv_le_ediv (by omega) (C9N hab ht)
def A1h (o:D6) (x:M3):Int:=L9 (o.lines.getD x.line.toNat default).goods (o.lines.getD x.line.toNat default).sold (o.lines.getD x.line.toNat default).left - L9 (o.lines.getD x.line.toNat default).goods (o.lines.getD x.line.toNat default).sold ((o.lines.getD x.line.toNat default).left - x.qty)
def B2q (r:D4) (o:D6) (x:M3):Int:=(N6 (A1h o x) r.policy.restock 10000 1).1
def A1V (r:D4) (o:D6) (l:List M3):Int:=l.foldl (fun a x=>a+B2q r o x) 0
def B1c (r:D4) (o:D6) (day:Int) (l:List M3):Int:=if A4a r o day l≠0 then 0 else if day - o.day<r.policy.grace then 0 else A1V r o l
theorem A5T {f:M3→Int}:∀ {l:List M3} {i:Nat},S2 f l=0→i<l.length→f (l.getD i default)=0
 | x::l,i,h,hi=>by
  unfold S2 at h
  by_cases e:f x=0
  ·rw [if_pos e] at h
   cases i with
   | zero=>exact e
   | succ i=>exact A5T (l:=l) (i:=i) h (Nat.lt_of_succ_lt_succ hi)
  ·rw [if_neg e] at h;exact absurd h e
structure B6q (r:D4) (o:D6) (day:Int) (l:List M3):Prop where
 right:J4 r=true
 order:H7 o=true
 day:o.day≤day∧day≤100000
 oday:0≤o.day
 len:l.length≤1000
 at_:∀ i,i<l.length→0≤(l.getD i default).line∧(l.getD i default).line.toNat<o.lines.length∧1≤(l.getD i default).qty∧(l.getD i default).qty≤(o.lines.getD (l.getD i default).line.toNat default).left
theorem C2w {r:D4} {o:D6} {day:Int} {l:List M3} (h:A4a r o day l=0):B6q r o day l:=by
 unfold A4a at h
 split at h
 ·cases h
 rename_i h1
 split at h
 ·cases h
 rename_i h2
 split at h
 ·cases h
 rename_i h3
 split at h
 ·cases h
 rename_i h4
 split at h
 ·cases h
 rename_i h5
 split at h
 ·cases h
 have h4:=(G2 ..).1 (by simpa using h4:R1 0 100000 day=true)
 have h5:K6 l=true:=by simpa using h5
 have h2:H7 o=true:=by simpa using h2
 have h6:=h2
 unfold H7 A3I at h6
 simp only [C9l,G2] at h6
 have h7:=h5
 unfold K6 at h7
 simp only [C9l,C9n] at h7
 refine ⟨by simpa using h1,h2,⟨by omega,h4.2⟩,h6.1.1.1.1.2.2.1,by omega,fun i hi=>?_⟩
 have a1:=A1C h5 hi
 have a2:=A5T h hi
 unfold A1B at a2
 split at a2
 ·cases a2
 split at a2
 ·cases a2
 split at a2
 ·cases a2
 omega
theorem A9H {o:D6} (h:H7 o=true) {x:T7} (hx:x∈o.lines):Z2 x=true:=by
 unfold H7 A1c at h
 simp only [C9l,C9O] at h
 exact h.1.1.1.2.2 x hx
theorem B6Y {r:D4} {o:D6} {day:Int} {l:List M3} (h:B6q r o day l) {i:Nat} (hi:i<l.length):(0≤A1h o (l.getD i default)∧A1h o (l.getD i default)≤10000000000000)∧0≤B2q r o (l.getD i default)∧B2q r o (l.getD i default)≤10000000000000:=by
 obtain ⟨a1,a2,a3,a4⟩:=h.at_ i hi
 have k:=A1r (A9H h.order (A7 a2))
 have hr:=h.right
 unfold J4 A2f at hr
 simp only [C9l,G2] at hr
 have b1:=A0d (t:=(o.lines.getD (l.getD i default).line.toNat default).goods) (n:=(o.lines.getD (l.getD i default).line.toNat default).sold) (k:=(o.lines.getD (l.getD i default).line.toNat default).left) k.2.2.2.2.1.1 k.2.2.1.1 (by omega) k.2.2.2.1.2
 have b2:=A0d (t:=(o.lines.getD (l.getD i default).line.toNat default).goods) (n:=(o.lines.getD (l.getD i default).line.toNat default).sold) (k:=(o.lines.getD (l.getD i default).line.toNat default).left - (l.getD i default).qty) k.2.2.2.2.1.1 k.2.2.1.1 (by omega) (by omega)
 have b3:=B6b (t:=(o.lines.getD (l.getD i default).line.toNat default).goods) (n:=(o.lines.getD (l.getD i default).line.toNat default).sold) k.2.2.2.2.1.1 k.2.2.1.1 (show (o.lines.getD (l.getD i default).line.toNat default).left - (l.getD i default).qty≤(o.lines.getD (l.getD i default).line.toNat default).left by omega)
 have hp:0≤A1h o (l.getD i default)∧A1h o (l.getD i default)≤10000000000000:=by unfold A1h;omega
 have ht:=B1S (x:=A1h o (l.getD i default)) (num:=r.policy.restock) (den:=10000) (round:=1) hp.1 hr.2.1.1.2.1 hr.2.1.1.2.2 (by decide)
 exact ⟨hp,ht.1,by unfold B2q;omega⟩
theorem A5S {r:D4} {o:D6} {l:List M3} {i:Nat} (hi:i<l.length):A1V r o (l.take (i+1))=A1V r o (l.take i)+B2q r o (l.getD i default):=K3 hi _ _
theorem A8G {r:D4} {o:D6} {day:Int} {l:List M3} (h:B6q r o day l):∀ i:Nat,i≤l.length→0≤A1V r o (l.take i)∧A1V r o (l.take i)≤10000000000000 * (i:Int)
 | 0,_=>by rw [D1q];exact ⟨C9R 0,by show (0:Int)≤_;omega⟩
 | i+1,hi=>by
  have h1:=A8G h i (by omega)
  have h2:=(B6Y h (show i<l.length by omega)).2
  rw [A5S (by omega)]
  omega
set_option maxHeartbeats 1000000 in
theorem B7J (r:D4) (o:D6) (day:Int) (l:List M3) (hf:R3 r) (hr:r.items.length≤9223372036854775807) (hs:A3F o) (hl:l.length≤9223372036854775806) (st:St) :
  S P 31 [M0 r,I3 o,eI day,B0 2 A4E l] st fun v st'=>v=.tuple [eI (B1c r o day l),eI (A4a r o day l)]∧st'=st:=by
 have n1:=fun s=>A9W r o day l hf hr hs hl s
 have hok:=@C2w r o day l
 have hE:B1c r o day l=if A4a r o day l≠0 then 0 else if day - o.day<r.policy.grace then 0 else A1V r o l:=rfl
 rw [hE]
 clear hE
 generalize A4a r o day l=E at *
 refine F5 [4,5,13,14] Tryz.func31 ?_
 refine J0 (n1 _) ?_
 cases h0:(E != 0)
 case true =>
  rw [if_pos (show E≠0 by simpa using h0)];conv=>whnf
  exact ⟨rfl,rfl⟩
 obtain rfl:E=0:=by simpa using h0
 have hO:=hok rfl
 have hd:=hO.day
 have ho:=hO.oday
 have hw:IntKind.i64.wrap (day - o.day)=day - o.day:=A6 (by omega) (by omega)
 rw [if_neg (by simp)];conv=>whnf
 rw [hw]
 cases h7:decide (day - o.day<r.policy.grace)
 case true =>
  rw [if_pos (C9j h7)];conv=>whnf
  exact ⟨rfl,rfl⟩
 rw [if_neg (C9k h7)];conv=>whnf
 refine lp l.length [4,5,11,35,36,37] (fun i vs s=>vs=[.fptr (M0 r) 0,.fptr (I3 o) 0,eI (A1V r o (l.take i)),B0 2 A4E l,eI l.length,eI i]∧s=st) ?_ ?_
 ·conv=>whnf
  exact ⟨rfl,rfl⟩
 rintro i vs s hi ⟨rfl,rfl⟩
 conv=>whnf
 cases h:decide ((i:Int)<(l.length:Int))
 ·obtain rfl:=L5 h hi
  rw [C9u];conv=>whnf
  exact ⟨rfl,rfl⟩
 have hi':=X4 h
 obtain ⟨a1,a2,a3,a4⟩:=hO.at_ i hi'
 have k:=A1r (A9H hO.order (A7 a2))
 have f1:=B6Y hO hi'
 have f2:=A8G hO i hi
 have f3:=A5S (r:=r) (o:=o) hi'
 have hlen:=hO.len
 have hR:=hO.right
 unfold J4 A2f at hR
 simp only [C9l,G2] at hR
 have hw1:IntKind.i64.wrap ((o.lines.getD (l.getD (i:Int).toNat default).line.toNat default).left - (l.getD (i:Int).toNat default).qty)=(o.lines.getD (l.getD (i:Int).toNat default).line.toNat default).left - (l.getD (i:Int).toNat default).qty:=(A6 (by omega) (by omega):IntKind.i64.wrap ((o.lines.getD (l.getD i default).line.toNat default).left - (l.getD i default).qty)=_)
 have n2:=fun s=>B8q (o.lines.getD (l.getD i default).line.toNat default).goods (o.lines.getD (l.getD i default).line.toNat default).sold ((o.lines.getD (l.getD i default).line.toNat default).left - (l.getD i default).qty) (o.lines.getD (l.getD i default).line.toNat default).left k.2.2.2.2.1 k.2.2.1 (by omega) (by omega) k.2.2.2.1.2 s
 have n3:=fun s=>B0a (A1h o (l.getD i default)) r.policy.restock 1 s
 rw [if_pos hR.2.1.1.2] at n3
 have hw2:IntKind.i64.wrap (A1V r o (l.take i)+(N6 (A1h o (l.getD i default)) r.policy.restock 10000 1).1)=A1V r o (l.take (i+1)):=(A6 (by show _≤_+B2q r o _;omega) (by show _+B2q r o _≤_;omega)).trans f3.symm
 have a2':(l.getD (i:Int).toNat default).line<(o.lines.length:Int):=by show (l.getD i default).line<_;omega
 have a1':0≤(l.getD (i:Int).toNat default).line:=a1
 repeat' ((conv=>whnf);first | refine ⟨rfl,⟨by omega,by omega⟩,?_⟩ | rw [hw1] | refine B6 (n2 _) ?_ | refine B6 (n3 _) ?_ | rw [hw2] | fail)
 refine I9 ?_
 exact nx hi' ⟨by rw [C1 (by omega)],rfl⟩
theorem _root_.Go.Ab.Col.blks {ty e n:Nat} {f:Nat→AV} {st w w':St} {v:AV} {L:List (Nat×H1)} (hc:Col ty e f w n v w') (h:C8 st L w):∃ b,OV e b n v∧C8 st ((b,⟨ty,e,n,f⟩)::L) w':=by
 rcases hc with ⟨rfl,rfl,rfl⟩ | ⟨h0,b,g,h1,rfl,rfl,h4⟩
 ·exact ⟨0,OV.nil e 0,h.soft 0 ty e f⟩
 ·exact ⟨b,.inr ⟨h0,rfl⟩,h.got h1 ((E9.refl w).upd h1) ⟨g,A0 ..,h4⟩⟩
theorem B0U (l:List T7) (hl:l.length≤100000) (st:St):S P 153 [B0 6 R6 l] st fun v st'=>U9 55 6 R6 l st v st':=by
 refine SyW [] Tryz.func153 ?_
 cases l with
 | nil =>
  conv=>whnf
  refine ⟨?_,?_⟩
  ·conv=>whnf
   exact Col.start _ _ _ _
  ·conv=>whnf
   refine apE rfl rfl rfl rfl rfl (by show 0 * 56≤_;omega) (fun _=>?_) (fun h=>absurd h (by show ¬ 0<0;omega));conv=>whnf
   exact Col.start _ _ _ _
 | cons u us =>
  conv=>whnf
  refine Col.apps (n:=0) (m:=us.length+1) (q:=r55) (f:=fun k=>R6 ((u::us).getD k default)) rfl rfl rfl rfl rfl (fun i hi=>by rw [C9y]) (by show (0+(us.length+1)) * 56≤140737488355328;simp only [C9G] at hl;omega) (Col.start _ _ _ _) (fun sv s' hc'=>?_);conv=>whnf
  rw [C9y] at hc'
  exact hc'
theorem A6V (l:List A0l) (hl:l.length≤100000) (st:St):S P 154 [B0 3 A0a l] st fun v st'=>v=B0 3 A0a l∧st'=st:=by
 refine A6L (ty:=70) ?_
 refine SyW [] Tryz.func154 ?_
 cases l with
 | nil =>
  conv=>whnf
  refine ⟨?_,?_⟩
  ·conv=>whnf
   exact Col.start _ _ _ _
  ·conv=>whnf
   refine apE rfl rfl rfl rfl rfl (by show 0 * 24≤_;omega) (fun _=>?_) (fun h=>absurd h (by show ¬ 0<0;omega));conv=>whnf
   exact Col.start _ _ _ _
 | cons u us =>
  conv=>whnf
  refine Col.apps (n:=0) (m:=us.length+1) (q:=r70) (f:=fun k=>A0a ((u::us).getD k default)) rfl rfl rfl rfl rfl (fun i hi=>by rw [C9y]) (by show (0+(us.length+1)) * 24≤140737488355328;simp only [C9G] at hl;omega) (Col.start _ _ _ _) (fun sv s' hc'=>?_);conv=>whnf
  rw [C9y] at hc'
  exact hc'
def C2c (o:D6) (st:St) (v:AV) (st':St):Prop:=∃ lv bl,C8 st [(bl,⟨55,6,o.lines.length,fun k=>R6 (o.lines.getD k default)⟩)] st'∧OV 6 bl o.lines.length lv ∧
 v=.agg [eS o.id,eI o.rules,eS o.zone,eB o.exempt,E3 o.codes,eI o.day,lv,eI o.ship,eI o.shipTax,eI o.fee,eI o.net,eI o.book.goods,eI o.book.tax,eI o.book.ship,eI o.book.shipTax,eI o.book.fee,B0 3 A0a o.tenders]
theorem B7H (o:D6) (hc:o.codes.length≤100000) (hl:o.lines.length≤100000) (ht:o.tenders.length≤100000) (st:St):S P 98 [I3 o] st fun v st'=>C2c o st v st':=by
 have n1:=fun s=>B0V o.codes hc s
 have n2:=fun s=>B0U o.lines hl s
 have n3:=fun s=>A6V o.tenders ht s
 refine A1G [] A7d mixed Tryz.func98 (by rfl) rfl rfl rfl ?_;conv=>whnf
 intro b1 hb1
 generalize hs:(upd st b1 _:St)=w
 have h:=C8.new' hs (A0U st) hb1
 clear hs hb1
 conv=>whnf
 intro b2 hb2
 generalize hs:(upd w b2 _:St)=w2
 have h:=C8.new' hs h hb2
 clear hs hb2
 have hb:=h.has1 (.s .z)
 conv=>whnf
 refine .inr ⟨[5,10,12,14],.qui 0 (.qui 1 (.qui 2 (.qui 3 (.qui 4 (.qui 6 (.qui 7 (.qui 9 (.eff 5 [7] (.qui 8 (.eff 10 [] (.qui 11 (.eff 12 [] (.qui 13 (.eff 14 [] (.done))))))))))))))),by kernel_rfl,?_⟩
 repeat' ((conv=>whnf);first | refine quL hb (fun _ hs=>B7c hs rfl Nat.one_pos rfl ⟨rfl,rfl⟩) ?_ | refine quT (fun s=>A3H (n1 s)) ?_ | fail)
 conv=>whnf
 refine call (n2 _) (fun lv w3 hv=>?_)
 obtain ⟨bl,hlv,h⟩:=hv.blks h
 have hb:=h.has1 (.s (.s .z))
 repeat' ((conv=>whnf);first | refine ⟨fun _=>hb,?_⟩ | refine quT (fun s=>A3H (n3 s)) ?_ | fail)
 conv=>whnf
 refine L1 h (.s (.s .z)) rfl rfl (by rfl) ?_;conv=>whnf
 intro w h;conv=>whnf
 refine C6z h (.s (.s .z)) rfl rfl rfl hlv.one (by decide) ?_;conv=>whnf
 intro w h;conv=>whnf
 refine L1 h (.s (.s .z)) rfl rfl (by rfl) ?_;conv=>whnf
 intro w h;conv=>whnf
 refine O8 h (.s (.s .z)) rfl Nat.one_pos rfl ?_;conv=>whnf
 refine L1 h (.s .z) rfl rfl (C6u (by rfl) (by simp only [A2,List.all_cons,hlv.one];rfl)) ?_;conv=>whnf
 intro w h;conv=>whnf
 refine O8 h (.s .z) rfl Nat.one_pos rfl ?_;conv=>whnf
 exact ⟨lv,bl,(h.drop 2).drop 1,hlv,rfl⟩
def A1K (o:D6) (x:M3):Int:=if x.line≥o.lines.length then 7 else if x.qty>(o.lines.getD x.line.toNat default).left then 12 else 0
def A3S (o:D6) (l:List M3):Int:=if H7 o=false then 2 else if K6 l=false then 2 else S2 (A1K o) l
def C2A (x:T7) (n:Int):T7:=⟨x.sku,x.price,x.sold,x.left - n,x.goods,x.tax⟩
def B9E (ls:List T7) (x:M3):List T7:=ls.set x.line.toNat (C2A (ls.getD x.line.toNat default) x.qty)
def offs (ls:List T7) (l:List M3):List T7:=l.foldl B9E ls
def B3Y:D6:=⟨.empty,0,.empty,false,[],0,[],0,0,0,0,⟨0,0,0,0,0⟩,[]⟩
def A9p (o:D6) (l:List M3):D6:=if A3S o l≠0 then B3Y else ⟨o.id,o.rules,o.zone,o.exempt,o.codes,o.day,offs o.lines l,o.ship,o.shipTax,o.fee,o.net,o.book,o.tenders⟩
theorem setD {α : Type} [Inhabited α] (l:List α) (x : α) {k:Nat} (hk:k<l.length) (j:Nat):(l.set k x).getD j default=if j=k then x else l.getD j default:=by
 simp only [C9i,D0O]
 by_cases h:k=j
 ·subst h;simp [hk]
 ·rw [if_neg h,if_neg (Ne.symm h)]
theorem A4M:∀ (l:List M3) (ls:List T7),(offs ls l).length=ls.length
 | [],_=>rfl
 | x::l,ls=>(A4M l _).trans (D0p ..)
theorem A8Q {l:List M3} {i:Nat} (hi:i<l.length) (ls:List T7):offs ls (l.take (i+1))=B9E (offs ls (l.take i)) (l.getD i default):=K3 hi _ _
theorem B4c {l:List M3} (h:K6 l=true) (ls:List T7):∀ (i:Nat),i≤l.length→(∀ k,k<i→¬(l.getD k default).line≥ls.length)→∀ j:Nat,A8L l i<j→(offs ls (l.take i)).getD j default=ls.getD j default
 | 0,_,_,_,_=>by rw [D1q];rfl
 | i+1,hi,hE,j,hj=>by
  have h1:=h
  unfold K6 at h1
  rw [C9l,C9O] at h1
  have h2:=h1.2 i (C9S.2 (by omega))
  unfold A0D at h2
  simp only [C9l,C9n] at h2
  have h3:(l.getD i default).line<j:=hj
  have h4:=hE i (by omega)
  have h5:=(A1C h (show i<l.length by omega)).1
  rw [A8Q (by omega),B9E,setD _ _ (by rw [A4M];omega),if_neg (by omega)]
  exact B4c h ls i (by omega) (fun k hk=>hE k (by omega)) j (by omega)
theorem B7x {o:D6} {l:List M3} (h:K6 l=true) {i:Nat} (hok:∀ k,k<i→A1K o (l.getD k default)=0) (hi:i<l.length):(offs o.lines (l.take i)).getD (l.getD i default).line.toNat default=o.lines.getD (l.getD i default).line.toNat default:=by
 have h1:=h
 unfold K6 at h1
 rw [C9l,C9O] at h1
 have h2:=h1.2 i (C9S.2 hi)
 unfold A0D at h2
 simp only [C9l,C9n] at h2
 have h3:=(A1C h hi).1
 exact B4c h o.lines i (by omega) (fun k hk hh=>by
  have:=hok k hk
  rw [A1K,if_pos hh] at this;cases this) _ (by omega)
theorem C2l {st w:St} (h:E9 st w) (e:Int):A4 [.tuple [.agg [eS .empty,eI 0,eS .empty,eB false,.emp,eI 0,.emp,eI 0,eI 0,eI 0,eI 0,eI 0,eI 0,eI 0,eI 0,eI 0,.emp],eI e]] w [.tuple [I3 B3Y,eI e]] st:=by
 refine A4.trans (t:=w) ?_ (h.shift _)
 refine A4.tuple (A4.cons (A4.agg ?_) (A4.keep _ _)) rfl
 iterate 4 refine A4.cons (A4.keep [_] _) ?_
 refine A4.cons (I1 1 _) ?_
 refine A4.cons (A4.keep [_] _) ?_
 refine A4.cons (I1 6 _) ?_
 iterate 9 refine A4.cons (A4.keep [_] _) ?_
 exact I1 3 _
set_option maxHeartbeats 1000000 in
theorem B7D (o:D6) (l:List M3) (hs:A3F o) (hl:l.length≤9223372036854775806) (st:St) :
  S P 40 [I3 o,B0 2 A4E l] st fun v st'=>v=.tuple [I3 (A9p o l),eI (A3S o l)]∧st'=st:=by
 have n2:=fun s=>A4P o hs s
 have n4:=fun s=>B4q l hl s
 have hta:=fun (h:K6 l=true) i (hi:i<l.length)=>A1C h hi
 refine S.post (post:=fun v w=>((A3S o l≠0∧E9 st w)∧v=.tuple [.agg [eS .empty,eI 0,eS .empty,eB false,.emp,eI 0,.emp,eI 0,eI 0,eI 0,eI 0,eI 0,eI 0,eI 0,eI 0,eI 0,.emp],eI (A3S o l)]) ∨
   (A3S o l=0∧∃ bl,C8 st [(bl,⟨55,6,o.lines.length,fun k=>R6 ((offs o.lines l).getD k default)⟩)] w ∧
    v=.tuple [.agg [eS o.id,eI o.rules,eS o.zone,eB o.exempt,E3 o.codes,eI o.day,.own 6 bl 0 o.lines.length,eI o.ship,eI o.shipTax,eI o.fee,eI o.net,eI o.book.goods,eI o.book.tax,eI o.book.ship,eI o.book.shipTax,eI o.book.fee,B0 3 A0a o.tenders],eI 0])) ?_
  (fun v w hv=>by
   rcases hv with ⟨⟨h1,h2⟩,rfl⟩ | ⟨h1,bl,h2,rfl⟩
   ·refine ⟨_,_,⟨rfl,rfl⟩,?_⟩
    rw [A9p,if_pos h1]
    exact C2l h2 _
   ·obtain ⟨s1,h3,k1⟩:=h2.frzO .z
    refine ⟨_,_,⟨rfl,rfl⟩,?_⟩
    rw [A9p,if_neg (by rw [h1];exact fun h=>h rfl),h1]
    refine A4.trans (t:=s1) ?_ (h3.fin _)
    refine A4.tuple (A4.cons (A4.agg ?_) (A4.keep _ _)) rfl
    iterate 6 refine A4.cons (A4.keep [_] _) ?_
    rw [show AV.arr 6 o.lines.length _=B0 6 R6 (offs o.lines l) by unfold B0;rw [A4M]] at k1
    refine A4.cons k1 ?_
    exact A4.keep _ _)
 have hE:A3S o l=if H7 o=false then 2 else if K6 l=false then 2 else S2 (A1K o) l:=rfl
 rw [hE]
 clear hE
 have hO:H7 o=true→(1≤o.lines.length∧∀ x∈o.lines,Z2 x=true)∧o.codes.length≤100000:=fun h=>by
  refine ⟨⟨?_,fun x=>A9H h⟩,?_⟩<;>(unfold H7 A1c A3I U0 at h;simp only [C9l,C9n] at h;omega)
 generalize H7 o=b2 at *
 generalize hb4:K6 l=b4 at *
 refine A1G [2,8] A7d mixed Tryz.func40 (by rfl) rfl rfl rfl ?_;conv=>whnf
 intro b1 hb1
 generalize hs1:(upd st b1 _:St)=w
 have h:=C8.new' hs1 (A0U st) hb1
 clear hs1 hb1
 conv=>whnf
 refine B6 (n2 _) ?_
 cases b2
 ·conv=>whnf
  refine L1 h .z rfl rfl (by rfl) ?_;conv=>whnf
  intro w h;conv=>whnf
  refine O8 h .z rfl Nat.one_pos rfl ?_;conv=>whnf
  exact .inl ⟨⟨by simp,h.sup⟩,rfl⟩
 rw [if_neg (by simp)];conv=>whnf
 refine B6 (n4 _) ?_
 cases b4
 ·conv=>whnf
  refine L1 h .z rfl rfl (by rfl) ?_;conv=>whnf
  intro w h;conv=>whnf
  refine O8 h .z rfl Nat.one_pos rfl ?_;conv=>whnf
  exact .inl ⟨⟨by simp,h.sup⟩,rfl⟩
 rw [if_neg (by simp)]
 obtain ⟨⟨hl1,hkb⟩,hcl⟩:=hO rfl
 conv=>whnf
 refine call (B7H o hcl hs.lines hs.tenders _) (fun v w2 hv=>?_)
 obtain ⟨lv,bl,hB,hlv,rfl⟩:=hv
 obtain rfl:=hlv.own hl1
 have h:=h.trans hB
 conv=>whnf
 intro b6 hb6
 generalize hs1:(upd w2 b6 _:St)=w3
 have h:=C8.new' hs1 h hb6
 clear hs1 hb6
 conv=>whnf
 refine L1 h .z rfl rfl (by rfl) ?_;conv=>whnf
 intro w h;conv=>whnf
 refine lp l.length [4,6,21,22,23] (fun i vs s=>vs=[.optr 17 b1 0 0,.optr 17 b6 0 0,B0 2 A4E l,eI l.length,eI i]∧(∀ k,k<i→A1K o (l.getD k default)=0) ∧
   C8 st [(b6,⟨50,17,1,fun _=>.agg [eS o.id,eI o.rules,eS o.zone,eB o.exempt,E3 o.codes,eI o.day,.own 6 bl 0 o.lines.length,eI o.ship,eI o.shipTax,eI o.fee,eI o.net,eI o.book.goods,eI o.book.tax,eI o.book.ship,eI o.book.shipTax,eI o.book.fee,B0 3 A0a o.tenders]⟩),
    (bl,⟨55,6,o.lines.length,fun k=>R6 ((offs o.lines (l.take i)).getD k default)⟩),(b1,⟨50,17,1,fun _=>.agg [eS .empty,eI 0,eS .empty,eB false,.emp,eI 0,.emp,eI 0,eI 0,eI 0,eI 0,eI 0,eI 0,eI 0,eI 0,eI 0,.emp]⟩)] s) ?_ ?_
 ·conv=>whnf
  exact ⟨rfl,fun k hk=>absurd hk (by omega),h⟩
 clear h
 rintro i vs s hi ⟨rfl,hok,h⟩
 conv=>whnf
 cases h1:decide ((i:Int)<(l.length:Int))
 ·obtain rfl:=L5 h1 hi
  rw [A3U hok]
  rw [C9u] at h;conv=>whnf
  refine O8 h .z rfl Nat.one_pos rfl ?_;conv=>whnf
  refine L1 h (.s (.s .z)) rfl rfl (by rfl) ?_;conv=>whnf
  intro w h;conv=>whnf
  refine O8 h (.s (.s .z)) rfl Nat.one_pos rfl ?_;conv=>whnf
  exact .inr ⟨rfl,bl,(h.drop 0).drop 1,rfl⟩
 have hi':=X4 h1
 have ht0:=hta rfl i hi'
 have hat:A1K o (l.getD (i:Int).toNat default)≠0→S2 (A1K o) l=A1K o (l.getD (i:Int).toNat default):=fun h=>A5q hi' hok h
 have hE:A1K o (l.getD (i:Int).toNat default)=if (l.getD (i:Int).toNat default).line≥o.lines.length then 7 else if (l.getD (i:Int).toNat default).qty>(o.lines.getD (l.getD (i:Int).toNat default).line.toNat default).left then 12 else 0:=rfl
 change 0≤(l.getD (i:Int).toNat default).line∧1≤(l.getD (i:Int).toNat default).qty at ht0
 conv=>whnf
 refine I8 ?_
 refine O8 h .z rfl Nat.one_pos rfl ?_;conv=>whnf
 cases h2:decide ((l.getD (i:Int).toNat default).line≥(o.lines.length:Int))
 case true =>
  rw [if_pos (C9j h2)] at hE
  rw [hat (by rw [hE];decide),hE];conv=>whnf
  refine L1 h (.s (.s .z)) rfl rfl (by rfl) ?_;conv=>whnf
  intro w h;conv=>whnf
  refine O8 h (.s (.s .z)) rfl Nat.one_pos rfl ?_;conv=>whnf
  exact .inl ⟨⟨by simp,h.sup⟩,rfl⟩
 rw [if_neg (C9k h2)] at hE
 have h2:=C9k h2
 have hx:=B7x hb4 hok hi'
 change (offs o.lines (l.take i)).getD (l.getD (i:Int).toNat default).line.toNat default=o.lines.getD (l.getD (i:Int).toNat default).line.toNat default at hx
 have hk:=A1r (hkb _ (A7 (show (l.getD (i:Int).toNat default).line.toNat<o.lines.length by omega)))
 conv=>whnf
 refine O8 h .z rfl Nat.one_pos rfl ?_;conv=>whnf
 refine I8 ?_
 rw [C9y ((l.getD (i:Int).toNat default).line.toNat)]
 have hb:=h.has (.s .z) (by show 0<o.lines.length;omega)
 refine .inr ⟨[],.qui 0 (.qui 1 (.qui 2 (.qui 3 (.qui 4 (.qui 5 (.qui 6 (.done))))))),by kernel_rfl,?_⟩
 repeat' ((conv=>whnf);first | refine quT (fun _=>⟨rfl,rfl⟩) ?_ | refine quL hb (fun _ hs=>B7c hs rfl (by show (l.getD (i:Int).toNat default).line.toNat<o.lines.length;omega) rfl ⟨rfl,rfl⟩) ?_ | fail)
 conv=>whnf
 rw [hx]
 cases h3:decide ((l.getD (i:Int).toNat default).qty>(o.lines.getD (l.getD (i:Int).toNat default).line.toNat default).left)
 case true =>
  rw [if_pos (C9j h3)] at hE
  rw [hat (by rw [hE];decide),hE];conv=>whnf
  refine L1 h (.s (.s .z)) rfl rfl (by rfl) ?_;conv=>whnf
  intro w h;conv=>whnf
  refine O8 h (.s (.s .z)) rfl Nat.one_pos rfl ?_;conv=>whnf
  exact .inl ⟨⟨by simp,h.sup⟩,rfl⟩
 rw [if_neg (C9k h3)] at hE
 have h3:=C9k h3
 conv=>whnf
 refine .inr ⟨[9],.qui 0 (.qui 1 (.qui 2 (.qui 3 (.qui 4 (.qui 5 (.qui 6 (.qui 7 (.qui 8 (.eff 9 [] (.done)))))))))),by kernel_rfl,?_⟩
 repeat' ((conv=>whnf);first | refine quT (fun _=>⟨rfl,rfl⟩) ?_ | refine quL hb (fun _ hs=>B7c hs rfl (by show (l.getD (i:Int).toNat default).line.toNat<o.lines.length;omega) rfl ⟨rfl,rfl⟩) ?_ | fail)
 conv=>whnf
 refine C6y h (.s .z) rfl (by show (l.getD (i:Int).toNat default).line.toNat<o.lines.length;omega) rfl (by rfl) ?_;conv=>whnf
 intro w h
 rw [hx] at h;conv=>whnf
 have hw:IntKind.i64.wrap ((o.lines.getD (l.getD (i:Int).toNat default).line.toNat default).left - (l.getD (i:Int).toNat default).qty)=(o.lines.getD (l.getD (i:Int).toNat default).line.toNat default).left - (l.getD (i:Int).toNat default).qty:=A6 (by omega) (by omega)
 rw [hw] at h
 refine I9 ?_
 refine nx hi' ⟨by rw [C1 (by omega)],M6 hok hE,h.as (fun k=>R6 ((offs o.lines (l.take (i+1))).getD k default)) (.s .z) fun k hk=>?_⟩
 rw [A8Q hi',B9E,setD _ _ (by rw [A4M];show (l.getD (i:Int).toNat default).line.toNat<_;omega)]
 show G8 _ _ _ k=R6 (if k=(l.getD (i:Int).toNat default).line.toNat then _ else _)
 by_cases hkk:k=(l.getD (i:Int).toNat default).line.toNat
 ·rw [hkk,B4,if_pos rfl]
  show _=R6 (C2A ((offs o.lines (l.take i)).getD (l.getD (i:Int).toNat default).line.toNat default) _)
  rw [hx];rfl
 ·rw [J1 hkk,if_neg hkk]
def spW:D4:=spR 30 0 1000
def spL:List E6:=[⟨⟨#[97]⟩,1,50⟩]
def spQ:A0k:=⟨[50],[5],0,0,55,[]⟩
def spT (n:Int):List M3:=[⟨0,n⟩]
theorem A4i (w g c:Int):R3 (spR w g c):=⟨C9v _,fun p hp=>absurd hp D1b,by show 0<_;decide,by show 0<_;decide⟩
theorem A7R (n:Int):A3F (spO n):=⟨(by decide:Sm 1),(by decide:Sm 1),(by decide:Sm 0),fun s hs=>(by cases hs),(by decide:1≤100000),fun x hx=>by rw [C9Z.1 hx];exact (by decide:Sm 1),(by decide:1≤100000)⟩
theorem B5I (st:St):S P 122 [M0 spW,E3 [],B0 3 M2 spL] st fun v st'=>v=.tuple [A1S ⟨[50],50,0,[]⟩,eI 0]∧st'=st :=
 (price_S B1J spW [] spL (A4i ..) (by decide) (by decide) (by decide) st).mono fun v s hv=>by
  obtain ⟨hv,rfl⟩:=hv
  refine ⟨?_,rfl⟩
  rcases hv with ⟨h,_⟩ | ⟨_,o1,o2,h1,h2,h3⟩
  ·exact absurd (show F8 spW [] spL=0 by kernel_rfl) h
  ·rw [show spW.promos=[] from rfl] at h1 h2 h3
   rw [show H5 [] o1=[] from List.perm_nil.1 ((A5G [] o1).trans h1.1),show H5 [] o2=[] from List.perm_nil.1 ((A5G [] o2).trans h2.1),show Q9 spW spL [] []=⟨[50],50,0,[]⟩ by kernel_rfl] at h3
   exact h3
theorem B0q:A1a spW.tax spZ (M1 spW spL) [50] 0:=by
 refine ⟨by kernel_rfl,by kernel_rfl,by kernel_rfl,⟨by decide,fun x hx=>?_,by decide⟩,by decide⟩
 rw [C9Z.1 hx];decide
theorem B5J (st:St):S P 60 [M0 spW,eS ⟨#[122]⟩,eB false,E3 [],B0 3 M2 spL] st fun v st'=>v=.tuple [A7b spQ,eI 0]∧st'=st:=by
 have hI:∀ st,S P 123 [B0 4 H2 spW.items,B0 3 M2 spL] st fun v s=>v=B0 4 H2 (C2 spW.items spL)∧s=st:=fun st=>A5u _ _ (by decide) (by decide) (fun x hx=>by rw [C9Z.1 hx];kernel_rfl) st
 have h:=quote_S (r:=spW) (codes:=[]) (l:=spL) (Pr:=⟨[50],50,0,[]⟩) (z:=spZ) (zone:=⟨#[122]⟩) false B5I hI (by decide) B0q (by kernel_rfl) (fun st=>B0T spW.tax _ _ (by decide) (by kernel_rfl) (fun x hx=>(A1v B0q).2 x hx) st) (A8N B0q false) st
 rw [show A9Y spW spZ false spL ⟨[50],50,0,[]⟩=spQ by kernel_rfl] at h
 exact h
theorem B5K:B2c 60 spW (spO 1) spQ 0:=⟨B5J,⟨by decide,fun x hx=>by rw [C9Z.1 hx];decide⟩,⟨by decide,fun x hx=>by rw [C9Z.1 hx];decide⟩⟩
set_option maxHeartbeats 2000000 in
theorem B4D (st:St):S P 32 [] st fun v st'=>v=.bool true∧st'=st:=by
 have n1:=fun s=>B7J spW (spO 2) 6 (spT 1) (A4i ..) (by decide) (A7R 2) (by decide) s
 have n2:=fun s=>B7D (spO 2) (spT 1) (A7R 2) (by decide) s
 have n3:=fun s=>B5p spW (spO 1) spQ 0 (A4i ..) (A7R 1) (fun _ _ _=>B5K) s
 have n4:=fun d s=>A9W spW (spO 2) d (spT 1) (A4i ..) (by decide) (A7R 2) (by decide) s
 rw [show A4a spW (spO 2) 6 (spT 1)=0 by kernel_rfl,show B1c spW (spO 2) 6 (spT 1)=5 by kernel_rfl] at n1
 rw [show A3S (spO 2) (spT 1)=0 by kernel_rfl,show A9p (spO 2) (spT 1)=spO 1 by kernel_rfl] at n2
 rw [show A6F spW (spO 1) spQ 0=(⟨50,5,0,0,0⟩,0) by kernel_rfl] at n3
 have n5:=n4 35
 have n6:=n4 36
 rw [show A4a spW (spO 2) 35 (spT 1)=0 by kernel_rfl] at n5
 rw [show A4a spW (spO 2) 36 (spT 1)=13 by kernel_rfl] at n6
 refine A1k ?_
 refine A1G [] A7d mixed Tryz.func32 (by rfl) rfl rfl rfl ?_;conv=>whnf
 refine J0 (B8e _) ?_
 intro b1 hb1
 generalize hs:(upd st b1 _:St)=w
 have h:=C8.new' hs (A0U st) hb1
 clear hs hb1
 conv=>whnf
 intro b2 hb2
 generalize hs:(upd w b2 _:St)=w2
 have h:=C8.new' hs h hb2
 clear hs hb2
 conv=>whnf
 refine L1 h (.s .z) rfl rfl (by rfl) ?_;conv=>whnf
 intro w h;conv=>whnf
 refine L1 h .z rfl rfl (by rfl) ?_;conv=>whnf
 intro w h;conv=>whnf
 refine O8 h (.s .z) rfl Nat.one_pos rfl ?_;conv=>whnf
 refine O8 h .z rfl Nat.one_pos rfl ?_;conv=>whnf
 refine D3 (st':=w) ?_ (B6 (n1 w) ?_)
 ·refine A4.cons (A4.keep [_] _) (A4.cons (A4.keep [_] _) (A4.cons (A4.keep [_] _) (Le.shift (Le.arr1 ?_ rfl) _)))
  repeat' first | exact LeL.nil | refine LeL.cons ?_ ?_ | exact Le.refl _
 conv=>whnf
 refine O8 h .z rfl Nat.one_pos rfl ?_;conv=>whnf
 refine D3 (st':=w) ?_ (B6 (n2 w) ?_)
 ·refine A4.cons (A4.keep [_] _) (Le.shift (Le.arr1 ?_ rfl) _)
  repeat' first | exact LeL.nil | refine LeL.cons ?_ ?_ | exact Le.refl _
 conv=>whnf
 intro b6 hb6
 generalize hs:(upd w b6 _:St)=w6
 have h:=C8.new' hs h hb6
 clear hs hb6
 conv=>whnf
 refine L1 h .z rfl rfl (by rfl) ?_;conv=>whnf
 intro w h;conv=>whnf
 refine O8 h (.s (.s .z)) rfl Nat.one_pos rfl ?_;conv=>whnf
 refine O8 h .z rfl Nat.one_pos rfl ?_;conv=>whnf
 refine J0 (n3 _) ?_
 intro b8 hb8
 generalize hs:(upd w b8 _:St)=w8
 have h:=C8.new' hs h hb8
 clear hs hb8
 conv=>whnf
 refine L1 h .z rfl rfl (by rfl) ?_;conv=>whnf
 intro w h;conv=>whnf
 repeat' ((conv=>whnf);first | refine O8 h .z rfl Nat.one_pos rfl ?_ | refine O8 h (.s .z) rfl Nat.one_pos rfl ?_ | refine O8 h (.s (.s .z)) rfl Nat.one_pos rfl ?_ | refine O8 h (.s (.s (.s .z))) rfl Nat.one_pos rfl ?_ | refine D3 (st':=w) (A4.cons (A4.keep [_] _) (A4.cons (A4.keep [_] _) (A4.cons (A4.keep [_] _) (Le.shift (Le.arr1 (by repeat' first | exact LeL.nil | refine LeL.cons ?_ ?_ | exact Le.refl _) rfl) _)))) (B6 (n5 w) ?_) | refine D3 (st':=w) (A4.cons (A4.keep [_] _) (A4.cons (A4.keep [_] _) (A4.cons (A4.keep [_] _) (Le.shift (Le.arr1 (by repeat' first | exact LeL.nil | refine LeL.cons ?_ ?_ | exact Le.refl _) rfl) _)))) (B6 (n6 w) ?_) | refine ⟨rfl,⟨by decide,by decide⟩,?_⟩ | fail)
 conv=>whnf
 exact ⟨rfl,h.sup⟩
theorem B1I {w g c:Int} (hw:0≤w∧w≤100000) (hg:0≤g∧g≤100000) (hc:0≤c∧c≤10000):J4 (spR w g c)=true:=by
 unfold J4 A2f
 rw [show R1 0 100000 (spR w g c).policy.window=true from (G2 ..).2 hw,show R1 0 100000 (spR w g c).policy.grace=true from (G2 ..).2 hg,show R1 0 10000 (spR w g c).policy.restock=true from (G2 ..).2 hc]
 kernel_rfl
theorem B3c {w g c d:Int} (hw:0≤w∧w≤100000) (hg:0≤g∧g≤100000) (hc:0≤c∧c≤10000) (hd:5≤d∧d≤100000):A4a (spR w g c) (spO 2) d (spT 2)=if d - 5>w then 13 else 0:=by
 unfold A4a
 rw [B1I hw hg hc,show H7 (spO 2)=true by kernel_rfl,show R1 0 100000 d=true from (G2 ..).2 (by omega),show K6 (spT 2)=true by kernel_rfl,if_neg (by simp),if_neg (by simp),if_neg (show ¬ d<(spO 2).day from by show ¬ d<5;omega),if_neg (by simp),if_neg (by simp),show S2 (A1B (spR w g c).items (spO 2)) (spT 2)=0 by kernel_rfl]
 rfl
theorem C0b {w g c:Int} (hw:0≤w∧w≤100000) (hg:0≤g∧g≤100000) (hc:0≤c∧c≤10000):A4a (spR w g c) (spO 2) 4 (spT 2)=2:=by
 unfold A4a
 rw [B1I hw hg hc,show H7 (spO 2)=true by kernel_rfl]
 rfl
theorem C1N {w g c d:Int} (hw:0≤w∧w≤100000) (hg:0≤g∧g≤100000) (hc:0≤c∧c≤10000) (hd:5≤d∧d≤100000):B1c (spR w g c) (spO 2) d (spT 2)=if d - 5>w then 0 else if d - 5<g then 0 else (N6 100 c 10000 1).1:=by
 unfold B1c
 rw [B3c hw hg hc hd]
 by_cases h:d - 5>w
 ·rw [if_pos h,if_pos h];rfl
 ·rw [if_neg h,if_neg h,if_neg (by simp)]
  show (if d - 5<g then 0 else 0+(N6 (A1h (spO 2) ⟨0,2⟩) c 10000 1).1)=_
  rw [Int.zero_add];rfl
set_option maxHeartbeats 2000000 in
theorem A7z (window grace behind restock:Int) (st:St):S P 7 [eI window,eI grace,eI behind,eI restock] st fun v st'=>v=.bool true:=by
 have c1:=fun s=>B7q window 50 (by decide) (by decide) s
 have c2:=fun s=>B7q grace 50 (by decide) (by decide) s
 have c3:=fun s=>B7q behind 60 (by decide) (by decide) s
 have c4:=fun s=>B7p restock 10001 (by decide) (by decide) s
 have l1:=A2c window (n:=50) (by decide)
 have l2:=A2c grace (n:=50) (by decide)
 have l3:=A2c behind (n:=60) (by decide)
 have l4:=A2c restock (n:=10001) (by decide)
 generalize A2D window 50=W at *
 generalize A2D grace 50=G at *
 generalize A2D behind 60=B at *
 generalize A2D restock 10001=C at *
 have hw:0≤W∧W≤100000:=by omega
 have hg:0≤G∧G≤100000:=by omega
 have hc:0≤C∧C≤10000:=by omega
 have n1:=fun s=>A9W (spR W G C) (spO 2) (5+B) (spT 2) (A4i ..) (by show 1≤_;omega) (A7R 2) (by decide) s
 have n2:=fun s=>B7J (spR W G C) (spO 2) (5+B) (spT 2) (A4i ..) (by show 1≤_;omega) (A7R 2) (by decide) s
 have n3:=fun s=>A9W (spR W G C) (spO 2) 4 (spT 2) (A4i ..) (by show 1≤_;omega) (A7R 2) (by decide) s
 have n4:=fun s=>B5x 100 C 1 s
 rw [if_pos hc] at n4
 rw [C0b hw hg hc] at n3
 rw [B3c hw hg hc (by omega)] at n1
 rw [C1N hw hg hc (by omega),B3c hw hg hc (by omega)] at n2
 rw [show 5+B - 5=B by omega] at n1 n2
 have hwr:IntKind.i64.wrap (5+B)=5+B:=A6 (by omega) (by omega)
 refine A1G [] A7d mixed Tryz.func7 (by rfl) rfl rfl rfl ?_;conv=>whnf
 refine J0 (B8e _) ?_
 intro b1 hb1
 generalize hs:(upd st b1 _:St)=w
 have h:=C8.new' hs (A0U st) hb1
 clear hs hb1
 conv=>whnf
 intro b2 hb2
 generalize hs:(upd w b2 _:St)=w2
 have h:=C8.new' hs h hb2
 clear hs hb2
 conv=>whnf
 refine L1 h (.s .z) rfl rfl (by rfl) ?_;conv=>whnf
 intro w h;conv=>whnf
 refine L1 h .z rfl rfl (by rfl) ?_;conv=>whnf
 intro w h
 repeat' ((conv=>whnf);first | refine B6 (c1 _) ?_ | refine B6 (c2 _) ?_ | refine B6 (c3 _) ?_ | refine B6 (c4 _) ?_ | fail)
 conv=>whnf
 iterate 3
  refine L1 h (.s .z) rfl rfl (by rfl) ?_;conv=>whnf
  intro w h;conv=>whnf
 refine O8 h (.s .z) rfl Nat.one_pos rfl ?_;conv=>whnf
 refine O8 h .z rfl Nat.one_pos rfl ?_;conv=>whnf
 rw [hwr]
 refine D3 (st':=w) (A4.cons (A4.keep [_] _) (A4.cons (A4.keep [_] _) (A4.cons (A4.keep [_] _) (Le.shift (Le.arr1 (by repeat' first | exact LeL.nil | refine LeL.cons ?_ ?_ | exact Le.refl _) rfl) _)))) (B6 (n1 w) ?_)
 have hb1:decide (B≤W)=!decide (B>W):=by by_cases h:B>W<;>simp [h]<;>omega
 have hg1:∀ x y:Int,(if B<G then x else y)=if decide (B≥G)=true then y else x:=fun x y=>by by_cases h:B<G<;>simp [h]<;>omega
 rw [hg1] at n2
 have hbe:∀ x:Int,(x==x)=true:=fun x=>D2a x
 cases hb2:decide (B>W)<;>rw [hb2] at hb1<;>cases hb3:decide (B≥G)<;>rw [hb3] at n2
 all_goals
  first | rw [if_pos (C9j hb2),if_pos (C9j hb2)] at n2 | rw [if_neg (C9k hb2),if_neg (C9k hb2)] at n2
  first | rw [if_pos (C9j hb2)] | rw [if_neg (C9k hb2)]
  try rw [if_pos rfl] at n2
  try rw [if_neg (by simp)] at n2
  repeat' ((conv=>whnf);first | refine O8 h (.s .z) rfl Nat.one_pos rfl ?_ | refine O8 h .z rfl Nat.one_pos rfl ?_ | rw [hwr] | refine D3 (st':=w) (A4.cons (A4.keep [_] _) (A4.cons (A4.keep [_] _) (A4.cons (A4.keep [_] _) (Le.shift (Le.arr1 (by repeat' first | exact LeL.nil | refine LeL.cons ?_ ?_ | exact Le.refl _) rfl) _)))) (B6 (n2 w) ?_) | refine D3 (st':=w) (A4.cons (A4.keep [_] _) (A4.cons (A4.keep [_] _) (A4.cons (A4.keep [_] _) (Le.shift (Le.arr1 (by repeat' first | exact LeL.nil | refine LeL.cons ?_ ?_ | exact Le.refl _) rfl) _)))) (B6 (n3 w) ?_) | refine B6 (B4D _) ?_ | refine B6 (n4 _) ?_ | rw [hb1] | rw [hb2] | rw [hb3] | rw [hbe] | fail)
  conv=>whnf
  exact rfl
end Go.Proofs.YtaapofnkmpiknaaGreat
namespace Go.Ab
open Go Go.ChangeShapes
inductive LK where
 | bool
 | int (k:IntKind)
 | str
 | sl (ks:List LK)
def C2h (l:List AV):AV:=match l with | [v]=>v | l=>.agg l
inductive Fit:LK→AV→Prop
 | bool (b:Bool):Fit .bool (.bool b)
 | int (k:IntKind) (n:Int) (h:(Lit.int k n).wf=true):Fit (.int k) (.int k n)
 | str (s:ByteArray) (h:s.size≤maxLen):Fit .str (.str s)
 | sl (ks:List LK) (n:Nat) (L:Nat→List AV) (hn:n≤maxLen) (hl:∀ i,i<n→(L i).length=ks.length) (hf:∀ (i j:Nat) (y:AV) (k:LK),i<n→(L i)[j]?=some y→ks[j]?=some k→Fit k y):Fit (.sl ks) (.arr ks.length n fun i=>C2h (L i))
theorem Fit.one {k:LK} {v:AV} (h:Fit k v):v.one=true:=by cases h<;>rfl
structure C2d (w:World) (ks:List LK) (l:List AV) (cs:List Value):Prop where
 len:l.length=ks.length
 clen:cs.length=ks.length
 fit:∀ (j:Nat) (y:AV) (k:LK),l[j]?=some y→ks[j]?=some k→Fit k y
 rep:∀ (j:Nat) (y:AV) (c:Value),l[j]?=some y→cs[j]?=some c→G5 w st0 y c
theorem C2d.one {w:World} {ks:List LK} {l:List AV} {cs:List Value} (h:C2d w ks l cs):∀ v∈l,v.one=true:=fun v hv=>by
 obtain ⟨j,hj,rfl⟩:=D1W hv
 exact (h.fit j _ (ks[j]'(by rw [←h.len];exact hj)) (C9p hj) (C9p (by rw [←h.len];exact hj))).one
section
variable {H:Type} {enc:TypeId×Value→H} {P:Program} {w:World} {base:Nat} {spare:Nat→Bool} {held:Bool}
end
end Go.Ab
namespace Go.Ab
open Go
end Go.Ab
namespace Go.Ab
open Go
theorem an {a b:Bool} (h:a=true) (k:b=true):(a&&b)=true:=by rw [h,k];rfl
def kindsFit (P:Program) (fn:Func) (c:OpenClaim):Bool:=(c.kinds==(if c.domain.isEmpty then [] else fn.params.toList.map fun t=>match P.underlying t with | some (.int k)=>some k | _=>none))
theorem joined_of {P:Program} {f:FuncId} {fn:Func} {s:ChangeSpec} {c:OpenClaim} (h1:(c.wf (OpenSpec.ofChange s))=true) (h2:(laidOutB P)=true) (h3:(mapsRowed P)=true) (h4:(fn.params.all (P.readableRec ·))=true) (h5:(namedTie P c.named s.vars)=true) (h6:(c.stops==[])=true) (h7:(P.stops==[])=true) (h8:(c.knobs==[])=true) (h9:(P.stopKnobs==[])=true) (h10:(c.inPlace==P.inPlace f)=true) (h11:(c.unfollowed==P.unfollowed f)=true) (h12:(c.recurses==P.recurses f)=true) (h13:(c.named==P.varsNamed f)=true) (h14:(c.maps==(fn.params.toList++s.plain.varTypes P).any (P.mapsRec ·))=true) (h15:(c.ifaces==(fn.params.toList++s.plain.varTypes P).any (P.ifacesRec ·))=true) (h16:(c.mapsOut==P.mapsAmong fn.resultTypes.toList)=true) (h17:(c.loops==(fn.params.toList++s.plain.varTypes P).any (P.loopsFrom ·))=true) (h18:(c.wideKeys==(fn.params.toList++s.plain.varTypes P++fn.resultTypes.toList).any (P.wideKeysFrom ·))=true) (h19:(s.vars.all (P.varReadable ·))=true) (h20:(fn.resultTypes.all (fun t=>P.readableRec t&&decide (t<P.types.size)))=true) (h21:(c.ifacesOut==fn.resultTypes.toList.any (P.ifacesRec ·))=true) (h22:(c.loopsOut==fn.resultTypes.toList.any (P.loopsFrom ·))=true) (h23:(c.plainKeys==P.plainKeys)=true) (h24:c.shortTexts.isNone=true) (h25:P.stopsHeard=true) (h26:P.mayEnter=true) (h27:(c.lifted==P.liftsFinal)=true) (h28:(P.make==some c.make)=true) (h29:kindsFit P fn c=true) (h30:(c.pinned==c.pinnedBy)=true) (h31:(c.veiled==(fn.params.toList++s.plain.varTypes P++fn.resultTypes.toList).any (P.veiledRec ·))=true) (h32:(c.veiledFits P fn.params.toList (fn.params.toList++s.plain.varTypes P++fn.resultTypes.toList))=true):joinedFacts P f fn s c=true:=an (an (an (an (an (an (an (an (an (an (an (an (an (an (an (an (an (an (an (an (an (an (an (an (an (an (an (an (an (an (an (h1) h2) h3) h4) h5) h6) h7) h8) h9) h10) h11) h12) h13) h14) h15) h16) h17) h18) h19) h20) h21) h22) h23) h24) h25) h26) h27) h28) h29) h30) h31) h32
end Go.Ab
namespace Go.Proofs.YtaapofnkmpiknaaGreat.closed
open Go
theorem p2:(laidOutB Tryz.prog)=true:=by kernel_rfl
theorem p3:(mapsRowed Tryz.prog)=true:=by kernel_rfl
theorem p7:(Tryz.prog.stops==[])=true:=by kernel_rfl
theorem p9:(Tryz.prog.stopKnobs==[])=true:=by kernel_rfl
theorem p25:(Tryz.prog.stopsHeard)=true:=by kernel_rfl
theorem p26:(Tryz.prog.mayEnter)=true:=by kernel_rfl
end Go.Proofs.YtaapofnkmpiknaaGreat.closed
namespace Go.Proofs.YtaapofnkmpiknaaGreat.policyWindow
open Go.ChangeShapes Go.WideShapes Go.ChangeAt Go.RowKit
open Go.ChangeMaps (open_string shut_string)
theorem c1:(Rows.policyWindowRow.wf (OpenSpec.ofChange Rows.policyWindowSpec))=true:=by kernel_rfl
theorem c4:(Tryz.f7.params.all (Tryz.prog.readableRec ·))=true:=by kernel_rfl
theorem c5:(namedTie Tryz.prog Rows.policyWindowRow.named Rows.policyWindowSpec.vars)=true:=by kernel_rfl
theorem c6:((Rows.policyWindowRow.stops==[]))=true:=by kernel_rfl
theorem c8:((Rows.policyWindowRow.knobs==[]))=true:=by kernel_rfl
theorem c10:((Rows.policyWindowRow.inPlace==Tryz.prog.inPlace 7))=true:=by kernel_rfl
theorem c11:((Rows.policyWindowRow.unfollowed==Tryz.prog.unfollowed 7))=true:=by kernel_rfl
theorem c12:((Rows.policyWindowRow.recurses==Tryz.prog.recurses 7))=true:=by kernel_rfl
theorem c13:((Rows.policyWindowRow.named==Tryz.prog.varsNamed 7))=true:=by kernel_rfl
theorem c14:((Rows.policyWindowRow.maps==(Tryz.f7.params.toList++Rows.policyWindowSpec.plain.varTypes Tryz.prog).any (Tryz.prog.mapsRec ·)))=true:=by kernel_rfl
theorem c15:((Rows.policyWindowRow.ifaces==(Tryz.f7.params.toList++Rows.policyWindowSpec.plain.varTypes Tryz.prog).any (Tryz.prog.ifacesRec ·)))=true:=by kernel_rfl
theorem c16:((Rows.policyWindowRow.mapsOut==Tryz.prog.mapsAmong Tryz.f7.resultTypes.toList))=true:=by kernel_rfl
theorem c17:((Rows.policyWindowRow.loops==(Tryz.f7.params.toList++Rows.policyWindowSpec.plain.varTypes Tryz.prog).any (Tryz.prog.loopsFrom ·)))=true:=by kernel_rfl
theorem c18:((Rows.policyWindowRow.wideKeys==(Tryz.f7.params.toList++Rows.policyWindowSpec.plain.varTypes Tryz.prog++Tryz.f7.resultTypes.toList).any (Tryz.prog.wideKeysFrom ·)))=true:=by kernel_rfl
theorem c19:(Rows.policyWindowSpec.vars.all (Tryz.prog.varReadable ·))=true:=by kernel_rfl
theorem c20:(Tryz.f7.resultTypes.all (fun t=>Tryz.prog.readableRec t&&decide (t<Tryz.prog.types.size)))=true:=by kernel_rfl
theorem c21:((Rows.policyWindowRow.ifacesOut==Tryz.f7.resultTypes.toList.any (Tryz.prog.ifacesRec ·)))=true:=by kernel_rfl
theorem c22:((Rows.policyWindowRow.loopsOut==Tryz.f7.resultTypes.toList.any (Tryz.prog.loopsFrom ·)))=true:=by kernel_rfl
theorem c23:((Rows.policyWindowRow.plainKeys==Tryz.prog.plainKeys))=true:=by kernel_rfl
theorem c24:(Rows.policyWindowRow.shortTexts.isNone)=true:=by kernel_rfl
theorem c27:((Rows.policyWindowRow.lifted==Tryz.prog.liftsFinal))=true:=by kernel_rfl
theorem c28:((Tryz.prog.make==some Rows.policyWindowRow.make))=true:=by kernel_rfl
theorem c29:Ab.kindsFit Tryz.prog Tryz.f7 Rows.policyWindowRow=true:=by kernel_rfl
theorem c30:((Rows.policyWindowRow.pinned==Rows.policyWindowRow.pinnedBy))=true:=by kernel_rfl
theorem c31:((Rows.policyWindowRow.veiled==(Tryz.f7.params.toList++Rows.policyWindowSpec.plain.varTypes Tryz.prog++Tryz.f7.resultTypes.toList).any (Tryz.prog.veiledRec ·)))=true:=by kernel_rfl
theorem c32:(Rows.policyWindowRow.veiledFits Tryz.prog Tryz.f7.params.toList (Tryz.f7.params.toList++Rows.policyWindowSpec.plain.varTypes Tryz.prog++Tryz.f7.resultTypes.toList))=true:=by kernel_rfl
theorem B4H:joinedFacts Tryz.prog 7 Tryz.f7 Rows.policyWindowSpec Rows.policyWindowRow=true:=Ab.joined_of c1 closed.p2 closed.p3 c4 c5 c6 closed.p7 c8 closed.p9 c10 c11 c12 c13 c14 c15 c16 c17 c18 c19 c20 c21 c22 c23 c24 closed.p25 closed.p26 c27 c28 c29 c30 c31 c32
theorem own:ownKnob Tryz.prog.godebug=none:=by kernel_rfl
theorem C7A (a0:Int) (a1:Int) (a2:Int) (a3:Int) (w:World)  :
  Calls Tryz.prog 7 #[.int .i64 a0,.int .i64 a1,.int .i64 a2,.int .i64 a3] w fun e w'=>e=.returned (.bool true)∧Below w.heap.size w w':=by
 refine Ab.law_of_S (A7z a0 a1 a2 a3 Ab.st0) ⟨rfl,fun j y c hy hc=>?_⟩
 match j with
 | 0=>cases hy;cases hc;exact .int _ _
 | 1=>cases hy;cases hc;exact .int _ _
 | 2=>cases hy;cases hc;exact .int _ _
 | 3=>cases hy;cases hc;exact .int _ _
 | j+4=>cases hy
set_option maxRecDepth 100000 in
theorem lifted (os:Os) (started:os.Started) (H:Type) (enc:TypeId×Value→H) :
  ReturnsInHanded {} Tryz.checked os 7 .any (Rows.policyWindowSpec.pre6 enc Tryz.prog Tryz.f7 Rows.policyWindowRow.domain false) (Rows.policyWindowSpec.post enc Tryz.prog Tryz.f7 false true false false):=by
 refine returnsInHanded_of_change_sized (C:=Tryz.checked) own started (by kernel_rfl) Tryz.func7
  (ChangeSpec.witness6 (enc:=enc) (C:=Tryz.checked) false ⟨#[],#[.int .i64 0,.int .i64 0,.int .i64 0,.int .i64 0],[]⟩ 12 (by kernel_rfl) (by kernel_rfl) (by kernel_rfl) (by kernel_rfl)) ?_
 intro W base args ds gs before hval0 hW hcnd hsz0 _
 have hval:∀ (j:Nat) t v,Tryz.f7.params[j]?=some t→args[j]?=some v→Value.okWide Tryz.prog W .any base t v:=hval0
 have hW':=hW
 obtain ⟨p,q,hA0,hV,rfl,hfz,hnd⟩:=hW
 have hA:DataW.TrodAll enc Tryz.prog W 0 (fun _=>true) true Tryz.f7.params.toList args.toList ds p:=hA0
 rw [Tryz.params7] at hA hval
 obtain ⟨v0,vs0,d0,ds0,p0,q0,hargs,rfl,rfl,h0,r0⟩:=trodAll_cons hA
 obtain ⟨v1,vs1,d1,ds1,p1,q1,rfl,rfl,rfl,h1,r1⟩:=trodAll_cons r0
 obtain ⟨v2,vs2,d2,ds2,p2,q2,rfl,rfl,rfl,h2,r2⟩:=trodAll_cons r1
 obtain ⟨v3,vs3,d3,ds3,p3,q3,rfl,rfl,rfl,h3,r3⟩:=trodAll_cons r2
 obtain ⟨rfl,rfl,rfl⟩:=trodAll_nil r3
 obtain rfl:args=#[v0,v1,v2,v3]:=by cases args;simp_all
 obtain ⟨rfl,rfl⟩:=trodVars_none hV
 obtain ⟨a0,rfl,rfl,rfl,w0⟩:=open_int Tryz.underlying3 (hval 0 3 v0 rfl rfl) h0
 obtain ⟨a1,rfl,rfl,rfl,w1⟩:=open_int Tryz.underlying3 (hval 1 3 v1 rfl rfl) h1
 obtain ⟨a2,rfl,rfl,rfl,w2⟩:=open_int Tryz.underlying3 (hval 2 3 v2 rfl rfl) h2
 obtain ⟨a3,rfl,rfl,rfl,w3⟩:=open_int Tryz.underlying2 (hval 3 2 v3 rfl rfl) h3
 clear hA0 hval0 hsz0
 refine (C7A a0 a1 a2 a3 W  ).mono fun e W' ⟨he,bel⟩=>?_
 subst he
 exact ⟨_,rfl,_,_,_,[],_,[],hW',trodAll_mk1 (shut_bool Tryz.underlying4 _),trodAll_cons_mk (shut_int Tryz.underlying3 w0) (trodAll_cons_mk (shut_int Tryz.underlying3 w1) (trodAll_cons_mk (shut_int Tryz.underlying3 w2) (trodAll_cons_mk (shut_int Tryz.underlying2 w3) trodAll_mk0))),rfl,bel.frame _,fun h=>by cases h⟩
theorem over:Rows.policyWindowRow.holds Tryz.pinned (OpenSpec.ofChange Rows.policyWindowSpec) :=
 OpenClaim.holds_of_wide 7 Tryz.f7 rfl rfl rfl rfl rfl rfl rfl ⟨rfl,rfl,rfl,rfl,rfl⟩ rfl rfl rfl rfl rfl (by kernel_rfl) Tryz.func7 B4H
  (C9j (by kernel_rfl)) (by unfold Func.isWrapper;first | (rw [if_pos (by decide +kernel)];kernel_rfl) | (rw [if_neg (by decide +kernel)];exact ⟨rfl,rfl⟩))
  (fun os started H enc _=>lifted os started H enc)
theorem proved:Rows.PolicyWindowSaid:=over
#print axioms proved
end Go.Proofs.YtaapofnkmpiknaaGreat.policyWindow
namespace Go.Proofs.YtaapofnkmpiknaaGreat
theorem policyWindow_holds:Rows.PolicyWindowSaid:=policyWindow.proved
end Go.Proofs.YtaapofnkmpiknaaGreat
