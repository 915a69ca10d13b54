/- Part 32 of the proof: the law, for every input, and its row -/
import Derived.Test.YtbajhapmlfbelaaGreatQf31
import Derived.ChangeSlices
import Derived.ChangeArms
import Derived.Test.YtbajhapmlfbelaaGreatRows
import Derived.ProofKit
import Derived.JoinedOf
import Derived.KernelRfl
import Derived.WalkKit
import Derived.OpenShut
import Derived.ShutString
import Derived.ChangeOld
import Derived.Below
import Derived.SizedLaws
set_option maxRecDepth 100000
set_option linter.unusedVariables false
set_option linter.unusedSimpArgs false
namespace Go.Proofs.YtbajhapmlfbelaaGreat
open Go Go.Ab
attribute [local irreducible] upd del
structure C6F (lt:Int→Int→Bool) (b n:Nat) (g:FuncId) (cs:List AV) (cf:Int→Int→Int) (a m e:Nat) (l:List Int) (st:St):Prop where
 am:a<m
 me:m<e
 en:e≤n
 nl:n≤l.length
 big:l.length<4611686018427387904
 has:A0o st b l
 lo:∀ x y,a≤x→x<y→y<m→lt (gI l y) (gI l x)=false
 hi:∀ x y,m≤x→x<y→y<e→lt (gI l y) (gI l x)=false
 g:∀ x∈l,∀ y∈l,∀ st',S P g (eI x::eI y::cs) st' fun v s=>v=eI (cf x y)∧s=st'
def C5p (lt:Int→Int→Bool) (b:Nat) (a e:Nat) (l:List Int) (st:St):AV→St→Prop:=fun v st'=>v=.tuple []∧∃ l',l'.Perm l∧S3 lt (gI l) (gI l') a e∧A0o st' b l'∧∀ c,c≠b→st' c=st c
set_option maxHeartbeats 8000000 in
theorem B6V (lt:Int→Int→Bool) (b n:Nat) (g:FuncId) (cs:List AV) (cf:Int→Int→Int) (hlt:∀ x y,decide (cf x y<0)=lt x y) (ho:Ord lt):∀ (d a m e:Nat) (l:List Int) (st:St),e - a≤d→C6F lt b n g cs cf a m e l st →
  S P 319 [.own 1 b 0 n,eI a,eI m,eI e,.fn (.func g) [] cs] st (C5p lt b a e l st):=by
 intro d
 induction d with
 | zero=>intro a m e l st hd h;have:=h.am;have:=h.me;omega
 | succ d ih =>
 intro a m e l st hd ⟨ham,hme,hen,hnl,hl,⟨f,hst,hf⟩,hlo,hhi,hg⟩
 have idx:∀ k:Nat,k<l.length→f (0+(k:Int).toNat)=eI (gI l k):=fun k hk=>by rw [show 0+(k:Int).toNat=k by omega];exact hf k hk
 have cal:∀ x y:Nat,x<l.length→y<l.length→∀ s,S P g (eI (gI l x)::eI (gI l y)::cs) s fun v s'=>v=eI (cf (gI l x) (gI l y))∧s'=s:=fun x y hx hy s=>hg _ (B3 hx) _ (B3 hy) s
 have wm:IntKind.i64.wrap ((m:Int) - (a:Int))=((m - a:Nat):Int):=by rw [A9 (by omega) (by omega)];omega
 have we:IntKind.i64.wrap ((e:Int) - (m:Int))=((e - m:Nat):Int):=by rw [A9 (by omega) (by omega)];omega
 have hasSt:A0o st b l:=⟨f,hst,hf⟩
 refine G0 [] Tryz.func319 ?_
 rw [wm]
 refine B9 (fun h=>?_) (fun h=>?_)<;>rw [h]<;>simp only [beq_iff_eq,beq_eq_false_iff_ne] at h
 ·-- one ahead
  have hma:m=a+1:=by omega
  subst hma;conv=>whnf
  refine ⟨[0,1,4,10,11],fun q vs st'=>∃ i j:Nat,a+1≤i∧i≤j∧j≤e∧(∀ k,a+1≤k→k<i→lt (gI l k) (gI l a)=true)∧(∀ k,j≤k→k<e→lt (gI l k) (gI l a)=false)∧q=j - i∧vs=[.own 1 b 0 n,eI a,.fn (.func g) [] cs,eI i,eI j]∧st=st',?_,?_⟩
  ·conv=>whnf
   exact ⟨_,a+1,e,Nat.le_refl _,by omega,Nat.le_refl _,fun k h1 h2=>by omega,fun k h1 h2=>by omega,rfl,rfl,rfl⟩
  ·rintro q vs st' ⟨i,j,hi,hij,hj,h1,h2,rfl,rfl,rfl⟩
   conv=>whnf
   refine B9 (fun h=>?_) (fun h=>?_)<;>rw [h]<;>simp only [decide_eq_true_eq,decide_eq_false_iff_not] at h
   ·conv=>whnf
    rw [A7m (i:=i) (j:=j) (by omega) (by omega) (by omega),show ((i:Int)+(j:Int)) / 2=(((i+j) / 2:Nat):Int) by omega]
    generalize hh:(i+j) / 2=c
    refine ⟨[],[],List.range 11,by kernel_rfl,?_⟩;conv=>whnf
    refine E1 ?_
    refine F2 hst (idx c (by omega)) ?_
    refine E1 ?_
    refine F2 hst (idx a (by omega)) ?_
    refine X9 (cal c a (by omega) (by omega) _) ?_
    rw [hlt]
    refine B9 (fun h3=>?_) (fun h3=>?_)<;>rw [h3]
    ·conv=>whnf
     refine G7 ?_
     refine ⟨j - (c+1),by omega,c+1,j,by omega,by omega,hj,fun k k1 k2=>?_,h2,rfl,by rw [B8 (by omega)],rfl⟩
     cases hk:lt (gI l k) (gI l a) with
     | true=>rfl
     | false =>
      by_cases ek:k=c
      ·subst ek;rw [h3] at hk;cases hk
      ·rw [ho.le _ _ _ hk (hhi k c k1 (by omega) (by omega))] at h3;cases h3
    ·conv=>whnf
     refine G7 ?_
     refine ⟨c - i,by omega,i,c,hi,by omega,by omega,h1,fun k k1 k2=>?_,rfl,rfl,rfl⟩
     by_cases ek:k=c
     ·subst ek;exact h3
     ·exact ho.le _ _ _ h3 (hhi c k (by omega) (by omega) k2)
   ·obtain rfl:i=j:=by omega
    conv=>whnf
    refine ⟨[0,10,13],fun q vs st'=>∃ (k:Nat) (l':List Int),a≤k∧k≤i - 1∧l'.Perm l∧(∀ q,gI l' q=B0j (gI l) a k q)∧A0o st' b l'∧(∀ c,c≠b→st' c=st c)∧q=i - 1 - k∧vs=[.own 1 b 0 n,eI i,eI k],?_,?_⟩
    ·conv=>whnf
     refine ⟨_,a,l,Nat.le_refl _,by omega,List.Perm.refl _,fun q=>?_,hasSt,fun _ _=>rfl,rfl,rfl⟩
     unfold B0j
     rw [if_neg (by omega)]
     split
     ·rename_i hq;subst hq;rfl
     ·rfl
    ·rintro q vs st' ⟨k,l',hak,hki,hp,hm,⟨f',hst',hf'⟩,hfr,rfl,rfl⟩
     have hlen:l'.length=l.length:=hp.length_eq
     have wi:IntKind.i64.wrap ((i:Int) - 1)=((i - 1:Nat):Int):=by rw [A9 (by omega) (by omega)];omega
     conv=>whnf
     rw [wi]
     refine B9 (fun h=>?_) (fun h=>?_)<;>rw [h]<;>simp only [decide_eq_true_eq,decide_eq_false_iff_not] at h
     ·have f1:f' (0+(k:Int).toNat)=eI (gI l' k):=by rw [show 0+(k:Int).toNat=k by omega];exact hf' _ (by omega)
      have f2:f' (0+((k+1:Nat):Int).toNat)=eI (gI l' (k+1)):=by rw [show 0+((k+1:Nat):Int).toNat=k+1 by omega];exact hf' _ (by omega)
      have f3:C9 f' (0+(k:Int).toNat) (O5 (eI (gI l' k)) 0 (cellsOf (eI (gI l' (k+1))))) (0+((k+1:Nat):Int).toNat)=eI (gI l' (k+1)):=(H3 (by omega)).trans f2
      conv=>whnf
      refine ⟨[15,17],[],List.range 18,by kernel_rfl,?_⟩;conv=>whnf
      try rw [B8 (by omega)]
      refine E1 ?_
      try rw [B8 (by omega)]
      refine F2 hst' f2 ?_
      refine E1 ?_
      refine F2 hst' f1 ?_
      refine E1 ?_
      refine N1 hst' f1 ?_
      try rw [B8 (by omega)]
      refine E1 ?_
      refine N1 (A0 ..) f3 ?_
      refine G7 ?_
      have k1:k<l'.length:=by omega
      have k2:k+1<l'.length:=by omega
      refine ⟨i - 1 - (k+1),by omega,k+1,swI l' k (k+1),by omega,by omega,(A7O k1 k2).trans hp,fun q=>?_,⟨_,by rw [A0,A6e];rfl,B3G (i':=0+(k:Int).toNat) (j':=0+((k+1:Nat):Int).toNat) hf' k1 k2 (by omega) (by omega)⟩,fun c hc=>by rw [A6 hc,A6 hc];exact hfr c hc,rfl,by rw [B8 (by omega)]⟩
      rw [A6O k1 k2,hm,hm,hm]
      unfold B0j
      repeat' split
      all_goals first | rfl | (exfalso;omega) | (congr 1<;>omega)
     ·obtain rfl:k=i - 1:=by omega
      conv=>whnf
      exact ⟨rfl,l',hp,C4I ho (by omega) hj (fun x y=>hhi x y) h1 (fun k k1 k2=>h2 k k1 k2) hm,⟨f',hst',hf'⟩,hfr⟩
 conv=>whnf
 rw [we]
 refine B9 (fun h=>?_) (fun h=>?_)<;>rw [h]<;>simp only [beq_iff_eq,beq_eq_false_iff_ne] at h
 ·-- one behind
  have hem:e=m+1:=by omega
  subst hem;conv=>whnf
  refine ⟨[0,2,4,14,15],fun q vs st'=>∃ i j:Nat,a≤i∧i≤j∧j≤m∧(∀ k,a≤k→k<i→lt (gI l m) (gI l k)=false)∧(∀ k,j≤k→k<m→lt (gI l m) (gI l k)=true)∧q=j - i∧vs=[.own 1 b 0 n,eI m,.fn (.func g) [] cs,eI i,eI j]∧st=st',?_,?_⟩
  ·conv=>whnf
   exact ⟨_,a,m,Nat.le_refl _,by omega,Nat.le_refl _,fun k h1 h2=>by omega,fun k h1 h2=>by omega,rfl,rfl,rfl⟩
  ·rintro q vs st' ⟨i,j,hi,hij,hj,h1,h2,rfl,rfl,rfl⟩
   conv=>whnf
   refine B9 (fun h=>?_) (fun h=>?_)<;>rw [h]<;>simp only [decide_eq_true_eq,decide_eq_false_iff_not] at h
   ·conv=>whnf
    rw [A7m (i:=i) (j:=j) (by omega) (by omega) (by omega),show ((i:Int)+(j:Int)) / 2=(((i+j) / 2:Nat):Int) by omega]
    generalize hh:(i+j) / 2=c
    refine ⟨[],[],List.range 12,by kernel_rfl,?_⟩;conv=>whnf
    refine E1 ?_
    refine F2 hst (idx m (by omega)) ?_
    refine E1 ?_
    refine F2 hst (idx c (by omega)) ?_
    refine X9 (cal m c (by omega) (by omega) _) ?_
    rw [hlt]
    cases h3:lt (gI l m) (gI l c)
    ·conv=>whnf
     refine G7 ?_
     refine ⟨j - (c+1),by omega,c+1,j,by omega,by omega,hj,fun k k1 k2=>?_,h2,rfl,by rw [B8 (by omega)],rfl⟩
     by_cases ek:k=c
     ·subst ek;exact h3
     ·exact ho.le _ _ _ (hlo k c k1 (by omega) (by omega)) h3
    ·conv=>whnf
     refine G7 ?_
     refine ⟨c - i,by omega,i,c,hi,by omega,by omega,h1,fun k k1 k2=>?_,rfl,rfl,rfl⟩
     cases hk:lt (gI l m) (gI l k) with
     | true=>rfl
     | false =>
      by_cases ek:k=c
      ·subst ek;rw [h3] at hk;cases hk
      ·rw [ho.le _ _ _ (hlo c k (by omega) (by omega) k2) hk] at h3;cases h3
   ·obtain rfl:i=j:=by omega
    conv=>whnf
    refine ⟨[0,14,17],fun q vs st'=>∃ (k:Nat) (l':List Int),i≤k∧k≤m∧l'.Perm l∧(∀ q,gI l' q=B0i (gI l) m k q)∧A0o st' b l'∧(∀ c,c≠b→st' c=st c)∧q=k - i∧vs=[.own 1 b 0 n,eI i,eI k],?_,?_⟩
    ·conv=>whnf
     refine ⟨_,m,l,by omega,Nat.le_refl _,List.Perm.refl _,fun q=>?_,hasSt,fun _ _=>rfl,rfl,rfl⟩
     unfold B0i
     rw [if_neg (by omega)]
     split
     ·rename_i hq;subst hq;rfl
     ·rfl
    ·rintro q vs st' ⟨k,l',hak,hki,hp,hm,⟨f',hst',hf'⟩,hfr,rfl,rfl⟩
     have hlen:l'.length=l.length:=hp.length_eq
     conv=>whnf
     refine B9 (fun h=>?_) (fun h=>?_)<;>rw [h]<;>simp only [decide_eq_true_eq,decide_eq_false_iff_not] at h
     ·have wk:IntKind.i64.wrap ((k:Int) - 1)=((k - 1:Nat):Int):=by rw [A9 (by omega) (by omega)];omega
      have f1:f' (0+(k:Int).toNat)=eI (gI l' k):=by rw [show 0+(k:Int).toNat=k by omega];exact hf' _ (by omega)
      have f2:f' (0+((k - 1:Nat):Int).toNat)=eI (gI l' (k - 1)):=by rw [show 0+((k - 1:Nat):Int).toNat=k - 1 by omega];exact hf' _ (by omega)
      have f3:C9 f' (0+(k:Int).toNat) (O5 (eI (gI l' k)) 0 (cellsOf (eI (gI l' (k - 1))))) (0+((k - 1:Nat):Int).toNat)=eI (gI l' (k - 1)):=(H3 (by omega)).trans f2
      conv=>whnf
      refine ⟨[15,17],[],List.range 18,by kernel_rfl,?_⟩;conv=>whnf
      try rw [wk]
      refine E1 ?_
      try rw [wk]
      refine F2 hst' f2 ?_
      refine E1 ?_
      refine F2 hst' f1 ?_
      refine E1 ?_
      refine N1 hst' f1 ?_
      try rw [wk]
      refine E1 ?_
      refine N1 (A0 ..) f3 ?_
      refine G7 ?_
      have k1:k<l'.length:=by omega
      have k2:k - 1<l'.length:=by omega
      refine ⟨k - 1 - i,by omega,k - 1,swI l' k (k - 1),by omega,by omega,(A7O k1 k2).trans hp,fun q=>?_,⟨_,by rw [A0,A6e];rfl,B3G (i':=0+(k:Int).toNat) (j':=0+((k - 1:Nat):Int).toNat) hf' k1 k2 (by omega) (by omega)⟩,fun c hc=>by rw [A6 hc,A6 hc];exact hfr c hc,rfl,by rw [wk]⟩
      rw [A6O k1 k2,hm,hm,hm]
      unfold B0i
      repeat' split
      all_goals first | rfl | (exfalso;omega) | (congr 1<;>omega)
     ·obtain rfl:k=i:=by omega
      conv=>whnf
      exact ⟨rfl,l',hp,C3x ho hi hj (fun x y=>hlo x y) h1 (fun k k1 k2=>h2 k k1 k2) hm,⟨f',hst',hf'⟩,hfr⟩
 conv=>whnf
 rw [A7m (i:=a) (j:=e) (by omega) (by omega) (by omega),show ((a:Int)+(e:Int)) / 2=(((a+e) / 2:Nat):Int) by omega]
 obtain ⟨mid,hmid⟩:∃ mid,mid=(a+e) / 2:=⟨_,rfl⟩
 obtain ⟨nn,hnn⟩:∃ nn,nn=mid+m:=⟨_,rfl⟩
 rw [←hmid]
 have wn:IntKind.i64.wrap ((mid:Int)+(m:Int))=(nn:Int):=by rw [A9 (by omega) (by omega)];omega
 have wp:IntKind.i64.wrap ((nn:Int) - 1)=((nn - 1:Nat):Int):=by rw [A9 (by omega) (by omega)];omega
 have wne:mid<m→IntKind.i64.wrap ((nn:Int) - (e:Int))=((nn - e:Nat):Int):=fun _=>by rw [A9 (by omega) (by omega)];omega
 rw [wn]
 refine B9 (fun h=>?c1) (fun h=>?c2)
 case' c1 =>
  rw [h]
  simp only [decide_eq_true_eq] at h
  conv=>whnf
  rw [wne (by omega)]
  obtain ⟨s0,hs0⟩:∃ s0,s0=nn - e:=⟨_,rfl⟩
  obtain ⟨r0,hr0⟩:∃ r0,r0=mid:=⟨_,rfl⟩
  have hs:s0=if mid<m then nn - e else a:=by rw [if_pos (by omega)];exact hs0
  have hr:r0=if mid<m then mid else m:=by rw [if_pos (by omega)];exact hr0
 case' c2 =>
  rw [h]
  simp only [decide_eq_false_iff_not] at h
  conv=>whnf
  obtain ⟨s0,hs0⟩:∃ s0,s0=a:=⟨_,rfl⟩
  obtain ⟨r0,hr0⟩:∃ r0,r0=m:=⟨_,rfl⟩
  have hs:s0=if mid<m then nn - e else a:=by rw [if_neg (by omega)];exact hs0
  have hr:r0=if mid<m then mid else m:=by rw [if_neg (by omega)];exact hr0
 all_goals
  have b0:a≤s0∧nn - s0≤e∧r0≤m∧r0≤mid∧s0≤r0:=by omega
  obtain ⟨b1,b2,b3,b4,b5⟩:=b0
  have hrng:∀ k,s0≤k→k<r0→m≤nn - 1 - k∧nn - 1 - k<e∧k≤nn - 1:=fun k k1 k2=>by omega
  rw [wp]
  refine ⟨[0,1,2,3,4,18,19,20,21,22],fun q vs st'=>∃ s r:Nat,Mid lt (gI l) s0 s r r0 (nn - 1)∧q=r - s∧vs=[.own 1 b 0 n,eI a,eI m,eI e,.fn (.func g) [] cs,eI mid,eI nn,eI s,eI r,eI ((nn - 1:Nat):Int)]∧st=st',?_,?_⟩
  ·conv=>whnf
   exact ⟨_,s0,r0,⟨⟨Nat.le_refl _,b5,Nat.le_refl _⟩,fun c c1 c2=>by omega,fun c c1 c2=>by omega⟩,rfl,by rw [hs0,hr0],rfl⟩
  rintro q vs st' ⟨s,r,hM,rfl,rfl,rfl⟩
  obtain ⟨l1,l2,l3⟩:=hM.le
  clear hs0 hr0
  conv=>whnf
  refine B9 (fun h=>?_) (fun h=>?_)<;>rw [h]<;>simp only [decide_eq_true_eq,decide_eq_false_iff_not] at h
  ·conv=>whnf
   rw [A7m (i:=s) (j:=r) (by omega) (by omega) (by omega),show ((s:Int)+(r:Int)) / 2=(((s+r) / 2:Nat):Int) by omega]
   obtain ⟨c,hc⟩:∃ c,c=(s+r) / 2:=⟨_,rfl⟩
   rw [←hc]
   have wc:IntKind.i64.wrap (((nn - 1:Nat):Int) - (c:Int))=((nn - 1 - c:Nat):Int):=by rw [A9 (by omega) (by omega)];omega
   refine ⟨[],[],List.range 14,by kernel_rfl,?_⟩;conv=>whnf
   rw [wc]
   refine E1 ?_
   refine F2 hst (idx (nn - 1 - c) (by omega)) ?_
   refine E1 ?_
   refine F2 hst (idx c (by omega)) ?_
   refine X9 (cal (nn - 1 - c) c (by omega) (by omega) _) ?_
   rw [hlt]
   cases h3:lt (gI l (nn - 1 - c)) (gI l c)
   ·conv=>whnf
    refine G7 ?_
    exact ⟨r - (c+1),by omega,c+1,r,hM.low ho (by omega) b1 b3 hrng hlo hhi h3,rfl,by rw [B8 (by omega)],rfl⟩
   ·conv=>whnf
    refine G7 ?_
    exact ⟨c - s,by omega,s,c,hM.high ho (by omega) b1 b3 hrng hlo hhi h3,rfl,rfl,rfl⟩
  obtain rfl:s=r:=by omega
  have wt:IntKind.i64.wrap ((nn:Int) - (s:Int))=((nn - s:Nat):Int):=by rw [A9 (by omega) (by omega)];omega
  obtain ⟨t,ht⟩:∃ t,t=nn - s:=⟨_,rfl⟩
  rw [←ht] at wt;conv=>whnf
  rw [wt]
  have cut:=fun (l1:List Int)=>C5B (g:=gI l1) ho ham hme hmid hnn hs hr hM ht
  refine B9 (fun h4=>?_) (fun h4=>?_)<;>rw [h4]
  all_goals first
    | (have h4:=of_decide_eq_true h4
       conv=>whnf
       refine B9 (fun h5=>?_) (fun h5=>?_)<;>rw [h5])
    | (have h4:=of_decide_eq_false h4
       obtain ⟨l1,hl1⟩:∃ l1,l1=l:=⟨_,rfl⟩
       have hp1:l1.Perm l:=by rw [hl1]
       have hg1:∀ k,gI l1 k=A2H (gI l) s m t k:=fun k=>by rw [hl1,B5e (by omega) (by omega) (by omega)]
       have hb1:A0o st b l1:=by rw [hl1];exact hasSt
       have hfr1:∀ c,c≠b→st c=st c:=fun _ _=>rfl
       clear hl1)
  all_goals first
    | (have h5:=of_decide_eq_true h5
       conv=>whnf
       refine call (C2c b l n s m t _ _ hasSt (by omega) (by omega) (by omega) hnl hl) (fun v st1 hv=>?_)
       obtain ⟨rfl,l1,hp1,hg1,hb1,hfr1⟩:=hv)
    | (have h5:=of_decide_eq_false h5
       obtain ⟨l1,hl1⟩:∃ l1,l1=l:=⟨_,rfl⟩
       have hp1:l1.Perm l:=by rw [hl1]
       have hg1:∀ k,gI l1 k=A2H (gI l) s m t k:=fun k=>by rw [hl1,B5e (by omega) (by omega) (by omega)]
       have hb1:A0o st b l1:=by rw [hl1];exact hasSt
       have hfr1:∀ c,c≠b→st c=st c:=fun _ _=>rfl
       clear hl1)
    | skip
  all_goals
   have hlen1:l1.length=l.length:=hp1.length_eq
   have cut:=cut l1 hg1 hlo hhi
   obtain ⟨u1,u2,u3,u4⟩:=cut.le
   obtain ⟨o1,o2⟩:=C1Z (f:=gI l) (g:=gI l1) u1 (show s≤m by omega) (show m≤t by omega) u4 hg1
   conv=>whnf
   refine B9 (fun h6=>?_) (fun h6=>?_)<;>rw [h6]
   all_goals first
    | (have h6:=of_decide_eq_true h6
       conv=>whnf
       refine B9 (fun h7=>?_) (fun h7=>?_)<;>rw [h7])
    | (have h6:=of_decide_eq_false h6
       obtain ⟨l2,hl2⟩:∃ l2,l2=l1:=⟨_,rfl⟩
       have hp2:l2.Perm l1:=by rw [hl2]
       have hP2:S3 lt (gI l1) (gI l2) a mid:=by rw [hl2];exact S3.refl fun x y q1 q2 q3=>cut.r2 x y (by omega) q2 q3
       have hfr2:=hfr1
       have hb2:=hb1
       rw [←hl2] at hb2
       clear hl2)
   all_goals first
    | (have h7:=of_decide_eq_true h7
       conv=>whnf
       refine call (ih a s mid l1 _ (by omega) ⟨by omega,by omega,by omega,by omega,by omega,hb1,cut.r1,cut.r2,fun x hx y hy=>hg x (hp1.subset hx) y (hp1.subset hy)⟩) (fun v st2 hv=>?_)
       obtain ⟨rfl,l2,hp2,hP2,hb2,hfr2⟩:=hv
       have hfr2:=fun c (hc:c≠b)=>(hfr2 c hc).trans (hfr1 c hc))
    | (have h7:=of_decide_eq_false h7
       obtain ⟨l2,hl2⟩:∃ l2,l2=l1:=⟨_,rfl⟩
       have hp2:l2.Perm l1:=by rw [hl2]
       have hP2:S3 lt (gI l1) (gI l2) a mid:=by rw [hl2];exact S3.refl fun x y q1 q2 q3=>cut.r1 x y q1 q2 (by omega)
       have hfr2:=hfr1
       have hb2:=hb1
       rw [←hl2] at hb2
       clear hl2)
    | skip
   all_goals
    have hlen2:l2.length=l1.length:=hp2.length_eq
    have same:∀ k,mid≤k→gI l2 k=gI l1 k:=fun k hk=>hP2.out k (.inr hk)
    have done:∀ l3:List Int,S3 lt (gI l2) (gI l3) mid e→S3 lt (gI l) (gI l3) a e:=fun l3 h3=>S3.turned o1 o2 (cut.join hP2 h3)
    conv=>whnf
    refine B9 (fun h8=>?_) (fun h8=>?_)
    ·rw [h8]
     simp only [decide_eq_true_eq] at h8
     conv=>whnf
     refine B9 (fun h9=>?_) (fun h9=>?_)
     ·rw [h9]
      simp only [decide_eq_true_eq] at h9
      conv=>whnf
      refine call (ih mid t e l2 _ (by omega) ⟨by omega,by omega,by omega,by omega,by omega,hb2,fun x y q1 q2 q3=>by rw [same x q1,same y (by omega)];exact cut.r3 x y q1 q2 q3,fun x y q1 q2 q3=>by rw [same x (by omega),same y (by omega)];exact cut.r4 x y q1 q2 q3,fun x hx y hy=>hg x (hp1.subset (hp2.subset hx)) y (hp1.subset (hp2.subset hy))⟩) (fun v st3 hv=>?_)
      obtain ⟨rfl,l3,hp3,hP3,hb3,hfr3⟩:=hv
      conv=>whnf
      exact ⟨rfl,l3,hp3.trans (hp2.trans hp1),done l3 hP3,hb3,fun c hc=>(hfr3 c hc).trans (hfr2 c hc)⟩
     ·rw [h9]
      simp only [decide_eq_false_iff_not] at h9
      conv=>whnf
      exact ⟨rfl,l2,hp2.trans hp1,done l2 (S3.refl fun x y q1 q2 q3=>by rw [same x q1,same y (by omega)];exact cut.r3 x y q1 q2 (by omega)),hb2,hfr2⟩
    ·rw [h8]
     simp only [decide_eq_false_iff_not] at h8
     conv=>whnf
     exact ⟨rfl,l2,hp2.trans hp1,done l2 (S3.refl fun x y q1 q2 q3=>by rw [same x q1,same y (by omega)];exact cut.r4 x y (by omega) q2 q3),hb2,hfr2⟩
theorem C2y:A3t 39:=by
 intro b l g cs cf lt hlt ho st hb hl hg
 by_cases h20:l.length≤20
 ·exact B0X b l g cs cf lt hlt ho st hb h20 hg
 refine G0 [] Tryz.func262 ?_
 refine ⟨[0,1,2,6,7,8],fun m vs st'=>(m=1∧st'=st∧vs=[.own 1 b 0 l.length,eI l.length,.fn (.func g) [] cs,eI 20,eI 0,eI 20]) ∨
  (m=0∧(∃ l',l'.Perm l∧Srt lt l' 0 20∧A0o st' b l'∧∀ c,c≠b→st' c=st c)∧vs=[.own 1 b 0 l.length,eI l.length,.fn (.func g) [] cs,eI 20,eI 20,eI 40]),?_,?_⟩
 ·conv=>whnf
  exact ⟨1,.inl ⟨rfl,rfl,rfl⟩⟩
 ·rintro m vs st' (⟨rfl,rfl,rfl⟩ | ⟨rfl,⟨l',hp,hs,hb',hfr⟩,rfl⟩)
  ·conv=>whnf
   refine B9 (fun h1=>?_) (fun h1=>?_)<;>rw [h1]<;>simp only [decide_eq_true_eq,decide_eq_false_iff_not] at h1
   ·conv=>whnf
    refine call (A7n b l l.length 0 20 g cs cf lt hlt ho _ hb (by omega) (by omega) (by omega) (by omega) hg) (fun v st1 hv=>?_)
    obtain ⟨rfl,l',hp,hs,hout,hb',hfr⟩:=hv
    conv=>whnf
    refine G7 ?_
    exact ⟨0,by omega,.inr ⟨rfl,⟨l',hp,hs,hb',hfr⟩,rfl⟩⟩
   ·exact absurd h1 (by omega)
  ·have hlen:l'.length=l.length:=hp.length_eq
   conv=>whnf
   refine B9 (fun h1=>?_) (fun h1=>?_)<;>rw [h1]<;>simp only [decide_eq_true_eq,decide_eq_false_iff_not] at h1
   ·exact absurd h1 (by omega)
   ·conv=>whnf
    refine call (A7n b l' l.length 20 l.length g cs cf lt hlt ho _ hb' (by omega) (by omega) (by omega) (by omega) (fun x hx y hy=>hg x (hp.subset hx) y (hp.subset hy))) (fun v st1 hv=>?_)
    obtain ⟨rfl,l2,hp2,hs2,hout,hb2,hfr2⟩:=hv
    have hp2:=hp2.trans hp
    have hlen2:l2.length=l.length:=hp2.length_eq
    have hfr2:=fun c (hc:c≠b)=>(hfr2 c hc).trans (hfr c hc)
    have hs1:Srt lt l2 0 20:=hs.congr fun k _ hk=>hout k (.inl hk)
    conv=>whnf
    refine ⟨[0,1,2,6],fun m vs st'=>(m=1∧st'=st1∧vs=[.own 1 b 0 l.length,eI l.length,.fn (.func g) [] cs,eI 20]) ∨
     (m=0∧(∃ l',l'.Perm l∧Srt lt l' 0 l.length∧A0o st' b l'∧∀ c,c≠b→st' c=st c)∧vs=[.own 1 b 0 l.length,eI l.length,.fn (.func g) [] cs,eI 40]),?_,?_⟩
    ·conv=>whnf
     exact ⟨1,.inl ⟨rfl,rfl,rfl⟩⟩
    ·rintro m vs st' (⟨rfl,rfl,rfl⟩ | ⟨rfl,⟨l3,hp3,hs3,hb3,hfr3⟩,rfl⟩)
     ·conv=>whnf
      refine B9 (fun h2=>?_) (fun h2=>?_)<;>rw [h2]<;>simp only [decide_eq_true_eq,decide_eq_false_iff_not] at h2
      ·conv=>whnf
       refine A4I [0,1,2,6,7,8] ?_;conv=>whnf
       intro I
       refine B9 (fun h3=>?_) (fun h3=>?_)<;>rw [h3]<;>simp only [decide_eq_true_eq,decide_eq_false_iff_not] at h3
       ·rw [show IntKind.i64.wrap (2 * 20)=40 from by rw [A9 (by omega) (by omega)];rfl] at h3;exact absurd h3 (by omega)
       ·conv=>whnf
        refine B9 (fun h4=>?_) (fun h4=>?_)<;>rw [h4]<;>simp only [decide_eq_true_eq,decide_eq_false_iff_not] at h4
        ·conv=>whnf
         refine call (B6V lt b l.length g cs cf hlt ho (l.length - 0) 0 20 l.length l2 _ (Nat.le_refl _) ⟨by omega,by omega,by omega,by omega,by omega,hb2,hs1,hs2,fun x hx y hy=>hg x (hp2.subset hx) y (hp2.subset hy)⟩) (fun v st3 hv=>?_)
         obtain ⟨rfl,l3,hp3,hP3,hb3,hfr3⟩:=hv
         conv=>whnf
         refine G7 ?_
         exact ⟨0,by omega,.inr ⟨rfl,⟨l3,hp3.trans hp2,hP3.srt,hb3,fun c hc=>(hfr3 c hc).trans (hfr2 c hc)⟩,rfl⟩⟩
        ·exact absurd (show (20:Int)<(l.length:Int) by omega) h4
      ·exact absurd h2 (by omega)
     ·conv=>whnf
      refine B9 (fun h2=>?_) (fun h2=>?_)<;>rw [h2]<;>simp only [decide_eq_true_eq,decide_eq_false_iff_not] at h2
      ·exact absurd h2 (by omega)
      ·conv=>whnf
       exact ⟨rfl,l3,hp3,hs3,hb3,hfr3⟩
theorem B4Q {p:B4} (h:A0V p):P2 p :=
 ⟨⟨Nat.le_trans h.scope.n1 (by decide),Nat.le_trans h.scope.n2 (by decide)⟩,⟨Nat.le_trans h.parts (by decide),fun x hx=>⟨Nat.le_trans (h.part x hx).n1 (by decide),Nat.le_trans (h.part x hx).n2 (by decide)⟩⟩⟩
structure A8D (R:H8) (C:List D6) (L:List G1):Prop where
 fit:Y0 R
 sm:A0w R
 promos:R.promos.length≤39
 codes:Sm C.length
 scodes:∀ s∈C,Sm s.size
 lines:L.length≤1000
theorem C8m {r:H8} {codes:List D6} {l:List G1} (h:A0w r) (hf:B5Y r=true) (hc:Sm codes.length) (hs:∀ s∈codes,Sm s.size) (hl:l.length≤1000):A8D r codes l:=by
 unfold B5Y at hf
 simp only [Bool.and_eq_true,decide_eq_true_eq] at hf
 obtain ⟨⟨⟨⟨h1,h2⟩,h3⟩,h4⟩,h5⟩:=hf
 exact ⟨⟨by show r.promos.length≤9223372036854775807;omega,fun p hp=>B4Q (h.promos p hp),by omega,by omega⟩,h,by omega,hc,hs,hl⟩
theorem B0w {R:H8} {C:List D6} {L:List G1} (hck:D4 R C L=0):P9 R=true:=by
 unfold D4 at hck
 cases h:P9 R
 ·rw [if_pos h] at hck;cases hck
 ·rfl
theorem A8D.both {R:H8} {C:List D6} {L:List G1} (h:A8D R C L):∃ (X:A1r) (e:Int),e=D4 R C L∧(e=0→X=W6 R C L)∧X.nets.length≤1000∧X.deals.length≤78 ∧
  (∀ s,S P 18 [G2 R,D2 C,B1 3 G4 L] s fun v s'=>v=.tuple [P1 X,eI e]∧s'=s) ∧
  (∀ s,S P 19 [G2 R,D2 C,B1 3 G4 L] s fun v s'=>v=.tuple [P1 X,eI e]∧s'=s):=by
 have hp:=h.promos
 have hsn:=h.sm.n
 have hcn:=h.codes
 have hL:=h.lines
 have a1:=fun s=>price_S C2y R C L h.fit (by show C.length≤9223372036854775807;omega) hsn (by have:=W5 R.promos C R.promos.length;omega) s
 have a2:=fun s=>B4W R C L h.fit h.sm (by omega) hcn h.scodes (by show L.length≤9223372036854775807;omega) s
 by_cases hck:D4 R C L=0
 ·have hR:=B0w hck
  have hC:promosC R.promos=true:=by
   unfold P9 at hR
   simp only [Bool.and_eq_true] at hR
   exact hR.1.1.1.2
  obtain ⟨xs,ys,hl⟩:=A8w h.fit hck
  refine ⟨W6 R C L,0,hck.symm,fun _=>rfl,?_,?_,fun s=>(a1 s).mono fun v s' ⟨hv,hs⟩=>⟨?_,hs⟩,fun s=>(a2 s).mono fun v s' ⟨hv,hs⟩=>⟨?_,hs⟩⟩
  ·show (T7 _ _ _ _).nets.length≤_
   rw [hl.len];exact hL
  ·show (T7 _ _ _ _).deals.length≤_
   rw [hl.deals,List.length_map,List.length_append]
   have h1:=hl.sx.length_le
   have h2:=hl.sy.length_le
   rw [List.length_map,(A2q R.promos C).length_eq] at h1 h2
   have:=W5 R.promos C R.promos.length
   omega
  ·rcases hv with ⟨h1,_⟩ | ⟨_,o1,o2,h1,h2,h3⟩
   ·exact absurd hck h1
   ·rw [A7F hC h1,A7F hC h2] at h3;exact h3
  ·rw [if_pos hck] at hv;exact hv
 ·refine ⟨⟨[],0,0,[]⟩,D4 R C L,rfl,fun e=>absurd e hck,Nat.zero_le _,Nat.zero_le _,fun s=>(a1 s).mono fun v s' ⟨hv,hs⟩=>⟨?_,hs⟩,fun s=>(a2 s).mono fun v s' ⟨hv,hs⟩=>⟨?_,hs⟩⟩
  ·rcases hv with ⟨_,h1⟩ | ⟨h1,_⟩
   ·exact h1
   ·exact absurd h1 hck
  ·rw [if_neg hck] at hv;exact hv
theorem B1Y (e:Int):Le (.tuple [.agg [.emp,.emp,eI 0,eI 0,eI 0,.emp],eI e]) (.tuple [A0B A2Y,eI e]):=fun rd sz c h=>by
 have hl:E0 [AV.emp,.emp,eI 0,eI 0,eI 0,.emp] [A8 [],A8 [],eI 0,eI 0,eI 0,B1 2 A2Q []]:=.cons (Le.emp _ _) (.cons (Le.emp _ _) (.cons (Le.refl _) (.cons (Le.refl _) (.cons (Le.refl _) (.cons (Le.emp _ _) .nil)))))
 cases h with
 | tuple cs vs hlen hg =>
  refine .tuple _ _ hlen fun j y c hy hc=>?_
  match j,hy with
  | 0,hy=>cases hy;exact (Le.agg hl) _ _ _ (hg 0 _ c rfl hc)
  | 1,hy=>cases hy;exact hg 1 _ c rfl hc
  | j+2,hy=>cases hy
theorem C1N {r:H8} {codes:List D6} {l:List G1} {Pr:A1r} {e:Int} {zone:D6} (exempt:Bool) (he:e≠0)
  (hP:∀ st,S P 18 [G2 r,D2 codes,B1 3 G4 l] st fun v s=>v=.tuple [P1 Pr,eI e]∧s=st) (st:St) :
  S P 45 [G2 r,eS zone,eB exempt,D2 codes,B1 3 G4 l] st fun v st'=>v=.tuple [A0B A2Y,eI e]∧st'=st:=by
 have hne:(e != 0)=true:=by simpa using he
 refine S.post (post:=fun v s'=>v=.tuple [.agg [.emp,.emp,eI 0,eI 0,eI 0,.emp],eI e]∧D8 st s') ?_ (fun v s' ⟨h1,h2⟩=>⟨_,st,⟨rfl,rfl⟩,by rw [h1];exact ((B1Y e).shift _).trans (h2.shift _)⟩)
 refine G0 [5,16] Tryz.func45 ?_
 intro b10 hb10;conv=>whnf
 refine I2 (hP _) ?_
 intro b12 hb12
 have h02:b10≠b12:=fun e=>by subst e;rw [A0] at hb12;cases hb12
 conv=>whnf
 refine stU (A0 ..) rfl ?_
 rw [B7];conv=>whnf
 rw [hne];conv=>whnf
 generalize hst:(upd (upd st b10 _) b12 _:St)=S0
 obtain ⟨f10,at10,hf10⟩:∃ f10:Nat→AV,S0 b10=some ⟨90,6,1,f10⟩∧f10 0=.agg [.emp,.emp,eI 0,eI 0,eI 0,.emp]:=by rw [←hst,A6 h02];exact ⟨_,A0 ..,rfl⟩
 have hs0:D8 st S0:=by rw [←hst];exact ((D8.refl st).upd hb10).upd hb12
 clear hst
 refine N1 at10 hf10 ?_
 refine F2 (A0 ..) (A5 ..) ?_
 exact ⟨rfl,hs0.over hb10⟩
theorem B9k {r:H8} {codes:List D6} {l:List G1} {Pr:A1r} {e:Int} {zone:D6} (exempt:Bool) (he:e≠0)
  (hP:∀ st,S P 19 [G2 r,D2 codes,B1 3 G4 l] st fun v s=>v=.tuple [P1 Pr,eI e]∧s=st) (st:St) :
  S P 46 [G2 r,eS zone,eB exempt,D2 codes,B1 3 G4 l] st fun v st'=>v=.tuple [A0B A2Y,eI e]∧st'=st:=by
 have hne:(e != 0)=true:=by simpa using he
 refine S.post (post:=fun v s'=>v=.tuple [.agg [.emp,.emp,eI 0,eI 0,eI 0,.emp],eI e]∧D8 st s') ?_ (fun v s' ⟨h1,h2⟩=>⟨_,st,⟨rfl,rfl⟩,by rw [h1];exact ((B1Y e).shift _).trans (h2.shift _)⟩)
 refine G0 [5] Tryz.func46 ?_
 intro b10 hb10;conv=>whnf
 refine I2 (hP _) ?_
 intro b12 hb12
 have h02:b10≠b12:=fun e=>by subst e;rw [A0] at hb12;cases hb12
 conv=>whnf
 refine stU (A0 ..) rfl ?_
 rw [B7];conv=>whnf
 rw [hne];conv=>whnf
 generalize hst:(upd (upd st b10 _) b12 _:St)=S0
 obtain ⟨f10,at10,hf10⟩:∃ f10:Nat→AV,S0 b10=some ⟨90,6,1,f10⟩∧f10 0=.agg [.emp,.emp,eI 0,eI 0,eI 0,.emp]:=by rw [←hst,A6 h02];exact ⟨_,A0 ..,rfl⟩
 have hs0:D8 st S0:=by rw [←hst];exact ((D8.refl st).upd hb10).upd hb12
 clear hst
 refine N1 at10 hf10 ?_
 refine F2 (A0 ..) (A5 ..) ?_
 exact ⟨rfl,hs0.over hb10⟩
theorem A8D.levyIn {R:H8} {C:List D6} {L:List G1} (h:A8D R C L) (hck:D4 R C L=0) {z:L3} (hz:V0 z=true):A0k R.tax z (J7 R L) (W6 R C L).nets (W6 R C L).ship:=by
 have ck:=A4f hck
 have hR:=ck.rules
 unfold P9 at hR
 simp only [Bool.and_eq_true] at hR
 obtain ⟨xs,ys,hl⟩:=A8w h.fit hck
 have hl:A9A R C L (W6 R C L) xs ys:=hl
 have h0:∀ x∈(W6 R C L).nets,0≤x:=fun x hx=>by
  obtain ⟨i,hi,rfl⟩:=E3 hx
  exact (hl.each i (by rw [←hl.len];exact hi)).1
 have hx:0≤A7 (xs.map Prod.snd):=C4 fun x hx=>by
  obtain ⟨a,ha,rfl⟩:=List.mem_map.1 hx
  have:=(hl.mem a (List.mem_append_left _ ha)).2.2
  omega
 have hs:=hl.sum
 have hn:=hl.nets
 have hg:=ck.lines.gross
 have hlen:=ck.lines.len
 have hsh:=hl.ship
 have hf:=ck.fee
 have hll:=hl.len
 exact ⟨hR.1.1.2,hz,by rw [B1M,hll],⟨by omega,h0,by omega⟩,by omega⟩
theorem A8D.quotes {R:H8} {C:List D6} {L:List G1} (h:A8D R C L) (exempt:Bool) (s:D6) :
  ∃ (Q:A4Q) (e:Int),(∀ st,S P 45 [G2 R,eS s,eB exempt,D2 C,B1 3 G4 L] st fun v st'=>v=.tuple [A0B Q,eI e]∧st'=st) ∧
   (∀ st,S P 46 [G2 R,eS s,eB exempt,D2 C,B1 3 G4 L] st fun v st'=>v=.tuple [A0B Q,eI e]∧st'=st) ∧
   Sm Q.goods.length∧Sm Q.taxes.length∧Sm Q.deals.length:=by
 obtain ⟨X,e,he,hX,x1,x2,p1,p2⟩:=h.both
 by_cases h0:e=0
 ·have hck:D4 R C L=0:=by rw [←he,h0]
  obtain rfl:=hX h0
  subst h0
  have ck:=A4f hck
  have hk:=ck.lines.known
  have hll:=ck.lines.len
  have hRI:=fun st=>B4U R.items L h.sm.n hll hk st
  have hI:=fun st=>A5S R.items L h.sm.n hll hk st
  cases hz:X7 R.tax.zones s with
  | none =>
   have hv0:=h.levyIn hck (z:=aqZ) (by kernel_rfl)
   exact ⟨A2Y,7,fun st=>C1M exempt p1 hI hll hv0 hz st,fun st=>B9j exempt p2 hRI hll hv0 h.sm.tax hz st,Nat.zero_le _,Nat.zero_le _,Nat.zero_le _⟩
  | some z =>
   have hR:=ck.rules
   unfold P9 at hR
   simp only [Bool.and_eq_true] at hR
   have hv:=h.levyIn hck (A9S hR.1.1.2 hz)
   have hq:B7h (A5r R z exempt L (W6 R C L)) (W6 R C L).nets.length:=B2V hv exempt (W6 R C L).deals
   have n1:=hq.ngoods
   have n2:=hq.ntaxes
   exact ⟨A5r R z exempt L (W6 R C L),0,fun st=>quote_S exempt p1 hI hll hv hz (fun st=>C5f hv st) (A8n hv exempt) st,fun st=>C1U exempt p2 hRI hll hv h.sm.tax hz st,
    by show _≤_;omega,by show _≤_;omega,by show (W6 R C L).deals.length≤9223372036854775807;omega⟩
 ·exact ⟨A2Y,e,fun st=>C1N exempt h0 p1 st,fun st=>B9k exempt h0 p2 st,Nat.zero_le _,Nat.zero_le _,Nat.zero_le _⟩
set_option maxHeartbeats 4000000 in
theorem B1z (r:H8) (zone:D6) (codes:List D6) (l:List G1) (near:Int) (hr:A0w r) (hcn:Sm codes.length) (hcs:∀ s∈codes,Sm s.size) (hln:Sm l.length) (st:St) :
  S P 7 [G2 r,eS zone,D2 codes,B1 3 G4 l,eI near] st fun v st'=>v=.bool true:=by
 have cR:=fun s=>B4M r s
 have cC:=fun s=>B4G codes s
 have cL:=fun s=>B4K l s
 have hOk:=C5W r codes l
 have fw:=fun s=>C5G r codes l s
 obtain ⟨FW,hFW⟩:∃ FW,FW=(B5Y r&&(decide ((codes.length:Int)<30)&&decide ((l.length:Int)<40))):=⟨_,rfl⟩
 rw [←hFW] at fw
 have raw:∀ {R C L},FW=true→(R=r∨R=A0g r)→(C=codes∨C=A0e codes)→(L=l∨L=U6 l)→A8D R C L:=by
  intro R C L hf h1 h2 h3
  rw [hf] at hFW
  have hFW:=hFW.symm
  simp only [Bool.and_eq_true,decide_eq_true_eq] at hFW
  obtain ⟨hf1,hf2,hf3⟩:=hFW
  have q2:C.length≤30∧∀ s∈C,Sm s.size:=by
   rcases h2 with rfl | rfl
   ·exact ⟨by omega,hcs⟩
   ·exact ⟨by have:=hOk.ncodes;omega,fun s hs=>by have:=hOk.scodes s hs;show s.size≤9223372036854775807;omega⟩
  have q3:L.length≤1000:=by
   rcases h3 with rfl | rfl
   ·omega
   ·have:=hOk.lines.len;omega
  rcases h1 with rfl | rfl
  ·exact C8m hr hf1 (by show C.length≤9223372036854775807;omega) q2.2 q3
  ·exact ⟨hOk.fit,hOk.sm,by have:=hOk.few;omega,by show C.length≤9223372036854775807;omega,q2.2,q3⟩
 clear hOk hFW
 generalize A0g r=R1 at cR raw
 generalize A0e codes=C1 at cC raw
 generalize U6 l=L1 at cL raw
 refine G0 [] Tryz.func7 ?_
 intro b5 hb5;conv=>whnf
 refine F2 (A0 ..) rfl ?_
 refine I2 (fw _) ?_
 cases FW
 case' true =>
  conv=>whnf
  refine B9 (fun h2=>?_) (fun h2=>?_)<;>rw [h2]
 case' false | true.refine_1 =>
  conv=>whnf
  refine I2 (A8a _) ?_
  exact rfl
 conv=>whnf
 refine B9 (fun g1=>?_) (fun g1=>?_)<;>rw [g1]
 case' refine_1 =>
  conv=>whnf
  refine F2 (A0 ..) rfl ?_
  refine I2 (cR _) ?_
  refine stU (A0 ..) rfl ?_
  rw [B7]
  have hR2:R1=r∨R1=R1:=.inr rfl
  obtain ⟨RR,rfl⟩:∃ RR,RR=R1:=⟨_,rfl⟩
 case' refine_2 =>
  have hR2:r=r∨r=R1:=.inl rfl
  obtain ⟨RR,rfl⟩:∃ RR,RR=r:=⟨_,rfl⟩
 all_goals
  conv=>whnf
  refine B9 (fun g2=>?_) (fun g2=>?_)<;>rw [g2]
 case' refine_1.refine_1 | refine_2.refine_1 =>
  conv=>whnf
  refine C5 (cC _) ?_
  have hC2:C1=codes∨C1=C1:=.inr rfl
  obtain ⟨CC,rfl⟩:∃ CC,CC=C1:=⟨_,rfl⟩
 case' refine_1.refine_2 | refine_2.refine_2 =>
  have hC2:codes=codes∨codes=C1:=.inl rfl
  obtain ⟨CC,rfl⟩:∃ CC,CC=codes:=⟨_,rfl⟩
 all_goals
  conv=>whnf
  refine B9 (fun g3=>?_) (fun g3=>?_)<;>rw [g3]
 case' refine_1.refine_1.refine_1 | refine_1.refine_2.refine_1 | refine_2.refine_1.refine_1 | refine_2.refine_2.refine_1 =>
  conv=>whnf
  refine C5 (cL _) ?_
  have hL2:L1=l∨L1=L1:=.inr rfl
  obtain ⟨LL,rfl⟩:∃ LL,LL=L1:=⟨_,rfl⟩
 case' refine_1.refine_1.refine_2 | refine_1.refine_2.refine_2 | refine_2.refine_1.refine_2 | refine_2.refine_2.refine_2 =>
  have hL2:l=l∨l=L1:=.inl rfl
  obtain ⟨LL,rfl⟩:∃ LL,LL=l:=⟨_,rfl⟩
 all_goals
  have hraw:=raw rfl hR2 hC2 hL2
  have hlen:=hraw.lines
  obtain ⟨Q,e,p1,p2,m1,m2,m3⟩:=hraw.quotes false zone
  have sq:=fun s=>B5l Q m1 m2 m3 s
  conv=>whnf
  generalize hst:(upd st b5 _:St)=S0
  obtain ⟨f3,at3,hf3⟩:∃ f3:Nat→AV,S0 b5=some ⟨33,14,1,f3⟩∧f3 0=G2 RR:=by
   rw [←hst];exact ⟨_,A0 ..,by first | rfl | (rw [A5];rfl)⟩
  clear hst
  refine lp LL.length [1,2,3,5,11] (fun i vs s=>vs=[eS zone,D2 CC,B1 3 G4 LL,.optr 14 b5 0 0,eI i]∧s=S0) ?_ ?_
  ·conv=>whnf
   exact ⟨rfl,rfl⟩
  rintro i vs s hi ⟨rfl,rfl⟩
  conv=>whnf
  cases h7:decide ((i:Int)<(LL.length:Int))
  case true =>
   have hi':=E4 h7
   conv=>whnf
   refine E1 ?_
   refine B9 (fun h8=>?_) (fun h8=>?_)<;>rw [h8]
   ·conv=>whnf
    refine I2 (A8a _) ?_
    exact rfl
   conv=>whnf
   refine G7 ?_
   exact nx hi' ⟨by rw [B8 (by omega)],rfl⟩
  obtain rfl:=C6 h7 hi
  conv=>whnf
  refine F2 at3 hf3 ?_
  refine I2 (p1 _) ?_
  intro b12 hb12
  have h512:b5≠b12:=fun e=>by subst e;rw [at3] at hb12;cases hb12
  conv=>whnf
  refine stU (A0 ..) rfl ?_
  rw [B7];conv=>whnf
  refine F2 ((A6 h512).trans at3) hf3 ?_
  refine I2 (p2 _) ?_
  intro b14 hb14
  have h1214:b12≠b14:=fun e=>by subst e;rw [A0] at hb14;cases hb14
  conv=>whnf
  refine stU (A0 ..) rfl ?_
  rw [B7];conv=>whnf
  refine I2 (A8a _) ?_
  refine F2 (by rw [A6 h1214];exact A0 ..) (A5 ..) ?_
  refine F2 (A0 ..) (A5 ..) ?_
  refine I2 (sq _) ?_
  rw [show (e==e)=true from beq_self_eq_true e]
  exact rfl
end Go.Proofs.YtbajhapmlfbelaaGreat
namespace Go.Ab
open Go Go.ChangeShapes
inductive LK where
 | bool
 | int (k:IntKind)
 | str
 | sl (ks:List LK)
def B1J (l:List AV):AV:=match l with | [v]=>v | l=>.agg l
inductive Fit:LK→AV→Prop
 | bool (b:Bool):Fit .bool (.bool b)
 | int (k:IntKind) (n:Int) (h:(Lit.int k n).wf=true):Fit (.int k) (.int k n)
 | str (s:ByteArray) (h:s.size≤maxLen):Fit .str (.str s)
 | sl (ks:List LK) (n:Nat) (L:Nat→List AV) (hn:n≤maxLen) (hl:∀ i,i<n→(L i).length=ks.length) (hf:∀ (i j:Nat) (y:AV) (k:LK),i<n→(L i)[j]?=some y→ks[j]?=some k→Fit k y):Fit (.sl ks) (.arr ks.length n fun i=>B1J (L i))
theorem Fit.one {k:LK} {v:AV} (h:Fit k v):v.one=true:=by cases h<;>rfl
theorem B8s {v:AV} (h:v.one=true):cellsOf v=[v]:=by cases v<;>first | rfl | cases h
theorem B1N {l:List AV} (h:∀ v∈l,v.one=true):cellsOf (B1J l)=l:=by
 unfold B1J
 split
 ·exact B8s (h _ (List.mem_singleton.2 rfl))
 ·rfl
theorem C0n (a:Addr) (n m:Nat):a.add (n+m)=(a.add n).add m:=by
 unfold Addr.add
 by_cases h:n=0
 ·subst h;simp
 ·by_cases k:m=0
  ·subst k;simp [h]
  ·simp [h,k,Nat.add_assoc]
def A9l (P:Program) (r:TypeId→Option (List LK)):List Field→Nat→Option (List LK)
 | [],_=>some []
 | f::fs,o=>match Nat.beq f.offset o,r f.type with
  | true,some ks=>(match Nat.beq (P.cellsOf f.type) ks.length,A9l P r fs (o+ks.length) with
   | true,some l=>some (ks++l)
   | _,_=>none)
  | _,_=>none
def A5T (P:Program):Nat→TypeId→Option (List LK)
 | 0,_=>none
 | n+1,t=>match P.underlying t with
  | some .bool=>some [.bool]
  | some (.int k)=>some [.int k]
  | some .string=>some [.str]
  | some (.slice e)=>(match A5T P n e with
   | some ks=>(match Nat.beq (P.cellsOf e) ks.length with | true=>some [.sl ks] | false=>none)
   | none=>none)
  | some (.struct fs)=>(match A9l P (A5T P n) fs.toList 0 with
   | some ks=>(match Nat.beq (P.cellsOf t) ks.length with | true=>some ks | false=>none)
   | none=>none)
  | _=>none
structure FitL (w:World) (ks:List LK) (l:List AV) (cs:List Value):Prop where
 len:l.length=ks.length
 clen:cs.length=ks.length
 fit:∀ (j:Nat) (y:AV) (k:LK),l[j]?=some y→ks[j]?=some k→Fit k y
 rep:∀ (j:Nat) (y:AV) (c:Value),l[j]?=some y→cs[j]?=some c→K6 w st0 y c
theorem FitL.one {w:World} {ks:List LK} {l:List AV} {cs:List Value} (h:FitL w ks l cs):∀ v∈l,v.one=true:=fun v hv=>by
 obtain ⟨j,hj,rfl⟩:=List.getElem_of_mem hv
 exact (h.fit j _ (ks[j]'(by rw [←h.len];exact hj)) (List.getElem?_eq_getElem hj) (List.getElem?_eq_getElem (by rw [←h.len];exact hj))).one
theorem FitL.nil (w:World):FitL w [] [] []:=⟨rfl,rfl,fun j y k h=>by simp at h,fun j y c h=>by simp at h⟩
theorem FitL.app {w:World} {ks ks':List LK} {l l':List AV} {cs cs':List Value} (h:FitL w ks l cs) (h':FitL w ks' l' cs'):FitL w (ks++ks') (l++l') (cs++cs'):=by
 have h1:=h.len;have h2:=h.clen;have h3:=h'.len;have h4:=h'.clen
 refine ⟨by simp [h1,h3],by simp [h2,h4],fun j y k hy hk=>?_,fun j y c hy hc=>?_⟩
 ·by_cases hj:j<l.length
  ·rw [List.getElem?_append_left hj] at hy;rw [List.getElem?_append_left (by omega)] at hk;exact h.fit j y k hy hk
  ·rw [List.getElem?_append_right (by omega)] at hy;rw [List.getElem?_append_right (by omega)] at hk
   rw [show j - l.length=j - ks.length by omega] at hy;exact h'.fit _ y k hy hk
 ·by_cases hj:j<l.length
  ·rw [List.getElem?_append_left hj] at hy;rw [List.getElem?_append_left (by omega)] at hc;exact h.rep j y c hy hc
  ·rw [List.getElem?_append_right (by omega)] at hy;rw [List.getElem?_append_right (by omega)] at hc
   rw [show j - l.length=j - cs.length by omega] at hy;exact h'.rep _ y c hy hc
theorem FitL.single {w:World} {k:LK} {v:AV} {c:Value} (h:Fit k v) (hr:K6 w st0 v c):FitL w [k] [v] [c] :=
 ⟨rfl,rfl,fun j y k' hy hk=>by cases j<;>simp at hy hk;subst hy;subst hk;exact h,fun j y c' hy hc=>by cases j<;>simp at hy hc;subst hy;subst hc;exact hr⟩
section
variable {H:Type} {enc:TypeId×Value→H} {P:Program} {w:World} {base:Nat} {spare:Nat→Bool} {held:Bool}
theorem A8O {n m:Nat} (ih:∀ (t:TypeId) (ks:List LK) (cs:List Value) (x:DataW H×List MemPlace),A5T P n t=some ks→DataW.trod enc P w base spare held m t cs=some x→∃ l,FitL w ks l cs) {cs:List Value} :
  ∀ (fs:List Field) (o:Nat) (ks:List LK),A9l P (A5T P n) fs o=some ks→(∀ f∈fs,∃ x,DataW.trod enc P w base spare held m f.type ((cs.drop f.offset).take (P.cellsOf f.type))=some x)→∃ l,FitL w ks l ((cs.drop o).take ks.length)
 | [],o,ks,h,_=>by cases h;exact ⟨[],by simpa using FitL.nil w⟩
 | f::fs,o,ks,h,hx=>by
  unfold A9l at h
  split at h
  ·rename_i k1 ho hk1
   split at h
   ·rename_i k2 hc hk2
    cases h
    have ho:=Nat.eq_of_beq_eq_true ho
    have hc:=Nat.eq_of_beq_eq_true hc
    obtain ⟨x,h1⟩:=hx f (List.mem_cons_self ..)
    rw [ho,hc] at h1
    obtain ⟨l1,g1⟩:=ih f.type k1 _ x hk1 h1
    obtain ⟨l2,g2⟩:=A8O ih fs (o+k1.length) k2 hk2 fun f' hf=>hx f' (List.mem_cons_of_mem _ hf)
    refine ⟨l1++l2,?_⟩
    have e:(cs.drop o).take (k1++k2).length=(cs.drop o).take k1.length++(cs.drop (o+k1.length)).take k2.length:=by
     rw [List.length_append,List.take_add,List.drop_drop]
    rw [e];exact g1.app g2
   ·cases h
  ·cases h
theorem open_kinds:∀ (n m:Nat) (t:TypeId) (ks:List LK) (cs:List Value) (x:DataW H×List MemPlace),A5T P n t=some ks→DataW.trod enc P w base spare held m t cs=some x→∃ l,FitL w ks l cs
 | 0,m,t,ks,cs,x,h,_=>by cases h
 | n+1,m,t,ks,cs,x,h,hx=>by
  unfold A5T at h
  split at h
  ·rename_i ht;cases h;obtain ⟨b,rfl,_⟩:=DataW.trod_bool ht hx;exact ⟨[.bool b],.single (.bool b) (.bool b)⟩
  ·rename_i k ht;cases h;obtain ⟨i,rfl,_,hw⟩:=DataW.trod_int ht hx;exact ⟨[.int k i],.single (.int k i hw) (.int k i)⟩
  ·rename_i ht;cases h;obtain ⟨s,rfl,_,hs⟩:=DataW.trod_string ht hx;exact ⟨[.str s],.single (.str s hs) (.str s)⟩
  ·rename_i e ht
   split at h
   case h_2=>cases h
   rename_i ks' hk
   split at h
   case h_2=>cases h
   rename_i hb
   cases h
   have hb:=Nat.eq_of_beq_eq_true hb
   rcases DataW.trod_slice ht hx with ⟨rfl,_⟩ | ⟨a,len,cap,elems,rest,m',rfl,rfl,_,hba,hl,hm,hlen,hel,_,_⟩
   ·exact ⟨[.arr ks'.length 0 (fun _=>B1J [])],.single (.sl ks' 0 (fun _=>[]) (Nat.zero_le _) (fun i hi=>absurd hi (by omega)) (fun i j y k hi=>absurd hi (by omega))) (.arr _ 0 _ none 0 (fun _ _=>undef) (Nat.le_refl _) (fun h=>absurd h (by omega)) (fun i hi=>absurd hi (by omega)) (fun i hi=>absurd hi (by omega)) (fun a ha=>by cases ha) (fun i j y hi=>absurd hi (by omega)))⟩
   ·have hall:∀ i,∃ p:List AV×List Value,i<len→w.cells? base (a.add (i * P.cellsOf e)) (P.cellsOf e)=some p.2∧FitL w ks' p.1 p.2:=fun i=>by
     by_cases hi:i<len
     ·have h1:=hel i hi
      rw [List.getElem?_eq_getElem (by omega),Option.bind_eq_some_iff] at h1
      obtain ⟨c1,h2,h3⟩:=h1
      obtain ⟨l,h4⟩:=open_kinds n m' e ks' c1 _ hk h3
      exact ⟨(l,c1),fun _=>⟨h2,h4⟩⟩
     ·exact ⟨([],[]),fun h=>absurd h hi⟩
    obtain ⟨p,hp⟩:=Classical.axiomOfChoice hall
    refine ⟨[.arr ks'.length len (fun i=>B1J (p i).1)],.single (.sl ks' len (fun i=>(p i).1) (by omega) (fun i hi=>(hp i hi).2.len) (fun i j y k hi=>(hp i hi).2.fit j y k)) ?_⟩
    have hc:∀ i,i<len→cellsOf (B1J (p i).1)=(p i).1:=fun i hi=>B1N (hp i hi).2.one
    refine .arr _ len _ (some a) cap (fun i j=>(p i).2.getD j undef) hl (fun _=>⟨a,rfl⟩) (fun i hi=>by rw [hc i hi];exact (hp i hi).2.len) (fun i hi=>by rw [hc i hi];exact List.all_eq_true.2 (hp i hi).2.one) (fun b hb' i j hi hj=>?_) (fun i j y hi hy=>?_)
    ·cases hb'
     have h5:=(World.cells?_some (hp i hi).1)
     have h6:=h5.2.2 j (by omega)
     have hj2:j<(p i).2.length:=by rw [(hp i hi).2.clen];exact hj
     show w.cell? _=_
     rw [List.getD_eq_getElem?_getD,List.getElem?_eq_getElem hj2,Option.getD_some]
     rw [List.getElem?_eq_getElem hj2] at h6
     rw [←h6,hb];show w.cell? _=w.cell? _;rw [C0n]
    ·rw [hc i hi] at hy
     have hj:j<(p i).1.length:=(List.getElem?_eq_some_iff.1 hy).1
     have hj2:j<(p i).2.length:=by rw [(hp i hi).2.clen,←(hp i hi).2.len];exact hj
     rw [List.getD_eq_getElem?_getD,List.getElem?_eq_getElem hj2,Option.getD_some]
     exact (hp i hi).2.rep j y _ hy (List.getElem?_eq_getElem hj2)
  ·rename_i fs ht
   split at h
   case h_2=>cases h
   rename_i ks' hk
   split at h
   case h_2=>cases h
   rename_i hb
   cases h
   have hb:=Nat.eq_of_beq_eq_true hb
   obtain ⟨xs,m',rfl,_,hlen,hxl,hf⟩:=DataW.trod_struct ht hx
   obtain ⟨l,hl⟩:=A8O (fun t ks cs x=>open_kinds n m' t ks cs x) (cs:=cs) fs.toList 0 ks hk fun f hfm=>by
    obtain ⟨i,hi,rfl⟩:=List.getElem_of_mem hfm
    have:=hf i fs[i] (by simp at hi;simp [hi])
    rw [List.getElem?_eq_getElem (by simp at hi;omega)] at this
    exact ⟨_,by simpa using this⟩
   refine ⟨l,?_⟩
   rw [List.drop_zero,List.take_of_length_le (by omega)] at hl
   exact hl
  ·cases h
end
end Go.Ab
namespace Go.Ab
open Go
abbrev A4L (ks:List LK) (L:List AV):Prop:=L.length=ks.length∧∀ (j:Nat) (y:AV) (k:LK),L[j]?=some y→ks[j]?=some k→Fit k y
abbrev A3S {α : Type} (ks:List LK) (enc : α→AV) (Q : α→Prop):Prop:=∀ L:List AV,A4L ks L→∃ x,E0 L (cellsOf (enc x))∧(cellsOf (enc x)).all AV.one=true∧Q x
theorem Fit.inv_str {y:AV} (h:Fit .str y):∃ s:D6,y=eS s∧s.size≤maxLen:=by cases h with | str s hs=>exact ⟨s,rfl,hs⟩
theorem Fit.inv_int {y:AV} (h:Fit (.int .i64) y):∃ n:Int,y=eI n∧(Lit.int .i64 n).wf=true:=by cases h with | int k n hn=>exact ⟨n,rfl,hn⟩
theorem Fit.inv_bool {y:AV} (h:Fit .bool y):∃ b:Bool,y=eB b:=by cases h with | bool b=>exact ⟨b,rfl⟩
theorem Fit.inv_sl {α : Type} [Inhabited α] {ks:List LK} {y:AV} {enc : α→AV} {Q : α→Prop} (hd:A3S ks enc Q) (h:Fit (.sl ks) y) :
  ∃ l:List α,Le y (B1 ks.length enc l)∧l.length≤maxLen∧∀ x∈l,Q x:=by
 cases h with
 | sl ks n L hn hl hf =>
  have h1:∀ i,∃ x,i<n→E0 (L i) (cellsOf (enc x))∧(cellsOf (enc x)).all AV.one=true∧Q x:=fun i=>by
   by_cases hi:i<n
   ·obtain ⟨x,hx⟩:=hd (L i) ⟨hl i hi,fun j y k=>hf i j y k hi⟩
    exact ⟨x,fun _=>hx⟩
   ·exact ⟨default,fun h=>absurd h hi⟩
  obtain ⟨g,hg⟩:=Classical.axiomOfChoice h1
  have hlen:((List.range n).map g).length=n:=by rw [List.length_map,List.length_range]
  refine ⟨(List.range n).map g,?_,by rw [hlen];exact hn,fun x hx=>?_⟩
  ·unfold B1
   rw [hlen]
   refine Le.arr fun i hi=>?_
   have e:((List.range n).map g).getD i default=g i:=by
    rw [List.getD_eq_getElem?_getD,List.getElem?_map,List.getElem?_range hi];rfl
   have one:∀ v∈L i,v.one=true:=fun v hv=>by
    obtain ⟨j,hj,rfl⟩:=List.getElem_of_mem hv
    exact (hf i j _ (ks[j]'(by rw [←hl i hi];exact hj)) hi (List.getElem?_eq_getElem hj) (List.getElem?_eq_getElem (by rw [←hl i hi];exact hj))).one
   rw [e,B1N one]
   exact ⟨(hg i hi).1,(hg i hi).2.1⟩
  ·obtain ⟨i,hi,rfl⟩:=List.mem_map.1 hx
   exact (hg i (List.mem_range.1 hi)).2.2
theorem FitL.slice {α : Type} [Inhabited α] {w:World} {ks:List LK} {l:List AV} {c:Value} {enc : α→AV} {Q : α→Prop} (hd:A3S ks enc Q) (h:FitL w [.sl ks] l [c]) :
  ∃ x:List α,K6 w st0 (B1 ks.length enc x) c∧x.length≤maxLen∧∀ y∈x,Q y:=by
 obtain ⟨y,rfl⟩:=List.length_eq_one_iff.1 h.len
 obtain ⟨x,h1,h2,h3⟩:=(h.fit 0 y (.sl ks) rfl rfl).inv_sl hd
 exact ⟨x,h1 _ _ _ (h.rep 0 y c rfl rfl),h2,h3⟩
theorem D0b {k0 k1 k2:LK} {L:List AV} (h:A4L [k0,k1,k2] L):∃ a b c,L=[a,b,c]∧Fit k0 a∧Fit k1 b∧Fit k2 c:=by
 obtain ⟨h1,h2⟩:=h
 match L,h1 with
 | [a,b,c],_=>exact ⟨a,b,c,rfl,h2 0 _ _ rfl rfl,h2 1 _ _ rfl rfl,h2 2 _ _ rfl rfl⟩
abbrev kLine:List LK:=[.str,.int .i64,.int .i64]
theorem decLine:A3S kLine G4 fun _=>True:=fun L h=>by
 obtain ⟨a,b,c,rfl,ha,hb,hc⟩:=D0b h
 obtain ⟨a,rfl,_⟩:=ha.inv_str
 obtain ⟨b,rfl,_⟩:=hb.inv_int
 obtain ⟨c,rfl,_⟩:=hc.inv_int
 exact ⟨⟨a,b,c⟩,E0.refl _,rfl,trivial⟩
theorem C0T {k0:LK} {L:List AV} (h:A4L [k0] L):∃ x0,L=[x0]∧Fit k0 x0:=by
 obtain ⟨h1,h2⟩:=h
 match L,h1 with
 | [x0],_=>exact ⟨x0,rfl,h2 0 _ _ rfl rfl⟩
theorem C4U {k0 k1:LK} {L:List AV} (h:A4L [k0,k1] L):∃ x0 x1,L=[x0,x1]∧Fit k0 x0∧Fit k1 x1:=by
 obtain ⟨h1,h2⟩:=h
 match L,h1 with
 | [x0,x1],_=>exact ⟨x0,x1,rfl,h2 0 _ _ rfl rfl,h2 1 _ _ rfl rfl⟩
theorem C0W {k0 k1 k2:LK} {L:List AV} (h:A4L [k0,k1,k2] L):∃ x0 x1 x2,L=[x0,x1,x2]∧Fit k0 x0∧Fit k1 x1∧Fit k2 x2:=by
 obtain ⟨h1,h2⟩:=h
 match L,h1 with
 | [x0,x1,x2],_=>exact ⟨x0,x1,x2,rfl,h2 0 _ _ rfl rfl,h2 1 _ _ rfl rfl,h2 2 _ _ rfl rfl⟩
theorem B7x {k0 k1 k2 k3:LK} {L:List AV} (h:A4L [k0,k1,k2,k3] L):∃ x0 x1 x2 x3,L=[x0,x1,x2,x3]∧Fit k0 x0∧Fit k1 x1∧Fit k2 x2∧Fit k3 x3:=by
 obtain ⟨h1,h2⟩:=h
 match L,h1 with
 | [x0,x1,x2,x3],_=>exact ⟨x0,x1,x2,x3,rfl,h2 0 _ _ rfl rfl,h2 1 _ _ rfl rfl,h2 2 _ _ rfl rfl,h2 3 _ _ rfl rfl⟩
theorem C0U {k0 k1 k2 k3 k4 k5 k6 k7 k8 k9 k10 k11 k12 k13:LK} {L:List AV} (h:A4L [k0,k1,k2,k3,k4,k5,k6,k7,k8,k9,k10,k11,k12,k13] L):∃ x0 x1 x2 x3 x4 x5 x6 x7 x8 x9 x10 x11 x12 x13,L=[x0,x1,x2,x3,x4,x5,x6,x7,x8,x9,x10,x11,x12,x13]∧Fit k0 x0∧Fit k1 x1∧Fit k2 x2∧Fit k3 x3∧Fit k4 x4∧Fit k5 x5∧Fit k6 x6∧Fit k7 x7∧Fit k8 x8∧Fit k9 x9∧Fit k10 x10∧Fit k11 x11∧Fit k12 x12∧Fit k13 x13:=by
 obtain ⟨h1,h2⟩:=h
 match L,h1 with
 | [x0,x1,x2,x3,x4,x5,x6,x7,x8,x9,x10,x11,x12,x13],_=>exact ⟨x0,x1,x2,x3,x4,x5,x6,x7,x8,x9,x10,x11,x12,x13,rfl,h2 0 _ _ rfl rfl,h2 1 _ _ rfl rfl,h2 2 _ _ rfl rfl,h2 3 _ _ rfl rfl,h2 4 _ _ rfl rfl,h2 5 _ _ rfl rfl,h2 6 _ _ rfl rfl,h2 7 _ _ rfl rfl,h2 8 _ _ rfl rfl,h2 9 _ _ rfl rfl,h2 10 _ _ rfl rfl,h2 11 _ _ rfl rfl,h2 12 _ _ rfl rfl,h2 13 _ _ rfl rfl⟩
theorem C0V {k0 k1 k2 k3 k4 k5 k6 k7 k8 k9 k10 k11 k12 k13 k14:LK} {L:List AV} (h:A4L [k0,k1,k2,k3,k4,k5,k6,k7,k8,k9,k10,k11,k12,k13,k14] L):∃ x0 x1 x2 x3 x4 x5 x6 x7 x8 x9 x10 x11 x12 x13 x14,L=[x0,x1,x2,x3,x4,x5,x6,x7,x8,x9,x10,x11,x12,x13,x14]∧Fit k0 x0∧Fit k1 x1∧Fit k2 x2∧Fit k3 x3∧Fit k4 x4∧Fit k5 x5∧Fit k6 x6∧Fit k7 x7∧Fit k8 x8∧Fit k9 x9∧Fit k10 x10∧Fit k11 x11∧Fit k12 x12∧Fit k13 x13∧Fit k14 x14:=by
 obtain ⟨h1,h2⟩:=h
 match L,h1 with
 | [x0,x1,x2,x3,x4,x5,x6,x7,x8,x9,x10,x11,x12,x13,x14],_=>exact ⟨x0,x1,x2,x3,x4,x5,x6,x7,x8,x9,x10,x11,x12,x13,x14,rfl,h2 0 _ _ rfl rfl,h2 1 _ _ rfl rfl,h2 2 _ _ rfl rfl,h2 3 _ _ rfl rfl,h2 4 _ _ rfl rfl,h2 5 _ _ rfl rfl,h2 6 _ _ rfl rfl,h2 7 _ _ rfl rfl,h2 8 _ _ rfl rfl,h2 9 _ _ rfl rfl,h2 10 _ _ rfl rfl,h2 11 _ _ rfl rfl,h2 12 _ _ rfl rfl,h2 13 _ _ rfl rfl,h2 14 _ _ rfl rfl⟩
abbrev QT {α : Type} (_ : α):Prop:=True
abbrev kStr:List LK:=[.str]
theorem B2L:A3S kStr eS QT:=fun L h=>by
 obtain ⟨a,rfl,ha⟩:=C0T h
 obtain ⟨a,rfl,_⟩:=ha.inv_str
 exact ⟨a,E0.refl _,rfl,trivial⟩
abbrev C5I:List LK:=[.int .i64]
theorem B2K:A3S C5I eI QT:=fun L h=>by
 obtain ⟨a,rfl,ha⟩:=C0T h
 obtain ⟨a,rfl,_⟩:=ha.inv_int
 exact ⟨a,E0.refl _,rfl,trivial⟩
abbrev C4X:List LK:=[.int .i64,.int .i64,.int .i64]
theorem B7r:A3S C4X Q5 QT:=fun L h=>by
 obtain ⟨a0,a1,a2,rfl,h0,h1,h2⟩:=C0W h
 obtain ⟨a0,rfl,_⟩:=h0.inv_int
 obtain ⟨a1,rfl,_⟩:=h1.inv_int
 obtain ⟨a2,rfl,_⟩:=h2.inv_int
 exact ⟨⟨a0,a1,a2⟩,E0.cons (Le.refl _) (E0.cons (Le.refl _) (E0.cons (Le.refl _) (E0.nil))),rfl,trivial⟩
abbrev C1h:List LK:=[.sl kStr,.sl kStr,.int .i64]
theorem C3u:A3S C1h T2 QT:=fun L h=>by
 obtain ⟨a0,a1,a2,rfl,h0,h1,h2⟩:=C0W h
 obtain ⟨b0,e0,_,_⟩:=h0.inv_sl B2L
 obtain ⟨b1,e1,_,_⟩:=h1.inv_sl B2L
 obtain ⟨a2,rfl,_⟩:=h2.inv_int
 exact ⟨⟨⟨b0,b1⟩,a2⟩,E0.cons (e0) (E0.cons (e1) (E0.cons (Le.refl _) (E0.nil))),rfl,trivial⟩
abbrev C1g:List LK:=[.str,.str,.int .i64,.bool]
theorem C3t:A3S C1g F1 QT:=fun L h=>by
 obtain ⟨a0,a1,a2,a3,rfl,h0,h1,h2,h3⟩:=B7x h
 obtain ⟨a0,rfl,_⟩:=h0.inv_str
 obtain ⟨a1,rfl,_⟩:=h1.inv_str
 obtain ⟨a2,rfl,_⟩:=h2.inv_int
 obtain ⟨a3,rfl⟩:=h3.inv_bool
 exact ⟨⟨a0,a1,a2,a3⟩,E0.cons (Le.refl _) (E0.cons (Le.refl _) (E0.cons (Le.refl _) (E0.cons (Le.refl _) (E0.nil)))),rfl,trivial⟩
abbrev A9X:List LK:=[.str,.int .i64]
theorem B5U:A3S A9X Y3 QT:=fun L h=>by
 obtain ⟨a0,a1,rfl,h0,h1⟩:=C4U h
 obtain ⟨a0,rfl,_⟩:=h0.inv_str
 obtain ⟨a1,rfl,_⟩:=h1.inv_int
 exact ⟨⟨a0,a1⟩,E0.cons (Le.refl _) (E0.cons (Le.refl _) (E0.nil)),rfl,trivial⟩
abbrev C1i:List LK:=[.str,.sl A9X,.int .i64,.int .i64]
theorem C3v:A3S C1i Q6 QT:=fun L h=>by
 obtain ⟨a0,a1,a2,a3,rfl,h0,h1,h2,h3⟩:=B7x h
 obtain ⟨a0,rfl,_⟩:=h0.inv_str
 obtain ⟨b1,e1,_,_⟩:=h1.inv_sl B5U
 obtain ⟨a2,rfl,_⟩:=h2.inv_int
 obtain ⟨a3,rfl,_⟩:=h3.inv_int
 exact ⟨⟨a0,b1,a2,a3⟩,E0.cons (Le.refl _) (E0.cons (e1) (E0.cons (Le.refl _) (E0.cons (Le.refl _) (E0.nil)))),rfl,trivial⟩
abbrev B6g:List LK:=[.str,.int .i64,.int .i64,.str,.str,.bool,.sl kStr,.sl kStr,.int .i64,.int .i64,.int .i64,.int .i64,.int .i64,.sl C1h,.sl C4X]
theorem C0K:A3S B6g C0 QT:=fun L h=>by
 obtain ⟨a0,a1,a2,a3,a4,a5,a6,a7,a8,a9,a10,a11,a12,a13,a14,rfl,h0,h1,h2,h3,h4,h5,h6,h7,h8,h9,h10,h11,h12,h13,h14⟩:=C0V h
 obtain ⟨a0,rfl,_⟩:=h0.inv_str
 obtain ⟨a1,rfl,_⟩:=h1.inv_int
 obtain ⟨a2,rfl,_⟩:=h2.inv_int
 obtain ⟨a3,rfl,_⟩:=h3.inv_str
 obtain ⟨a4,rfl,_⟩:=h4.inv_str
 obtain ⟨a5,rfl⟩:=h5.inv_bool
 obtain ⟨b6,e6,_,_⟩:=h6.inv_sl B2L
 obtain ⟨b7,e7,_,_⟩:=h7.inv_sl B2L
 obtain ⟨a8,rfl,_⟩:=h8.inv_int
 obtain ⟨a9,rfl,_⟩:=h9.inv_int
 obtain ⟨a10,rfl,_⟩:=h10.inv_int
 obtain ⟨a11,rfl,_⟩:=h11.inv_int
 obtain ⟨a12,rfl,_⟩:=h12.inv_int
 obtain ⟨b13,e13,_,_⟩:=h13.inv_sl C3u
 obtain ⟨b14,e14,_,_⟩:=h14.inv_sl B7r
 exact ⟨⟨a0,a1,a2,a3,a4,a5,⟨b6,b7⟩,a8,a9,a10,a11,a12,b13,b14⟩,E0.cons (Le.refl _) (E0.cons (Le.refl _) (E0.cons (Le.refl _) (E0.cons (Le.refl _) (E0.cons (Le.refl _) (E0.cons (Le.refl _) (E0.cons (e6) (E0.cons (e7) (E0.cons (Le.refl _) (E0.cons (Le.refl _) (E0.cons (Le.refl _) (E0.cons (Le.refl _) (E0.cons (Le.refl _) (E0.cons (e13) (E0.cons (e14) (E0.nil))))))))))))))),rfl,trivial⟩
abbrev kRules:List LK:=[.sl C1g,.sl B6g,.bool,.bool,.int .i64,.sl C1i,.int .i64,.int .i64,.int .i64,.int .i64,.int .i64,.int .i64,.sl C5I,.sl C5I]
theorem C0L:A3S kRules G2 QT:=fun L h=>by
 obtain ⟨a0,a1,a2,a3,a4,a5,a6,a7,a8,a9,a10,a11,a12,a13,rfl,h0,h1,h2,h3,h4,h5,h6,h7,h8,h9,h10,h11,h12,h13⟩:=C0U h
 obtain ⟨b0,e0,_,_⟩:=h0.inv_sl C3t
 obtain ⟨b1,e1,_,_⟩:=h1.inv_sl C0K
 obtain ⟨a2,rfl⟩:=h2.inv_bool
 obtain ⟨a3,rfl⟩:=h3.inv_bool
 obtain ⟨a4,rfl,_⟩:=h4.inv_int
 obtain ⟨b5,e5,_,_⟩:=h5.inv_sl C3v
 obtain ⟨a6,rfl,_⟩:=h6.inv_int
 obtain ⟨a7,rfl,_⟩:=h7.inv_int
 obtain ⟨a8,rfl,_⟩:=h8.inv_int
 obtain ⟨a9,rfl,_⟩:=h9.inv_int
 obtain ⟨a10,rfl,_⟩:=h10.inv_int
 obtain ⟨a11,rfl,_⟩:=h11.inv_int
 obtain ⟨b12,e12,_,_⟩:=h12.inv_sl B2K
 obtain ⟨b13,e13,_,_⟩:=h13.inv_sl B2K
 exact ⟨⟨b0,b1,⟨a2,a3,a4,b5⟩,⟨a6,a7⟩,⟨a8,a9,a10,a11,b12,b13⟩⟩,E0.cons (e0) (E0.cons (e1) (E0.cons (Le.refl _) (E0.cons (Le.refl _) (E0.cons (Le.refl _) (E0.cons (e5) (E0.cons (Le.refl _) (E0.cons (Le.refl _) (E0.cons (Le.refl _) (E0.cons (Le.refl _) (E0.cons (Le.refl _) (E0.cons (Le.refl _) (E0.cons (e12) (E0.cons (e13) (E0.nil)))))))))))))),rfl,trivial⟩
theorem FitL.rules {w:World} {l:List AV} {cs:List Value} (h:FitL w kRules l cs):∃ r:H8,K6 w st0 (G2 r) (.agg cs.toArray):=by
 obtain ⟨r,h1,_,_⟩:=C0L l ⟨h.len,h.fit⟩
 refine ⟨r,?_⟩
 have h0:K6 w st0 (.agg l) (.agg cs.toArray):=.agg _ _ (by rw [h.len,←h.clen];simp) fun j y c hy hc=>h.rep j y c hy (by simpa using hc)
 exact (Le.agg h1) _ _ _ h0
end Go.Ab
namespace Go.Ab
open Go Go.Proofs.YtbajhapmlfbelaaGreat
theorem decStrQ:A3S kStr eS (fun s=>Sm s.size):=fun L h=>by
 obtain ⟨a,rfl,ha⟩:=C0T h
 obtain ⟨a,rfl,hs⟩:=ha.inv_str
 exact ⟨a,E0.refl _,rfl,Nat.le_trans hs (by decide)⟩
theorem C0J:A3S C1h T2 (fun x=>A0X x.scope):=fun L h=>by
 obtain ⟨a0,a1,a2,rfl,h0,h1,h2⟩:=C0W h
 obtain ⟨b0,e0,n0,q0⟩:=h0.inv_sl decStrQ
 obtain ⟨b1,e1,n1,q1⟩:=h1.inv_sl decStrQ
 obtain ⟨a2,rfl,_⟩:=h2.inv_int
 exact ⟨⟨⟨b0,b1⟩,a2⟩,E0.cons (e0) (E0.cons (e1) (E0.cons (Le.refl _) (E0.nil))),rfl,⟨(Nat.le_trans n0 (by decide)),(Nat.le_trans n1 (by decide)),q0,q1⟩⟩
theorem C0I:A3S C1g F1 (fun x=>Sm x.sku.size∧Sm x.cat.size):=fun L h=>by
 obtain ⟨a0,a1,a2,a3,rfl,h0,h1,h2,h3⟩:=B7x h
 obtain ⟨a0,rfl,q0⟩:=h0.inv_str
 obtain ⟨a1,rfl,q1⟩:=h1.inv_str
 obtain ⟨a2,rfl,_⟩:=h2.inv_int
 obtain ⟨a3,rfl⟩:=h3.inv_bool
 exact ⟨⟨a0,a1,a2,a3⟩,E0.cons (Le.refl _) (E0.cons (Le.refl _) (E0.cons (Le.refl _) (E0.cons (Le.refl _) (E0.nil)))),rfl,(Nat.le_trans q0 (by decide)),(Nat.le_trans q1 (by decide))⟩
theorem B4g:A3S A9X Y3 (fun x=>Sm x.cat.size):=fun L h=>by
 obtain ⟨a0,a1,rfl,h0,h1⟩:=C4U h
 obtain ⟨a0,rfl,q0⟩:=h0.inv_str
 obtain ⟨a1,rfl,_⟩:=h1.inv_int
 exact ⟨⟨a0,a1⟩,E0.cons (Le.refl _) (E0.cons (Le.refl _) (E0.nil)),rfl,(Nat.le_trans q0 (by decide))⟩
theorem C0M:A3S C1i Q6 (fun z=>B2y z):=fun L h=>by
 obtain ⟨a0,a1,a2,a3,rfl,h0,h1,h2,h3⟩:=B7x h
 obtain ⟨a0,rfl,q0⟩:=h0.inv_str
 obtain ⟨b1,e1,n1,q1⟩:=h1.inv_sl B4g
 obtain ⟨a2,rfl,_⟩:=h2.inv_int
 obtain ⟨a3,rfl,_⟩:=h3.inv_int
 exact ⟨⟨a0,b1,a2,a3⟩,E0.cons (Le.refl _) (E0.cons (e1) (E0.cons (Le.refl _) (E0.cons (Le.refl _) (E0.nil)))),rfl,⟨(Nat.le_trans n1 (by decide)),(Nat.le_trans q0 (by decide)),q1⟩⟩
theorem B8x:A3S B6g C0 (fun p=>A0V p):=fun L h=>by
 obtain ⟨a0,a1,a2,a3,a4,a5,a6,a7,a8,a9,a10,a11,a12,a13,a14,rfl,h0,h1,h2,h3,h4,h5,h6,h7,h8,h9,h10,h11,h12,h13,h14⟩:=C0V h
 obtain ⟨a0,rfl,q0⟩:=h0.inv_str
 obtain ⟨a1,rfl,_⟩:=h1.inv_int
 obtain ⟨a2,rfl,_⟩:=h2.inv_int
 obtain ⟨a3,rfl,q3⟩:=h3.inv_str
 obtain ⟨a4,rfl,q4⟩:=h4.inv_str
 obtain ⟨a5,rfl⟩:=h5.inv_bool
 obtain ⟨b6,e6,n6,q6⟩:=h6.inv_sl decStrQ
 obtain ⟨b7,e7,n7,q7⟩:=h7.inv_sl decStrQ
 obtain ⟨a8,rfl,_⟩:=h8.inv_int
 obtain ⟨a9,rfl,_⟩:=h9.inv_int
 obtain ⟨a10,rfl,_⟩:=h10.inv_int
 obtain ⟨a11,rfl,_⟩:=h11.inv_int
 obtain ⟨a12,rfl,_⟩:=h12.inv_int
 obtain ⟨b13,e13,n13,q13⟩:=h13.inv_sl C0J
 obtain ⟨b14,e14,n14,_⟩:=h14.inv_sl B7r
 exact ⟨⟨a0,a1,a2,a3,a4,a5,⟨b6,b7⟩,a8,a9,a10,a11,a12,b13,b14⟩,E0.cons (Le.refl _) (E0.cons (Le.refl _) (E0.cons (Le.refl _) (E0.cons (Le.refl _) (E0.cons (Le.refl _) (E0.cons (Le.refl _) (E0.cons (e6) (E0.cons (e7) (E0.cons (Le.refl _) (E0.cons (Le.refl _) (E0.cons (Le.refl _) (E0.cons (Le.refl _) (E0.cons (Le.refl _) (E0.cons (e13) (E0.cons (e14) (E0.nil))))))))))))))),rfl,⟨(Nat.le_trans q0 (by decide)),(Nat.le_trans q3 (by decide)),(Nat.le_trans q4 (by decide)),⟨(Nat.le_trans n6 (by decide)),(Nat.le_trans n7 (by decide)),q6,q7⟩,(Nat.le_trans n13 (by decide)),q13,(Nat.le_trans n14 (by decide))⟩⟩
theorem B8y:A3S kRules G2 (fun r=>A0w r):=fun L h=>by
 obtain ⟨a0,a1,a2,a3,a4,a5,a6,a7,a8,a9,a10,a11,a12,a13,rfl,h0,h1,h2,h3,h4,h5,h6,h7,h8,h9,h10,h11,h12,h13⟩:=C0U h
 obtain ⟨b0,e0,n0,q0⟩:=h0.inv_sl C0I
 obtain ⟨b1,e1,n1,q1⟩:=h1.inv_sl B8x
 obtain ⟨a2,rfl⟩:=h2.inv_bool
 obtain ⟨a3,rfl⟩:=h3.inv_bool
 obtain ⟨a4,rfl,_⟩:=h4.inv_int
 obtain ⟨b5,e5,n5,q5⟩:=h5.inv_sl C0M
 obtain ⟨a6,rfl,_⟩:=h6.inv_int
 obtain ⟨a7,rfl,_⟩:=h7.inv_int
 obtain ⟨a8,rfl,_⟩:=h8.inv_int
 obtain ⟨a9,rfl,_⟩:=h9.inv_int
 obtain ⟨a10,rfl,_⟩:=h10.inv_int
 obtain ⟨a11,rfl,_⟩:=h11.inv_int
 obtain ⟨b12,e12,n12,_⟩:=h12.inv_sl B2K
 obtain ⟨b13,e13,n13,_⟩:=h13.inv_sl B2K
 exact ⟨⟨b0,b1,⟨a2,a3,a4,b5⟩,⟨a6,a7⟩,⟨a8,a9,a10,a11,b12,b13⟩⟩,E0.cons (e0) (E0.cons (e1) (E0.cons (Le.refl _) (E0.cons (Le.refl _) (E0.cons (Le.refl _) (E0.cons (e5) (E0.cons (Le.refl _) (E0.cons (Le.refl _) (E0.cons (Le.refl _) (E0.cons (Le.refl _) (E0.cons (Le.refl _) (E0.cons (Le.refl _) (E0.cons (e12) (E0.cons (e13) (E0.nil)))))))))))))),rfl,⟨(Nat.le_trans n0 (by decide)),q0,q1,⟨(Nat.le_trans n5 (by decide)),q5⟩,(Nat.le_trans n12 (by decide)),(Nat.le_trans n13 (by decide))⟩⟩
theorem FitL.rulesQ {w:World} {l:List AV} {cs:List Value} (h:FitL w kRules l cs):∃ r:H8,K6 w st0 (G2 r) (.agg cs.toArray)∧A0w r:=by
 obtain ⟨r,h1,_,hq⟩:=B8y l ⟨h.len,h.fit⟩
 refine ⟨r,?_,hq⟩
 have h0:K6 w st0 (.agg l) (.agg cs.toArray):=.agg _ _ (by rw [h.len,←h.clen];simp) fun j y c hy hc=>h.rep j y c hy (by simpa using hc)
 exact (Le.agg h1) _ _ _ h0
end Go.Ab
namespace Go.Ab
open Go
theorem an {a b:Bool} (h:a=true) (k:b=true):(a&&b)=true:=by rw [h,k];rfl
def kindsFit (P:Program) (fn:Func) (c:OpenClaim):Bool:=(c.kinds==(if c.domain.isEmpty then [] else fn.params.toList.map fun t=>match P.underlying t with | some (.int k)=>some k | _=>none))
theorem joined_of {P:Program} {f:FuncId} {fn:Func} {s:ChangeSpec} {c:OpenClaim} (h1:(c.wf (OpenSpec.ofChange s))=true) (h2:(laidOutB P)=true) (h3:(mapsRowed P)=true) (h4:(fn.params.all (P.readableRec ·))=true) (h5:(namedTie P c.named s.vars)=true) (h6:(c.stops==[])=true) (h7:(P.stops==[])=true) (h8:(c.knobs==[])=true) (h9:(P.stopKnobs==[])=true) (h10:(c.inPlace==P.inPlace f)=true) (h11:(c.unfollowed==P.unfollowed f)=true) (h12:(c.recurses==P.recurses f)=true) (h13:(c.named==P.varsNamed f)=true) (h14:(c.maps==(fn.params.toList++s.plain.varTypes P).any (P.mapsRec ·))=true) (h15:(c.ifaces==(fn.params.toList++s.plain.varTypes P).any (P.ifacesRec ·))=true) (h16:(c.mapsOut==P.mapsAmong fn.resultTypes.toList)=true) (h17:(c.loops==(fn.params.toList++s.plain.varTypes P).any (P.loopsFrom ·))=true) (h18:(c.wideKeys==(fn.params.toList++s.plain.varTypes P++fn.resultTypes.toList).any (P.wideKeysFrom ·))=true) (h19:(s.vars.all (P.varReadable ·))=true) (h20:(fn.resultTypes.all (fun t=>P.readableRec t&&decide (t<P.types.size)))=true) (h21:(c.ifacesOut==fn.resultTypes.toList.any (P.ifacesRec ·))=true) (h22:(c.loopsOut==fn.resultTypes.toList.any (P.loopsFrom ·))=true) (h23:(c.plainKeys==P.plainKeys)=true) (h24:c.shortTexts.isNone=true) (h25:P.stopsHeard=true) (h26:P.mayEnter=true) (h27:(c.lifted==P.liftsFinal)=true) (h28:(P.make==some c.make)=true) (h29:kindsFit P fn c=true) (h30:(c.pinned==c.pinnedBy)=true) (h31:(c.veiled==(fn.params.toList++s.plain.varTypes P++fn.resultTypes.toList).any (P.veiledRec ·))=true) (h32:(c.veiledFits P fn.params.toList (fn.params.toList++s.plain.varTypes P++fn.resultTypes.toList))=true):joinedFacts P f fn s c=true:=an (an (an (an (an (an (an (an (an (an (an (an (an (an (an (an (an (an (an (an (an (an (an (an (an (an (an (an (an (an (an (h1) h2) h3) h4) h5) h6) h7) h8) h9) h10) h11) h12) h13) h14) h15) h16) h17) h18) h19) h20) h21) h22) h23) h24) h25) h26) h27) h28) h29) h30) h31) h32
end Go.Ab
namespace Go.Proofs.YtbajhapmlfbelaaGreat.closed
open Go
theorem p2:(laidOutB Tryz.prog)=true:=by kernel_rfl
theorem p3:(mapsRowed Tryz.prog)=true:=by kernel_rfl
theorem p7:(Tryz.prog.stops==[])=true:=by kernel_rfl
theorem p9:(Tryz.prog.stopKnobs==[])=true:=by kernel_rfl
theorem p25:(Tryz.prog.stopsHeard)=true:=by kernel_rfl
theorem p26:(Tryz.prog.mayEnter)=true:=by kernel_rfl
end Go.Proofs.YtbajhapmlfbelaaGreat.closed
namespace Go.Proofs.YtbajhapmlfbelaaGreat.quoteErrors
open Go.ChangeShapes Go.WideShapes Go.ChangeAt Go.RowKit
open Go.ChangeMaps (open_string shut_string)
theorem c1:(Rows.quoteErrorsRow.wf (OpenSpec.ofChange Rows.quoteErrorsSpec))=true:=by kernel_rfl
theorem c4:(Tryz.f7.params.all (Tryz.prog.readableRec ·))=true:=by kernel_rfl
theorem c5:(namedTie Tryz.prog Rows.quoteErrorsRow.named Rows.quoteErrorsSpec.vars)=true:=by kernel_rfl
theorem c6:((Rows.quoteErrorsRow.stops==[]))=true:=by kernel_rfl
theorem c8:((Rows.quoteErrorsRow.knobs==[]))=true:=by kernel_rfl
theorem c10:((Rows.quoteErrorsRow.inPlace==Tryz.prog.inPlace 7))=true:=by kernel_rfl
theorem c11:((Rows.quoteErrorsRow.unfollowed==Tryz.prog.unfollowed 7))=true:=by kernel_rfl
theorem c12:((Rows.quoteErrorsRow.recurses==Tryz.prog.recurses 7))=true:=by kernel_rfl
theorem c13:((Rows.quoteErrorsRow.named==Tryz.prog.varsNamed 7))=true:=by kernel_rfl
theorem c14:((Rows.quoteErrorsRow.maps==(Tryz.f7.params.toList++Rows.quoteErrorsSpec.plain.varTypes Tryz.prog).any (Tryz.prog.mapsRec ·)))=true:=by kernel_rfl
theorem c15:((Rows.quoteErrorsRow.ifaces==(Tryz.f7.params.toList++Rows.quoteErrorsSpec.plain.varTypes Tryz.prog).any (Tryz.prog.ifacesRec ·)))=true:=by kernel_rfl
theorem c16:((Rows.quoteErrorsRow.mapsOut==Tryz.prog.mapsAmong Tryz.f7.resultTypes.toList))=true:=by kernel_rfl
theorem c17:((Rows.quoteErrorsRow.loops==(Tryz.f7.params.toList++Rows.quoteErrorsSpec.plain.varTypes Tryz.prog).any (Tryz.prog.loopsFrom ·)))=true:=by kernel_rfl
theorem c18:((Rows.quoteErrorsRow.wideKeys==(Tryz.f7.params.toList++Rows.quoteErrorsSpec.plain.varTypes Tryz.prog++Tryz.f7.resultTypes.toList).any (Tryz.prog.wideKeysFrom ·)))=true:=by kernel_rfl
theorem c19:(Rows.quoteErrorsSpec.vars.all (Tryz.prog.varReadable ·))=true:=by kernel_rfl
theorem c20:(Tryz.f7.resultTypes.all (fun t=>Tryz.prog.readableRec t&&decide (t<Tryz.prog.types.size)))=true:=by kernel_rfl
theorem c21:((Rows.quoteErrorsRow.ifacesOut==Tryz.f7.resultTypes.toList.any (Tryz.prog.ifacesRec ·)))=true:=by kernel_rfl
theorem c22:((Rows.quoteErrorsRow.loopsOut==Tryz.f7.resultTypes.toList.any (Tryz.prog.loopsFrom ·)))=true:=by kernel_rfl
theorem c23:((Rows.quoteErrorsRow.plainKeys==Tryz.prog.plainKeys))=true:=by kernel_rfl
theorem c24:(Rows.quoteErrorsRow.shortTexts.isNone)=true:=by kernel_rfl
theorem c27:((Rows.quoteErrorsRow.lifted==Tryz.prog.liftsFinal))=true:=by kernel_rfl
theorem c28:((Tryz.prog.make==some Rows.quoteErrorsRow.make))=true:=by kernel_rfl
theorem c29:Ab.kindsFit Tryz.prog Tryz.f7 Rows.quoteErrorsRow=true:=by kernel_rfl
theorem c30:((Rows.quoteErrorsRow.pinned==Rows.quoteErrorsRow.pinnedBy))=true:=by kernel_rfl
theorem c31:((Rows.quoteErrorsRow.veiled==(Tryz.f7.params.toList++Rows.quoteErrorsSpec.plain.varTypes Tryz.prog++Tryz.f7.resultTypes.toList).any (Tryz.prog.veiledRec ·)))=true:=by kernel_rfl
theorem c32:(Rows.quoteErrorsRow.veiledFits Tryz.prog Tryz.f7.params.toList (Tryz.f7.params.toList++Rows.quoteErrorsSpec.plain.varTypes Tryz.prog++Tryz.f7.resultTypes.toList))=true:=by kernel_rfl
theorem B8t:joinedFacts Tryz.prog 7 Tryz.f7 Rows.quoteErrorsSpec Rows.quoteErrorsRow=true:=Ab.joined_of c1 closed.p2 closed.p3 c4 c5 c6 closed.p7 c8 closed.p9 c10 c11 c12 c13 c14 c15 c16 c17 c18 c19 c20 c21 c22 c23 c24 closed.p25 closed.p26 c27 c28 c29 c30 c31 c32
theorem own:ownKnob Tryz.prog.godebug=none:=by kernel_rfl
theorem B2S:laidOutB Tryz.prog=true:=closed.p2
theorem D0W (c0:Array Value) (a1:ByteArray) (c2:Value) (c3:Value) (a4:Int) (w:World) (l0 l2 l3:List Ab.AV) (h0:Ab.FitL w Ab.kRules l0 c0.toList) (h2:Ab.FitL w [.sl Ab.kStr] l2 [c2]) (h3:Ab.FitL w [.sl Ab.kLine] l3 [c3]) :
  Calls Tryz.prog 7 #[.agg c0,.string a1,c2,c3,.int .i64 a4] w fun e w'=>e=.returned (.bool true)∧Below w.heap.size w w':=by
 obtain ⟨x0,r0,q0⟩:=h0.rulesQ
 obtain ⟨x2,r2,n2,q2⟩:=h2.slice Ab.decStrQ
 obtain ⟨x3,r3,n3,_⟩:=h3.slice Ab.decLine
 refine Ab.law_of_S (B1z x0 a1 x2 x3 a4 q0 (Nat.le_trans n2 (by decide)) q2 (Nat.le_trans n3 (by decide)) Ab.st0) ⟨rfl,fun j y c hy hc=>?_⟩
 match j with
 | 0=>cases hy;cases hc;exact r0
 | 1=>cases hy;cases hc;exact .str _
 | 2=>cases hy;cases hc;exact r2
 | 3=>cases hy;cases hc;exact r3
 | 4=>cases hy;cases hc;exact .int _ _
 | j+5=>cases hy
set_option maxRecDepth 100000 in
theorem lifted (os:Os) (started:os.Started) (H:Type) (enc:TypeId×Value→H) :
  ReturnsInHanded {} Tryz.checked os 7 .any (Rows.quoteErrorsSpec.pre6 enc Tryz.prog Tryz.f7 Rows.quoteErrorsRow.domain false) (Rows.quoteErrorsSpec.post enc Tryz.prog Tryz.f7 false true false false):=by
 refine returnsInHanded_of_change_sized (C:=Tryz.checked) own started (by kernel_rfl) Tryz.func7
  (ChangeSpec.witness6 (enc:=enc) (C:=Tryz.checked) false ⟨#[],#[.agg #[.slice none 0 0,.slice none 0 0,.bool false,.bool false,.int .i64 0,.slice none 0 0,.int .i64 0,.int .i64 0,.int .i64 0,.int .i64 0,.int .i64 0,.int .i64 0,.slice none 0 0,.slice none 0 0],.string ByteArray.empty,.slice none 0 0,.slice none 0 0,.int .i64 0],[]⟩ 12 (by kernel_rfl) (by kernel_rfl) (by kernel_rfl) (by kernel_rfl)) ?_
 intro W base args ds gs before hval0 hW hcnd hsz0 _
 have hval:∀ (j:Nat) t v,Tryz.f7.params[j]?=some t→args[j]?=some v→Value.okWide Tryz.prog W .any base t v:=hval0
 have hW':=hW
 obtain ⟨p,q,hA0,hV,rfl,hfz,hnd⟩:=hW
 have hA:DataW.TrodAll enc Tryz.prog W 0 (fun _=>true) true Tryz.f7.params.toList args.toList ds p:=hA0
 rw [Tryz.params7] at hA hval
 obtain ⟨v0,vs0,d0,ds0,p0,q0,hargs,rfl,rfl,h0,r0⟩:=trodAll_cons hA
 obtain ⟨v1,vs1,d1,ds1,p1,q1,rfl,rfl,rfl,h1,r1⟩:=trodAll_cons r0
 obtain ⟨v2,vs2,d2,ds2,p2,q2,rfl,rfl,rfl,h2,r2⟩:=trodAll_cons r1
 obtain ⟨v3,vs3,d3,ds3,p3,q3,rfl,rfl,rfl,h3,r3⟩:=trodAll_cons r2
 obtain ⟨v4,vs4,d4,ds4,p4,q4,rfl,rfl,rfl,h4,r4⟩:=trodAll_cons r3
 obtain ⟨rfl,rfl,rfl⟩:=trodAll_nil r4
 obtain rfl:args=#[v0,v1,v2,v3,v4]:=by cases args;simp_all
 obtain ⟨rfl,rfl⟩:=trodVars_none hV
 obtain ⟨a0,rfl,_⟩:=okWide_struct Tryz.underlying33 (hval 0 33 v0 rfl rfl)
 obtain ⟨a1,rfl,rfl,rfl,w1⟩:=open_string Tryz.underlying9 (hval 1 9 v1 rfl rfl) h1
 obtain ⟨a2,len2,cap2,rfl⟩:=okWide_slice Tryz.underlying34 (hval 2 34 v2 rfl rfl)
 obtain ⟨a3,len3,cap3,rfl⟩:=okWide_slice Tryz.underlying35 (hval 3 35 v3 rfl rfl)
 obtain ⟨a4,rfl,rfl,rfl,w4⟩:=open_int Tryz.underlying3 (hval 4 3 v4 rfl rfl) h4
 have k0:=h0
 have lt0:∀ x∈p0,x.block<W.heap.size:=by obtain ⟨m,hm⟩:=k0;exact DataW.trod_lt m _ _ _ hm
 have k2:=h2
 have lt2:∀ x∈p2,x.block<W.heap.size:=by obtain ⟨m,hm⟩:=k2;exact DataW.trod_lt m _ _ _ hm
 have k3:=h3
 have lt3:∀ x∈p3,x.block<W.heap.size:=by obtain ⟨m,hm⟩:=k3;exact DataW.trod_lt m _ _ _ hm
 obtain ⟨l0,hl0⟩:∃ l,Ab.FitL W Ab.kRules l a0.toList:=by
  obtain ⟨fuel,hf⟩:=h0
  exact Ab.open_kinds 10 fuel 33 Ab.kRules _ _ (by kernel_rfl) hf
 obtain ⟨l2,hl2⟩:∃ l,Ab.FitL W [.sl Ab.kStr] l [.slice a2 len2 cap2]:=by
  obtain ⟨fuel,hf⟩:=h2
  exact Ab.open_kinds 3 fuel 34 [.sl Ab.kStr] _ _ (by kernel_rfl) hf
 obtain ⟨l3,hl3⟩:∃ l,Ab.FitL W [.sl Ab.kLine] l [.slice a3 len3 cap3]:=by
  obtain ⟨fuel,hf⟩:=h3
  exact Ab.open_kinds 4 fuel 35 [.sl Ab.kLine] _ _ (by kernel_rfl) hf
 clear hA0 hval0 hsz0
 refine (D0W a0 a1 _ _ a4 W l0 l2 l3 hl0 hl2 hl3).mono fun e W' ⟨he,bel⟩=>?_
 subst he
 exact ⟨_,rfl,_,_,_,[],_,[],hW',trodAll_mk1 (shut_bool Tryz.underlying4 _),trodAll_cons_mk (Below.trod B2S (by kernel_rfl) (of_decide_eq_true (by kernel_rfl)) k0 bel lt0) (trodAll_cons_mk (shut_string Tryz.underlying9 w1) (trodAll_cons_mk (Below.trod B2S (by kernel_rfl) (of_decide_eq_true (by kernel_rfl)) k2 bel lt2) (trodAll_cons_mk (Below.trod B2S (by kernel_rfl) (of_decide_eq_true (by kernel_rfl)) k3 bel lt3) (trodAll_cons_mk (shut_int Tryz.underlying3 w4) trodAll_mk0)))),rfl,bel.frame _,fun h=>by cases h⟩
theorem over:Rows.quoteErrorsRow.holds Tryz.pinned (OpenSpec.ofChange Rows.quoteErrorsSpec) :=
 OpenClaim.holds_of_wide 7 Tryz.f7 rfl rfl rfl rfl rfl rfl rfl ⟨rfl,rfl,rfl,rfl,rfl⟩ rfl rfl rfl rfl rfl (by kernel_rfl) Tryz.func7 B8t
  (of_decide_eq_true (by kernel_rfl)) (by unfold Func.isWrapper;first | (rw [if_pos (by decide +kernel)];kernel_rfl) | (rw [if_neg (by decide +kernel)];exact ⟨rfl,rfl⟩))
  (fun os started H enc _=>lifted os started H enc)
theorem proved:Rows.QuoteErrorsSaid:=over
#print axioms proved
end Go.Proofs.YtbajhapmlfbelaaGreat.quoteErrors
namespace Go.Proofs.YtbajhapmlfbelaaGreat
theorem quoteErrors_holds:Rows.QuoteErrorsSaid:=quoteErrors.proved
end Go.Proofs.YtbajhapmlfbelaaGreat
