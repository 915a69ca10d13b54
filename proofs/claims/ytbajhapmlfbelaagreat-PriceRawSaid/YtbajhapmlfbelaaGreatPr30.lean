/- Part 30 of the proof: the law, for every input, and its row -/
import Derived.Test.YtbajhapmlfbelaaGreatPr29
import Derived.ChangeSlices
import Derived.ChangeArms
import Derived.Test.YtbajhapmlfbelaaGreatRows
import Derived.ProofKit
import Derived.JoinedOf
import Derived.KernelRfl
import Derived.WalkKit
import Derived.OpenShut
import Derived.ShutString
import Derived.ChangeOld
import Derived.Below
import Derived.SizedLaws
set_option maxRecDepth 100000
set_option linter.unusedVariables false
set_option linter.unusedSimpArgs false
namespace Go.Proofs.YtbajhapmlfbelaaGreat
open Go Go.Ab
attribute [local irreducible] upd del
structure C3u (lt:Int→Int→Bool) (b n:Nat) (g:FuncId) (cs:List AV) (cf:Int→Int→Int) (a m e:Nat) (l:List Int) (st:St):Prop where
 am:a<m
 me:m<e
 en:e≤n
 nl:n≤l.length
 big:l.length<4611686018427387904
 has:X8 st b l
 lo:∀ x y,a≤x→x<y→y<m→lt (gI l y) (gI l x)=false
 hi:∀ x y,m≤x→x<y→y<e→lt (gI l y) (gI l x)=false
 g:∀ x∈l,∀ y∈l,∀ st',S P g (eI x::eI y::cs) st' fun v s=>v=eI (cf x y)∧s=st'
def C2i (lt:Int→Int→Bool) (b:Nat) (a e:Nat) (l:List Int) (st:St):AV→St→Prop:=fun v st'=>v=.tuple []∧∃ l',l'.Perm l∧P3 lt (gI l) (gI l') a e∧X8 st' b l'∧∀ c,c≠b→st' c=st c
set_option maxHeartbeats 8000000 in
theorem B4O (lt:Int→Int→Bool) (b n:Nat) (g:FuncId) (cs:List AV) (cf:Int→Int→Int) (hlt:∀ x y,decide (cf x y<0)=lt x y) (ho:Ord lt):∀ (d a m e:Nat) (l:List Int) (st:St),e - a≤d→C3u lt b n g cs cf a m e l st →
  S P 319 [.own 1 b 0 n,eI a,eI m,eI e,.fn (.func g) [] cs] st (C2i lt b a e l st):=by
 intro d
 induction d with
 | zero=>intro a m e l st hd h;have:=h.am;have:=h.me;omega
 | succ d ih =>
 intro a m e l st hd ⟨ham,hme,hen,hnl,hl,⟨f,hst,hf⟩,hlo,hhi,hg⟩
 have idx:∀ k:Nat,k<l.length→f (0+(k:Int).toNat)=eI (gI l k):=fun k hk=>by rw [show 0+(k:Int).toNat=k by omega];exact hf k hk
 have cal:∀ x y:Nat,x<l.length→y<l.length→∀ s,S P g (eI (gI l x)::eI (gI l y)::cs) s fun v s'=>v=eI (cf (gI l x) (gI l y))∧s'=s:=fun x y hx hy s=>hg _ (B4 hx) _ (B4 hy) s
 have wm:IntKind.i64.wrap ((m:Int) - (a:Int))=((m - a:Nat):Int):=by rw [A7 (by omega) (by omega)];omega
 have we:IntKind.i64.wrap ((e:Int) - (m:Int))=((e - m:Nat):Int):=by rw [A7 (by omega) (by omega)];omega
 have hasSt:X8 st b l:=⟨f,hst,hf⟩
 refine A8 [] B9 mixed Tryz.func319 (by rfl) rfl rfl rfl ?_;conv=>whnf
 rw [wm]
 refine C0 (fun h=>?_) (fun h=>?_)<;>rw [h]<;>simp only [beq_iff_eq,beq_eq_false_iff_ne] at h
 ·-- one ahead
  have hma:m=a+1:=by omega
  subst hma;conv=>whnf
  refine ⟨[0,1,4,10,11],fun q vs st'=>∃ i j:Nat,a+1≤i∧i≤j∧j≤e∧(∀ k,a+1≤k→k<i→lt (gI l k) (gI l a)=true)∧(∀ k,j≤k→k<e→lt (gI l k) (gI l a)=false)∧q=j - i∧vs=[.own 1 b 0 n,eI a,.fn (.func g) [] cs,eI i,eI j]∧st=st',?_,?_⟩
  ·conv=>whnf
   exact ⟨_,a+1,e,Nat.le_refl _,by omega,Nat.le_refl _,fun k h1 h2=>by omega,fun k h1 h2=>by omega,rfl,rfl,rfl⟩
  ·rintro q vs st' ⟨i,j,hi,hij,hj,h1,h2,rfl,rfl,rfl⟩
   conv=>whnf
   refine C0 (fun h=>?_) (fun h=>?_)<;>rw [h]<;>simp only [decide_eq_true_eq,decide_eq_false_iff_not] at h
   ·conv=>whnf
    rw [A6e (i:=i) (j:=j) (by omega) (by omega) (by omega),show ((i:Int)+(j:Int)) / 2=(((i+j) / 2:Nat):Int) by omega]
    generalize hh:(i+j) / 2=c
    refine ⟨[],[],List.range 11,by kernel_rfl,?_⟩;conv=>whnf
    refine ⟨rfl,⟨by omega,by omega⟩,?_⟩;conv=>whnf
    refine F7 hst rfl (by omega) (idx c (by omega)) ?_;conv=>whnf
    refine ⟨rfl,⟨by omega,by omega⟩,?_⟩;conv=>whnf
    refine F7 hst rfl (by omega) (idx a (by omega)) ?_;conv=>whnf
    refine ⟨_,D3 (cal c a (by omega) (by omega) _),?_⟩;conv=>whnf
    rw [hlt]
    refine C0 (fun h3=>?_) (fun h3=>?_)<;>rw [h3]
    ·conv=>whnf
     refine ⟨rfl,?_⟩;conv=>whnf
     refine ⟨j - (c+1),by omega,c+1,j,by omega,by omega,hj,fun k k1 k2=>?_,h2,rfl,by rw [C2 (by omega)],rfl⟩
     cases hk:lt (gI l k) (gI l a) with
     | true=>rfl
     | false =>
      by_cases ek:k=c
      ·subst ek;rw [h3] at hk;cases hk
      ·rw [ho.le _ _ _ hk (hhi k c k1 (by omega) (by omega))] at h3;cases h3
    ·conv=>whnf
     refine ⟨rfl,?_⟩;conv=>whnf
     refine ⟨c - i,by omega,i,c,hi,by omega,by omega,h1,fun k k1 k2=>?_,rfl,rfl,rfl⟩
     by_cases ek:k=c
     ·subst ek;exact h3
     ·exact ho.le _ _ _ h3 (hhi c k (by omega) (by omega) k2)
   ·obtain rfl:i=j:=by omega
    conv=>whnf
    refine ⟨[0,10,13],fun q vs st'=>∃ (k:Nat) (l':List Int),a≤k∧k≤i - 1∧l'.Perm l∧(∀ q,gI l' q=A8E (gI l) a k q)∧X8 st' b l'∧(∀ c,c≠b→st' c=st c)∧q=i - 1 - k∧vs=[.own 1 b 0 n,eI i,eI k],?_,?_⟩
    ·conv=>whnf
     refine ⟨_,a,l,Nat.le_refl _,by omega,List.Perm.refl _,fun q=>?_,hasSt,fun _ _=>rfl,rfl,rfl⟩
     unfold A8E
     rw [if_neg (by omega)]
     split
     ·rename_i hq;subst hq;rfl
     ·rfl
    ·rintro q vs st' ⟨k,l',hak,hki,hp,hm,⟨f',hst',hf'⟩,hfr,rfl,rfl⟩
     have hlen:l'.length=l.length:=hp.length_eq
     have wi:IntKind.i64.wrap ((i:Int) - 1)=((i - 1:Nat):Int):=by rw [A7 (by omega) (by omega)];omega
     conv=>whnf
     rw [wi]
     refine C0 (fun h=>?_) (fun h=>?_)<;>rw [h]<;>simp only [decide_eq_true_eq,decide_eq_false_iff_not] at h
     ·have f1:f' (0+(k:Int).toNat)=eI (gI l' k):=by rw [show 0+(k:Int).toNat=k by omega];exact hf' _ (by omega)
      have f2:f' (0+((k+1:Nat):Int).toNat)=eI (gI l' (k+1)):=by rw [show 0+((k+1:Nat):Int).toNat=k+1 by omega];exact hf' _ (by omega)
      have f3:H2 f' (0+(k:Int).toNat) (N8 (eI (gI l' k)) 0 (cellsOf (eI (gI l' (k+1))))) (0+((k+1:Nat):Int).toNat)=eI (gI l' (k+1)):=(G2 (by omega)).trans f2
      conv=>whnf
      refine ⟨[15,17],[],List.range 18,by kernel_rfl,?_⟩;conv=>whnf
      try rw [C2 (by omega)]
      refine ⟨rfl,⟨by omega,by omega⟩,?_⟩;conv=>whnf
      try rw [C2 (by omega)]
      refine F7 hst' rfl (by omega) f2 ?_;conv=>whnf
      refine ⟨rfl,⟨by omega,by omega⟩,?_⟩;conv=>whnf
      refine F7 hst' rfl (by omega) f1 ?_;conv=>whnf
      refine ⟨rfl,⟨by omega,by omega⟩,?_⟩;conv=>whnf
      refine K8 hst' rfl (by omega) f1 (by rfl) ?_;conv=>whnf
      try rw [C2 (by omega)]
      refine ⟨rfl,⟨by omega,by omega⟩,?_⟩;conv=>whnf
      refine K8 (A0 ..) rfl (by omega) f3 (by rfl) ?_;conv=>whnf
      refine ⟨rfl,?_⟩;conv=>whnf
      have k1:k<l'.length:=by omega
      have k2:k+1<l'.length:=by omega
      refine ⟨i - 1 - (k+1),by omega,k+1,swI l' k (k+1),by omega,by omega,(A6A k1 k2).trans hp,fun q=>?_,⟨_,by rw [A0,A4U];rfl,B1S (i':=0+(k:Int).toNat) (j':=0+((k+1:Nat):Int).toNat) hf' k1 k2 (by omega) (by omega)⟩,fun c hc=>by rw [B1 hc,B1 hc];exact hfr c hc,rfl,by rw [C2 (by omega)]⟩
      rw [A5F k1 k2,hm,hm,hm]
      unfold A8E
      repeat' split
      all_goals first | rfl | (exfalso;omega) | (congr 1<;>omega)
     ·obtain rfl:k=i - 1:=by omega
      conv=>whnf
      exact ⟨rfl,l',hp,C1E ho (by omega) hj (fun x y=>hhi x y) h1 (fun k k1 k2=>h2 k k1 k2) hm,⟨f',hst',hf'⟩,hfr⟩
 conv=>whnf
 rw [we]
 refine C0 (fun h=>?_) (fun h=>?_)<;>rw [h]<;>simp only [beq_iff_eq,beq_eq_false_iff_ne] at h
 ·-- one behind
  have hem:e=m+1:=by omega
  subst hem;conv=>whnf
  refine ⟨[0,2,4,14,15],fun q vs st'=>∃ i j:Nat,a≤i∧i≤j∧j≤m∧(∀ k,a≤k→k<i→lt (gI l m) (gI l k)=false)∧(∀ k,j≤k→k<m→lt (gI l m) (gI l k)=true)∧q=j - i∧vs=[.own 1 b 0 n,eI m,.fn (.func g) [] cs,eI i,eI j]∧st=st',?_,?_⟩
  ·conv=>whnf
   exact ⟨_,a,m,Nat.le_refl _,by omega,Nat.le_refl _,fun k h1 h2=>by omega,fun k h1 h2=>by omega,rfl,rfl,rfl⟩
  ·rintro q vs st' ⟨i,j,hi,hij,hj,h1,h2,rfl,rfl,rfl⟩
   conv=>whnf
   refine C0 (fun h=>?_) (fun h=>?_)<;>rw [h]<;>simp only [decide_eq_true_eq,decide_eq_false_iff_not] at h
   ·conv=>whnf
    rw [A6e (i:=i) (j:=j) (by omega) (by omega) (by omega),show ((i:Int)+(j:Int)) / 2=(((i+j) / 2:Nat):Int) by omega]
    generalize hh:(i+j) / 2=c
    refine ⟨[],[],List.range 12,by kernel_rfl,?_⟩;conv=>whnf
    refine ⟨rfl,⟨by omega,by omega⟩,?_⟩;conv=>whnf
    refine F7 hst rfl (by omega) (idx m (by omega)) ?_;conv=>whnf
    refine ⟨rfl,⟨by omega,by omega⟩,?_⟩;conv=>whnf
    refine F7 hst rfl (by omega) (idx c (by omega)) ?_;conv=>whnf
    refine ⟨_,D3 (cal m c (by omega) (by omega) _),?_⟩;conv=>whnf
    rw [hlt]
    cases h3:lt (gI l m) (gI l c)
    ·conv=>whnf
     refine ⟨rfl,?_⟩;conv=>whnf
     refine ⟨j - (c+1),by omega,c+1,j,by omega,by omega,hj,fun k k1 k2=>?_,h2,rfl,by rw [C2 (by omega)],rfl⟩
     by_cases ek:k=c
     ·subst ek;exact h3
     ·exact ho.le _ _ _ (hlo k c k1 (by omega) (by omega)) h3
    ·conv=>whnf
     refine ⟨rfl,?_⟩;conv=>whnf
     refine ⟨c - i,by omega,i,c,hi,by omega,by omega,h1,fun k k1 k2=>?_,rfl,rfl,rfl⟩
     cases hk:lt (gI l m) (gI l k) with
     | true=>rfl
     | false =>
      by_cases ek:k=c
      ·subst ek;rw [h3] at hk;cases hk
      ·rw [ho.le _ _ _ (hlo c k (by omega) (by omega) k2) hk] at h3;cases h3
   ·obtain rfl:i=j:=by omega
    conv=>whnf
    refine ⟨[0,14,17],fun q vs st'=>∃ (k:Nat) (l':List Int),i≤k∧k≤m∧l'.Perm l∧(∀ q,gI l' q=A8D (gI l) m k q)∧X8 st' b l'∧(∀ c,c≠b→st' c=st c)∧q=k - i∧vs=[.own 1 b 0 n,eI i,eI k],?_,?_⟩
    ·conv=>whnf
     refine ⟨_,m,l,by omega,Nat.le_refl _,List.Perm.refl _,fun q=>?_,hasSt,fun _ _=>rfl,rfl,rfl⟩
     unfold A8D
     rw [if_neg (by omega)]
     split
     ·rename_i hq;subst hq;rfl
     ·rfl
    ·rintro q vs st' ⟨k,l',hak,hki,hp,hm,⟨f',hst',hf'⟩,hfr,rfl,rfl⟩
     have hlen:l'.length=l.length:=hp.length_eq
     conv=>whnf
     refine C0 (fun h=>?_) (fun h=>?_)<;>rw [h]<;>simp only [decide_eq_true_eq,decide_eq_false_iff_not] at h
     ·have wk:IntKind.i64.wrap ((k:Int) - 1)=((k - 1:Nat):Int):=by rw [A7 (by omega) (by omega)];omega
      have f1:f' (0+(k:Int).toNat)=eI (gI l' k):=by rw [show 0+(k:Int).toNat=k by omega];exact hf' _ (by omega)
      have f2:f' (0+((k - 1:Nat):Int).toNat)=eI (gI l' (k - 1)):=by rw [show 0+((k - 1:Nat):Int).toNat=k - 1 by omega];exact hf' _ (by omega)
      have f3:H2 f' (0+(k:Int).toNat) (N8 (eI (gI l' k)) 0 (cellsOf (eI (gI l' (k - 1))))) (0+((k - 1:Nat):Int).toNat)=eI (gI l' (k - 1)):=(G2 (by omega)).trans f2
      conv=>whnf
      refine ⟨[15,17],[],List.range 18,by kernel_rfl,?_⟩;conv=>whnf
      try rw [wk]
      refine ⟨rfl,⟨by omega,by omega⟩,?_⟩;conv=>whnf
      try rw [wk]
      refine F7 hst' rfl (by omega) f2 ?_;conv=>whnf
      refine ⟨rfl,⟨by omega,by omega⟩,?_⟩;conv=>whnf
      refine F7 hst' rfl (by omega) f1 ?_;conv=>whnf
      refine ⟨rfl,⟨by omega,by omega⟩,?_⟩;conv=>whnf
      refine K8 hst' rfl (by omega) f1 (by rfl) ?_;conv=>whnf
      try rw [wk]
      refine ⟨rfl,⟨by omega,by omega⟩,?_⟩;conv=>whnf
      refine K8 (A0 ..) rfl (by omega) f3 (by rfl) ?_;conv=>whnf
      refine ⟨rfl,?_⟩;conv=>whnf
      have k1:k<l'.length:=by omega
      have k2:k - 1<l'.length:=by omega
      refine ⟨k - 1 - i,by omega,k - 1,swI l' k (k - 1),by omega,by omega,(A6A k1 k2).trans hp,fun q=>?_,⟨_,by rw [A0,A4U];rfl,B1S (i':=0+(k:Int).toNat) (j':=0+((k - 1:Nat):Int).toNat) hf' k1 k2 (by omega) (by omega)⟩,fun c hc=>by rw [B1 hc,B1 hc];exact hfr c hc,rfl,by rw [wk]⟩
      rw [A5F k1 k2,hm,hm,hm]
      unfold A8D
      repeat' split
      all_goals first | rfl | (exfalso;omega) | (congr 1<;>omega)
     ·obtain rfl:k=i:=by omega
      conv=>whnf
      exact ⟨rfl,l',hp,C0w ho hi hj (fun x y=>hlo x y) h1 (fun k k1 k2=>h2 k k1 k2) hm,⟨f',hst',hf'⟩,hfr⟩
 conv=>whnf
 rw [A6e (i:=a) (j:=e) (by omega) (by omega) (by omega),show ((a:Int)+(e:Int)) / 2=(((a+e) / 2:Nat):Int) by omega]
 obtain ⟨mid,hmid⟩:∃ mid,mid=(a+e) / 2:=⟨_,rfl⟩
 obtain ⟨nn,hnn⟩:∃ nn,nn=mid+m:=⟨_,rfl⟩
 rw [←hmid]
 have wn:IntKind.i64.wrap ((mid:Int)+(m:Int))=(nn:Int):=by rw [A7 (by omega) (by omega)];omega
 have wp:IntKind.i64.wrap ((nn:Int) - 1)=((nn - 1:Nat):Int):=by rw [A7 (by omega) (by omega)];omega
 have wne:mid<m→IntKind.i64.wrap ((nn:Int) - (e:Int))=((nn - e:Nat):Int):=fun _=>by rw [A7 (by omega) (by omega)];omega
 rw [wn]
 refine C0 (fun h=>?c1) (fun h=>?c2)
 case' c1 =>
  rw [h]
  simp only [decide_eq_true_eq] at h
  conv=>whnf
  rw [wne (by omega)]
  obtain ⟨s0,hs0⟩:∃ s0,s0=nn - e:=⟨_,rfl⟩
  obtain ⟨r0,hr0⟩:∃ r0,r0=mid:=⟨_,rfl⟩
  have hs:s0=if mid<m then nn - e else a:=by rw [if_pos (by omega)];exact hs0
  have hr:r0=if mid<m then mid else m:=by rw [if_pos (by omega)];exact hr0
 case' c2 =>
  rw [h]
  simp only [decide_eq_false_iff_not] at h
  conv=>whnf
  obtain ⟨s0,hs0⟩:∃ s0,s0=a:=⟨_,rfl⟩
  obtain ⟨r0,hr0⟩:∃ r0,r0=m:=⟨_,rfl⟩
  have hs:s0=if mid<m then nn - e else a:=by rw [if_neg (by omega)];exact hs0
  have hr:r0=if mid<m then mid else m:=by rw [if_neg (by omega)];exact hr0
 all_goals
  have b0:a≤s0∧nn - s0≤e∧r0≤m∧r0≤mid∧s0≤r0:=by omega
  obtain ⟨b1,b2,b3,b4,b5⟩:=b0
  have hrng:∀ k,s0≤k→k<r0→m≤nn - 1 - k∧nn - 1 - k<e∧k≤nn - 1:=fun k k1 k2=>by omega
  rw [wp]
  refine ⟨[0,1,2,3,4,18,19,20,21,22],fun q vs st'=>∃ s r:Nat,Mid lt (gI l) s0 s r r0 (nn - 1)∧q=r - s∧vs=[.own 1 b 0 n,eI a,eI m,eI e,.fn (.func g) [] cs,eI mid,eI nn,eI s,eI r,eI ((nn - 1:Nat):Int)]∧st=st',?_,?_⟩
  ·conv=>whnf
   exact ⟨_,s0,r0,⟨⟨Nat.le_refl _,b5,Nat.le_refl _⟩,fun c c1 c2=>by omega,fun c c1 c2=>by omega⟩,rfl,by rw [hs0,hr0],rfl⟩
  rintro q vs st' ⟨s,r,hM,rfl,rfl,rfl⟩
  obtain ⟨l1,l2,l3⟩:=hM.le
  clear hs0 hr0
  conv=>whnf
  refine C0 (fun h=>?_) (fun h=>?_)<;>rw [h]<;>simp only [decide_eq_true_eq,decide_eq_false_iff_not] at h
  ·conv=>whnf
   rw [A6e (i:=s) (j:=r) (by omega) (by omega) (by omega),show ((s:Int)+(r:Int)) / 2=(((s+r) / 2:Nat):Int) by omega]
   obtain ⟨c,hc⟩:∃ c,c=(s+r) / 2:=⟨_,rfl⟩
   rw [←hc]
   have wc:IntKind.i64.wrap (((nn - 1:Nat):Int) - (c:Int))=((nn - 1 - c:Nat):Int):=by rw [A7 (by omega) (by omega)];omega
   refine ⟨[],[],List.range 14,by kernel_rfl,?_⟩;conv=>whnf
   rw [wc]
   refine ⟨rfl,⟨by omega,by omega⟩,?_⟩;conv=>whnf
   refine F7 hst rfl (by omega) (idx (nn - 1 - c) (by omega)) ?_;conv=>whnf
   refine ⟨rfl,⟨by omega,by omega⟩,?_⟩;conv=>whnf
   refine F7 hst rfl (by omega) (idx c (by omega)) ?_;conv=>whnf
   refine ⟨_,D3 (cal (nn - 1 - c) c (by omega) (by omega) _),?_⟩;conv=>whnf
   rw [hlt]
   cases h3:lt (gI l (nn - 1 - c)) (gI l c)
   ·conv=>whnf
    refine ⟨rfl,?_⟩;conv=>whnf
    exact ⟨r - (c+1),by omega,c+1,r,hM.low ho (by omega) b1 b3 hrng hlo hhi h3,rfl,by rw [C2 (by omega)],rfl⟩
   ·conv=>whnf
    refine ⟨rfl,?_⟩;conv=>whnf
    exact ⟨c - s,by omega,s,c,hM.high ho (by omega) b1 b3 hrng hlo hhi h3,rfl,rfl,rfl⟩
  obtain rfl:s=r:=by omega
  have wt:IntKind.i64.wrap ((nn:Int) - (s:Int))=((nn - s:Nat):Int):=by rw [A7 (by omega) (by omega)];omega
  obtain ⟨t,ht⟩:∃ t,t=nn - s:=⟨_,rfl⟩
  rw [←ht] at wt;conv=>whnf
  rw [wt]
  have cut:=fun (l1:List Int)=>C2s (g:=gI l1) ho ham hme hmid hnn hs hr hM ht
  refine C0 (fun h4=>?_) (fun h4=>?_)<;>rw [h4]
  all_goals first
    | (have h4:=of_decide_eq_true h4
       conv=>whnf
       refine C0 (fun h5=>?_) (fun h5=>?_)<;>rw [h5])
    | (have h4:=of_decide_eq_false h4
       obtain ⟨l1,hl1⟩:∃ l1,l1=l:=⟨_,rfl⟩
       have hp1:l1.Perm l:=by rw [hl1]
       have hg1:∀ k,gI l1 k=A1T (gI l) s m t k:=fun k=>by rw [hl1,B3j (by omega) (by omega) (by omega)]
       have hb1:X8 st b l1:=by rw [hl1];exact hasSt
       have hfr1:∀ c,c≠b→st c=st c:=fun _ _=>rfl
       clear hl1)
  all_goals first
    | (have h5:=of_decide_eq_true h5
       conv=>whnf
       refine call (B9h b l n s m t _ _ hasSt (by omega) (by omega) (by omega) hnl hl) (fun v st1 hv=>?_)
       obtain ⟨rfl,l1,hp1,hg1,hb1,hfr1⟩:=hv)
    | (have h5:=of_decide_eq_false h5
       obtain ⟨l1,hl1⟩:∃ l1,l1=l:=⟨_,rfl⟩
       have hp1:l1.Perm l:=by rw [hl1]
       have hg1:∀ k,gI l1 k=A1T (gI l) s m t k:=fun k=>by rw [hl1,B3j (by omega) (by omega) (by omega)]
       have hb1:X8 st b l1:=by rw [hl1];exact hasSt
       have hfr1:∀ c,c≠b→st c=st c:=fun _ _=>rfl
       clear hl1)
    | skip
  all_goals
   have hlen1:l1.length=l.length:=hp1.length_eq
   have cut:=cut l1 hg1 hlo hhi
   obtain ⟨u1,u2,u3,u4⟩:=cut.le
   obtain ⟨o1,o2⟩:=B9e (f:=gI l) (g:=gI l1) u1 (show s≤m by omega) (show m≤t by omega) u4 hg1
   conv=>whnf
   refine C0 (fun h6=>?_) (fun h6=>?_)<;>rw [h6]
   all_goals first
    | (have h6:=of_decide_eq_true h6
       conv=>whnf
       refine C0 (fun h7=>?_) (fun h7=>?_)<;>rw [h7])
    | (have h6:=of_decide_eq_false h6
       obtain ⟨l2,hl2⟩:∃ l2,l2=l1:=⟨_,rfl⟩
       have hp2:l2.Perm l1:=by rw [hl2]
       have hP2:P3 lt (gI l1) (gI l2) a mid:=by rw [hl2];exact P3.refl fun x y q1 q2 q3=>cut.r2 x y (by omega) q2 q3
       have hfr2:=hfr1
       have hb2:=hb1
       rw [←hl2] at hb2
       clear hl2)
   all_goals first
    | (have h7:=of_decide_eq_true h7
       conv=>whnf
       refine call (ih a s mid l1 _ (by omega) ⟨by omega,by omega,by omega,by omega,by omega,hb1,cut.r1,cut.r2,fun x hx y hy=>hg x (hp1.subset hx) y (hp1.subset hy)⟩) (fun v st2 hv=>?_)
       obtain ⟨rfl,l2,hp2,hP2,hb2,hfr2⟩:=hv
       have hfr2:=fun c (hc:c≠b)=>(hfr2 c hc).trans (hfr1 c hc))
    | (have h7:=of_decide_eq_false h7
       obtain ⟨l2,hl2⟩:∃ l2,l2=l1:=⟨_,rfl⟩
       have hp2:l2.Perm l1:=by rw [hl2]
       have hP2:P3 lt (gI l1) (gI l2) a mid:=by rw [hl2];exact P3.refl fun x y q1 q2 q3=>cut.r1 x y q1 q2 (by omega)
       have hfr2:=hfr1
       have hb2:=hb1
       rw [←hl2] at hb2
       clear hl2)
    | skip
   all_goals
    have hlen2:l2.length=l1.length:=hp2.length_eq
    have same:∀ k,mid≤k→gI l2 k=gI l1 k:=fun k hk=>hP2.out k (.inr hk)
    have done:∀ l3:List Int,P3 lt (gI l2) (gI l3) mid e→P3 lt (gI l) (gI l3) a e:=fun l3 h3=>P3.turned o1 o2 (cut.join hP2 h3)
    conv=>whnf
    refine C0 (fun h8=>?_) (fun h8=>?_)
    ·rw [h8]
     simp only [decide_eq_true_eq] at h8
     conv=>whnf
     refine C0 (fun h9=>?_) (fun h9=>?_)
     ·rw [h9]
      simp only [decide_eq_true_eq] at h9
      conv=>whnf
      refine call (ih mid t e l2 _ (by omega) ⟨by omega,by omega,by omega,by omega,by omega,hb2,fun x y q1 q2 q3=>by rw [same x q1,same y (by omega)];exact cut.r3 x y q1 q2 q3,fun x y q1 q2 q3=>by rw [same x (by omega),same y (by omega)];exact cut.r4 x y q1 q2 q3,fun x hx y hy=>hg x (hp1.subset (hp2.subset hx)) y (hp1.subset (hp2.subset hy))⟩) (fun v st3 hv=>?_)
      obtain ⟨rfl,l3,hp3,hP3,hb3,hfr3⟩:=hv
      conv=>whnf
      exact ⟨rfl,l3,hp3.trans (hp2.trans hp1),done l3 hP3,hb3,fun c hc=>(hfr3 c hc).trans (hfr2 c hc)⟩
     ·rw [h9]
      simp only [decide_eq_false_iff_not] at h9
      conv=>whnf
      exact ⟨rfl,l2,hp2.trans hp1,done l2 (P3.refl fun x y q1 q2 q3=>by rw [same x q1,same y (by omega)];exact cut.r3 x y q1 q2 (by omega)),hb2,hfr2⟩
    ·rw [h8]
     simp only [decide_eq_false_iff_not] at h8
     conv=>whnf
     exact ⟨rfl,l2,hp2.trans hp1,done l2 (P3.refl fun x y q1 q2 q3=>by rw [same x q1,same y (by omega)];exact cut.r4 x y (by omega) q2 q3),hb2,hfr2⟩
theorem B9E:A2C 39:=by
 intro b l g cs cf lt hlt ho st hb hl hg
 by_cases h20:l.length≤20
 ·exact A9s b l g cs cf lt hlt ho st hb h20 hg
 refine A8 [] B9 mixed Tryz.func262 (by rfl) rfl rfl rfl ?_;conv=>whnf
 refine ⟨[0,1,2,6,7,8],fun m vs st'=>(m=1∧st'=st∧vs=[.own 1 b 0 l.length,eI l.length,.fn (.func g) [] cs,eI 20,eI 0,eI 20]) ∨
  (m=0∧(∃ l',l'.Perm l∧Srt lt l' 0 20∧X8 st' b l'∧∀ c,c≠b→st' c=st c)∧vs=[.own 1 b 0 l.length,eI l.length,.fn (.func g) [] cs,eI 20,eI 20,eI 40]),?_,?_⟩
 ·conv=>whnf
  exact ⟨1,.inl ⟨rfl,rfl,rfl⟩⟩
 ·rintro m vs st' (⟨rfl,rfl,rfl⟩ | ⟨rfl,⟨l',hp,hs,hb',hfr⟩,rfl⟩)
  ·conv=>whnf
   refine C0 (fun h1=>?_) (fun h1=>?_)<;>rw [h1]<;>simp only [decide_eq_true_eq,decide_eq_false_iff_not] at h1
   ·conv=>whnf
    refine call (A6f b l l.length 0 20 g cs cf lt hlt ho _ hb (by omega) (by omega) (by omega) (by omega) hg) (fun v st1 hv=>?_)
    obtain ⟨rfl,l',hp,hs,hout,hb',hfr⟩:=hv
    conv=>whnf
    refine ⟨rfl,?_⟩;conv=>whnf
    exact ⟨0,by omega,.inr ⟨rfl,⟨l',hp,hs,hb',hfr⟩,rfl⟩⟩
   ·exact absurd h1 (by omega)
  ·have hlen:l'.length=l.length:=hp.length_eq
   conv=>whnf
   refine C0 (fun h1=>?_) (fun h1=>?_)<;>rw [h1]<;>simp only [decide_eq_true_eq,decide_eq_false_iff_not] at h1
   ·exact absurd h1 (by omega)
   ·conv=>whnf
    refine call (A6f b l' l.length 20 l.length g cs cf lt hlt ho _ hb' (by omega) (by omega) (by omega) (by omega) (fun x hx y hy=>hg x (hp.subset hx) y (hp.subset hy))) (fun v st1 hv=>?_)
    obtain ⟨rfl,l2,hp2,hs2,hout,hb2,hfr2⟩:=hv
    have hp2:=hp2.trans hp
    have hlen2:l2.length=l.length:=hp2.length_eq
    have hfr2:=fun c (hc:c≠b)=>(hfr2 c hc).trans (hfr c hc)
    have hs1:Srt lt l2 0 20:=hs.congr fun k _ hk=>hout k (.inl hk)
    conv=>whnf
    refine ⟨[0,1,2,6],fun m vs st'=>(m=1∧st'=st1∧vs=[.own 1 b 0 l.length,eI l.length,.fn (.func g) [] cs,eI 20]) ∨
     (m=0∧(∃ l',l'.Perm l∧Srt lt l' 0 l.length∧X8 st' b l'∧∀ c,c≠b→st' c=st c)∧vs=[.own 1 b 0 l.length,eI l.length,.fn (.func g) [] cs,eI 40]),?_,?_⟩
    ·conv=>whnf
     exact ⟨1,.inl ⟨rfl,rfl,rfl⟩⟩
    ·rintro m vs st' (⟨rfl,rfl,rfl⟩ | ⟨rfl,⟨l3,hp3,hs3,hb3,hfr3⟩,rfl⟩)
     ·conv=>whnf
      refine C0 (fun h2=>?_) (fun h2=>?_)<;>rw [h2]<;>simp only [decide_eq_true_eq,decide_eq_false_iff_not] at h2
      ·conv=>whnf
       refine A7G [0,1,2,6,7,8] ?_;conv=>whnf
       intro I
       refine C0 (fun h3=>?_) (fun h3=>?_)<;>rw [h3]<;>simp only [decide_eq_true_eq,decide_eq_false_iff_not] at h3
       ·rw [show IntKind.i64.wrap (2 * 20)=40 from by rw [A7 (by omega) (by omega)];rfl] at h3;exact absurd h3 (by omega)
       ·conv=>whnf
        refine C0 (fun h4=>?_) (fun h4=>?_)<;>rw [h4]<;>simp only [decide_eq_true_eq,decide_eq_false_iff_not] at h4
        ·conv=>whnf
         refine call (B4O lt b l.length g cs cf hlt ho (l.length - 0) 0 20 l.length l2 _ (Nat.le_refl _) ⟨by omega,by omega,by omega,by omega,by omega,hb2,hs1,hs2,fun x hx y hy=>hg x (hp2.subset hx) y (hp2.subset hy)⟩) (fun v st3 hv=>?_)
         obtain ⟨rfl,l3,hp3,hP3,hb3,hfr3⟩:=hv
         conv=>whnf
         refine ⟨rfl,?_⟩;conv=>whnf
         exact ⟨0,by omega,.inr ⟨rfl,⟨l3,hp3.trans hp2,hP3.srt,hb3,fun c hc=>(hfr3 c hc).trans (hfr2 c hc)⟩,rfl⟩⟩
        ·exact absurd (show (20:Int)<(l.length:Int) by omega) h4
      ·exact absurd h2 (by omega)
     ·conv=>whnf
      refine C0 (fun h2=>?_) (fun h2=>?_)<;>rw [h2]<;>simp only [decide_eq_true_eq,decide_eq_false_iff_not] at h2
      ·exact absurd h2 (by omega)
      ·conv=>whnf
       exact ⟨rfl,l3,hp3,hs3,hb3,hfr3⟩
theorem B2Y {p:A9} (h:A0k p):M9 p :=
 ⟨⟨Nat.le_trans h.scope.n1 (by decide),Nat.le_trans h.scope.n2 (by decide)⟩,⟨Nat.le_trans h.parts (by decide),fun x hx=>⟨Nat.le_trans (h.part x hx).n1 (by decide),Nat.le_trans (h.part x hx).n2 (by decide)⟩⟩⟩
structure B5a (R:I6) (C:List D7) (L:List G1):Prop where
 fit:U3 R
 sm:Y7 R
 promos:R.promos.length≤39
 codes:Sm C.length
 scodes:∀ s∈C,Sm s.size
 lines:L.length≤1000
theorem C4X {r:I6} {codes:List D7} {l:List G1} (h:Y7 r) (hf:B6n r=true) (hc:Sm codes.length) (hs:∀ s∈codes,Sm s.size) (hl:l.length≤1000):B5a r codes l:=by
 unfold B6n at hf
 simp only [Bool.and_eq_true,decide_eq_true_eq] at hf
 obtain ⟨⟨⟨⟨h1,h2⟩,h3⟩,h4⟩,h5⟩:=hf
 exact ⟨⟨by show r.promos.length≤9223372036854775807;omega,fun p hp=>B2Y (h.promos p hp),by omega,by omega⟩,h,by omega,hc,hs,hl⟩
theorem A8R {R:I6} {C:List D7} {L:List G1} (hck:D0 R C L=0):P6 R=true:=by
 unfold D0 at hck
 cases h:P6 R
 ·rw [if_pos h] at hck;cases hck
 ·rfl
theorem B5a.both {R:I6} {C:List D7} {L:List G1} (h:B5a R C L):∃ (X:A5l) (e:Int),e=D0 R C L∧(e=0→X=A5y R C L)∧X.nets.length≤1000∧X.deals.length≤78 ∧
  (∀ s,S P 18 [J6 R,D9 C,B2 3 I9 L] s fun v s'=>v=.tuple [U1 X,eI e]∧s'=s) ∧
  (∀ s,S P 19 [J6 R,D9 C,B2 3 I9 L] s fun v s'=>v=.tuple [U1 X,eI e]∧s'=s):=by
 have hp:=h.promos
 have hsn:=h.sm.n
 have hcn:=h.codes
 have hL:=h.lines
 have a1:=fun s=>price_S B9E R C L h.fit (by show C.length≤9223372036854775807;omega) hsn (by have:=S7 R.promos C R.promos.length;omega) s
 have a2:=fun s=>B3d R C L h.fit h.sm (by omega) hcn h.scodes (by show L.length≤9223372036854775807;omega) s
 by_cases hck:D0 R C L=0
 ·have hR:=A8R hck
  have hC:promosC R.promos=true:=by
   unfold P6 at hR
   simp only [Bool.and_eq_true] at hR
   exact hR.1.1.1.2
  obtain ⟨xs,ys,hl⟩:=B0u h.fit hck
  refine ⟨A5y R C L,0,hck.symm,fun _=>rfl,?_,?_,fun s=>(a1 s).mono fun v s' ⟨hv,hs⟩=>⟨?_,hs⟩,fun s=>(a2 s).mono fun v s' ⟨hv,hs⟩=>⟨?_,hs⟩⟩
  ·show (Q7 _ _ _ _).nets.length≤_
   rw [hl.len];exact hL
  ·show (Q7 _ _ _ _).deals.length≤_
   rw [hl.deals,List.length_map,List.length_append]
   have h1:=hl.sx.length_le
   have h2:=hl.sy.length_le
   rw [List.length_map,(A1A R.promos C).length_eq] at h1 h2
   have:=S7 R.promos C R.promos.length
   omega
  ·rcases hv with ⟨h1,_⟩ | ⟨_,o1,o2,h1,h2,h3⟩
   ·exact absurd hck h1
   ·rw [A6s hC h1,A6s hC h2] at h3;exact h3
  ·rw [if_pos hck] at hv;exact hv
 ·refine ⟨⟨[],0,0,[]⟩,D0 R C L,rfl,fun e=>absurd e hck,Nat.zero_le _,Nat.zero_le _,fun s=>(a1 s).mono fun v s' ⟨hv,hs⟩=>⟨?_,hs⟩,fun s=>(a2 s).mono fun v s' ⟨hv,hs⟩=>⟨?_,hs⟩⟩
  ·rcases hv with ⟨_,h1⟩ | ⟨h1,_⟩
   ·exact h1
   ·exact absurd h1 hck
  ·rw [if_neg hck] at hv;exact hv
theorem C0B (r:I6) (codes:List D7) (l:List G1) (hl:l.length≤9223372036854775807) (st:St):S P 13 [J6 r,D9 codes,B2 3 I9 l] st fun v st' =>
  (∃ b,v=.bool b∧(b=true→B6n r=true∧codes.length<30∧l.length<40))∧st'=st:=by
 refine A8 [3] B9 mixed Tryz.func13 (by rfl) rfl rfl rfl ?_;conv=>whnf
 refine lp l.length [1,2,3,7,8] (fun i vs s=>∃ m:Int,vs=[D9 codes,B2 3 I9 l,.fptr (J6 r) 0,eI m,eI i]∧s=st) ?_ ?_
 ·conv=>whnf
  exact ⟨0,rfl,rfl⟩
 ·rintro i vs s hi ⟨m,rfl,rfl⟩
  conv=>whnf
  cases h:decide ((i:Int)<(l.length:Int))
  ·obtain rfl:=E0 h hi
   conv=>whnf
   refine B0 (C3E r _) ?_;conv=>whnf
   cases hf:B6n r
   ·conv=>whnf
    exact ⟨⟨false,rfl,fun h=>by cases h⟩,rfl⟩
   conv=>whnf
   cases h2:decide ((codes.length:Int)<30)
   ·conv=>whnf
    exact ⟨⟨false,rfl,fun h=>by cases h⟩,rfl⟩
   conv=>whnf
   cases h3:decide ((l.length:Int)<40)
   ·conv=>whnf
    exact ⟨⟨false,rfl,fun h=>by cases h⟩,rfl⟩
   conv=>whnf
   refine ⟨⟨_,rfl,fun _=>⟨rfl,?_,?_⟩⟩,rfl⟩
   ·have:=of_decide_eq_true h2;omega
   ·have:=of_decide_eq_true h3;omega
  ·have hi':=G7 h
   conv=>whnf
   refine ⟨rfl,⟨by omega,by omega⟩,?_⟩;conv=>whnf
   refine C0 (fun h1=>?_) (fun h1=>?_)<;>rw [h1]
   ·conv=>whnf
    exact ⟨⟨false,rfl,fun h=>by cases h⟩,rfl⟩
   conv=>whnf
   refine ⟨rfl,⟨by omega,by omega⟩,?_⟩;conv=>whnf
   refine ⟨rfl,?_⟩;conv=>whnf
   exact nx hi' ⟨_,by rw [C2 (by omega)],rfl⟩
set_option maxHeartbeats 4000000 in
theorem B4v (r:I6) (codes:List D7) (l:List G1) (near:Int) (hr:Y7 r) (hcn:Sm codes.length) (hcs:∀ s∈codes,Sm s.size) (hln:Sm l.length) (st:St) :
  S P 3 [J6 r,D9 codes,B2 3 I9 l,eI near] st fun v st'=>v=.bool true:=by
 have cR:=fun s=>B2U r s
 have cC:=fun s=>B2O codes s
 have cL:=fun s=>B2S l s
 have hOk:=C2L r codes l
 refine A8 [] B9 mixed Tryz.func3 (by rfl) rfl rfl rfl ?_;conv=>whnf
 intro b4 hb4;conv=>whnf
 refine F7 (A0 ..) rfl (by omega) rfl ?_;conv=>whnf
 refine call (C0B r codes l (by omega) _) (fun v s hv=>?_)
 obtain ⟨⟨FW,rfl,hfw⟩,rfl⟩:=hv
 conv=>whnf
 cases FW
 ·conv=>whnf
  refine B0 (B5c _) ?_;conv=>whnf
  exact rfl
 obtain ⟨hf1,hf2,hf3⟩:=hfw rfl
 have raw:∀ {R C L},(R=r∨R=X1 r)→(C=codes∨C=W9 codes)→(L=l∨L=R7 l)→B5a R C L:=by
  intro R C L h1 h2 h3
  have q2:C.length≤30∧∀ s∈C,Sm s.size:=by
   rcases h2 with rfl | rfl
   ·exact ⟨by omega,hcs⟩
   ·exact ⟨by have:=hOk.ncodes;omega,fun s hs=>by have:=hOk.scodes s hs;show s.size≤9223372036854775807;omega⟩
  have q3:L.length≤1000:=by
   rcases h3 with rfl | rfl
   ·omega
   ·have:=hOk.lines.len;omega
  rcases h1 with rfl | rfl
  ·exact C4X hr hf1 (by show C.length≤9223372036854775807;omega) q2.2 q3
  ·exact ⟨hOk.fit,hOk.sm,by have:=hOk.few;omega,by show C.length≤9223372036854775807;omega,q2.2,q3⟩
 clear hOk
 generalize X1 r=R1 at cR raw
 generalize W9 codes=C1 at cC raw
 generalize R7 l=L1 at cL raw
 conv=>whnf
 refine C0 (fun g1=>?_) (fun g1=>?_)<;>rw [g1]
 case' refine_1 =>
  conv=>whnf
  refine F7 (A0 ..) rfl (by omega) rfl ?_;conv=>whnf
  refine B0 (cR _) ?_;conv=>whnf
  refine K8 (A0 ..) rfl (by omega) rfl (by rfl) ?_
  rw [C5]
  have hR2:R1=r∨R1=R1:=.inr rfl
 case' refine_2 =>
  have hR2:r=r∨r=R1:=.inl rfl
 all_goals
  conv=>whnf
  refine C0 (fun g2=>?_) (fun g2=>?_)<;>rw [g2]
 case' refine_1.refine_1 | refine_2.refine_1 =>
  conv=>whnf
  refine B0 (cC _) ?_
  have hC2:C1=codes∨C1=C1:=.inr rfl
 case' refine_1.refine_2 | refine_2.refine_2 =>
  have hC2:codes=codes∨codes=C1:=.inl rfl
 all_goals
  conv=>whnf
  refine C0 (fun g3=>?_) (fun g3=>?_)<;>rw [g3]
 case' refine_1.refine_1.refine_1 | refine_1.refine_2.refine_1 | refine_2.refine_1.refine_1 | refine_2.refine_2.refine_1 =>
  conv=>whnf
  refine B0 (cL _) ?_
  have hL2:L1=l∨L1=L1:=.inr rfl
 case' refine_1.refine_1.refine_2 | refine_1.refine_2.refine_2 | refine_2.refine_1.refine_2 | refine_2.refine_2.refine_2 =>
  have hL2:l=l∨l=L1:=.inl rfl
 all_goals
  obtain ⟨X,e,-,-,x1,x2,p1,p2⟩:=(raw hR2 hC2 hL2).both
  have p3:=fun s=>B1F X (by show _≤9223372036854775807;omega) (by show _≤9223372036854775807;omega) s
  conv=>whnf
  refine F7 (A0 ..) rfl (by omega) (by first | exact A6 .. | rfl) ?_;conv=>whnf
  refine B0 (p1 _) ?_;conv=>whnf
  intro b7 hb7
  have h47:b4≠b7:=fun e=>by subst e;rw [A0] at hb7;cases hb7
  conv=>whnf
  refine K8 (A0 ..) rfl (by omega) rfl (by rfl) ?_
  rw [C5];conv=>whnf
  refine F7 (by rw [B1 h47];exact A0 ..) rfl (by omega) (by first | exact A6 .. | rfl) ?_;conv=>whnf
  refine B0 (p2 _) ?_;conv=>whnf
  intro b9 hb9
  have h79:b7≠b9:=fun e=>by subst e;rw [A0] at hb9;cases hb9
  conv=>whnf
  refine K8 (A0 ..) rfl (by omega) rfl (by rfl) ?_
  rw [C5];conv=>whnf
  refine B0 (B5c _) ?_;conv=>whnf
  refine F7 (by rw [B1 h79];exact A0 ..) rfl (by omega) (A6 ..) ?_;conv=>whnf
  refine F7 (A0 ..) rfl (by omega) (A6 ..) ?_;conv=>whnf
  refine B0 (p3 _) ?_;conv=>whnf
  rw [show (e==e)=true from beq_self_eq_true e]
  exact rfl
end Go.Proofs.YtbajhapmlfbelaaGreat
namespace Go.Ab
open Go Go.ChangeShapes
inductive LK where
 | bool
 | int (k:IntKind)
 | str
 | sl (ks:List LK)
def B0c (l:List AV):AV:=match l with | [v]=>v | l=>.agg l
inductive Fit:LK→AV→Prop
 | bool (b:Bool):Fit .bool (.bool b)
 | int (k:IntKind) (n:Int) (h:(Lit.int k n).wf=true):Fit (.int k) (.int k n)
 | str (s:ByteArray) (h:s.size≤maxLen):Fit .str (.str s)
 | sl (ks:List LK) (n:Nat) (L:Nat→List AV) (hn:n≤maxLen) (hl:∀ i,i<n→(L i).length=ks.length) (hf:∀ (i j:Nat) (y:AV) (k:LK),i<n→(L i)[j]?=some y→ks[j]?=some k→Fit k y):Fit (.sl ks) (.arr ks.length n fun i=>B0c (L i))
theorem Fit.one {k:LK} {v:AV} (h:Fit k v):v.one=true:=by cases h<;>rfl
theorem B6b {v:AV} (h:v.one=true):cellsOf v=[v]:=by cases v<;>first | rfl | cases h
theorem B0g {l:List AV} (h:∀ v∈l,v.one=true):cellsOf (B0c l)=l:=by
 unfold B0c
 split
 ·exact B6b (h _ (List.mem_singleton.2 rfl))
 ·rfl
theorem B7H (a:Addr) (n m:Nat):a.add (n+m)=(a.add n).add m:=by
 unfold Addr.add
 by_cases h:n=0
 ·subst h;simp
 ·by_cases k:m=0
  ·subst k;simp [h]
  ·simp [h,k,Nat.add_assoc]
def A7P (P:Program) (r:TypeId→Option (List LK)):List Field→Nat→Option (List LK)
 | [],_=>some []
 | f::fs,o=>match Nat.beq f.offset o,r f.type with
  | true,some ks=>(match Nat.beq (P.cellsOf f.type) ks.length,A7P P r fs (o+ks.length) with
   | true,some l=>some (ks++l)
   | _,_=>none)
  | _,_=>none
def A4J (P:Program):Nat→TypeId→Option (List LK)
 | 0,_=>none
 | n+1,t=>match P.underlying t with
  | some .bool=>some [.bool]
  | some (.int k)=>some [.int k]
  | some .string=>some [.str]
  | some (.slice e)=>(match A4J P n e with
   | some ks=>(match Nat.beq (P.cellsOf e) ks.length with | true=>some [.sl ks] | false=>none)
   | none=>none)
  | some (.struct fs)=>(match A7P P (A4J P n) fs.toList 0 with
   | some ks=>(match Nat.beq (P.cellsOf t) ks.length with | true=>some ks | false=>none)
   | none=>none)
  | _=>none
structure FitL (w:World) (ks:List LK) (l:List AV) (cs:List Value):Prop where
 len:l.length=ks.length
 clen:cs.length=ks.length
 fit:∀ (j:Nat) (y:AV) (k:LK),l[j]?=some y→ks[j]?=some k→Fit k y
 rep:∀ (j:Nat) (y:AV) (c:Value),l[j]?=some y→cs[j]?=some c→I1 w st0 y c
theorem FitL.one {w:World} {ks:List LK} {l:List AV} {cs:List Value} (h:FitL w ks l cs):∀ v∈l,v.one=true:=fun v hv=>by
 obtain ⟨j,hj,rfl⟩:=List.getElem_of_mem hv
 exact (h.fit j _ (ks[j]'(by rw [←h.len];exact hj)) (List.getElem?_eq_getElem hj) (List.getElem?_eq_getElem (by rw [←h.len];exact hj))).one
theorem FitL.nil (w:World):FitL w [] [] []:=⟨rfl,rfl,fun j y k h=>by simp at h,fun j y c h=>by simp at h⟩
theorem FitL.app {w:World} {ks ks':List LK} {l l':List AV} {cs cs':List Value} (h:FitL w ks l cs) (h':FitL w ks' l' cs'):FitL w (ks++ks') (l++l') (cs++cs'):=by
 have h1:=h.len;have h2:=h.clen;have h3:=h'.len;have h4:=h'.clen
 refine ⟨by simp [h1,h3],by simp [h2,h4],fun j y k hy hk=>?_,fun j y c hy hc=>?_⟩
 ·by_cases hj:j<l.length
  ·rw [List.getElem?_append_left hj] at hy;rw [List.getElem?_append_left (by omega)] at hk;exact h.fit j y k hy hk
  ·rw [List.getElem?_append_right (by omega)] at hy;rw [List.getElem?_append_right (by omega)] at hk
   rw [show j - l.length=j - ks.length by omega] at hy;exact h'.fit _ y k hy hk
 ·by_cases hj:j<l.length
  ·rw [List.getElem?_append_left hj] at hy;rw [List.getElem?_append_left (by omega)] at hc;exact h.rep j y c hy hc
  ·rw [List.getElem?_append_right (by omega)] at hy;rw [List.getElem?_append_right (by omega)] at hc
   rw [show j - l.length=j - cs.length by omega] at hy;exact h'.rep _ y c hy hc
theorem FitL.single {w:World} {k:LK} {v:AV} {c:Value} (h:Fit k v) (hr:I1 w st0 v c):FitL w [k] [v] [c] :=
 ⟨rfl,rfl,fun j y k' hy hk=>by cases j<;>simp at hy hk;subst hy;subst hk;exact h,fun j y c' hy hc=>by cases j<;>simp at hy hc;subst hy;subst hc;exact hr⟩
section
variable {H:Type} {enc:TypeId×Value→H} {P:Program} {w:World} {base:Nat} {spare:Nat→Bool} {held:Bool}
theorem A7r {n m:Nat} (ih:∀ (t:TypeId) (ks:List LK) (cs:List Value) (x:DataW H×List MemPlace),A4J P n t=some ks→DataW.trod enc P w base spare held m t cs=some x→∃ l,FitL w ks l cs) {cs:List Value} :
  ∀ (fs:List Field) (o:Nat) (ks:List LK),A7P P (A4J P n) fs o=some ks→(∀ f∈fs,∃ x,DataW.trod enc P w base spare held m f.type ((cs.drop f.offset).take (P.cellsOf f.type))=some x)→∃ l,FitL w ks l ((cs.drop o).take ks.length)
 | [],o,ks,h,_=>by cases h;exact ⟨[],by simpa using FitL.nil w⟩
 | f::fs,o,ks,h,hx=>by
  unfold A7P at h
  split at h
  ·rename_i k1 ho hk1
   split at h
   ·rename_i k2 hc hk2
    cases h
    have ho:=Nat.eq_of_beq_eq_true ho
    have hc:=Nat.eq_of_beq_eq_true hc
    obtain ⟨x,h1⟩:=hx f (List.mem_cons_self ..)
    rw [ho,hc] at h1
    obtain ⟨l1,g1⟩:=ih f.type k1 _ x hk1 h1
    obtain ⟨l2,g2⟩:=A7r ih fs (o+k1.length) k2 hk2 fun f' hf=>hx f' (List.mem_cons_of_mem _ hf)
    refine ⟨l1++l2,?_⟩
    have e:(cs.drop o).take (k1++k2).length=(cs.drop o).take k1.length++(cs.drop (o+k1.length)).take k2.length:=by
     rw [List.length_append,List.take_add,List.drop_drop]
    rw [e];exact g1.app g2
   ·cases h
  ·cases h
theorem open_kinds:∀ (n m:Nat) (t:TypeId) (ks:List LK) (cs:List Value) (x:DataW H×List MemPlace),A4J P n t=some ks→DataW.trod enc P w base spare held m t cs=some x→∃ l,FitL w ks l cs
 | 0,m,t,ks,cs,x,h,_=>by cases h
 | n+1,m,t,ks,cs,x,h,hx=>by
  unfold A4J at h
  split at h
  ·rename_i ht;cases h;obtain ⟨b,rfl,_⟩:=DataW.trod_bool ht hx;exact ⟨[.bool b],.single (.bool b) (.bool b)⟩
  ·rename_i k ht;cases h;obtain ⟨i,rfl,_,hw⟩:=DataW.trod_int ht hx;exact ⟨[.int k i],.single (.int k i hw) (.int k i)⟩
  ·rename_i ht;cases h;obtain ⟨s,rfl,_,hs⟩:=DataW.trod_string ht hx;exact ⟨[.str s],.single (.str s hs) (.str s)⟩
  ·rename_i e ht
   split at h
   case h_2=>cases h
   rename_i ks' hk
   split at h
   case h_2=>cases h
   rename_i hb
   cases h
   have hb:=Nat.eq_of_beq_eq_true hb
   rcases DataW.trod_slice ht hx with ⟨rfl,_⟩ | ⟨a,len,cap,elems,rest,m',rfl,rfl,_,hba,hl,hm,hlen,hel,_,_⟩
   ·exact ⟨[.arr ks'.length 0 (fun _=>B0c [])],.single (.sl ks' 0 (fun _=>[]) (Nat.zero_le _) (fun i hi=>absurd hi (by omega)) (fun i j y k hi=>absurd hi (by omega))) (.arr _ 0 _ none 0 (fun _ _=>undef) (Nat.le_refl _) (fun h=>absurd h (by omega)) (fun i hi=>absurd hi (by omega)) (fun i hi=>absurd hi (by omega)) (fun a ha=>by cases ha) (fun i j y hi=>absurd hi (by omega)))⟩
   ·have hall:∀ i,∃ p:List AV×List Value,i<len→w.cells? base (a.add (i * P.cellsOf e)) (P.cellsOf e)=some p.2∧FitL w ks' p.1 p.2:=fun i=>by
     by_cases hi:i<len
     ·have h1:=hel i hi
      rw [List.getElem?_eq_getElem (by omega),Option.bind_eq_some_iff] at h1
      obtain ⟨c1,h2,h3⟩:=h1
      obtain ⟨l,h4⟩:=open_kinds n m' e ks' c1 _ hk h3
      exact ⟨(l,c1),fun _=>⟨h2,h4⟩⟩
     ·exact ⟨([],[]),fun h=>absurd h hi⟩
    obtain ⟨p,hp⟩:=Classical.axiomOfChoice hall
    refine ⟨[.arr ks'.length len (fun i=>B0c (p i).1)],.single (.sl ks' len (fun i=>(p i).1) (by omega) (fun i hi=>(hp i hi).2.len) (fun i j y k hi=>(hp i hi).2.fit j y k)) ?_⟩
    have hc:∀ i,i<len→cellsOf (B0c (p i).1)=(p i).1:=fun i hi=>B0g (hp i hi).2.one
    refine .arr _ len _ (some a) cap (fun i j=>(p i).2.getD j undef) hl (fun _=>⟨a,rfl⟩) (fun i hi=>by rw [hc i hi];exact (hp i hi).2.len) (fun i hi=>by rw [hc i hi];exact List.all_eq_true.2 (hp i hi).2.one) (fun b hb' i j hi hj=>?_) (fun i j y hi hy=>?_)
    ·cases hb'
     have h5:=(World.cells?_some (hp i hi).1)
     have h6:=h5.2.2 j (by omega)
     have hj2:j<(p i).2.length:=by rw [(hp i hi).2.clen];exact hj
     show w.cell? _=_
     rw [List.getD_eq_getElem?_getD,List.getElem?_eq_getElem hj2,Option.getD_some]
     rw [List.getElem?_eq_getElem hj2] at h6
     rw [←h6,hb];show w.cell? _=w.cell? _;rw [B7H]
    ·rw [hc i hi] at hy
     have hj:j<(p i).1.length:=(List.getElem?_eq_some_iff.1 hy).1
     have hj2:j<(p i).2.length:=by rw [(hp i hi).2.clen,←(hp i hi).2.len];exact hj
     rw [List.getD_eq_getElem?_getD,List.getElem?_eq_getElem hj2,Option.getD_some]
     exact (hp i hi).2.rep j y _ hy (List.getElem?_eq_getElem hj2)
  ·rename_i fs ht
   split at h
   case h_2=>cases h
   rename_i ks' hk
   split at h
   case h_2=>cases h
   rename_i hb
   cases h
   have hb:=Nat.eq_of_beq_eq_true hb
   obtain ⟨xs,m',rfl,_,hlen,hxl,hf⟩:=DataW.trod_struct ht hx
   obtain ⟨l,hl⟩:=A7r (fun t ks cs x=>open_kinds n m' t ks cs x) (cs:=cs) fs.toList 0 ks hk fun f hfm=>by
    obtain ⟨i,hi,rfl⟩:=List.getElem_of_mem hfm
    have:=hf i fs[i] (by simp at hi;simp [hi])
    rw [List.getElem?_eq_getElem (by simp at hi;omega)] at this
    exact ⟨_,by simpa using this⟩
   refine ⟨l,?_⟩
   rw [List.drop_zero,List.take_of_length_le (by omega)] at hl
   exact hl
  ·cases h
end
end Go.Ab
namespace Go.Ab
open Go
abbrev A3M (ks:List LK) (L:List AV):Prop:=L.length=ks.length∧∀ (j:Nat) (y:AV) (k:LK),L[j]?=some y→ks[j]?=some k→Fit k y
abbrev A2W {α : Type} (ks:List LK) (enc : α→AV) (Q : α→Prop):Prop:=∀ L:List AV,A3M ks L→∃ x,D6 L (cellsOf (enc x))∧(cellsOf (enc x)).all AV.one=true∧Q x
theorem Fit.inv_str {y:AV} (h:Fit .str y):∃ s:D7,y=eS s∧s.size≤maxLen:=by cases h with | str s hs=>exact ⟨s,rfl,hs⟩
theorem Fit.inv_int {y:AV} (h:Fit (.int .i64) y):∃ n:Int,y=eI n∧(Lit.int .i64 n).wf=true:=by cases h with | int k n hn=>exact ⟨n,rfl,hn⟩
theorem Fit.inv_bool {y:AV} (h:Fit .bool y):∃ b:Bool,y=eB b:=by cases h with | bool b=>exact ⟨b,rfl⟩
theorem Fit.inv_sl {α : Type} [Inhabited α] {ks:List LK} {y:AV} {enc : α→AV} {Q : α→Prop} (hd:A2W ks enc Q) (h:Fit (.sl ks) y) :
  ∃ l:List α,Le y (B2 ks.length enc l)∧l.length≤maxLen∧∀ x∈l,Q x:=by
 cases h with
 | sl ks n L hn hl hf =>
  have h1:∀ i,∃ x,i<n→D6 (L i) (cellsOf (enc x))∧(cellsOf (enc x)).all AV.one=true∧Q x:=fun i=>by
   by_cases hi:i<n
   ·obtain ⟨x,hx⟩:=hd (L i) ⟨hl i hi,fun j y k=>hf i j y k hi⟩
    exact ⟨x,fun _=>hx⟩
   ·exact ⟨default,fun h=>absurd h hi⟩
  obtain ⟨g,hg⟩:=Classical.axiomOfChoice h1
  have hlen:((List.range n).map g).length=n:=by rw [List.length_map,List.length_range]
  refine ⟨(List.range n).map g,?_,by rw [hlen];exact hn,fun x hx=>?_⟩
  ·unfold B2
   rw [hlen]
   refine Le.arr fun i hi=>?_
   have e:((List.range n).map g).getD i default=g i:=by
    rw [List.getD_eq_getElem?_getD,List.getElem?_map,List.getElem?_range hi];rfl
   have one:∀ v∈L i,v.one=true:=fun v hv=>by
    obtain ⟨j,hj,rfl⟩:=List.getElem_of_mem hv
    exact (hf i j _ (ks[j]'(by rw [←hl i hi];exact hj)) hi (List.getElem?_eq_getElem hj) (List.getElem?_eq_getElem (by rw [←hl i hi];exact hj))).one
   rw [e,B0g one]
   exact ⟨(hg i hi).1,(hg i hi).2.1⟩
  ·obtain ⟨i,hi,rfl⟩:=List.mem_map.1 hx
   exact (hg i (List.mem_range.1 hi)).2.2
theorem FitL.slice {α : Type} [Inhabited α] {w:World} {ks:List LK} {l:List AV} {c:Value} {enc : α→AV} {Q : α→Prop} (hd:A2W ks enc Q) (h:FitL w [.sl ks] l [c]) :
  ∃ x:List α,I1 w st0 (B2 ks.length enc x) c∧x.length≤maxLen∧∀ y∈x,Q y:=by
 obtain ⟨y,rfl⟩:=List.length_eq_one_iff.1 h.len
 obtain ⟨x,h1,h2,h3⟩:=(h.fit 0 y (.sl ks) rfl rfl).inv_sl hd
 exact ⟨x,h1 _ _ _ (h.rep 0 y c rfl rfl),h2,h3⟩
theorem C6J {k0 k1 k2:LK} {L:List AV} (h:A3M [k0,k1,k2] L):∃ a b c,L=[a,b,c]∧Fit k0 a∧Fit k1 b∧Fit k2 c:=by
 obtain ⟨h1,h2⟩:=h
 match L,h1 with
 | [a,b,c],_=>exact ⟨a,b,c,rfl,h2 0 _ _ rfl rfl,h2 1 _ _ rfl rfl,h2 2 _ _ rfl rfl⟩
abbrev kLine:List LK:=[.str,.int .i64,.int .i64]
theorem decLine:A2W kLine I9 fun _=>True:=fun L h=>by
 obtain ⟨a,b,c,rfl,ha,hb,hc⟩:=C6J h
 obtain ⟨a,rfl,_⟩:=ha.inv_str
 obtain ⟨b,rfl,_⟩:=hb.inv_int
 obtain ⟨c,rfl,_⟩:=hc.inv_int
 exact ⟨⟨a,b,c⟩,D6.refl _,rfl,trivial⟩
theorem B8j {k0:LK} {L:List AV} (h:A3M [k0] L):∃ x0,L=[x0]∧Fit k0 x0:=by
 obtain ⟨h1,h2⟩:=h
 match L,h1 with
 | [x0],_=>exact ⟨x0,rfl,h2 0 _ _ rfl rfl⟩
theorem C1O {k0 k1:LK} {L:List AV} (h:A3M [k0,k1] L):∃ x0 x1,L=[x0,x1]∧Fit k0 x0∧Fit k1 x1:=by
 obtain ⟨h1,h2⟩:=h
 match L,h1 with
 | [x0,x1],_=>exact ⟨x0,x1,rfl,h2 0 _ _ rfl rfl,h2 1 _ _ rfl rfl⟩
theorem B8m {k0 k1 k2:LK} {L:List AV} (h:A3M [k0,k1,k2] L):∃ x0 x1 x2,L=[x0,x1,x2]∧Fit k0 x0∧Fit k1 x1∧Fit k2 x2:=by
 obtain ⟨h1,h2⟩:=h
 match L,h1 with
 | [x0,x1,x2],_=>exact ⟨x0,x1,x2,rfl,h2 0 _ _ rfl rfl,h2 1 _ _ rfl rfl,h2 2 _ _ rfl rfl⟩
theorem B5o {k0 k1 k2 k3:LK} {L:List AV} (h:A3M [k0,k1,k2,k3] L):∃ x0 x1 x2 x3,L=[x0,x1,x2,x3]∧Fit k0 x0∧Fit k1 x1∧Fit k2 x2∧Fit k3 x3:=by
 obtain ⟨h1,h2⟩:=h
 match L,h1 with
 | [x0,x1,x2,x3],_=>exact ⟨x0,x1,x2,x3,rfl,h2 0 _ _ rfl rfl,h2 1 _ _ rfl rfl,h2 2 _ _ rfl rfl,h2 3 _ _ rfl rfl⟩
theorem B8k {k0 k1 k2 k3 k4 k5 k6 k7 k8 k9 k10 k11 k12 k13:LK} {L:List AV} (h:A3M [k0,k1,k2,k3,k4,k5,k6,k7,k8,k9,k10,k11,k12,k13] L):∃ x0 x1 x2 x3 x4 x5 x6 x7 x8 x9 x10 x11 x12 x13,L=[x0,x1,x2,x3,x4,x5,x6,x7,x8,x9,x10,x11,x12,x13]∧Fit k0 x0∧Fit k1 x1∧Fit k2 x2∧Fit k3 x3∧Fit k4 x4∧Fit k5 x5∧Fit k6 x6∧Fit k7 x7∧Fit k8 x8∧Fit k9 x9∧Fit k10 x10∧Fit k11 x11∧Fit k12 x12∧Fit k13 x13:=by
 obtain ⟨h1,h2⟩:=h
 match L,h1 with
 | [x0,x1,x2,x3,x4,x5,x6,x7,x8,x9,x10,x11,x12,x13],_=>exact ⟨x0,x1,x2,x3,x4,x5,x6,x7,x8,x9,x10,x11,x12,x13,rfl,h2 0 _ _ rfl rfl,h2 1 _ _ rfl rfl,h2 2 _ _ rfl rfl,h2 3 _ _ rfl rfl,h2 4 _ _ rfl rfl,h2 5 _ _ rfl rfl,h2 6 _ _ rfl rfl,h2 7 _ _ rfl rfl,h2 8 _ _ rfl rfl,h2 9 _ _ rfl rfl,h2 10 _ _ rfl rfl,h2 11 _ _ rfl rfl,h2 12 _ _ rfl rfl,h2 13 _ _ rfl rfl⟩
theorem B8l {k0 k1 k2 k3 k4 k5 k6 k7 k8 k9 k10 k11 k12 k13 k14:LK} {L:List AV} (h:A3M [k0,k1,k2,k3,k4,k5,k6,k7,k8,k9,k10,k11,k12,k13,k14] L):∃ x0 x1 x2 x3 x4 x5 x6 x7 x8 x9 x10 x11 x12 x13 x14,L=[x0,x1,x2,x3,x4,x5,x6,x7,x8,x9,x10,x11,x12,x13,x14]∧Fit k0 x0∧Fit k1 x1∧Fit k2 x2∧Fit k3 x3∧Fit k4 x4∧Fit k5 x5∧Fit k6 x6∧Fit k7 x7∧Fit k8 x8∧Fit k9 x9∧Fit k10 x10∧Fit k11 x11∧Fit k12 x12∧Fit k13 x13∧Fit k14 x14:=by
 obtain ⟨h1,h2⟩:=h
 match L,h1 with
 | [x0,x1,x2,x3,x4,x5,x6,x7,x8,x9,x10,x11,x12,x13,x14],_=>exact ⟨x0,x1,x2,x3,x4,x5,x6,x7,x8,x9,x10,x11,x12,x13,x14,rfl,h2 0 _ _ rfl rfl,h2 1 _ _ rfl rfl,h2 2 _ _ rfl rfl,h2 3 _ _ rfl rfl,h2 4 _ _ rfl rfl,h2 5 _ _ rfl rfl,h2 6 _ _ rfl rfl,h2 7 _ _ rfl rfl,h2 8 _ _ rfl rfl,h2 9 _ _ rfl rfl,h2 10 _ _ rfl rfl,h2 11 _ _ rfl rfl,h2 12 _ _ rfl rfl,h2 13 _ _ rfl rfl,h2 14 _ _ rfl rfl⟩
abbrev QT {α : Type} (_ : α):Prop:=True
abbrev kStr:List LK:=[.str]
theorem B0Z:A2W kStr eS QT:=fun L h=>by
 obtain ⟨a,rfl,ha⟩:=B8j h
 obtain ⟨a,rfl,_⟩:=ha.inv_str
 exact ⟨a,D6.refl _,rfl,trivial⟩
abbrev C2y:List LK:=[.int .i64]
theorem B0Y:A2W C2y eI QT:=fun L h=>by
 obtain ⟨a,rfl,ha⟩:=B8j h
 obtain ⟨a,rfl,_⟩:=ha.inv_int
 exact ⟨a,D6.refl _,rfl,trivial⟩
abbrev C1Q:List LK:=[.int .i64,.int .i64,.int .i64]
theorem B5k:A2W C1Q O5 QT:=fun L h=>by
 obtain ⟨a0,a1,a2,rfl,h0,h1,h2⟩:=B8m h
 obtain ⟨a0,rfl,_⟩:=h0.inv_int
 obtain ⟨a1,rfl,_⟩:=h1.inv_int
 obtain ⟨a2,rfl,_⟩:=h2.inv_int
 exact ⟨⟨a0,a1,a2⟩,D6.cons (Le.refl _) (D6.cons (Le.refl _) (D6.cons (Le.refl _) (D6.nil))),rfl,trivial⟩
abbrev B8u:List LK:=[.sl kStr,.sl kStr,.int .i64]
theorem C0t:A2W B8u Q4 QT:=fun L h=>by
 obtain ⟨a0,a1,a2,rfl,h0,h1,h2⟩:=B8m h
 obtain ⟨b0,e0,_,_⟩:=h0.inv_sl B0Z
 obtain ⟨b1,e1,_,_⟩:=h1.inv_sl B0Z
 obtain ⟨a2,rfl,_⟩:=h2.inv_int
 exact ⟨⟨⟨b0,b1⟩,a2⟩,D6.cons (e0) (D6.cons (e1) (D6.cons (Le.refl _) (D6.nil))),rfl,trivial⟩
abbrev B8t:List LK:=[.str,.str,.int .i64,.bool]
theorem C0s:A2W B8t F4 QT:=fun L h=>by
 obtain ⟨a0,a1,a2,a3,rfl,h0,h1,h2,h3⟩:=B5o h
 obtain ⟨a0,rfl,_⟩:=h0.inv_str
 obtain ⟨a1,rfl,_⟩:=h1.inv_str
 obtain ⟨a2,rfl,_⟩:=h2.inv_int
 obtain ⟨a3,rfl⟩:=h3.inv_bool
 exact ⟨⟨a0,a1,a2,a3⟩,D6.cons (Le.refl _) (D6.cons (Le.refl _) (D6.cons (Le.refl _) (D6.cons (Le.refl _) (D6.nil)))),rfl,trivial⟩
abbrev A8v:List LK:=[.str,.int .i64]
theorem B3X:A2W A8v A1K QT:=fun L h=>by
 obtain ⟨a0,a1,rfl,h0,h1⟩:=C1O h
 obtain ⟨a0,rfl,_⟩:=h0.inv_str
 obtain ⟨a1,rfl,_⟩:=h1.inv_int
 exact ⟨⟨a0,a1⟩,D6.cons (Le.refl _) (D6.cons (Le.refl _) (D6.nil)),rfl,trivial⟩
abbrev B8v:List LK:=[.str,.sl A8v,.int .i64,.int .i64]
theorem C0u:A2W B8v A1L QT:=fun L h=>by
 obtain ⟨a0,a1,a2,a3,rfl,h0,h1,h2,h3⟩:=B5o h
 obtain ⟨a0,rfl,_⟩:=h0.inv_str
 obtain ⟨b1,e1,_,_⟩:=h1.inv_sl B3X
 obtain ⟨a2,rfl,_⟩:=h2.inv_int
 obtain ⟨a3,rfl,_⟩:=h3.inv_int
 exact ⟨⟨a0,b1,a2,a3⟩,D6.cons (Le.refl _) (D6.cons (e1) (D6.cons (Le.refl _) (D6.cons (Le.refl _) (D6.nil)))),rfl,trivial⟩
abbrev B4h:List LK:=[.str,.int .i64,.int .i64,.str,.str,.bool,.sl kStr,.sl kStr,.int .i64,.int .i64,.int .i64,.int .i64,.int .i64,.sl B8u,.sl C1Q]
theorem B8b:A2W B4h B7 QT:=fun L h=>by
 obtain ⟨a0,a1,a2,a3,a4,a5,a6,a7,a8,a9,a10,a11,a12,a13,a14,rfl,h0,h1,h2,h3,h4,h5,h6,h7,h8,h9,h10,h11,h12,h13,h14⟩:=B8l h
 obtain ⟨a0,rfl,_⟩:=h0.inv_str
 obtain ⟨a1,rfl,_⟩:=h1.inv_int
 obtain ⟨a2,rfl,_⟩:=h2.inv_int
 obtain ⟨a3,rfl,_⟩:=h3.inv_str
 obtain ⟨a4,rfl,_⟩:=h4.inv_str
 obtain ⟨a5,rfl⟩:=h5.inv_bool
 obtain ⟨b6,e6,_,_⟩:=h6.inv_sl B0Z
 obtain ⟨b7,e7,_,_⟩:=h7.inv_sl B0Z
 obtain ⟨a8,rfl,_⟩:=h8.inv_int
 obtain ⟨a9,rfl,_⟩:=h9.inv_int
 obtain ⟨a10,rfl,_⟩:=h10.inv_int
 obtain ⟨a11,rfl,_⟩:=h11.inv_int
 obtain ⟨a12,rfl,_⟩:=h12.inv_int
 obtain ⟨b13,e13,_,_⟩:=h13.inv_sl C0t
 obtain ⟨b14,e14,_,_⟩:=h14.inv_sl B5k
 exact ⟨⟨a0,a1,a2,a3,a4,a5,⟨b6,b7⟩,a8,a9,a10,a11,a12,b13,b14⟩,D6.cons (Le.refl _) (D6.cons (Le.refl _) (D6.cons (Le.refl _) (D6.cons (Le.refl _) (D6.cons (Le.refl _) (D6.cons (Le.refl _) (D6.cons (e6) (D6.cons (e7) (D6.cons (Le.refl _) (D6.cons (Le.refl _) (D6.cons (Le.refl _) (D6.cons (Le.refl _) (D6.cons (Le.refl _) (D6.cons (e13) (D6.cons (e14) (D6.nil))))))))))))))),rfl,trivial⟩
abbrev kRules:List LK:=[.sl B8t,.sl B4h,.bool,.bool,.int .i64,.sl B8v,.int .i64,.int .i64,.int .i64,.int .i64,.int .i64,.int .i64,.sl C2y,.sl C2y]
theorem B8c:A2W kRules J6 QT:=fun L h=>by
 obtain ⟨a0,a1,a2,a3,a4,a5,a6,a7,a8,a9,a10,a11,a12,a13,rfl,h0,h1,h2,h3,h4,h5,h6,h7,h8,h9,h10,h11,h12,h13⟩:=B8k h
 obtain ⟨b0,e0,_,_⟩:=h0.inv_sl C0s
 obtain ⟨b1,e1,_,_⟩:=h1.inv_sl B8b
 obtain ⟨a2,rfl⟩:=h2.inv_bool
 obtain ⟨a3,rfl⟩:=h3.inv_bool
 obtain ⟨a4,rfl,_⟩:=h4.inv_int
 obtain ⟨b5,e5,_,_⟩:=h5.inv_sl C0u
 obtain ⟨a6,rfl,_⟩:=h6.inv_int
 obtain ⟨a7,rfl,_⟩:=h7.inv_int
 obtain ⟨a8,rfl,_⟩:=h8.inv_int
 obtain ⟨a9,rfl,_⟩:=h9.inv_int
 obtain ⟨a10,rfl,_⟩:=h10.inv_int
 obtain ⟨a11,rfl,_⟩:=h11.inv_int
 obtain ⟨b12,e12,_,_⟩:=h12.inv_sl B0Y
 obtain ⟨b13,e13,_,_⟩:=h13.inv_sl B0Y
 exact ⟨⟨b0,b1,⟨a2,a3,a4,b5⟩,⟨a6,a7⟩,⟨a8,a9,a10,a11,b12,b13⟩⟩,D6.cons (e0) (D6.cons (e1) (D6.cons (Le.refl _) (D6.cons (Le.refl _) (D6.cons (Le.refl _) (D6.cons (e5) (D6.cons (Le.refl _) (D6.cons (Le.refl _) (D6.cons (Le.refl _) (D6.cons (Le.refl _) (D6.cons (Le.refl _) (D6.cons (Le.refl _) (D6.cons (e12) (D6.cons (e13) (D6.nil)))))))))))))),rfl,trivial⟩
theorem FitL.rules {w:World} {l:List AV} {cs:List Value} (h:FitL w kRules l cs):∃ r:I6,I1 w st0 (J6 r) (.agg cs.toArray):=by
 obtain ⟨r,h1,_,_⟩:=B8c l ⟨h.len,h.fit⟩
 refine ⟨r,?_⟩
 have h0:I1 w st0 (.agg l) (.agg cs.toArray):=.agg _ _ (by rw [h.len,←h.clen];simp) fun j y c hy hc=>h.rep j y c hy (by simpa using hc)
 exact (Le.agg h1) _ _ _ h0
end Go.Ab
namespace Go.Ab
open Go Go.Proofs.YtbajhapmlfbelaaGreat
theorem decStrQ:A2W kStr eS (fun s=>Sm s.size):=fun L h=>by
 obtain ⟨a,rfl,ha⟩:=B8j h
 obtain ⟨a,rfl,hs⟩:=ha.inv_str
 exact ⟨a,D6.refl _,rfl,Nat.le_trans hs (by decide)⟩
theorem B8a:A2W B8u Q4 (fun x=>A0l x.scope):=fun L h=>by
 obtain ⟨a0,a1,a2,rfl,h0,h1,h2⟩:=B8m h
 obtain ⟨b0,e0,n0,q0⟩:=h0.inv_sl decStrQ
 obtain ⟨b1,e1,n1,q1⟩:=h1.inv_sl decStrQ
 obtain ⟨a2,rfl,_⟩:=h2.inv_int
 exact ⟨⟨⟨b0,b1⟩,a2⟩,D6.cons (e0) (D6.cons (e1) (D6.cons (Le.refl _) (D6.nil))),rfl,⟨(Nat.le_trans n0 (by decide)),(Nat.le_trans n1 (by decide)),q0,q1⟩⟩
theorem B7Z:A2W B8t F4 (fun x=>Sm x.sku.size∧Sm x.cat.size):=fun L h=>by
 obtain ⟨a0,a1,a2,a3,rfl,h0,h1,h2,h3⟩:=B5o h
 obtain ⟨a0,rfl,q0⟩:=h0.inv_str
 obtain ⟨a1,rfl,q1⟩:=h1.inv_str
 obtain ⟨a2,rfl,_⟩:=h2.inv_int
 obtain ⟨a3,rfl⟩:=h3.inv_bool
 exact ⟨⟨a0,a1,a2,a3⟩,D6.cons (Le.refl _) (D6.cons (Le.refl _) (D6.cons (Le.refl _) (D6.cons (Le.refl _) (D6.nil)))),rfl,(Nat.le_trans q0 (by decide)),(Nat.le_trans q1 (by decide))⟩
theorem B2q:A2W A8v A1K (fun x=>Sm x.cat.size):=fun L h=>by
 obtain ⟨a0,a1,rfl,h0,h1⟩:=C1O h
 obtain ⟨a0,rfl,q0⟩:=h0.inv_str
 obtain ⟨a1,rfl,_⟩:=h1.inv_int
 exact ⟨⟨a0,a1⟩,D6.cons (Le.refl _) (D6.cons (Le.refl _) (D6.nil)),rfl,(Nat.le_trans q0 (by decide))⟩
theorem B8d:A2W B8v A1L (fun z=>B0O z):=fun L h=>by
 obtain ⟨a0,a1,a2,a3,rfl,h0,h1,h2,h3⟩:=B5o h
 obtain ⟨a0,rfl,q0⟩:=h0.inv_str
 obtain ⟨b1,e1,n1,q1⟩:=h1.inv_sl B2q
 obtain ⟨a2,rfl,_⟩:=h2.inv_int
 obtain ⟨a3,rfl,_⟩:=h3.inv_int
 exact ⟨⟨a0,b1,a2,a3⟩,D6.cons (Le.refl _) (D6.cons (e1) (D6.cons (Le.refl _) (D6.cons (Le.refl _) (D6.nil)))),rfl,⟨(Nat.le_trans n1 (by decide)),(Nat.le_trans q0 (by decide)),q1⟩⟩
theorem B6g:A2W B4h B7 (fun p=>A0k p):=fun L h=>by
 obtain ⟨a0,a1,a2,a3,a4,a5,a6,a7,a8,a9,a10,a11,a12,a13,a14,rfl,h0,h1,h2,h3,h4,h5,h6,h7,h8,h9,h10,h11,h12,h13,h14⟩:=B8l h
 obtain ⟨a0,rfl,q0⟩:=h0.inv_str
 obtain ⟨a1,rfl,_⟩:=h1.inv_int
 obtain ⟨a2,rfl,_⟩:=h2.inv_int
 obtain ⟨a3,rfl,q3⟩:=h3.inv_str
 obtain ⟨a4,rfl,q4⟩:=h4.inv_str
 obtain ⟨a5,rfl⟩:=h5.inv_bool
 obtain ⟨b6,e6,n6,q6⟩:=h6.inv_sl decStrQ
 obtain ⟨b7,e7,n7,q7⟩:=h7.inv_sl decStrQ
 obtain ⟨a8,rfl,_⟩:=h8.inv_int
 obtain ⟨a9,rfl,_⟩:=h9.inv_int
 obtain ⟨a10,rfl,_⟩:=h10.inv_int
 obtain ⟨a11,rfl,_⟩:=h11.inv_int
 obtain ⟨a12,rfl,_⟩:=h12.inv_int
 obtain ⟨b13,e13,n13,q13⟩:=h13.inv_sl B8a
 obtain ⟨b14,e14,n14,_⟩:=h14.inv_sl B5k
 exact ⟨⟨a0,a1,a2,a3,a4,a5,⟨b6,b7⟩,a8,a9,a10,a11,a12,b13,b14⟩,D6.cons (Le.refl _) (D6.cons (Le.refl _) (D6.cons (Le.refl _) (D6.cons (Le.refl _) (D6.cons (Le.refl _) (D6.cons (Le.refl _) (D6.cons (e6) (D6.cons (e7) (D6.cons (Le.refl _) (D6.cons (Le.refl _) (D6.cons (Le.refl _) (D6.cons (Le.refl _) (D6.cons (Le.refl _) (D6.cons (e13) (D6.cons (e14) (D6.nil))))))))))))))),rfl,⟨(Nat.le_trans q0 (by decide)),(Nat.le_trans q3 (by decide)),(Nat.le_trans q4 (by decide)),⟨(Nat.le_trans n6 (by decide)),(Nat.le_trans n7 (by decide)),q6,q7⟩,(Nat.le_trans n13 (by decide)),q13,(Nat.le_trans n14 (by decide))⟩⟩
theorem B6h:A2W kRules J6 (fun r=>Y7 r):=fun L h=>by
 obtain ⟨a0,a1,a2,a3,a4,a5,a6,a7,a8,a9,a10,a11,a12,a13,rfl,h0,h1,h2,h3,h4,h5,h6,h7,h8,h9,h10,h11,h12,h13⟩:=B8k h
 obtain ⟨b0,e0,n0,q0⟩:=h0.inv_sl B7Z
 obtain ⟨b1,e1,n1,q1⟩:=h1.inv_sl B6g
 obtain ⟨a2,rfl⟩:=h2.inv_bool
 obtain ⟨a3,rfl⟩:=h3.inv_bool
 obtain ⟨a4,rfl,_⟩:=h4.inv_int
 obtain ⟨b5,e5,n5,q5⟩:=h5.inv_sl B8d
 obtain ⟨a6,rfl,_⟩:=h6.inv_int
 obtain ⟨a7,rfl,_⟩:=h7.inv_int
 obtain ⟨a8,rfl,_⟩:=h8.inv_int
 obtain ⟨a9,rfl,_⟩:=h9.inv_int
 obtain ⟨a10,rfl,_⟩:=h10.inv_int
 obtain ⟨a11,rfl,_⟩:=h11.inv_int
 obtain ⟨b12,e12,n12,_⟩:=h12.inv_sl B0Y
 obtain ⟨b13,e13,n13,_⟩:=h13.inv_sl B0Y
 exact ⟨⟨b0,b1,⟨a2,a3,a4,b5⟩,⟨a6,a7⟩,⟨a8,a9,a10,a11,b12,b13⟩⟩,D6.cons (e0) (D6.cons (e1) (D6.cons (Le.refl _) (D6.cons (Le.refl _) (D6.cons (Le.refl _) (D6.cons (e5) (D6.cons (Le.refl _) (D6.cons (Le.refl _) (D6.cons (Le.refl _) (D6.cons (Le.refl _) (D6.cons (Le.refl _) (D6.cons (Le.refl _) (D6.cons (e12) (D6.cons (e13) (D6.nil)))))))))))))),rfl,⟨(Nat.le_trans n0 (by decide)),q0,q1,⟨(Nat.le_trans n5 (by decide)),q5⟩,(Nat.le_trans n12 (by decide)),(Nat.le_trans n13 (by decide))⟩⟩
theorem FitL.rulesQ {w:World} {l:List AV} {cs:List Value} (h:FitL w kRules l cs):∃ r:I6,I1 w st0 (J6 r) (.agg cs.toArray)∧Y7 r:=by
 obtain ⟨r,h1,_,hq⟩:=B6h l ⟨h.len,h.fit⟩
 refine ⟨r,?_,hq⟩
 have h0:I1 w st0 (.agg l) (.agg cs.toArray):=.agg _ _ (by rw [h.len,←h.clen];simp) fun j y c hy hc=>h.rep j y c hy (by simpa using hc)
 exact (Le.agg h1) _ _ _ h0
end Go.Ab
namespace Go.Ab
open Go
theorem an {a b:Bool} (h:a=true) (k:b=true):(a&&b)=true:=by rw [h,k];rfl
def kindsFit (P:Program) (fn:Func) (c:OpenClaim):Bool:=(c.kinds==(if c.domain.isEmpty then [] else fn.params.toList.map fun t=>match P.underlying t with | some (.int k)=>some k | _=>none))
theorem joined_of {P:Program} {f:FuncId} {fn:Func} {s:ChangeSpec} {c:OpenClaim} (h1:(c.wf (OpenSpec.ofChange s))=true) (h2:(laidOutB P)=true) (h3:(mapsRowed P)=true) (h4:(fn.params.all (P.readableRec ·))=true) (h5:(namedTie P c.named s.vars)=true) (h6:(c.stops==[])=true) (h7:(P.stops==[])=true) (h8:(c.knobs==[])=true) (h9:(P.stopKnobs==[])=true) (h10:(c.inPlace==P.inPlace f)=true) (h11:(c.unfollowed==P.unfollowed f)=true) (h12:(c.recurses==P.recurses f)=true) (h13:(c.named==P.varsNamed f)=true) (h14:(c.maps==(fn.params.toList++s.plain.varTypes P).any (P.mapsRec ·))=true) (h15:(c.ifaces==(fn.params.toList++s.plain.varTypes P).any (P.ifacesRec ·))=true) (h16:(c.mapsOut==P.mapsAmong fn.resultTypes.toList)=true) (h17:(c.loops==(fn.params.toList++s.plain.varTypes P).any (P.loopsFrom ·))=true) (h18:(c.wideKeys==(fn.params.toList++s.plain.varTypes P++fn.resultTypes.toList).any (P.wideKeysFrom ·))=true) (h19:(s.vars.all (P.varReadable ·))=true) (h20:(fn.resultTypes.all (fun t=>P.readableRec t&&decide (t<P.types.size)))=true) (h21:(c.ifacesOut==fn.resultTypes.toList.any (P.ifacesRec ·))=true) (h22:(c.loopsOut==fn.resultTypes.toList.any (P.loopsFrom ·))=true) (h23:(c.plainKeys==P.plainKeys)=true) (h24:c.shortTexts.isNone=true) (h25:P.stopsHeard=true) (h26:P.mayEnter=true) (h27:(c.lifted==P.liftsFinal)=true) (h28:(P.make==some c.make)=true) (h29:kindsFit P fn c=true) (h30:(c.pinned==c.pinnedBy)=true) (h31:(c.veiled==(fn.params.toList++s.plain.varTypes P++fn.resultTypes.toList).any (P.veiledRec ·))=true) (h32:(c.veiledFits P fn.params.toList (fn.params.toList++s.plain.varTypes P++fn.resultTypes.toList))=true):joinedFacts P f fn s c=true:=an (an (an (an (an (an (an (an (an (an (an (an (an (an (an (an (an (an (an (an (an (an (an (an (an (an (an (an (an (an (an (h1) h2) h3) h4) h5) h6) h7) h8) h9) h10) h11) h12) h13) h14) h15) h16) h17) h18) h19) h20) h21) h22) h23) h24) h25) h26) h27) h28) h29) h30) h31) h32
end Go.Ab
namespace Go.Proofs.YtbajhapmlfbelaaGreat.closed
open Go
theorem p2:(laidOutB Tryz.prog)=true:=by kernel_rfl
theorem p3:(mapsRowed Tryz.prog)=true:=by kernel_rfl
theorem p7:(Tryz.prog.stops==[])=true:=by kernel_rfl
theorem p9:(Tryz.prog.stopKnobs==[])=true:=by kernel_rfl
theorem p25:(Tryz.prog.stopsHeard)=true:=by kernel_rfl
theorem p26:(Tryz.prog.mayEnter)=true:=by kernel_rfl
end Go.Proofs.YtbajhapmlfbelaaGreat.closed
namespace Go.Proofs.YtbajhapmlfbelaaGreat.priceRaw
open Go.ChangeShapes Go.WideShapes Go.ChangeAt Go.RowKit
open Go.ChangeMaps (open_string shut_string)
theorem c1:(Rows.priceRawRow.wf (OpenSpec.ofChange Rows.priceRawSpec))=true:=by kernel_rfl
theorem c4:(Tryz.f3.params.all (Tryz.prog.readableRec ·))=true:=by kernel_rfl
theorem c5:(namedTie Tryz.prog Rows.priceRawRow.named Rows.priceRawSpec.vars)=true:=by kernel_rfl
theorem c6:((Rows.priceRawRow.stops==[]))=true:=by kernel_rfl
theorem c8:((Rows.priceRawRow.knobs==[]))=true:=by kernel_rfl
theorem c10:((Rows.priceRawRow.inPlace==Tryz.prog.inPlace 3))=true:=by kernel_rfl
theorem c11:((Rows.priceRawRow.unfollowed==Tryz.prog.unfollowed 3))=true:=by kernel_rfl
theorem c12:((Rows.priceRawRow.recurses==Tryz.prog.recurses 3))=true:=by kernel_rfl
theorem c13:((Rows.priceRawRow.named==Tryz.prog.varsNamed 3))=true:=by kernel_rfl
theorem c14:((Rows.priceRawRow.maps==(Tryz.f3.params.toList++Rows.priceRawSpec.plain.varTypes Tryz.prog).any (Tryz.prog.mapsRec ·)))=true:=by kernel_rfl
theorem c15:((Rows.priceRawRow.ifaces==(Tryz.f3.params.toList++Rows.priceRawSpec.plain.varTypes Tryz.prog).any (Tryz.prog.ifacesRec ·)))=true:=by kernel_rfl
theorem c16:((Rows.priceRawRow.mapsOut==Tryz.prog.mapsAmong Tryz.f3.resultTypes.toList))=true:=by kernel_rfl
theorem c17:((Rows.priceRawRow.loops==(Tryz.f3.params.toList++Rows.priceRawSpec.plain.varTypes Tryz.prog).any (Tryz.prog.loopsFrom ·)))=true:=by kernel_rfl
theorem c18:((Rows.priceRawRow.wideKeys==(Tryz.f3.params.toList++Rows.priceRawSpec.plain.varTypes Tryz.prog++Tryz.f3.resultTypes.toList).any (Tryz.prog.wideKeysFrom ·)))=true:=by kernel_rfl
theorem c19:(Rows.priceRawSpec.vars.all (Tryz.prog.varReadable ·))=true:=by kernel_rfl
theorem c20:(Tryz.f3.resultTypes.all (fun t=>Tryz.prog.readableRec t&&decide (t<Tryz.prog.types.size)))=true:=by kernel_rfl
theorem c21:((Rows.priceRawRow.ifacesOut==Tryz.f3.resultTypes.toList.any (Tryz.prog.ifacesRec ·)))=true:=by kernel_rfl
theorem c22:((Rows.priceRawRow.loopsOut==Tryz.f3.resultTypes.toList.any (Tryz.prog.loopsFrom ·)))=true:=by kernel_rfl
theorem c23:((Rows.priceRawRow.plainKeys==Tryz.prog.plainKeys))=true:=by kernel_rfl
theorem c24:(Rows.priceRawRow.shortTexts.isNone)=true:=by kernel_rfl
theorem c27:((Rows.priceRawRow.lifted==Tryz.prog.liftsFinal))=true:=by kernel_rfl
theorem c28:((Tryz.prog.make==some Rows.priceRawRow.make))=true:=by kernel_rfl
theorem c29:Ab.kindsFit Tryz.prog Tryz.f3 Rows.priceRawRow=true:=by kernel_rfl
theorem c30:((Rows.priceRawRow.pinned==Rows.priceRawRow.pinnedBy))=true:=by kernel_rfl
theorem c31:((Rows.priceRawRow.veiled==(Tryz.f3.params.toList++Rows.priceRawSpec.plain.varTypes Tryz.prog++Tryz.f3.resultTypes.toList).any (Tryz.prog.veiledRec ·)))=true:=by kernel_rfl
theorem c32:(Rows.priceRawRow.veiledFits Tryz.prog Tryz.f3.params.toList (Tryz.f3.params.toList++Rows.priceRawSpec.plain.varTypes Tryz.prog++Tryz.f3.resultTypes.toList))=true:=by kernel_rfl
theorem B6c:joinedFacts Tryz.prog 3 Tryz.f3 Rows.priceRawSpec Rows.priceRawRow=true:=Ab.joined_of c1 closed.p2 closed.p3 c4 c5 c6 closed.p7 c8 closed.p9 c10 c11 c12 c13 c14 c15 c16 c17 c18 c19 c20 c21 c22 c23 c24 closed.p25 closed.p26 c27 c28 c29 c30 c31 c32
theorem own:ownKnob Tryz.prog.godebug=none:=by kernel_rfl
theorem B1h:laidOutB Tryz.prog=true:=closed.p2
theorem C7y (c0:Array Value) (c1:Value) (c2:Value) (a3:Int) (w:World) (l0 l1 l2:List Ab.AV) (h0:Ab.FitL w Ab.kRules l0 c0.toList) (h1:Ab.FitL w [.sl Ab.kStr] l1 [c1]) (h2:Ab.FitL w [.sl Ab.kLine] l2 [c2]) :
  Calls Tryz.prog 3 #[.agg c0,c1,c2,.int .i64 a3] w fun e w'=>e=.returned (.bool true)∧Below w.heap.size w w':=by
 obtain ⟨x0,r0,q0⟩:=h0.rulesQ
 obtain ⟨x1,r1,n1,q1⟩:=h1.slice Ab.decStrQ
 obtain ⟨x2,r2,n2,_⟩:=h2.slice Ab.decLine
 refine Ab.law_of_S (B4v x0 x1 x2 a3 q0 (Nat.le_trans n1 (by decide)) q1 (Nat.le_trans n2 (by decide)) Ab.st0) ⟨rfl,fun j y c hy hc=>?_⟩
 match j with
 | 0=>cases hy;cases hc;exact r0
 | 1=>cases hy;cases hc;exact r1
 | 2=>cases hy;cases hc;exact r2
 | 3=>cases hy;cases hc;exact .int _ _
 | j+4=>cases hy
set_option maxRecDepth 100000 in
theorem lifted (os:Os) (started:os.Started) (H:Type) (enc:TypeId×Value→H) :
  ReturnsInHanded {} Tryz.checked os 3 .any (Rows.priceRawSpec.pre6 enc Tryz.prog Tryz.f3 Rows.priceRawRow.domain false) (Rows.priceRawSpec.post enc Tryz.prog Tryz.f3 false true false false):=by
 refine returnsInHanded_of_change_sized (C:=Tryz.checked) own started (by kernel_rfl) Tryz.func3
  (ChangeSpec.witness6 (enc:=enc) (C:=Tryz.checked) false ⟨#[],#[.agg #[.slice none 0 0,.slice none 0 0,.bool false,.bool false,.int .i64 0,.slice none 0 0,.int .i64 0,.int .i64 0,.int .i64 0,.int .i64 0,.int .i64 0,.int .i64 0,.slice none 0 0,.slice none 0 0],.slice none 0 0,.slice none 0 0,.int .i64 0],[]⟩ 12 (by kernel_rfl) (by kernel_rfl) (by kernel_rfl) (by kernel_rfl)) ?_
 intro W base args ds gs before hval0 hW hcnd hsz0 _
 have hval:∀ (j:Nat) t v,Tryz.f3.params[j]?=some t→args[j]?=some v→Value.okWide Tryz.prog W .any base t v:=hval0
 have hW':=hW
 obtain ⟨p,q,hA0,hV,rfl,hfz,hnd⟩:=hW
 have hA:DataW.TrodAll enc Tryz.prog W 0 (fun _=>true) true Tryz.f3.params.toList args.toList ds p:=hA0
 rw [Tryz.params3] at hA hval
 obtain ⟨v0,vs0,d0,ds0,p0,q0,hargs,rfl,rfl,h0,r0⟩:=trodAll_cons hA
 obtain ⟨v1,vs1,d1,ds1,p1,q1,rfl,rfl,rfl,h1,r1⟩:=trodAll_cons r0
 obtain ⟨v2,vs2,d2,ds2,p2,q2,rfl,rfl,rfl,h2,r2⟩:=trodAll_cons r1
 obtain ⟨v3,vs3,d3,ds3,p3,q3,rfl,rfl,rfl,h3,r3⟩:=trodAll_cons r2
 obtain ⟨rfl,rfl,rfl⟩:=trodAll_nil r3
 obtain rfl:args=#[v0,v1,v2,v3]:=by cases args;simp_all
 obtain ⟨rfl,rfl⟩:=trodVars_none hV
 obtain ⟨a0,rfl,_⟩:=okWide_struct Tryz.underlying33 (hval 0 33 v0 rfl rfl)
 obtain ⟨a1,len1,cap1,rfl⟩:=okWide_slice Tryz.underlying34 (hval 1 34 v1 rfl rfl)
 obtain ⟨a2,len2,cap2,rfl⟩:=okWide_slice Tryz.underlying35 (hval 2 35 v2 rfl rfl)
 obtain ⟨a3,rfl,rfl,rfl,w3⟩:=open_int Tryz.underlying3 (hval 3 3 v3 rfl rfl) h3
 have k0:=h0
 have lt0:∀ x∈p0,x.block<W.heap.size:=by obtain ⟨m,hm⟩:=k0;exact DataW.trod_lt m _ _ _ hm
 have k1:=h1
 have lt1:∀ x∈p1,x.block<W.heap.size:=by obtain ⟨m,hm⟩:=k1;exact DataW.trod_lt m _ _ _ hm
 have k2:=h2
 have lt2:∀ x∈p2,x.block<W.heap.size:=by obtain ⟨m,hm⟩:=k2;exact DataW.trod_lt m _ _ _ hm
 obtain ⟨l0,hl0⟩:∃ l,Ab.FitL W Ab.kRules l a0.toList:=by
  obtain ⟨fuel,hf⟩:=h0
  exact Ab.open_kinds 10 fuel 33 Ab.kRules _ _ (by kernel_rfl) hf
 obtain ⟨l1,hl1⟩:∃ l,Ab.FitL W [.sl Ab.kStr] l [.slice a1 len1 cap1]:=by
  obtain ⟨fuel,hf⟩:=h1
  exact Ab.open_kinds 3 fuel 34 [.sl Ab.kStr] _ _ (by kernel_rfl) hf
 obtain ⟨l2,hl2⟩:∃ l,Ab.FitL W [.sl Ab.kLine] l [.slice a2 len2 cap2]:=by
  obtain ⟨fuel,hf⟩:=h2
  exact Ab.open_kinds 4 fuel 35 [.sl Ab.kLine] _ _ (by kernel_rfl) hf
 clear hA0 hval0 hsz0
 refine (C7y a0 _ _ a3 W l0 l1 l2 hl0 hl1 hl2).mono fun e W' ⟨he,bel⟩=>?_
 subst he
 exact ⟨_,rfl,_,_,_,[],_,[],hW',trodAll_mk1 (shut_bool Tryz.underlying4 _),trodAll_cons_mk (Below.trod B1h (by kernel_rfl) (of_decide_eq_true (by kernel_rfl)) k0 bel lt0) (trodAll_cons_mk (Below.trod B1h (by kernel_rfl) (of_decide_eq_true (by kernel_rfl)) k1 bel lt1) (trodAll_cons_mk (Below.trod B1h (by kernel_rfl) (of_decide_eq_true (by kernel_rfl)) k2 bel lt2) (trodAll_cons_mk (shut_int Tryz.underlying3 w3) trodAll_mk0))),rfl,bel.frame _,fun h=>by cases h⟩
theorem over:Rows.priceRawRow.holds Tryz.pinned (OpenSpec.ofChange Rows.priceRawSpec) :=
 OpenClaim.holds_of_wide 3 Tryz.f3 rfl rfl rfl rfl rfl rfl rfl ⟨rfl,rfl,rfl,rfl,rfl⟩ rfl rfl rfl rfl rfl (by kernel_rfl) Tryz.func3 B6c
  (of_decide_eq_true (by kernel_rfl)) (by unfold Func.isWrapper;first | (rw [if_pos (by decide +kernel)];kernel_rfl) | (rw [if_neg (by decide +kernel)];exact ⟨rfl,rfl⟩))
  (fun os started H enc _=>lifted os started H enc)
theorem proved:Rows.PriceRawSaid:=over
#print axioms proved
end Go.Proofs.YtbajhapmlfbelaaGreat.priceRaw
namespace Go.Proofs.YtbajhapmlfbelaaGreat
theorem priceRaw_holds:Rows.PriceRawSaid:=priceRaw.proved
end Go.Proofs.YtbajhapmlfbelaaGreat
