/- Part 21 of the proof: contracts of the functions that the law reaches -/
import Derived.Test.YtaapofnkmpiknaaGreatRw20
set_option maxRecDepth 100000
set_option linter.unusedVariables false
set_option linter.unusedSimpArgs false
namespace Go.Proofs.YtaapofnkmpiknaaGreat
open Go Go.Ab
attribute [local irreducible] upd del
abbrev gI (l:List Int) (k:Nat):Int:=l.getD k default
def swI (l:List Int) (i j:Nat):List Int:=(l.set i (gI l j)).set j (gI l i)
theorem B9z (l:List Int) (i j:Nat):(swI l i j).length=l.length:=by simp [swI]
theorem B8m {l:List Int} {i j:Nat} (hi:i<l.length) (hj:j<l.length) (k:Nat):gI (swI l i j) k=if k=j then gI l i else if k=i then gI l j else gI l k:=by
 unfold swI gI
 simp only [D5l,D7w,D6H]
 by_cases h1:k=j
 ·subst h1;simp [hj]
 ·rw [if_neg (fun e=>h1 e.symm),if_neg h1]
  by_cases h2:k=i
  ·subst h2;simp [hi]
  ·rw [if_neg (fun e=>h2 e.symm),if_neg h2]
theorem C4j {l:List Int} {i j:Nat} (hi:i<l.length) (hj:j<l.length):(swI l i j).Perm l:=by
 have e1:gI l j=l[j]:=by simp [gI,hj]
 have e2:gI l i=l[i]:=by simp [gI,hi]
 unfold swI
 rw [e1,e2]
 exact List.set_set_perm hi hj
def A5s (st:St) (b:Nat) (l:List Int):Prop:=∃ f,st b=some ⟨3,1,l.length,f⟩∧∀ k,k<l.length→f k=eI (gI l k)
structure Ord (lt:Int→Int→Bool):Prop where
 asymm:∀ x y,lt x y=true→lt y x=false
 le:∀ x y z,lt y x=false→lt z y=false→lt z x=false
def Srt (lt:Int→Int→Bool) (l:List Int) (a e:Nat):Prop:=∀ x y,a≤x→x<y→y<e→lt (gI l y) (gI l x)=false
structure Ins (lt:Int→Int→Bool) (l:List Int) (a e j:Nat):Prop where
 rest:∀ x y,a≤x→x<y→y<e→x≠j→y≠j→lt (gI l y) (gI l x)=false
 up:∀ y,j<y→y<e→lt (gI l y) (gI l j)=false
theorem Srt.ins {lt:Int→Int→Bool} {l:List Int} {a i:Nat} (h:Srt lt l a i):Ins lt l a (i+1) i :=
 ⟨fun x y hx hxy hy h1 h2=>h x y hx hxy (by omega),fun y h1 h2=>by omega⟩
theorem Ins.done {lt:Int→Int→Bool} (ho:Ord lt) {l:List Int} {a e j:Nat} (h:Ins lt l a e j) (hj:j≤a∨lt (gI l j) (gI l (j - 1))=false):Srt lt l a e:=fun x y hx hxy hy=>by
 by_cases h1:x=j
 ·subst h1;exact h.up y hxy hy
 ·by_cases h2:y=j
  ·subst h2
   rcases hj with hj | hj
   ·omega
   ·by_cases h3:x=y - 1
    ·subst h3;exact hj
    ·exact ho.le _ _ _ (h.rest x (y - 1) hx (by omega) (by omega) h1 (by omega)) hj
  ·exact h.rest x y hx hxy hy h1 h2
theorem Ins.step {lt:Int→Int→Bool} (ho:Ord lt) {l:List Int} {a e j:Nat} (h:Ins lt l a e j) (hj:a<j) (hje:j<e) (he:e≤l.length) (hlt:lt (gI l j) (gI l (j - 1))=true):Ins lt (swI l j (j - 1)) a e (j - 1):=by
 have sw:=B8m (l:=l) (i:=j) (j:=j - 1) (by omega) (by omega)
 refine ⟨fun x y hx hxy hy h1 h2=>?_,fun y h1 h2=>?_⟩
 ·rw [sw x,sw y,if_neg h1,if_neg h2]
  by_cases hxj:x=j
  ·rw [if_pos hxj,if_neg (by omega)]
   exact h.rest (j - 1) y (by omega) (by omega) hy (by omega) (by omega)
  ·rw [if_neg hxj]
   by_cases hyj:y=j
   ·rw [if_pos hyj]
    exact h.rest x (j - 1) hx (by omega) (by omega) hxj (by omega)
   ·rw [if_neg hyj];exact h.rest x y hx hxy hy hxj hyj
 ·rw [sw y,sw (j - 1),if_neg (by omega),if_pos rfl]
  by_cases hyj:y=j
  ·rw [if_pos hyj];exact ho.asymm _ _ hlt
  ·rw [if_neg hyj];exact h.up y (by omega) h2
theorem B3R (b:Nat) (l:List Int) (n a e:Nat) (g:FuncId) (cs:List AV) (cf:Int→Int→Int) (lt:Int→Int→Bool) (hlt:∀ x y,decide (cf x y<0)=lt x y) (ho:Ord lt) (st:St) (hb:A5s st b l) (hae:a≤e) (he:e≤n) (hn:n≤l.length) (hl:l.length<4611686018427387904)
  (hg:∀ x∈l,∀ y∈l,∀ st',S P g (eI x::eI y::cs) st' fun v s=>v=eI (cf x y)∧s=st') :
  S P 310 [.own 1 b 0 n,eI a,eI e,.fn (.func g) [] cs] st fun v st'=>v=.tuple []∧∃ l',l'.Perm l∧Srt lt l' a e∧(∀ k,k<a∨e≤k→gI l' k=gI l k)∧A5s st' b l'∧∀ c,c≠b→st' c=st c:=by
 refine F1 [] Tryz.func310 ?_
 refine ⟨[0,1,2,3,8],fun m vs st'=>∃ (i:Nat) (l':List Int),a<i∧(i≤e∨i=a+1)∧l'.Perm l∧Srt lt l' a i∧(∀ k,k<a∨e≤k→gI l' k=gI l k)∧A5s st' b l'∧(∀ c,c≠b→st' c=st c)∧m=e - i∧vs=[.own 1 b 0 n,eI a,eI e,.fn (.func g) [] cs,eI i],?_,?_⟩
 ·conv=>whnf
  exact ⟨_,a+1,l,by omega,.inr rfl,List.Perm.refl _,fun x y h1 h2 h3=>by omega,fun _ _=>rfl,hb,fun _ _=>rfl,rfl,by rw [B3 (by omega)]⟩
 ·rintro m vs st' ⟨i,l',hai,hie,hp,hs,hout,hb',hfr,rfl,rfl⟩
  have hlen:l'.length=l.length:=hp.length_eq
  conv=>whnf
  cases h:decide ((i:Int)<(e:Int))
  ·have:=D5q h
   conv=>whnf
   refine ⟨rfl,l',hp,fun x y h1 h2 h3=>hs x y h1 h2 (by omega),hout,hb',hfr⟩
  ·have hi:i<e:=by have:=D5o h;omega
   conv=>whnf
   refine ⟨[0,1,2,3,8,9],fun m vs st''=>∃ (j:Nat) (l'':List Int),a≤j∧j≤i∧l''.Perm l∧Ins lt l'' a (i+1) j∧(∀ k,k<a∨e≤k→gI l'' k=gI l k)∧A5s st'' b l''∧(∀ c,c≠b→st'' c=st c)∧m=j∧vs=[.own 1 b 0 n,eI a,eI e,.fn (.func g) [] cs,eI i,eI j],?_,?_⟩
   ·conv=>whnf
    exact ⟨_,i,l',by omega,D5u _,hp,hs.ins,hout,hb',hfr,rfl,rfl⟩
   ·clear hp hs hout hb' hfr hlen
    rintro j vs st'' ⟨_,l'',haj,hji,hp,hs,hout,⟨f,hst,hf⟩,hfr,rfl,rfl⟩
    have hlen:l''.length=l.length:=hp.length_eq
    have next:Srt lt l'' a (i+1)→∃ m',m'<e - i∧∃ (i_1:Nat) (l':List Int),a<i_1∧(i_1≤e∨i_1=a+1)∧l'.Perm l∧Srt lt l' a i_1∧(∀ k,k<a∨e≤k→gI l' k=gI l k)∧A5s st'' b l'∧(∀ c,c≠b→st'' c=st c)∧m'=e - i_1∧[AV.own 1 b 0 n,eI a,eI e,.fn (.func g) [] cs,eI (IntKind.i64.wrap ((i:Int)+1))]=[.own 1 b 0 n,eI a,eI e,.fn (.func g) [] cs,eI i_1] :=
     fun hsrt=>⟨e - (i+1),by omega,i+1,l'',by omega,.inl (by omega),hp,hsrt,hout,⟨f,hst,hf⟩,hfr,rfl,by rw [B3 (by omega)]⟩
    conv=>whnf
    refine ⟨[],[],[0,1,2,3,4,5,6,7,8,9,10,11,12,13,14,15,16],by kernel_rfl,?_⟩;conv=>whnf
    refine B8 (fun h1=>?_) (fun h1=>?_)<;>rw [h1]<;>simp only [D5n,D5m] at h1
    ·have w:IntKind.i64.wrap ((j:Int) - 1)=((j - 1:Nat):Int):=by rw [A5 (by omega) (by omega)];omega
     have fj:f (0+(j:Int).toNat)=eI (gI l'' j):=by rw [show 0+(j:Int).toNat=j by omega];exact hf j (by omega)
     have fj1:f (0+((j - 1:Nat):Int).toNat)=eI (gI l'' (j - 1)):=by rw [show 0+((j - 1:Nat):Int).toNat=j - 1 by omega];exact hf (j - 1) (by omega)
     conv=>whnf
     refine E4 ?_
     refine I1 hst fj ?_
     rw [w]
     refine E4 ?_
     refine I1 hst fj1 ?_
     refine cqW (hg (gI l'' j) (hp.subset (A7 (by omega))) (gI l'' (j - 1)) (hp.subset (A7 (by omega))) _) ?_
     rw [hlt]
     refine B8 (fun h2=>?_) (fun h2=>?_)<;>rw [h2]
     ·have hfj1:H7 f (0+(j:Int).toNat) (P3 (eI (gI l'' j)) 0 (cellsOf (eI (gI l'' (j - 1))))) (0+((j - 1:Nat):Int).toNat)=eI (gI l'' (j - 1)):=(H3 (by omega)).trans fj1
      conv=>whnf
      refine ⟨[15,17],[],[0,1,2,3,4,5,6,7,8,9,10,11,12,13,14,15,16,17],by kernel_rfl,?_⟩;conv=>whnf
      rw [w]
      refine E4 ?_
      refine I1 hst fj1 ?_
      refine E4 ?_
      refine I1 hst fj ?_
      refine E4 ?_
      refine X1 hst fj ?_
      refine E4 ?_
      refine X1 (A0 ..) hfj1 ?_
      refine F8 ?_
      have hjl:j<l''.length:=by omega
      refine ⟨j - 1,by omega,j - 1,swI l'' j (j - 1),by omega,by omega,(C4j hjl (by omega)).trans hp,hs.step ho (by omega) (by omega) (by omega) h2,fun k hk=>?_,⟨_,by rw [A0,B9z],fun k hk=>?_⟩,fun c hc=>by rw [A9 hc,A9 hc];exact hfr c hc,rfl,by rw [w]⟩
      ·rw [B8m hjl (by omega),if_neg (by omega),if_neg (by omega)];exact hout k hk
      ·rw [B9z] at hk
       rw [B8m hjl (by omega)]
       by_cases e1:k=j - 1
       ·subst e1
        rw [if_pos rfl,show 0+((j - 1:Nat):Int).toNat=j - 1 by omega,A4];rfl
       ·rw [if_neg e1,H3 (by omega)]
        by_cases e2:k=j
        ·subst e2
         rw [if_pos rfl,show 0+(k:Int).toNat=k by omega,A4];rfl
        ·rw [if_neg e2,H3 (by omega)];exact hf k hk
     ·conv=>whnf
      refine F8 ?_
      exact next (hs.done ho (.inr h2))
    ·conv=>whnf
     refine F8 ?_
     exact next (hs.done ho (.inl (by omega)))
theorem Srt.congr {lt:Int→Int→Bool} {l l':List Int} {a e:Nat} (h:Srt lt l a e) (hk:∀ k,a≤k→k<e→gI l' k=gI l k):Srt lt l' a e:=fun x y h1 h2 h3=>by
 rw [hk x h1 (by omega),hk y (by omega) h3];exact h x y h1 h2 h3
theorem C4g (b:Nat) (l:List Int) (g:FuncId) (cs:List AV) (cf:Int→Int→Int) (lt:Int→Int→Bool) (hlt:∀ x y,decide (cf x y<0)=lt x y) (ho:Ord lt) (st:St) (hb:A5s st b l) (hl:l.length≤20)
  (hg:∀ x∈l,∀ y∈l,∀ st',S P g (eI x::eI y::cs) st' fun v s=>v=eI (cf x y)∧s=st') :
  S P 289 [.own 1 b 0 l.length,eI l.length,.fn (.func g) [] cs] st fun v st'=>v=.tuple []∧∃ l',l'.Perm l∧Srt lt l' 0 l.length∧A5s st' b l'∧∀ c,c≠b→st' c=st c:=by
 refine F1 [] Tryz.func289 ?_
 refine ⟨[0,1,2,6,7,8],fun m vs st'=>(m=1∧st'=st∧vs=[.own 1 b 0 l.length,eI l.length,.fn (.func g) [] cs,eI 20,eI 0,eI 20]) ∨
  (m=0∧l.length=20∧(∃ l',l'.Perm l∧Srt lt l' 0 l.length∧A5s st' b l'∧∀ c,c≠b→st' c=st c)∧vs=[.own 1 b 0 l.length,eI l.length,.fn (.func g) [] cs,eI 20,eI 20,eI 40]),?_,?_⟩
 ·conv=>whnf
  exact ⟨1,.inl ⟨rfl,rfl,rfl⟩⟩
 ·rintro m vs st' (⟨rfl,rfl,rfl⟩ | ⟨rfl,h20,⟨l',hp,hs,hb',hfr⟩,rfl⟩)
  ·conv=>whnf
   refine B8 (fun h1=>?_) (fun h1=>?_)<;>rw [h1]<;>simp only [D5n,D5m] at h1
   ·have h20:l.length=20:=by omega
    conv=>whnf
    refine call (B3R b l l.length 0 20 g cs cf lt hlt ho _ hb (by omega) (by omega) (by omega) (by omega) hg) (fun v st1 hv=>?_)
    obtain ⟨rfl,l',hp,hs,hout,hb',hfr⟩:=hv
    conv=>whnf
    refine F8 ?_
    exact ⟨0,by omega,.inr ⟨rfl,h20,⟨l',hp,by rw [h20];exact hs,hb',hfr⟩,rfl⟩⟩
   ·conv=>whnf
    refine call (B3R b l l.length 0 l.length g cs cf lt hlt ho _ hb (by omega) (by omega) (by omega) (by omega) hg) (fun v st1 hv=>?_)
    obtain ⟨rfl,l',hp,hs,hout,hb',hfr⟩:=hv
    conv=>whnf
    refine B1g [0,1,2,6] ?_;conv=>whnf
    intro I
    refine B8 (fun h2=>?_) (fun h2=>?_)<;>rw [h2]<;>simp only [D5n,D5m] at h2
    ·exact absurd h2 (by omega)
    ·conv=>whnf
     exact ⟨rfl,l',hp,hs,hb',hfr⟩
  ·have hlen:l'.length=l.length:=hp.length_eq
   conv=>whnf
   refine B8 (fun h1=>?_) (fun h1=>?_)<;>rw [h1]<;>simp only [D5n,D5m] at h1
   ·exact absurd h1 (by omega)
   ·conv=>whnf
    refine call (B3R b l' l.length 20 l.length g cs cf lt hlt ho _ hb' (by omega) (by omega) (by omega) (by omega) (fun x hx y hy=>hg x (hp.subset hx) y (hp.subset hy))) (fun v st1 hv=>?_)
    obtain ⟨rfl,l2,hp2,hs2,hout,hb2,hfr2⟩:=hv
    conv=>whnf
    refine B1g [0,1,2,6] ?_;conv=>whnf
    intro I
    refine B8 (fun h2=>?_) (fun h2=>?_)<;>rw [h2]<;>simp only [D5n,D5m] at h2
    ·exact absurd h2 (by omega)
    ·conv=>whnf
     exact ⟨rfl,l2,hp2.trans hp,hs.congr (fun k _ hk=>hout k (by omega)),hb2,fun c hc=>(hfr2 c hc).trans (hfr c hc)⟩
def A5y (N:Nat):Prop:=∀ (b:Nat) (l:List Int) (g:FuncId) (cs:List AV) (cf:Int→Int→Int) (lt:Int→Int→Bool) (hlt:∀ x y,decide (cf x y<0)=lt x y) (ho:Ord lt) (st:St) (hb:A5s st b l) (hl:l.length≤N)
  (hg:∀ x∈l,∀ y∈l,∀ st',S P g (eI x::eI y::cs) st' fun v s=>v=eI (cf x y)∧s=st'),
  S P 289 [.own 1 b 0 l.length,eI l.length,.fn (.func g) [] cs] st fun v st'=>v=.tuple []∧∃ l',l'.Perm l∧Srt lt l' 0 l.length∧A5s st' b l'∧∀ c,c≠b→st' c=st c
theorem B6t:A5y 20:=fun b l g cs cf lt hlt ho st hb hl hg=>C4g b l g cs cf lt hlt ho st hb hl hg
theorem B4B {N:Nat} (hN:A5y N) (b:Nat) (l:List Int) (g:FuncId) (cs:List AV) (cf:Int→Int→Int) (lt:Int→Int→Bool) (hlt:∀ x y,decide (cf x y<0)=lt x y) (ho:Ord lt) (st:St) (hb:A5s st b l) (hl:l.length≤N)
  (hg:∀ x∈l,∀ y∈l,∀ st',S P g (eI x::eI y::cs) st' fun v s=>v=eI (cf x y)∧s=st') :
  S P 264 [.own 1 b 0 l.length,.fn (.func g) [] cs] st fun v st'=>v=.tuple []∧∃ l',l'.Perm l∧Srt lt l' 0 l.length∧A5s st' b l'∧∀ c,c≠b→st' c=st c:=by
 refine F1 [] Tryz.func264 ?_
 refine call (hN b l g cs cf lt hlt ho st hb hl hg) (fun v st' hv=>?_)
 obtain ⟨rfl,h⟩:=hv
 conv=>whnf
 exact ⟨rfl,h⟩
theorem C2M (f:AV) (st:St):S P 310 [.emp,eI 0,eI 0,f] st fun v st'=>v=.tuple []∧st'=st:=by
 refine F1 [] Tryz.func310 ?_
 refine B1g [0,1,2,3,8] ?_;conv=>whnf
 intro I
 exact ⟨rfl,rfl⟩
theorem C1o (f:AV) (st:St):S P 289 [.emp,eI 0,f] st fun v st'=>v=.tuple []∧st'=st:=by
 refine F1 [] Tryz.func289 ?_
 refine B1g [0,1,2,6,7,8] ?_;conv=>whnf
 intro I
 refine H8 (C2M f st) ?_
 refine B1g [0,1,2,6] ?_;conv=>whnf
 intro I
 exact ⟨rfl,rfl⟩
theorem B2y (f:AV) (st:St):S P 264 [.emp,f] st fun v st'=>v=.tuple []∧st'=st:=by
 refine F1 [] Tryz.func264 ?_
 refine H8 (C1o f st) ?_
 exact ⟨rfl,rfl⟩
theorem QSt.grow {st0 st:St} {q bo bo':Nat} {f:Bool} {es:List QE} {y y':L6} (h:QSt (upd st0 bo y) q f es st) (h0:st0 bo=none) (hb:bo'=bo∨st bo'=none):st0 bo'=none∧QSt (upd st0 bo' y') q f es (upd (del st bo) bo' y'):=by
 obtain ⟨h1,h2,sv,⟨fq,hqs,hq0⟩,h3⟩:=h
 have hqo:q≠bo:=fun e=>by subst e;rw [A0] at h1;cases h1
 have hq1:st0 q=none:=by rw [A9 hqo] at h1;exact h1
 have hqb:q≠bo':=fun e=>by
  subst e
  rcases hb with e | e
  ·exact hqo e
  ·rw [hqs] at e;cases e
 have hsub:∀ c x,st0 c=some x→c≠bo∧st c=some x:=fun c x hc=>by
  have hne:c≠bo:=fun e=>by subst e;rw [h0] at hc;cases hc
  exact ⟨hne,h2 c x (by rw [A9 hne];exact hc)⟩
 have hbo':st0 bo'=none:=by
  rcases hb with e | e
  ·rw [e];exact h0
  ·cases hx:st0 bo' with
   | none=>rfl
   | some x=>rw [(hsub _ _ hx).2] at e;cases e
 refine ⟨hbo',by rw [A9 hqb];exact hq1,fun c x hc=>?_,sv,⟨fq,by rw [A9 hqb];unfold del;rw [if_neg hqo];exact hqs,hq0⟩,?_⟩
 ·by_cases hcb:c=bo'
  ·subst hcb;rw [A0] at hc ⊢;exact hc
  ·rw [A9 hcb] at hc ⊢
   obtain ⟨a,b⟩:=hsub c x hc
   unfold del;rw [if_neg a];exact b
 ·rcases h3 with h3 | ⟨b,l,n,a1,a2,a3,a4,a5,a6,⟨fe,hes,hef⟩,a8,a9⟩
  ·exact .inl h3
  ·have hbo:b≠bo:=fun e=>by subst e;rw [A0] at a2;cases a2
   have hb0:st0 b=none:=by rw [A9 hbo] at a2;exact a2
   have hbb:b≠bo':=fun e=>by
    subst e
    rcases hb with e | e
    ·exact hbo e
    ·rw [hes] at e;cases e
   exact .inr ⟨b,l,n,a1,by rw [A9 hbb];exact hb0,a3,a4,a5,a6,⟨fe,by rw [A9 hbb];unfold del;rw [if_neg hbo];exact hes,hef⟩,a8,a9⟩
theorem QSt.begin {st0 st:St} {q bo:Nat} {f:Bool} {es:List QE} {y:L6} (h:QSt st0 q f es st) (hb:st bo=none):st0 bo=none∧QSt (upd st0 bo y) q f es (upd st bo y):=by
 obtain ⟨h1,h2,sv,⟨fq,hqs,hq0⟩,h3⟩:=h
 have hqb:q≠bo:=fun e=>by subst e;rw [hqs] at hb;cases hb
 refine ⟨h2.none hb,by rw [A9 hqb];exact h1,fun c x hc=>?_,sv,⟨fq,by rw [A9 hqb];exact hqs,hq0⟩,?_⟩
 ·by_cases hcb:c=bo
  ·subst hcb;rw [A0] at hc ⊢;exact hc
  ·rw [A9 hcb] at hc ⊢;exact h2 c x hc
 ·rcases h3 with h3 | ⟨b,l,n,a1,a2,a3,a4,a5,a6,⟨fe,hes,hef⟩,a8,a9⟩
  ·exact .inl h3
  ·have hbb:b≠bo:=fun e=>by subst e;rw [hes] at hb;cases hb
   exact .inr ⟨b,l,n,a1,by rw [A9 hbb];exact a2,a3,a4,a5,a6,⟨fe,by rw [A9 hbb];exact hes,hef⟩,a8,a9⟩
def A0z (ty e:Nat) (fo:Nat→AV) (n:Nat) (st1:St) (q:Nat) (f:Bool) (es:List QE) (sv:AV) (st':St):Prop :=
 (n=0∧sv=.emp∧QSt st1 q f es st')∨(0<n∧∃ bo g,st1 bo=none∧sv=.own e bo 0 n∧(∀ k,k<n→g k=fo k)∧QSt (upd st1 bo ⟨ty,e,n,g⟩) q f es st')
theorem A0z.len_S {ty e:Nat} {fo:Nat→AV} {n:Nat} {st1:St} {q:Nat} {f:Bool} {es:List QE} {sv:AV} {st':St} (h:A0z ty e fo n st1 q f es sv st') :
  S P 229 [.optr 1 q 0 0] st' fun v st''=>v=eI es.length∧st''=st':=by
 rcases h with ⟨_,_,h⟩ | ⟨_,bo,g,_,_,_,h⟩
 ·exact A9h _ _ _ _ _ h
 ·exact A9h _ _ _ _ _ h
theorem A0z.pop_S {ty e:Nat} {fo:Nat→AV} {n:Nat} {st1:St} {q:Nat} {f:Bool} {x:QE} {es:List QE} {sv:AV} {st':St} (h:A0z ty e fo n st1 q f (x::es) sv st') (htop:∀ y∈es,G3 y x=false) :
  S P 230 [.optr 1 q 0 0] st' fun v st''=>v=.tuple [eI x.1,eI x.2,.bool true]∧A0z ty e fo n st1 q false es sv st'':=by
 rcases h with ⟨h1,h2,h⟩ | ⟨h0,bo,g,h1,h2,h3,h⟩
 ·exact (A9i _ _ _ _ _ _ h htop).mono fun v s hv=>⟨hv.1,.inl ⟨h1,h2,hv.2⟩⟩
 ·exact (A9i _ _ _ _ _ _ h htop).mono fun v s hv=>⟨hv.1,.inr ⟨h0,bo,g,h1,h2,h3,hv.2⟩⟩
theorem A0z.app {T:G5} {t:TypeId} {x sv:AV} {st1 st':St} {k:KK} {r q:C3} {el n qq:Nat} {fl:Bool} {es:List QE} {f g:Nat→AV} (hr:T t=some r) (hd:r.desc=.slice el) (hq:T el=some q)
  (hz:(Nat.blt 0 q.size&&Nat.blt 0 q.bytes&&Nat.beq q.zero.cells.size q.size)=true) (hs:Z5 q.size st' x=some (1,g)) (hg:g 0=f n) (hb:(n+1) * q.bytes≤140737488355328)
  (hc:A0z el q.size f n st1 qq fl es sv st') (hk:∀ sv' st'',A0z el q.size f (n+1) st1 qq fl es sv' st''→k sv' st''):A5p T t sv x st' k:=by
 rcases hc with ⟨rfl,rfl,h⟩ | ⟨h0,bo,y,h1,rfl,h4,h⟩
 ·refine apE hr hd hq hz hs (by omega) (fun h=>by omega) (fun _ b hb=>?_)
  obtain ⟨hb0,hn⟩:=h.begin (y:=⟨el,q.size,1,g⟩) hb
  have e0:∀ k,k<0+1→g k=f k:=fun k hk=>by
   have:k=0:=by omega
   rw [this];exact hg
  exact hk _ _ (.inr ⟨by omega,b,g,hb0,rfl,e0,hn⟩)
 ·have hby:st' bo=some ⟨el,q.size,n,y⟩:=h.sup bo _ (A0 ..)
  refine apO hr hd hq hz hs hby rfl rfl rfl hb (fun h=>by omega) (fun _ b' hb'=>?_)
  obtain ⟨hb0,hn⟩:=h.grow (y':=⟨el,q.size,n+1,fun i=>if i<n then y i else g (i - n)⟩) h1 hb'
  refine hk _ _ (.inr ⟨by omega,b',_,hb0,rfl,fun k hk=>?_,hn⟩)
  by_cases hkn:k<n
  ·simp only [hkn,if_true];exact h4 k hkn
  ·have:k=n:=by omega
   subst this
   simp only [hkn,D7T,Nat.sub_self];exact hg
theorem A0z.shift {ty e:Nat} {fo:Nat→AV} {n:Nat} {st1:St} {q:Nat} {f:Bool} {es:List QE} {sv:AV} {st':St} (h:A0z ty e fo n st1 q f es sv st'):A8 [sv] st' [.arr e n fo] st1:=by
 rcases h with ⟨rfl,rfl,h⟩ | ⟨h0,bo,g,h1,rfl,h3,h⟩
 ·exact (h.sup.shift [.emp]).trans (H9 e fo)
 ·have h2:=N4 (st:=upd st1 bo ⟨ty,e,n,g⟩) (e:=e) (b:=bo) (n:=n) (f:=fo) (A0 ..) rfl (D5u _) h3
  rw [A3v h1] at h2
  exact (h.sup.shift [.own e bo 0 n]).trans h2
def Z8 (codes:List C8) (p:B1):Bool:=N0 p.code||codes.any fun c=>p.code.toList==c.toList
abbrev E7 (l:List B1) (x:Int):B1:=l.getD x.toNat default
def places (l:List B1) (codes:List C8) (i:Nat):List Int:=((List.range i).filter fun k=>Z8 codes (l.getD k default)).map Int.ofNat
theorem A5T (l:List B1) (codes:List C8) (i:Nat):places l codes (i+1)=places l codes i++(if Z8 codes (l.getD i default)=true then [(i:Int)] else []):=by
 unfold places
 rw [D6L,D7h,D5P]
 congr 1
 by_cases h:Z8 codes (l.getD i default)=true
 ·rw [if_pos h,D6s (p:=fun k=>Z8 codes (l.getD k default)) h];rfl
 ·rw [if_neg h,D6x (p:=fun k=>Z8 codes (l.getD k default)) h];rfl
theorem A0v {l:List B1} {codes:List C8} {i:Nat} {x:Int} (h:x∈places l codes i):0≤x∧x.toNat<i:=by
 unfold places at h
 obtain ⟨k,hk,rfl⟩:=D5G.1 h
 have:=D5B.1 (D6o.1 hk).1
 show 0≤(k:Int)∧(k:Int).toNat<i
 omega
theorem A1b (l:List B1) (codes:List C8) (i:Nat):(places l codes i).length≤i:=by
 unfold places
 rw [D5p]
 exact D6A (D7N ..) (by simp)
def C5s (l:List B1) (x y:Int):Bool:=slt (E7 l x).id (E7 l y).id
theorem C8J (l:List B1):Ord (C5s l):=⟨fun x y h=>A6J h,fun x y z h1 h2=>A4r h1 h2⟩
theorem C7o (l:List B1) (x y:Int) (hx:0≤x∧x.toNat<l.length) (hy:0≤y∧y.toNat<l.length) (st:St) :
  S P 265 [eI x,eI y,.fptr (A6 15 B7 l) 0] st fun v st'=>v=eI (A8L (E7 l x).id (E7 l y).id)∧st'=st:=by
 refine F1 [] Tryz.func265 ?_
 refine ⟨[],[],[0,1,2,3,4,5,6,7,8,9,10,11],by kernel_rfl,?_⟩;conv=>whnf
 refine E4 ?_
 refine E4 ?_
 refine cqW (C6E (E7 l x).id (E7 l y).id _) ?_
 exact ⟨rfl,rfl⟩
theorem N3 {a b:List Int} {k:Nat} (h:k<a.length):gI (a++b) k=gI a k:=by
 unfold gI;rw [D5l,D5l,D5J h]
theorem A7W (a:List Int) (x:Int):gI (a++[x]) a.length=x:=by
 unfold gI;simp [D5l]
def A8D (l:List B1) (codes:List C8) (o:List Int):Prop:=o.Perm (places l codes l.length)∧Srt (C5s l) o 0 o.length
def B1C (l:List B1) (o:List Int) (k:Nat):QE:=((E7 l (gI o k)).prio,(k:Int))
def A1c (l:List B1) (o:List Int):List QE:=((List.range o.length).map (B1C l o)).mergeSort fun a b=>!G3 b a
theorem A1m (l:List B1) (o:List Int):(A1c l o).Perm ((List.range o.length).map (B1C l o)):=D7Z ..
theorem A6Z (l:List B1) (o:List Int):(A1c l o).Pairwise fun a b=>G3 b a=false:=by
 have:=D7E (le:=fun a b:QE=>!G3 b a) (fun a b c h1 h2=>by simp only [D5F] at *;exact A0u h2 h1) (fun a b=>by
  cases h:G3 b a with
  | false=>rfl
  | true=>rw [A0d h];rfl) ((List.range o.length).map (B1C l o))
 exact this.imp (fun h=>by simpa using h)
theorem A4V {l:List B1} {o:List Int} {e:QE} (h:e∈A1c l o):0≤e.2∧e.2.toNat<o.length:=by
 obtain ⟨k,hk,rfl⟩:=D5G.1 ((A1m l o).subset h)
 have:=D5B.1 hk
 simp only [B1C];omega
theorem A4U (l:List B1) (o:List Int):(A1c l o).length=o.length:=by
 rw [(A1m l o).length_eq];simp
abbrev P2 (l:List B1) (o:List Int):List Int:=(A1c l o).map fun e=>gI o e.2.toNat
theorem A0z.sup {ty e:Nat} {fo:Nat→AV} {n:Nat} {st1:St} {q:Nat} {f:Bool} {es:List QE} {sv:AV} {st':St} (h:A0z ty e fo n st1 q f es sv st'):E5 st1 st':=by
 rcases h with ⟨_,_,h⟩ | ⟨_,bo,g,h1,_,_,h⟩
 ·exact h.sup
 ·exact ((E5.refl st1).upd h1).trans h.sup
theorem C5K {N:Nat} (hN:A5y N) (l:List B1) (codes:List C8) (hl:l.length≤60) (hc:codes.length≤9223372036854775807) (h20:(places l codes l.length).length≤N) (st:St) :
  S P 227 [A6 15 B7 l,C7 codes] st fun v st'=>(∃ o:List Int,A8D l codes o∧v=B0 (P2 l o))∧st'=st:=by
 refine S.post (post:=fun v st'=>∃ (o:List Int) (st1:St) (q:Nat) (fl:Bool),A8D l codes o∧E5 st st1∧A0z 3 1 (fun k=>eI (gI (P2 l o) k)) (P2 l o).length st1 q fl [] v st') ?_
  (fun v st' ⟨o,st1,q,fl,ho,hs,hq⟩=>⟨B0 (P2 l o),st,⟨⟨o,ho,rfl⟩,rfl⟩,hq.shift.trans (hs.shift _)⟩)
 refine F1 [2,7] Tryz.func227 ?_
 refine ⟨[1,2,5,15,16,17],fun m vs st'=>∃ (i:Nat) (sv:AV),i≤l.length∧m=l.length - i∧vs=[C7 codes,.fptr (A6 15 B7 l) 0,sv,A6 15 B7 l,eI l.length,eI i]∧Col 3 1 (fun k=>eI (gI (places l codes i) k)) st (places l codes i).length sv st',?_,?_⟩
 ·conv=>whnf
  exact ⟨_,0,.emp,D5L _,rfl,rfl,Col.start _ _ _ _⟩
 ·rintro m vs st' ⟨i,sv,hi,rfl,rfl,hcol⟩
  conv=>whnf
  cases h:decide ((i:Int)<(l.length:Int))
  ·have:=D5q h
   obtain rfl:i=l.length:=by omega
   conv=>whnf
   have key:∀ K:KK,(∀ v st1 o,v=.tuple []→A8D l codes o→E5 st st1→((o=[]∧sv=.emp)∨∃ b,sv=.own 1 b 0 o.length∧A5s st1 b o∧0<o.length)→K v st1)→A1E P 264 [sv,.fn (.func 265) [] [.fptr (A6 15 B7 l) 0]] st' K:=fun K hK=>by
    rcases hcol with ⟨h0,rfl,rfl⟩ | ⟨h0,b,g,hb,rfl,rfl,hg⟩
    ·have hP:places l codes l.length=[]:=D5V h0
     refine call (B2y _ _) (fun v st1 hv=>?_)
     obtain ⟨rfl,rfl⟩:=hv
     exact hK _ _ [] rfl ⟨by rw [hP],fun x y _ _ h=>by simp at h⟩ (E5.refl _) (.inl ⟨rfl,rfl⟩)
    ·refine call (B4B hN b (places l codes l.length) _ _ (fun x y=>A8L (E7 l x).id (E7 l y).id) (C5s l) (fun x y=>B0G _ _) (C8J l) _ ⟨g,A0 ..,hg⟩ h20 (fun x hx y hy s=>C7o l x y (A0v hx) (A0v hy) s)) (fun v st1 hv=>?_)
     obtain ⟨rfl,l',hp,hs,hb',hfr⟩:=hv
     have hll:l'.length=(places l codes l.length).length:=hp.length_eq
     refine hK _ st1 l' rfl ⟨hp,by rw [hll];exact hs⟩ (fun c x hc=>?_) (.inr ⟨b,by rw [hll],hb',by omega⟩)
     have hne:c≠b:=fun e=>by subst e;rw [hb] at hc;cases hc
     rw [hfr c hne,A9 hne];exact hc
   refine key _ (fun v st1 o hv ho hsup hsv=>?_)
   subst hv
   clear key hcol
   have hmem:∀ k,k<o.length→0≤gI o k∧(gI o k).toNat<l.length:=fun k hk=>A0v (ho.1.subset (A7 hk))
   conv=>whnf
   refine call (B1x st1) (fun v st2 hv=>?_)
   obtain ⟨q,rfl,hq⟩:=hv
   conv=>whnf
   rcases hsv with ⟨rfl,rfl⟩ | ⟨b,rfl,⟨fb,hst,hfb⟩,hpos⟩
   ·conv=>whnf
    refine B1g [2,5,8,40,41,42] ?_;conv=>whnf
    intro I
    refine B1g [5,8,11] ?_;conv=>whnf
    intro I
    refine H8 (A9h _ _ _ _ _ hq) ?_
    exact ⟨[],st1,q,true,ho,hsup,.inl ⟨by rw [D5p,A4U];rfl,rfl,hq⟩⟩
   ·have hol:o.length≤60:=by rw [ho.1.length_eq];have:=A1b l codes l.length;omega
    conv=>whnf
    refine ⟨[2,5,8,40,41,42],fun m vs st'=>∃ i:Nat,i≤o.length∧m=o.length - i∧vs=[.fptr (A6 15 B7 l) 0,.own 1 b 0 o.length,.optr 1 q 0 0,.own 1 b 0 o.length,eI o.length,eI i]∧QSt st1 q true ((List.range i).map (B1C l o)) st',?_,?_⟩
    ·conv=>whnf
     exact ⟨_,0,D5L _,rfl,rfl,hq⟩
    ·clear hq
     rintro m vs st' ⟨i,hi,rfl,rfl,hq⟩
     have hst':=hq.sup b _ hst
     conv=>whnf
     cases h:decide ((i:Int)<(o.length:Int))
     ·have:=D5q h
      obtain rfl:i=o.length:=by omega
      conv=>whnf
      refine ⟨[5,8,11],fun m vs st'=>∃ (t:Nat) (sv:AV) (fl:Bool),t≤o.length∧m=o.length - t∧vs=[.own 1 b 0 o.length,.optr 1 q 0 0,sv]∧A0z 3 1 (fun k=>eI (gI (P2 l o) k)) t st1 q fl ((A1c l o).drop t) sv st',?_,?_⟩
      ·conv=>whnf
       exact ⟨_,0,.emp,true,D5L _,rfl,rfl,.inl ⟨rfl,rfl,hq.perm (A1m l o).symm⟩⟩
      ·rintro m vs st' ⟨t,sv,fl,ht,rfl,rfl,hout⟩
       have hst':=hout.sup b _ hst
       have hrl:=A4U l o
       conv=>whnf
       refine H8 (hout.len_S) ?_
       refine B8 (fun h1=>?_) (fun h1=>?_)<;>rw [h1]<;>simp only [D5n,D5m,D7R] at h1
       ·have htl:t<(A1c l o).length:=by omega
        have hsplit:(A1c l o).drop t=(A1c l o)[t]::(A1c l o).drop (t+1):=D7o htl
        have hsort:=A6Z l o
        have htop:∀ y∈(A1c l o).drop (t+1),G3 y (A1c l o)[t]=false:=fun y hy=>by
         have:=hsort.sublist (D7Y t _)
         rw [hsplit,D6X] at this
         exact this.1 y hy
        have hx:=A4V (D6J htl)
        have hres:gI (P2 l o) t=gI o ((A1c l o)[t]).2.toNat:=by
         unfold gI P2
         rw [D5l,D6j,D5s htl];rfl
        rw [hsplit] at hout
        generalize (A1c l o)[t]=x at *
        conv=>whnf
        refine call (hout.pop_S htop) (fun v st'' hv=>?_)
        obtain ⟨rfl,hout'⟩:=hv
        have hst'':=hout'.sup b _ hst
        conv=>whnf
        refine E4 ?_
        refine ldV hst'' rfl (by omega) (v:=eI (gI o x.2.toNat)) (by rw [D5A];exact hfb _ hx.2) ?_;conv=>whnf
        refine A0z.app (q:=r3) rfl rfl rfl rfl rfl (by simp only [hres];rfl) (by show (t+1) * 8≤140737488355328;omega) hout' (fun sv' st3 hout3=>?_);conv=>whnf
        refine F8 ?_
        exact ⟨o.length - (t+1),by omega,t+1,sv',false,by omega,rfl,rfl,hout3⟩
       ·have hte:t=o.length:=by omega
        subst hte;conv=>whnf
        refine ⟨o,st1,q,fl,ho,hsup,?_⟩
        rw [show (P2 l o).length=o.length by rw [D5p,hrl]]
        rw [show (A1c l o).drop o.length=[] by rw [←hrl,List.drop_length]] at hout
        exact hout
     ·have hi':i<o.length:=by have:=D5o h;omega
      have hm:=hmem i hi'
      conv=>whnf
      refine E4 ?_
      refine ldV hst' rfl (by omega) (v:=eI (gI o i)) (by rw [show 0+(i:Int).toNat=i by omega];exact hfb i hi') ?_;conv=>whnf
      refine E4 ?_
      refine call (A8n st1 q _ (E7 l (gI o i)).prio i _ hq (by rw [D5p,D5O];omega)) (fun v st'' hv=>?_)
      obtain ⟨rfl,hq'⟩:=hv
      conv=>whnf
      refine F8 ?_
      refine ⟨o.length - (i+1),by omega,i+1,by omega,rfl,by rw [B3 (by omega)],?_⟩
      rw [D6L,D5P];exact hq'
  ·have hi':i<l.length:=by have:=D5o h;omega
   have hpl:=A1b l codes i
   conv=>whnf
   refine E4 ?_
   have yes:Z8 codes (l.getD (i:Int).toNat default)=true→∀ (K:KK),(∀ sv' st'',Col 3 1 (fun k=>eI (gI (places l codes (i+1)) k)) st (places l codes (i+1)).length sv' st''→K sv' st'')→A5p T 29 sv (.arr 1 1 fun k=>[AV.int .i64 (i:Int)].getD k .junk) st' K:=fun ha K hK=>by
    have es:=A5T l codes i
    rw [if_pos (show Z8 codes (l.getD i default)=true from ha)] at es
    have el:(places l codes (i+1)).length=(places l codes i).length+1:=by rw [es];simp
    refine Col.app (q:=r3) rfl rfl rfl rfl rfl ?_ (by show ((places l codes i).length+1) * 8≤140737488355328;omega) (hcol.congr (f':=fun k=>eI (gI (places l codes (i+1)) k)) fun k hk=>by rw [es,N3 hk]) (fun sv' st'' hc'=>hK sv' st'' (by rw [el];exact hc'))
    rw [es,A7W];rfl
   have no:Z8 codes (l.getD (i:Int).toNat default)=false→places l codes (i+1)=places l codes i:=fun ha=>by
    have es:=A5T l codes i
    rw [if_neg (show ¬ Z8 codes (l.getD i default)=true by rw [show Z8 codes (l.getD i default)=false from ha];simp),D7f] at es
    exact es
   have fin:∀ sv' st'',Col 3 1 (fun k=>eI (gI (places l codes (i+1)) k)) st (places l codes (i+1)).length sv' st''→∃ m',m'<l.length - i∧∃ (i_1:Nat) (sv:AV),i_1≤l.length∧m'=l.length - i_1∧[C7 codes,AV.fptr (A6 15 B7 l) 0,sv',A6 15 B7 l,eI l.length,eI (IntKind.i64.wrap ((i:Int)+1))]=[C7 codes,.fptr (A6 15 B7 l) 0,sv,A6 15 B7 l,eI l.length,eI i_1]∧Col 3 1 (fun k=>eI (gI (places l codes i_1) k)) st (places l codes i_1).length sv st'' :=
    fun sv' st'' hc'=>⟨l.length - (i+1),by omega,i+1,sv',by omega,rfl,by rw [B3 (by omega)],hc'⟩
   refine B8 (fun h1=>?_) (fun h1=>?_)
   ·have ha:Z8 codes (l.getD (i:Int).toNat default)=true:=by unfold Z8;rw [show N0 (l.getD (i:Int).toNat default).code=true from h1,D6f]
    rw [h1];conv=>whnf
    refine yes ha _ (fun sv' st'' hc'=>?_);conv=>whnf
    refine F8 ?_
    exact fin _ _ hc'
   ·rw [h1];conv=>whnf
    refine H8 (C4h codes hc (l.getD (i:Int).toNat default).code _) ?_
    refine B8 (fun h2=>?_) (fun h2=>?_)
    ·have ha:Z8 codes (l.getD (i:Int).toNat default)=true:=by unfold Z8;rw [h2,D6c]
     rw [h2];conv=>whnf
     refine yes ha _ (fun sv' st'' hc'=>?_);conv=>whnf
     refine F8 ?_
     exact fin _ _ hc'
    ·have ha:Z8 codes (l.getD (i:Int).toNat default)=false:=by unfold Z8;rw [show N0 (l.getD (i:Int).toNat default).code=false from h1,h2];rfl
     rw [h2];conv=>whnf
     refine F8 ?_
     exact fin _ _ (by rw [no ha];exact hcol)
theorem C8A (a b:Int) (ha:0≤a) (hb:0≤b) (hab:a+b≤100000000000000) (st:St):S P 307 [eI a,eI b] st fun v st'=>v=.tuple [eI (a+b),eI 0]∧st'=st:=by
 have ra:(decide (0≤a)&&decide (a≤100000000000000))=true:=by simp;omega
 have rb:(decide (0≤b)&&decide (b≤100000000000000))=true:=by simp;omega
 have w1:IntKind.i64.wrap (100000000000000 - b)=100000000000000 - b:=A5 (by omega) (by omega)
 have w2:IntKind.i64.wrap (a+b)=a+b:=A5 (by omega) (by omega)
 refine F1 [] Tryz.func307 ?_
 refine B4 (A6F a st) ?_
 rw [ra];conv=>whnf
 refine B4 (A6F b st) ?_
 rw [rb];conv=>whnf
 rw [w1]
 refine B8 (fun h=>?_) (fun h=>?_)<;>rw [h]<;>simp only [D5n,D5m] at h
 ·exact absurd h (by omega)
 ·conv=>whnf
  rw [w2]
  exact ⟨rfl,rfl⟩
def A2 (l:List Int):Int:=l.foldl (fun s x=>s+x) 0
theorem K7 {l:List Int} {i:Nat} (h:i<l.length):A2 (l.take (i+1))=A2 (l.take i)+gI l i:=I6 h _ _
theorem F2 (a b:List Int):A2 (a++b)=A2 a+A2 b:=by
 have:∀ (b:List Int) (s:Int),b.foldl (fun s x=>s+x) s=s+b.foldl (fun s x=>s+x) 0:=by
  intro b
  induction b with
  | nil=>intro s;simp
  | cons x b ih=>intro s;simp only [D6C];rw [ih (s+x),ih (0+x)];omega
 unfold A2
 rw [D7n,this b]
theorem C1 {l:List Int} (h:∀ x∈l,0≤x):0≤A2 l:=by
 induction l with
 | nil=>exact D5W _
 | cons x l ih =>
  have:=F2 [x] l
  rw [D7O] at this
  have e:A2 [x]=x:=by simp [A2]
  rw [this,e]
  have:=ih (fun y hy=>h y (D5M _ hy))
  have:=h x (D5N ..)
  omega
theorem M8 {l:List Int} (h:∀ x∈l,0≤x) (i:Nat):A2 (l.take i)≤A2 l:=by
 have e:=F2 (l.take i) (l.drop i)
 rw [D7C] at e
 have:=C1 (l:=l.drop i) (fun x hx=>h x (List.drop_subset _ _ hx))
 omega
theorem J0 {l:List Int} (h:∀ x∈l,0≤x) {x:Int} (hx:x∈l):x≤A2 l:=by
 obtain ⟨i,hi,rfl⟩:=D3 hx
 have h1:=K7 hi
 have h2:=M8 h (i+1)
 have h3:=C1 (l:=l.take i) (fun x hx=>h x (D6p _ _ hx))
 have e:gI l i=l.getD i default:=rfl
 omega
structure Q6 (total:Int) (ws:List Int):Prop where
 t0:0≤total
 t1:total≤100000000000000
 len:ws.length≤100000
 w0:∀ w∈ws,0≤w
 sum:A2 ws≤100000000000000
 none:A2 ws=0→total=0
theorem C8l (total:Int) (ws:List Int) (hW:Q6 total ws) (st:St):S P 277 [eI total,B0 ws] st fun v st'=>v=.tuple [eI (A2 ws),eI 0]∧st'=st:=by
 have rt:(decide (0≤total)&&decide (total≤100000000000000))=true:=by simp;exact ⟨hW.t0,hW.t1⟩
 have hw:∀ w∈ws,w≤100000000000000:=fun w hw=>D8h (J0 hW.w0 hw) hW.sum
 have hl:=hW.len
 refine F1 [] Tryz.func277 ?_
 refine B4 (A6F total st) ?_
 rw [rt];conv=>whnf
 refine B8 (fun h=>?_) (fun h=>?_)<;>rw [h]<;>simp only [D5n,D5m] at h
 ·exact absurd h (by omega)
 conv=>whnf
 refine ⟨[0,1,20,21,22],fun m vs st'=>∃ i:Nat,i≤ws.length∧m=ws.length - i∧vs=[eI total,B0 ws,B0 ws,eI ws.length,eI i]∧st'=st,?_,?_⟩
 ·conv=>whnf
  exact ⟨_,0,D5L _,rfl,rfl,rfl⟩
 ·rintro m vs st' ⟨i,hi,rfl,rfl,rfl⟩
  conv=>whnf
  cases h1:decide ((i:Int)<(ws.length:Int))
  ·conv=>whnf
   refine ⟨[0,8,30,31,32],fun m vs st''=>∃ i:Nat,i≤ws.length∧m=ws.length - i∧vs=[eI total,eI (A2 (ws.take i)),B0 ws,eI ws.length,eI i]∧st''=st',?_,?_⟩
   ·conv=>whnf
    exact ⟨_,0,D5L _,rfl,rfl,rfl⟩
   ·rintro m vs st'' ⟨i,hi,rfl,rfl,rfl⟩
    conv=>whnf
    cases h2:decide ((i:Int)<(ws.length:Int))
    ·have:=D5q h2
     obtain rfl:i=ws.length:=by omega
     rw [D5w];conv=>whnf
     refine B8 (fun h3=>?_) (fun h3=>?_)<;>rw [h3]
     ·conv=>whnf
      have:total=0:=hW.none (by simpa using h3)
      rw [this];conv=>whnf
      exact ⟨rfl,rfl⟩
     ·conv=>whnf
      exact ⟨rfl,rfl⟩
    ·have hi':i<ws.length:=by have:=D5o h2;omega
     have h3:=K7 hi'
     have h4:=M8 hW.w0 (i+1)
     have h5:=C1 (l:=ws.take i) (fun x hx=>hW.w0 x (D6p _ _ hx))
     have h6:=hW.w0 _ (A7 hi')
     have h7:=hW.sum
     conv=>whnf
     refine E4 ?_
     refine H8 (C8A (A2 (ws.take i)) (gI ws i) h5 h6 (by omega) _) ?_
     refine F8 ?_
     exact ⟨ws.length - (i+1),by omega,i+1,by omega,rfl,by rw [B3 (by omega),h3],rfl⟩
  ·have hi':i<ws.length:=by have:=D5o h1;omega
   have hm:gI ws i∈ws:=A7 hi'
   have rw':(decide (0≤gI ws i)&&decide (gI ws i≤100000000000000))=true:=by simp only [D5r,D5n];exact ⟨hW.w0 _ hm,hw _ hm⟩
   conv=>whnf
   refine E4 ?_
   refine B4 (A6F (gI ws i) _) ?_
   rw [rw'];conv=>whnf
   refine F8 ?_
   exact ⟨ws.length - (i+1),by omega,i+1,by omega,rfl,by rw [B3 (by omega)],rfl⟩
theorem C7Q (total w all:Int) (h0:0≤total) (h1:total≤100000000000000) (hw:0≤w) (hwa:w≤all) (ha:0<all) (ha':all≤100000000000000) (st:St):S P 278 [eI total,eI w,eI all] st fun v st'=>v=.tuple [eI (total * w / all),eI (total * w % all)]∧st'=st:=by
 have e1:IntKind.u64.wrap total=total:=B5 (by omega) (by omega)
 have e2:IntKind.u64.wrap w=w:=B5 (by omega) (by omega)
 have e3:IntKind.u64.wrap all=all:=B5 (by omega) (by omega)
 have hN:0≤total * w:=D6K h0 hw
 have hN':total * w≤100000000000000 * all:=D7J h1 hwa hw (by omega)
 have hq0:0≤total * w / all:=D6T hN (by omega)
 have hq1:total * w / all≤100000000000000:=by
  have:total * w / all<100000000000000+1:=(D6O ha).2 (by omega)
  omega
 have hr0:=D6I (total * w) (show all≠0 by omega)
 have hr1:=D6w (total * w) ha
 refine F1 [] Tryz.func278 ?_
 rw [e1,e2]
 refine H8 (B9e total w ⟨by omega,by omega⟩ ⟨by omega,by omega⟩ st) ?_
 rw [e3]
 have hN2:100000000000000 * all≤100000000000000 * 100000000000000:=by omega
 refine B4 (B8Q _ _ all (by omega) (by omega) (by omega) (by omega) (by omega) st) ?_
 rw [show total * w / 18446744073709551616 * 18446744073709551616+total * w % 18446744073709551616=total * w by omega];conv=>whnf
 rw [A5 (x:=total * w / all) (by omega) (by omega),A5 (x:=total * w % all) (by omega) (by omega)]
 exact ⟨rfl,rfl⟩
def shQ (total S:Int) (ws:List Int) (k:Nat):Int:=total * gI ws k / S
def shE (total S:Int) (ws:List Int) (k:Nat):QE:=(total * gI ws k % S,(k:Int))
def shR (total S:Int) (ws:List Int):List QE:=((List.range ws.length).map (shE total S ws)).mergeSort fun a b=>!G3 b a
def R4 (qs:List Int) (R:List QE):List Int:=R.foldl (fun acc e=>acc.set e.2.toNat (gI acc e.2.toNat+1)) qs
def F7 (total S:Int) (ws:List Int) (i:Nat):Int:=total - A2 ((List.range i).map (shQ total S ws))
def D1 (total:Int) (ws:List Int):List Int :=
 if A2 ws=0 then ws.map fun _=>0
 else R4 ((List.range ws.length).map (shQ total (A2 ws) ws)) ((shR total (A2 ws) ws).take (F7 total (A2 ws) ws ws.length).toNat)
theorem A2j (total S:Int) (ws:List Int):(shR total S ws).Perm ((List.range ws.length).map (shE total S ws)):=D7Z ..
theorem A7w (total S:Int) (ws:List Int):(shR total S ws).Pairwise fun a b=>G3 b a=false:=by
 have:=D7E (le:=fun a b:QE=>!G3 b a) (fun a b c h1 h2=>by simp only [D5F] at *;exact A0u h2 h1) (fun a b=>by
  cases h:G3 b a with
  | false=>rfl
  | true=>rw [A0d h];rfl) ((List.range ws.length).map (shE total S ws))
 exact this.imp (fun h=>by simpa using h)
theorem A6H (total S:Int) (ws:List Int):(shR total S ws).length=ws.length:=by
 rw [(A2j total S ws).length_eq];simp
theorem B0n {total S:Int} {ws:List Int} {e:QE} (h:e∈shR total S ws):0≤e.2∧e.2.toNat<ws.length:=by
 obtain ⟨k,hk,rfl⟩:=D5G.1 ((A2j total S ws).subset h)
 have:=D5B.1 hk
 simp only [shE];omega
theorem A1K (qs:List Int) (R:List QE):(R4 qs R).length=qs.length:=by
 unfold R4
 induction R generalizing qs with
 | nil=>rfl
 | cons e R ih=>simp only [D6C];rw [ih];simp
theorem A9s (qs:List Int) (R:List QE) (e:QE):R4 qs (R++[e])=(R4 qs R).set e.2.toNat (gI (R4 qs R) e.2.toNat+1):=by
 unfold R4;rw [D7n];rfl
theorem L3 (f:Nat→Int) (n:Nat):A2 ((List.range (n+1)).map f)=A2 ((List.range n).map f)+f n:=by
 rw [D6L,D5P,F2];simp [A2]
theorem B0i (total S:Int) (hS:0<S) (ws:List Int):∀ i,i≤ws.length→S * A2 ((List.range i).map (shQ total S ws))+A2 ((List.range i).map fun k=>total * gI ws k % S)=total * A2 (ws.take i)
 | 0,_=>by simp [A2]
 | i+1,h=>by
  have ih:=B0i total S hS ws i (by omega)
  rw [L3,L3,K7 (by omega),D7z,D7z,←ih]
  have:=D6v (total * gI ws i) S
  unfold shQ
  omega
theorem A7u (total S:Int) (hS:0<S) (ws:List Int):∀ i,0≤A2 ((List.range i).map fun k=>total * gI ws k % S)∧A2 ((List.range i).map fun k=>total * gI ws k % S)≤i * (S - 1)
 | 0=>by simp [A2]
 | i+1=>by
  have ih:=A7u total S hS ws i
  rw [L3]
  have h1:=D6I (total * gI ws i) (show S≠0 by omega)
  have h2:=D6w (total * gI ws i) hS
  have h3:((i+1:Nat):Int) * (S - 1)=(i:Int) * (S - 1)+(S - 1):=by
   rw [show ((i+1:Nat):Int)=(i:Int)+1 by omega,D7Q,Int.one_mul]
  omega
theorem A3h {total:Int} {ws:List Int} (h:Q6 total ws) (hS:0<A2 ws):0≤F7 total (A2 ws) ws ws.length∧F7 total (A2 ws) ws ws.length≤ws.length:=by
 have e:=B0i total (A2 ws) hS ws ws.length (D5u _)
 have b:=A7u total (A2 ws) hS ws ws.length
 rw [D5w] at e
 have hk:A2 ws * F7 total (A2 ws) ws ws.length=A2 ((List.range ws.length).map fun k=>total * gI ws k % A2 ws):=by
  unfold F7
  rw [Int.mul_sub,D7B (A2 ws) total];omega
 constructor
 ·refine Int.le_of_not_gt fun hlt=>?_
  have:A2 ws * F7 total (A2 ws) ws ws.length<0:=Int.mul_neg_of_pos_of_neg hS hlt
  omega
 ·refine Int.le_of_not_gt fun hgt=>?_
  have h1:A2 ws * ((ws.length:Int)+1)≤A2 ws * F7 total (A2 ws) ws ws.length:=D6i (by omega) (by omega)
  have h2:(ws.length:Int) * (A2 ws - 1)≤A2 ws * (ws.length:Int):=by
   rw [Int.mul_sub,D8j,D7B];omega
  rw [D7z,D8j] at h1
  omega
theorem A4q {total:Int} {ws:List Int} (h:Q6 total ws) (hS:0<A2 ws) {k:Nat} (hk:k<ws.length):0≤shQ total (A2 ws) ws k∧shQ total (A2 ws) ws k≤total:=by
 have hw:=h.w0 _ (A7 hk)
 have hle:=J0 h.w0 (A7 hk)
 refine ⟨D6T (D6K h.t0 hw) (by omega),?_⟩
 have h1:total * gI ws k≤total * A2 ws:=D6i hle h.t0
 have:shQ total (A2 ws) ws k<total+1:=(D6O hS).2 (by rw [D7Q,Int.one_mul];omega)
 omega
theorem A5a {total:Int} {ws:List Int} (h:Q6 total ws) (hS:0<A2 ws) {i:Nat} (hi:i≤ws.length):0≤A2 ((List.range i).map (shQ total (A2 ws) ws))∧A2 ((List.range i).map (shQ total (A2 ws) ws))≤total:=by
 have e:=B0i total (A2 ws) hS ws i hi
 have b:=A7u total (A2 ws) hS ws i
 have t:=M8 h.w0 i
 constructor
 ·exact C1 fun x hx=>by
   obtain ⟨k,hk,rfl⟩:=D5G.1 hx
   exact (A4q h hS (by have:=D5B.1 hk;omega)).1
 ·have h1:total * A2 (ws.take i)≤total * A2 ws:=D6i t h.t0
  refine Int.le_of_not_gt fun hgt=>?_
  have:A2 ws * (total+1)≤A2 ws * A2 ((List.range i).map (shQ total (A2 ws) ws)):=D6i (by omega) (by omega)
  rw [D7z,D8j,D7B] at this
  omega
theorem A4G (qs:List Int) (R:List QE) (k:Nat):gI qs k≤gI (R4 qs R) k∧gI (R4 qs R) k≤gI qs k+R.length:=by
 unfold R4
 induction R generalizing qs with
 | nil=>simp
 | cons e R ih =>
  simp only [D6C,D5Y]
  have h:=ih (qs.set e.2.toNat (gI qs e.2.toNat+1))
  have hs:gI qs k≤gI (qs.set e.2.toNat (gI qs e.2.toNat+1)) k∧gI (qs.set e.2.toNat (gI qs e.2.toNat+1)) k≤gI qs k+1:=by
   unfold gI
   simp only [D5l,D7w]
   by_cases e1:e.2.toNat=k
   ·subst e1
    by_cases e2:e.2.toNat<qs.length
    ·simp [e2];omega
    ·simp [e2]
   ·rw [if_neg e1];omega
  omega
theorem L9 (f:Nat→Int) {n k:Nat} (hk:k<n):gI ((List.range n).map f) k=f k:=by
 unfold gI;simp [D5l,hk]
theorem C2I {l:List Int} {j:Nat} (hj:j<l.length) (x:Int) (k:Nat):gI (l.set j x) k=if k=j then x else gI l k:=by
 unfold gI
 simp only [D5l,D7w]
 by_cases h:k=j
 ·subst h;simp [hj]
 ·rw [if_neg (fun e=>h e.symm),if_neg h]
theorem A8X (total:Int) (ws:List Int) (h:Q6 total ws) (st:St):S P 238 [eI total,B0 ws] st fun v st'=>v=.tuple [B0 (D1 total ws),eI 0]∧st'=st:=by
 have hlen:=h.len
 refine S.post (post:=fun v st'=>∃ (bo:Nat) (f:Nat→AV),st bo=none∧v=.tuple [.own 1 bo 0 ws.length,eI 0]∧E5 (upd st bo ⟨2,1,ws.length,f⟩) st'∧(D1 total ws).length=ws.length∧∀ k,k<ws.length→f k=eI (gI (D1 total ws) k)) ?_
  (fun v st' ⟨bo,f,h0,hv,hs,hl,hf⟩=>⟨_,st,⟨rfl,rfl⟩,by
   rw [hv]
   refine A8.tuple (A8.cons ((hs.shift _).trans ?_) (A8.keep _ _)) rfl
   have h2:=N4 (st:=upd st bo ⟨2,1,ws.length,f⟩) (e:=1) (b:=bo) (n:=ws.length) (f:=fun k=>eI (gI (D1 total ws) k)) (A0 ..) rfl (D5u _) hf
   rw [A3v h0] at h2
   have e:B0 (D1 total ws)=.arr 1 ws.length (fun k=>eI (gI (D1 total ws) k)):=by unfold B0 A6;rw [hl]
   rw [e];exact h2⟩)
 refine F1 [] Tryz.func238 ?_
 refine H8 (C8l total ws h st) ?_
 refine mkO rfl rfl rfl (by show 8 * ws.length≤_;omega) (by omega) (by rfl) (fun bo hbo=>?_);conv=>whnf
 refine B8 (fun h1=>?_) (fun h1=>?_)<;>rw [h1]
 ·have h0:A2 ws=0:=by simpa using h1
  have hB:D1 total ws=ws.map fun _=>0:=if_pos h0
  conv=>whnf
  refine ⟨bo,_,hbo,rfl,E5.refl _,by rw [hB,D5p],fun k hk=>?_⟩
  rw [hB]
  show AV.int .i64 0=_
  rw [show gI (ws.map fun _=>(0:Int)) k=0 from D4 (fun _=>(0:Int)) ws hk]
 have hS:0<A2 ws:=by
  have h2:=C1 h.w0
  have h3:A2 ws≠0:=by simpa using h1
  omega
 have hB:D1 total ws=R4 ((List.range ws.length).map (shQ total (A2 ws) ws)) ((shR total (A2 ws) ws).take (F7 total (A2 ws) ws ws.length).toNat):=if_neg (by omega)
 have hsum:=h.sum
 have ht0:=h.t0
 have ht1:=h.t1
 conv=>whnf
 refine call (B1x _) (fun v st2 hv=>?_)
 obtain ⟨q,rfl,hq⟩:=hv
 conv=>whnf
 refine ⟨[0,6,8,9,10,35,36,37],fun m vs st'=>∃ (i:Nat) (f:Nat→AV),i≤ws.length∧m=ws.length - i∧vs=[eI total,eI (A2 ws),.own 1 bo 0 ws.length,eI (F7 total (A2 ws) ws i),.optr 1 q 0 0,B0 ws,eI ws.length,eI i] ∧
  (∀ k,k<i→f k=eI (shQ total (A2 ws) ws k))∧(∀ k,i≤k→f k=.int .i64 0)∧QSt (upd st bo ⟨2,1,ws.length,f⟩) q true ((List.range i).map (shE total (A2 ws) ws)) st',?_,?_⟩
 ·conv=>whnf
  exact ⟨_,0,fun _=>.int .i64 0,D5L _,rfl,(by simp [F7,A2];rfl),fun k hk=>absurd hk (by omega),fun _ _=>rfl,hq⟩
 ·clear hq
  rintro m vs st' ⟨i,f,hi,rfl,rfl,hf1,hf2,hq⟩
  conv=>whnf
  cases h2:decide ((i:Int)<(ws.length:Int))
  ·have:=D5q h2
   obtain rfl:i=ws.length:=by omega
   obtain ⟨l0,l1⟩:=A3h h hS
   conv=>whnf
   refine ⟨[8,10,61,62],fun m vs st'=>∃ (t:Nat) (f:Nat→AV) (fl:Bool),(t:Int)≤F7 total (A2 ws) ws ws.length∧m=(F7 total (A2 ws) ws ws.length).toNat - t∧vs=[.own 1 bo 0 ws.length,.optr 1 q 0 0,eI (F7 total (A2 ws) ws ws.length),eI t] ∧
    (∀ k,k<ws.length→f k=eI (gI (R4 ((List.range ws.length).map (shQ total (A2 ws) ws)) ((shR total (A2 ws) ws).take t)) k))∧QSt (upd st bo ⟨2,1,ws.length,f⟩) q fl ((shR total (A2 ws) ws).drop t) st',?_,?_⟩
   ·conv=>whnf
    exact ⟨_,0,f,true,by omega,rfl,rfl,fun k hk=>by rw [hf1 k hk,D7d];show _=eI (gI ((List.range ws.length).map _) k);rw [L9 _ hk],hq.perm (A2j total (A2 ws) ws).symm⟩
   ·clear hf1 hf2 hq f
    rintro m vs st' ⟨t,f,fl,ht,rfl,rfl,hf,hq⟩
    have hrl:=A6H total (A2 ws) ws
    have hby:st' bo=some ⟨2,1,ws.length,f⟩:=hq.sup bo _ (A0 ..)
    conv=>whnf
    cases h3:decide ((t:Int)<F7 total (A2 ws) ws ws.length)
    ·have h3':=D5q h3
     have hte:(F7 total (A2 ws) ws ws.length).toNat=t:=by omega
     conv=>whnf
     refine ⟨bo,f,hbo,rfl,hq.sup,by rw [hB,A1K];simp,fun k hk=>by rw [hB,hte];exact hf k hk⟩
    ·have h3':=D5o h3
     have htl:t<(shR total (A2 ws) ws).length:=by omega
     have hsplit:(shR total (A2 ws) ws).drop t=(shR total (A2 ws) ws)[t]::(shR total (A2 ws) ws).drop (t+1):=D7o htl
     have htop:∀ y∈(shR total (A2 ws) ws).drop (t+1),G3 y (shR total (A2 ws) ws)[t]=false:=fun y hy=>by
      have:=(A7w total (A2 ws) ws).sublist (D7Y t _)
      rw [hsplit,D6X] at this
      exact this.1 y hy
     have hx:=B0n (D6J htl)
     have htake:(shR total (A2 ws) ws).take (t+1)=(shR total (A2 ws) ws).take t++[(shR total (A2 ws) ws)[t]]:=D7q htl
     rw [hsplit] at hq
     generalize (shR total (A2 ws) ws)[t]=x at *
     have hb1:=A4G ((List.range ws.length).map (shQ total (A2 ws) ws)) ((shR total (A2 ws) ws).take t) x.2.toNat
     have hb2:=A4q h hS hx.2
     rw [L9 _ hx.2,D5v] at hb1;conv=>whnf
     refine call (A9i _ _ _ _ _ _ hq htop) (fun v st'' hv=>?_)
     obtain ⟨rfl,hq'⟩:=hv
     have hby':st'' bo=some ⟨2,1,ws.length,f⟩:=hq'.sup bo _ (A0 ..)
     conv=>whnf
     refine E4 ?_
     refine ldV hby' rfl (by omega) (v:=eI (gI (R4 ((List.range ws.length).map (shQ total (A2 ws) ws)) ((shR total (A2 ws) ws).take t)) x.2.toNat)) (by rw [D5A];exact hf _ hx.2) ?_;conv=>whnf
     refine E4 ?_
     refine stV hby' rfl (by omega) (v:=eI (gI (R4 ((List.range ws.length).map (shQ total (A2 ws) ws)) ((shR total (A2 ws) ws).take t)) x.2.toNat)) (by rw [D5A];exact hf _ hx.2) (by rfl) ?_;conv=>whnf
     refine F8 ?_
     have hg:=hq'.grow (bo':=bo) (y':=⟨2,1,ws.length,H7 f (0+x.2.toNat) (eI (IntKind.i64.wrap (gI (R4 ((List.range ws.length).map (shQ total (A2 ws) ws)) ((shR total (A2 ws) ws).take t)) x.2.toNat+1)))⟩) hbo (.inl rfl)
     rw [B0q] at hg
     refine ⟨(F7 total (A2 ws) ws ws.length).toNat - (t+1),by omega,t+1,_,false,by omega,rfl,by rw [B3 (by omega)],fun k hk=>?_,hg.2⟩
     rw [htake,A9s,C2I (by rw [A1K];simpa using hx.2),D5A]
     by_cases e1:k=x.2.toNat
     ·rw [if_pos e1,e1,A4,A5 (by omega) (by omega)]
     ·rw [if_neg e1,H3 e1];exact hf k hk
  ·have hi':i<ws.length:=by have:=D5o h2;omega
   have hm:gI ws i∈ws:=A7 hi'
   have hby:st' bo=some ⟨2,1,ws.length,f⟩:=hq.sup bo _ (A0 ..)
   have hqb:=A5a h hS (show i≤ws.length by omega)
   have hqb':=A5a h hS (show i+1≤ws.length by omega)
   have hsr:=L3 (shQ total (A2 ws) ws) i
   conv=>whnf
   refine E4 ?_
   refine H8 (C7Q total (gI ws i) (A2 ws) h.t0 h.t1 (h.w0 _ hm) (J0 h.w0 hm) hS h.sum _) ?_
   refine E4 ?_
   refine stV hby rfl (by omega) (v:=.int .i64 0) (by rw [show 0+(i:Int).toNat=i by omega];exact hf2 i (D5u _)) (by rfl) ?_
   conv=>whnf
   have hg:=hq.grow (bo':=bo) (y':=⟨2,1,ws.length,H7 f (0+(i:Int).toNat) (eI (shQ total (A2 ws) ws i))⟩) hbo (.inl rfl)
   rw [B0q] at hg
   refine call (A8n _ q _ (total * gI ws i % A2 ws) i _ hg.2 (by rw [D5p,D5O];omega)) (fun v st'' hv=>?_)
   obtain ⟨rfl,hq'⟩:=hv
   conv=>whnf
   refine F8 ?_
   refine ⟨ws.length - (i+1),by omega,i+1,H7 f (0+(i:Int).toNat) (eI (shQ total (A2 ws) ws i)),by omega,rfl,?_,fun k hk=>?_,fun k hk=>?_,?_⟩
   ·rw [B3 (by omega)]
    have e:IntKind.i64.wrap (F7 total (A2 ws) ws i - total * gI ws i / A2 ws)=F7 total (A2 ws) ws (i+1):=by
     unfold F7
     have:total * gI ws i / A2 ws=shQ total (A2 ws) ws i:=rfl
     rw [this,A5 (by omega) (by omega)];omega
    rw [e]
   ·by_cases e1:k=i
    ·subst e1;rw [show 0+(k:Int).toNat=k by omega,A4]
    ·rw [H3 (by omega)];exact hf1 k (by omega)
   ·rw [H3 (by omega)];exact hf2 k (by omega)
   ·rw [D6L,D5P];exact hq'
abbrev C6 (l:List B2):AV:=A6 3 Y4 l
abbrev gU (l:List B2) (k:Nat):B2:=l.getD k default
abbrev D6 (us:List B2):List Int:=us.map B2.net
structure E1 (us:List B2):Prop where
 len:us.length≤100000
 pos:∀ u∈us,0≤u.net
 sum:A2 (D6 us)≤10000000000000
structure N6 (us:List B2) (mine:List Int):Prop where
 rng:∀ k,k<mine.length→0≤gI mine k∧(gI mine k).toNat<us.length
 opn:∀ k,k<mine.length→(gU us (gI mine k).toNat).opn=true
 inc:∀ k,k+1<mine.length→gI mine k<gI mine (k+1)
theorem E1.nets0 {us:List B2} (h:E1 us):∀ x∈D6 us,0≤x:=fun x hx=>by
 obtain ⟨u,hu,rfl⟩:=D5G.1 hx
 exact h.pos u hu
theorem E1.le {us:List B2} (h:E1 us) {u:B2} (hu:u∈us):u.net≤10000000000000:=by
 have:=J0 h.nets0 (D8a (f:=B2.net) hu)
 have:=h.sum
 omega
theorem N6.lt {us:List B2} {mine:List Int} (h:N6 us mine):∀ j k,j<k→k<mine.length→gI mine j<gI mine k:=fun j k hjk hk=>by
 induction k with
 | zero=>omega
 | succ k ih =>
  rcases D6S j k with hlt | hge
  ·exact Int.lt_trans (ih hlt (by omega)) (h.inc k hk)
  ·have:j=k:=by omega
   subst this;exact h.inc j hk
theorem N6.len {us:List B2} {mine:List Int} (h:N6 us mine):mine.length≤us.length:=by
 have:∀ k,k<mine.length→(k:Int)≤gI mine k:=fun k=>by
  induction k with
  | zero=>intro hk;exact (h.rng 0 hk).1
  | succ k ih=>intro hk;have:=ih (by omega);have:=h.inc k hk;omega
 rcases D6N mine.length with e | e
 ·omega
 ·have h1:=this (mine.length - 1) (by omega)
  have h2:=(h.rng (mine.length - 1) (by omega)).2
  omega
theorem C7K (us:List B2) (h:E1 us) (st:St):S P 313 [C6 us] st fun v st'=>v=.bool true∧st'=st:=by
 have hlen:=h.len
 refine F1 [5] Tryz.func313 ?_
 refine B8 (fun h1=>?_) (fun h1=>?_)<;>rw [h1]<;>simp only [D5n,D5m] at h1
 ·exact absurd h1 (by omega)
 conv=>whnf
 refine ⟨[3,9,10,11],fun m vs st'=>∃ i:Nat,i≤us.length∧m=us.length - i∧vs=[eI (A2 ((D6 us).take i)),C6 us,eI us.length,eI i]∧st'=st,?_,?_⟩
 ·conv=>whnf
  exact ⟨_,0,D5L _,rfl,rfl,rfl⟩
 ·rintro m vs st' ⟨i,hi,rfl,rfl,rfl⟩
  conv=>whnf
  cases h2:decide ((i:Int)<(us.length:Int))
  ·have:=D5q h2
   obtain rfl:i=us.length:=by omega
   have hs:=h.sum
   rw [show (D6 us).take us.length=D6 us from by rw [←D5p (f:=B2.net),D5w]];conv=>whnf
   refine ⟨?_,rfl⟩
   show AV.bool (decide _)=_
   rw [D5U hs]
  ·have hi':i<us.length:=by have:=D5o h2;omega
   have hu:gU us i∈us:=A7 hi'
   have p0:=h.pos _ hu
   have p1:=h.le hu
   have hsum:=h.sum
   have e1:=K7 (l:=D6 us) (i:=i) (by rw [D5p];exact hi')
   have e2:=M8 h.nets0 (i+1)
   have e3:=C1 (l:=(D6 us).take i) (fun x hx=>h.nets0 x (D6p _ _ hx))
   have e4:gI (D6 us) i=(gU us i).net:=D4 B2.net us hi'
   have w:IntKind.i64.wrap (A2 ((D6 us).take i)+(gU us i).net)=A2 ((D6 us).take (i+1)):=by rw [e1,e4];exact A5 (by omega) (by omega)
   conv=>whnf
   refine E4 ?_
   refine B8 (fun h3=>?_) (fun h3=>?_)<;>rw [h3]
   ·exact absurd (D5o h3) (by show ¬(gU us i).net<0;omega)
   conv=>whnf
   refine B8 (fun h4=>?_) (fun h4=>?_)<;>rw [h4]
   ·exact absurd (D5o h4) (by show ¬(gU us i).net>10000000000000;omega)
   conv=>whnf
   refine F8 ?_
   exact ⟨us.length - (i+1),by omega,i+1,by omega,rfl,by rw [B3 (by omega),←w];rfl,rfl⟩
theorem B0J (us:List B2) (mine:List Int) (h:E1 us) (hm:N6 us mine) (st:St):S P 294 [C6 us,B0 mine] st fun v st'=>v=.bool true∧st'=st:=by
 have hlen:=h.len
 have hml:=hm.len
 refine F1 [] Tryz.func294 ?_
 refine H8 (C7K us h st) ?_
 refine ⟨[0,5,11,12,13],fun m vs st'=>∃ i:Nat,i≤mine.length∧m=mine.length - i∧vs=[C6 us,eI (if i=0 then -1 else gI mine (i - 1)),B0 mine,eI mine.length,eI i]∧st'=st,?_,?_⟩
 ·conv=>whnf
  exact ⟨_,0,D5L _,rfl,rfl,rfl⟩
 ·rintro m vs st' ⟨i,hi,rfl,rfl,rfl⟩
  conv=>whnf
  cases h2:decide ((i:Int)<(mine.length:Int))
  ·conv=>whnf
   exact ⟨rfl,rfl⟩
  ·have hi':i<mine.length:=by have:=D5o h2;omega
   have hr:=hm.rng i hi'
   have ho:=hm.opn i hi'
   have hlast:(if i=0 then -1 else gI mine (i - 1))<gI mine i:=by
    split
    ·omega
    ·exact hm.lt (i - 1) i (by omega) hi'
   conv=>whnf
   refine E4 ?_
   refine B8 (fun h3=>?_) (fun h3=>?_)<;>rw [h3]
   ·exact absurd (D5o h3) (by show ¬ gI mine i≤_;omega)
   conv=>whnf
   refine B8 (fun h4=>?_) (fun h4=>?_)<;>rw [h4]
   ·exact absurd (D5o h4) (by show ¬ gI mine i≥(us.length:Int);omega)
   conv=>whnf
   refine ⟨rfl,⟨by show 0≤gI mine i;omega,by show gI mine i<(us.length:Int);omega⟩,?_⟩;conv=>whnf
   rw [show (us.getD (mine.getD (i:Int).toNat default).toNat default).opn=true from ho];conv=>whnf
   refine F8 ?_
   exact ⟨mine.length - (i+1),by omega,i+1,by omega,rfl,by rw [B3 (by omega),if_neg (show ¬ i+1=0 by omega)];rfl,rfl⟩
def J6 (x rate:Int):Int:=(if 0≤rate∧rate≤10000 then X2 x rate 10000 1 else (0,2)).1
theorem S5 (x rate:Int):0≤J6 x rate∧J6 x rate≤100000000000000:=by
 unfold J6
 split
 ·unfold X2
  split
  ·exact ⟨D5W _,by decide⟩
  ·rename_i hb
   rw [D7I] at hb
   simp only [S7,D5r,D5n,D7X,ne_eq] at hb
   have hq:0≤x * rate / 10000:=D6T (D6K hb.1.1.1.1.1.1 hb.1.1.1.1.2.1) (by omega)
   split
   ·exact ⟨D5W _,by decide⟩
   ·split
    ·exact ⟨D5W _,by decide⟩
    ·rename_i h1 h2
     refine ⟨?_,Int.le_of_not_gt h2⟩
     show 0≤S8 (x * rate / 10000) (x * rate % 10000) 10000 1
     unfold S8
     repeat' split
     all_goals omega
 ·exact ⟨D5W _,by decide⟩
def P8 (x rate amount:Int):Int:=if x<J6 x rate+amount then x else J6 x rate+amount
theorem C6S (x rate amount:Int) (h0:0≤amount) (h1:amount≤10000000000000) (st:St):S P 316 [eI x,eI rate,eI amount] st fun v st'=>v=eI (P8 x rate amount)∧st'=st:=by
 refine F1 [] Tryz.func316 ?_
 refine B4 (B7S x rate 1 st) ?_
 have hb:=S5 x rate
 have w:IntKind.i64.wrap (J6 x rate+amount)=J6 x rate+amount:=A5 (by omega) (by omega)
 conv=>whnf
 refine ⟨?_,rfl⟩
 show AV.int .i64 (if x<IntKind.i64.wrap (J6 x rate+amount) then x else IntKind.i64.wrap (J6 x rate+amount))=_
 rw [w];rfl
theorem A0c {x rate amount:Int} (hx:0≤x) (h0:0≤amount):0≤P8 x rate amount∧P8 x rate amount≤x:=by
 have:=S5 x rate
 unfold P8
 split<;>omega
def B5i (p:B1) (nets:List Int):AV:=.agg [eS p.id,eI p.kind,eI p.prio,eS p.group,eS p.code,eB p.closes,C7 p.scope.skus,C7 p.scope.cats,eI p.least,eI p.rate,eI p.amount,eI p.buy,eI p.get,A6 3 U9 p.parts,A6 3 R1 p.tiers,B0 nets]
theorem B7e (p:B1) (nets:List Int) (rate amount:Int) (h0:0≤amount) (h1:amount≤10000000000000) (hl:nets.length≤100000) (st:St):S P 314 [B5i p nets,eI rate,eI amount] st fun v st'=>v=B0 (nets.map fun x=>P8 x rate amount)∧st'=st:=by
 have he:B0 (nets.map fun x=>P8 x rate amount)=.arr 1 nets.length (fun k=>eI (gI (nets.map fun x=>P8 x rate amount) k)):=by unfold B0 A6;rw [D5p]
 rw [he]
 refine C1Q (ty:=2) ?_
 refine F1 [3] Tryz.func314 ?_
 refine ⟨[1,2,7,11,12,13],fun m vs st'=>∃ (i:Nat) (sv:AV),i≤nets.length∧m=nets.length - i∧vs=[eI rate,eI amount,sv,B0 nets,eI nets.length,eI i]∧Col 2 1 (fun k=>eI (gI (nets.map fun x=>P8 x rate amount) k)) st i sv st',?_,?_⟩
 ·conv=>whnf
  exact ⟨_,0,.emp,D5L _,rfl,rfl,Col.start _ _ _ _⟩
 ·rintro m vs st' ⟨i,sv,hi,rfl,rfl,hc⟩
  conv=>whnf
  cases h:decide ((i:Int)<(nets.length:Int))
  ·have:=D5q h
   obtain rfl:i=nets.length:=by omega
   conv=>whnf
   exact hc
  ·have hi':i<nets.length:=by have:=D5o h;omega
   conv=>whnf
   refine E4 ?_
   refine H8 (C6S (gI nets i) rate amount h0 h1 _) ?_
   refine Col.app (q:=r2) rfl rfl rfl rfl rfl ?_ (by show (i+1) * 8≤140737488355328;omega) hc (fun sv' st'' hc'=>?_)
   ·rw [show gI (nets.map fun x=>P8 x rate amount) i=P8 (gI nets i) rate amount from D4 (fun x=>P8 x rate amount) nets hi'];rfl
   conv=>whnf
   refine F8 ?_
   exact ⟨nets.length - (i+1),by omega,i+1,sv',by omega,rfl,by rw [B3 (by omega)],hc'⟩
def B5B (p:B1) (nets:List Int):List Int:=nets.map fun x=>P8 x p.rate 0
def B5A (p:B1) (nets:List Int):List Int:=nets.map fun x=>P8 x 0 p.amount
theorem C0J (p:B1) (nets:List Int) (hl:nets.length≤100000) (st:St):S P 298 [B5i p nets] st fun v st'=>v=B0 (B5B p nets)∧st'=st:=by
 refine F1 [1] Tryz.func298 ?_
 refine H8 (B7e p nets p.rate 0 (by omega) (by omega) hl st) ?_
 exact ⟨rfl,rfl⟩
theorem C1Z (p:B1) (nets:List Int) (h0:0≤p.amount) (h1:p.amount≤10000000000000) (hl:nets.length≤100000) (st:St):S P 299 [B5i p nets] st fun v st'=>v=B0 (B5A p nets)∧st'=st:=by
 refine F1 [1] Tryz.func299 ?_
 refine H8 (B7e p nets 0 p.amount h0 h1 hl st) ?_
 exact ⟨rfl,rfl⟩
def O0 (l:List A0L) (x:Int):Option A0L:=l.reverse.find? fun t=>decide (t.least≤x)
theorem A4K {α : Type} [Inhabited α] {l:List α} {k:Nat} (hk:k<l.length):l.reverse.getD k default=l.getD (l.length - 1 - k) default:=by
 rw [D5l,D5l,List.getElem?_reverse hk]
theorem A8p {l:List A0L} {x:Int} {i:Nat} (hi:i<l.length) (h:∀ k,i<k→k<l.length→decide ((l.getD k default).least≤x)=false) (hp:decide ((l.getD i default).least≤x)=true):O0 l x=some (l.getD i default):=by
 have e:l.getD i default=l.reverse.getD (l.length - 1 - i) default:=by
  rw [A4K (by omega),show l.length - 1 - (l.length - 1 - i)=i by omega]
 rw [e] at hp ⊢
 exact A4d (by rw [List.length_reverse];omega) (fun k hk=>by rw [A4K (by omega)];exact h _ (by omega) (by omega)) hp
theorem A8o {l:List A0L} {x:Int} (h:∀ k,k<l.length→decide ((l.getD k default).least≤x)=false):O0 l x=none :=
 A8P fun k hk=>by rw [List.length_reverse] at hk;rw [A4K hk];exact h _ (by omega)
theorem B3i (l:List A0L) (x:Int) (hl:l.length≤100000) (st:St):S P 315 [A6 3 R1 l,eI x] st fun v st'=>v=.tuple [R1 ((O0 l x).getD default),.bool (O0 l x).isSome]∧st'=st:=by
 refine A2c ?_
 refine F1 [] Tryz.func315 ?_
 intro b hb;conv=>whnf
 have w0:IntKind.i64.wrap ((l.length:Int) - 1)=(l.length:Int) - 1:=A5 (by omega) (by omega)
 refine ⟨[0,1,4,6],fun m vs st'=>∃ (i:Int) (f:Nat→AV) (u:A0L),-1≤i∧i<l.length∧(∀ k:Nat,i<k→k<l.length→decide ((l.getD k default).least≤x)=false)∧m=(i+1).toNat∧vs=[A6 3 R1 l,eI x,.optr 3 b 0 0,eI i]∧st'=upd st b ⟨300,3,1,f⟩∧f 0=R1 u,?_,?_⟩
 ·conv=>whnf
  exact ⟨_,(l.length:Int) - 1,_,default,by omega,by omega,fun k h1 h2=>by omega,rfl,by rw [w0],rfl,rfl⟩
 ·rintro m vs st' ⟨i,f,u,h0,hi,hno,rfl,rfl,rfl,hf⟩
  conv=>whnf
  cases h:decide (i≥0)
  ·have:=D5q h
   have hr:O0 l x=none:=A8o fun k hk=>hno k (by omega) hk
   conv=>whnf
   refine X1 (A0 ..) hf ?_
   refine I1 (A0 ..) (A4 ..) ?_
   refine ⟨by rw [hr];rfl,((E5.refl st).upd hb).over hb⟩
  ·have hi0:=D5o h
   conv=>whnf
   refine E4 ?_
   refine B8 (fun h1=>?_) (fun h1=>?_)
   ·have hr:O0 l x=some (l.getD i.toNat default):=A8p (by omega) (fun k h2 h3=>hno k (by omega) h3) h1
    rw [h1];conv=>whnf
    refine E4 ?_
    refine X1 (A0 ..) hf ?_
    refine I1 (A0 ..) (A4 ..) ?_
    refine ⟨by rw [hr];rfl,((E5.refl st).upd hb).over hb⟩
   ·have w:IntKind.i64.wrap (i - 1)=i - 1:=A5 (by omega) (by omega)
    rw [h1];conv=>whnf
    refine F8 ?_
    refine ⟨i.toNat,by omega,i - 1,f,u,by omega,by omega,fun k h2 h3=>?_,by omega,by rw [w],rfl,hf⟩
    rcases (by omega:k=i.toNat∨i<k) with e | e
    ·rw [e];exact h1
    ·exact hno k e h3
def A7K (l:List A0L):Prop:=l.length≤6∧∀ t∈l,0≤t.amount∧t.amount≤10000000000000
theorem A0e {l:List A0L} (h:A7K l) (x:Int):0≤((O0 l x).getD default).amount∧((O0 l x).getD default).amount≤10000000000000:=by
 cases hr:O0 l x with
 | none=>exact ⟨D5W _,by decide⟩
 | some t =>
  have:t∈l:=List.mem_reverse.1 (D7K hr)
  exact h.2 t this
def A5g (p:B1) (nets:List Int):List Int:=match O0 p.tiers nets.length with
 | none=>[]
 | some t=>nets.map fun x=>P8 x t.rate t.amount
def A5h (p:B1) (nets:List Int):List Int:=match O0 p.tiers (A2 nets) with
 | none=>[]
 | some t=>D1 (P8 (A2 nets) t.rate t.amount) nets
theorem C4V (p:B1) (nets:List Int) (ht:A7K p.tiers) (hl:nets.length≤100000) (st:St):S P 301 [B5i p nets] st fun v st'=>v=B0 (A5g p nets)∧st'=st:=by
 refine S.post (post:=fun v st'=>(v=B0 (A5g p nets)∨(A5g p nets=[]∧v=.emp))∧E5 st st') ?_ (fun v st' ⟨h,hs⟩=>⟨_,st,⟨rfl,rfl⟩,(hs.shift _).trans (by
  rcases h with rfl | ⟨h0,rfl⟩
  ·exact A8.keep _ _
  ·rw [h0];exact H9 1 _)⟩)
 have htl:=ht.1
 refine F1 [1] Tryz.func301 ?_
 refine H8 (B3i p.tiers nets.length (by omega) st) ?_
 intro b hb;conv=>whnf
 refine X1 (A0 ..) rfl ?_
 have hsup:∀ x y:L6,E5 st (upd (upd st b x) b y):=fun x y=>((E5.refl st).upd hb).over hb
 have hok:=A0e ht nets.length
 cases hr:O0 p.tiers nets.length with
 | none =>
  have hB:A5g p nets=[]:=by unfold A5g;rw [hr]
  conv=>whnf
  exact ⟨.inr ⟨hB,rfl⟩,hsup _ _⟩
 | some t =>
  have hB:A5g p nets=nets.map fun x=>P8 x t.rate t.amount:=by unfold A5g;rw [hr]
  rw [hr] at hok;conv=>whnf
  refine ldV (A0 ..) rfl (by omega) (v:=R1 t) (by rw [A4];rfl) ?_;conv=>whnf
  refine ldV (A0 ..) rfl (by omega) (v:=R1 t) (by rw [A4];rfl) ?_;conv=>whnf
  refine H8 (B7e p nets t.rate t.amount hok.1 hok.2 hl _) ?_
  exact ⟨.inl (by rw [hB];rfl),hsup _ _⟩
theorem C6l (p:B1) (nets:List Int) (ht:A7K p.tiers) (hl:nets.length≤100000) (h0:∀ x∈nets,0≤x) (hs:A2 nets≤10000000000000) (st:St):S P 300 [B5i p nets] st fun v st'=>v=B0 (A5h p nets)∧st'=st:=by
 refine S.post (post:=fun v st'=>(v=B0 (A5h p nets)∨(A5h p nets=[]∧v=.emp))∧E5 st st') ?_ (fun v st' ⟨h,hs⟩=>⟨_,st,⟨rfl,rfl⟩,(hs.shift _).trans (by
  rcases h with rfl | ⟨h0,rfl⟩
  ·exact A8.keep _ _
  ·rw [h0];exact H9 1 _)⟩)
 have htl:=ht.1
 have hsn:=C1 h0
 refine F1 [1] Tryz.func300 ?_
 refine ⟨[1,3,11,12,13],fun m vs st'=>∃ i:Nat,i≤nets.length∧m=nets.length - i∧vs=[.fptr (B5i p nets) 0,eI (A2 (nets.take i)),B0 nets,eI nets.length,eI i]∧st'=st,?_,?_⟩
 ·conv=>whnf
  exact ⟨_,0,D5L _,rfl,rfl,rfl⟩
 ·rintro m vs st' ⟨i,hi,rfl,rfl,rfl⟩
  conv=>whnf
  cases h:decide ((i:Int)<(nets.length:Int))
  ·have:=D5q h
   obtain rfl:i=nets.length:=by omega
   rw [D5w];conv=>whnf
   refine H8 (B3i p.tiers (A2 nets) (by omega) _) ?_
   intro b hb;conv=>whnf
   refine X1 (A0 ..) rfl ?_
   have hsup:∀ x y:L6,E5 st' (upd (upd st' b x) b y):=fun x y=>((E5.refl st').upd hb).over hb
   have hok:=A0e ht (A2 nets)
   cases hr:O0 p.tiers (A2 nets) with
   | none =>
    have hB:A5h p nets=[]:=by unfold A5h;rw [hr]
    conv=>whnf
    exact ⟨.inr ⟨hB,rfl⟩,hsup _ _⟩
   | some t =>
    have hB:A5h p nets=D1 (P8 (A2 nets) t.rate t.amount) nets:=by unfold A5h;rw [hr]
    rw [hr] at hok
    have hob:0≤P8 (A2 nets) t.rate t.amount∧P8 (A2 nets) t.rate t.amount≤A2 nets:=A0c hsn hok.1
    have hW:Q6 (P8 (A2 nets) t.rate t.amount) nets:=⟨hob.1,by omega,hl,h0,by omega,fun e=>by omega⟩
    conv=>whnf
    refine ⟨[],[],[0,1,2,3,4,5,6,7,8,9,10,11,12,13],by kernel_rfl,?_⟩;conv=>whnf
    refine ldV (A0 ..) rfl (by omega) (v:=R1 t) (by rw [A4];rfl) ?_;conv=>whnf
    refine ldV (A0 ..) rfl (by omega) (v:=R1 t) (by rw [A4];rfl) ?_;conv=>whnf
    refine cqW (C6S (A2 nets) t.rate t.amount hok.1 hok.2 _) ?_
    refine cqW (A8X _ nets hW _) ?_
    exact ⟨.inl (by rw [hB];rfl),hsup _ _⟩
  ·have hi':i<nets.length:=by have:=D5o h;omega
   have e1:=K7 hi'
   have e2:=M8 h0 (i+1)
   have e3:=C1 (l:=nets.take i) (fun x hx=>h0 x (D6p _ _ hx))
   have e4:0≤gI nets i:=h0 _ (A7 hi')
   have w:IntKind.i64.wrap (A2 (nets.take i)+gI nets i)=A2 (nets.take (i+1)):=by rw [e1];exact A5 (by omega) (by omega)
   conv=>whnf
   refine E4 ?_
   refine F8 ?_
   exact ⟨nets.length - (i+1),by omega,i+1,by omega,rfl,by rw [B3 (by omega),←w];rfl,rfl⟩
def A5t (st:St) (b:Nat) (us:List B2):Prop:=∃ f,st b=some ⟨223,3,us.length,f⟩∧∀ k,k<us.length→f k=Y4 (gU us k)
theorem A5H {us:List B2} {j:Nat} (hj:j<us.length) (x:B2) (k:Nat):gU (us.set j x) k=if k=j then x else gU us k:=by
 unfold gU
 simp only [D5l,D7w]
 by_cases h:k=j
 ·subst h;simp [hj]
 ·rw [if_neg (fun e=>h e.symm),if_neg h]
def close1 (us:List B2) (i:Nat):List B2:=us.set i { gU us i with opn:=false }
def closeB (us:List B2) (mine:List Int):List B2:=mine.foldl (fun us i=>close1 us i.toNat) us
theorem A1M (us:List B2) (mine:List Int):(closeB us mine).length=us.length:=by
 unfold closeB
 induction mine generalizing us with
 | nil=>rfl
 | cons x l ih=>simp only [D6C];rw [ih];simp [close1]
theorem A5t.set {st':St} {b:Nat} {us:List B2} {f:Nat→AV} (hf:∀ k,k<us.length→f k=Y4 (gU us k)) {j:Nat} (hj:j<us.length) (x:B2) (h:st' b=some ⟨223,3,us.length,H7 f j (Y4 x)⟩):A5t st' b (us.set j x):=by
 refine ⟨_,by rw [h,D6H],fun k hk=>?_⟩
 rw [D6H] at hk
 rw [A5H hj]
 by_cases e:k=j
 ·rw [if_pos e,e,A4]
 ·rw [if_neg e,H3 e];exact hf k hk
theorem B3L (b:Nat) (us:List B2) (mine:List Int) (hm:∀ x∈mine,0≤x∧x.toNat<us.length) (hl:mine.length≤1000000) (st:St) (hb:A5t st b us) :
  S P 297 [.own 3 b 0 us.length,B0 mine] st fun v st'=>v=.tuple []∧A5t st' b (closeB us mine)∧∀ c,c≠b→st' c=st c:=by
 refine F1 [] Tryz.func297 ?_
 refine ⟨[0,6,7,8],fun m vs st'=>∃ i:Nat,i≤mine.length∧m=mine.length - i∧vs=[.own 3 b 0 us.length,B0 mine,eI mine.length,eI i]∧A5t st' b (closeB us (mine.take i))∧∀ c,c≠b→st' c=st c,?_,?_⟩
 ·conv=>whnf
  exact ⟨_,0,D5L _,rfl,rfl,hb,fun _ _=>rfl⟩
 ·rintro m vs st' ⟨i,hi,rfl,rfl,⟨f,hst,hf⟩,hfr⟩
  have hlen:=A1M us (mine.take i)
  conv=>whnf
  cases h:decide ((i:Int)<(mine.length:Int))
  ·have:=D5q h
   obtain rfl:i=mine.length:=by omega
   rw [D5w] at hst hf;conv=>whnf
   exact ⟨rfl,⟨f,hst,hf⟩,hfr⟩
  ·have hi':i<mine.length:=by have:=D5o h;omega
   have hx:0≤gI mine i∧(gI mine i).toNat<us.length:=hm _ (A7 hi')
   conv=>whnf
   refine E4 ?_
   refine ⟨rfl,⟨by show 0≤gI mine i;exact hx.1,by show gI mine i<(us.length:Int);have:=hx.2;have:=hx.1;omega⟩,?_⟩;conv=>whnf
   refine stV hst rfl (by show 0+(gI mine i).toNat<_;have:=hx.2;omega) (v:=Y4 (gU (closeB us (mine.take i)) (gI mine i).toNat)) (by rw [D5A];exact hf _ (show (gI mine i).toNat<(closeB us (mine.take i)).length by have:=hx.2;omega)) (by rfl) ?_;conv=>whnf
   refine F8 ?_
   refine ⟨mine.length - (i+1),by omega,i+1,by omega,rfl,by rw [B3 (by omega)],?_,fun c hc=>by rw [A9 hc];exact hfr c hc⟩
   have e:closeB us (mine.take (i+1))=close1 (closeB us (mine.take i)) (gI mine i).toNat:=I6 hi' _ _
   rw [e]
   refine A5t.set hf (by have:=hx.2;omega) _ ?_
   rw [A0,D5A];rfl
theorem B0F (us:List B2) (hl:us.length≤100000) (st:St):S P 293 [C6 us] st fun v st'=>Col 223 3 (fun k=>Y4 (gU us k)) st us.length v st':=by
 refine SyW [] Tryz.func293 ?_
 cases us with
 | nil =>
  conv=>whnf
  refine ⟨?_,?_⟩
  ·conv=>whnf
   exact Col.start _ _ _ _
  ·conv=>whnf
   refine apE rfl rfl rfl rfl rfl (by show 0 * 24≤_;omega) (fun _=>?_) (fun h=>absurd h (by show ¬ 0<0;omega));conv=>whnf
   exact Col.start _ _ _ _
 | cons u us =>
  conv=>whnf
  refine Col.apps (n:=0) (m:=us.length+1) (q:=C0P) (f:=fun k=>Y4 (gU (u::us) k)) rfl rfl rfl rfl rfl (fun i hi=>by rw [D5A]) (by show (0+(us.length+1)) * 24≤140737488355328;simp only [D5Y] at hl;omega) (Col.start _ _ _ _) (fun sv' st'' hc'=>?_);conv=>whnf
  rw [D5A] at hc'
  exact hc'
theorem A8.agg {a b:List AV} {st st':St} (h:A8 a st b st'):A8 [.agg a] st [.agg b] st':=A8.one fun w c hS hr=>by
 cases hr with
 | agg cs vs hlen hg =>
  obtain ⟨h1,h2,h3⟩:=h w vs hS ⟨hlen,hg⟩
  exact ⟨h1,h3,.agg _ _ h2.1 h2.2⟩
theorem A8.last {v v':AV} {s t:St} (h:A8 [v] s [v'] t):∀ cs:List AV,A8 (cs++[v]) s (cs++[v']) t
 | []=>h
 | x::cs=>A8.cons (A8.keep [x] s) (A8.last h cs)
def A5m (st:St) (us:List B2) (sv:AV) (st':St):Prop:=E5 st st'∧((us=[]∧sv=.emp)∨∃ b,st b=none∧sv=.own 3 b 0 us.length∧A5t st' b us)
theorem A5m.shift {st:St} {us:List B2} {sv:AV} {st':St} (h:A5m st us sv st'):A8 [sv] st' [C6 us] st:=by
 obtain ⟨hs,⟨rfl,rfl⟩ | ⟨b,hb,rfl,f,hst,hf⟩⟩:=h
 ·exact (hs.shift _).trans (H9 3 _)
 ·have hsup:E5 (upd st b ⟨223,3,us.length,f⟩) st':=fun c x hc=>by
   by_cases e:c=b
   ·subst e;rw [A0] at hc;rw [hst];exact hc
   ·rw [A9 e] at hc;exact hs c x hc
  have h2:=N4 (st:=upd st b ⟨223,3,us.length,f⟩) (e:=3) (b:=b) (n:=us.length) (f:=fun k=>Y4 (gU us k)) (A0 ..) rfl (D5u _) hf
  rw [A3v hb] at h2
  exact (hsup.shift _).trans h2
theorem A5m.ofCol {st:St} {us:List B2} {sv:AV} {st':St} (h:Col 223 3 (fun k=>Y4 (gU us k)) st us.length sv st'):A5m st us sv st':=by
 rcases h with ⟨h0,rfl,rfl⟩ | ⟨h0,b,g,hb,rfl,rfl,hg⟩
 ·exact ⟨E5.refl _,.inl ⟨D5V h0,rfl⟩⟩
 ·exact ⟨(E5.refl st).upd hb,.inr ⟨b,hb,rfl,g,A0 ..,hg⟩⟩
def E2 (us:List B2) (mine:List Int):List Int:=mine.map fun i=>(gU us i.toNat).net
def O4 (p:B1) (nets:List Int):List Int:=if p.kind=1 then B5B p nets else if p.kind=2 then B5A p nets else if p.kind=5 then A5h p nets else A5g p nets
def less1 (us:List B2) (i:Nat) (x:Int):List B2:=us.set i { gU us i with net:=(gU us i).net - x }
def C9 (us:List B2) (mine offs:List Int):Nat→List B2
 | 0=>us
 | k+1=>less1 (C9 us mine offs k) (gI mine k).toNat (gI offs k)
def Z0 (p:B1) (us:List B2) (mine:List Int):List B2×Int :=
 let offs:=O4 p (E2 us mine)
 let us1:=C9 us mine offs offs.length
 (if (decide (A2 offs>0)&&p.closes)=true then closeB us1 mine else us1,A2 offs)
theorem P6 (us:List B2) (mine offs:List Int) (k:Nat):(C9 us mine offs k).length=us.length:=by
 induction k with
 | zero=>rfl
 | succ k ih=>unfold C9 less1;rw [D6H,ih]
theorem A9L {us:List B2} {mine offs:List Int} (hm:N6 us mine):∀ k,k≤mine.length→∀ j,j<us.length→(∀ i,i<k→j≠(gI mine i).toNat)→gU (C9 us mine offs k) j=gU us j
 | 0,_,j,hj,_=>rfl
 | k+1,hk,j,hj,hne=>by
  have ih:=A9L (offs:=offs) hm k (by omega) j hj (fun i hi=>hne i (by omega))
  unfold C9 less1
  rw [A5H (by rw [P6];exact (hm.rng k (by omega)).2),if_neg (hne k (by omega))]
  exact ih
theorem B8p {us:List B2} {mine offs:List Int} (hm:N6 us mine) {k:Nat} (hk:k<mine.length):gU (C9 us mine offs k) (gI mine k).toNat=gU us (gI mine k).toNat :=
 A9L hm k (by omega) _ (hm.rng k hk).2 fun i hi=>by
  have h1:=hm.lt i k hi hk
  have h2:=(hm.rng i (by omega)).1
  omega
theorem B6x {l:List Int} {j:Nat} (hj:j<l.length) (x:Int):A2 (l.set j x)=A2 l - gI l j+x:=by
 have e1:l.set j x=l.take j++x::l.drop (j+1):=List.set_eq_take_append_cons_drop (l:=l) (i:=j) (a:=x) |>.trans (by rw [if_pos hj])
 have e2:l=l.take j++gI l j::l.drop (j+1):=by
  have:gI l j=l[j]:=by simp [gI,hj]
  rw [this,←D7o hj,D7C]
 have c1:∀ (y:Int) (r:List Int),A2 (y::r)=y+A2 r:=fun y r=>by
  have:=F2 [y] r
  rw [D7O] at this
  rw [this];simp [A2]
 have h2:A2 l=A2 (l.take j)+(gI l j+A2 (l.drop (j+1))):=by
  conv=>lhs;rw [e2]
  rw [F2,c1]
 rw [e1,F2,c1,h2];omega
theorem B6T {qs:List Int} {R:List QE} (h:∀ e∈R,e.2.toNat<qs.length):A2 (R4 qs R)=A2 qs+R.length:=by
 unfold R4
 induction R generalizing qs with
 | nil=>simp
 | cons e R ih =>
  simp only [D6C,D5Y]
  have he:=h e (D5N ..)
  rw [ih (fun x hx=>by rw [D6H];exact h x (D5M _ hx)),B6x he]
  omega
theorem R9 {total:Int} {ws:List Int} (h:Q6 total ws):A2 (D1 total ws)=total∧(D1 total ws).length=ws.length∧∀ x∈D1 total ws,0≤x:=by
 unfold D1
 split
 ·rename_i h0
  have ht:=h.none h0
  refine ⟨?_,by simp,fun x hx=>?_⟩
  ·rw [ht]
   have:∀ l:List Int,A2 (l.map fun _=>(0:Int))=0:=fun l=>by
    induction l with
    | nil=>rfl
    | cons x l ih =>
     have:=F2 [(0:Int)] (l.map fun _=>(0:Int))
     rw [D7O] at this
     rw [D6q,this,ih];rfl
   exact this ws
  ·obtain ⟨_,_,rfl⟩:=D5G.1 hx;exact D5W _
 ·rename_i h0
  have hS:0<A2 ws:=by have:=C1 h.w0;omega
  obtain ⟨l0,l1⟩:=A3h h hS
  have hR:=A6H total (A2 ws) ws
  have hmem:∀ e∈(shR total (A2 ws) ws).take (F7 total (A2 ws) ws ws.length).toNat,e.2.toNat<((List.range ws.length).map (shQ total (A2 ws) ws)).length:=fun e he=>by
   rw [D5p,D5O];exact (B0n (D6p _ _ he)).2
  refine ⟨?_,by rw [A1K];simp,fun x hx=>?_⟩
  ·rw [B6T hmem,D5v]
   unfold F7 at *
   omega
  ·obtain ⟨k,hk,rfl⟩:=D3 hx
   rw [A1K,D5p,D5O] at hk
   have hb:=(A4G ((List.range ws.length).map (shQ total (A2 ws) ws)) ((shR total (A2 ws) ws).take (F7 total (A2 ws) ws ws.length).toNat) k).1
   have hq:=(A4q h hS hk).1
   rw [L9 _ hk] at hb
   show 0≤gI _ k
   omega
theorem A7y {l:List Int} {f:Int→Int} (h:∀ x∈l,0≤f x∧f x≤x):A2 (l.map f)≤A2 l∧∀ y∈l.map f,0≤y:=by
 have c1:∀ (y:Int) (r:List Int),A2 (y::r)=y+A2 r:=fun y r=>by
  have:=F2 [y] r
  rw [D7O] at this
  rw [this];simp [A2]
 refine ⟨?_,fun y hy=>by obtain ⟨x,hx,rfl⟩:=D5G.1 hy;exact (h x hx).1⟩
 induction l with
 | nil=>exact D5W _
 | cons x l ih =>
  rw [D6q,c1,c1]
  have:=ih (fun y hy=>h y (D5M _ hy))
  have:=(h x (D5N ..)).2
  omega
structure A5r (p:B1):Prop where
 fit:Q2 p
 right:H0 p=true
 kind:p.kind=1∨p.kind=2∨p.kind=5∨p.kind=6
 tiers:p.kind=5∨p.kind=6→A7K p.tiers
 amount:p.kind=2→0≤p.amount∧p.amount≤10000000000000
theorem A4R {p:B1} (hp:A5r p) {nets:List Int} (h0:∀ x∈nets,0≤x) (hs:A2 nets≤10000000000000) (hl:nets.length≤100000) :
  A2 (O4 p nets)≤A2 nets∧(O4 p nets).length≤nets.length∧∀ y∈O4 p nets,0≤y:=by
 have hn:=C1 h0
 rcases hp.kind with e | e | e | e
 ·have:O4 p nets=B5B p nets:=by unfold O4;rw [if_pos e]
  rw [this]
  have h:=A7y (l:=nets) (f:=fun x=>P8 x p.rate 0) (fun x hx=>A0c (h0 x hx) (by omega))
  exact ⟨h.1,by simp [B5B],h.2⟩
 ·have:O4 p nets=B5A p nets:=by unfold O4;rw [if_neg (by omega),if_pos e]
  rw [this]
  have h:=A7y (l:=nets) (f:=fun x=>P8 x 0 p.amount) (fun x hx=>A0c (h0 x hx) (hp.amount e).1)
  exact ⟨h.1,by simp [B5A],h.2⟩
 ·have:O4 p nets=A5h p nets:=by unfold O4;rw [if_neg (by omega),if_neg (by omega),if_pos e]
  rw [this]
  have hok:=A0e (hp.tiers (.inl e)) (A2 nets)
  unfold A5h
  split
  ·exact ⟨hn,by simp,fun y hy=>by cases hy⟩
  ·rename_i t hr
   rw [hr] at hok
   have hob:0≤P8 (A2 nets) t.rate t.amount∧P8 (A2 nets) t.rate t.amount≤A2 nets:=A0c hn hok.1
   have hW:Q6 (P8 (A2 nets) t.rate t.amount) nets:=⟨hob.1,by omega,hl,h0,by omega,fun e=>by omega⟩
   obtain ⟨a,b,c⟩:=R9 hW
   exact ⟨by rw [a];exact hob.2,by omega,c⟩
 ·have:O4 p nets=A5g p nets:=by unfold O4;rw [if_neg (by omega),if_neg (by omega),if_neg (by omega)]
  rw [this]
  have hok:=A0e (hp.tiers (.inr e)) nets.length
  unfold A5g
  split
  ·exact ⟨hn,by simp,fun y hy=>by cases hy⟩
  ·rename_i t hr
   rw [hr] at hok
   have h:=A7y (l:=nets) (f:=fun x=>P8 x t.rate t.amount) (fun x hx=>A0c (h0 x hx) hok.1)
   exact ⟨h.1,by simp,h.2⟩
end Go.Proofs.YtaapofnkmpiknaaGreat
