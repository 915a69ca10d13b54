/- Part 21 of the proof: contracts of the functions that the law reaches -/
import Derived.Test.YtaapofnkmpiknaaGreatRt20
set_option maxRecDepth 100000
set_option linter.unusedVariables false
set_option linter.unusedSimpArgs false
namespace Go.Proofs.YtaapofnkmpiknaaGreat
open Go Go.Ab
attribute [local irreducible] upd del
abbrev gI (l:List Int) (k:Nat):Int:=l.getD k default
def swI (l:List Int) (i j:Nat):List Int:=(l.set i (gI l j)).set j (gI l i)
theorem B9Q (l:List Int) (i j:Nat):(swI l i j).length=l.length:=by simp [swI]
theorem B8E {l:List Int} {i j:Nat} (hi:i<l.length) (hj:j<l.length) (k:Nat):gI (swI l i j) k=if k=j then gI l i else if k=i then gI l j else gI l k:=by
 unfold swI gI
 simp only [D5A,D7D,D6M]
 by_cases h1:k=j
 ·subst h1;simp [hj]
 ·rw [if_neg (fun e=>h1 e.symm),if_neg h1]
  by_cases h2:k=i
  ·subst h2;simp [hi]
  ·rw [if_neg (fun e=>h2 e.symm),if_neg h2]
theorem C4C {l:List Int} {i j:Nat} (hi:i<l.length) (hj:j<l.length):(swI l i j).Perm l:=by
 have e1:gI l j=l[j]:=by simp [gI,hj]
 have e2:gI l i=l[i]:=by simp [gI,hi]
 unfold swI
 rw [e1,e2]
 exact List.set_set_perm hi hj
def A5A (st:St) (b:Nat) (l:List Int):Prop:=∃ f,st b=some ⟨3,1,l.length,f⟩∧∀ k,k<l.length→f k=eI (gI l k)
structure Ord (lt:Int→Int→Bool):Prop where
 asymm:∀ x y,lt x y=true→lt y x=false
 le:∀ x y z,lt y x=false→lt z y=false→lt z x=false
def Srt (lt:Int→Int→Bool) (l:List Int) (a e:Nat):Prop:=∀ x y,a≤x→x<y→y<e→lt (gI l y) (gI l x)=false
structure Ins (lt:Int→Int→Bool) (l:List Int) (a e j:Nat):Prop where
 rest:∀ x y,a≤x→x<y→y<e→x≠j→y≠j→lt (gI l y) (gI l x)=false
 up:∀ y,j<y→y<e→lt (gI l y) (gI l j)=false
theorem Srt.ins {lt:Int→Int→Bool} {l:List Int} {a i:Nat} (h:Srt lt l a i):Ins lt l a (i+1) i :=
 ⟨fun x y hx hxy hy h1 h2=>h x y hx hxy (by omega),fun y h1 h2=>by omega⟩
theorem Ins.done {lt:Int→Int→Bool} (ho:Ord lt) {l:List Int} {a e j:Nat} (h:Ins lt l a e j) (hj:j≤a∨lt (gI l j) (gI l (j - 1))=false):Srt lt l a e:=fun x y hx hxy hy=>by
 by_cases h1:x=j
 ·subst h1;exact h.up y hxy hy
 ·by_cases h2:y=j
  ·subst h2
   rcases hj with hj | hj
   ·omega
   ·by_cases h3:x=y - 1
    ·subst h3;exact hj
    ·exact ho.le _ _ _ (h.rest x (y - 1) hx (by omega) (by omega) h1 (by omega)) hj
  ·exact h.rest x y hx hxy hy h1 h2
theorem Ins.step {lt:Int→Int→Bool} (ho:Ord lt) {l:List Int} {a e j:Nat} (h:Ins lt l a e j) (hj:a<j) (hje:j<e) (he:e≤l.length) (hlt:lt (gI l j) (gI l (j - 1))=true):Ins lt (swI l j (j - 1)) a e (j - 1):=by
 have sw:=B8E (l:=l) (i:=j) (j:=j - 1) (by omega) (by omega)
 refine ⟨fun x y hx hxy hy h1 h2=>?_,fun y h1 h2=>?_⟩
 ·rw [sw x,sw y,if_neg h1,if_neg h2]
  by_cases hxj:x=j
  ·rw [if_pos hxj,if_neg (by omega)]
   exact h.rest (j - 1) y (by omega) (by omega) hy (by omega) (by omega)
  ·rw [if_neg hxj]
   by_cases hyj:y=j
   ·rw [if_pos hyj]
    exact h.rest x (j - 1) hx (by omega) (by omega) hxj (by omega)
   ·rw [if_neg hyj];exact h.rest x y hx hxy hy hxj hyj
 ·rw [sw y,sw (j - 1),if_neg (by omega),if_pos rfl]
  by_cases hyj:y=j
  ·rw [if_pos hyj];exact ho.asymm _ _ hlt
  ·rw [if_neg hyj];exact h.up y (by omega) h2
theorem B4o (b:Nat) (l:List Int) (n a e:Nat) (g:FuncId) (cs:List AV) (cf:Int→Int→Int) (lt:Int→Int→Bool) (hlt:∀ x y,decide (cf x y<0)=lt x y) (ho:Ord lt) (st:St) (hb:A5A st b l) (hae:a≤e) (he:e≤n) (hn:n≤l.length) (hl:l.length<4611686018427387904)
  (hg:∀ x∈l,∀ y∈l,∀ st',S P g (eI x::eI y::cs) st' fun v s=>v=eI (cf x y)∧s=st') :
  S P 310 [.own 1 b 0 n,eI a,eI e,.fn (.func g) [] cs] st fun v st'=>v=.tuple []∧∃ l',l'.Perm l∧Srt lt l' a e∧(∀ k,k<a∨e≤k→gI l' k=gI l k)∧A5A st' b l'∧∀ c,c≠b→st' c=st c:=by
 refine F1 [] Tryz.func310 ?_
 refine ⟨[0,1,2,3,8],fun m vs st'=>∃ (i:Nat) (l':List Int),a<i∧(i≤e∨i=a+1)∧l'.Perm l∧Srt lt l' a i∧(∀ k,k<a∨e≤k→gI l' k=gI l k)∧A5A st' b l'∧(∀ c,c≠b→st' c=st c)∧m=e - i∧vs=[.own 1 b 0 n,eI a,eI e,.fn (.func g) [] cs,eI i],?_,?_⟩
 ·conv=>whnf
  exact ⟨_,a+1,l,by omega,.inr rfl,List.Perm.refl _,fun x y h1 h2 h3=>by omega,fun _ _=>rfl,hb,fun _ _=>rfl,rfl,by rw [B4 (by omega)]⟩
 ·rintro m vs st' ⟨i,l',hai,hie,hp,hs,hout,hb',hfr,rfl,rfl⟩
  have hlen:l'.length=l.length:=hp.length_eq
  conv=>whnf
  cases h:decide ((i:Int)<(e:Int))
  ·have:=D5E h
   conv=>whnf
   refine ⟨rfl,l',hp,fun x y h1 h2 h3=>hs x y h1 h2 (by omega),hout,hb',hfr⟩
  ·have hi:i<e:=by have:=D5D h;omega
   conv=>whnf
   refine ⟨[0,1,2,3,8,9],fun m vs st''=>∃ (j:Nat) (l'':List Int),a≤j∧j≤i∧l''.Perm l∧Ins lt l'' a (i+1) j∧(∀ k,k<a∨e≤k→gI l'' k=gI l k)∧A5A st'' b l''∧(∀ c,c≠b→st'' c=st c)∧m=j∧vs=[.own 1 b 0 n,eI a,eI e,.fn (.func g) [] cs,eI i,eI j],?_,?_⟩
   ·conv=>whnf
    exact ⟨_,i,l',by omega,D5J _,hp,hs.ins,hout,hb',hfr,rfl,rfl⟩
   ·clear hp hs hout hb' hfr hlen
    rintro j vs st'' ⟨_,l'',haj,hji,hp,hs,hout,⟨f,hst,hf⟩,hfr,rfl,rfl⟩
    have hlen:l''.length=l.length:=hp.length_eq
    have next:Srt lt l'' a (i+1)→∃ m',m'<e - i∧∃ (i_1:Nat) (l':List Int),a<i_1∧(i_1≤e∨i_1=a+1)∧l'.Perm l∧Srt lt l' a i_1∧(∀ k,k<a∨e≤k→gI l' k=gI l k)∧A5A st'' b l'∧(∀ c,c≠b→st'' c=st c)∧m'=e - i_1∧[AV.own 1 b 0 n,eI a,eI e,.fn (.func g) [] cs,eI (IntKind.i64.wrap ((i:Int)+1))]=[.own 1 b 0 n,eI a,eI e,.fn (.func g) [] cs,eI i_1] :=
     fun hsrt=>⟨e - (i+1),by omega,i+1,l'',by omega,.inl (by omega),hp,hsrt,hout,⟨f,hst,hf⟩,hfr,rfl,by rw [B4 (by omega)]⟩
    conv=>whnf
    refine ⟨[],[],[0,1,2,3,4,5,6,7,8,9,10,11,12,13,14,15,16],by kernel_rfl,?_⟩;conv=>whnf
    refine B8 (fun h1=>?_) (fun h1=>?_)<;>rw [h1]<;>simp only [D5C,D5B] at h1
    ·have w:IntKind.i64.wrap ((j:Int) - 1)=((j - 1:Nat):Int):=by rw [A5 (by omega) (by omega)];omega
     have fj:f (0+(j:Int).toNat)=eI (gI l'' j):=by rw [show 0+(j:Int).toNat=j by omega];exact hf j (by omega)
     have fj1:f (0+((j - 1:Nat):Int).toNat)=eI (gI l'' (j - 1)):=by rw [show 0+((j - 1:Nat):Int).toNat=j - 1 by omega];exact hf (j - 1) (by omega)
     conv=>whnf
     refine E4 ?_
     refine I4 hst fj ?_
     rw [w]
     refine E4 ?_
     refine I4 hst fj1 ?_
     refine cqW (hg (gI l'' j) (hp.subset (A6 (by omega))) (gI l'' (j - 1)) (hp.subset (A6 (by omega))) _) ?_
     rw [hlt]
     refine B8 (fun h2=>?_) (fun h2=>?_)<;>rw [h2]
     ·have hfj1:I1 f (0+(j:Int).toNat) (P9 (eI (gI l'' j)) 0 (cellsOf (eI (gI l'' (j - 1))))) (0+((j - 1:Nat):Int).toNat)=eI (gI l'' (j - 1)):=(H4 (by omega)).trans fj1
      conv=>whnf
      refine ⟨[15,17],[],[0,1,2,3,4,5,6,7,8,9,10,11,12,13,14,15,16,17],by kernel_rfl,?_⟩;conv=>whnf
      rw [w]
      refine E4 ?_
      refine I4 hst fj1 ?_
      refine E4 ?_
      refine I4 hst fj ?_
      refine E4 ?_
      refine X8 hst fj ?_
      refine E4 ?_
      refine X8 (A0 ..) hfj1 ?_
      refine F6 ?_
      have hjl:j<l''.length:=by omega
      refine ⟨j - 1,by omega,j - 1,swI l'' j (j - 1),by omega,by omega,(C4C hjl (by omega)).trans hp,hs.step ho (by omega) (by omega) (by omega) h2,fun k hk=>?_,⟨_,by rw [A0,B9Q],fun k hk=>?_⟩,fun c hc=>by rw [A9 hc,A9 hc];exact hfr c hc,rfl,by rw [w]⟩
      ·rw [B8E hjl (by omega),if_neg (by omega),if_neg (by omega)];exact hout k hk
      ·rw [B9Q] at hk
       rw [B8E hjl (by omega)]
       by_cases e1:k=j - 1
       ·subst e1
        rw [if_pos rfl,show 0+((j - 1:Nat):Int).toNat=j - 1 by omega,A4];rfl
       ·rw [if_neg e1,H4 (by omega)]
        by_cases e2:k=j
        ·subst e2
         rw [if_pos rfl,show 0+(k:Int).toNat=k by omega,A4];rfl
        ·rw [if_neg e2,H4 (by omega)];exact hf k hk
     ·conv=>whnf
      refine F6 ?_
      exact next (hs.done ho (.inr h2))
    ·conv=>whnf
     refine F6 ?_
     exact next (hs.done ho (.inl (by omega)))
theorem Srt.congr {lt:Int→Int→Bool} {l l':List Int} {a e:Nat} (h:Srt lt l a e) (hk:∀ k,a≤k→k<e→gI l' k=gI l k):Srt lt l' a e:=fun x y h1 h2 h3=>by
 rw [hk x h1 (by omega),hk y (by omega) h3];exact h x y h1 h2 h3
theorem C4z (b:Nat) (l:List Int) (g:FuncId) (cs:List AV) (cf:Int→Int→Int) (lt:Int→Int→Bool) (hlt:∀ x y,decide (cf x y<0)=lt x y) (ho:Ord lt) (st:St) (hb:A5A st b l) (hl:l.length≤20)
  (hg:∀ x∈l,∀ y∈l,∀ st',S P g (eI x::eI y::cs) st' fun v s=>v=eI (cf x y)∧s=st') :
  S P 289 [.own 1 b 0 l.length,eI l.length,.fn (.func g) [] cs] st fun v st'=>v=.tuple []∧∃ l',l'.Perm l∧Srt lt l' 0 l.length∧A5A st' b l'∧∀ c,c≠b→st' c=st c:=by
 refine F1 [] Tryz.func289 ?_
 refine ⟨[0,1,2,6,7,8],fun m vs st'=>(m=1∧st'=st∧vs=[.own 1 b 0 l.length,eI l.length,.fn (.func g) [] cs,eI 20,eI 0,eI 20]) ∨
  (m=0∧l.length=20∧(∃ l',l'.Perm l∧Srt lt l' 0 l.length∧A5A st' b l'∧∀ c,c≠b→st' c=st c)∧vs=[.own 1 b 0 l.length,eI l.length,.fn (.func g) [] cs,eI 20,eI 20,eI 40]),?_,?_⟩
 ·conv=>whnf
  exact ⟨1,.inl ⟨rfl,rfl,rfl⟩⟩
 ·rintro m vs st' (⟨rfl,rfl,rfl⟩ | ⟨rfl,h20,⟨l',hp,hs,hb',hfr⟩,rfl⟩)
  ·conv=>whnf
   refine B8 (fun h1=>?_) (fun h1=>?_)<;>rw [h1]<;>simp only [D5C,D5B] at h1
   ·have h20:l.length=20:=by omega
    conv=>whnf
    refine call (B4o b l l.length 0 20 g cs cf lt hlt ho _ hb (by omega) (by omega) (by omega) (by omega) hg) (fun v st1 hv=>?_)
    obtain ⟨rfl,l',hp,hs,hout,hb',hfr⟩:=hv
    conv=>whnf
    refine F6 ?_
    exact ⟨0,by omega,.inr ⟨rfl,h20,⟨l',hp,by rw [h20];exact hs,hb',hfr⟩,rfl⟩⟩
   ·conv=>whnf
    refine call (B4o b l l.length 0 l.length g cs cf lt hlt ho _ hb (by omega) (by omega) (by omega) (by omega) hg) (fun v st1 hv=>?_)
    obtain ⟨rfl,l',hp,hs,hout,hb',hfr⟩:=hv
    conv=>whnf
    refine B1v [0,1,2,6] ?_;conv=>whnf
    intro I
    refine B8 (fun h2=>?_) (fun h2=>?_)<;>rw [h2]<;>simp only [D5C,D5B] at h2
    ·exact absurd h2 (by omega)
    ·conv=>whnf
     exact ⟨rfl,l',hp,hs,hb',hfr⟩
  ·have hlen:l'.length=l.length:=hp.length_eq
   conv=>whnf
   refine B8 (fun h1=>?_) (fun h1=>?_)<;>rw [h1]<;>simp only [D5C,D5B] at h1
   ·exact absurd h1 (by omega)
   ·conv=>whnf
    refine call (B4o b l' l.length 20 l.length g cs cf lt hlt ho _ hb' (by omega) (by omega) (by omega) (by omega) (fun x hx y hy=>hg x (hp.subset hx) y (hp.subset hy))) (fun v st1 hv=>?_)
    obtain ⟨rfl,l2,hp2,hs2,hout,hb2,hfr2⟩:=hv
    conv=>whnf
    refine B1v [0,1,2,6] ?_;conv=>whnf
    intro I
    refine B8 (fun h2=>?_) (fun h2=>?_)<;>rw [h2]<;>simp only [D5C,D5B] at h2
    ·exact absurd h2 (by omega)
    ·conv=>whnf
     exact ⟨rfl,l2,hp2.trans hp,hs.congr (fun k _ hk=>hout k (by omega)),hb2,fun c hc=>(hfr2 c hc).trans (hfr c hc)⟩
def A5I (N:Nat):Prop:=∀ (b:Nat) (l:List Int) (g:FuncId) (cs:List AV) (cf:Int→Int→Int) (lt:Int→Int→Bool) (hlt:∀ x y,decide (cf x y<0)=lt x y) (ho:Ord lt) (st:St) (hb:A5A st b l) (hl:l.length≤N)
  (hg:∀ x∈l,∀ y∈l,∀ st',S P g (eI x::eI y::cs) st' fun v s=>v=eI (cf x y)∧s=st'),
  S P 289 [.own 1 b 0 l.length,eI l.length,.fn (.func g) [] cs] st fun v st'=>v=.tuple []∧∃ l',l'.Perm l∧Srt lt l' 0 l.length∧A5A st' b l'∧∀ c,c≠b→st' c=st c
theorem B6R:A5I 20:=fun b l g cs cf lt hlt ho st hb hl hg=>C4z b l g cs cf lt hlt ho st hb hl hg
theorem B5a {N:Nat} (hN:A5I N) (b:Nat) (l:List Int) (g:FuncId) (cs:List AV) (cf:Int→Int→Int) (lt:Int→Int→Bool) (hlt:∀ x y,decide (cf x y<0)=lt x y) (ho:Ord lt) (st:St) (hb:A5A st b l) (hl:l.length≤N)
  (hg:∀ x∈l,∀ y∈l,∀ st',S P g (eI x::eI y::cs) st' fun v s=>v=eI (cf x y)∧s=st') :
  S P 264 [.own 1 b 0 l.length,.fn (.func g) [] cs] st fun v st'=>v=.tuple []∧∃ l',l'.Perm l∧Srt lt l' 0 l.length∧A5A st' b l'∧∀ c,c≠b→st' c=st c:=by
 refine F1 [] Tryz.func264 ?_
 refine call (hN b l g cs cf lt hlt ho st hb hl hg) (fun v st' hv=>?_)
 obtain ⟨rfl,h⟩:=hv
 conv=>whnf
 exact ⟨rfl,h⟩
theorem C3f (f:AV) (st:St):S P 310 [.emp,eI 0,eI 0,f] st fun v st'=>v=.tuple []∧st'=st:=by
 refine F1 [] Tryz.func310 ?_
 refine B1v [0,1,2,3,8] ?_;conv=>whnf
 intro I
 exact ⟨rfl,rfl⟩
theorem C1G (f:AV) (st:St):S P 289 [.emp,eI 0,f] st fun v st'=>v=.tuple []∧st'=st:=by
 refine F1 [] Tryz.func289 ?_
 refine B1v [0,1,2,6,7,8] ?_;conv=>whnf
 intro I
 refine I2 (C3f f st) ?_
 refine B1v [0,1,2,6] ?_;conv=>whnf
 intro I
 exact ⟨rfl,rfl⟩
theorem B2Z (f:AV) (st:St):S P 264 [.emp,f] st fun v st'=>v=.tuple []∧st'=st:=by
 refine F1 [] Tryz.func264 ?_
 refine I2 (C1G f st) ?_
 exact ⟨rfl,rfl⟩
theorem QSt.grow {st0 st:St} {q bo bo':Nat} {f:Bool} {es:List QE} {y y':K8} (h:QSt (upd st0 bo y) q f es st) (h0:st0 bo=none) (hb:bo'=bo∨st bo'=none):st0 bo'=none∧QSt (upd st0 bo' y') q f es (upd (del st bo) bo' y'):=by
 obtain ⟨h1,h2,sv,⟨fq,hqs,hq0⟩,h3⟩:=h
 have hqo:q≠bo:=fun e=>by subst e;rw [A0] at h1;cases h1
 have hq1:st0 q=none:=by rw [A9 hqo] at h1;exact h1
 have hqb:q≠bo':=fun e=>by
  subst e
  rcases hb with e | e
  ·exact hqo e
  ·rw [hqs] at e;cases e
 have hsub:∀ c x,st0 c=some x→c≠bo∧st c=some x:=fun c x hc=>by
  have hne:c≠bo:=fun e=>by subst e;rw [h0] at hc;cases hc
  exact ⟨hne,h2 c x (by rw [A9 hne];exact hc)⟩
 have hbo':st0 bo'=none:=by
  rcases hb with e | e
  ·rw [e];exact h0
  ·cases hx:st0 bo' with
   | none=>rfl
   | some x=>rw [(hsub _ _ hx).2] at e;cases e
 refine ⟨hbo',by rw [A9 hqb];exact hq1,fun c x hc=>?_,sv,⟨fq,by rw [A9 hqb];unfold del;rw [if_neg hqo];exact hqs,hq0⟩,?_⟩
 ·by_cases hcb:c=bo'
  ·subst hcb;rw [A0] at hc ⊢;exact hc
  ·rw [A9 hcb] at hc ⊢
   obtain ⟨a,b⟩:=hsub c x hc
   unfold del;rw [if_neg a];exact b
 ·rcases h3 with h3 | ⟨b,l,n,a1,a2,a3,a4,a5,a6,⟨fe,hes,hef⟩,a8,a9⟩
  ·exact .inl h3
  ·have hbo:b≠bo:=fun e=>by subst e;rw [A0] at a2;cases a2
   have hb0:st0 b=none:=by rw [A9 hbo] at a2;exact a2
   have hbb:b≠bo':=fun e=>by
    subst e
    rcases hb with e | e
    ·exact hbo e
    ·rw [hes] at e;cases e
   exact .inr ⟨b,l,n,a1,by rw [A9 hbb];exact hb0,a3,a4,a5,a6,⟨fe,by rw [A9 hbb];unfold del;rw [if_neg hbo];exact hes,hef⟩,a8,a9⟩
theorem QSt.begin {st0 st:St} {q bo:Nat} {f:Bool} {es:List QE} {y:K8} (h:QSt st0 q f es st) (hb:st bo=none):st0 bo=none∧QSt (upd st0 bo y) q f es (upd st bo y):=by
 obtain ⟨h1,h2,sv,⟨fq,hqs,hq0⟩,h3⟩:=h
 have hqb:q≠bo:=fun e=>by subst e;rw [hqs] at hb;cases hb
 refine ⟨h2.none hb,by rw [A9 hqb];exact h1,fun c x hc=>?_,sv,⟨fq,by rw [A9 hqb];exact hqs,hq0⟩,?_⟩
 ·by_cases hcb:c=bo
  ·subst hcb;rw [A0] at hc ⊢;exact hc
  ·rw [A9 hcb] at hc ⊢;exact h2 c x hc
 ·rcases h3 with h3 | ⟨b,l,n,a1,a2,a3,a4,a5,a6,⟨fe,hes,hef⟩,a8,a9⟩
  ·exact .inl h3
  ·have hbb:b≠bo:=fun e=>by subst e;rw [hes] at hb;cases hb
   exact .inr ⟨b,l,n,a1,by rw [A9 hbb];exact a2,a3,a4,a5,a6,⟨fe,by rw [A9 hbb];exact hes,hef⟩,a8,a9⟩
def A0L (ty e:Nat) (fo:Nat→AV) (n:Nat) (st1:St) (q:Nat) (f:Bool) (es:List QE) (sv:AV) (st':St):Prop :=
 (n=0∧sv=.emp∧QSt st1 q f es st')∨(0<n∧∃ bo g,st1 bo=none∧sv=.own e bo 0 n∧(∀ k,k<n→g k=fo k)∧QSt (upd st1 bo ⟨ty,e,n,g⟩) q f es st')
theorem A0L.len_S {ty e:Nat} {fo:Nat→AV} {n:Nat} {st1:St} {q:Nat} {f:Bool} {es:List QE} {sv:AV} {st':St} (h:A0L ty e fo n st1 q f es sv st') :
  S P 229 [.optr 1 q 0 0] st' fun v st''=>v=eI es.length∧st''=st':=by
 rcases h with ⟨_,_,h⟩ | ⟨_,bo,g,_,_,_,h⟩
 ·exact A9x _ _ _ _ _ h
 ·exact A9x _ _ _ _ _ h
theorem A0L.pop_S {ty e:Nat} {fo:Nat→AV} {n:Nat} {st1:St} {q:Nat} {f:Bool} {x:QE} {es:List QE} {sv:AV} {st':St} (h:A0L ty e fo n st1 q f (x::es) sv st') (htop:∀ y∈es,G4 y x=false) :
  S P 230 [.optr 1 q 0 0] st' fun v st''=>v=.tuple [eI x.1,eI x.2,.bool true]∧A0L ty e fo n st1 q false es sv st'':=by
 rcases h with ⟨h1,h2,h⟩ | ⟨h0,bo,g,h1,h2,h3,h⟩
 ·exact (A9y _ _ _ _ _ _ h htop).mono fun v s hv=>⟨hv.1,.inl ⟨h1,h2,hv.2⟩⟩
 ·exact (A9y _ _ _ _ _ _ h htop).mono fun v s hv=>⟨hv.1,.inr ⟨h0,bo,g,h1,h2,h3,hv.2⟩⟩
theorem A0L.app {T:G7} {t:TypeId} {x sv:AV} {st1 st':St} {k:KK} {r q:C4} {el n qq:Nat} {fl:Bool} {es:List QE} {f g:Nat→AV} (hr:T t=some r) (hd:r.desc=.slice el) (hq:T el=some q)
  (hz:(Nat.blt 0 q.size&&Nat.blt 0 q.bytes&&Nat.beq q.zero.cells.size q.size)=true) (hs:A0i q.size st' x=some (1,g)) (hg:g 0=f n) (hb:(n+1) * q.bytes≤140737488355328)
  (hc:A0L el q.size f n st1 qq fl es sv st') (hk:∀ sv' st'',A0L el q.size f (n+1) st1 qq fl es sv' st''→k sv' st''):A5x T t sv x st' k:=by
 rcases hc with ⟨rfl,rfl,h⟩ | ⟨h0,bo,y,h1,rfl,h4,h⟩
 ·refine apE hr hd hq hz hs (by omega) (fun h=>by omega) (fun _ b hb=>?_)
  obtain ⟨hb0,hn⟩:=h.begin (y:=⟨el,q.size,1,g⟩) hb
  have e0:∀ k,k<0+1→g k=f k:=fun k hk=>by
   have:k=0:=by omega
   rw [this];exact hg
  exact hk _ _ (.inr ⟨by omega,b,g,hb0,rfl,e0,hn⟩)
 ·have hby:st' bo=some ⟨el,q.size,n,y⟩:=h.sup bo _ (A0 ..)
  refine apO hr hd hq hz hs hby rfl rfl rfl hb (fun h=>by omega) (fun _ b' hb'=>?_)
  obtain ⟨hb0,hn⟩:=h.grow (y':=⟨el,q.size,n+1,fun i=>if i<n then y i else g (i - n)⟩) h1 hb'
  refine hk _ _ (.inr ⟨by omega,b',_,hb0,rfl,fun k hk=>?_,hn⟩)
  by_cases hkn:k<n
  ·simp only [hkn,if_true];exact h4 k hkn
  ·have:k=n:=by omega
   subst this
   simp only [hkn,D8j,Nat.sub_self];exact hg
theorem A0L.shift {ty e:Nat} {fo:Nat→AV} {n:Nat} {st1:St} {q:Nat} {f:Bool} {es:List QE} {sv:AV} {st':St} (h:A0L ty e fo n st1 q f es sv st'):A7 [sv] st' [.arr e n fo] st1:=by
 rcases h with ⟨rfl,rfl,h⟩ | ⟨h0,bo,g,h1,rfl,h3,h⟩
 ·exact (h.sup.shift [.emp]).trans (I0 e fo)
 ·have h2:=N7 (st:=upd st1 bo ⟨ty,e,n,g⟩) (e:=e) (b:=bo) (n:=n) (f:=fo) (A0 ..) rfl (D5J _) h3
  rw [A3H h1] at h2
  exact (h.sup.shift [.own e bo 0 n]).trans h2
def A0k (codes:List C8) (p:B1):Bool:=N3 p.code||codes.any fun c=>p.code.toList==c.toList
abbrev E8 (l:List B1) (x:Int):B1:=l.getD x.toNat default
def places (l:List B1) (codes:List C8) (i:Nat):List Int:=((List.range i).filter fun k=>A0k codes (l.getD k default)).map Int.ofNat
theorem A6b (l:List B1) (codes:List C8) (i:Nat):places l codes (i+1)=places l codes i++(if A0k codes (l.getD i default)=true then [(i:Int)] else []):=by
 unfold places
 rw [D7i,D7x,D6i]
 congr 1
 by_cases h:A0k codes (l.getD i default)=true
 ·rw [if_pos h,D6G (p:=fun k=>A0k codes (l.getD k default)) h];rfl
 ·rw [if_neg h,D6N (p:=fun k=>A0k codes (l.getD k default)) h];rfl
theorem A0G {l:List B1} {codes:List C8} {i:Nat} {x:Int} (h:x∈places l codes i):0≤x∧x.toNat<i:=by
 unfold places at h
 obtain ⟨k,hk,rfl⟩:=D5X.1 h
 have:=D5U.1 (D6D.1 hk).1
 show 0≤(k:Int)∧(k:Int).toNat<i
 omega
theorem A1o (l:List B1) (codes:List C8) (i:Nat):(places l codes i).length≤i:=by
 unfold places
 rw [D5F]
 exact D6R (D8c ..) (by simp)
def C5L (l:List B1) (x y:Int):Bool:=slt (E8 l x).id (E8 l y).id
theorem C9d (l:List B1):Ord (C5L l):=⟨fun x y h=>A6S h,fun x y z h1 h2=>A4C h1 h2⟩
theorem C7G (l:List B1) (x y:Int) (hx:0≤x∧x.toNat<l.length) (hy:0≤y∧y.toNat<l.length) (st:St) :
  S P 265 [eI x,eI y,.fptr (A8 15 B9 l) 0] st fun v st'=>v=eI (A8Z (E8 l x).id (E8 l y).id)∧st'=st:=by
 refine F1 [] Tryz.func265 ?_
 refine ⟨[],[],[0,1,2,3,4,5,6,7,8,9,10,11],by kernel_rfl,?_⟩;conv=>whnf
 refine E4 ?_
 refine E4 ?_
 refine cqW (C6X (E8 l x).id (E8 l y).id _) ?_
 exact ⟨rfl,rfl⟩
theorem N6 {a b:List Int} {k:Nat} (h:k<a.length):gI (a++b) k=gI a k:=by
 unfold gI;rw [D5A,D5A,D5W h]
theorem A8h (a:List Int) (x:Int):gI (a++[x]) a.length=x:=by
 unfold gI;simp [D5A]
def A8R (l:List B1) (codes:List C8) (o:List Int):Prop:=o.Perm (places l codes l.length)∧Srt (C5L l) o 0 o.length
def B1W (l:List B1) (o:List Int) (k:Nat):QE:=((E8 l (gI o k)).prio,(k:Int))
def A1p (l:List B1) (o:List Int):List QE:=((List.range o.length).map (B1W l o)).mergeSort fun a b=>!G4 b a
theorem A1z (l:List B1) (o:List Int):(A1p l o).Perm ((List.range o.length).map (B1W l o)):=D8o ..
theorem A7i (l:List B1) (o:List Int):(A1p l o).Pairwise fun a b=>G4 b a=false:=by
 have:=D7T (le:=fun a b:QE=>!G4 b a) (fun a b c h1 h2=>by simp only [D5Q] at *;exact A0F h2 h1) (fun a b=>by
  cases h:G4 b a with
  | false=>rfl
  | true=>rw [A0q h];rfl) ((List.range o.length).map (B1W l o))
 exact this.imp (fun h=>by simpa using h)
theorem A5f {l:List B1} {o:List Int} {e:QE} (h:e∈A1p l o):0≤e.2∧e.2.toNat<o.length:=by
 obtain ⟨k,hk,rfl⟩:=D5X.1 ((A1z l o).subset h)
 have:=D5U.1 hk
 simp only [B1W];omega
theorem A5e (l:List B1) (o:List Int):(A1p l o).length=o.length:=by
 rw [(A1z l o).length_eq];simp
abbrev P4 (l:List B1) (o:List Int):List Int:=(A1p l o).map fun e=>gI o e.2.toNat
theorem A0L.sup {ty e:Nat} {fo:Nat→AV} {n:Nat} {st1:St} {q:Nat} {f:Bool} {es:List QE} {sv:AV} {st':St} (h:A0L ty e fo n st1 q f es sv st'):E6 st1 st':=by
 rcases h with ⟨_,_,h⟩ | ⟨_,bo,g,h1,_,_,h⟩
 ·exact h.sup
 ·exact ((E6.refl st1).upd h1).trans h.sup
theorem C6d {N:Nat} (hN:A5I N) (l:List B1) (codes:List C8) (hl:l.length≤60) (hc:codes.length≤9223372036854775807) (h20:(places l codes l.length).length≤N) (st:St) :
  S P 227 [A8 15 B9 l,C9 codes] st fun v st'=>(∃ o:List Int,A8R l codes o∧v=B0 (P4 l o))∧st'=st:=by
 refine S.post (post:=fun v st'=>∃ (o:List Int) (st1:St) (q:Nat) (fl:Bool),A8R l codes o∧E6 st st1∧A0L 3 1 (fun k=>eI (gI (P4 l o) k)) (P4 l o).length st1 q fl [] v st') ?_
  (fun v st' ⟨o,st1,q,fl,ho,hs,hq⟩=>⟨B0 (P4 l o),st,⟨⟨o,ho,rfl⟩,rfl⟩,hq.shift.trans (hs.shift _)⟩)
 refine F1 [2,7] Tryz.func227 ?_
 refine ⟨[1,2,5,15,16,17],fun m vs st'=>∃ (i:Nat) (sv:AV),i≤l.length∧m=l.length - i∧vs=[C9 codes,.fptr (A8 15 B9 l) 0,sv,A8 15 B9 l,eI l.length,eI i]∧Col 3 1 (fun k=>eI (gI (places l codes i) k)) st (places l codes i).length sv st',?_,?_⟩
 ·conv=>whnf
  exact ⟨_,0,.emp,D6b _,rfl,rfl,Col.start _ _ _ _⟩
 ·rintro m vs st' ⟨i,sv,hi,rfl,rfl,hcol⟩
  conv=>whnf
  cases h:decide ((i:Int)<(l.length:Int))
  ·have:=D5E h
   obtain rfl:i=l.length:=by omega
   conv=>whnf
   have key:∀ K:KK,(∀ v st1 o,v=.tuple []→A8R l codes o→E6 st st1→((o=[]∧sv=.emp)∨∃ b,sv=.own 1 b 0 o.length∧A5A st1 b o∧0<o.length)→K v st1)→A1R P 264 [sv,.fn (.func 265) [] [.fptr (A8 15 B9 l) 0]] st' K:=fun K hK=>by
    rcases hcol with ⟨h0,rfl,rfl⟩ | ⟨h0,b,g,hb,rfl,rfl,hg⟩
    ·have hP:places l codes l.length=[]:=D6k h0
     refine call (B2Z _ _) (fun v st1 hv=>?_)
     obtain ⟨rfl,rfl⟩:=hv
     exact hK _ _ [] rfl ⟨by rw [hP],fun x y _ _ h=>by simp at h⟩ (E6.refl _) (.inl ⟨rfl,rfl⟩)
    ·refine call (B5a hN b (places l codes l.length) _ _ (fun x y=>A8Z (E8 l x).id (E8 l y).id) (C5L l) (fun x y=>B0U _ _) (C9d l) _ ⟨g,A0 ..,hg⟩ h20 (fun x hx y hy s=>C7G l x y (A0G hx) (A0G hy) s)) (fun v st1 hv=>?_)
     obtain ⟨rfl,l',hp,hs,hb',hfr⟩:=hv
     have hll:l'.length=(places l codes l.length).length:=hp.length_eq
     refine hK _ st1 l' rfl ⟨hp,by rw [hll];exact hs⟩ (fun c x hc=>?_) (.inr ⟨b,by rw [hll],hb',by omega⟩)
     have hne:c≠b:=fun e=>by subst e;rw [hb] at hc;cases hc
     rw [hfr c hne,A9 hne];exact hc
   refine key _ (fun v st1 o hv ho hsup hsv=>?_)
   subst hv
   clear key hcol
   have hmem:∀ k,k<o.length→0≤gI o k∧(gI o k).toNat<l.length:=fun k hk=>A0G (ho.1.subset (A6 hk))
   conv=>whnf
   refine call (B1M st1) (fun v st2 hv=>?_)
   obtain ⟨q,rfl,hq⟩:=hv
   conv=>whnf
   rcases hsv with ⟨rfl,rfl⟩ | ⟨b,rfl,⟨fb,hst,hfb⟩,hpos⟩
   ·conv=>whnf
    refine B1v [2,5,8,40,41,42] ?_;conv=>whnf
    intro I
    refine B1v [5,8,11] ?_;conv=>whnf
    intro I
    refine I2 (A9x _ _ _ _ _ hq) ?_
    exact ⟨[],st1,q,true,ho,hsup,.inl ⟨by rw [D5F,A5e];rfl,rfl,hq⟩⟩
   ·have hol:o.length≤60:=by rw [ho.1.length_eq];have:=A1o l codes l.length;omega
    conv=>whnf
    refine ⟨[2,5,8,40,41,42],fun m vs st'=>∃ i:Nat,i≤o.length∧m=o.length - i∧vs=[.fptr (A8 15 B9 l) 0,.own 1 b 0 o.length,.optr 1 q 0 0,.own 1 b 0 o.length,eI o.length,eI i]∧QSt st1 q true ((List.range i).map (B1W l o)) st',?_,?_⟩
    ·conv=>whnf
     exact ⟨_,0,D6b _,rfl,rfl,hq⟩
    ·clear hq
     rintro m vs st' ⟨i,hi,rfl,rfl,hq⟩
     have hst':=hq.sup b _ hst
     conv=>whnf
     cases h:decide ((i:Int)<(o.length:Int))
     ·have:=D5E h
      obtain rfl:i=o.length:=by omega
      conv=>whnf
      refine ⟨[5,8,11],fun m vs st'=>∃ (t:Nat) (sv:AV) (fl:Bool),t≤o.length∧m=o.length - t∧vs=[.own 1 b 0 o.length,.optr 1 q 0 0,sv]∧A0L 3 1 (fun k=>eI (gI (P4 l o) k)) t st1 q fl ((A1p l o).drop t) sv st',?_,?_⟩
      ·conv=>whnf
       exact ⟨_,0,.emp,true,D6b _,rfl,rfl,.inl ⟨rfl,rfl,hq.perm (A1z l o).symm⟩⟩
      ·rintro m vs st' ⟨t,sv,fl,ht,rfl,rfl,hout⟩
       have hst':=hout.sup b _ hst
       have hrl:=A5e l o
       conv=>whnf
       refine I2 (hout.len_S) ?_
       refine B8 (fun h1=>?_) (fun h1=>?_)<;>rw [h1]<;>simp only [D5C,D5B,D8h] at h1
       ·have htl:t<(A1p l o).length:=by omega
        have hsplit:(A1p l o).drop t=(A1p l o)[t]::(A1p l o).drop (t+1):=D7E htl
        have hsort:=A7i l o
        have htop:∀ y∈(A1p l o).drop (t+1),G4 y (A1p l o)[t]=false:=fun y hy=>by
         have:=hsort.sublist (D8n t _)
         rw [hsplit,D7n] at this
         exact this.1 y hy
        have hx:=A5f (D6Z htl)
        have hres:gI (P4 l o) t=gI o ((A1p l o)[t]).2.toNat:=by
         unfold gI P4
         rw [D5A,D6y,D5I htl];rfl
        rw [hsplit] at hout
        generalize (A1p l o)[t]=x at *
        conv=>whnf
        refine call (hout.pop_S htop) (fun v st'' hv=>?_)
        obtain ⟨rfl,hout'⟩:=hv
        have hst'':=hout'.sup b _ hst
        conv=>whnf
        refine E4 ?_
        refine ldV hst'' rfl (by omega) (v:=eI (gI o x.2.toNat)) (by rw [D5R];exact hfb _ hx.2) ?_;conv=>whnf
        refine A0L.app (q:=r3) rfl rfl rfl rfl rfl (by simp only [hres];rfl) (by show (t+1) * 8≤140737488355328;omega) hout' (fun sv' st3 hout3=>?_);conv=>whnf
        refine F6 ?_
        exact ⟨o.length - (t+1),by omega,t+1,sv',false,by omega,rfl,rfl,hout3⟩
       ·have hte:t=o.length:=by omega
        subst hte;conv=>whnf
        refine ⟨o,st1,q,fl,ho,hsup,?_⟩
        rw [show (P4 l o).length=o.length by rw [D5F,hrl]]
        rw [show (A1p l o).drop o.length=[] by rw [←hrl,List.drop_length]] at hout
        exact hout
     ·have hi':i<o.length:=by have:=D5D h;omega
      have hm:=hmem i hi'
      conv=>whnf
      refine E4 ?_
      refine ldV hst' rfl (by omega) (v:=eI (gI o i)) (by rw [show 0+(i:Int).toNat=i by omega];exact hfb i hi') ?_;conv=>whnf
      refine E4 ?_
      refine call (A8B st1 q _ (E8 l (gI o i)).prio i _ hq (by rw [D5F,D6d];omega)) (fun v st'' hv=>?_)
      obtain ⟨rfl,hq'⟩:=hv
      conv=>whnf
      refine F6 ?_
      refine ⟨o.length - (i+1),by omega,i+1,by omega,rfl,by rw [B4 (by omega)],?_⟩
      rw [D7i,D6i];exact hq'
  ·have hi':i<l.length:=by have:=D5D h;omega
   have hpl:=A1o l codes i
   conv=>whnf
   refine E4 ?_
   have yes:A0k codes (l.getD (i:Int).toNat default)=true→∀ (K:KK),(∀ sv' st'',Col 3 1 (fun k=>eI (gI (places l codes (i+1)) k)) st (places l codes (i+1)).length sv' st''→K sv' st'')→A5x T 29 sv (.arr 1 1 fun k=>[AV.int .i64 (i:Int)].getD k .junk) st' K:=fun ha K hK=>by
    have es:=A6b l codes i
    rw [if_pos (show A0k codes (l.getD i default)=true from ha)] at es
    have el:(places l codes (i+1)).length=(places l codes i).length+1:=by rw [es];simp
    refine Col.app (q:=r3) rfl rfl rfl rfl rfl ?_ (by show ((places l codes i).length+1) * 8≤140737488355328;omega) (hcol.congr (f':=fun k=>eI (gI (places l codes (i+1)) k)) fun k hk=>by rw [es,N6 hk]) (fun sv' st'' hc'=>hK sv' st'' (by rw [el];exact hc'))
    rw [es,A8h];rfl
   have no:A0k codes (l.getD (i:Int).toNat default)=false→places l codes (i+1)=places l codes i:=fun ha=>by
    have es:=A6b l codes i
    rw [if_neg (show ¬ A0k codes (l.getD i default)=true by rw [show A0k codes (l.getD i default)=false from ha];simp),D7v] at es
    exact es
   have fin:∀ sv' st'',Col 3 1 (fun k=>eI (gI (places l codes (i+1)) k)) st (places l codes (i+1)).length sv' st''→∃ m',m'<l.length - i∧∃ (i_1:Nat) (sv:AV),i_1≤l.length∧m'=l.length - i_1∧[C9 codes,AV.fptr (A8 15 B9 l) 0,sv',A8 15 B9 l,eI l.length,eI (IntKind.i64.wrap ((i:Int)+1))]=[C9 codes,.fptr (A8 15 B9 l) 0,sv,A8 15 B9 l,eI l.length,eI i_1]∧Col 3 1 (fun k=>eI (gI (places l codes i_1) k)) st (places l codes i_1).length sv st'' :=
    fun sv' st'' hc'=>⟨l.length - (i+1),by omega,i+1,sv',by omega,rfl,by rw [B4 (by omega)],hc'⟩
   refine B8 (fun h1=>?_) (fun h1=>?_)
   ·have ha:A0k codes (l.getD (i:Int).toNat default)=true:=by unfold A0k;rw [show N3 (l.getD (i:Int).toNat default).code=true from h1,D6v]
    rw [h1];conv=>whnf
    refine yes ha _ (fun sv' st'' hc'=>?_);conv=>whnf
    refine F6 ?_
    exact fin _ _ hc'
   ·rw [h1];conv=>whnf
    refine I2 (C4A codes hc (l.getD (i:Int).toNat default).code _) ?_
    refine B8 (fun h2=>?_) (fun h2=>?_)
    ·have ha:A0k codes (l.getD (i:Int).toNat default)=true:=by unfold A0k;rw [h2,D6q]
     rw [h2];conv=>whnf
     refine yes ha _ (fun sv' st'' hc'=>?_);conv=>whnf
     refine F6 ?_
     exact fin _ _ hc'
    ·have ha:A0k codes (l.getD (i:Int).toNat default)=false:=by unfold A0k;rw [show N3 (l.getD (i:Int).toNat default).code=false from h1,h2];rfl
     rw [h2];conv=>whnf
     refine F6 ?_
     exact fin _ _ (by rw [no ha];exact hcol)
theorem C8U (a b:Int) (ha:0≤a) (hb:0≤b) (hab:a+b≤100000000000000) (st:St):S P 307 [eI a,eI b] st fun v st'=>v=.tuple [eI (a+b),eI 0]∧st'=st:=by
 have ra:(decide (0≤a)&&decide (a≤100000000000000))=true:=by simp;omega
 have rb:(decide (0≤b)&&decide (b≤100000000000000))=true:=by simp;omega
 have w1:IntKind.i64.wrap (100000000000000 - b)=100000000000000 - b:=A5 (by omega) (by omega)
 have w2:IntKind.i64.wrap (a+b)=a+b:=A5 (by omega) (by omega)
 refine F1 [] Tryz.func307 ?_
 refine B3 (A6P a st) ?_
 rw [ra];conv=>whnf
 refine B3 (A6P b st) ?_
 rw [rb];conv=>whnf
 rw [w1]
 refine B8 (fun h=>?_) (fun h=>?_)<;>rw [h]<;>simp only [D5C,D5B] at h
 ·exact absurd h (by omega)
 ·conv=>whnf
  rw [w2]
  exact ⟨rfl,rfl⟩
def A2 (l:List Int):Int:=l.foldl (fun s x=>s+x) 0
theorem K5 {l:List Int} {i:Nat} (h:i<l.length):A2 (l.take (i+1))=A2 (l.take i)+gI l i:=G8 h _ _
theorem F3 (a b:List Int):A2 (a++b)=A2 a+A2 b:=by
 have:∀ (b:List Int) (s:Int),b.foldl (fun s x=>s+x) s=s+b.foldl (fun s x=>s+x) 0:=by
  intro b
  induction b with
  | nil=>intro s;simp
  | cons x b ih=>intro s;simp only [D6W];rw [ih (s+x),ih (0+x)];omega
 unfold A2
 rw [D7P,this b]
theorem C1 {l:List Int} (h:∀ x∈l,0≤x):0≤A2 l:=by
 induction l with
 | nil=>exact D6j _
 | cons x l ih =>
  have:=F3 [x] l
  rw [D8d] at this
  have e:A2 [x]=x:=by simp [A2]
  rw [this,e]
  have:=ih (fun y hy=>h y (D6a _ hy))
  have:=h x (D6c ..)
  omega
theorem N0 {l:List Int} (h:∀ x∈l,0≤x) (i:Nat):A2 (l.take i)≤A2 l:=by
 have e:=F3 (l.take i) (l.drop i)
 rw [D7R] at e
 have:=C1 (l:=l.drop i) (fun x hx=>h x (List.drop_subset _ _ hx))
 omega
theorem J2 {l:List Int} (h:∀ x∈l,0≤x) {x:Int} (hx:x∈l):x≤A2 l:=by
 obtain ⟨i,hi,rfl⟩:=D3 hx
 have h1:=K5 hi
 have h2:=N0 h (i+1)
 have h3:=C1 (l:=l.take i) (fun x hx=>h x (D6E _ _ hx))
 have e:gI l i=l.getD i default:=rfl
 omega
structure R4 (total:Int) (ws:List Int):Prop where
 t0:0≤total
 t1:total≤100000000000000
 len:ws.length≤100000
 w0:∀ w∈ws,0≤w
 sum:A2 ws≤100000000000000
 none:A2 ws=0→total=0
theorem C8E (total:Int) (ws:List Int) (hW:R4 total ws) (st:St):S P 277 [eI total,B0 ws] st fun v st'=>v=.tuple [eI (A2 ws),eI 0]∧st'=st:=by
 have rt:(decide (0≤total)&&decide (total≤100000000000000))=true:=by simp;exact ⟨hW.t0,hW.t1⟩
 have hw:∀ w∈ws,w≤100000000000000:=fun w hw=>D8w (J2 hW.w0 hw) hW.sum
 have hl:=hW.len
 refine F1 [] Tryz.func277 ?_
 refine B3 (A6P total st) ?_
 rw [rt];conv=>whnf
 refine B8 (fun h=>?_) (fun h=>?_)<;>rw [h]<;>simp only [D5C,D5B] at h
 ·exact absurd h (by omega)
 conv=>whnf
 refine ⟨[0,1,20,21,22],fun m vs st'=>∃ i:Nat,i≤ws.length∧m=ws.length - i∧vs=[eI total,B0 ws,B0 ws,eI ws.length,eI i]∧st'=st,?_,?_⟩
 ·conv=>whnf
  exact ⟨_,0,D6b _,rfl,rfl,rfl⟩
 ·rintro m vs st' ⟨i,hi,rfl,rfl,rfl⟩
  conv=>whnf
  cases h1:decide ((i:Int)<(ws.length:Int))
  ·conv=>whnf
   refine ⟨[0,8,30,31,32],fun m vs st''=>∃ i:Nat,i≤ws.length∧m=ws.length - i∧vs=[eI total,eI (A2 (ws.take i)),B0 ws,eI ws.length,eI i]∧st''=st',?_,?_⟩
   ·conv=>whnf
    exact ⟨_,0,D6b _,rfl,rfl,rfl⟩
   ·rintro m vs st'' ⟨i,hi,rfl,rfl,rfl⟩
    conv=>whnf
    cases h2:decide ((i:Int)<(ws.length:Int))
    ·have:=D5E h2
     obtain rfl:i=ws.length:=by omega
     rw [D5L];conv=>whnf
     refine B8 (fun h3=>?_) (fun h3=>?_)<;>rw [h3]
     ·conv=>whnf
      have:total=0:=hW.none (by simpa using h3)
      rw [this];conv=>whnf
      exact ⟨rfl,rfl⟩
     ·conv=>whnf
      exact ⟨rfl,rfl⟩
    ·have hi':i<ws.length:=by have:=D5D h2;omega
     have h3:=K5 hi'
     have h4:=N0 hW.w0 (i+1)
     have h5:=C1 (l:=ws.take i) (fun x hx=>hW.w0 x (D6E _ _ hx))
     have h6:=hW.w0 _ (A6 hi')
     have h7:=hW.sum
     conv=>whnf
     refine E4 ?_
     refine I2 (C8U (A2 (ws.take i)) (gI ws i) h5 h6 (by omega) _) ?_
     refine F6 ?_
     exact ⟨ws.length - (i+1),by omega,i+1,by omega,rfl,by rw [B4 (by omega),h3],rfl⟩
  ·have hi':i<ws.length:=by have:=D5D h1;omega
   have hm:gI ws i∈ws:=A6 hi'
   have rw':(decide (0≤gI ws i)&&decide (gI ws i≤100000000000000))=true:=by simp only [D5G,D5C];exact ⟨hW.w0 _ hm,hw _ hm⟩
   conv=>whnf
   refine E4 ?_
   refine B3 (A6P (gI ws i) _) ?_
   rw [rw'];conv=>whnf
   refine F6 ?_
   exact ⟨ws.length - (i+1),by omega,i+1,by omega,rfl,by rw [B4 (by omega)],rfl⟩
theorem C8k (total w all:Int) (h0:0≤total) (h1:total≤100000000000000) (hw:0≤w) (hwa:w≤all) (ha:0<all) (ha':all≤100000000000000) (st:St):S P 278 [eI total,eI w,eI all] st fun v st'=>v=.tuple [eI (total * w / all),eI (total * w % all)]∧st'=st:=by
 have e1:IntKind.u64.wrap total=total:=B6 (by omega) (by omega)
 have e2:IntKind.u64.wrap w=w:=B6 (by omega) (by omega)
 have e3:IntKind.u64.wrap all=all:=B6 (by omega) (by omega)
 have hN:0≤total * w:=D7a h0 hw
 have hN':total * w≤100000000000000 * all:=D7Y h1 hwa hw (by omega)
 have hq0:0≤total * w / all:=D7h hN (by omega)
 have hq1:total * w / all≤100000000000000:=by
  have:total * w / all<100000000000000+1:=(D7d ha).2 (by omega)
  omega
 have hr0:=D6X (total * w) (show all≠0 by omega)
 have hr1:=D6L (total * w) ha
 refine F1 [] Tryz.func278 ?_
 rw [e1,e2]
 refine I2 (B9t total w ⟨by omega,by omega⟩ ⟨by omega,by omega⟩ st) ?_
 rw [e3]
 have hN2:100000000000000 * all≤100000000000000 * 100000000000000:=by omega
 refine B3 (B9g _ _ all (by omega) (by omega) (by omega) (by omega) (by omega) st) ?_
 rw [show total * w / 18446744073709551616 * 18446744073709551616+total * w % 18446744073709551616=total * w by omega];conv=>whnf
 rw [A5 (x:=total * w / all) (by omega) (by omega),A5 (x:=total * w % all) (by omega) (by omega)]
 exact ⟨rfl,rfl⟩
def shQ (total S:Int) (ws:List Int) (k:Nat):Int:=total * gI ws k / S
def shE (total S:Int) (ws:List Int) (k:Nat):QE:=(total * gI ws k % S,(k:Int))
def shR (total S:Int) (ws:List Int):List QE:=((List.range ws.length).map (shE total S ws)).mergeSort fun a b=>!G4 b a
def S5 (qs:List Int) (R:List QE):List Int:=R.foldl (fun acc e=>acc.set e.2.toNat (gI acc e.2.toNat+1)) qs
def F9 (total S:Int) (ws:List Int) (i:Nat):Int:=total - A2 ((List.range i).map (shQ total S ws))
def D2 (total:Int) (ws:List Int):List Int :=
 if A2 ws=0 then ws.map fun _=>0
 else S5 ((List.range ws.length).map (shQ total (A2 ws) ws)) ((shR total (A2 ws) ws).take (F9 total (A2 ws) ws ws.length).toNat)
theorem A2u (total S:Int) (ws:List Int):(shR total S ws).Perm ((List.range ws.length).map (shE total S ws)):=D8o ..
theorem A7G (total S:Int) (ws:List Int):(shR total S ws).Pairwise fun a b=>G4 b a=false:=by
 have:=D7T (le:=fun a b:QE=>!G4 b a) (fun a b c h1 h2=>by simp only [D5Q] at *;exact A0F h2 h1) (fun a b=>by
  cases h:G4 b a with
  | false=>rfl
  | true=>rw [A0q h];rfl) ((List.range ws.length).map (shE total S ws))
 exact this.imp (fun h=>by simpa using h)
theorem A6R (total S:Int) (ws:List Int):(shR total S ws).length=ws.length:=by
 rw [(A2u total S ws).length_eq];simp
theorem B0B {total S:Int} {ws:List Int} {e:QE} (h:e∈shR total S ws):0≤e.2∧e.2.toNat<ws.length:=by
 obtain ⟨k,hk,rfl⟩:=D5X.1 ((A2u total S ws).subset h)
 have:=D5U.1 hk
 simp only [shE];omega
theorem A1W (qs:List Int) (R:List QE):(S5 qs R).length=qs.length:=by
 unfold S5
 induction R generalizing qs with
 | nil=>rfl
 | cons e R ih=>simp only [D6W];rw [ih];simp
theorem A9I (qs:List Int) (R:List QE) (e:QE):S5 qs (R++[e])=(S5 qs R).set e.2.toNat (gI (S5 qs R) e.2.toNat+1):=by
 unfold S5;rw [D7P];rfl
theorem L7 (f:Nat→Int) (n:Nat):A2 ((List.range (n+1)).map f)=A2 ((List.range n).map f)+f n:=by
 rw [D7i,D6i,F3];simp [A2]
theorem B0u (total S:Int) (hS:0<S) (ws:List Int):∀ i,i≤ws.length→S * A2 ((List.range i).map (shQ total S ws))+A2 ((List.range i).map fun k=>total * gI ws k % S)=total * A2 (ws.take i)
 | 0,_=>by simp [A2]
 | i+1,h=>by
  have ih:=B0u total S hS ws i (by omega)
  rw [L7,L7,K5 (by omega),D7M,D7M,←ih]
  have:=D6K (total * gI ws i) S
  unfold shQ
  omega
theorem A7E (total S:Int) (hS:0<S) (ws:List Int):∀ i,0≤A2 ((List.range i).map fun k=>total * gI ws k % S)∧A2 ((List.range i).map fun k=>total * gI ws k % S)≤i * (S - 1)
 | 0=>by simp [A2]
 | i+1=>by
  have ih:=A7E total S hS ws i
  rw [L7]
  have h1:=D6X (total * gI ws i) (show S≠0 by omega)
  have h2:=D6L (total * gI ws i) hS
  have h3:((i+1:Nat):Int) * (S - 1)=(i:Int) * (S - 1)+(S - 1):=by
   rw [show ((i+1:Nat):Int)=(i:Int)+1 by omega,D8g,Int.one_mul]
  omega
theorem A3r {total:Int} {ws:List Int} (h:R4 total ws) (hS:0<A2 ws):0≤F9 total (A2 ws) ws ws.length∧F9 total (A2 ws) ws ws.length≤ws.length:=by
 have e:=B0u total (A2 ws) hS ws ws.length (D5J _)
 have b:=A7E total (A2 ws) hS ws ws.length
 rw [D5L] at e
 have hk:A2 ws * F9 total (A2 ws) ws ws.length=A2 ((List.range ws.length).map fun k=>total * gI ws k % A2 ws):=by
  unfold F9
  rw [Int.mul_sub,D7Q (A2 ws) total];omega
 constructor
 ·refine Int.le_of_not_gt fun hlt=>?_
  have:A2 ws * F9 total (A2 ws) ws ws.length<0:=Int.mul_neg_of_pos_of_neg hS hlt
  omega
 ·refine Int.le_of_not_gt fun hgt=>?_
  have h1:A2 ws * ((ws.length:Int)+1)≤A2 ws * F9 total (A2 ws) ws ws.length:=D6x (by omega) (by omega)
  have h2:(ws.length:Int) * (A2 ws - 1)≤A2 ws * (ws.length:Int):=by
   rw [Int.mul_sub,D8y,D7Q];omega
  rw [D7M,D8y] at h1
  omega
theorem A4B {total:Int} {ws:List Int} (h:R4 total ws) (hS:0<A2 ws) {k:Nat} (hk:k<ws.length):0≤shQ total (A2 ws) ws k∧shQ total (A2 ws) ws k≤total:=by
 have hw:=h.w0 _ (A6 hk)
 have hle:=J2 h.w0 (A6 hk)
 refine ⟨D7h (D7a h.t0 hw) (by omega),?_⟩
 have h1:total * gI ws k≤total * A2 ws:=D6x hle h.t0
 have:shQ total (A2 ws) ws k<total+1:=(D7d hS).2 (by rw [D8g,Int.one_mul];omega)
 omega
theorem A5k {total:Int} {ws:List Int} (h:R4 total ws) (hS:0<A2 ws) {i:Nat} (hi:i≤ws.length):0≤A2 ((List.range i).map (shQ total (A2 ws) ws))∧A2 ((List.range i).map (shQ total (A2 ws) ws))≤total:=by
 have e:=B0u total (A2 ws) hS ws i hi
 have b:=A7E total (A2 ws) hS ws i
 have t:=N0 h.w0 i
 constructor
 ·exact C1 fun x hx=>by
   obtain ⟨k,hk,rfl⟩:=D5X.1 hx
   exact (A4B h hS (by have:=D5U.1 hk;omega)).1
 ·have h1:total * A2 (ws.take i)≤total * A2 ws:=D6x t h.t0
  refine Int.le_of_not_gt fun hgt=>?_
  have:A2 ws * (total+1)≤A2 ws * A2 ((List.range i).map (shQ total (A2 ws) ws)):=D6x (by omega) (by omega)
  rw [D7M,D8y,D7Q] at this
  omega
theorem A4S (qs:List Int) (R:List QE) (k:Nat):gI qs k≤gI (S5 qs R) k∧gI (S5 qs R) k≤gI qs k+R.length:=by
 unfold S5
 induction R generalizing qs with
 | nil=>simp
 | cons e R ih =>
  simp only [D6W,D6n]
  have h:=ih (qs.set e.2.toNat (gI qs e.2.toNat+1))
  have hs:gI qs k≤gI (qs.set e.2.toNat (gI qs e.2.toNat+1)) k∧gI (qs.set e.2.toNat (gI qs e.2.toNat+1)) k≤gI qs k+1:=by
   unfold gI
   simp only [D5A,D7D]
   by_cases e1:e.2.toNat=k
   ·subst e1
    by_cases e2:e.2.toNat<qs.length
    ·simp [e2];omega
    ·simp [e2]
   ·rw [if_neg e1];omega
  omega
theorem M8 (f:Nat→Int) {n k:Nat} (hk:k<n):gI ((List.range n).map f) k=f k:=by
 unfold gI;simp [D5A,hk]
theorem C3b {l:List Int} {j:Nat} (hj:j<l.length) (x:Int) (k:Nat):gI (l.set j x) k=if k=j then x else gI l k:=by
 unfold gI
 simp only [D5A,D7D]
 by_cases h:k=j
 ·subst h;simp [hj]
 ·rw [if_neg (fun e=>h e.symm),if_neg h]
theorem A9m (total:Int) (ws:List Int) (h:R4 total ws) (st:St):S P 238 [eI total,B0 ws] st fun v st'=>v=.tuple [B0 (D2 total ws),eI 0]∧st'=st:=by
 have hlen:=h.len
 refine S.post (post:=fun v st'=>∃ (bo:Nat) (f:Nat→AV),st bo=none∧v=.tuple [.own 1 bo 0 ws.length,eI 0]∧E6 (upd st bo ⟨2,1,ws.length,f⟩) st'∧(D2 total ws).length=ws.length∧∀ k,k<ws.length→f k=eI (gI (D2 total ws) k)) ?_
  (fun v st' ⟨bo,f,h0,hv,hs,hl,hf⟩=>⟨_,st,⟨rfl,rfl⟩,by
   rw [hv]
   refine A7.tuple (A7.cons ((hs.shift _).trans ?_) (A7.keep _ _)) rfl
   have h2:=N7 (st:=upd st bo ⟨2,1,ws.length,f⟩) (e:=1) (b:=bo) (n:=ws.length) (f:=fun k=>eI (gI (D2 total ws) k)) (A0 ..) rfl (D5J _) hf
   rw [A3H h0] at h2
   have e:B0 (D2 total ws)=.arr 1 ws.length (fun k=>eI (gI (D2 total ws) k)):=by unfold B0 A8;rw [hl]
   rw [e];exact h2⟩)
 refine F1 [] Tryz.func238 ?_
 refine I2 (C8E total ws h st) ?_
 refine mkO rfl rfl rfl (by show 8 * ws.length≤_;omega) (by omega) (by rfl) (fun bo hbo=>?_);conv=>whnf
 refine B8 (fun h1=>?_) (fun h1=>?_)<;>rw [h1]
 ·have h0:A2 ws=0:=by simpa using h1
  have hB:D2 total ws=ws.map fun _=>0:=if_pos h0
  conv=>whnf
  refine ⟨bo,_,hbo,rfl,E6.refl _,by rw [hB,D5F],fun k hk=>?_⟩
  rw [hB]
  show AV.int .i64 0=_
  rw [show gI (ws.map fun _=>(0:Int)) k=0 from D4 (fun _=>(0:Int)) ws hk]
 have hS:0<A2 ws:=by
  have h2:=C1 h.w0
  have h3:A2 ws≠0:=by simpa using h1
  omega
 have hB:D2 total ws=S5 ((List.range ws.length).map (shQ total (A2 ws) ws)) ((shR total (A2 ws) ws).take (F9 total (A2 ws) ws ws.length).toNat):=if_neg (by omega)
 have hsum:=h.sum
 have ht0:=h.t0
 have ht1:=h.t1
 conv=>whnf
 refine call (B1M _) (fun v st2 hv=>?_)
 obtain ⟨q,rfl,hq⟩:=hv
 conv=>whnf
 refine ⟨[0,6,8,9,10,35,36,37],fun m vs st'=>∃ (i:Nat) (f:Nat→AV),i≤ws.length∧m=ws.length - i∧vs=[eI total,eI (A2 ws),.own 1 bo 0 ws.length,eI (F9 total (A2 ws) ws i),.optr 1 q 0 0,B0 ws,eI ws.length,eI i] ∧
  (∀ k,k<i→f k=eI (shQ total (A2 ws) ws k))∧(∀ k,i≤k→f k=.int .i64 0)∧QSt (upd st bo ⟨2,1,ws.length,f⟩) q true ((List.range i).map (shE total (A2 ws) ws)) st',?_,?_⟩
 ·conv=>whnf
  exact ⟨_,0,fun _=>.int .i64 0,D6b _,rfl,(by simp [F9,A2];rfl),fun k hk=>absurd hk (by omega),fun _ _=>rfl,hq⟩
 ·clear hq
  rintro m vs st' ⟨i,f,hi,rfl,rfl,hf1,hf2,hq⟩
  conv=>whnf
  cases h2:decide ((i:Int)<(ws.length:Int))
  ·have:=D5E h2
   obtain rfl:i=ws.length:=by omega
   obtain ⟨l0,l1⟩:=A3r h hS
   conv=>whnf
   refine ⟨[8,10,61,62],fun m vs st'=>∃ (t:Nat) (f:Nat→AV) (fl:Bool),(t:Int)≤F9 total (A2 ws) ws ws.length∧m=(F9 total (A2 ws) ws ws.length).toNat - t∧vs=[.own 1 bo 0 ws.length,.optr 1 q 0 0,eI (F9 total (A2 ws) ws ws.length),eI t] ∧
    (∀ k,k<ws.length→f k=eI (gI (S5 ((List.range ws.length).map (shQ total (A2 ws) ws)) ((shR total (A2 ws) ws).take t)) k))∧QSt (upd st bo ⟨2,1,ws.length,f⟩) q fl ((shR total (A2 ws) ws).drop t) st',?_,?_⟩
   ·conv=>whnf
    exact ⟨_,0,f,true,by omega,rfl,rfl,fun k hk=>by rw [hf1 k hk,D7o];show _=eI (gI ((List.range ws.length).map _) k);rw [M8 _ hk],hq.perm (A2u total (A2 ws) ws).symm⟩
   ·clear hf1 hf2 hq f
    rintro m vs st' ⟨t,f,fl,ht,rfl,rfl,hf,hq⟩
    have hrl:=A6R total (A2 ws) ws
    have hby:st' bo=some ⟨2,1,ws.length,f⟩:=hq.sup bo _ (A0 ..)
    conv=>whnf
    cases h3:decide ((t:Int)<F9 total (A2 ws) ws ws.length)
    ·have h3':=D5E h3
     have hte:(F9 total (A2 ws) ws ws.length).toNat=t:=by omega
     conv=>whnf
     refine ⟨bo,f,hbo,rfl,hq.sup,by rw [hB,A1W];simp,fun k hk=>by rw [hB,hte];exact hf k hk⟩
    ·have h3':=D5D h3
     have htl:t<(shR total (A2 ws) ws).length:=by omega
     have hsplit:(shR total (A2 ws) ws).drop t=(shR total (A2 ws) ws)[t]::(shR total (A2 ws) ws).drop (t+1):=D7E htl
     have htop:∀ y∈(shR total (A2 ws) ws).drop (t+1),G4 y (shR total (A2 ws) ws)[t]=false:=fun y hy=>by
      have:=(A7G total (A2 ws) ws).sublist (D8n t _)
      rw [hsplit,D7n] at this
      exact this.1 y hy
     have hx:=B0B (D6Z htl)
     have htake:(shR total (A2 ws) ws).take (t+1)=(shR total (A2 ws) ws).take t++[(shR total (A2 ws) ws)[t]]:=D7F htl
     rw [hsplit] at hq
     generalize (shR total (A2 ws) ws)[t]=x at *
     have hb1:=A4S ((List.range ws.length).map (shQ total (A2 ws) ws)) ((shR total (A2 ws) ws).take t) x.2.toNat
     have hb2:=A4B h hS hx.2
     rw [M8 _ hx.2,D5K] at hb1;conv=>whnf
     refine call (A9y _ _ _ _ _ _ hq htop) (fun v st'' hv=>?_)
     obtain ⟨rfl,hq'⟩:=hv
     have hby':st'' bo=some ⟨2,1,ws.length,f⟩:=hq'.sup bo _ (A0 ..)
     conv=>whnf
     refine E4 ?_
     refine ldV hby' rfl (by omega) (v:=eI (gI (S5 ((List.range ws.length).map (shQ total (A2 ws) ws)) ((shR total (A2 ws) ws).take t)) x.2.toNat)) (by rw [D5R];exact hf _ hx.2) ?_;conv=>whnf
     refine E4 ?_
     refine stV hby' rfl (by omega) (v:=eI (gI (S5 ((List.range ws.length).map (shQ total (A2 ws) ws)) ((shR total (A2 ws) ws).take t)) x.2.toNat)) (by rw [D5R];exact hf _ hx.2) (by rfl) ?_;conv=>whnf
     refine F6 ?_
     have hg:=hq'.grow (bo':=bo) (y':=⟨2,1,ws.length,I1 f (0+x.2.toNat) (eI (IntKind.i64.wrap (gI (S5 ((List.range ws.length).map (shQ total (A2 ws) ws)) ((shR total (A2 ws) ws).take t)) x.2.toNat+1)))⟩) hbo (.inl rfl)
     rw [B0D] at hg
     refine ⟨(F9 total (A2 ws) ws ws.length).toNat - (t+1),by omega,t+1,_,false,by omega,rfl,by rw [B4 (by omega)],fun k hk=>?_,hg.2⟩
     rw [htake,A9I,C3b (by rw [A1W];simpa using hx.2),D5R]
     by_cases e1:k=x.2.toNat
     ·rw [if_pos e1,e1,A4,A5 (by omega) (by omega)]
     ·rw [if_neg e1,H4 e1];exact hf k hk
  ·have hi':i<ws.length:=by have:=D5D h2;omega
   have hm:gI ws i∈ws:=A6 hi'
   have hby:st' bo=some ⟨2,1,ws.length,f⟩:=hq.sup bo _ (A0 ..)
   have hqb:=A5k h hS (show i≤ws.length by omega)
   have hqb':=A5k h hS (show i+1≤ws.length by omega)
   have hsr:=L7 (shQ total (A2 ws) ws) i
   conv=>whnf
   refine E4 ?_
   refine I2 (C8k total (gI ws i) (A2 ws) h.t0 h.t1 (h.w0 _ hm) (J2 h.w0 hm) hS h.sum _) ?_
   refine E4 ?_
   refine stV hby rfl (by omega) (v:=.int .i64 0) (by rw [show 0+(i:Int).toNat=i by omega];exact hf2 i (D5J _)) (by rfl) ?_
   conv=>whnf
   have hg:=hq.grow (bo':=bo) (y':=⟨2,1,ws.length,I1 f (0+(i:Int).toNat) (eI (shQ total (A2 ws) ws i))⟩) hbo (.inl rfl)
   rw [B0D] at hg
   refine call (A8B _ q _ (total * gI ws i % A2 ws) i _ hg.2 (by rw [D5F,D6d];omega)) (fun v st'' hv=>?_)
   obtain ⟨rfl,hq'⟩:=hv
   conv=>whnf
   refine F6 ?_
   refine ⟨ws.length - (i+1),by omega,i+1,I1 f (0+(i:Int).toNat) (eI (shQ total (A2 ws) ws i)),by omega,rfl,?_,fun k hk=>?_,fun k hk=>?_,?_⟩
   ·rw [B4 (by omega)]
    have e:IntKind.i64.wrap (F9 total (A2 ws) ws i - total * gI ws i / A2 ws)=F9 total (A2 ws) ws (i+1):=by
     unfold F9
     have:total * gI ws i / A2 ws=shQ total (A2 ws) ws i:=rfl
     rw [this,A5 (by omega) (by omega)];omega
    rw [e]
   ·by_cases e1:k=i
    ·subst e1;rw [show 0+(k:Int).toNat=k by omega,A4]
    ·rw [H4 (by omega)];exact hf1 k (by omega)
   ·rw [H4 (by omega)];exact hf2 k (by omega)
   ·rw [D7i,D6i];exact hq'
abbrev C6 (l:List B2):AV:=A8 3 Z5 l
abbrev gU (l:List B2) (k:Nat):B2:=l.getD k default
abbrev D7 (us:List B2):List Int:=us.map B2.net
structure E2 (us:List B2):Prop where
 len:us.length≤100000
 pos:∀ u∈us,0≤u.net
 sum:A2 (D7 us)≤10000000000000
structure N9 (us:List B2) (mine:List Int):Prop where
 rng:∀ k,k<mine.length→0≤gI mine k∧(gI mine k).toNat<us.length
 opn:∀ k,k<mine.length→(gU us (gI mine k).toNat).opn=true
 inc:∀ k,k+1<mine.length→gI mine k<gI mine (k+1)
theorem E2.nets0 {us:List B2} (h:E2 us):∀ x∈D7 us,0≤x:=fun x hx=>by
 obtain ⟨u,hu,rfl⟩:=D5X.1 hx
 exact h.pos u hu
theorem E2.le {us:List B2} (h:E2 us) {u:B2} (hu:u∈us):u.net≤10000000000000:=by
 have:=J2 h.nets0 (D8p (f:=B2.net) hu)
 have:=h.sum
 omega
theorem N9.lt {us:List B2} {mine:List Int} (h:N9 us mine):∀ j k,j<k→k<mine.length→gI mine j<gI mine k:=fun j k hjk hk=>by
 induction k with
 | zero=>omega
 | succ k ih =>
  rcases D7g j k with hlt | hge
  ·exact Int.lt_trans (ih hlt (by omega)) (h.inc k hk)
  ·have:j=k:=by omega
   subst this;exact h.inc j hk
theorem N9.len {us:List B2} {mine:List Int} (h:N9 us mine):mine.length≤us.length:=by
 have:∀ k,k<mine.length→(k:Int)≤gI mine k:=fun k=>by
  induction k with
  | zero=>intro hk;exact (h.rng 0 hk).1
  | succ k ih=>intro hk;have:=ih (by omega);have:=h.inc k hk;omega
 rcases D6Y mine.length with e | e
 ·omega
 ·have h1:=this (mine.length - 1) (by omega)
  have h2:=(h.rng (mine.length - 1) (by omega)).2
  omega
theorem C8e (us:List B2) (h:E2 us) (st:St):S P 313 [C6 us] st fun v st'=>v=.bool true∧st'=st:=by
 have hlen:=h.len
 refine F1 [5] Tryz.func313 ?_
 refine B8 (fun h1=>?_) (fun h1=>?_)<;>rw [h1]<;>simp only [D5C,D5B] at h1
 ·exact absurd h1 (by omega)
 conv=>whnf
 refine ⟨[3,9,10,11],fun m vs st'=>∃ i:Nat,i≤us.length∧m=us.length - i∧vs=[eI (A2 ((D7 us).take i)),C6 us,eI us.length,eI i]∧st'=st,?_,?_⟩
 ·conv=>whnf
  exact ⟨_,0,D6b _,rfl,rfl,rfl⟩
 ·rintro m vs st' ⟨i,hi,rfl,rfl,rfl⟩
  conv=>whnf
  cases h2:decide ((i:Int)<(us.length:Int))
  ·have:=D5E h2
   obtain rfl:i=us.length:=by omega
   have hs:=h.sum
   rw [show (D7 us).take us.length=D7 us from by rw [←D5F (f:=B2.net),D5L]];conv=>whnf
   refine ⟨?_,rfl⟩
   show AV.bool (decide _)=_
   rw [D6m hs]
  ·have hi':i<us.length:=by have:=D5D h2;omega
   have hu:gU us i∈us:=A6 hi'
   have p0:=h.pos _ hu
   have p1:=h.le hu
   have hsum:=h.sum
   have e1:=K5 (l:=D7 us) (i:=i) (by rw [D5F];exact hi')
   have e2:=N0 h.nets0 (i+1)
   have e3:=C1 (l:=(D7 us).take i) (fun x hx=>h.nets0 x (D6E _ _ hx))
   have e4:gI (D7 us) i=(gU us i).net:=D4 B2.net us hi'
   have w:IntKind.i64.wrap (A2 ((D7 us).take i)+(gU us i).net)=A2 ((D7 us).take (i+1)):=by rw [e1,e4];exact A5 (by omega) (by omega)
   conv=>whnf
   refine E4 ?_
   refine B8 (fun h3=>?_) (fun h3=>?_)<;>rw [h3]
   ·exact absurd (D5D h3) (by show ¬(gU us i).net<0;omega)
   conv=>whnf
   refine B8 (fun h4=>?_) (fun h4=>?_)<;>rw [h4]
   ·exact absurd (D5D h4) (by show ¬(gU us i).net>10000000000000;omega)
   conv=>whnf
   refine F6 ?_
   exact ⟨us.length - (i+1),by omega,i+1,by omega,rfl,by rw [B4 (by omega),←w];rfl,rfl⟩
theorem B0X (us:List B2) (mine:List Int) (h:E2 us) (hm:N9 us mine) (st:St):S P 294 [C6 us,B0 mine] st fun v st'=>v=.bool true∧st'=st:=by
 have hlen:=h.len
 have hml:=hm.len
 refine F1 [] Tryz.func294 ?_
 refine I2 (C8e us h st) ?_
 refine ⟨[0,5,11,12,13],fun m vs st'=>∃ i:Nat,i≤mine.length∧m=mine.length - i∧vs=[C6 us,eI (if i=0 then -1 else gI mine (i - 1)),B0 mine,eI mine.length,eI i]∧st'=st,?_,?_⟩
 ·conv=>whnf
  exact ⟨_,0,D6b _,rfl,rfl,rfl⟩
 ·rintro m vs st' ⟨i,hi,rfl,rfl,rfl⟩
  conv=>whnf
  cases h2:decide ((i:Int)<(mine.length:Int))
  ·conv=>whnf
   exact ⟨rfl,rfl⟩
  ·have hi':i<mine.length:=by have:=D5D h2;omega
   have hr:=hm.rng i hi'
   have ho:=hm.opn i hi'
   have hlast:(if i=0 then -1 else gI mine (i - 1))<gI mine i:=by
    split
    ·omega
    ·exact hm.lt (i - 1) i (by omega) hi'
   conv=>whnf
   refine E4 ?_
   refine B8 (fun h3=>?_) (fun h3=>?_)<;>rw [h3]
   ·exact absurd (D5D h3) (by show ¬ gI mine i≤_;omega)
   conv=>whnf
   refine B8 (fun h4=>?_) (fun h4=>?_)<;>rw [h4]
   ·exact absurd (D5D h4) (by show ¬ gI mine i≥(us.length:Int);omega)
   conv=>whnf
   refine ⟨rfl,⟨by show 0≤gI mine i;omega,by show gI mine i<(us.length:Int);omega⟩,?_⟩;conv=>whnf
   rw [show (us.getD (mine.getD (i:Int).toNat default).toNat default).opn=true from ho];conv=>whnf
   refine F6 ?_
   exact ⟨mine.length - (i+1),by omega,i+1,by omega,rfl,by rw [B4 (by omega),if_neg (show ¬ i+1=0 by omega)];rfl,rfl⟩
def J8 (x rate:Int):Int:=(if 0≤rate∧rate≤10000 then W5 x rate 10000 1 else (0,2)).1
theorem T9 (x rate:Int):0≤J8 x rate∧J8 x rate≤100000000000000:=by
 unfold J8
 split
 ·unfold W5
  split
  ·exact ⟨D6j _,by decide⟩
  ·rename_i hb
   rw [D7X] at hb
   simp only [Q3,D5G,D5C,D8e,ne_eq] at hb
   have hq:0≤x * rate / 10000:=D7h (D7a hb.1.1.1.1.1.1 hb.1.1.1.1.2.1) (by omega)
   split
   ·exact ⟨D6j _,by decide⟩
   ·split
    ·exact ⟨D6j _,by decide⟩
    ·rename_i h1 h2
     refine ⟨?_,Int.le_of_not_gt h2⟩
     show 0≤S8 (x * rate / 10000) (x * rate % 10000) 10000 1
     unfold S8
     repeat' split
     all_goals omega
 ·exact ⟨D6j _,by decide⟩
def Q1 (x rate amount:Int):Int:=if x<J8 x rate+amount then x else J8 x rate+amount
theorem C7k (x rate amount:Int) (h0:0≤amount) (h1:amount≤10000000000000) (st:St):S P 316 [eI x,eI rate,eI amount] st fun v st'=>v=eI (Q1 x rate amount)∧st'=st:=by
 refine F1 [] Tryz.func316 ?_
 refine B3 (B8o x rate 1 st) ?_
 have hb:=T9 x rate
 have w:IntKind.i64.wrap (J8 x rate+amount)=J8 x rate+amount:=A5 (by omega) (by omega)
 conv=>whnf
 refine ⟨?_,rfl⟩
 show AV.int .i64 (if x<IntKind.i64.wrap (J8 x rate+amount) then x else IntKind.i64.wrap (J8 x rate+amount))=_
 rw [w];rfl
theorem A0p {x rate amount:Int} (hx:0≤x) (h0:0≤amount):0≤Q1 x rate amount∧Q1 x rate amount≤x:=by
 have:=T9 x rate
 unfold Q1
 split<;>omega
def B5F (p:B1) (nets:List Int):AV:=.agg [eS p.id,eI p.kind,eI p.prio,eS p.group,eS p.code,eB p.closes,C9 p.scope.skus,C9 p.scope.cats,eI p.least,eI p.rate,eI p.amount,eI p.buy,eI p.get,A8 3 W4 p.parts,A8 3 R9 p.tiers,B0 nets]
theorem B7B (p:B1) (nets:List Int) (rate amount:Int) (h0:0≤amount) (h1:amount≤10000000000000) (hl:nets.length≤100000) (st:St):S P 314 [B5F p nets,eI rate,eI amount] st fun v st'=>v=B0 (nets.map fun x=>Q1 x rate amount)∧st'=st:=by
 have he:B0 (nets.map fun x=>Q1 x rate amount)=.arr 1 nets.length (fun k=>eI (gI (nets.map fun x=>Q1 x rate amount) k)):=by unfold B0 A8;rw [D5F]
 rw [he]
 refine C2j (ty:=2) ?_
 refine F1 [3] Tryz.func314 ?_
 refine ⟨[1,2,7,11,12,13],fun m vs st'=>∃ (i:Nat) (sv:AV),i≤nets.length∧m=nets.length - i∧vs=[eI rate,eI amount,sv,B0 nets,eI nets.length,eI i]∧Col 2 1 (fun k=>eI (gI (nets.map fun x=>Q1 x rate amount) k)) st i sv st',?_,?_⟩
 ·conv=>whnf
  exact ⟨_,0,.emp,D6b _,rfl,rfl,Col.start _ _ _ _⟩
 ·rintro m vs st' ⟨i,sv,hi,rfl,rfl,hc⟩
  conv=>whnf
  cases h:decide ((i:Int)<(nets.length:Int))
  ·have:=D5E h
   obtain rfl:i=nets.length:=by omega
   conv=>whnf
   exact hc
  ·have hi':i<nets.length:=by have:=D5D h;omega
   conv=>whnf
   refine E4 ?_
   refine I2 (C7k (gI nets i) rate amount h0 h1 _) ?_
   refine Col.app (q:=r2) rfl rfl rfl rfl rfl ?_ (by show (i+1) * 8≤140737488355328;omega) hc (fun sv' st'' hc'=>?_)
   ·rw [show gI (nets.map fun x=>Q1 x rate amount) i=Q1 (gI nets i) rate amount from D4 (fun x=>Q1 x rate amount) nets hi'];rfl
   conv=>whnf
   refine F6 ?_
   exact ⟨nets.length - (i+1),by omega,i+1,sv',by omega,rfl,by rw [B4 (by omega)],hc'⟩
def B5Z (p:B1) (nets:List Int):List Int:=nets.map fun x=>Q1 x p.rate 0
def B5Y (p:B1) (nets:List Int):List Int:=nets.map fun x=>Q1 x 0 p.amount
theorem C1b (p:B1) (nets:List Int) (hl:nets.length≤100000) (st:St):S P 298 [B5F p nets] st fun v st'=>v=B0 (B5Z p nets)∧st'=st:=by
 refine F1 [1] Tryz.func298 ?_
 refine I2 (B7B p nets p.rate 0 (by omega) (by omega) hl st) ?_
 exact ⟨rfl,rfl⟩
theorem C2s (p:B1) (nets:List Int) (h0:0≤p.amount) (h1:p.amount≤10000000000000) (hl:nets.length≤100000) (st:St):S P 299 [B5F p nets] st fun v st'=>v=B0 (B5Y p nets)∧st'=st:=by
 refine F1 [1] Tryz.func299 ?_
 refine I2 (B7B p nets 0 p.amount h0 h1 hl st) ?_
 exact ⟨rfl,rfl⟩
def O6 (l:List A0V) (x:Int):Option A0V:=l.reverse.find? fun t=>decide (t.least≤x)
theorem A4W {α : Type} [Inhabited α] {l:List α} {k:Nat} (hk:k<l.length):l.reverse.getD k default=l.getD (l.length - 1 - k) default:=by
 rw [D5A,D5A,List.getElem?_reverse hk]
theorem A8D {l:List A0V} {x:Int} {i:Nat} (hi:i<l.length) (h:∀ k,i<k→k<l.length→decide ((l.getD k default).least≤x)=false) (hp:decide ((l.getD i default).least≤x)=true):O6 l x=some (l.getD i default):=by
 have e:l.getD i default=l.reverse.getD (l.length - 1 - i) default:=by
  rw [A4W (by omega),show l.length - 1 - (l.length - 1 - i)=i by omega]
 rw [e] at hp ⊢
 exact A4o (by rw [List.length_reverse];omega) (fun k hk=>by rw [A4W (by omega)];exact h _ (by omega) (by omega)) hp
theorem A8C {l:List A0V} {x:Int} (h:∀ k,k<l.length→decide ((l.getD k default).least≤x)=false):O6 l x=none :=
 A9d fun k hk=>by rw [List.length_reverse] at hk;rw [A4W hk];exact h _ (by omega)
theorem B3F (l:List A0V) (x:Int) (hl:l.length≤100000) (st:St):S P 315 [A8 3 R9 l,eI x] st fun v st'=>v=.tuple [R9 ((O6 l x).getD default),.bool (O6 l x).isSome]∧st'=st:=by
 refine A1C ?_
 refine F1 [] Tryz.func315 ?_
 intro b hb;conv=>whnf
 have w0:IntKind.i64.wrap ((l.length:Int) - 1)=(l.length:Int) - 1:=A5 (by omega) (by omega)
 refine ⟨[0,1,4,6],fun m vs st'=>∃ (i:Int) (f:Nat→AV) (u:A0V),-1≤i∧i<l.length∧(∀ k:Nat,i<k→k<l.length→decide ((l.getD k default).least≤x)=false)∧m=(i+1).toNat∧vs=[A8 3 R9 l,eI x,.optr 3 b 0 0,eI i]∧st'=upd st b ⟨300,3,1,f⟩∧f 0=R9 u,?_,?_⟩
 ·conv=>whnf
  exact ⟨_,(l.length:Int) - 1,_,default,by omega,by omega,fun k h1 h2=>by omega,rfl,by rw [w0],rfl,rfl⟩
 ·rintro m vs st' ⟨i,f,u,h0,hi,hno,rfl,rfl,rfl,hf⟩
  conv=>whnf
  cases h:decide (i≥0)
  ·have:=D5E h
   have hr:O6 l x=none:=A8C fun k hk=>hno k (by omega) hk
   conv=>whnf
   refine X8 (A0 ..) hf ?_
   refine I4 (A0 ..) (A4 ..) ?_
   refine ⟨by rw [hr];rfl,((E6.refl st).upd hb).over hb⟩
  ·have hi0:=D5D h
   conv=>whnf
   refine E4 ?_
   refine B8 (fun h1=>?_) (fun h1=>?_)
   ·have hr:O6 l x=some (l.getD i.toNat default):=A8D (by omega) (fun k h2 h3=>hno k (by omega) h3) h1
    rw [h1];conv=>whnf
    refine E4 ?_
    refine X8 (A0 ..) hf ?_
    refine I4 (A0 ..) (A4 ..) ?_
    refine ⟨by rw [hr];rfl,((E6.refl st).upd hb).over hb⟩
   ·have w:IntKind.i64.wrap (i - 1)=i - 1:=A5 (by omega) (by omega)
    rw [h1];conv=>whnf
    refine F6 ?_
    refine ⟨i.toNat,by omega,i - 1,f,u,by omega,by omega,fun k h2 h3=>?_,by omega,by rw [w],rfl,hf⟩
    rcases (by omega:k=i.toNat∨i<k) with e | e
    ·rw [e];exact h1
    ·exact hno k e h3
def A7V (l:List A0V):Prop:=l.length≤6∧∀ t∈l,0≤t.amount∧t.amount≤10000000000000
theorem A0r {l:List A0V} (h:A7V l) (x:Int):0≤((O6 l x).getD default).amount∧((O6 l x).getD default).amount≤10000000000000:=by
 cases hr:O6 l x with
 | none=>exact ⟨D6j _,by decide⟩
 | some t =>
  have:t∈l:=List.mem_reverse.1 (D7Z hr)
  exact h.2 t this
def A5q (p:B1) (nets:List Int):List Int:=match O6 p.tiers nets.length with
 | none=>[]
 | some t=>nets.map fun x=>Q1 x t.rate t.amount
def A5r (p:B1) (nets:List Int):List Int:=match O6 p.tiers (A2 nets) with
 | none=>[]
 | some t=>D2 (Q1 (A2 nets) t.rate t.amount) nets
theorem C5o (p:B1) (nets:List Int) (ht:A7V p.tiers) (hl:nets.length≤100000) (st:St):S P 301 [B5F p nets] st fun v st'=>v=B0 (A5q p nets)∧st'=st:=by
 refine S.post (post:=fun v st'=>(v=B0 (A5q p nets)∨(A5q p nets=[]∧v=.emp))∧E6 st st') ?_ (fun v st' ⟨h,hs⟩=>⟨_,st,⟨rfl,rfl⟩,(hs.shift _).trans (by
  rcases h with rfl | ⟨h0,rfl⟩
  ·exact A7.keep _ _
  ·rw [h0];exact I0 1 _)⟩)
 have htl:=ht.1
 refine F1 [1] Tryz.func301 ?_
 refine I2 (B3F p.tiers nets.length (by omega) st) ?_
 intro b hb;conv=>whnf
 refine X8 (A0 ..) rfl ?_
 have hsup:∀ x y:K8,E6 st (upd (upd st b x) b y):=fun x y=>((E6.refl st).upd hb).over hb
 have hok:=A0r ht nets.length
 cases hr:O6 p.tiers nets.length with
 | none =>
  have hB:A5q p nets=[]:=by unfold A5q;rw [hr]
  conv=>whnf
  exact ⟨.inr ⟨hB,rfl⟩,hsup _ _⟩
 | some t =>
  have hB:A5q p nets=nets.map fun x=>Q1 x t.rate t.amount:=by unfold A5q;rw [hr]
  rw [hr] at hok;conv=>whnf
  refine ldV (A0 ..) rfl (by omega) (v:=R9 t) (by rw [A4];rfl) ?_;conv=>whnf
  refine ldV (A0 ..) rfl (by omega) (v:=R9 t) (by rw [A4];rfl) ?_;conv=>whnf
  refine I2 (B7B p nets t.rate t.amount hok.1 hok.2 hl _) ?_
  exact ⟨.inl (by rw [hB];rfl),hsup _ _⟩
theorem C6F (p:B1) (nets:List Int) (ht:A7V p.tiers) (hl:nets.length≤100000) (h0:∀ x∈nets,0≤x) (hs:A2 nets≤10000000000000) (st:St):S P 300 [B5F p nets] st fun v st'=>v=B0 (A5r p nets)∧st'=st:=by
 refine S.post (post:=fun v st'=>(v=B0 (A5r p nets)∨(A5r p nets=[]∧v=.emp))∧E6 st st') ?_ (fun v st' ⟨h,hs⟩=>⟨_,st,⟨rfl,rfl⟩,(hs.shift _).trans (by
  rcases h with rfl | ⟨h0,rfl⟩
  ·exact A7.keep _ _
  ·rw [h0];exact I0 1 _)⟩)
 have htl:=ht.1
 have hsn:=C1 h0
 refine F1 [1] Tryz.func300 ?_
 refine ⟨[1,3,11,12,13],fun m vs st'=>∃ i:Nat,i≤nets.length∧m=nets.length - i∧vs=[.fptr (B5F p nets) 0,eI (A2 (nets.take i)),B0 nets,eI nets.length,eI i]∧st'=st,?_,?_⟩
 ·conv=>whnf
  exact ⟨_,0,D6b _,rfl,rfl,rfl⟩
 ·rintro m vs st' ⟨i,hi,rfl,rfl,rfl⟩
  conv=>whnf
  cases h:decide ((i:Int)<(nets.length:Int))
  ·have:=D5E h
   obtain rfl:i=nets.length:=by omega
   rw [D5L];conv=>whnf
   refine I2 (B3F p.tiers (A2 nets) (by omega) _) ?_
   intro b hb;conv=>whnf
   refine X8 (A0 ..) rfl ?_
   have hsup:∀ x y:K8,E6 st' (upd (upd st' b x) b y):=fun x y=>((E6.refl st').upd hb).over hb
   have hok:=A0r ht (A2 nets)
   cases hr:O6 p.tiers (A2 nets) with
   | none =>
    have hB:A5r p nets=[]:=by unfold A5r;rw [hr]
    conv=>whnf
    exact ⟨.inr ⟨hB,rfl⟩,hsup _ _⟩
   | some t =>
    have hB:A5r p nets=D2 (Q1 (A2 nets) t.rate t.amount) nets:=by unfold A5r;rw [hr]
    rw [hr] at hok
    have hob:0≤Q1 (A2 nets) t.rate t.amount∧Q1 (A2 nets) t.rate t.amount≤A2 nets:=A0p hsn hok.1
    have hW:R4 (Q1 (A2 nets) t.rate t.amount) nets:=⟨hob.1,by omega,hl,h0,by omega,fun e=>by omega⟩
    conv=>whnf
    refine ⟨[],[],[0,1,2,3,4,5,6,7,8,9,10,11,12,13],by kernel_rfl,?_⟩;conv=>whnf
    refine ldV (A0 ..) rfl (by omega) (v:=R9 t) (by rw [A4];rfl) ?_;conv=>whnf
    refine ldV (A0 ..) rfl (by omega) (v:=R9 t) (by rw [A4];rfl) ?_;conv=>whnf
    refine cqW (C7k (A2 nets) t.rate t.amount hok.1 hok.2 _) ?_
    refine cqW (A9m _ nets hW _) ?_
    exact ⟨.inl (by rw [hB];rfl),hsup _ _⟩
  ·have hi':i<nets.length:=by have:=D5D h;omega
   have e1:=K5 hi'
   have e2:=N0 h0 (i+1)
   have e3:=C1 (l:=nets.take i) (fun x hx=>h0 x (D6E _ _ hx))
   have e4:0≤gI nets i:=h0 _ (A6 hi')
   have w:IntKind.i64.wrap (A2 (nets.take i)+gI nets i)=A2 (nets.take (i+1)):=by rw [e1];exact A5 (by omega) (by omega)
   conv=>whnf
   refine E4 ?_
   refine F6 ?_
   exact ⟨nets.length - (i+1),by omega,i+1,by omega,rfl,by rw [B4 (by omega),←w];rfl,rfl⟩
def A5B (st:St) (b:Nat) (us:List B2):Prop:=∃ f,st b=some ⟨223,3,us.length,f⟩∧∀ k,k<us.length→f k=Z5 (gU us k)
theorem A5O {us:List B2} {j:Nat} (hj:j<us.length) (x:B2) (k:Nat):gU (us.set j x) k=if k=j then x else gU us k:=by
 unfold gU
 simp only [D5A,D7D]
 by_cases h:k=j
 ·subst h;simp [hj]
 ·rw [if_neg (fun e=>h e.symm),if_neg h]
def close1 (us:List B2) (i:Nat):List B2:=us.set i { gU us i with opn:=false }
def closeB (us:List B2) (mine:List Int):List B2:=mine.foldl (fun us i=>close1 us i.toNat) us
theorem A1Y (us:List B2) (mine:List Int):(closeB us mine).length=us.length:=by
 unfold closeB
 induction mine generalizing us with
 | nil=>rfl
 | cons x l ih=>simp only [D6W];rw [ih];simp [close1]
theorem A5B.set {st':St} {b:Nat} {us:List B2} {f:Nat→AV} (hf:∀ k,k<us.length→f k=Z5 (gU us k)) {j:Nat} (hj:j<us.length) (x:B2) (h:st' b=some ⟨223,3,us.length,I1 f j (Z5 x)⟩):A5B st' b (us.set j x):=by
 refine ⟨_,by rw [h,D6M],fun k hk=>?_⟩
 rw [D6M] at hk
 rw [A5O hj]
 by_cases e:k=j
 ·rw [if_pos e,e,A4]
 ·rw [if_neg e,H4 e];exact hf k hk
theorem B4h (b:Nat) (us:List B2) (mine:List Int) (hm:∀ x∈mine,0≤x∧x.toNat<us.length) (hl:mine.length≤1000000) (st:St) (hb:A5B st b us) :
  S P 297 [.own 3 b 0 us.length,B0 mine] st fun v st'=>v=.tuple []∧A5B st' b (closeB us mine)∧∀ c,c≠b→st' c=st c:=by
 refine F1 [] Tryz.func297 ?_
 refine ⟨[0,6,7,8],fun m vs st'=>∃ i:Nat,i≤mine.length∧m=mine.length - i∧vs=[.own 3 b 0 us.length,B0 mine,eI mine.length,eI i]∧A5B st' b (closeB us (mine.take i))∧∀ c,c≠b→st' c=st c,?_,?_⟩
 ·conv=>whnf
  exact ⟨_,0,D6b _,rfl,rfl,hb,fun _ _=>rfl⟩
 ·rintro m vs st' ⟨i,hi,rfl,rfl,⟨f,hst,hf⟩,hfr⟩
  have hlen:=A1Y us (mine.take i)
  conv=>whnf
  cases h:decide ((i:Int)<(mine.length:Int))
  ·have:=D5E h
   obtain rfl:i=mine.length:=by omega
   rw [D5L] at hst hf;conv=>whnf
   exact ⟨rfl,⟨f,hst,hf⟩,hfr⟩
  ·have hi':i<mine.length:=by have:=D5D h;omega
   have hx:0≤gI mine i∧(gI mine i).toNat<us.length:=hm _ (A6 hi')
   conv=>whnf
   refine E4 ?_
   refine ⟨rfl,⟨by show 0≤gI mine i;exact hx.1,by show gI mine i<(us.length:Int);have:=hx.2;have:=hx.1;omega⟩,?_⟩;conv=>whnf
   refine stV hst rfl (by show 0+(gI mine i).toNat<_;have:=hx.2;omega) (v:=Z5 (gU (closeB us (mine.take i)) (gI mine i).toNat)) (by rw [D5R];exact hf _ (show (gI mine i).toNat<(closeB us (mine.take i)).length by have:=hx.2;omega)) (by rfl) ?_;conv=>whnf
   refine F6 ?_
   refine ⟨mine.length - (i+1),by omega,i+1,by omega,rfl,by rw [B4 (by omega)],?_,fun c hc=>by rw [A9 hc];exact hfr c hc⟩
   have e:closeB us (mine.take (i+1))=close1 (closeB us (mine.take i)) (gI mine i).toNat:=G8 hi' _ _
   rw [e]
   refine A5B.set hf (by have:=hx.2;omega) _ ?_
   rw [A0,D5R];rfl
theorem B0T (us:List B2) (hl:us.length≤100000) (st:St):S P 293 [C6 us] st fun v st'=>Col 223 3 (fun k=>Z5 (gU us k)) st us.length v st':=by
 refine SyW [] Tryz.func293 ?_
 cases us with
 | nil =>
  conv=>whnf
  refine ⟨?_,?_⟩
  ·conv=>whnf
   exact Col.start _ _ _ _
  ·conv=>whnf
   refine apE rfl rfl rfl rfl rfl (by show 0 * 24≤_;omega) (fun _=>?_) (fun h=>absurd h (by show ¬ 0<0;omega));conv=>whnf
   exact Col.start _ _ _ _
 | cons u us =>
  conv=>whnf
  refine Col.apps (n:=0) (m:=us.length+1) (q:=C1h) (f:=fun k=>Z5 (gU (u::us) k)) rfl rfl rfl rfl rfl (fun i hi=>by rw [D5R]) (by show (0+(us.length+1)) * 24≤140737488355328;simp only [D6n] at hl;omega) (Col.start _ _ _ _) (fun sv' st'' hc'=>?_);conv=>whnf
  rw [D5R] at hc'
  exact hc'
theorem A7.agg {a b:List AV} {st st':St} (h:A7 a st b st'):A7 [.agg a] st [.agg b] st':=A7.one fun w c hS hr=>by
 cases hr with
 | agg cs vs hlen hg =>
  obtain ⟨h1,h2,h3⟩:=h w vs hS ⟨hlen,hg⟩
  exact ⟨h1,h3,.agg _ _ h2.1 h2.2⟩
theorem A7.last {v v':AV} {s t:St} (h:A7 [v] s [v'] t):∀ cs:List AV,A7 (cs++[v]) s (cs++[v']) t
 | []=>h
 | x::cs=>A7.cons (A7.keep [x] s) (A7.last h cs)
def A5u (st:St) (us:List B2) (sv:AV) (st':St):Prop:=E6 st st'∧((us=[]∧sv=.emp)∨∃ b,st b=none∧sv=.own 3 b 0 us.length∧A5B st' b us)
theorem A5u.shift {st:St} {us:List B2} {sv:AV} {st':St} (h:A5u st us sv st'):A7 [sv] st' [C6 us] st:=by
 obtain ⟨hs,⟨rfl,rfl⟩ | ⟨b,hb,rfl,f,hst,hf⟩⟩:=h
 ·exact (hs.shift _).trans (I0 3 _)
 ·have hsup:E6 (upd st b ⟨223,3,us.length,f⟩) st':=fun c x hc=>by
   by_cases e:c=b
   ·subst e;rw [A0] at hc;rw [hst];exact hc
   ·rw [A9 e] at hc;exact hs c x hc
  have h2:=N7 (st:=upd st b ⟨223,3,us.length,f⟩) (e:=3) (b:=b) (n:=us.length) (f:=fun k=>Z5 (gU us k)) (A0 ..) rfl (D5J _) hf
  rw [A3H hb] at h2
  exact (hsup.shift _).trans h2
theorem A5u.ofCol {st:St} {us:List B2} {sv:AV} {st':St} (h:Col 223 3 (fun k=>Z5 (gU us k)) st us.length sv st'):A5u st us sv st':=by
 rcases h with ⟨h0,rfl,rfl⟩ | ⟨h0,b,g,hb,rfl,rfl,hg⟩
 ·exact ⟨E6.refl _,.inl ⟨D6k h0,rfl⟩⟩
 ·exact ⟨(E6.refl st).upd hb,.inr ⟨b,hb,rfl,g,A0 ..,hg⟩⟩
def E3 (us:List B2) (mine:List Int):List Int:=mine.map fun i=>(gU us i.toNat).net
def O9 (p:B1) (nets:List Int):List Int:=if p.kind=1 then B5Z p nets else if p.kind=2 then B5Y p nets else if p.kind=5 then A5r p nets else A5q p nets
def less1 (us:List B2) (i:Nat) (x:Int):List B2:=us.set i { gU us i with net:=(gU us i).net - x }
def D0 (us:List B2) (mine offs:List Int):Nat→List B2
 | 0=>us
 | k+1=>less1 (D0 us mine offs k) (gI mine k).toNat (gI offs k)
def A0d (p:B1) (us:List B2) (mine:List Int):List B2×Int :=
 let offs:=O9 p (E3 us mine)
 let us1:=D0 us mine offs offs.length
 (if (decide (A2 offs>0)&&p.closes)=true then closeB us1 mine else us1,A2 offs)
theorem P7 (us:List B2) (mine offs:List Int) (k:Nat):(D0 us mine offs k).length=us.length:=by
 induction k with
 | zero=>rfl
 | succ k ih=>unfold D0 less1;rw [D6M,ih]
theorem A9W {us:List B2} {mine offs:List Int} (hm:N9 us mine):∀ k,k≤mine.length→∀ j,j<us.length→(∀ i,i<k→j≠(gI mine i).toNat)→gU (D0 us mine offs k) j=gU us j
 | 0,_,j,hj,_=>rfl
 | k+1,hk,j,hj,hne=>by
  have ih:=A9W (offs:=offs) hm k (by omega) j hj (fun i hi=>hne i (by omega))
  unfold D0 less1
  rw [A5O (by rw [P7];exact (hm.rng k (by omega)).2),if_neg (hne k (by omega))]
  exact ih
theorem B8H {us:List B2} {mine offs:List Int} (hm:N9 us mine) {k:Nat} (hk:k<mine.length):gU (D0 us mine offs k) (gI mine k).toNat=gU us (gI mine k).toNat :=
 A9W hm k (by omega) _ (hm.rng k hk).2 fun i hi=>by
  have h1:=hm.lt i k hi hk
  have h2:=(hm.rng i (by omega)).1
  omega
theorem B6V {l:List Int} {j:Nat} (hj:j<l.length) (x:Int):A2 (l.set j x)=A2 l - gI l j+x:=by
 have e1:l.set j x=l.take j++x::l.drop (j+1):=List.set_eq_take_append_cons_drop (l:=l) (i:=j) (a:=x) |>.trans (by rw [if_pos hj])
 have e2:l=l.take j++gI l j::l.drop (j+1):=by
  have:gI l j=l[j]:=by simp [gI,hj]
  rw [this,←D7E hj,D7R]
 have c1:∀ (y:Int) (r:List Int),A2 (y::r)=y+A2 r:=fun y r=>by
  have:=F3 [y] r
  rw [D8d] at this
  rw [this];simp [A2]
 have h2:A2 l=A2 (l.take j)+(gI l j+A2 (l.drop (j+1))):=by
  conv=>lhs;rw [e2]
  rw [F3,c1]
 rw [e1,F3,c1,h2];omega
theorem B7q {qs:List Int} {R:List QE} (h:∀ e∈R,e.2.toNat<qs.length):A2 (S5 qs R)=A2 qs+R.length:=by
 unfold S5
 induction R generalizing qs with
 | nil=>simp
 | cons e R ih =>
  simp only [D6W,D6n]
  have he:=h e (D6c ..)
  rw [ih (fun x hx=>by rw [D6M];exact h x (D6a _ hx)),B6V he]
  omega
theorem T4 {total:Int} {ws:List Int} (h:R4 total ws):A2 (D2 total ws)=total∧(D2 total ws).length=ws.length∧∀ x∈D2 total ws,0≤x:=by
 unfold D2
 split
 ·rename_i h0
  have ht:=h.none h0
  refine ⟨?_,by simp,fun x hx=>?_⟩
  ·rw [ht]
   have:∀ l:List Int,A2 (l.map fun _=>(0:Int))=0:=fun l=>by
    induction l with
    | nil=>rfl
    | cons x l ih =>
     have:=F3 [(0:Int)] (l.map fun _=>(0:Int))
     rw [D8d] at this
     rw [D6I,this,ih];rfl
   exact this ws
  ·obtain ⟨_,_,rfl⟩:=D5X.1 hx;exact D6j _
 ·rename_i h0
  have hS:0<A2 ws:=by have:=C1 h.w0;omega
  obtain ⟨l0,l1⟩:=A3r h hS
  have hR:=A6R total (A2 ws) ws
  have hmem:∀ e∈(shR total (A2 ws) ws).take (F9 total (A2 ws) ws ws.length).toNat,e.2.toNat<((List.range ws.length).map (shQ total (A2 ws) ws)).length:=fun e he=>by
   rw [D5F,D6d];exact (B0B (D6E _ _ he)).2
  refine ⟨?_,by rw [A1W];simp,fun x hx=>?_⟩
  ·rw [B7q hmem,D5K]
   unfold F9 at *
   omega
  ·obtain ⟨k,hk,rfl⟩:=D3 hx
   rw [A1W,D5F,D6d] at hk
   have hb:=(A4S ((List.range ws.length).map (shQ total (A2 ws) ws)) ((shR total (A2 ws) ws).take (F9 total (A2 ws) ws ws.length).toNat) k).1
   have hq:=(A4B h hS hk).1
   rw [M8 _ hk] at hb
   show 0≤gI _ k
   omega
theorem A7J {l:List Int} {f:Int→Int} (h:∀ x∈l,0≤f x∧f x≤x):A2 (l.map f)≤A2 l∧∀ y∈l.map f,0≤y:=by
 have c1:∀ (y:Int) (r:List Int),A2 (y::r)=y+A2 r:=fun y r=>by
  have:=F3 [y] r
  rw [D8d] at this
  rw [this];simp [A2]
 refine ⟨?_,fun y hy=>by obtain ⟨x,hx,rfl⟩:=D5X.1 hy;exact (h x hx).1⟩
 induction l with
 | nil=>exact D6j _
 | cons x l ih =>
  rw [D6I,c1,c1]
  have:=ih (fun y hy=>h y (D6a _ hy))
  have:=(h x (D6c ..)).2
  omega
structure A5z (p:B1):Prop where
 fit:Q7 p
 right:H3 p=true
 kind:p.kind=1∨p.kind=2∨p.kind=5∨p.kind=6
 tiers:p.kind=5∨p.kind=6→A7V p.tiers
 amount:p.kind=2→0≤p.amount∧p.amount≤10000000000000
theorem A5c {p:B1} (hp:A5z p) {nets:List Int} (h0:∀ x∈nets,0≤x) (hs:A2 nets≤10000000000000) (hl:nets.length≤100000) :
  A2 (O9 p nets)≤A2 nets∧(O9 p nets).length≤nets.length∧∀ y∈O9 p nets,0≤y:=by
 have hn:=C1 h0
 rcases hp.kind with e | e | e | e
 ·have:O9 p nets=B5Z p nets:=by unfold O9;rw [if_pos e]
  rw [this]
  have h:=A7J (l:=nets) (f:=fun x=>Q1 x p.rate 0) (fun x hx=>A0p (h0 x hx) (by omega))
  exact ⟨h.1,by simp [B5Z],h.2⟩
 ·have:O9 p nets=B5Y p nets:=by unfold O9;rw [if_neg (by omega),if_pos e]
  rw [this]
  have h:=A7J (l:=nets) (f:=fun x=>Q1 x 0 p.amount) (fun x hx=>A0p (h0 x hx) (hp.amount e).1)
  exact ⟨h.1,by simp [B5Y],h.2⟩
 ·have:O9 p nets=A5r p nets:=by unfold O9;rw [if_neg (by omega),if_neg (by omega),if_pos e]
  rw [this]
  have hok:=A0r (hp.tiers (.inl e)) (A2 nets)
  unfold A5r
  split
  ·exact ⟨hn,by simp,fun y hy=>by cases hy⟩
  ·rename_i t hr
   rw [hr] at hok
   have hob:0≤Q1 (A2 nets) t.rate t.amount∧Q1 (A2 nets) t.rate t.amount≤A2 nets:=A0p hn hok.1
   have hW:R4 (Q1 (A2 nets) t.rate t.amount) nets:=⟨hob.1,by omega,hl,h0,by omega,fun e=>by omega⟩
   obtain ⟨a,b,c⟩:=T4 hW
   exact ⟨by rw [a];exact hob.2,by omega,c⟩
 ·have:O9 p nets=A5q p nets:=by unfold O9;rw [if_neg (by omega),if_neg (by omega),if_neg (by omega)]
  rw [this]
  have hok:=A0r (hp.tiers (.inr e)) nets.length
  unfold A5q
  split
  ·exact ⟨hn,by simp,fun y hy=>by cases hy⟩
  ·rename_i t hr
   rw [hr] at hok
   have h:=A7J (l:=nets) (f:=fun x=>Q1 x t.rate t.amount) (fun x hx=>A0p (h0 x hx) hok.1)
   exact ⟨h.1,by simp,h.2⟩
end Go.Proofs.YtaapofnkmpiknaaGreat
