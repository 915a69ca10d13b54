/- Part 21 of the proof: contracts of the functions that the law reaches -/
import Derived.Test.YtaapofnkmpiknaaGreatPl20
set_option maxRecDepth 100000
set_option linter.unusedVariables false
set_option linter.unusedSimpArgs false
namespace Go.Proofs.YtaapofnkmpiknaaGreat
open Go Go.Ab
attribute [local irreducible] upd del
abbrev gI (l:List Int) (k:Nat):Int:=l.getD k default
def swI (l:List Int) (i j:Nat):List Int:=(l.set i (gI l j)).set j (gI l i)
theorem C0x (l:List Int) (i j:Nat):(swI l i j).length=l.length:=by simp [swI]
theorem B9j {l:List Int} {i j:Nat} (hi:i<l.length) (hj:j<l.length) (k:Nat):gI (swI l i j) k=if k=j then gI l i else if k=i then gI l j else gI l k:=by
 unfold swI gI
 simp only [D6D,D8G,D7W]
 by_cases h1:k=j
 ·subst h1;simp [hj]
 ·rw [if_neg (fun e=>h1 e.symm),if_neg h1]
  by_cases h2:k=i
  ·subst h2;simp [hi]
  ·rw [if_neg (fun e=>h2 e.symm),if_neg h2]
theorem C5o {l:List Int} {i j:Nat} (hi:i<l.length) (hj:j<l.length):(swI l i j).Perm l:=by
 have e1:gI l j=l[j]:=by simp [gI,hj]
 have e2:gI l i=l[i]:=by simp [gI,hi]
 unfold swI
 rw [e1,e2]
 exact List.set_set_perm hi hj
def A5O (st:St) (b:Nat) (l:List Int):Prop:=∃ f,st b=some ⟨3,1,l.length,f⟩∧∀ k,k<l.length→f k=eI (gI l k)
structure Ord (lt:Int→Int→Bool):Prop where
 asymm:∀ x y,lt x y=true→lt y x=false
 le:∀ x y z,lt y x=false→lt z y=false→lt z x=false
def Srt (lt:Int→Int→Bool) (l:List Int) (a e:Nat):Prop:=∀ x y,a≤x→x<y→y<e→lt (gI l y) (gI l x)=false
structure Ins (lt:Int→Int→Bool) (l:List Int) (a e j:Nat):Prop where
 rest:∀ x y,a≤x→x<y→y<e→x≠j→y≠j→lt (gI l y) (gI l x)=false
 up:∀ y,j<y→y<e→lt (gI l y) (gI l j)=false
theorem Srt.ins {lt:Int→Int→Bool} {l:List Int} {a i:Nat} (h:Srt lt l a i):Ins lt l a (i+1) i :=
 ⟨fun x y hx hxy hy h1 h2=>h x y hx hxy (by omega),fun y h1 h2=>by omega⟩
theorem Ins.done {lt:Int→Int→Bool} (ho:Ord lt) {l:List Int} {a e j:Nat} (h:Ins lt l a e j) (hj:j≤a∨lt (gI l j) (gI l (j - 1))=false):Srt lt l a e:=fun x y hx hxy hy=>by
 by_cases h1:x=j
 ·subst h1;exact h.up y hxy hy
 ·by_cases h2:y=j
  ·subst h2
   rcases hj with hj | hj
   ·omega
   ·by_cases h3:x=y - 1
    ·subst h3;exact hj
    ·exact ho.le _ _ _ (h.rest x (y - 1) hx (by omega) (by omega) h1 (by omega)) hj
  ·exact h.rest x y hx hxy hy h1 h2
theorem Ins.step {lt:Int→Int→Bool} (ho:Ord lt) {l:List Int} {a e j:Nat} (h:Ins lt l a e j) (hj:a<j) (hje:j<e) (he:e≤l.length) (hlt:lt (gI l j) (gI l (j - 1))=true):Ins lt (swI l j (j - 1)) a e (j - 1):=by
 have sw:=B9j (l:=l) (i:=j) (j:=j - 1) (by omega) (by omega)
 refine ⟨fun x y hx hxy hy h1 h2=>?_,fun y h1 h2=>?_⟩
 ·rw [sw x,sw y,if_neg h1,if_neg h2]
  by_cases hxj:x=j
  ·rw [if_pos hxj,if_neg (by omega)]
   exact h.rest (j - 1) y (by omega) (by omega) hy (by omega) (by omega)
  ·rw [if_neg hxj]
   by_cases hyj:y=j
   ·rw [if_pos hyj]
    exact h.rest x (j - 1) hx (by omega) (by omega) hxj (by omega)
   ·rw [if_neg hyj];exact h.rest x y hx hxy hy hxj hyj
 ·rw [sw y,sw (j - 1),if_neg (by omega),if_pos rfl]
  by_cases hyj:y=j
  ·rw [if_pos hyj];exact ho.asymm _ _ hlt
  ·rw [if_neg hyj];exact h.up y (by omega) h2
theorem B4G (b:Nat) (l:List Int) (n a e:Nat) (g:FuncId) (cs:List AV) (cf:Int→Int→Int) (lt:Int→Int→Bool) (hlt:∀ x y,decide (cf x y<0)=lt x y) (ho:Ord lt) (st:St) (hb:A5O st b l) (hae:a≤e) (he:e≤n) (hn:n≤l.length) (hl:l.length<4611686018427387904)
  (hg:∀ x∈l,∀ y∈l,∀ st',S P g (eI x::eI y::cs) st' fun v s=>v=eI (cf x y)∧s=st') :
  S P 310 [.own 1 b 0 n,eI a,eI e,.fn (.func g) [] cs] st fun v st'=>v=.tuple []∧∃ l',l'.Perm l∧Srt lt l' a e∧(∀ k,k<a∨e≤k→gI l' k=gI l k)∧A5O st' b l'∧∀ c,c≠b→st' c=st c:=by
 refine F4 [] Tryz.func310 ?_
 refine ⟨[0,1,2,3,8],fun m vs st'=>∃ (i:Nat) (l':List Int),a<i∧(i≤e∨i=a+1)∧l'.Perm l∧Srt lt l' a i∧(∀ k,k<a∨e≤k→gI l' k=gI l k)∧A5O st' b l'∧(∀ c,c≠b→st' c=st c)∧m=e - i∧vs=[.own 1 b 0 n,eI a,eI e,.fn (.func g) [] cs,eI i],?_,?_⟩
 ·conv=>whnf
  exact ⟨_,a+1,l,by omega,.inr rfl,List.Perm.refl _,fun x y h1 h2 h3=>by omega,fun _ _=>rfl,hb,fun _ _=>rfl,rfl,by rw [B4 (by omega)]⟩
 ·rintro m vs st' ⟨i,l',hai,hie,hp,hs,hout,hb',hfr,rfl,rfl⟩
  have hlen:l'.length=l.length:=hp.length_eq
  conv=>whnf
  cases h:decide ((i:Int)<(e:Int))
  ·have:=D6G h
   conv=>whnf
   refine ⟨rfl,l',hp,fun x y h1 h2 h3=>hs x y h1 h2 (by omega),hout,hb',hfr⟩
  ·have hi:i<e:=by have:=D6H h;omega
   conv=>whnf
   refine ⟨[0,1,2,3,8,9],fun m vs st''=>∃ (j:Nat) (l'':List Int),a≤j∧j≤i∧l''.Perm l∧Ins lt l'' a (i+1) j∧(∀ k,k<a∨e≤k→gI l'' k=gI l k)∧A5O st'' b l''∧(∀ c,c≠b→st'' c=st c)∧m=j∧vs=[.own 1 b 0 n,eI a,eI e,.fn (.func g) [] cs,eI i,eI j],?_,?_⟩
   ·conv=>whnf
    exact ⟨_,i,l',by omega,D6M _,hp,hs.ins,hout,hb',hfr,rfl,rfl⟩
   ·clear hp hs hout hb' hfr hlen
    rintro j vs st'' ⟨_,l'',haj,hji,hp,hs,hout,⟨f,hst,hf⟩,hfr,rfl,rfl⟩
    have hlen:l''.length=l.length:=hp.length_eq
    have next:Srt lt l'' a (i+1)→∃ m',m'<e - i∧∃ (i_1:Nat) (l':List Int),a<i_1∧(i_1≤e∨i_1=a+1)∧l'.Perm l∧Srt lt l' a i_1∧(∀ k,k<a∨e≤k→gI l' k=gI l k)∧A5O st'' b l'∧(∀ c,c≠b→st'' c=st c)∧m'=e - i_1∧[AV.own 1 b 0 n,eI a,eI e,.fn (.func g) [] cs,eI (IntKind.i64.wrap ((i:Int)+1))]=[.own 1 b 0 n,eI a,eI e,.fn (.func g) [] cs,eI i_1] :=
     fun hsrt=>⟨e - (i+1),by omega,i+1,l'',by omega,.inl (by omega),hp,hsrt,hout,⟨f,hst,hf⟩,hfr,rfl,by rw [B4 (by omega)]⟩
    conv=>whnf
    refine ⟨[],[],[0,1,2,3,4,5,6,7,8,9,10,11,12,13,14,15,16],by kernel_rfl,?_⟩;conv=>whnf
    refine B9 (fun h1=>?_) (fun h1=>?_)<;>rw [h1]<;>simp only [D6F,D6E] at h1
    ·have w:IntKind.i64.wrap ((j:Int) - 1)=((j - 1:Nat):Int):=by rw [A5 (by omega) (by omega)];omega
     have fj:f (0+(j:Int).toNat)=eI (gI l'' j):=by rw [show 0+(j:Int).toNat=j by omega];exact hf j (by omega)
     have fj1:f (0+((j - 1:Nat):Int).toNat)=eI (gI l'' (j - 1)):=by rw [show 0+((j - 1:Nat):Int).toNat=j - 1 by omega];exact hf (j - 1) (by omega)
     conv=>whnf
     refine E7 ?_
     refine J6 hst fj ?_
     rw [w]
     refine E7 ?_
     refine J6 hst fj1 ?_
     refine cqW (hg (gI l'' j) (hp.subset (A7 (by omega))) (gI l'' (j - 1)) (hp.subset (A7 (by omega))) _) ?_
     rw [hlt]
     refine B9 (fun h2=>?_) (fun h2=>?_)<;>rw [h2]
     ·have hfj1:I4 f (0+(j:Int).toNat) (Q2 (eI (gI l'' j)) 0 (cellsOf (eI (gI l'' (j - 1))))) (0+((j - 1:Nat):Int).toNat)=eI (gI l'' (j - 1)):=(H4 (by omega)).trans fj1
      conv=>whnf
      refine ⟨[15,17],[],[0,1,2,3,4,5,6,7,8,9,10,11,12,13,14,15,16,17],by kernel_rfl,?_⟩;conv=>whnf
      rw [w]
      refine E7 ?_
      refine J6 hst fj1 ?_
      refine E7 ?_
      refine J6 hst fj ?_
      refine E7 ?_
      refine Z7 hst fj ?_
      refine E7 ?_
      refine Z7 (A0 ..) hfj1 ?_
      refine G2 ?_
      have hjl:j<l''.length:=by omega
      refine ⟨j - 1,by omega,j - 1,swI l'' j (j - 1),by omega,by omega,(C5o hjl (by omega)).trans hp,hs.step ho (by omega) (by omega) (by omega) h2,fun k hk=>?_,⟨_,by rw [A0,C0x],fun k hk=>?_⟩,fun c hc=>by rw [A9 hc,A9 hc];exact hfr c hc,rfl,by rw [w]⟩
      ·rw [B9j hjl (by omega),if_neg (by omega),if_neg (by omega)];exact hout k hk
      ·rw [C0x] at hk
       rw [B9j hjl (by omega)]
       by_cases e1:k=j - 1
       ·subst e1
        rw [if_pos rfl,show 0+((j - 1:Nat):Int).toNat=j - 1 by omega,A4];rfl
       ·rw [if_neg e1,H4 (by omega)]
        by_cases e2:k=j
        ·subst e2
         rw [if_pos rfl,show 0+(k:Int).toNat=k by omega,A4];rfl
        ·rw [if_neg e2,H4 (by omega)];exact hf k hk
     ·conv=>whnf
      refine G2 ?_
      exact next (hs.done ho (.inr h2))
    ·conv=>whnf
     refine G2 ?_
     exact next (hs.done ho (.inl (by omega)))
theorem Srt.congr {lt:Int→Int→Bool} {l l':List Int} {a e:Nat} (h:Srt lt l a e) (hk:∀ k,a≤k→k<e→gI l' k=gI l k):Srt lt l' a e:=fun x y h1 h2 h3=>by
 rw [hk x h1 (by omega),hk y (by omega) h3];exact h x y h1 h2 h3
theorem C5l (b:Nat) (l:List Int) (g:FuncId) (cs:List AV) (cf:Int→Int→Int) (lt:Int→Int→Bool) (hlt:∀ x y,decide (cf x y<0)=lt x y) (ho:Ord lt) (st:St) (hb:A5O st b l) (hl:l.length≤20)
  (hg:∀ x∈l,∀ y∈l,∀ st',S P g (eI x::eI y::cs) st' fun v s=>v=eI (cf x y)∧s=st') :
  S P 289 [.own 1 b 0 l.length,eI l.length,.fn (.func g) [] cs] st fun v st'=>v=.tuple []∧∃ l',l'.Perm l∧Srt lt l' 0 l.length∧A5O st' b l'∧∀ c,c≠b→st' c=st c:=by
 refine F4 [] Tryz.func289 ?_
 refine ⟨[0,1,2,6,7,8],fun m vs st'=>(m=1∧st'=st∧vs=[.own 1 b 0 l.length,eI l.length,.fn (.func g) [] cs,eI 20,eI 0,eI 20]) ∨
  (m=0∧l.length=20∧(∃ l',l'.Perm l∧Srt lt l' 0 l.length∧A5O st' b l'∧∀ c,c≠b→st' c=st c)∧vs=[.own 1 b 0 l.length,eI l.length,.fn (.func g) [] cs,eI 20,eI 20,eI 40]),?_,?_⟩
 ·conv=>whnf
  exact ⟨1,.inl ⟨rfl,rfl,rfl⟩⟩
 ·rintro m vs st' (⟨rfl,rfl,rfl⟩ | ⟨rfl,h20,⟨l',hp,hs,hb',hfr⟩,rfl⟩)
  ·conv=>whnf
   refine B9 (fun h1=>?_) (fun h1=>?_)<;>rw [h1]<;>simp only [D6F,D6E] at h1
   ·have h20:l.length=20:=by omega
    conv=>whnf
    refine call (B4G b l l.length 0 20 g cs cf lt hlt ho _ hb (by omega) (by omega) (by omega) (by omega) hg) (fun v st1 hv=>?_)
    obtain ⟨rfl,l',hp,hs,hout,hb',hfr⟩:=hv
    conv=>whnf
    refine G2 ?_
    exact ⟨0,by omega,.inr ⟨rfl,h20,⟨l',hp,by rw [h20];exact hs,hb',hfr⟩,rfl⟩⟩
   ·conv=>whnf
    refine call (B4G b l l.length 0 l.length g cs cf lt hlt ho _ hb (by omega) (by omega) (by omega) (by omega) hg) (fun v st1 hv=>?_)
    obtain ⟨rfl,l',hp,hs,hout,hb',hfr⟩:=hv
    conv=>whnf
    refine B1M [0,1,2,6] ?_;conv=>whnf
    intro I
    refine B9 (fun h2=>?_) (fun h2=>?_)<;>rw [h2]<;>simp only [D6F,D6E] at h2
    ·exact absurd h2 (by omega)
    ·conv=>whnf
     exact ⟨rfl,l',hp,hs,hb',hfr⟩
  ·have hlen:l'.length=l.length:=hp.length_eq
   conv=>whnf
   refine B9 (fun h1=>?_) (fun h1=>?_)<;>rw [h1]<;>simp only [D6F,D6E] at h1
   ·exact absurd h1 (by omega)
   ·conv=>whnf
    refine call (B4G b l' l.length 20 l.length g cs cf lt hlt ho _ hb' (by omega) (by omega) (by omega) (by omega) (fun x hx y hy=>hg x (hp.subset hx) y (hp.subset hy))) (fun v st1 hv=>?_)
    obtain ⟨rfl,l2,hp2,hs2,hout,hb2,hfr2⟩:=hv
    conv=>whnf
    refine B1M [0,1,2,6] ?_;conv=>whnf
    intro I
    refine B9 (fun h2=>?_) (fun h2=>?_)<;>rw [h2]<;>simp only [D6F,D6E] at h2
    ·exact absurd h2 (by omega)
    ·conv=>whnf
     exact ⟨rfl,l2,hp2.trans hp,hs.congr (fun k _ hk=>hout k (by omega)),hb2,fun c hc=>(hfr2 c hc).trans (hfr c hc)⟩
def A5V (N:Nat):Prop:=∀ (b:Nat) (l:List Int) (g:FuncId) (cs:List AV) (cf:Int→Int→Int) (lt:Int→Int→Bool) (hlt:∀ x y,decide (cf x y<0)=lt x y) (ho:Ord lt) (st:St) (hb:A5O st b l) (hl:l.length≤N)
  (hg:∀ x∈l,∀ y∈l,∀ st',S P g (eI x::eI y::cs) st' fun v s=>v=eI (cf x y)∧s=st'),
  S P 289 [.own 1 b 0 l.length,eI l.length,.fn (.func g) [] cs] st fun v st'=>v=.tuple []∧∃ l',l'.Perm l∧Srt lt l' 0 l.length∧A5O st' b l'∧∀ c,c≠b→st' c=st c
theorem B7o:A5V 20:=fun b l g cs cf lt hlt ho st hb hl hg=>C5l b l g cs cf lt hlt ho st hb hl hg
theorem B5s {N:Nat} (hN:A5V N) (b:Nat) (l:List Int) (g:FuncId) (cs:List AV) (cf:Int→Int→Int) (lt:Int→Int→Bool) (hlt:∀ x y,decide (cf x y<0)=lt x y) (ho:Ord lt) (st:St) (hb:A5O st b l) (hl:l.length≤N)
  (hg:∀ x∈l,∀ y∈l,∀ st',S P g (eI x::eI y::cs) st' fun v s=>v=eI (cf x y)∧s=st') :
  S P 264 [.own 1 b 0 l.length,.fn (.func g) [] cs] st fun v st'=>v=.tuple []∧∃ l',l'.Perm l∧Srt lt l' 0 l.length∧A5O st' b l'∧∀ c,c≠b→st' c=st c:=by
 refine F4 [] Tryz.func264 ?_
 refine call (hN b l g cs cf lt hlt ho st hb hl hg) (fun v st' hv=>?_)
 obtain ⟨rfl,h⟩:=hv
 conv=>whnf
 exact ⟨rfl,h⟩
theorem C3O (f:AV) (st:St):S P 310 [.emp,eI 0,eI 0,f] st fun v st'=>v=.tuple []∧st'=st:=by
 refine F4 [] Tryz.func310 ?_
 refine B1M [0,1,2,3,8] ?_;conv=>whnf
 intro I
 exact ⟨rfl,rfl⟩
theorem C2q (f:AV) (st:St):S P 289 [.emp,eI 0,f] st fun v st'=>v=.tuple []∧st'=st:=by
 refine F4 [] Tryz.func289 ?_
 refine B1M [0,1,2,6,7,8] ?_;conv=>whnf
 intro I
 refine I2 (C3O f st) ?_
 refine B1M [0,1,2,6] ?_;conv=>whnf
 intro I
 exact ⟨rfl,rfl⟩
theorem B3l (f:AV) (st:St):S P 264 [.emp,f] st fun v st'=>v=.tuple []∧st'=st:=by
 refine F4 [] Tryz.func264 ?_
 refine I2 (C2q f st) ?_
 exact ⟨rfl,rfl⟩
theorem QSt.grow {st0 st:St} {q bo bo':Nat} {f:Bool} {es:List QE} {y y':K4} (h:QSt (upd st0 bo y) q f es st) (h0:st0 bo=none) (hb:bo'=bo∨st bo'=none):st0 bo'=none∧QSt (upd st0 bo' y') q f es (upd (del st bo) bo' y'):=by
 obtain ⟨h1,h2,sv,⟨fq,hqs,hq0⟩,h3⟩:=h
 have hqo:q≠bo:=fun e=>by subst e;rw [A0] at h1;cases h1
 have hq1:st0 q=none:=by rw [A9 hqo] at h1;exact h1
 have hqb:q≠bo':=fun e=>by
  subst e
  rcases hb with e | e
  ·exact hqo e
  ·rw [hqs] at e;cases e
 have hsub:∀ c x,st0 c=some x→c≠bo∧st c=some x:=fun c x hc=>by
  have hne:c≠bo:=fun e=>by subst e;rw [h0] at hc;cases hc
  exact ⟨hne,h2 c x (by rw [A9 hne];exact hc)⟩
 have hbo':st0 bo'=none:=by
  rcases hb with e | e
  ·rw [e];exact h0
  ·cases hx:st0 bo' with
   | none=>rfl
   | some x=>rw [(hsub _ _ hx).2] at e;cases e
 refine ⟨hbo',by rw [A9 hqb];exact hq1,fun c x hc=>?_,sv,⟨fq,by rw [A9 hqb];unfold del;rw [if_neg hqo];exact hqs,hq0⟩,?_⟩
 ·by_cases hcb:c=bo'
  ·subst hcb;rw [A0] at hc ⊢;exact hc
  ·rw [A9 hcb] at hc ⊢
   obtain ⟨a,b⟩:=hsub c x hc
   unfold del;rw [if_neg a];exact b
 ·rcases h3 with h3 | ⟨b,l,n,a1,a2,a3,a4,a5,a6,⟨fe,hes,hef⟩,a8,a9⟩
  ·exact .inl h3
  ·have hbo:b≠bo:=fun e=>by subst e;rw [A0] at a2;cases a2
   have hb0:st0 b=none:=by rw [A9 hbo] at a2;exact a2
   have hbb:b≠bo':=fun e=>by
    subst e
    rcases hb with e | e
    ·exact hbo e
    ·rw [hes] at e;cases e
   exact .inr ⟨b,l,n,a1,by rw [A9 hbb];exact hb0,a3,a4,a5,a6,⟨fe,by rw [A9 hbb];unfold del;rw [if_neg hbo];exact hes,hef⟩,a8,a9⟩
theorem QSt.begin {st0 st:St} {q bo:Nat} {f:Bool} {es:List QE} {y:K4} (h:QSt st0 q f es st) (hb:st bo=none):st0 bo=none∧QSt (upd st0 bo y) q f es (upd st bo y):=by
 obtain ⟨h1,h2,sv,⟨fq,hqs,hq0⟩,h3⟩:=h
 have hqb:q≠bo:=fun e=>by subst e;rw [hqs] at hb;cases hb
 refine ⟨h2.none hb,by rw [A9 hqb];exact h1,fun c x hc=>?_,sv,⟨fq,by rw [A9 hqb];exact hqs,hq0⟩,?_⟩
 ·by_cases hcb:c=bo
  ·subst hcb;rw [A0] at hc ⊢;exact hc
  ·rw [A9 hcb] at hc ⊢;exact h2 c x hc
 ·rcases h3 with h3 | ⟨b,l,n,a1,a2,a3,a4,a5,a6,⟨fe,hes,hef⟩,a8,a9⟩
  ·exact .inl h3
  ·have hbb:b≠bo:=fun e=>by subst e;rw [hes] at hb;cases hb
   exact .inr ⟨b,l,n,a1,by rw [A9 hbb];exact a2,a3,a4,a5,a6,⟨fe,by rw [A9 hbb];exact hes,hef⟩,a8,a9⟩
def A0K (ty e:Nat) (fo:Nat→AV) (n:Nat) (st1:St) (q:Nat) (f:Bool) (es:List QE) (sv:AV) (st':St):Prop :=
 (n=0∧sv=.emp∧QSt st1 q f es st')∨(0<n∧∃ bo g,st1 bo=none∧sv=.own e bo 0 n∧(∀ k,k<n→g k=fo k)∧QSt (upd st1 bo ⟨ty,e,n,g⟩) q f es st')
theorem A0K.len_S {ty e:Nat} {fo:Nat→AV} {n:Nat} {st1:St} {q:Nat} {f:Bool} {es:List QE} {sv:AV} {st':St} (h:A0K ty e fo n st1 q f es sv st') :
  S P 229 [.optr 1 q 0 0] st' fun v st''=>v=eI es.length∧st''=st':=by
 rcases h with ⟨_,_,h⟩ | ⟨_,bo,g,_,_,_,h⟩
 ·exact A9J _ _ _ _ _ h
 ·exact A9J _ _ _ _ _ h
theorem A0K.pop_S {ty e:Nat} {fo:Nat→AV} {n:Nat} {st1:St} {q:Nat} {f:Bool} {x:QE} {es:List QE} {sv:AV} {st':St} (h:A0K ty e fo n st1 q f (x::es) sv st') (htop:∀ y∈es,G6 y x=false) :
  S P 230 [.optr 1 q 0 0] st' fun v st''=>v=.tuple [eI x.1,eI x.2,.bool true]∧A0K ty e fo n st1 q false es sv st'':=by
 rcases h with ⟨h1,h2,h⟩ | ⟨h0,bo,g,h1,h2,h3,h⟩
 ·exact (A9K _ _ _ _ _ _ h htop).mono fun v s hv=>⟨hv.1,.inl ⟨h1,h2,hv.2⟩⟩
 ·exact (A9K _ _ _ _ _ _ h htop).mono fun v s hv=>⟨hv.1,.inr ⟨h0,bo,g,h1,h2,h3,hv.2⟩⟩
theorem A0K.app {T:G9} {t:TypeId} {x sv:AV} {st1 st':St} {k:KK} {r q:C2} {el n qq:Nat} {fl:Bool} {es:List QE} {f g:Nat→AV} (hr:T t=some r) (hd:r.desc=.slice el) (hq:T el=some q)
  (hz:(Nat.blt 0 q.size&&Nat.blt 0 q.bytes&&Nat.beq q.zero.cells.size q.size)=true) (hs:A0g q.size st' x=some (1,g)) (hg:g 0=f n) (hb:(n+1) * q.bytes≤140737488355328)
  (hc:A0K el q.size f n st1 qq fl es sv st') (hk:∀ sv' st'',A0K el q.size f (n+1) st1 qq fl es sv' st''→k sv' st''):A5L T t sv x st' k:=by
 rcases hc with ⟨rfl,rfl,h⟩ | ⟨h0,bo,y,h1,rfl,h4,h⟩
 ·refine apE hr hd hq hz hs (by omega) (fun h=>by omega) (fun _ b hb=>?_)
  obtain ⟨hb0,hn⟩:=h.begin (y:=⟨el,q.size,1,g⟩) hb
  have e0:∀ k,k<0+1→g k=f k:=fun k hk=>by
   have:k=0:=by omega
   rw [this];exact hg
  exact hk _ _ (.inr ⟨by omega,b,g,hb0,rfl,e0,hn⟩)
 ·have hby:st' bo=some ⟨el,q.size,n,y⟩:=h.sup bo _ (A0 ..)
  refine apO hr hd hq hz hs hby rfl rfl rfl hb (fun h=>by omega) (fun _ b' hb'=>?_)
  obtain ⟨hb0,hn⟩:=h.grow (y':=⟨el,q.size,n+1,fun i=>if i<n then y i else g (i - n)⟩) h1 hb'
  refine hk _ _ (.inr ⟨by omega,b',_,hb0,rfl,fun k hk=>?_,hn⟩)
  by_cases hkn:k<n
  ·simp only [hkn,if_true];exact h4 k hkn
  ·have:k=n:=by omega
   subst this
   simp only [hkn,D9l,Nat.sub_self];exact hg
theorem A0K.shift {ty e:Nat} {fo:Nat→AV} {n:Nat} {st1:St} {q:Nat} {f:Bool} {es:List QE} {sv:AV} {st':St} (h:A0K ty e fo n st1 q f es sv st'):A6 [sv] st' [.arr e n fo] st1:=by
 rcases h with ⟨rfl,rfl,h⟩ | ⟨h0,bo,g,h1,rfl,h3,h⟩
 ·exact (h.sup.shift [.emp]).trans (I9 e fo)
 ·have h2:=O4 (st:=upd st1 bo ⟨ty,e,n,g⟩) (e:=e) (b:=bo) (n:=n) (f:=fo) (A0 ..) rfl (D6M _) h3
  rw [A3L h1] at h2
  exact (h.sup.shift [.own e bo 0 n]).trans h2
def A0i (codes:List C8) (p:B1):Bool:=N2 p.code||codes.any fun c=>p.code.toList==c.toList
abbrev F2 (l:List B1) (x:Int):B1:=l.getD x.toNat default
def places (l:List B1) (codes:List C8) (i:Nat):List Int:=((List.range i).filter fun k=>A0i codes (l.getD k default)).map Int.ofNat
theorem A6o (l:List B1) (codes:List C8) (i:Nat):places l codes (i+1)=places l codes i++(if A0i codes (l.getD i default)=true then [(i:Int)] else []):=by
 unfold places
 rw [D8m,D8A,D7k]
 congr 1
 by_cases h:A0i codes (l.getD i default)=true
 ·rw [if_pos h,D7I (p:=fun k=>A0i codes (l.getD k default)) h];rfl
 ·rw [if_neg h,D7O (p:=fun k=>A0i codes (l.getD k default)) h];rfl
theorem A0E {l:List B1} {codes:List C8} {i:Nat} {x:Int} (h:x∈places l codes i):0≤x∧x.toNat<i:=by
 unfold places at h
 obtain ⟨k,hk,rfl⟩:=D6Z.1 h
 have:=D6T.1 (D7F.1 hk).1
 show 0≤(k:Int)∧(k:Int).toNat<i
 omega
theorem A1i (l:List B1) (codes:List C8) (i:Nat):(places l codes i).length≤i:=by
 unfold places
 rw [D6J]
 exact D7S (D9g ..) (by simp)
def C6x (l:List B1) (x y:Int):Bool:=slt (F2 l x).id (F2 l y).id
theorem C9U (l:List B1):Ord (C6x l):=⟨fun x y h=>A7e h,fun x y z h1 h2=>A4I h1 h2⟩
theorem C8z (l:List B1) (x y:Int) (hx:0≤x∧x.toNat<l.length) (hy:0≤y∧y.toNat<l.length) (st:St) :
  S P 265 [eI x,eI y,.fptr (A8 15 B7 l) 0] st fun v st'=>v=eI (A9l (F2 l x).id (F2 l y).id)∧st'=st:=by
 refine F4 [] Tryz.func265 ?_
 refine ⟨[],[],[0,1,2,3,4,5,6,7,8,9,10,11],by kernel_rfl,?_⟩;conv=>whnf
 refine E7 ?_
 refine E7 ?_
 refine cqW (C7P (F2 l x).id (F2 l y).id _) ?_
 exact ⟨rfl,rfl⟩
theorem N5 {a b:List Int} {k:Nat} (h:k<a.length):gI (a++b) k=gI a k:=by
 unfold gI;rw [D6D,D6D,D7b h]
theorem A8v (a:List Int) (x:Int):gI (a++[x]) a.length=x:=by
 unfold gI;simp [D6D]
def B0t (l:List B1) (codes:List C8) (o:List Int):Prop:=o.Perm (places l codes l.length)∧Srt (C6x l) o 0 o.length
def B2k (l:List B1) (o:List Int) (k:Nat):QE:=((F2 l (gI o k)).prio,(k:Int))
def A1j (l:List B1) (o:List Int):List QE:=((List.range o.length).map (B2k l o)).mergeSort fun a b=>!G6 b a
theorem A1t (l:List B1) (o:List Int):(A1j l o).Perm ((List.range o.length).map (B2k l o)):=D9r ..
theorem A7v (l:List B1) (o:List Int):(A1j l o).Pairwise fun a b=>G6 b a=false:=by
 have:=D8W (le:=fun a b:QE=>!G6 b a) (fun a b c h1 h2=>by simp only [D6X] at *;exact A0D h2 h1) (fun a b=>by
  cases h:G6 b a with
  | false=>rfl
  | true=>rw [A0n h];rfl) ((List.range o.length).map (B2k l o))
 exact this.imp (fun h=>by simpa using h)
theorem A5o {l:List B1} {o:List Int} {e:QE} (h:e∈A1j l o):0≤e.2∧e.2.toNat<o.length:=by
 obtain ⟨k,hk,rfl⟩:=D6Z.1 ((A1t l o).subset h)
 have:=D6T.1 hk
 simp only [B2k];omega
theorem A5n (l:List B1) (o:List Int):(A1j l o).length=o.length:=by
 rw [(A1t l o).length_eq];simp
abbrev P0 (l:List B1) (o:List Int):List Int:=(A1j l o).map fun e=>gI o e.2.toNat
theorem A0K.sup {ty e:Nat} {fo:Nat→AV} {n:Nat} {st1:St} {q:Nat} {f:Bool} {es:List QE} {sv:AV} {st':St} (h:A0K ty e fo n st1 q f es sv st'):F1 st1 st':=by
 rcases h with ⟨_,_,h⟩ | ⟨_,bo,g,h1,_,_,h⟩
 ·exact h.sup
 ·exact ((F1.refl st1).upd h1).trans h.sup
theorem C6Q {N:Nat} (hN:A5V N) (l:List B1) (codes:List C8) (hl:l.length≤60) (hc:codes.length≤9223372036854775807) (h20:(places l codes l.length).length≤N) (st:St) :
  S P 227 [A8 15 B7 l,C7 codes] st fun v st'=>(∃ o:List Int,B0t l codes o∧v=B0 (P0 l o))∧st'=st:=by
 refine S.post (post:=fun v st'=>∃ (o:List Int) (st1:St) (q:Nat) (fl:Bool),B0t l codes o∧F1 st st1∧A0K 3 1 (fun k=>eI (gI (P0 l o) k)) (P0 l o).length st1 q fl [] v st') ?_
  (fun v st' ⟨o,st1,q,fl,ho,hs,hq⟩=>⟨B0 (P0 l o),st,⟨⟨o,ho,rfl⟩,rfl⟩,hq.shift.trans (hs.shift _)⟩)
 refine F4 [2,7] Tryz.func227 ?_
 refine ⟨[1,2,5,15,16,17],fun m vs st'=>∃ (i:Nat) (sv:AV),i≤l.length∧m=l.length - i∧vs=[C7 codes,.fptr (A8 15 B7 l) 0,sv,A8 15 B7 l,eI l.length,eI i]∧Col 3 1 (fun k=>eI (gI (places l codes i) k)) st (places l codes i).length sv st',?_,?_⟩
 ·conv=>whnf
  exact ⟨_,0,.emp,D7e _,rfl,rfl,Col.start _ _ _ _⟩
 ·rintro m vs st' ⟨i,sv,hi,rfl,rfl,hcol⟩
  conv=>whnf
  cases h:decide ((i:Int)<(l.length:Int))
  ·have:=D6G h
   obtain rfl:i=l.length:=by omega
   conv=>whnf
   have key:∀ K:KK,(∀ v st1 o,v=.tuple []→B0t l codes o→F1 st st1→((o=[]∧sv=.emp)∨∃ b,sv=.own 1 b 0 o.length∧A5O st1 b o∧0<o.length)→K v st1)→A1M P 264 [sv,.fn (.func 265) [] [.fptr (A8 15 B7 l) 0]] st' K:=fun K hK=>by
    rcases hcol with ⟨h0,rfl,rfl⟩ | ⟨h0,b,g,hb,rfl,rfl,hg⟩
    ·have hP:places l codes l.length=[]:=D7n h0
     refine call (B3l _ _) (fun v st1 hv=>?_)
     obtain ⟨rfl,rfl⟩:=hv
     exact hK _ _ [] rfl ⟨by rw [hP],fun x y _ _ h=>by simp at h⟩ (F1.refl _) (.inl ⟨rfl,rfl⟩)
    ·refine call (B5s hN b (places l codes l.length) _ _ (fun x y=>A9l (F2 l x).id (F2 l y).id) (C6x l) (fun x y=>B1k _ _) (C9U l) _ ⟨g,A0 ..,hg⟩ h20 (fun x hx y hy s=>C8z l x y (A0E hx) (A0E hy) s)) (fun v st1 hv=>?_)
     obtain ⟨rfl,l',hp,hs,hb',hfr⟩:=hv
     have hll:l'.length=(places l codes l.length).length:=hp.length_eq
     refine hK _ st1 l' rfl ⟨hp,by rw [hll];exact hs⟩ (fun c x hc=>?_) (.inr ⟨b,by rw [hll],hb',by omega⟩)
     have hne:c≠b:=fun e=>by subst e;rw [hb] at hc;cases hc
     rw [hfr c hne,A9 hne];exact hc
   refine key _ (fun v st1 o hv ho hsup hsv=>?_)
   subst hv
   clear key hcol
   have hmem:∀ k,k<o.length→0≤gI o k∧(gI o k).toNat<l.length:=fun k hk=>A0E (ho.1.subset (A7 hk))
   conv=>whnf
   refine call (B2e st1) (fun v st2 hv=>?_)
   obtain ⟨q,rfl,hq⟩:=hv
   conv=>whnf
   rcases hsv with ⟨rfl,rfl⟩ | ⟨b,rfl,⟨fb,hst,hfb⟩,hpos⟩
   ·conv=>whnf
    refine B1M [2,5,8,40,41,42] ?_;conv=>whnf
    intro I
    refine B1M [5,8,11] ?_;conv=>whnf
    intro I
    refine I2 (A9J _ _ _ _ _ hq) ?_
    exact ⟨[],st1,q,true,ho,hsup,.inl ⟨by rw [D6J,A5n];rfl,rfl,hq⟩⟩
   ·have hol:o.length≤60:=by rw [ho.1.length_eq];have:=A1i l codes l.length;omega
    conv=>whnf
    refine ⟨[2,5,8,40,41,42],fun m vs st'=>∃ i:Nat,i≤o.length∧m=o.length - i∧vs=[.fptr (A8 15 B7 l) 0,.own 1 b 0 o.length,.optr 1 q 0 0,.own 1 b 0 o.length,eI o.length,eI i]∧QSt st1 q true ((List.range i).map (B2k l o)) st',?_,?_⟩
    ·conv=>whnf
     exact ⟨_,0,D7e _,rfl,rfl,hq⟩
    ·clear hq
     rintro m vs st' ⟨i,hi,rfl,rfl,hq⟩
     have hst':=hq.sup b _ hst
     conv=>whnf
     cases h:decide ((i:Int)<(o.length:Int))
     ·have:=D6G h
      obtain rfl:i=o.length:=by omega
      conv=>whnf
      refine ⟨[5,8,11],fun m vs st'=>∃ (t:Nat) (sv:AV) (fl:Bool),t≤o.length∧m=o.length - t∧vs=[.own 1 b 0 o.length,.optr 1 q 0 0,sv]∧A0K 3 1 (fun k=>eI (gI (P0 l o) k)) t st1 q fl ((A1j l o).drop t) sv st',?_,?_⟩
      ·conv=>whnf
       exact ⟨_,0,.emp,true,D7e _,rfl,rfl,.inl ⟨rfl,rfl,hq.perm (A1t l o).symm⟩⟩
      ·rintro m vs st' ⟨t,sv,fl,ht,rfl,rfl,hout⟩
       have hst':=hout.sup b _ hst
       have hrl:=A5n l o
       conv=>whnf
       refine I2 (hout.len_S) ?_
       refine B9 (fun h1=>?_) (fun h1=>?_)<;>rw [h1]<;>simp only [D6F,D6E,D9k] at h1
       ·have htl:t<(A1j l o).length:=by omega
        have hsplit:(A1j l o).drop t=(A1j l o)[t]::(A1j l o).drop (t+1):=D8I htl
        have hsort:=A7v l o
        have htop:∀ y∈(A1j l o).drop (t+1),G6 y (A1j l o)[t]=false:=fun y hy=>by
         have:=hsort.sublist (D9q t _)
         rw [hsplit,D8p] at this
         exact this.1 y hy
        have hx:=A5o (D8c htl)
        have hres:gI (P0 l o) t=gI o ((A1j l o)[t]).2.toNat:=by
         unfold gI P0
         rw [D6D,D7C,D6K htl];rfl
        rw [hsplit] at hout
        generalize (A1j l o)[t]=x at *
        conv=>whnf
        refine call (hout.pop_S htop) (fun v st'' hv=>?_)
        obtain ⟨rfl,hout'⟩:=hv
        have hst'':=hout'.sup b _ hst
        conv=>whnf
        refine E7 ?_
        refine ldV hst'' rfl (by omega) (v:=eI (gI o x.2.toNat)) (by rw [D6Q];exact hfb _ hx.2) ?_;conv=>whnf
        refine A0K.app (q:=r3) rfl rfl rfl rfl rfl (by simp only [hres];rfl) (by show (t+1) * 8≤140737488355328;omega) hout' (fun sv' st3 hout3=>?_);conv=>whnf
        refine G2 ?_
        exact ⟨o.length - (t+1),by omega,t+1,sv',false,by omega,rfl,rfl,hout3⟩
       ·have hte:t=o.length:=by omega
        subst hte;conv=>whnf
        refine ⟨o,st1,q,fl,ho,hsup,?_⟩
        rw [show (P0 l o).length=o.length by rw [D6J,hrl]]
        rw [show (A1j l o).drop o.length=[] by rw [←hrl,List.drop_length]] at hout
        exact hout
     ·have hi':i<o.length:=by have:=D6H h;omega
      have hm:=hmem i hi'
      conv=>whnf
      refine E7 ?_
      refine ldV hst' rfl (by omega) (v:=eI (gI o i)) (by rw [show 0+(i:Int).toNat=i by omega];exact hfb i hi') ?_;conv=>whnf
      refine E7 ?_
      refine call (A8O st1 q _ (F2 l (gI o i)).prio i _ hq (by rw [D6J,D7g];omega)) (fun v st'' hv=>?_)
      obtain ⟨rfl,hq'⟩:=hv
      conv=>whnf
      refine G2 ?_
      refine ⟨o.length - (i+1),by omega,i+1,by omega,rfl,by rw [B4 (by omega)],?_⟩
      rw [D8m,D7k];exact hq'
  ·have hi':i<l.length:=by have:=D6H h;omega
   have hpl:=A1i l codes i
   conv=>whnf
   refine E7 ?_
   have yes:A0i codes (l.getD (i:Int).toNat default)=true→∀ (K:KK),(∀ sv' st'',Col 3 1 (fun k=>eI (gI (places l codes (i+1)) k)) st (places l codes (i+1)).length sv' st''→K sv' st'')→A5L T 29 sv (.arr 1 1 fun k=>[AV.int .i64 (i:Int)].getD k .junk) st' K:=fun ha K hK=>by
    have es:=A6o l codes i
    rw [if_pos (show A0i codes (l.getD i default)=true from ha)] at es
    have el:(places l codes (i+1)).length=(places l codes i).length+1:=by rw [es];simp
    refine Col.app (q:=r3) rfl rfl rfl rfl rfl ?_ (by show ((places l codes i).length+1) * 8≤140737488355328;omega) (hcol.congr (f':=fun k=>eI (gI (places l codes (i+1)) k)) fun k hk=>by rw [es,N5 hk]) (fun sv' st'' hc'=>hK sv' st'' (by rw [el];exact hc'))
    rw [es,A8v];rfl
   have no:A0i codes (l.getD (i:Int).toNat default)=false→places l codes (i+1)=places l codes i:=fun ha=>by
    have es:=A6o l codes i
    rw [if_neg (show ¬ A0i codes (l.getD i default)=true by rw [show A0i codes (l.getD i default)=false from ha];simp),D8y] at es
    exact es
   have fin:∀ sv' st'',Col 3 1 (fun k=>eI (gI (places l codes (i+1)) k)) st (places l codes (i+1)).length sv' st''→∃ m',m'<l.length - i∧∃ (i_1:Nat) (sv:AV),i_1≤l.length∧m'=l.length - i_1∧[C7 codes,AV.fptr (A8 15 B7 l) 0,sv',A8 15 B7 l,eI l.length,eI (IntKind.i64.wrap ((i:Int)+1))]=[C7 codes,.fptr (A8 15 B7 l) 0,sv,A8 15 B7 l,eI l.length,eI i_1]∧Col 3 1 (fun k=>eI (gI (places l codes i_1) k)) st (places l codes i_1).length sv st'' :=
    fun sv' st'' hc'=>⟨l.length - (i+1),by omega,i+1,sv',by omega,rfl,by rw [B4 (by omega)],hc'⟩
   refine B9 (fun h1=>?_) (fun h1=>?_)
   ·have ha:A0i codes (l.getD (i:Int).toNat default)=true:=by unfold A0i;rw [show N2 (l.getD (i:Int).toNat default).code=true from h1,D7z]
    rw [h1];conv=>whnf
    refine yes ha _ (fun sv' st'' hc'=>?_);conv=>whnf
    refine G2 ?_
    exact fin _ _ hc'
   ·rw [h1];conv=>whnf
    refine I2 (C5m codes hc (l.getD (i:Int).toNat default).code _) ?_
    refine B9 (fun h2=>?_) (fun h2=>?_)
    ·have ha:A0i codes (l.getD (i:Int).toNat default)=true:=by unfold A0i;rw [h2,D7v]
     rw [h2];conv=>whnf
     refine yes ha _ (fun sv' st'' hc'=>?_);conv=>whnf
     refine G2 ?_
     exact fin _ _ hc'
    ·have ha:A0i codes (l.getD (i:Int).toNat default)=false:=by unfold A0i;rw [show N2 (l.getD (i:Int).toNat default).code=false from h1,h2];rfl
     rw [h2];conv=>whnf
     refine G2 ?_
     exact fin _ _ (by rw [no ha];exact hcol)
theorem C9K (a b:Int) (ha:0≤a) (hb:0≤b) (hab:a+b≤100000000000000) (st:St):S P 307 [eI a,eI b] st fun v st'=>v=.tuple [eI (a+b),eI 0]∧st'=st:=by
 have ra:(decide (0≤a)&&decide (a≤100000000000000))=true:=by simp;omega
 have rb:(decide (0≤b)&&decide (b≤100000000000000))=true:=by simp;omega
 have w1:IntKind.i64.wrap (100000000000000 - b)=100000000000000 - b:=A5 (by omega) (by omega)
 have w2:IntKind.i64.wrap (a+b)=a+b:=A5 (by omega) (by omega)
 refine F4 [] Tryz.func307 ?_
 refine B3 (A7b a st) ?_
 rw [ra];conv=>whnf
 refine B3 (A7b b st) ?_
 rw [rb];conv=>whnf
 rw [w1]
 refine B9 (fun h=>?_) (fun h=>?_)<;>rw [h]<;>simp only [D6F,D6E] at h
 ·exact absurd h (by omega)
 ·conv=>whnf
  rw [w2]
  exact ⟨rfl,rfl⟩
def A2 (l:List Int):Int:=l.foldl (fun s x=>s+x) 0
theorem K9 {l:List Int} {i:Nat} (h:i<l.length):A2 (l.take (i+1))=A2 (l.take i)+gI l i:=H6 h _ _
theorem F5 (a b:List Int):A2 (a++b)=A2 a+A2 b:=by
 have:∀ (b:List Int) (s:Int),b.foldl (fun s x=>s+x) s=s+b.foldl (fun s x=>s+x) 0:=by
  intro b
  induction b with
  | nil=>intro s;simp
  | cons x b ih=>intro s;simp only [D7U];rw [ih (s+x),ih (0+x)];omega
 unfold A2
 rw [D8H,this b]
theorem C1 {l:List Int} (h:∀ x∈l,0≤x):0≤A2 l:=by
 induction l with
 | nil=>exact D7l _
 | cons x l ih =>
  have:=F5 [x] l
  rw [D9h] at this
  have e:A2 [x]=x:=by simp [A2]
  rw [this,e]
  have:=ih (fun y hy=>h y (D7d _ hy))
  have:=h x (D7f ..)
  omega
theorem N0 {l:List Int} (h:∀ x∈l,0≤x) (i:Nat):A2 (l.take i)≤A2 l:=by
 have e:=F5 (l.take i) (l.drop i)
 rw [D8U] at e
 have:=C1 (l:=l.drop i) (fun x hx=>h x (List.drop_subset _ _ hx))
 omega
theorem J4 {l:List Int} (h:∀ x∈l,0≤x) {x:Int} (hx:x∈l):x≤A2 l:=by
 obtain ⟨i,hi,rfl⟩:=D5 hx
 have h1:=K9 hi
 have h2:=N0 h (i+1)
 have h3:=C1 (l:=l.take i) (fun x hx=>h x (D7G _ _ hx))
 have e:gI l i=l.getD i default:=rfl
 omega
structure R3 (total:Int) (ws:List Int):Prop where
 t0:0≤total
 t1:total≤100000000000000
 len:ws.length≤100000
 w0:∀ w∈ws,0≤w
 sum:A2 ws≤100000000000000
 none:A2 ws=0→total=0
theorem C9v (total:Int) (ws:List Int) (hW:R3 total ws) (st:St):S P 277 [eI total,B0 ws] st fun v st'=>v=.tuple [eI (A2 ws),eI 0]∧st'=st:=by
 have rt:(decide (0≤total)&&decide (total≤100000000000000))=true:=by simp;exact ⟨hW.t0,hW.t1⟩
 have hw:∀ w∈ws,w≤100000000000000:=fun w hw=>D9z (J4 hW.w0 hw) hW.sum
 have hl:=hW.len
 refine F4 [] Tryz.func277 ?_
 refine B3 (A7b total st) ?_
 rw [rt];conv=>whnf
 refine B9 (fun h=>?_) (fun h=>?_)<;>rw [h]<;>simp only [D6F,D6E] at h
 ·exact absurd h (by omega)
 conv=>whnf
 refine ⟨[0,1,20,21,22],fun m vs st'=>∃ i:Nat,i≤ws.length∧m=ws.length - i∧vs=[eI total,B0 ws,B0 ws,eI ws.length,eI i]∧st'=st,?_,?_⟩
 ·conv=>whnf
  exact ⟨_,0,D7e _,rfl,rfl,rfl⟩
 ·rintro m vs st' ⟨i,hi,rfl,rfl,rfl⟩
  conv=>whnf
  cases h1:decide ((i:Int)<(ws.length:Int))
  ·conv=>whnf
   refine ⟨[0,8,30,31,32],fun m vs st''=>∃ i:Nat,i≤ws.length∧m=ws.length - i∧vs=[eI total,eI (A2 (ws.take i)),B0 ws,eI ws.length,eI i]∧st''=st',?_,?_⟩
   ·conv=>whnf
    exact ⟨_,0,D7e _,rfl,rfl,rfl⟩
   ·rintro m vs st'' ⟨i,hi,rfl,rfl,rfl⟩
    conv=>whnf
    cases h2:decide ((i:Int)<(ws.length:Int))
    ·have:=D6G h2
     obtain rfl:i=ws.length:=by omega
     rw [D6O];conv=>whnf
     refine B9 (fun h3=>?_) (fun h3=>?_)<;>rw [h3]
     ·conv=>whnf
      have:total=0:=hW.none (by simpa using h3)
      rw [this];conv=>whnf
      exact ⟨rfl,rfl⟩
     ·conv=>whnf
      exact ⟨rfl,rfl⟩
    ·have hi':i<ws.length:=by have:=D6H h2;omega
     have h3:=K9 hi'
     have h4:=N0 hW.w0 (i+1)
     have h5:=C1 (l:=ws.take i) (fun x hx=>hW.w0 x (D7G _ _ hx))
     have h6:=hW.w0 _ (A7 hi')
     have h7:=hW.sum
     conv=>whnf
     refine E7 ?_
     refine I2 (C9K (A2 (ws.take i)) (gI ws i) h5 h6 (by omega) _) ?_
     refine G2 ?_
     exact ⟨ws.length - (i+1),by omega,i+1,by omega,rfl,by rw [B4 (by omega),h3],rfl⟩
  ·have hi':i<ws.length:=by have:=D6H h1;omega
   have hm:gI ws i∈ws:=A7 hi'
   have rw':(decide (0≤gI ws i)&&decide (gI ws i≤100000000000000))=true:=by simp only [D6I,D6F];exact ⟨hW.w0 _ hm,hw _ hm⟩
   conv=>whnf
   refine E7 ?_
   refine B3 (A7b (gI ws i) _) ?_
   rw [rw'];conv=>whnf
   refine G2 ?_
   exact ⟨ws.length - (i+1),by omega,i+1,by omega,rfl,by rw [B4 (by omega)],rfl⟩
theorem C9a (total w all:Int) (h0:0≤total) (h1:total≤100000000000000) (hw:0≤w) (hwa:w≤all) (ha:0<all) (ha':all≤100000000000000) (st:St):S P 278 [eI total,eI w,eI all] st fun v st'=>v=.tuple [eI (total * w / all),eI (total * w % all)]∧st'=st:=by
 have e1:IntKind.u64.wrap total=total:=B6 (by omega) (by omega)
 have e2:IntKind.u64.wrap w=w:=B6 (by omega) (by omega)
 have e3:IntKind.u64.wrap all=all:=B6 (by omega) (by omega)
 have hN:0≤total * w:=D8d h0 hw
 have hN':total * w≤100000000000000 * all:=D9d h1 hwa hw (by omega)
 have hq0:0≤total * w / all:=D8l hN (by omega)
 have hq1:total * w / all≤100000000000000:=by
  have:total * w / all<100000000000000+1:=(D8g ha).2 (by omega)
  omega
 have hr0:=D8a (total * w) (show all≠0 by omega)
 have hr1:=D7N (total * w) ha
 refine F4 [] Tryz.func278 ?_
 rw [e1,e2]
 refine I2 (C0b total w ⟨by omega,by omega⟩ ⟨by omega,by omega⟩ st) ?_
 rw [e3]
 have hN2:100000000000000 * all≤100000000000000 * 100000000000000:=by omega
 refine B3 (B9N _ _ all (by omega) (by omega) (by omega) (by omega) (by omega) st) ?_
 rw [show total * w / 18446744073709551616 * 18446744073709551616+total * w % 18446744073709551616=total * w by omega];conv=>whnf
 rw [A5 (x:=total * w / all) (by omega) (by omega),A5 (x:=total * w % all) (by omega) (by omega)]
 exact ⟨rfl,rfl⟩
def shQ (total S:Int) (ws:List Int) (k:Nat):Int:=total * gI ws k / S
def shE (total S:Int) (ws:List Int) (k:Nat):QE:=(total * gI ws k % S,(k:Int))
def shR (total S:Int) (ws:List Int):List QE:=((List.range ws.length).map (shE total S ws)).mergeSort fun a b=>!G6 b a
def S5 (qs:List Int) (R:List QE):List Int:=R.foldl (fun acc e=>acc.set e.2.toNat (gI acc e.2.toNat+1)) qs
def F9 (total S:Int) (ws:List Int) (i:Nat):Int:=total - A2 ((List.range i).map (shQ total S ws))
def D2 (total:Int) (ws:List Int):List Int :=
 if A2 ws=0 then ws.map fun _=>0
 else S5 ((List.range ws.length).map (shQ total (A2 ws) ws)) ((shR total (A2 ws) ws).take (F9 total (A2 ws) ws ws.length).toNat)
theorem A2x (total S:Int) (ws:List Int):(shR total S ws).Perm ((List.range ws.length).map (shE total S ws)):=D9r ..
theorem A7V (total S:Int) (ws:List Int):(shR total S ws).Pairwise fun a b=>G6 b a=false:=by
 have:=D8W (le:=fun a b:QE=>!G6 b a) (fun a b c h1 h2=>by simp only [D6X] at *;exact A0D h2 h1) (fun a b=>by
  cases h:G6 b a with
  | false=>rfl
  | true=>rw [A0n h];rfl) ((List.range ws.length).map (shE total S ws))
 exact this.imp (fun h=>by simpa using h)
theorem A7d (total S:Int) (ws:List Int):(shR total S ws).length=ws.length:=by
 rw [(A2x total S ws).length_eq];simp
theorem B0Q {total S:Int} {ws:List Int} {e:QE} (h:e∈shR total S ws):0≤e.2∧e.2.toNat<ws.length:=by
 obtain ⟨k,hk,rfl⟩:=D6Z.1 ((A2x total S ws).subset h)
 have:=D6T.1 hk
 simp only [shE];omega
theorem A1V (qs:List Int) (R:List QE):(S5 qs R).length=qs.length:=by
 unfold S5
 induction R generalizing qs with
 | nil=>rfl
 | cons e R ih=>simp only [D7U];rw [ih];simp
theorem A9V (qs:List Int) (R:List QE) (e:QE):S5 qs (R++[e])=(S5 qs R).set e.2.toNat (gI (S5 qs R) e.2.toNat+1):=by
 unfold S5;rw [D8H];rfl
theorem L7 (f:Nat→Int) (n:Nat):A2 ((List.range (n+1)).map f)=A2 ((List.range n).map f)+f n:=by
 rw [D8m,D7k,F5];simp [A2]
theorem B0J (total S:Int) (hS:0<S) (ws:List Int):∀ i,i≤ws.length→S * A2 ((List.range i).map (shQ total S ws))+A2 ((List.range i).map fun k=>total * gI ws k % S)=total * A2 (ws.take i)
 | 0,_=>by simp [A2]
 | i+1,h=>by
  have ih:=B0J total S hS ws i (by omega)
  rw [L7,L7,K9 (by omega),D8Q,D8Q,←ih]
  have:=D7M (total * gI ws i) S
  unfold shQ
  omega
theorem A7T (total S:Int) (hS:0<S) (ws:List Int):∀ i,0≤A2 ((List.range i).map fun k=>total * gI ws k % S)∧A2 ((List.range i).map fun k=>total * gI ws k % S)≤i * (S - 1)
 | 0=>by simp [A2]
 | i+1=>by
  have ih:=A7T total S hS ws i
  rw [L7]
  have h1:=D8a (total * gI ws i) (show S≠0 by omega)
  have h2:=D7N (total * gI ws i) hS
  have h3:((i+1:Nat):Int) * (S - 1)=(i:Int) * (S - 1)+(S - 1):=by
   rw [show ((i+1:Nat):Int)=(i:Int)+1 by omega,D9j,Int.one_mul]
  omega
theorem A3v {total:Int} {ws:List Int} (h:R3 total ws) (hS:0<A2 ws):0≤F9 total (A2 ws) ws ws.length∧F9 total (A2 ws) ws ws.length≤ws.length:=by
 have e:=B0J total (A2 ws) hS ws ws.length (D6M _)
 have b:=A7T total (A2 ws) hS ws ws.length
 rw [D6O] at e
 have hk:A2 ws * F9 total (A2 ws) ws ws.length=A2 ((List.range ws.length).map fun k=>total * gI ws k % A2 ws):=by
  unfold F9
  rw [Int.mul_sub,D8T (A2 ws) total];omega
 constructor
 ·refine Int.le_of_not_gt fun hlt=>?_
  have:A2 ws * F9 total (A2 ws) ws ws.length<0:=Int.mul_neg_of_pos_of_neg hS hlt
  omega
 ·refine Int.le_of_not_gt fun hgt=>?_
  have h1:A2 ws * ((ws.length:Int)+1)≤A2 ws * F9 total (A2 ws) ws ws.length:=D7y (by omega) (by omega)
  have h2:(ws.length:Int) * (A2 ws - 1)≤A2 ws * (ws.length:Int):=by
   rw [Int.mul_sub,D9B,D8T];omega
  rw [D8Q,D9B] at h1
  omega
theorem A4H {total:Int} {ws:List Int} (h:R3 total ws) (hS:0<A2 ws) {k:Nat} (hk:k<ws.length):0≤shQ total (A2 ws) ws k∧shQ total (A2 ws) ws k≤total:=by
 have hw:=h.w0 _ (A7 hk)
 have hle:=J4 h.w0 (A7 hk)
 refine ⟨D8l (D8d h.t0 hw) (by omega),?_⟩
 have h1:total * gI ws k≤total * A2 ws:=D7y hle h.t0
 have:shQ total (A2 ws) ws k<total+1:=(D8g hS).2 (by rw [D9j,Int.one_mul];omega)
 omega
theorem A5u {total:Int} {ws:List Int} (h:R3 total ws) (hS:0<A2 ws) {i:Nat} (hi:i≤ws.length):0≤A2 ((List.range i).map (shQ total (A2 ws) ws))∧A2 ((List.range i).map (shQ total (A2 ws) ws))≤total:=by
 have e:=B0J total (A2 ws) hS ws i hi
 have b:=A7T total (A2 ws) hS ws i
 have t:=N0 h.w0 i
 constructor
 ·exact C1 fun x hx=>by
   obtain ⟨k,hk,rfl⟩:=D6Z.1 hx
   exact (A4H h hS (by have:=D6T.1 hk;omega)).1
 ·have h1:total * A2 (ws.take i)≤total * A2 ws:=D7y t h.t0
  refine Int.le_of_not_gt fun hgt=>?_
  have:A2 ws * (total+1)≤A2 ws * A2 ((List.range i).map (shQ total (A2 ws) ws)):=D7y (by omega) (by omega)
  rw [D8Q,D9B,D8T] at this
  omega
theorem A5a (qs:List Int) (R:List QE) (k:Nat):gI qs k≤gI (S5 qs R) k∧gI (S5 qs R) k≤gI qs k+R.length:=by
 unfold S5
 induction R generalizing qs with
 | nil=>simp
 | cons e R ih =>
  simp only [D7U,D7o]
  have h:=ih (qs.set e.2.toNat (gI qs e.2.toNat+1))
  have hs:gI qs k≤gI (qs.set e.2.toNat (gI qs e.2.toNat+1)) k∧gI (qs.set e.2.toNat (gI qs e.2.toNat+1)) k≤gI qs k+1:=by
   unfold gI
   simp only [D6D,D8G]
   by_cases e1:e.2.toNat=k
   ·subst e1
    by_cases e2:e.2.toNat<qs.length
    ·simp [e2];omega
    ·simp [e2]
   ·rw [if_neg e1];omega
  omega
theorem M8 (f:Nat→Int) {n k:Nat} (hk:k<n):gI ((List.range n).map f) k=f k:=by
 unfold gI;simp [D6D,hk]
theorem C3J {l:List Int} {j:Nat} (hj:j<l.length) (x:Int) (k:Nat):gI (l.set j x) k=if k=j then x else gI l k:=by
 unfold gI
 simp only [D6D,D8G]
 by_cases h:k=j
 ·subst h;simp [hj]
 ·rw [if_neg (fun e=>h e.symm),if_neg h]
theorem A9y (total:Int) (ws:List Int) (h:R3 total ws) (st:St):S P 238 [eI total,B0 ws] st fun v st'=>v=.tuple [B0 (D2 total ws),eI 0]∧st'=st:=by
 have hlen:=h.len
 refine S.post (post:=fun v st'=>∃ (bo:Nat) (f:Nat→AV),st bo=none∧v=.tuple [.own 1 bo 0 ws.length,eI 0]∧F1 (upd st bo ⟨2,1,ws.length,f⟩) st'∧(D2 total ws).length=ws.length∧∀ k,k<ws.length→f k=eI (gI (D2 total ws) k)) ?_
  (fun v st' ⟨bo,f,h0,hv,hs,hl,hf⟩=>⟨_,st,⟨rfl,rfl⟩,by
   rw [hv]
   refine A6.tuple (A6.cons ((hs.shift _).trans ?_) (A6.keep _ _)) rfl
   have h2:=O4 (st:=upd st bo ⟨2,1,ws.length,f⟩) (e:=1) (b:=bo) (n:=ws.length) (f:=fun k=>eI (gI (D2 total ws) k)) (A0 ..) rfl (D6M _) hf
   rw [A3L h0] at h2
   have e:B0 (D2 total ws)=.arr 1 ws.length (fun k=>eI (gI (D2 total ws) k)):=by unfold B0 A8;rw [hl]
   rw [e];exact h2⟩)
 refine F4 [] Tryz.func238 ?_
 refine I2 (C9v total ws h st) ?_
 refine mkO rfl rfl rfl (by show 8 * ws.length≤_;omega) (by omega) (by rfl) (fun bo hbo=>?_);conv=>whnf
 refine B9 (fun h1=>?_) (fun h1=>?_)<;>rw [h1]
 ·have h0:A2 ws=0:=by simpa using h1
  have hB:D2 total ws=ws.map fun _=>0:=if_pos h0
  conv=>whnf
  refine ⟨bo,_,hbo,rfl,F1.refl _,by rw [hB,D6J],fun k hk=>?_⟩
  rw [hB]
  show AV.int .i64 0=_
  rw [show gI (ws.map fun _=>(0:Int)) k=0 from D4 (fun _=>(0:Int)) ws hk]
 have hS:0<A2 ws:=by
  have h2:=C1 h.w0
  have h3:A2 ws≠0:=by simpa using h1
  omega
 have hB:D2 total ws=S5 ((List.range ws.length).map (shQ total (A2 ws) ws)) ((shR total (A2 ws) ws).take (F9 total (A2 ws) ws ws.length).toNat):=if_neg (by omega)
 have hsum:=h.sum
 have ht0:=h.t0
 have ht1:=h.t1
 conv=>whnf
 refine call (B2e _) (fun v st2 hv=>?_)
 obtain ⟨q,rfl,hq⟩:=hv
 conv=>whnf
 refine ⟨[0,6,8,9,10,35,36,37],fun m vs st'=>∃ (i:Nat) (f:Nat→AV),i≤ws.length∧m=ws.length - i∧vs=[eI total,eI (A2 ws),.own 1 bo 0 ws.length,eI (F9 total (A2 ws) ws i),.optr 1 q 0 0,B0 ws,eI ws.length,eI i] ∧
  (∀ k,k<i→f k=eI (shQ total (A2 ws) ws k))∧(∀ k,i≤k→f k=.int .i64 0)∧QSt (upd st bo ⟨2,1,ws.length,f⟩) q true ((List.range i).map (shE total (A2 ws) ws)) st',?_,?_⟩
 ·conv=>whnf
  exact ⟨_,0,fun _=>.int .i64 0,D7e _,rfl,(by simp [F9,A2];rfl),fun k hk=>absurd hk (by omega),fun _ _=>rfl,hq⟩
 ·clear hq
  rintro m vs st' ⟨i,f,hi,rfl,rfl,hf1,hf2,hq⟩
  conv=>whnf
  cases h2:decide ((i:Int)<(ws.length:Int))
  ·have:=D6G h2
   obtain rfl:i=ws.length:=by omega
   obtain ⟨l0,l1⟩:=A3v h hS
   conv=>whnf
   refine ⟨[8,10,61,62],fun m vs st'=>∃ (t:Nat) (f:Nat→AV) (fl:Bool),(t:Int)≤F9 total (A2 ws) ws ws.length∧m=(F9 total (A2 ws) ws ws.length).toNat - t∧vs=[.own 1 bo 0 ws.length,.optr 1 q 0 0,eI (F9 total (A2 ws) ws ws.length),eI t] ∧
    (∀ k,k<ws.length→f k=eI (gI (S5 ((List.range ws.length).map (shQ total (A2 ws) ws)) ((shR total (A2 ws) ws).take t)) k))∧QSt (upd st bo ⟨2,1,ws.length,f⟩) q fl ((shR total (A2 ws) ws).drop t) st',?_,?_⟩
   ·conv=>whnf
    exact ⟨_,0,f,true,by omega,rfl,rfl,fun k hk=>by rw [hf1 k hk,D8h];show _=eI (gI ((List.range ws.length).map _) k);rw [M8 _ hk],hq.perm (A2x total (A2 ws) ws).symm⟩
   ·clear hf1 hf2 hq f
    rintro m vs st' ⟨t,f,fl,ht,rfl,rfl,hf,hq⟩
    have hrl:=A7d total (A2 ws) ws
    have hby:st' bo=some ⟨2,1,ws.length,f⟩:=hq.sup bo _ (A0 ..)
    conv=>whnf
    cases h3:decide ((t:Int)<F9 total (A2 ws) ws ws.length)
    ·have h3':=D6G h3
     have hte:(F9 total (A2 ws) ws ws.length).toNat=t:=by omega
     conv=>whnf
     refine ⟨bo,f,hbo,rfl,hq.sup,by rw [hB,A1V];simp,fun k hk=>by rw [hB,hte];exact hf k hk⟩
    ·have h3':=D6H h3
     have htl:t<(shR total (A2 ws) ws).length:=by omega
     have hsplit:(shR total (A2 ws) ws).drop t=(shR total (A2 ws) ws)[t]::(shR total (A2 ws) ws).drop (t+1):=D8I htl
     have htop:∀ y∈(shR total (A2 ws) ws).drop (t+1),G6 y (shR total (A2 ws) ws)[t]=false:=fun y hy=>by
      have:=(A7V total (A2 ws) ws).sublist (D9q t _)
      rw [hsplit,D8p] at this
      exact this.1 y hy
     have hx:=B0Q (D8c htl)
     have htake:(shR total (A2 ws) ws).take (t+1)=(shR total (A2 ws) ws).take t++[(shR total (A2 ws) ws)[t]]:=D8J htl
     rw [hsplit] at hq
     generalize (shR total (A2 ws) ws)[t]=x at *
     have hb1:=A5a ((List.range ws.length).map (shQ total (A2 ws) ws)) ((shR total (A2 ws) ws).take t) x.2.toNat
     have hb2:=A4H h hS hx.2
     rw [M8 _ hx.2,D6N] at hb1;conv=>whnf
     refine call (A9K _ _ _ _ _ _ hq htop) (fun v st'' hv=>?_)
     obtain ⟨rfl,hq'⟩:=hv
     have hby':st'' bo=some ⟨2,1,ws.length,f⟩:=hq'.sup bo _ (A0 ..)
     conv=>whnf
     refine E7 ?_
     refine ldV hby' rfl (by omega) (v:=eI (gI (S5 ((List.range ws.length).map (shQ total (A2 ws) ws)) ((shR total (A2 ws) ws).take t)) x.2.toNat)) (by rw [D6Q];exact hf _ hx.2) ?_;conv=>whnf
     refine E7 ?_
     refine stV hby' rfl (by omega) (v:=eI (gI (S5 ((List.range ws.length).map (shQ total (A2 ws) ws)) ((shR total (A2 ws) ws).take t)) x.2.toNat)) (by rw [D6Q];exact hf _ hx.2) (by rfl) ?_;conv=>whnf
     refine G2 ?_
     have hg:=hq'.grow (bo':=bo) (y':=⟨2,1,ws.length,I4 f (0+x.2.toNat) (eI (IntKind.i64.wrap (gI (S5 ((List.range ws.length).map (shQ total (A2 ws) ws)) ((shR total (A2 ws) ws).take t)) x.2.toNat+1)))⟩) hbo (.inl rfl)
     rw [B0S] at hg
     refine ⟨(F9 total (A2 ws) ws ws.length).toNat - (t+1),by omega,t+1,_,false,by omega,rfl,by rw [B4 (by omega)],fun k hk=>?_,hg.2⟩
     rw [htake,A9V,C3J (by rw [A1V];simpa using hx.2),D6Q]
     by_cases e1:k=x.2.toNat
     ·rw [if_pos e1,e1,A4,A5 (by omega) (by omega)]
     ·rw [if_neg e1,H4 e1];exact hf k hk
  ·have hi':i<ws.length:=by have:=D6H h2;omega
   have hm:gI ws i∈ws:=A7 hi'
   have hby:st' bo=some ⟨2,1,ws.length,f⟩:=hq.sup bo _ (A0 ..)
   have hqb:=A5u h hS (show i≤ws.length by omega)
   have hqb':=A5u h hS (show i+1≤ws.length by omega)
   have hsr:=L7 (shQ total (A2 ws) ws) i
   conv=>whnf
   refine E7 ?_
   refine I2 (C9a total (gI ws i) (A2 ws) h.t0 h.t1 (h.w0 _ hm) (J4 h.w0 hm) hS h.sum _) ?_
   refine E7 ?_
   refine stV hby rfl (by omega) (v:=.int .i64 0) (by rw [show 0+(i:Int).toNat=i by omega];exact hf2 i (D6M _)) (by rfl) ?_
   conv=>whnf
   have hg:=hq.grow (bo':=bo) (y':=⟨2,1,ws.length,I4 f (0+(i:Int).toNat) (eI (shQ total (A2 ws) ws i))⟩) hbo (.inl rfl)
   rw [B0S] at hg
   refine call (A8O _ q _ (total * gI ws i % A2 ws) i _ hg.2 (by rw [D6J,D7g];omega)) (fun v st'' hv=>?_)
   obtain ⟨rfl,hq'⟩:=hv
   conv=>whnf
   refine G2 ?_
   refine ⟨ws.length - (i+1),by omega,i+1,I4 f (0+(i:Int).toNat) (eI (shQ total (A2 ws) ws i)),by omega,rfl,?_,fun k hk=>?_,fun k hk=>?_,?_⟩
   ·rw [B4 (by omega)]
    have e:IntKind.i64.wrap (F9 total (A2 ws) ws i - total * gI ws i / A2 ws)=F9 total (A2 ws) ws (i+1):=by
     unfold F9
     have:total * gI ws i / A2 ws=shQ total (A2 ws) ws i:=rfl
     rw [this,A5 (by omega) (by omega)];omega
    rw [e]
   ·by_cases e1:k=i
    ·subst e1;rw [show 0+(k:Int).toNat=k by omega,A4]
    ·rw [H4 (by omega)];exact hf1 k (by omega)
   ·rw [H4 (by omega)];exact hf2 k (by omega)
   ·rw [D8m,D7k];exact hq'
abbrev C6 (l:List B2):AV:=A8 3 Z4 l
abbrev gU (l:List B2) (k:Nat):B2:=l.getD k default
abbrev D9 (us:List B2):List Int:=us.map B2.net
structure E3 (us:List B2):Prop where
 len:us.length≤100000
 pos:∀ u∈us,0≤u.net
 sum:A2 (D9 us)≤10000000000000
structure N7 (us:List B2) (mine:List Int):Prop where
 rng:∀ k,k<mine.length→0≤gI mine k∧(gI mine k).toNat<us.length
 opn:∀ k,k<mine.length→(gU us (gI mine k).toNat).opn=true
 inc:∀ k,k+1<mine.length→gI mine k<gI mine (k+1)
theorem E3.nets0 {us:List B2} (h:E3 us):∀ x∈D9 us,0≤x:=fun x hx=>by
 obtain ⟨u,hu,rfl⟩:=D6Z.1 hx
 exact h.pos u hu
theorem E3.le {us:List B2} (h:E3 us) {u:B2} (hu:u∈us):u.net≤10000000000000:=by
 have:=J4 h.nets0 (D9s (f:=B2.net) hu)
 have:=h.sum
 omega
theorem N7.lt {us:List B2} {mine:List Int} (h:N7 us mine):∀ j k,j<k→k<mine.length→gI mine j<gI mine k:=fun j k hjk hk=>by
 induction k with
 | zero=>omega
 | succ k ih =>
  rcases D8k j k with hlt | hge
  ·exact Int.lt_trans (ih hlt (by omega)) (h.inc k hk)
  ·have:j=k:=by omega
   subst this;exact h.inc j hk
theorem N7.len {us:List B2} {mine:List Int} (h:N7 us mine):mine.length≤us.length:=by
 have:∀ k,k<mine.length→(k:Int)≤gI mine k:=fun k=>by
  induction k with
  | zero=>intro hk;exact (h.rng 0 hk).1
  | succ k ih=>intro hk;have:=ih (by omega);have:=h.inc k hk;omega
 rcases D8b mine.length with e | e
 ·omega
 ·have h1:=this (mine.length - 1) (by omega)
  have h2:=(h.rng (mine.length - 1) (by omega)).2
  omega
theorem C8V (us:List B2) (h:E3 us) (st:St):S P 313 [C6 us] st fun v st'=>v=.bool true∧st'=st:=by
 have hlen:=h.len
 refine F4 [5] Tryz.func313 ?_
 refine B9 (fun h1=>?_) (fun h1=>?_)<;>rw [h1]<;>simp only [D6F,D6E] at h1
 ·exact absurd h1 (by omega)
 conv=>whnf
 refine ⟨[3,9,10,11],fun m vs st'=>∃ i:Nat,i≤us.length∧m=us.length - i∧vs=[eI (A2 ((D9 us).take i)),C6 us,eI us.length,eI i]∧st'=st,?_,?_⟩
 ·conv=>whnf
  exact ⟨_,0,D7e _,rfl,rfl,rfl⟩
 ·rintro m vs st' ⟨i,hi,rfl,rfl,rfl⟩
  conv=>whnf
  cases h2:decide ((i:Int)<(us.length:Int))
  ·have:=D6G h2
   obtain rfl:i=us.length:=by omega
   have hs:=h.sum
   rw [show (D9 us).take us.length=D9 us from by rw [←D6J (f:=B2.net),D6O]];conv=>whnf
   refine ⟨?_,rfl⟩
   show AV.bool (decide _)=_
   rw [D7m hs]
  ·have hi':i<us.length:=by have:=D6H h2;omega
   have hu:gU us i∈us:=A7 hi'
   have p0:=h.pos _ hu
   have p1:=h.le hu
   have hsum:=h.sum
   have e1:=K9 (l:=D9 us) (i:=i) (by rw [D6J];exact hi')
   have e2:=N0 h.nets0 (i+1)
   have e3:=C1 (l:=(D9 us).take i) (fun x hx=>h.nets0 x (D7G _ _ hx))
   have e4:gI (D9 us) i=(gU us i).net:=D4 B2.net us hi'
   have w:IntKind.i64.wrap (A2 ((D9 us).take i)+(gU us i).net)=A2 ((D9 us).take (i+1)):=by rw [e1,e4];exact A5 (by omega) (by omega)
   conv=>whnf
   refine E7 ?_
   refine B9 (fun h3=>?_) (fun h3=>?_)<;>rw [h3]
   ·exact absurd (D6H h3) (by show ¬(gU us i).net<0;omega)
   conv=>whnf
   refine B9 (fun h4=>?_) (fun h4=>?_)<;>rw [h4]
   ·exact absurd (D6H h4) (by show ¬(gU us i).net>10000000000000;omega)
   conv=>whnf
   refine G2 ?_
   exact ⟨us.length - (i+1),by omega,i+1,by omega,rfl,by rw [B4 (by omega),←w];rfl,rfl⟩
theorem B1n (us:List B2) (mine:List Int) (h:E3 us) (hm:N7 us mine) (st:St):S P 294 [C6 us,B0 mine] st fun v st'=>v=.bool true∧st'=st:=by
 have hlen:=h.len
 have hml:=hm.len
 refine F4 [] Tryz.func294 ?_
 refine I2 (C8V us h st) ?_
 refine ⟨[0,5,11,12,13],fun m vs st'=>∃ i:Nat,i≤mine.length∧m=mine.length - i∧vs=[C6 us,eI (if i=0 then -1 else gI mine (i - 1)),B0 mine,eI mine.length,eI i]∧st'=st,?_,?_⟩
 ·conv=>whnf
  exact ⟨_,0,D7e _,rfl,rfl,rfl⟩
 ·rintro m vs st' ⟨i,hi,rfl,rfl,rfl⟩
  conv=>whnf
  cases h2:decide ((i:Int)<(mine.length:Int))
  ·conv=>whnf
   exact ⟨rfl,rfl⟩
  ·have hi':i<mine.length:=by have:=D6H h2;omega
   have hr:=hm.rng i hi'
   have ho:=hm.opn i hi'
   have hlast:(if i=0 then -1 else gI mine (i - 1))<gI mine i:=by
    split
    ·omega
    ·exact hm.lt (i - 1) i (by omega) hi'
   conv=>whnf
   refine E7 ?_
   refine B9 (fun h3=>?_) (fun h3=>?_)<;>rw [h3]
   ·exact absurd (D6H h3) (by show ¬ gI mine i≤_;omega)
   conv=>whnf
   refine B9 (fun h4=>?_) (fun h4=>?_)<;>rw [h4]
   ·exact absurd (D6H h4) (by show ¬ gI mine i≥(us.length:Int);omega)
   conv=>whnf
   refine ⟨rfl,⟨by show 0≤gI mine i;omega,by show gI mine i<(us.length:Int);omega⟩,?_⟩;conv=>whnf
   rw [show (us.getD (mine.getD (i:Int).toNat default).toNat default).opn=true from ho];conv=>whnf
   refine G2 ?_
   exact ⟨mine.length - (i+1),by omega,i+1,by omega,rfl,by rw [B4 (by omega),if_neg (show ¬ i+1=0 by omega)];rfl,rfl⟩
def J9 (x rate:Int):Int:=(if 0≤rate∧rate≤10000 then W7 x rate 10000 1 else (0,2)).1
theorem T7 (x rate:Int):0≤J9 x rate∧J9 x rate≤100000000000000:=by
 unfold J9
 split
 ·unfold W7
  split
  ·exact ⟨D7l _,by decide⟩
  ·rename_i hb
   rw [D9c] at hb
   simp only [U0,D6I,D6F,D9p,ne_eq] at hb
   have hq:0≤x * rate / 10000:=D8l (D8d hb.1.1.1.1.1.1 hb.1.1.1.1.2.1) (by omega)
   split
   ·exact ⟨D7l _,by decide⟩
   ·split
    ·exact ⟨D7l _,by decide⟩
    ·rename_i h1 h2
     refine ⟨?_,Int.le_of_not_gt h2⟩
     show 0≤U1 (x * rate / 10000) (x * rate % 10000) 10000 1
     unfold U1
     repeat' split
     all_goals omega
 ·exact ⟨D7l _,by decide⟩
def Q4 (x rate amount:Int):Int:=if x<J9 x rate+amount then x else J9 x rate+amount
theorem C8d (x rate amount:Int) (h0:0≤amount) (h1:amount≤10000000000000) (st:St):S P 316 [eI x,eI rate,eI amount] st fun v st'=>v=eI (Q4 x rate amount)∧st'=st:=by
 refine F4 [] Tryz.func316 ?_
 refine B3 (B5e x rate 1 st) ?_
 have hb:=T7 x rate
 have w:IntKind.i64.wrap (J9 x rate+amount)=J9 x rate+amount:=A5 (by omega) (by omega)
 conv=>whnf
 refine ⟨?_,rfl⟩
 show AV.int .i64 (if x<IntKind.i64.wrap (J9 x rate+amount) then x else IntKind.i64.wrap (J9 x rate+amount))=_
 rw [w];rfl
theorem A0m {x rate amount:Int} (hx:0≤x) (h0:0≤amount):0≤Q4 x rate amount∧Q4 x rate amount≤x:=by
 have:=T7 x rate
 unfold Q4
 split<;>omega
def B6b (p:B1) (nets:List Int):AV:=.agg [eS p.id,eI p.kind,eI p.prio,eS p.group,eS p.code,eB p.closes,C7 p.scope.skus,C7 p.scope.cats,eI p.least,eI p.rate,eI p.amount,eI p.buy,eI p.get,A8 3 W6 p.parts,A8 3 R9 p.tiers,B0 nets]
theorem B8c (p:B1) (nets:List Int) (rate amount:Int) (h0:0≤amount) (h1:amount≤10000000000000) (hl:nets.length≤100000) (st:St):S P 314 [B6b p nets,eI rate,eI amount] st fun v st'=>v=B0 (nets.map fun x=>Q4 x rate amount)∧st'=st:=by
 have he:B0 (nets.map fun x=>Q4 x rate amount)=.arr 1 nets.length (fun k=>eI (gI (nets.map fun x=>Q4 x rate amount) k)):=by unfold B0 A8;rw [D6J]
 rw [he]
 refine C2V (ty:=2) ?_
 refine F4 [3] Tryz.func314 ?_
 refine ⟨[1,2,7,11,12,13],fun m vs st'=>∃ (i:Nat) (sv:AV),i≤nets.length∧m=nets.length - i∧vs=[eI rate,eI amount,sv,B0 nets,eI nets.length,eI i]∧Col 2 1 (fun k=>eI (gI (nets.map fun x=>Q4 x rate amount) k)) st i sv st',?_,?_⟩
 ·conv=>whnf
  exact ⟨_,0,.emp,D7e _,rfl,rfl,Col.start _ _ _ _⟩
 ·rintro m vs st' ⟨i,sv,hi,rfl,rfl,hc⟩
  conv=>whnf
  cases h:decide ((i:Int)<(nets.length:Int))
  ·have:=D6G h
   obtain rfl:i=nets.length:=by omega
   conv=>whnf
   exact hc
  ·have hi':i<nets.length:=by have:=D6H h;omega
   conv=>whnf
   refine E7 ?_
   refine I2 (C8d (gI nets i) rate amount h0 h1 _) ?_
   refine Col.app (q:=r2) rfl rfl rfl rfl rfl ?_ (by show (i+1) * 8≤140737488355328;omega) hc (fun sv' st'' hc'=>?_)
   ·rw [show gI (nets.map fun x=>Q4 x rate amount) i=Q4 (gI nets i) rate amount from D4 (fun x=>Q4 x rate amount) nets hi'];rfl
   conv=>whnf
   refine G2 ?_
   exact ⟨nets.length - (i+1),by omega,i+1,sv',by omega,rfl,by rw [B4 (by omega)],hc'⟩
def B6v (p:B1) (nets:List Int):List Int:=nets.map fun x=>Q4 x p.rate 0
def B6u (p:B1) (nets:List Int):List Int:=nets.map fun x=>Q4 x 0 p.amount
theorem C1E (p:B1) (nets:List Int) (hl:nets.length≤100000) (st:St):S P 298 [B6b p nets] st fun v st'=>v=B0 (B6v p nets)∧st'=st:=by
 refine F4 [1] Tryz.func298 ?_
 refine I2 (B8c p nets p.rate 0 (by omega) (by omega) hl st) ?_
 exact ⟨rfl,rfl⟩
theorem C3e (p:B1) (nets:List Int) (h0:0≤p.amount) (h1:p.amount≤10000000000000) (hl:nets.length≤100000) (st:St):S P 299 [B6b p nets] st fun v st'=>v=B0 (B6u p nets)∧st'=st:=by
 refine F4 [1] Tryz.func299 ?_
 refine I2 (B8c p nets 0 p.amount h0 h1 hl st) ?_
 exact ⟨rfl,rfl⟩
def O3 (l:List A0S) (x:Int):Option A0S:=l.reverse.find? fun t=>decide (t.least≤x)
theorem A5e {α : Type} [Inhabited α] {l:List α} {k:Nat} (hk:k<l.length):l.reverse.getD k default=l.getD (l.length - 1 - k) default:=by
 rw [D6D,D6D,List.getElem?_reverse hk]
theorem A8R {l:List A0S} {x:Int} {i:Nat} (hi:i<l.length) (h:∀ k,i<k→k<l.length→decide ((l.getD k default).least≤x)=false) (hp:decide ((l.getD i default).least≤x)=true):O3 l x=some (l.getD i default):=by
 have e:l.getD i default=l.reverse.getD (l.length - 1 - i) default:=by
  rw [A5e (by omega),show l.length - 1 - (l.length - 1 - i)=i by omega]
 rw [e] at hp ⊢
 exact A4t (by rw [List.length_reverse];omega) (fun k hk=>by rw [A5e (by omega)];exact h _ (by omega) (by omega)) hp
theorem A8Q {l:List A0S} {x:Int} (h:∀ k,k<l.length→decide ((l.getD k default).least≤x)=false):O3 l x=none :=
 A9p fun k hk=>by rw [List.length_reverse] at hk;rw [A5e hk];exact h _ (by omega)
theorem B3X (l:List A0S) (x:Int) (hl:l.length≤100000) (st:St):S P 315 [A8 3 R9 l,eI x] st fun v st'=>v=.tuple [R9 ((O3 l x).getD default),.bool (O3 l x).isSome]∧st'=st:=by
 refine A0Q ?_
 refine F4 [] Tryz.func315 ?_
 intro b hb;conv=>whnf
 have w0:IntKind.i64.wrap ((l.length:Int) - 1)=(l.length:Int) - 1:=A5 (by omega) (by omega)
 refine ⟨[0,1,4,6],fun m vs st'=>∃ (i:Int) (f:Nat→AV) (u:A0S),-1≤i∧i<l.length∧(∀ k:Nat,i<k→k<l.length→decide ((l.getD k default).least≤x)=false)∧m=(i+1).toNat∧vs=[A8 3 R9 l,eI x,.optr 3 b 0 0,eI i]∧st'=upd st b ⟨300,3,1,f⟩∧f 0=R9 u,?_,?_⟩
 ·conv=>whnf
  exact ⟨_,(l.length:Int) - 1,_,default,by omega,by omega,fun k h1 h2=>by omega,rfl,by rw [w0],rfl,rfl⟩
 ·rintro m vs st' ⟨i,f,u,h0,hi,hno,rfl,rfl,rfl,hf⟩
  conv=>whnf
  cases h:decide (i≥0)
  ·have:=D6G h
   have hr:O3 l x=none:=A8Q fun k hk=>hno k (by omega) hk
   conv=>whnf
   refine Z7 (A0 ..) hf ?_
   refine J6 (A0 ..) (A4 ..) ?_
   refine ⟨by rw [hr];rfl,((F1.refl st).upd hb).over hb⟩
  ·have hi0:=D6H h
   conv=>whnf
   refine E7 ?_
   refine B9 (fun h1=>?_) (fun h1=>?_)
   ·have hr:O3 l x=some (l.getD i.toNat default):=A8R (by omega) (fun k h2 h3=>hno k (by omega) h3) h1
    rw [h1];conv=>whnf
    refine E7 ?_
    refine Z7 (A0 ..) hf ?_
    refine J6 (A0 ..) (A4 ..) ?_
    refine ⟨by rw [hr];rfl,((F1.refl st).upd hb).over hb⟩
   ·have w:IntKind.i64.wrap (i - 1)=i - 1:=A5 (by omega) (by omega)
    rw [h1];conv=>whnf
    refine G2 ?_
    refine ⟨i.toNat,by omega,i - 1,f,u,by omega,by omega,fun k h2 h3=>?_,by omega,by rw [w],rfl,hf⟩
    rcases (by omega:k=i.toNat∨i<k) with e | e
    ·rw [e];exact h1
    ·exact hno k e h3
def A8i (l:List A0S):Prop:=l.length≤6∧∀ t∈l,0≤t.amount∧t.amount≤10000000000000
theorem A0o {l:List A0S} (h:A8i l) (x:Int):0≤((O3 l x).getD default).amount∧((O3 l x).getD default).amount≤10000000000000:=by
 cases hr:O3 l x with
 | none=>exact ⟨D7l _,by decide⟩
 | some t =>
  have:t∈l:=List.mem_reverse.1 (D9e hr)
  exact h.2 t this
def A5C (p:B1) (nets:List Int):List Int:=match O3 p.tiers nets.length with
 | none=>[]
 | some t=>nets.map fun x=>Q4 x t.rate t.amount
def A5D (p:B1) (nets:List Int):List Int:=match O3 p.tiers (A2 nets) with
 | none=>[]
 | some t=>D2 (Q4 (A2 nets) t.rate t.amount) nets
theorem C5Z (p:B1) (nets:List Int) (ht:A8i p.tiers) (hl:nets.length≤100000) (st:St):S P 301 [B6b p nets] st fun v st'=>v=B0 (A5C p nets)∧st'=st:=by
 refine S.post (post:=fun v st'=>(v=B0 (A5C p nets)∨(A5C p nets=[]∧v=.emp))∧F1 st st') ?_ (fun v st' ⟨h,hs⟩=>⟨_,st,⟨rfl,rfl⟩,(hs.shift _).trans (by
  rcases h with rfl | ⟨h0,rfl⟩
  ·exact A6.keep _ _
  ·rw [h0];exact I9 1 _)⟩)
 have htl:=ht.1
 refine F4 [1] Tryz.func301 ?_
 refine I2 (B3X p.tiers nets.length (by omega) st) ?_
 intro b hb;conv=>whnf
 refine Z7 (A0 ..) rfl ?_
 have hsup:∀ x y:K4,F1 st (upd (upd st b x) b y):=fun x y=>((F1.refl st).upd hb).over hb
 have hok:=A0o ht nets.length
 cases hr:O3 p.tiers nets.length with
 | none =>
  have hB:A5C p nets=[]:=by unfold A5C;rw [hr]
  conv=>whnf
  exact ⟨.inr ⟨hB,rfl⟩,hsup _ _⟩
 | some t =>
  have hB:A5C p nets=nets.map fun x=>Q4 x t.rate t.amount:=by unfold A5C;rw [hr]
  rw [hr] at hok;conv=>whnf
  refine ldV (A0 ..) rfl (by omega) (v:=R9 t) (by rw [A4];rfl) ?_;conv=>whnf
  refine ldV (A0 ..) rfl (by omega) (v:=R9 t) (by rw [A4];rfl) ?_;conv=>whnf
  refine I2 (B8c p nets t.rate t.amount hok.1 hok.2 hl _) ?_
  exact ⟨.inl (by rw [hB];rfl),hsup _ _⟩
theorem C7x (p:B1) (nets:List Int) (ht:A8i p.tiers) (hl:nets.length≤100000) (h0:∀ x∈nets,0≤x) (hs:A2 nets≤10000000000000) (st:St):S P 300 [B6b p nets] st fun v st'=>v=B0 (A5D p nets)∧st'=st:=by
 refine S.post (post:=fun v st'=>(v=B0 (A5D p nets)∨(A5D p nets=[]∧v=.emp))∧F1 st st') ?_ (fun v st' ⟨h,hs⟩=>⟨_,st,⟨rfl,rfl⟩,(hs.shift _).trans (by
  rcases h with rfl | ⟨h0,rfl⟩
  ·exact A6.keep _ _
  ·rw [h0];exact I9 1 _)⟩)
 have htl:=ht.1
 have hsn:=C1 h0
 refine F4 [1] Tryz.func300 ?_
 refine ⟨[1,3,11,12,13],fun m vs st'=>∃ i:Nat,i≤nets.length∧m=nets.length - i∧vs=[.fptr (B6b p nets) 0,eI (A2 (nets.take i)),B0 nets,eI nets.length,eI i]∧st'=st,?_,?_⟩
 ·conv=>whnf
  exact ⟨_,0,D7e _,rfl,rfl,rfl⟩
 ·rintro m vs st' ⟨i,hi,rfl,rfl,rfl⟩
  conv=>whnf
  cases h:decide ((i:Int)<(nets.length:Int))
  ·have:=D6G h
   obtain rfl:i=nets.length:=by omega
   rw [D6O];conv=>whnf
   refine I2 (B3X p.tiers (A2 nets) (by omega) _) ?_
   intro b hb;conv=>whnf
   refine Z7 (A0 ..) rfl ?_
   have hsup:∀ x y:K4,F1 st' (upd (upd st' b x) b y):=fun x y=>((F1.refl st').upd hb).over hb
   have hok:=A0o ht (A2 nets)
   cases hr:O3 p.tiers (A2 nets) with
   | none =>
    have hB:A5D p nets=[]:=by unfold A5D;rw [hr]
    conv=>whnf
    exact ⟨.inr ⟨hB,rfl⟩,hsup _ _⟩
   | some t =>
    have hB:A5D p nets=D2 (Q4 (A2 nets) t.rate t.amount) nets:=by unfold A5D;rw [hr]
    rw [hr] at hok
    have hob:0≤Q4 (A2 nets) t.rate t.amount∧Q4 (A2 nets) t.rate t.amount≤A2 nets:=A0m hsn hok.1
    have hW:R3 (Q4 (A2 nets) t.rate t.amount) nets:=⟨hob.1,by omega,hl,h0,by omega,fun e=>by omega⟩
    conv=>whnf
    refine ⟨[],[],[0,1,2,3,4,5,6,7,8,9,10,11,12,13],by kernel_rfl,?_⟩;conv=>whnf
    refine ldV (A0 ..) rfl (by omega) (v:=R9 t) (by rw [A4];rfl) ?_;conv=>whnf
    refine ldV (A0 ..) rfl (by omega) (v:=R9 t) (by rw [A4];rfl) ?_;conv=>whnf
    refine cqW (C8d (A2 nets) t.rate t.amount hok.1 hok.2 _) ?_
    refine cqW (A9y _ nets hW _) ?_
    exact ⟨.inl (by rw [hB];rfl),hsup _ _⟩
  ·have hi':i<nets.length:=by have:=D6H h;omega
   have e1:=K9 hi'
   have e2:=N0 h0 (i+1)
   have e3:=C1 (l:=nets.take i) (fun x hx=>h0 x (D7G _ _ hx))
   have e4:0≤gI nets i:=h0 _ (A7 hi')
   have w:IntKind.i64.wrap (A2 (nets.take i)+gI nets i)=A2 (nets.take (i+1)):=by rw [e1];exact A5 (by omega) (by omega)
   conv=>whnf
   refine E7 ?_
   refine G2 ?_
   exact ⟨nets.length - (i+1),by omega,i+1,by omega,rfl,by rw [B4 (by omega),←w];rfl,rfl⟩
def A5P (st:St) (b:Nat) (us:List B2):Prop:=∃ f,st b=some ⟨223,3,us.length,f⟩∧∀ k,k<us.length→f k=Z4 (gU us k)
theorem A6b {us:List B2} {j:Nat} (hj:j<us.length) (x:B2) (k:Nat):gU (us.set j x) k=if k=j then x else gU us k:=by
 unfold gU
 simp only [D6D,D8G]
 by_cases h:k=j
 ·subst h;simp [hj]
 ·rw [if_neg (fun e=>h e.symm),if_neg h]
def close1 (us:List B2) (i:Nat):List B2:=us.set i { gU us i with opn:=false }
def closeB (us:List B2) (mine:List Int):List B2:=mine.foldl (fun us i=>close1 us i.toNat) us
theorem A1X (us:List B2) (mine:List Int):(closeB us mine).length=us.length:=by
 unfold closeB
 induction mine generalizing us with
 | nil=>rfl
 | cons x l ih=>simp only [D7U];rw [ih];simp [close1]
theorem A5P.set {st':St} {b:Nat} {us:List B2} {f:Nat→AV} (hf:∀ k,k<us.length→f k=Z4 (gU us k)) {j:Nat} (hj:j<us.length) (x:B2) (h:st' b=some ⟨223,3,us.length,I4 f j (Z4 x)⟩):A5P st' b (us.set j x):=by
 refine ⟨_,by rw [h,D7W],fun k hk=>?_⟩
 rw [D7W] at hk
 rw [A6b hj]
 by_cases e:k=j
 ·rw [if_pos e,e,A4]
 ·rw [if_neg e,H4 e];exact hf k hk
theorem B4A (b:Nat) (us:List B2) (mine:List Int) (hm:∀ x∈mine,0≤x∧x.toNat<us.length) (hl:mine.length≤1000000) (st:St) (hb:A5P st b us) :
  S P 297 [.own 3 b 0 us.length,B0 mine] st fun v st'=>v=.tuple []∧A5P st' b (closeB us mine)∧∀ c,c≠b→st' c=st c:=by
 refine F4 [] Tryz.func297 ?_
 refine ⟨[0,6,7,8],fun m vs st'=>∃ i:Nat,i≤mine.length∧m=mine.length - i∧vs=[.own 3 b 0 us.length,B0 mine,eI mine.length,eI i]∧A5P st' b (closeB us (mine.take i))∧∀ c,c≠b→st' c=st c,?_,?_⟩
 ·conv=>whnf
  exact ⟨_,0,D7e _,rfl,rfl,hb,fun _ _=>rfl⟩
 ·rintro m vs st' ⟨i,hi,rfl,rfl,⟨f,hst,hf⟩,hfr⟩
  have hlen:=A1X us (mine.take i)
  conv=>whnf
  cases h:decide ((i:Int)<(mine.length:Int))
  ·have:=D6G h
   obtain rfl:i=mine.length:=by omega
   rw [D6O] at hst hf;conv=>whnf
   exact ⟨rfl,⟨f,hst,hf⟩,hfr⟩
  ·have hi':i<mine.length:=by have:=D6H h;omega
   have hx:0≤gI mine i∧(gI mine i).toNat<us.length:=hm _ (A7 hi')
   conv=>whnf
   refine E7 ?_
   refine ⟨rfl,⟨by show 0≤gI mine i;exact hx.1,by show gI mine i<(us.length:Int);have:=hx.2;have:=hx.1;omega⟩,?_⟩;conv=>whnf
   refine stV hst rfl (by show 0+(gI mine i).toNat<_;have:=hx.2;omega) (v:=Z4 (gU (closeB us (mine.take i)) (gI mine i).toNat)) (by rw [D6Q];exact hf _ (show (gI mine i).toNat<(closeB us (mine.take i)).length by have:=hx.2;omega)) (by rfl) ?_;conv=>whnf
   refine G2 ?_
   refine ⟨mine.length - (i+1),by omega,i+1,by omega,rfl,by rw [B4 (by omega)],?_,fun c hc=>by rw [A9 hc];exact hfr c hc⟩
   have e:closeB us (mine.take (i+1))=close1 (closeB us (mine.take i)) (gI mine i).toNat:=H6 hi' _ _
   rw [e]
   refine A5P.set hf (by have:=hx.2;omega) _ ?_
   rw [A0,D6Q];rfl
theorem B1j (us:List B2) (hl:us.length≤100000) (st:St):S P 293 [C6 us] st fun v st'=>Col 223 3 (fun k=>Z4 (gU us k)) st us.length v st':=by
 refine SyW [] Tryz.func293 ?_
 cases us with
 | nil =>
  conv=>whnf
  refine ⟨?_,?_⟩
  ·conv=>whnf
   exact Col.start _ _ _ _
  ·conv=>whnf
   refine apE rfl rfl rfl rfl rfl (by show 0 * 24≤_;omega) (fun _=>?_) (fun h=>absurd h (by show ¬ 0<0;omega));conv=>whnf
   exact Col.start _ _ _ _
 | cons u us =>
  conv=>whnf
  refine Col.apps (n:=0) (m:=us.length+1) (q:=C1L) (f:=fun k=>Z4 (gU (u::us) k)) rfl rfl rfl rfl rfl (fun i hi=>by rw [D6Q]) (by show (0+(us.length+1)) * 24≤140737488355328;simp only [D7o] at hl;omega) (Col.start _ _ _ _) (fun sv' st'' hc'=>?_);conv=>whnf
  rw [D6Q] at hc'
  exact hc'
theorem A6.agg {a b:List AV} {st st':St} (h:A6 a st b st'):A6 [.agg a] st [.agg b] st':=A6.one fun w c hS hr=>by
 cases hr with
 | agg cs vs hlen hg =>
  obtain ⟨h1,h2,h3⟩:=h w vs hS ⟨hlen,hg⟩
  exact ⟨h1,h3,.agg _ _ h2.1 h2.2⟩
theorem A6.last {v v':AV} {s t:St} (h:A6 [v] s [v'] t):∀ cs:List AV,A6 (cs++[v]) s (cs++[v']) t
 | []=>h
 | x::cs=>A6.cons (A6.keep [x] s) (A6.last h cs)
def A5I (st:St) (us:List B2) (sv:AV) (st':St):Prop:=F1 st st'∧((us=[]∧sv=.emp)∨∃ b,st b=none∧sv=.own 3 b 0 us.length∧A5P st' b us)
theorem A5I.shift {st:St} {us:List B2} {sv:AV} {st':St} (h:A5I st us sv st'):A6 [sv] st' [C6 us] st:=by
 obtain ⟨hs,⟨rfl,rfl⟩ | ⟨b,hb,rfl,f,hst,hf⟩⟩:=h
 ·exact (hs.shift _).trans (I9 3 _)
 ·have hsup:F1 (upd st b ⟨223,3,us.length,f⟩) st':=fun c x hc=>by
   by_cases e:c=b
   ·subst e;rw [A0] at hc;rw [hst];exact hc
   ·rw [A9 e] at hc;exact hs c x hc
  have h2:=O4 (st:=upd st b ⟨223,3,us.length,f⟩) (e:=3) (b:=b) (n:=us.length) (f:=fun k=>Z4 (gU us k)) (A0 ..) rfl (D6M _) hf
  rw [A3L hb] at h2
  exact (hsup.shift _).trans h2
theorem A5I.ofCol {st:St} {us:List B2} {sv:AV} {st':St} (h:Col 223 3 (fun k=>Z4 (gU us k)) st us.length sv st'):A5I st us sv st':=by
 rcases h with ⟨h0,rfl,rfl⟩ | ⟨h0,b,g,hb,rfl,rfl,hg⟩
 ·exact ⟨F1.refl _,.inl ⟨D7n h0,rfl⟩⟩
 ·exact ⟨(F1.refl st).upd hb,.inr ⟨b,hb,rfl,g,A0 ..,hg⟩⟩
def E4 (us:List B2) (mine:List Int):List Int:=mine.map fun i=>(gU us i.toNat).net
def O8 (p:B1) (nets:List Int):List Int:=if p.kind=1 then B6v p nets else if p.kind=2 then B6u p nets else if p.kind=5 then A5D p nets else A5C p nets
def less1 (us:List B2) (i:Nat) (x:Int):List B2:=us.set i { gU us i with net:=(gU us i).net - x }
def D0 (us:List B2) (mine offs:List Int):Nat→List B2
 | 0=>us
 | k+1=>less1 (D0 us mine offs k) (gI mine k).toNat (gI offs k)
def A0b (p:B1) (us:List B2) (mine:List Int):List B2×Int :=
 let offs:=O8 p (E4 us mine)
 let us1:=D0 us mine offs offs.length
 (if (decide (A2 offs>0)&&p.closes)=true then closeB us1 mine else us1,A2 offs)
theorem P8 (us:List B2) (mine offs:List Int) (k:Nat):(D0 us mine offs k).length=us.length:=by
 induction k with
 | zero=>rfl
 | succ k ih=>unfold D0 less1;rw [D7W,ih]
theorem B0m {us:List B2} {mine offs:List Int} (hm:N7 us mine):∀ k,k≤mine.length→∀ j,j<us.length→(∀ i,i<k→j≠(gI mine i).toNat)→gU (D0 us mine offs k) j=gU us j
 | 0,_,j,hj,_=>rfl
 | k+1,hk,j,hj,hne=>by
  have ih:=B0m (offs:=offs) hm k (by omega) j hj (fun i hi=>hne i (by omega))
  unfold D0 less1
  rw [A6b (by rw [P8];exact (hm.rng k (by omega)).2),if_neg (hne k (by omega))]
  exact ih
theorem B9m {us:List B2} {mine offs:List Int} (hm:N7 us mine) {k:Nat} (hk:k<mine.length):gU (D0 us mine offs k) (gI mine k).toNat=gU us (gI mine k).toNat :=
 B0m hm k (by omega) _ (hm.rng k hk).2 fun i hi=>by
  have h1:=hm.lt i k hi hk
  have h2:=(hm.rng i (by omega)).1
  omega
theorem B7s {l:List Int} {j:Nat} (hj:j<l.length) (x:Int):A2 (l.set j x)=A2 l - gI l j+x:=by
 have e1:l.set j x=l.take j++x::l.drop (j+1):=List.set_eq_take_append_cons_drop (l:=l) (i:=j) (a:=x) |>.trans (by rw [if_pos hj])
 have e2:l=l.take j++gI l j::l.drop (j+1):=by
  have:gI l j=l[j]:=by simp [gI,hj]
  rw [this,←D8I hj,D8U]
 have c1:∀ (y:Int) (r:List Int),A2 (y::r)=y+A2 r:=fun y r=>by
  have:=F5 [y] r
  rw [D9h] at this
  rw [this];simp [A2]
 have h2:A2 l=A2 (l.take j)+(gI l j+A2 (l.drop (j+1))):=by
  conv=>lhs;rw [e2]
  rw [F5,c1]
 rw [e1,F5,c1,h2];omega
theorem B7P {qs:List Int} {R:List QE} (h:∀ e∈R,e.2.toNat<qs.length):A2 (S5 qs R)=A2 qs+R.length:=by
 unfold S5
 induction R generalizing qs with
 | nil=>simp
 | cons e R ih =>
  simp only [D7U,D7o]
  have he:=h e (D7f ..)
  rw [ih (fun x hx=>by rw [D7W];exact h x (D7d _ hx)),B7s he]
  omega
theorem T2 {total:Int} {ws:List Int} (h:R3 total ws):A2 (D2 total ws)=total∧(D2 total ws).length=ws.length∧∀ x∈D2 total ws,0≤x:=by
 unfold D2
 split
 ·rename_i h0
  have ht:=h.none h0
  refine ⟨?_,by simp,fun x hx=>?_⟩
  ·rw [ht]
   have:∀ l:List Int,A2 (l.map fun _=>(0:Int))=0:=fun l=>by
    induction l with
    | nil=>rfl
    | cons x l ih =>
     have:=F5 [(0:Int)] (l.map fun _=>(0:Int))
     rw [D9h] at this
     rw [D7H,this,ih];rfl
   exact this ws
  ·obtain ⟨_,_,rfl⟩:=D6Z.1 hx;exact D7l _
 ·rename_i h0
  have hS:0<A2 ws:=by have:=C1 h.w0;omega
  obtain ⟨l0,l1⟩:=A3v h hS
  have hR:=A7d total (A2 ws) ws
  have hmem:∀ e∈(shR total (A2 ws) ws).take (F9 total (A2 ws) ws ws.length).toNat,e.2.toNat<((List.range ws.length).map (shQ total (A2 ws) ws)).length:=fun e he=>by
   rw [D6J,D7g];exact (B0Q (D7G _ _ he)).2
  refine ⟨?_,by rw [A1V];simp,fun x hx=>?_⟩
  ·rw [B7P hmem,D6N]
   unfold F9 at *
   omega
  ·obtain ⟨k,hk,rfl⟩:=D5 hx
   rw [A1V,D6J,D7g] at hk
   have hb:=(A5a ((List.range ws.length).map (shQ total (A2 ws) ws)) ((shR total (A2 ws) ws).take (F9 total (A2 ws) ws ws.length).toNat) k).1
   have hq:=(A4H h hS hk).1
   rw [M8 _ hk] at hb
   show 0≤gI _ k
   omega
theorem A7X {l:List Int} {f:Int→Int} (h:∀ x∈l,0≤f x∧f x≤x):A2 (l.map f)≤A2 l∧∀ y∈l.map f,0≤y:=by
 have c1:∀ (y:Int) (r:List Int),A2 (y::r)=y+A2 r:=fun y r=>by
  have:=F5 [y] r
  rw [D9h] at this
  rw [this];simp [A2]
 refine ⟨?_,fun y hy=>by obtain ⟨x,hx,rfl⟩:=D6Z.1 hy;exact (h x hx).1⟩
 induction l with
 | nil=>exact D7l _
 | cons x l ih =>
  rw [D7H,c1,c1]
  have:=ih (fun y hy=>h y (D7d _ hy))
  have:=(h x (D7f ..)).2
  omega
structure A5N (p:B1):Prop where
 fit:Q7 p
 right:H2 p=true
 kind:p.kind=1∨p.kind=2∨p.kind=5∨p.kind=6
 tiers:p.kind=5∨p.kind=6→A8i p.tiers
 amount:p.kind=2→0≤p.amount∧p.amount≤10000000000000
theorem A5k {p:B1} (hp:A5N p) {nets:List Int} (h0:∀ x∈nets,0≤x) (hs:A2 nets≤10000000000000) (hl:nets.length≤100000) :
  A2 (O8 p nets)≤A2 nets∧(O8 p nets).length≤nets.length∧∀ y∈O8 p nets,0≤y:=by
 have hn:=C1 h0
 rcases hp.kind with e | e | e | e
 ·have:O8 p nets=B6v p nets:=by unfold O8;rw [if_pos e]
  rw [this]
  have h:=A7X (l:=nets) (f:=fun x=>Q4 x p.rate 0) (fun x hx=>A0m (h0 x hx) (by omega))
  exact ⟨h.1,by simp [B6v],h.2⟩
 ·have:O8 p nets=B6u p nets:=by unfold O8;rw [if_neg (by omega),if_pos e]
  rw [this]
  have h:=A7X (l:=nets) (f:=fun x=>Q4 x 0 p.amount) (fun x hx=>A0m (h0 x hx) (hp.amount e).1)
  exact ⟨h.1,by simp [B6u],h.2⟩
 ·have:O8 p nets=A5D p nets:=by unfold O8;rw [if_neg (by omega),if_neg (by omega),if_pos e]
  rw [this]
  have hok:=A0o (hp.tiers (.inl e)) (A2 nets)
  unfold A5D
  split
  ·exact ⟨hn,by simp,fun y hy=>by cases hy⟩
  ·rename_i t hr
   rw [hr] at hok
   have hob:0≤Q4 (A2 nets) t.rate t.amount∧Q4 (A2 nets) t.rate t.amount≤A2 nets:=A0m hn hok.1
   have hW:R3 (Q4 (A2 nets) t.rate t.amount) nets:=⟨hob.1,by omega,hl,h0,by omega,fun e=>by omega⟩
   obtain ⟨a,b,c⟩:=T2 hW
   exact ⟨by rw [a];exact hob.2,by omega,c⟩
 ·have:O8 p nets=A5C p nets:=by unfold O8;rw [if_neg (by omega),if_neg (by omega),if_neg (by omega)]
  rw [this]
  have hok:=A0o (hp.tiers (.inr e)) nets.length
  unfold A5C
  split
  ·exact ⟨hn,by simp,fun y hy=>by cases hy⟩
  ·rename_i t hr
   rw [hr] at hok
   have h:=A7X (l:=nets) (f:=fun x=>Q4 x t.rate t.amount) (fun x hx=>A0m (h0 x hx) hok.1)
   exact ⟨h.1,by simp,h.2⟩
end Go.Proofs.YtaapofnkmpiknaaGreat
