/- Part 21 of the proof: contracts of the functions that the law reaches -/
import Derived.Test.YtaapofnkmpiknaaGreatPw20
set_option maxRecDepth 100000
set_option linter.unusedVariables false
set_option linter.unusedSimpArgs false
namespace Go.Proofs.YtaapofnkmpiknaaGreat
open Go Go.Ab
attribute [local irreducible] upd del
abbrev gI (l:List Int) (k:Nat):Int:=l.getD k default
def swI (l:List Int) (i j:Nat):List Int:=(l.set i (gI l j)).set j (gI l i)
theorem B4p (l:List Int) (i j:Nat):(swI l i j).length=l.length:=by simp [swI]
theorem B3f {l:List Int} {i j:Nat} (hi:i<l.length) (hj:j<l.length) (k:Nat):gI (swI l i j) k=if k=j then gI l i else if k=i then gI l j else gI l k:=by
 unfold swI gI
 simp only [C9i,D0O,D0p]
 by_cases h1:k=j
 ·subst h1;simp [hj]
 ·rw [if_neg (fun e=>h1 e.symm),if_neg h1]
  by_cases h2:k=i
  ·subst h2;simp [hi]
  ·rw [if_neg (fun e=>h2 e.symm),if_neg h2]
theorem B8t {l:List Int} {i j:Nat} (hi:i<l.length) (hj:j<l.length):(swI l i j).Perm l:=by
 have e1:gI l j=l[j]:=by simp [gI,hj]
 have e2:gI l i=l[i]:=by simp [gI,hi]
 unfold swI
 rw [e1,e2]
 exact List.set_set_perm hi hj
def A2I (st:St) (b:Nat) (l:List Int):Prop:=∃ f,st b=some ⟨3,1,l.length,f⟩∧∀ k,k<l.length→f k=eI (gI l k)
structure Ord (lt:Int→Int→Bool):Prop where
 asymm:∀ x y,lt x y=true→lt y x=false
 le:∀ x y z,lt y x=false→lt z y=false→lt z x=false
def Srt (lt:Int→Int→Bool) (l:List Int) (a e:Nat):Prop:=∀ x y,a≤x→x<y→y<e→lt (gI l y) (gI l x)=false
structure Ins (lt:Int→Int→Bool) (l:List Int) (a e j:Nat):Prop where
 rest:∀ x y,a≤x→x<y→y<e→x≠j→y≠j→lt (gI l y) (gI l x)=false
 up:∀ y,j<y→y<e→lt (gI l y) (gI l j)=false
theorem Srt.ins {lt:Int→Int→Bool} {l:List Int} {a i:Nat} (h:Srt lt l a i):Ins lt l a (i+1) i :=
 ⟨fun x y hx hxy hy h1 h2=>h x y hx hxy (by omega),fun y h1 h2=>by omega⟩
theorem Ins.done {lt:Int→Int→Bool} (ho:Ord lt) {l:List Int} {a e j:Nat} (h:Ins lt l a e j) (hj:j≤a∨lt (gI l j) (gI l (j - 1))=false):Srt lt l a e:=fun x y hx hxy hy=>by
 by_cases h1:x=j
 ·subst h1;exact h.up y hxy hy
 ·by_cases h2:y=j
  ·subst h2
   rcases hj with hj | hj
   ·omega
   ·by_cases h3:x=y - 1
    ·subst h3;exact hj
    ·exact ho.le _ _ _ (h.rest x (y - 1) hx (by omega) (by omega) h1 (by omega)) hj
  ·exact h.rest x y hx hxy hy h1 h2
theorem Ins.step {lt:Int→Int→Bool} (ho:Ord lt) {l:List Int} {a e j:Nat} (h:Ins lt l a e j) (hj:a<j) (hje:j<e) (he:e≤l.length) (hlt:lt (gI l j) (gI l (j - 1))=true):Ins lt (swI l j (j - 1)) a e (j - 1):=by
 have sw:=B3f (l:=l) (i:=j) (j:=j - 1) (by omega) (by omega)
 refine ⟨fun x y hx hxy hy h1 h2=>?_,fun y h1 h2=>?_⟩
 ·rw [sw x,sw y,if_neg h1,if_neg h2]
  by_cases hxj:x=j
  ·rw [if_pos hxj,if_neg (by omega)]
   exact h.rest (j - 1) y (by omega) (by omega) hy (by omega) (by omega)
  ·rw [if_neg hxj]
   by_cases hyj:y=j
   ·rw [if_pos hyj]
    exact h.rest x (j - 1) hx (by omega) (by omega) hxj (by omega)
   ·rw [if_neg hyj];exact h.rest x y hx hxy hy hxj hyj
 ·rw [sw y,sw (j - 1),if_neg (by omega),if_pos rfl]
  by_cases hyj:y=j
  ·rw [if_pos hyj];exact ho.asymm _ _ hlt
  ·rw [if_neg hyj];exact h.up y (by omega) h2
theorem A9F (b:Nat) (l:List Int) (n a e:Nat) (g:FuncId) (cs:List AV) (cf:Int→Int→Int) (lt:Int→Int→Bool) (hlt:∀ x y,decide (cf x y<0)=lt x y) (ho:Ord lt) (st:St) (hb:A2I st b l) (hae:a≤e) (he:e≤n) (hn:n≤l.length) (hl:l.length<4611686018427387904)
  (hg:∀ x∈l,∀ y∈l,∀ st',S P g (eI x::eI y::cs) st' fun v s=>v=eI (cf x y)∧s=st') :
  S P 310 [.own 1 b 0 n,eI a,eI e,.fn (.func g) [] cs] st fun v st'=>v=.tuple []∧∃ l',l'.Perm l∧Srt lt l' a e∧(∀ k,k<a∨e≤k→gI l' k=gI l k)∧A2I st' b l'∧∀ c,c≠b→st' c=st c:=by
 refine F5 [] Tryz.func310 ?_
 refine ⟨[0,1,2,3,8],fun m vs st'=>∃ (i:Nat) (l':List Int),a<i∧(i≤e∨i=a+1)∧l'.Perm l∧Srt lt l' a i∧(∀ k,k<a∨e≤k→gI l' k=gI l k)∧A2I st' b l'∧(∀ c,c≠b→st' c=st c)∧m=e - i∧vs=[.own 1 b 0 n,eI a,eI e,.fn (.func g) [] cs,eI i],?_,?_⟩
 ·conv=>whnf
  exact ⟨_,a+1,l,by omega,.inr rfl,List.Perm.refl _,fun x y h1 h2 h3=>by omega,fun _ _=>rfl,hb,fun _ _=>rfl,rfl,by rw [C1 (by omega)]⟩
 ·rintro m vs st' ⟨i,l',hai,hie,hp,hs,hout,hb',hfr,rfl,rfl⟩
  have hlen:l'.length=l.length:=hp.length_eq
  conv=>whnf
  cases h:decide ((i:Int)<(e:Int))
  ·have:=C9k h
   conv=>whnf
   refine ⟨rfl,l',hp,fun x y h1 h2 h3=>hs x y h1 h2 (by omega),hout,hb',hfr⟩
  ·have hi:i<e:=by have:=C9j h;omega
   conv=>whnf
   refine ⟨[0,1,2,3,8,9],fun m vs st''=>∃ (j:Nat) (l'':List Int),a≤j∧j≤i∧l''.Perm l∧Ins lt l'' a (i+1) j∧(∀ k,k<a∨e≤k→gI l'' k=gI l k)∧A2I st'' b l''∧(∀ c,c≠b→st'' c=st c)∧m=j∧vs=[.own 1 b 0 n,eI a,eI e,.fn (.func g) [] cs,eI i,eI j],?_,?_⟩
   ·conv=>whnf
    exact ⟨_,i,l',by omega,C9q _,hp,hs.ins,hout,hb',hfr,rfl,rfl⟩
   ·clear hp hs hout hb' hfr hlen
    rintro j vs st'' ⟨_,l'',haj,hji,hp,hs,hout,⟨f,hst,hf⟩,hfr,rfl,rfl⟩
    have hlen:l''.length=l.length:=hp.length_eq
    have next:Srt lt l'' a (i+1)→∃ m',m'<e - i∧∃ (i_1:Nat) (l':List Int),a<i_1∧(i_1≤e∨i_1=a+1)∧l'.Perm l∧Srt lt l' a i_1∧(∀ k,k<a∨e≤k→gI l' k=gI l k)∧A2I st'' b l'∧(∀ c,c≠b→st'' c=st c)∧m'=e - i_1∧[AV.own 1 b 0 n,eI a,eI e,.fn (.func g) [] cs,eI (IntKind.i64.wrap ((i:Int)+1))]=[.own 1 b 0 n,eI a,eI e,.fn (.func g) [] cs,eI i_1] :=
     fun hsrt=>⟨e - (i+1),by omega,i+1,l'',by omega,.inl (by omega),hp,hsrt,hout,⟨f,hst,hf⟩,hfr,rfl,by rw [C1 (by omega)]⟩
    conv=>whnf
    refine ⟨[],[],[0,1,2,3,4,5,6,7,8,9,10,11,12,13,14,15,16],by kernel_rfl,?_⟩;conv=>whnf
    refine B7 (fun h1=>?_) (fun h1=>?_)<;>rw [h1]<;>simp only [C9n,C9m] at h1
    ·have w:IntKind.i64.wrap ((j:Int) - 1)=((j - 1:Nat):Int):=by rw [A6 (by omega) (by omega)];omega
     have fj:f (0+(j:Int).toNat)=eI (gI l'' j):=by rw [show 0+(j:Int).toNat=j by omega];exact hf j (by omega)
     have fj1:f (0+((j - 1:Nat):Int).toNat)=eI (gI l'' (j - 1)):=by rw [show 0+((j - 1:Nat):Int).toNat=j - 1 by omega];exact hf (j - 1) (by omega)
     conv=>whnf
     refine I8 ?_
     refine K9 hst fj ?_
     rw [w]
     refine I8 ?_
     refine K9 hst fj1 ?_
     refine cqW (hg (gI l'' j) (hp.subset (A7 (by omega))) (gI l'' (j - 1)) (hp.subset (A7 (by omega))) _) ?_
     rw [hlt]
     refine B7 (fun h2=>?_) (fun h2=>?_)<;>rw [h2]
     ·have hfj1:G8 f (0+(j:Int).toNat) (I5 (eI (gI l'' j)) 0 (A2 (eI (gI l'' (j - 1))))) (0+((j - 1:Nat):Int).toNat)=eI (gI l'' (j - 1)):=(J1 (by omega)).trans fj1
      conv=>whnf
      refine ⟨[15,17],[],[0,1,2,3,4,5,6,7,8,9,10,11,12,13,14,15,16,17],by kernel_rfl,?_⟩;conv=>whnf
      rw [w]
      refine I8 ?_
      refine K9 hst fj1 ?_
      refine I8 ?_
      refine K9 hst fj ?_
      refine I8 ?_
      refine stW hst fj ?_
      refine I8 ?_
      refine stW (A0 ..) hfj1 ?_
      refine I9 ?_
      have hjl:j<l''.length:=by omega
      refine ⟨j - 1,by omega,j - 1,swI l'' j (j - 1),by omega,by omega,(B8t hjl (by omega)).trans hp,hs.step ho (by omega) (by omega) (by omega) h2,fun k hk=>?_,⟨_,by rw [A0,B4p],fun k hk=>?_⟩,fun c hc=>by rw [A5 hc,A5 hc];exact hfr c hc,rfl,by rw [w]⟩
      ·rw [B3f hjl (by omega),if_neg (by omega),if_neg (by omega)];exact hout k hk
      ·rw [B4p] at hk
       rw [B3f hjl (by omega)]
       by_cases e1:k=j - 1
       ·subst e1
        rw [if_pos rfl,show 0+((j - 1:Nat):Int).toNat=j - 1 by omega,B4];rfl
       ·rw [if_neg e1,J1 (by omega)]
        by_cases e2:k=j
        ·subst e2
         rw [if_pos rfl,show 0+(k:Int).toNat=k by omega,B4];rfl
        ·rw [if_neg e2,J1 (by omega)];exact hf k hk
     ·conv=>whnf
      refine I9 ?_
      exact next (hs.done ho (.inr h2))
    ·conv=>whnf
     refine I9 ?_
     exact next (hs.done ho (.inl (by omega)))
theorem Srt.congr {lt:Int→Int→Bool} {l l':List Int} {a e:Nat} (h:Srt lt l a e) (hk:∀ k,a≤k→k<e→gI l' k=gI l k):Srt lt l' a e:=fun x y h1 h2 h3=>by
 rw [hk x h1 (by omega),hk y (by omega) h3];exact h x y h1 h2 h3
theorem B8r (b:Nat) (l:List Int) (g:FuncId) (cs:List AV) (cf:Int→Int→Int) (lt:Int→Int→Bool) (hlt:∀ x y,decide (cf x y<0)=lt x y) (ho:Ord lt) (st:St) (hb:A2I st b l) (hl:l.length≤20)
  (hg:∀ x∈l,∀ y∈l,∀ st',S P g (eI x::eI y::cs) st' fun v s=>v=eI (cf x y)∧s=st') :
  S P 289 [.own 1 b 0 l.length,eI l.length,.fn (.func g) [] cs] st fun v st'=>v=.tuple []∧∃ l',l'.Perm l∧Srt lt l' 0 l.length∧A2I st' b l'∧∀ c,c≠b→st' c=st c:=by
 refine F5 [] Tryz.func289 ?_
 refine ⟨[0,1,2,6,7,8],fun m vs st'=>(m=1∧st'=st∧vs=[.own 1 b 0 l.length,eI l.length,.fn (.func g) [] cs,eI 20,eI 0,eI 20]) ∨
  (m=0∧l.length=20∧(∃ l',l'.Perm l∧Srt lt l' 0 l.length∧A2I st' b l'∧∀ c,c≠b→st' c=st c)∧vs=[.own 1 b 0 l.length,eI l.length,.fn (.func g) [] cs,eI 20,eI 20,eI 40]),?_,?_⟩
 ·conv=>whnf
  exact ⟨1,.inl ⟨rfl,rfl,rfl⟩⟩
 ·rintro m vs st' (⟨rfl,rfl,rfl⟩ | ⟨rfl,h20,⟨l',hp,hs,hb',hfr⟩,rfl⟩)
  ·conv=>whnf
   refine B7 (fun h1=>?_) (fun h1=>?_)<;>rw [h1]<;>simp only [C9n,C9m] at h1
   ·have h20:l.length=20:=by omega
    conv=>whnf
    refine call (A9F b l l.length 0 20 g cs cf lt hlt ho _ hb (by omega) (by omega) (by omega) (by omega) hg) (fun v st1 hv=>?_)
    obtain ⟨rfl,l',hp,hs,hout,hb',hfr⟩:=hv
    conv=>whnf
    refine I9 ?_
    exact ⟨0,by omega,.inr ⟨rfl,h20,⟨l',hp,by rw [h20];exact hs,hb',hfr⟩,rfl⟩⟩
   ·conv=>whnf
    refine call (A9F b l l.length 0 l.length g cs cf lt hlt ho _ hb (by omega) (by omega) (by omega) (by omega) hg) (fun v st1 hv=>?_)
    obtain ⟨rfl,l',hp,hs,hout,hb',hfr⟩:=hv
    conv=>whnf
    refine A8l [0,1,2,6] ?_;conv=>whnf
    intro I
    refine B7 (fun h2=>?_) (fun h2=>?_)<;>rw [h2]<;>simp only [C9n,C9m] at h2
    ·exact absurd h2 (by omega)
    ·conv=>whnf
     exact ⟨rfl,l',hp,hs,hb',hfr⟩
  ·have hlen:l'.length=l.length:=hp.length_eq
   conv=>whnf
   refine B7 (fun h1=>?_) (fun h1=>?_)<;>rw [h1]<;>simp only [C9n,C9m] at h1
   ·exact absurd h1 (by omega)
   ·conv=>whnf
    refine call (A9F b l' l.length 20 l.length g cs cf lt hlt ho _ hb' (by omega) (by omega) (by omega) (by omega) (fun x hx y hy=>hg x (hp.subset hx) y (hp.subset hy))) (fun v st1 hv=>?_)
    obtain ⟨rfl,l2,hp2,hs2,hout,hb2,hfr2⟩:=hv
    conv=>whnf
    refine A8l [0,1,2,6] ?_;conv=>whnf
    intro I
    refine B7 (fun h2=>?_) (fun h2=>?_)<;>rw [h2]<;>simp only [C9n,C9m] at h2
    ·exact absurd h2 (by omega)
    ·conv=>whnf
     exact ⟨rfl,l2,hp2.trans hp,hs.congr (fun k _ hk=>hout k (by omega)),hb2,fun c hc=>(hfr2 c hc).trans (hfr c hc)⟩
def A2P (N:Nat):Prop:=∀ (b:Nat) (l:List Int) (g:FuncId) (cs:List AV) (cf:Int→Int→Int) (lt:Int→Int→Bool) (hlt:∀ x y,decide (cf x y<0)=lt x y) (ho:Ord lt) (st:St) (hb:A2I st b l) (hl:l.length≤N)
  (hg:∀ x∈l,∀ y∈l,∀ st',S P g (eI x::eI y::cs) st' fun v s=>v=eI (cf x y)∧s=st'),
  S P 289 [.own 1 b 0 l.length,eI l.length,.fn (.func g) [] cs] st fun v st'=>v=.tuple []∧∃ l',l'.Perm l∧Srt lt l' 0 l.length∧A2I st' b l'∧∀ c,c≠b→st' c=st c
theorem B1J:A2P 20:=fun b l g cs cf lt hlt ho st hb hl hg=>B8r b l g cs cf lt hlt ho st hb hl hg
theorem B0p {N:Nat} (hN:A2P N) (b:Nat) (l:List Int) (g:FuncId) (cs:List AV) (cf:Int→Int→Int) (lt:Int→Int→Bool) (hlt:∀ x y,decide (cf x y<0)=lt x y) (ho:Ord lt) (st:St) (hb:A2I st b l) (hl:l.length≤N)
  (hg:∀ x∈l,∀ y∈l,∀ st',S P g (eI x::eI y::cs) st' fun v s=>v=eI (cf x y)∧s=st') :
  S P 264 [.own 1 b 0 l.length,.fn (.func g) [] cs] st fun v st'=>v=.tuple []∧∃ l',l'.Perm l∧Srt lt l' 0 l.length∧A2I st' b l'∧∀ c,c≠b→st' c=st c:=by
 refine F5 [] Tryz.func264 ?_
 refine call (hN b l g cs cf lt hlt ho st hb hl hg) (fun v st' hv=>?_)
 obtain ⟨rfl,h⟩:=hv
 conv=>whnf
 exact ⟨rfl,h⟩
theorem B7f (f:AV) (st:St):S P 310 [.emp,eI 0,eI 0,f] st fun v st'=>v=.tuple []∧st'=st:=by
 refine F5 [] Tryz.func310 ?_
 refine A8l [0,1,2,3,8] ?_;conv=>whnf
 intro I
 exact ⟨rfl,rfl⟩
theorem B5N (f:AV) (st:St):S P 289 [.emp,eI 0,f] st fun v st'=>v=.tuple []∧st'=st:=by
 refine F5 [] Tryz.func289 ?_
 refine A8l [0,1,2,6,7,8] ?_;conv=>whnf
 intro I
 refine J0 (B7f f st) ?_
 refine A8l [0,1,2,6] ?_;conv=>whnf
 intro I
 exact ⟨rfl,rfl⟩
theorem A8q (f:AV) (st:St):S P 264 [.emp,f] st fun v st'=>v=.tuple []∧st'=st:=by
 refine F5 [] Tryz.func264 ?_
 refine J0 (B5N f st) ?_
 exact ⟨rfl,rfl⟩
theorem T8.grow {st0 st:St} {q bo bo':Nat} {f:Bool} {es:List QE} {y y':H1} (h:T8 (upd st0 bo y) q f es st) (h0:st0 bo=none) (hb:bo'=bo∨st bo'=none):st0 bo'=none∧T8 (upd st0 bo' y') q f es (upd (del st bo) bo' y'):=by
 obtain ⟨h1,h2,sv,⟨fq,hqs,hq0⟩,h3⟩:=h
 have hqo:q≠bo:=fun e=>by subst e;rw [A0] at h1;cases h1
 have hq1:st0 q=none:=by rw [A5 hqo] at h1;exact h1
 have hqb:q≠bo':=fun e=>by
  subst e
  rcases hb with e | e
  ·exact hqo e
  ·rw [hqs] at e;cases e
 have hsub:∀ c x,st0 c=some x→c≠bo∧st c=some x:=fun c x hc=>by
  have hne:c≠bo:=fun e=>by subst e;rw [h0] at hc;cases hc
  exact ⟨hne,h2 c x (by rw [A5 hne];exact hc)⟩
 have hbo':st0 bo'=none:=by
  rcases hb with e | e
  ·rw [e];exact h0
  ·cases hx:st0 bo' with
   | none=>rfl
   | some x=>rw [(hsub _ _ hx).2] at e;cases e
 refine ⟨hbo',by rw [A5 hqb];exact hq1,fun c x hc=>?_,sv,⟨fq,by rw [A5 hqb];unfold del;rw [if_neg hqo];exact hqs,hq0⟩,?_⟩
 ·by_cases hcb:c=bo'
  ·subst hcb;rw [A0] at hc ⊢;exact hc
  ·rw [A5 hcb] at hc ⊢
   obtain ⟨a,b⟩:=hsub c x hc
   unfold del;rw [if_neg a];exact b
 ·rcases h3 with h3 | ⟨b,l,n,a1,a2,a3,a4,a5,a6,⟨fe,hes,hef⟩,a8,a9⟩
  ·exact .inl h3
  ·have hbo:b≠bo:=fun e=>by subst e;rw [A0] at a2;cases a2
   have hb0:st0 b=none:=by rw [A5 hbo] at a2;exact a2
   have hbb:b≠bo':=fun e=>by
    subst e
    rcases hb with e | e
    ·exact hbo e
    ·rw [hes] at e;cases e
   exact .inr ⟨b,l,n,a1,by rw [A5 hbb];exact hb0,a3,a4,a5,a6,⟨fe,by rw [A5 hbb];unfold del;rw [if_neg hbo];exact hes,hef⟩,a8,a9⟩
theorem T8.begin {st0 st:St} {q bo:Nat} {f:Bool} {es:List QE} {y:H1} (h:T8 st0 q f es st) (hb:st bo=none):st0 bo=none∧T8 (upd st0 bo y) q f es (upd st bo y):=by
 obtain ⟨h1,h2,sv,⟨fq,hqs,hq0⟩,h3⟩:=h
 have hqb:q≠bo:=fun e=>by subst e;rw [hqs] at hb;cases hb
 refine ⟨h2.none hb,by rw [A5 hqb];exact h1,fun c x hc=>?_,sv,⟨fq,by rw [A5 hqb];exact hqs,hq0⟩,?_⟩
 ·by_cases hcb:c=bo
  ·subst hcb;rw [A0] at hc ⊢;exact hc
  ·rw [A5 hcb] at hc ⊢;exact h2 c x hc
 ·rcases h3 with h3 | ⟨b,l,n,a1,a2,a3,a4,a5,a6,⟨fe,hes,hef⟩,a8,a9⟩
  ·exact .inl h3
  ·have hbb:b≠bo:=fun e=>by subst e;rw [hes] at hb;cases hb
   exact .inr ⟨b,l,n,a1,by rw [A5 hbb];exact a2,a3,a4,a5,a6,⟨fe,by rw [A5 hbb];exact hes,hef⟩,a8,a9⟩
def Q5 (ty e:Nat) (fo:Nat→AV) (n:Nat) (st1:St) (q:Nat) (f:Bool) (es:List QE) (sv:AV) (st':St):Prop :=
 (n=0∧sv=.emp∧T8 st1 q f es st')∨(0<n∧∃ bo g,st1 bo=none∧sv=.own e bo 0 n∧(∀ k,k<n→g k=fo k)∧T8 (upd st1 bo ⟨ty,e,n,g⟩) q f es st')
theorem Q5.len_S {ty e:Nat} {fo:Nat→AV} {n:Nat} {st1:St} {q:Nat} {f:Bool} {es:List QE} {sv:AV} {st':St} (h:Q5 ty e fo n st1 q f es sv st') :
  S P 229 [.optr 1 q 0 0] st' fun v st''=>v=eI es.length∧st''=st':=by
 rcases h with ⟨_,_,h⟩ | ⟨_,bo,g,_,_,_,h⟩
 ·exact A5E _ _ _ _ _ h
 ·exact A5E _ _ _ _ _ h
theorem Q5.pop_S {ty e:Nat} {fo:Nat→AV} {n:Nat} {st1:St} {q:Nat} {f:Bool} {x:QE} {es:List QE} {sv:AV} {st':St} (h:Q5 ty e fo n st1 q f (x::es) sv st') (htop:∀ y∈es,D0 y x=false) :
  S P 230 [.optr 1 q 0 0] st' fun v st''=>v=.tuple [eI x.1,eI x.2,.bool true]∧Q5 ty e fo n st1 q false es sv st'':=by
 rcases h with ⟨h1,h2,h⟩ | ⟨h0,bo,g,h1,h2,h3,h⟩
 ·exact (A5F _ _ _ _ _ _ h htop).mono fun v s hv=>⟨hv.1,.inl ⟨h1,h2,hv.2⟩⟩
 ·exact (A5F _ _ _ _ _ _ h htop).mono fun v s hv=>⟨hv.1,.inr ⟨h0,bo,g,h1,h2,h3,hv.2⟩⟩
theorem Q5.app {T:C7} {t:TypeId} {x sv:AV} {st1 st':St} {k:KK} {r q:B5} {el n qq:Nat} {fl:Bool} {es:List QE} {f g:Nat→AV} (hr:T t=some r) (hd:r.desc=.slice el) (hq:T el=some q)
  (hz:(Nat.blt 0 q.size&&Nat.blt 0 q.bytes&&Nat.beq q.zero.cells.size q.size)=true) (hs:A0C q.size st' x=some (1,g)) (hg:g 0=f n) (hb:(n+1) * q.bytes≤140737488355328)
  (hc:Q5 el q.size f n st1 qq fl es sv st') (hk:∀ sv' st'',Q5 el q.size f (n+1) st1 qq fl es sv' st''→k sv' st''):A8a T t sv x st' k:=by
 rcases hc with ⟨rfl,rfl,h⟩ | ⟨h0,bo,y,h1,rfl,h4,h⟩
 ·refine apE hr hd hq hz hs (by omega) (fun h=>by omega) (fun _ b hb=>?_)
  obtain ⟨hb0,hn⟩:=h.begin (y:=⟨el,q.size,1,g⟩) hb
  have e0:∀ k,k<0+1→g k=f k:=fun k hk=>by
   have:k=0:=by omega
   rw [this];exact hg
  exact hk _ _ (.inr ⟨by omega,b,g,hb0,rfl,e0,hn⟩)
 ·have hby:st' bo=some ⟨el,q.size,n,y⟩:=h.sup bo _ (A0 ..)
  refine apO hr hd hq hz hs hby rfl rfl rfl hb (fun h=>by omega) (fun _ b' hb'=>?_)
  obtain ⟨hb0,hn⟩:=h.grow (y':=⟨el,q.size,n+1,fun i=>if i<n then y i else g (i - n)⟩) h1 hb'
  refine hk _ _ (.inr ⟨by omega,b',_,hb0,rfl,fun k hk=>?_,hn⟩)
  by_cases hkn:k<n
  ·simp only [hkn,if_true];exact h4 k hkn
  ·have:k=n:=by omega
   subst this
   simp only [hkn,D1x,Nat.sub_self];exact hg
theorem Q5.shift {ty e:Nat} {fo:Nat→AV} {n:Nat} {st1:St} {q:Nat} {f:Bool} {es:List QE} {sv:AV} {st':St} (h:Q5 ty e fo n st1 q f es sv st'):A4 [sv] st' [.arr e n fo] st1:=by
 rcases h with ⟨rfl,rfl,h⟩ | ⟨h0,bo,g,h1,rfl,h3,h⟩
 ·exact (h.sup.shift [.emp]).trans (I1 e fo)
 ·have h2:=K1 (st:=upd st1 bo ⟨ty,e,n,g⟩) (e:=e) (b:=bo) (n:=n) (f:=fo) (A0 ..) rfl (C9q _) h3
  rw [A3q h1] at h2
  exact (h.sup.shift [.own e bo 0 n]).trans h2
def T9 (codes:List C9) (p:A8):Bool:=Q3 p.code||codes.any fun c=>p.code.toList==c.toList
abbrev D2 (l:List A8) (x:Int):A8:=l.getD x.toNat default
def places (l:List A8) (codes:List C9) (i:Nat):List Int:=((List.range i).filter fun k=>T9 codes (l.getD k default)).map Int.ofNat
theorem A5X (l:List A8) (codes:List C9) (i:Nat):places l codes (i+1)=places l codes i++(if T9 codes (l.getD i default)=true then [(i:Int)] else []):=by
 unfold places
 rw [D1m,D1g,C9P]
 congr 1
 by_cases h:T9 codes (l.getD i default)=true
 ·rw [if_pos h,D0o (p:=fun k=>T9 codes (l.getD k default)) h];rfl
 ·rw [if_neg h,D0w (p:=fun k=>T9 codes (l.getD k default)) h];rfl
theorem V7 {l:List A8} {codes:List C9} {i:Nat} {x:Int} (h:x∈places l codes i):0≤x∧x.toNat<i:=by
 unfold places at h
 obtain ⟨k,hk,rfl⟩:=C9H.1 h
 have:=C9S.1 (D0C.1 hk).1
 show 0≤(k:Int)∧(k:Int).toNat<i
 omega
theorem A0x (l:List A8) (codes:List C9) (i:Nat):(places l codes i).length≤i:=by
 unfold places
 rw [C9o]
 exact D0l (D1B ..) (by simp)
def B9t (l:List A8) (x y:Int):Bool:=Y4 (D2 l x).id (D2 l y).id
theorem C2r (l:List A8):Ord (B9t l):=⟨fun x y h=>A5J h,fun x y z h1 h2=>A1z h1 h2⟩
theorem C0W (l:List A8) (x y:Int) (hx:0≤x∧x.toNat<l.length) (hy:0≤y∧y.toNat<l.length) (st:St) :
  S P 265 [eI x,eI y,.fptr (B0 15 B9 l) 0] st fun v st'=>v=eI (A5l (D2 l x).id (D2 l y).id)∧st'=st:=by
 refine F5 [] Tryz.func265 ?_
 refine ⟨[],[],[0,1,2,3,4,5,6,7,8,9,10,11],by kernel_rfl,?_⟩;conv=>whnf
 refine I8 ?_
 refine I8 ?_
 refine cqW (C0r (D2 l x).id (D2 l y).id _) ?_
 exact ⟨rfl,rfl⟩
theorem O2 {a b:List Int} {k:Nat} (h:k<a.length):gI (a++b) k=gI a k:=by
 unfold gI;rw [C9i,C9i,C9z h]
theorem A9C (a:List Int) (x:Int):gI (a++[x]) a.length=x:=by
 unfold gI;simp [C9i]
def A6l (l:List A8) (codes:List C9) (o:List Int):Prop:=o.Perm (places l codes l.length)∧Srt (B9t l) o 0 o.length
def A7F (l:List A8) (o:List Int) (k:Nat):QE:=((D2 l (gI o k)).prio,(k:Int))
def S7 (l:List A8) (o:List Int):List QE:=((List.range o.length).map (A7F l o)).mergeSort fun a b=>!D0 b a
theorem T5 (l:List A8) (o:List Int):(S7 l o).Perm ((List.range o.length).map (A7F l o)):=D1u ..
theorem A3J (l:List A8) (o:List Int):(S7 l o).Pairwise fun a b=>D0 b a=false:=by
 have:=D1o (le:=fun a b:QE=>!D0 b a) (fun a b c h1 h2=>by simp only [C9F] at *;exact Q2 h2 h1) (fun a b=>by
  cases h:D0 b a with
  | false=>rfl
  | true=>rw [P2 h];rfl) ((List.range o.length).map (A7F l o))
 exact this.imp (fun h=>by simpa using h)
theorem A2i {l:List A8} {o:List Int} {e:QE} (h:e∈S7 l o):0≤e.2∧e.2.toNat<o.length:=by
 obtain ⟨k,hk,rfl⟩:=C9H.1 ((T5 l o).subset h)
 have:=C9S.1 hk
 simp only [A7F];omega
theorem A2h (l:List A8) (o:List Int):(S7 l o).length=o.length:=by
 rw [(T5 l o).length_eq];simp
abbrev H5 (l:List A8) (o:List Int):List Int:=(S7 l o).map fun e=>gI o e.2.toNat
theorem Q5.sup {ty e:Nat} {fo:Nat→AV} {n:Nat} {st1:St} {q:Nat} {f:Bool} {es:List QE} {sv:AV} {st':St} (h:Q5 ty e fo n st1 q f es sv st'):E9 st1 st':=by
 rcases h with ⟨_,_,h⟩ | ⟨_,bo,g,h1,_,_,h⟩
 ·exact h.sup
 ·exact ((E9.refl st1).upd h1).trans h.sup
theorem B9K {N:Nat} (hN:A2P N) (l:List A8) (codes:List C9) (hl:l.length≤60) (hc:codes.length≤9223372036854775807) (h20:(places l codes l.length).length≤N) (st:St) :
  S P 227 [B0 15 B9 l,E3 codes] st fun v st'=>(∃ o:List Int,A6l l codes o∧v=B2 (H5 l o))∧st'=st:=by
 refine S.post (post:=fun v st'=>∃ (o:List Int) (st1:St) (q:Nat) (fl:Bool),A6l l codes o∧E9 st st1∧Q5 3 1 (fun k=>eI (gI (H5 l o) k)) (H5 l o).length st1 q fl [] v st') ?_
  (fun v st' ⟨o,st1,q,fl,ho,hs,hq⟩=>⟨B2 (H5 l o),st,⟨⟨o,ho,rfl⟩,rfl⟩,hq.shift.trans (hs.shift _)⟩)
 refine F5 [2,7] Tryz.func227 ?_
 refine ⟨[1,2,5,15,16,17],fun m vs st'=>∃ (i:Nat) (sv:AV),i≤l.length∧m=l.length - i∧vs=[E3 codes,.fptr (B0 15 B9 l) 0,sv,B0 15 B9 l,eI l.length,eI i]∧Col 3 1 (fun k=>eI (gI (places l codes i) k)) st (places l codes i).length sv st',?_,?_⟩
 ·conv=>whnf
  exact ⟨_,0,.emp,C9v _,rfl,rfl,Col.start _ _ _ _⟩
 ·rintro m vs st' ⟨i,sv,hi,rfl,rfl,hcol⟩
  conv=>whnf
  cases h:decide ((i:Int)<(l.length:Int))
  ·have:=C9k h
   obtain rfl:i=l.length:=by omega
   conv=>whnf
   have key:∀ K:KK,(∀ v st1 o,v=.tuple []→A6l l codes o→E9 st st1→((o=[]∧sv=.emp)∨∃ b,sv=.own 1 b 0 o.length∧A2I st1 b o∧0<o.length)→K v st1)→U8 P 264 [sv,.fn (.func 265) [] [.fptr (B0 15 B9 l) 0]] st' K:=fun K hK=>by
    rcases hcol with ⟨h0,rfl,rfl⟩ | ⟨h0,b,g,hb,rfl,rfl,hg⟩
    ·have hP:places l codes l.length=[]:=C9M h0
     refine call (A8q _ _) (fun v st1 hv=>?_)
     obtain ⟨rfl,rfl⟩:=hv
     exact hK _ _ [] rfl ⟨by rw [hP],fun x y _ _ h=>by simp at h⟩ (E9.refl _) (.inl ⟨rfl,rfl⟩)
    ·refine call (B0p hN b (places l codes l.length) _ _ (fun x y=>A5l (D2 l x).id (D2 l y).id) (B9t l) (fun x y=>A6X _ _) (C2r l) _ ⟨g,A0 ..,hg⟩ h20 (fun x hx y hy s=>C0W l x y (V7 hx) (V7 hy) s)) (fun v st1 hv=>?_)
     obtain ⟨rfl,l',hp,hs,hb',hfr⟩:=hv
     have hll:l'.length=(places l codes l.length).length:=hp.length_eq
     refine hK _ st1 l' rfl ⟨hp,by rw [hll];exact hs⟩ (fun c x hc=>?_) (.inr ⟨b,by rw [hll],hb',by omega⟩)
     have hne:c≠b:=fun e=>by subst e;rw [hb] at hc;cases hc
     rw [hfr c hne,A5 hne];exact hc
   refine key _ (fun v st1 o hv ho hsup hsv=>?_)
   subst hv
   clear key hcol
   have hmem:∀ k,k<o.length→0≤gI o k∧(gI o k).toNat<l.length:=fun k hk=>V7 (ho.1.subset (A7 hk))
   conv=>whnf
   refine call (A7D st1) (fun v st2 hv=>?_)
   obtain ⟨q,rfl,hq⟩:=hv
   conv=>whnf
   rcases hsv with ⟨rfl,rfl⟩ | ⟨b,rfl,⟨fb,hst,hfb⟩,hpos⟩
   ·conv=>whnf
    refine A8l [2,5,8,40,41,42] ?_;conv=>whnf
    intro I
    refine A8l [5,8,11] ?_;conv=>whnf
    intro I
    refine J0 (A5E _ _ _ _ _ hq) ?_
    exact ⟨[],st1,q,true,ho,hsup,.inl ⟨by rw [C9o,A2h];rfl,rfl,hq⟩⟩
   ·have hol:o.length≤60:=by rw [ho.1.length_eq];have:=A0x l codes l.length;omega
    conv=>whnf
    refine ⟨[2,5,8,40,41,42],fun m vs st'=>∃ i:Nat,i≤o.length∧m=o.length - i∧vs=[.fptr (B0 15 B9 l) 0,.own 1 b 0 o.length,.optr 1 q 0 0,.own 1 b 0 o.length,eI o.length,eI i]∧T8 st1 q true ((List.range i).map (A7F l o)) st',?_,?_⟩
    ·conv=>whnf
     exact ⟨_,0,C9v _,rfl,rfl,hq⟩
    ·clear hq
     rintro m vs st' ⟨i,hi,rfl,rfl,hq⟩
     have hst':=hq.sup b _ hst
     conv=>whnf
     cases h:decide ((i:Int)<(o.length:Int))
     ·have:=C9k h
      obtain rfl:i=o.length:=by omega
      conv=>whnf
      refine ⟨[5,8,11],fun m vs st'=>∃ (t:Nat) (sv:AV) (fl:Bool),t≤o.length∧m=o.length - t∧vs=[.own 1 b 0 o.length,.optr 1 q 0 0,sv]∧Q5 3 1 (fun k=>eI (gI (H5 l o) k)) t st1 q fl ((S7 l o).drop t) sv st',?_,?_⟩
      ·conv=>whnf
       exact ⟨_,0,.emp,true,C9v _,rfl,rfl,.inl ⟨rfl,rfl,hq.perm (T5 l o).symm⟩⟩
      ·rintro m vs st' ⟨t,sv,fl,ht,rfl,rfl,hout⟩
       have hst':=hout.sup b _ hst
       have hrl:=A2h l o
       conv=>whnf
       refine J0 (hout.len_S) ?_
       refine B7 (fun h1=>?_) (fun h1=>?_)<;>rw [h1]<;>simp only [C9n,C9m,D1M] at h1
       ·have htl:t<(S7 l o).length:=by omega
        have hsplit:(S7 l o).drop t=(S7 l o)[t]::(S7 l o).drop (t+1):=D1a htl
        have hsort:=A3J l o
        have htop:∀ y∈(S7 l o).drop (t+1),D0 y (S7 l o)[t]=false:=fun y hy=>by
         have:=hsort.sublist (D1G t _)
         rw [hsplit,D0F] at this
         exact this.1 y hy
        have hx:=A2i (D0t htl)
        have hres:gI (H5 l o) t=gI o ((S7 l o)[t]).2.toNat:=by
         unfold gI H5
         rw [C9i,D0y,C9p htl];rfl
        rw [hsplit] at hout
        generalize (S7 l o)[t]=x at *
        conv=>whnf
        refine call (hout.pop_S htop) (fun v st'' hv=>?_)
        obtain ⟨rfl,hout'⟩:=hv
        have hst'':=hout'.sup b _ hst
        conv=>whnf
        refine I8 ?_
        refine ldV hst'' rfl (by omega) (v:=eI (gI o x.2.toNat)) (by rw [C9y];exact hfb _ hx.2) ?_;conv=>whnf
        refine Q5.app (q:=r3) rfl rfl rfl rfl rfl (by simp only [hres];rfl) (by show (t+1) * 8≤140737488355328;omega) hout' (fun sv' st3 hout3=>?_);conv=>whnf
        refine I9 ?_
        exact ⟨o.length - (t+1),by omega,t+1,sv',false,by omega,rfl,rfl,hout3⟩
       ·have hte:t=o.length:=by omega
        subst hte;conv=>whnf
        refine ⟨o,st1,q,fl,ho,hsup,?_⟩
        rw [show (H5 l o).length=o.length by rw [C9o,hrl]]
        rw [show (S7 l o).drop o.length=[] by rw [←hrl,List.drop_length]] at hout
        exact hout
     ·have hi':i<o.length:=by have:=C9j h;omega
      have hm:=hmem i hi'
      conv=>whnf
      refine I8 ?_
      refine ldV hst' rfl (by omega) (v:=eI (gI o i)) (by rw [show 0+(i:Int).toNat=i by omega];exact hfb i hi') ?_;conv=>whnf
      refine I8 ?_
      refine call (A4O st1 q _ (D2 l (gI o i)).prio i _ hq (by rw [C9o,D0h];omega)) (fun v st'' hv=>?_)
      obtain ⟨rfl,hq'⟩:=hv
      conv=>whnf
      refine I9 ?_
      refine ⟨o.length - (i+1),by omega,i+1,by omega,rfl,by rw [C1 (by omega)],?_⟩
      rw [D1m,C9P];exact hq'
  ·have hi':i<l.length:=by have:=C9j h;omega
   have hpl:=A0x l codes i
   conv=>whnf
   refine I8 ?_
   have yes:T9 codes (l.getD (i:Int).toNat default)=true→∀ (K:KK),(∀ sv' st'',Col 3 1 (fun k=>eI (gI (places l codes (i+1)) k)) st (places l codes (i+1)).length sv' st''→K sv' st'')→A8a T 29 sv (.arr 1 1 fun k=>[AV.int .i64 (i:Int)].getD k .junk) st' K:=fun ha K hK=>by
    have es:=A5X l codes i
    rw [if_pos (show T9 codes (l.getD i default)=true from ha)] at es
    have el:(places l codes (i+1)).length=(places l codes i).length+1:=by rw [es];simp
    refine Col.app (q:=r3) rfl rfl rfl rfl rfl ?_ (by show ((places l codes i).length+1) * 8≤140737488355328;omega) (hcol.congr (f':=fun k=>eI (gI (places l codes (i+1)) k)) fun k hk=>by rw [es,O2 hk]) (fun sv' st'' hc'=>hK sv' st'' (by rw [el];exact hc'))
    rw [es,A9C];rfl
   have no:T9 codes (l.getD (i:Int).toNat default)=false→places l codes (i+1)=places l codes i:=fun ha=>by
    have es:=A5X l codes i
    rw [if_neg (show ¬ T9 codes (l.getD i default)=true by rw [show T9 codes (l.getD i default)=false from ha];simp),D1R] at es
    exact es
   have fin:∀ sv' st'',Col 3 1 (fun k=>eI (gI (places l codes (i+1)) k)) st (places l codes (i+1)).length sv' st''→∃ m',m'<l.length - i∧∃ (i_1:Nat) (sv:AV),i_1≤l.length∧m'=l.length - i_1∧[E3 codes,AV.fptr (B0 15 B9 l) 0,sv',B0 15 B9 l,eI l.length,eI (IntKind.i64.wrap ((i:Int)+1))]=[E3 codes,.fptr (B0 15 B9 l) 0,sv,B0 15 B9 l,eI l.length,eI i_1]∧Col 3 1 (fun k=>eI (gI (places l codes i_1) k)) st (places l codes i_1).length sv st'' :=
    fun sv' st'' hc'=>⟨l.length - (i+1),by omega,i+1,sv',by omega,rfl,by rw [C1 (by omega)],hc'⟩
   refine B7 (fun h1=>?_) (fun h1=>?_)
   ·have ha:T9 codes (l.getD (i:Int).toNat default)=true:=by unfold T9;rw [show Q3 (l.getD (i:Int).toNat default).code=true from h1,D0f]
    rw [h1];conv=>whnf
    refine yes ha _ (fun sv' st'' hc'=>?_);conv=>whnf
    refine I9 ?_
    exact fin _ _ hc'
   ·rw [h1];conv=>whnf
    refine J0 (B8s codes hc (l.getD (i:Int).toNat default).code _) ?_
    refine B7 (fun h2=>?_) (fun h2=>?_)
    ·have ha:T9 codes (l.getD (i:Int).toNat default)=true:=by unfold T9;rw [h2,D0d]
     rw [h2];conv=>whnf
     refine yes ha _ (fun sv' st'' hc'=>?_);conv=>whnf
     refine I9 ?_
     exact fin _ _ hc'
    ·have ha:T9 codes (l.getD (i:Int).toNat default)=false:=by unfold T9;rw [show Q3 (l.getD (i:Int).toNat default).code=false from h1,h2];rfl
     rw [h2];conv=>whnf
     refine I9 ?_
     exact fin _ _ (by rw [no ha];exact hcol)
theorem C2g (a b:Int) (ha:0≤a) (hb:0≤b) (hab:a+b≤100000000000000) (st:St):S P 307 [eI a,eI b] st fun v st'=>v=.tuple [eI (a+b),eI 0]∧st'=st:=by
 have ra:(decide (0≤a)&&decide (a≤100000000000000))=true:=by simp;omega
 have rb:(decide (0≤b)&&decide (b≤100000000000000))=true:=by simp;omega
 have w1:IntKind.i64.wrap (100000000000000 - b)=100000000000000 - b:=A6 (by omega) (by omega)
 have w2:IntKind.i64.wrap (a+b)=a+b:=A6 (by omega) (by omega)
 refine F5 [] Tryz.func307 ?_
 refine B6 (A3v a st) ?_
 rw [ra];conv=>whnf
 refine B6 (A3v b st) ?_
 rw [rb];conv=>whnf
 rw [w1]
 refine B7 (fun h=>?_) (fun h=>?_)<;>rw [h]<;>simp only [C9n,C9m] at h
 ·exact absurd h (by omega)
 ·conv=>whnf
  rw [w2]
  exact ⟨rfl,rfl⟩
def A3 (l:List Int):Int:=l.foldl (fun s x=>s+x) 0
theorem J2 {l:List Int} {i:Nat} (h:i<l.length):A3 (l.take (i+1))=A3 (l.take i)+gI l i:=K3 h _ _
theorem D1 (a b:List Int):A3 (a++b)=A3 a+A3 b:=by
 have:∀ (b:List Int) (s:Int),b.foldl (fun s x=>s+x) s=s+b.foldl (fun s x=>s+x) 0:=by
  intro b
  induction b with
  | nil=>intro s;simp
  | cons x b ih=>intro s;simp only [D0E];rw [ih (s+x),ih (0+x)];omega
 unfold A3
 rw [D1Y,this b]
theorem B8 {l:List Int} (h:∀ x∈l,0≤x):0≤A3 l:=by
 induction l with
 | nil=>exact C9R _
 | cons x l ih =>
  have:=D1 [x] l
  rw [D1n] at this
  have e:A3 [x]=x:=by simp [A3]
  rw [this,e]
  have:=ih (fun y hy=>h y (C9x _ hy))
  have:=h x (C9C ..)
  omega
theorem L6 {l:List Int} (h:∀ x∈l,0≤x) (i:Nat):A3 (l.take i)≤A3 l:=by
 have e:=D1 (l.take i) (l.drop i)
 rw [D1l] at e
 have:=B8 (l:=l.drop i) (fun x hx=>h x (List.drop_subset _ _ hx))
 omega
theorem I7 {l:List Int} (h:∀ x∈l,0≤x) {x:Int} (hx:x∈l):x≤A3 l:=by
 obtain ⟨i,hi,rfl⟩:=F2 hx
 have h1:=J2 hi
 have h2:=L6 h (i+1)
 have h3:=B8 (l:=l.take i) (fun x hx=>h x (D0m _ _ hx))
 have e:gI l i=l.getD i default:=rfl
 omega
structure M4 (total:Int) (ws:List Int):Prop where
 t0:0≤total
 t1:total≤100000000000000
 len:ws.length≤100000
 w0:∀ w∈ws,0≤w
 sum:A3 ws≤100000000000000
 none:A3 ws=0→total=0
theorem C1O (total:Int) (ws:List Int) (hW:M4 total ws) (st:St):S P 277 [eI total,B2 ws] st fun v st'=>v=.tuple [eI (A3 ws),eI 0]∧st'=st:=by
 have rt:(decide (0≤total)&&decide (total≤100000000000000))=true:=by simp;exact ⟨hW.t0,hW.t1⟩
 have hw:∀ w∈ws,w≤100000000000000:=fun w hw=>Int.le_trans (I7 hW.w0 hw) hW.sum
 have hl:=hW.len
 refine F5 [] Tryz.func277 ?_
 refine B6 (A3v total st) ?_
 rw [rt];conv=>whnf
 refine B7 (fun h=>?_) (fun h=>?_)<;>rw [h]<;>simp only [C9n,C9m] at h
 ·exact absurd h (by omega)
 conv=>whnf
 refine ⟨[0,1,20,21,22],fun m vs st'=>∃ i:Nat,i≤ws.length∧m=ws.length - i∧vs=[eI total,B2 ws,B2 ws,eI ws.length,eI i]∧st'=st,?_,?_⟩
 ·conv=>whnf
  exact ⟨_,0,C9v _,rfl,rfl,rfl⟩
 ·rintro m vs st' ⟨i,hi,rfl,rfl,rfl⟩
  conv=>whnf
  cases h1:decide ((i:Int)<(ws.length:Int))
  ·conv=>whnf
   refine ⟨[0,8,30,31,32],fun m vs st''=>∃ i:Nat,i≤ws.length∧m=ws.length - i∧vs=[eI total,eI (A3 (ws.take i)),B2 ws,eI ws.length,eI i]∧st''=st',?_,?_⟩
   ·conv=>whnf
    exact ⟨_,0,C9v _,rfl,rfl,rfl⟩
   ·rintro m vs st'' ⟨i,hi,rfl,rfl,rfl⟩
    conv=>whnf
    cases h2:decide ((i:Int)<(ws.length:Int))
    ·have:=C9k h2
     obtain rfl:i=ws.length:=by omega
     rw [C9u];conv=>whnf
     refine B7 (fun h3=>?_) (fun h3=>?_)<;>rw [h3]
     ·conv=>whnf
      have:total=0:=hW.none (by simpa using h3)
      rw [this];conv=>whnf
      exact ⟨rfl,rfl⟩
     ·conv=>whnf
      exact ⟨rfl,rfl⟩
    ·have hi':i<ws.length:=by have:=C9j h2;omega
     have h3:=J2 hi'
     have h4:=L6 hW.w0 (i+1)
     have h5:=B8 (l:=ws.take i) (fun x hx=>hW.w0 x (D0m _ _ hx))
     have h6:=hW.w0 _ (A7 hi')
     have h7:=hW.sum
     conv=>whnf
     refine I8 ?_
     refine J0 (C2g (A3 (ws.take i)) (gI ws i) h5 h6 (by omega) _) ?_
     refine I9 ?_
     exact ⟨ws.length - (i+1),by omega,i+1,by omega,rfl,by rw [C1 (by omega),h3],rfl⟩
  ·have hi':i<ws.length:=by have:=C9j h1;omega
   have hm:gI ws i∈ws:=A7 hi'
   have rw':(decide (0≤gI ws i)&&decide (gI ws i≤100000000000000))=true:=by simp only [C9l,C9n];exact ⟨hW.w0 _ hm,hw _ hm⟩
   conv=>whnf
   refine I8 ?_
   refine B6 (A3v (gI ws i) _) ?_
   rw [rw'];conv=>whnf
   refine I9 ?_
   exact ⟨ws.length - (i+1),by omega,i+1,by omega,rfl,by rw [C1 (by omega)],rfl⟩
theorem C1s (total w all:Int) (h0:0≤total) (h1:total≤100000000000000) (hw:0≤w) (hwa:w≤all) (ha:0<all) (ha':all≤100000000000000) (st:St):S P 278 [eI total,eI w,eI all] st fun v st'=>v=.tuple [eI (total * w / all),eI (total * w % all)]∧st'=st:=by
 have e1:IntKind.u64.wrap total=total:=B1 (by omega) (by omega)
 have e2:IntKind.u64.wrap w=w:=B1 (by omega) (by omega)
 have e3:IntKind.u64.wrap all=all:=B1 (by omega) (by omega)
 have hN:0≤total * w:=D0x h0 hw
 have hN':total * w≤100000000000000 * all:=D1U h1 hwa hw (by omega)
 have hq0:0≤total * w / all:=D0v hN (by omega)
 have hq1:total * w / all≤100000000000000:=by
  have:total * w / all<100000000000000+1:=(D0s ha).2 (by omega)
  omega
 have hr0:=D0k (total * w) (show all≠0 by omega)
 have hr1:=D0c (total * w) ha
 refine F5 [] Tryz.func278 ?_
 rw [e1,e2]
 refine J0 (B3T total w ⟨by omega,by omega⟩ ⟨by omega,by omega⟩ st) ?_
 rw [e3]
 have hN2:100000000000000 * all≤100000000000000 * 100000000000000:=by omega
 refine B6 (B3D _ _ all (by omega) (by omega) (by omega) (by omega) (by omega) st) ?_
 rw [show total * w / 18446744073709551616 * 18446744073709551616+total * w % 18446744073709551616=total * w by omega];conv=>whnf
 rw [A6 (x:=total * w / all) (by omega) (by omega),A6 (x:=total * w % all) (by omega) (by omega)]
 exact ⟨rfl,rfl⟩
def shQ (total S:Int) (ws:List Int) (k:Nat):Int:=total * gI ws k / S
def shE (total S:Int) (ws:List Int) (k:Nat):QE:=(total * gI ws k % S,(k:Int))
def shR (total S:Int) (ws:List Int):List QE:=((List.range ws.length).map (shE total S ws)).mergeSort fun a b=>!D0 b a
def N7 (qs:List Int) (R:List QE):List Int:=R.foldl (fun acc e=>acc.set e.2.toNat (gI acc e.2.toNat+1)) qs
def H8 (total S:Int) (ws:List Int) (i:Nat):Int:=total - A3 ((List.range i).map (shQ total S ws))
def C3 (total:Int) (ws:List Int):List Int :=
 if A3 ws=0 then ws.map fun _=>0
 else N7 ((List.range ws.length).map (shQ total (A3 ws) ws)) ((shR total (A3 ws) ws).take (H8 total (A3 ws) ws ws.length).toNat)
theorem A0A (total S:Int) (ws:List Int):(shR total S ws).Perm ((List.range ws.length).map (shE total S ws)):=D1u ..
theorem A7L (total S:Int) (ws:List Int):(shR total S ws).Pairwise fun a b=>D0 b a=false:=by
 have:=D1o (le:=fun a b:QE=>!D0 b a) (fun a b c h1 h2=>by simp only [C9F] at *;exact Q2 h2 h1) (fun a b=>by
  cases h:D0 b a with
  | false=>rfl
  | true=>rw [P2 h];rfl) ((List.range ws.length).map (shE total S ws))
 exact this.imp (fun h=>by simpa using h)
theorem B0i (total S:Int) (ws:List Int):(shR total S ws).length=ws.length:=by
 rw [(A0A total S ws).length_eq];simp
theorem B0j {total S:Int} {ws:List Int} {e:QE} (h:e∈shR total S ws):0≤e.2∧e.2.toNat<ws.length:=by
 obtain ⟨k,hk,rfl⟩:=C9H.1 ((A0A total S ws).subset h)
 have:=C9S.1 hk
 simp only [shE];omega
theorem A1Q (qs:List Int) (R:List QE):(N7 qs R).length=qs.length:=by
 unfold N7
 induction R generalizing qs with
 | nil=>rfl
 | cons e R ih=>simp only [D0E];rw [ih];simp
theorem B0Q (qs:List Int) (R:List QE) (e:QE):N7 qs (R++[e])=(N7 qs R).set e.2.toNat (gI (N7 qs R) e.2.toNat+1):=by
 unfold N7;rw [D1Y];rfl
theorem H9 (f:Nat→Int) (n:Nat):A3 ((List.range (n+1)).map f)=A3 ((List.range n).map f)+f n:=by
 rw [D1m,C9P,D1];simp [A3]
theorem A6z (total S:Int) (hS:0<S) (ws:List Int):∀ i,i≤ws.length→S * A3 ((List.range i).map (shQ total S ws))+A3 ((List.range i).map fun k=>total * gI ws k % S)=total * A3 (ws.take i)
 | 0,_=>by simp [A3]
 | i+1,h=>by
  have ih:=A6z total S hS ws i (by omega)
  rw [H9,H9,J2 (by omega),D1e,D1e,←ih]
  have:=D0b (total * gI ws i) S
  unfold shQ
  omega
theorem A4g (total S:Int) (hS:0<S) (ws:List Int):∀ i,0≤A3 ((List.range i).map fun k=>total * gI ws k % S)∧A3 ((List.range i).map fun k=>total * gI ws k % S)≤i * (S - 1)
 | 0=>by simp [A3]
 | i+1=>by
  have ih:=A4g total S hS ws i
  rw [H9]
  have h1:=D0k (total * gI ws i) (show S≠0 by omega)
  have h2:=D0c (total * gI ws i) hS
  have h3:((i+1:Nat):Int) * (S - 1)=(i:Int) * (S - 1)+(S - 1):=by
   rw [show ((i+1:Nat):Int)=(i:Int)+1 by omega,D1t,Int.one_mul]
  omega
theorem A2a {total:Int} {ws:List Int} (h:M4 total ws) (hS:0<A3 ws):0≤H8 total (A3 ws) ws ws.length∧H8 total (A3 ws) ws ws.length≤ws.length:=by
 have e:=A6z total (A3 ws) hS ws ws.length (C9q _)
 have b:=A4g total (A3 ws) hS ws ws.length
 rw [C9u] at e
 have hk:A3 ws * H8 total (A3 ws) ws ws.length=A3 ((List.range ws.length).map fun k=>total * gI ws k % A3 ws):=by
  unfold H8
  rw [Int.mul_sub,D1f (A3 ws) total];omega
 constructor
 ·refine Int.le_of_not_gt fun hlt=>?_
  have:A3 ws * H8 total (A3 ws) ws ws.length<0:=Int.mul_neg_of_pos_of_neg hS hlt
  omega
 ·refine Int.le_of_not_gt fun hgt=>?_
  have h1:A3 ws * ((ws.length:Int)+1)≤A3 ws * H8 total (A3 ws) ws ws.length:=C9N (by omega) (by omega)
  have h2:(ws.length:Int) * (A3 ws - 1)≤A3 ws * (ws.length:Int):=by
   rw [Int.mul_sub,D1K,D1f];omega
  rw [D1e,D1K] at h1
  omega
theorem A5I {total:Int} {ws:List Int} (h:M4 total ws) (hS:0<A3 ws) {k:Nat} (hk:k<ws.length):0≤shQ total (A3 ws) ws k∧shQ total (A3 ws) ws k≤total:=by
 have hw:=h.w0 _ (A7 hk)
 have hle:=I7 h.w0 (A7 hk)
 refine ⟨D0v (D0x h.t0 hw) (by omega),?_⟩
 have h1:total * gI ws k≤total * A3 ws:=C9N hle h.t0
 have:shQ total (A3 ws) ws k<total+1:=(D0s hS).2 (by rw [D1t,Int.one_mul];omega)
 omega
theorem A7W {total:Int} {ws:List Int} (h:M4 total ws) (hS:0<A3 ws) {i:Nat} (hi:i≤ws.length):0≤A3 ((List.range i).map (shQ total (A3 ws) ws))∧A3 ((List.range i).map (shQ total (A3 ws) ws))≤total:=by
 have e:=A6z total (A3 ws) hS ws i hi
 have b:=A4g total (A3 ws) hS ws i
 have t:=L6 h.w0 i
 constructor
 ·exact B8 fun x hx=>by
   obtain ⟨k,hk,rfl⟩:=C9H.1 hx
   exact (A5I h hS (by have:=C9S.1 hk;omega)).1
 ·have h1:total * A3 (ws.take i)≤total * A3 ws:=C9N t h.t0
  refine Int.le_of_not_gt fun hgt=>?_
  have:A3 ws * (total+1)≤A3 ws * A3 ((List.range i).map (shQ total (A3 ws) ws)):=C9N (by omega) (by omega)
  rw [D1e,D1K,D1f] at this
  omega
theorem A4A (qs:List Int) (R:List QE) (k:Nat):gI qs k≤gI (N7 qs R) k∧gI (N7 qs R) k≤gI qs k+R.length:=by
 unfold N7
 induction R generalizing qs with
 | nil=>simp
 | cons e R ih =>
  simp only [D0E,C9G]
  have h:=ih (qs.set e.2.toNat (gI qs e.2.toNat+1))
  have hs:gI qs k≤gI (qs.set e.2.toNat (gI qs e.2.toNat+1)) k∧gI (qs.set e.2.toNat (gI qs e.2.toNat+1)) k≤gI qs k+1:=by
   unfold gI
   simp only [C9i,D0O]
   by_cases e1:e.2.toNat=k
   ·subst e1
    by_cases e2:e.2.toNat<qs.length
    ·simp [e2];omega
    ·simp [e2]
   ·rw [if_neg e1];omega
  omega
theorem Q0 (f:Nat→Int) {n k:Nat} (hk:k<n):gI ((List.range n).map f) k=f k:=by
 unfold gI;simp [C9i,hk]
theorem C1f {l:List Int} {j:Nat} (hj:j<l.length) (x:Int) (k:Nat):gI (l.set j x) k=if k=j then x else gI l k:=by
 unfold gI
 simp only [C9i,D0O]
 by_cases h:k=j
 ·subst h;simp [hj]
 ·rw [if_neg (fun e=>h e.symm),if_neg h]
theorem A5x (total:Int) (ws:List Int) (h:M4 total ws) (st:St):S P 238 [eI total,B2 ws] st fun v st'=>v=.tuple [B2 (C3 total ws),eI 0]∧st'=st:=by
 have hlen:=h.len
 refine S.post (post:=fun v st'=>∃ (bo:Nat) (f:Nat→AV),st bo=none∧v=.tuple [.own 1 bo 0 ws.length,eI 0]∧E9 (upd st bo ⟨2,1,ws.length,f⟩) st'∧(C3 total ws).length=ws.length∧∀ k,k<ws.length→f k=eI (gI (C3 total ws) k)) ?_
  (fun v st' ⟨bo,f,h0,hv,hs,hl,hf⟩=>⟨_,st,⟨rfl,rfl⟩,by
   rw [hv]
   refine A4.tuple (A4.cons ((hs.shift _).trans ?_) (A4.keep _ _)) rfl
   have h2:=K1 (st:=upd st bo ⟨2,1,ws.length,f⟩) (e:=1) (b:=bo) (n:=ws.length) (f:=fun k=>eI (gI (C3 total ws) k)) (A0 ..) rfl (C9q _) hf
   rw [A3q h0] at h2
   have e:B2 (C3 total ws)=.arr 1 ws.length (fun k=>eI (gI (C3 total ws) k)):=by unfold B2 B0;rw [hl]
   rw [e];exact h2⟩)
 refine F5 [] Tryz.func238 ?_
 refine J0 (C1O total ws h st) ?_
 refine mkO rfl rfl rfl (by show 8 * ws.length≤_;omega) (by omega) (by rfl) (fun bo hbo=>?_);conv=>whnf
 refine B7 (fun h1=>?_) (fun h1=>?_)<;>rw [h1]
 ·have h0:A3 ws=0:=by simpa using h1
  have hB:C3 total ws=ws.map fun _=>0:=if_pos h0
  conv=>whnf
  refine ⟨bo,_,hbo,rfl,E9.refl _,by rw [hB,C9o],fun k hk=>?_⟩
  rw [hB]
  show AV.int .i64 0=_
  rw [show gI (ws.map fun _=>(0:Int)) k=0 from F7 (fun _=>(0:Int)) ws hk]
 have hS:0<A3 ws:=by
  have h2:=B8 h.w0
  have h3:A3 ws≠0:=by simpa using h1
  omega
 have hB:C3 total ws=N7 ((List.range ws.length).map (shQ total (A3 ws) ws)) ((shR total (A3 ws) ws).take (H8 total (A3 ws) ws ws.length).toNat):=if_neg (by omega)
 have hsum:=h.sum
 have ht0:=h.t0
 have ht1:=h.t1
 conv=>whnf
 refine call (A7D _) (fun v st2 hv=>?_)
 obtain ⟨q,rfl,hq⟩:=hv
 conv=>whnf
 refine ⟨[0,6,8,9,10,35,36,37],fun m vs st'=>∃ (i:Nat) (f:Nat→AV),i≤ws.length∧m=ws.length - i∧vs=[eI total,eI (A3 ws),.own 1 bo 0 ws.length,eI (H8 total (A3 ws) ws i),.optr 1 q 0 0,B2 ws,eI ws.length,eI i] ∧
  (∀ k,k<i→f k=eI (shQ total (A3 ws) ws k))∧(∀ k,i≤k→f k=.int .i64 0)∧T8 (upd st bo ⟨2,1,ws.length,f⟩) q true ((List.range i).map (shE total (A3 ws) ws)) st',?_,?_⟩
 ·conv=>whnf
  exact ⟨_,0,fun _=>.int .i64 0,C9v _,rfl,(by simp [H8,A3];rfl),fun k hk=>absurd hk (by omega),fun _ _=>rfl,hq⟩
 ·clear hq
  rintro m vs st' ⟨i,f,hi,rfl,rfl,hf1,hf2,hq⟩
  conv=>whnf
  cases h2:decide ((i:Int)<(ws.length:Int))
  ·have:=C9k h2
   obtain rfl:i=ws.length:=by omega
   obtain ⟨l0,l1⟩:=A2a h hS
   conv=>whnf
   refine ⟨[8,10,61,62],fun m vs st'=>∃ (t:Nat) (f:Nat→AV) (fl:Bool),(t:Int)≤H8 total (A3 ws) ws ws.length∧m=(H8 total (A3 ws) ws ws.length).toNat - t∧vs=[.own 1 bo 0 ws.length,.optr 1 q 0 0,eI (H8 total (A3 ws) ws ws.length),eI t] ∧
    (∀ k,k<ws.length→f k=eI (gI (N7 ((List.range ws.length).map (shQ total (A3 ws) ws)) ((shR total (A3 ws) ws).take t)) k))∧T8 (upd st bo ⟨2,1,ws.length,f⟩) q fl ((shR total (A3 ws) ws).drop t) st',?_,?_⟩
   ·conv=>whnf
    exact ⟨_,0,f,true,by omega,rfl,rfl,fun k hk=>by rw [hf1 k hk,D1q];show _=eI (gI ((List.range ws.length).map _) k);rw [Q0 _ hk],hq.perm (A0A total (A3 ws) ws).symm⟩
   ·clear hf1 hf2 hq f
    rintro m vs st' ⟨t,f,fl,ht,rfl,rfl,hf,hq⟩
    have hrl:=B0i total (A3 ws) ws
    have hby:st' bo=some ⟨2,1,ws.length,f⟩:=hq.sup bo _ (A0 ..)
    conv=>whnf
    cases h3:decide ((t:Int)<H8 total (A3 ws) ws ws.length)
    ·have h3':=C9k h3
     have hte:(H8 total (A3 ws) ws ws.length).toNat=t:=by omega
     conv=>whnf
     refine ⟨bo,f,hbo,rfl,hq.sup,by rw [hB,A1Q];simp,fun k hk=>by rw [hB,hte];exact hf k hk⟩
    ·have h3':=C9j h3
     have htl:t<(shR total (A3 ws) ws).length:=by omega
     have hsplit:(shR total (A3 ws) ws).drop t=(shR total (A3 ws) ws)[t]::(shR total (A3 ws) ws).drop (t+1):=D1a htl
     have htop:∀ y∈(shR total (A3 ws) ws).drop (t+1),D0 y (shR total (A3 ws) ws)[t]=false:=fun y hy=>by
      have:=(A7L total (A3 ws) ws).sublist (D1G t _)
      rw [hsplit,D0F] at this
      exact this.1 y hy
     have hx:=B0j (D0t htl)
     have htake:(shR total (A3 ws) ws).take (t+1)=(shR total (A3 ws) ws).take t++[(shR total (A3 ws) ws)[t]]:=D0T htl
     rw [hsplit] at hq
     generalize (shR total (A3 ws) ws)[t]=x at *
     have hb1:=A4A ((List.range ws.length).map (shQ total (A3 ws) ws)) ((shR total (A3 ws) ws).take t) x.2.toNat
     have hb2:=A5I h hS hx.2
     rw [Q0 _ hx.2,C9D] at hb1;conv=>whnf
     refine call (A5F _ _ _ _ _ _ hq htop) (fun v st'' hv=>?_)
     obtain ⟨rfl,hq'⟩:=hv
     have hby':st'' bo=some ⟨2,1,ws.length,f⟩:=hq'.sup bo _ (A0 ..)
     conv=>whnf
     refine I8 ?_
     refine ldV hby' rfl (by omega) (v:=eI (gI (N7 ((List.range ws.length).map (shQ total (A3 ws) ws)) ((shR total (A3 ws) ws).take t)) x.2.toNat)) (by rw [C9y];exact hf _ hx.2) ?_;conv=>whnf
     refine I8 ?_
     refine stV hby' rfl (by omega) (v:=eI (gI (N7 ((List.range ws.length).map (shQ total (A3 ws) ws)) ((shR total (A3 ws) ws).take t)) x.2.toNat)) (by rw [C9y];exact hf _ hx.2) (by rfl) ?_;conv=>whnf
     refine I9 ?_
     have hg:=hq'.grow (bo':=bo) (y':=⟨2,1,ws.length,G8 f (0+x.2.toNat) (eI (IntKind.i64.wrap (gI (N7 ((List.range ws.length).map (shQ total (A3 ws) ws)) ((shR total (A3 ws) ws).take t)) x.2.toNat+1)))⟩) hbo (.inl rfl)
     rw [A6G] at hg
     refine ⟨(H8 total (A3 ws) ws ws.length).toNat - (t+1),by omega,t+1,_,false,by omega,rfl,by rw [C1 (by omega)],fun k hk=>?_,hg.2⟩
     rw [htake,B0Q,C1f (by rw [A1Q];simpa using hx.2),C9y]
     by_cases e1:k=x.2.toNat
     ·rw [if_pos e1,e1,B4,A6 (by omega) (by omega)]
     ·rw [if_neg e1,J1 e1];exact hf k hk
  ·have hi':i<ws.length:=by have:=C9j h2;omega
   have hm:gI ws i∈ws:=A7 hi'
   have hby:st' bo=some ⟨2,1,ws.length,f⟩:=hq.sup bo _ (A0 ..)
   have hqb:=A7W h hS (show i≤ws.length by omega)
   have hqb':=A7W h hS (show i+1≤ws.length by omega)
   have hsr:=H9 (shQ total (A3 ws) ws) i
   conv=>whnf
   refine I8 ?_
   refine J0 (C1s total (gI ws i) (A3 ws) h.t0 h.t1 (h.w0 _ hm) (I7 h.w0 hm) hS h.sum _) ?_
   refine I8 ?_
   refine stV hby rfl (by omega) (v:=.int .i64 0) (by rw [show 0+(i:Int).toNat=i by omega];exact hf2 i (C9q _)) (by rfl) ?_
   conv=>whnf
   have hg:=hq.grow (bo':=bo) (y':=⟨2,1,ws.length,G8 f (0+(i:Int).toNat) (eI (shQ total (A3 ws) ws i))⟩) hbo (.inl rfl)
   rw [A6G] at hg
   refine call (A4O _ q _ (total * gI ws i % A3 ws) i _ hg.2 (by rw [C9o,D0h];omega)) (fun v st'' hv=>?_)
   obtain ⟨rfl,hq'⟩:=hv
   conv=>whnf
   refine I9 ?_
   refine ⟨ws.length - (i+1),by omega,i+1,G8 f (0+(i:Int).toNat) (eI (shQ total (A3 ws) ws i)),by omega,rfl,?_,fun k hk=>?_,fun k hk=>?_,?_⟩
   ·rw [C1 (by omega)]
    have e:IntKind.i64.wrap (H8 total (A3 ws) ws i - total * gI ws i / A3 ws)=H8 total (A3 ws) ws (i+1):=by
     unfold H8
     have:total * gI ws i / A3 ws=shQ total (A3 ws) ws i:=rfl
     rw [this,A6 (by omega) (by omega)];omega
    rw [e]
   ·by_cases e1:k=i
    ·subst e1;rw [show 0+(k:Int).toNat=k by omega,B4]
    ·rw [J1 (by omega)];exact hf1 k (by omega)
   ·rw [J1 (by omega)];exact hf2 k (by omega)
   ·rw [D1m,C9P];exact hq'
abbrev C5 (l:List A9):AV:=B0 3 Z1 l
abbrev gU (l:List A9) (k:Nat):A9:=l.getD k default
abbrev C6 (us:List A9):List Int:=us.map A9.net
structure C4 (us:List A9):Prop where
 len:us.length≤100000
 pos:∀ u∈us,0≤u.net
 sum:A3 (C6 us)≤10000000000000
structure L2 (us:List A9) (mine:List Int):Prop where
 rng:∀ k,k<mine.length→0≤gI mine k∧(gI mine k).toNat<us.length
 opn:∀ k,k<mine.length→(gU us (gI mine k).toNat).opn=true
 inc:∀ k,k+1<mine.length→gI mine k<gI mine (k+1)
theorem C4.nets0 {us:List A9} (h:C4 us):∀ x∈C6 us,0≤x:=fun x hx=>by
 obtain ⟨u,hu,rfl⟩:=C9H.1 hx
 exact h.pos u hu
theorem C4.le {us:List A9} (h:C4 us) {u:A9} (hu:u∈us):u.net≤10000000000000:=by
 have:=I7 h.nets0 (D1X (f:=A9.net) hu)
 have:=h.sum
 omega
theorem L2.lt {us:List A9} {mine:List Int} (h:L2 us mine):∀ j k,j<k→k<mine.length→gI mine j<gI mine k:=fun j k hjk hk=>by
 induction k with
 | zero=>omega
 | succ k ih =>
  rcases D0D j k with hlt | hge
  ·exact Int.lt_trans (ih hlt (by omega)) (h.inc k hk)
  ·have:j=k:=by omega
   subst this;exact h.inc j hk
theorem L2.len {us:List A9} {mine:List Int} (h:L2 us mine):mine.length≤us.length:=by
 have:∀ k,k<mine.length→(k:Int)≤gI mine k:=fun k=>by
  induction k with
  | zero=>intro hk;exact (h.rng 0 hk).1
  | succ k ih=>intro hk;have:=ih (by omega);have:=h.inc k hk;omega
 rcases D0K mine.length with e | e
 ·omega
 ·have h1:=this (mine.length - 1) (by omega)
  have h2:=(h.rng (mine.length - 1) (by omega)).2
  omega
theorem C1m (us:List A9) (h:C4 us) (st:St):S P 313 [C5 us] st fun v st'=>v=.bool true∧st'=st:=by
 have hlen:=h.len
 refine F5 [5] Tryz.func313 ?_
 refine B7 (fun h1=>?_) (fun h1=>?_)<;>rw [h1]<;>simp only [C9n,C9m] at h1
 ·exact absurd h1 (by omega)
 conv=>whnf
 refine ⟨[3,9,10,11],fun m vs st'=>∃ i:Nat,i≤us.length∧m=us.length - i∧vs=[eI (A3 ((C6 us).take i)),C5 us,eI us.length,eI i]∧st'=st,?_,?_⟩
 ·conv=>whnf
  exact ⟨_,0,C9v _,rfl,rfl,rfl⟩
 ·rintro m vs st' ⟨i,hi,rfl,rfl,rfl⟩
  conv=>whnf
  cases h2:decide ((i:Int)<(us.length:Int))
  ·have:=C9k h2
   obtain rfl:i=us.length:=by omega
   have hs:=h.sum
   rw [show (C6 us).take us.length=C6 us from by rw [←C9o (f:=A9.net),C9u]];conv=>whnf
   refine ⟨?_,rfl⟩
   show AV.bool (decide _)=_
   rw [D0r hs]
  ·have hi':i<us.length:=by have:=C9j h2;omega
   have hu:gU us i∈us:=A7 hi'
   have p0:=h.pos _ hu
   have p1:=h.le hu
   have hsum:=h.sum
   have e1:=J2 (l:=C6 us) (i:=i) (by rw [C9o];exact hi')
   have e2:=L6 h.nets0 (i+1)
   have e3:=B8 (l:=(C6 us).take i) (fun x hx=>h.nets0 x (D0m _ _ hx))
   have e4:gI (C6 us) i=(gU us i).net:=F7 A9.net us hi'
   have w:IntKind.i64.wrap (A3 ((C6 us).take i)+(gU us i).net)=A3 ((C6 us).take (i+1)):=by rw [e1,e4];exact A6 (by omega) (by omega)
   conv=>whnf
   refine I8 ?_
   refine B7 (fun h3=>?_) (fun h3=>?_)<;>rw [h3]
   ·exact absurd (C9j h3) (by show ¬(gU us i).net<0;omega)
   conv=>whnf
   refine B7 (fun h4=>?_) (fun h4=>?_)<;>rw [h4]
   ·exact absurd (C9j h4) (by show ¬(gU us i).net>10000000000000;omega)
   conv=>whnf
   refine I9 ?_
   exact ⟨us.length - (i+1),by omega,i+1,by omega,rfl,by rw [C1 (by omega),←w];rfl,rfl⟩
theorem A6Y (us:List A9) (mine:List Int) (h:C4 us) (hm:L2 us mine) (st:St):S P 294 [C5 us,B2 mine] st fun v st'=>v=.bool true∧st'=st:=by
 have hlen:=h.len
 have hml:=hm.len
 refine F5 [] Tryz.func294 ?_
 refine J0 (C1m us h st) ?_
 refine ⟨[0,5,11,12,13],fun m vs st'=>∃ i:Nat,i≤mine.length∧m=mine.length - i∧vs=[C5 us,eI (if i=0 then -1 else gI mine (i - 1)),B2 mine,eI mine.length,eI i]∧st'=st,?_,?_⟩
 ·conv=>whnf
  exact ⟨_,0,C9v _,rfl,rfl,rfl⟩
 ·rintro m vs st' ⟨i,hi,rfl,rfl,rfl⟩
  conv=>whnf
  cases h2:decide ((i:Int)<(mine.length:Int))
  ·conv=>whnf
   exact ⟨rfl,rfl⟩
  ·have hi':i<mine.length:=by have:=C9j h2;omega
   have hr:=hm.rng i hi'
   have ho:=hm.opn i hi'
   have hlast:(if i=0 then -1 else gI mine (i - 1))<gI mine i:=by
    split
    ·omega
    ·exact hm.lt (i - 1) i (by omega) hi'
   conv=>whnf
   refine I8 ?_
   refine B7 (fun h3=>?_) (fun h3=>?_)<;>rw [h3]
   ·exact absurd (C9j h3) (by show ¬ gI mine i≤_;omega)
   conv=>whnf
   refine B7 (fun h4=>?_) (fun h4=>?_)<;>rw [h4]
   ·exact absurd (C9j h4) (by show ¬ gI mine i≥(us.length:Int);omega)
   conv=>whnf
   refine ⟨rfl,⟨by show 0≤gI mine i;omega,by show gI mine i<(us.length:Int);omega⟩,?_⟩;conv=>whnf
   rw [show (us.getD (mine.getD (i:Int).toNat default).toNat default).opn=true from ho];conv=>whnf
   refine I9 ?_
   exact ⟨mine.length - (i+1),by omega,i+1,by omega,rfl,by rw [C1 (by omega),if_neg (show ¬ i+1=0 by omega)];rfl,rfl⟩
def K0 (x rate:Int):Int:=(if 0≤rate∧rate≤10000 then N6 x rate 10000 1 else (0,2)).1
theorem S4 (x rate:Int):0≤K0 x rate∧K0 x rate≤100000000000000:=by
 unfold K0
 split
 ·unfold N6
  split
  ·exact ⟨C9R _,by decide⟩
  ·rename_i hb
   rw [D1r] at hb
   simp only [K4,C9l,C9n,D1S,ne_eq] at hb
   have hq:0≤x * rate / 10000:=D0v (D0x hb.1.1.1.1.1.1 hb.1.1.1.1.2.1) (by omega)
   split
   ·exact ⟨C9R _,by decide⟩
   ·split
    ·exact ⟨C9R _,by decide⟩
    ·rename_i h1 h2
     refine ⟨?_,Int.le_of_not_gt h2⟩
     show 0≤K5 (x * rate / 10000) (x * rate % 10000) 10000 1
     unfold K5
     repeat' split
     all_goals omega
 ·exact ⟨C9R _,by decide⟩
def Q8 (x rate amount:Int):Int:=if x<K0 x rate+amount then x else K0 x rate+amount
theorem C0v (x rate amount:Int) (h0:0≤amount) (h1:amount≤10000000000000) (st:St):S P 316 [eI x,eI rate,eI amount] st fun v st'=>v=eI (Q8 x rate amount)∧st'=st:=by
 refine F5 [] Tryz.func316 ?_
 refine B6 (B0a x rate 1 st) ?_
 have hb:=S4 x rate
 have w:IntKind.i64.wrap (K0 x rate+amount)=K0 x rate+amount:=A6 (by omega) (by omega)
 conv=>whnf
 refine ⟨?_,rfl⟩
 show AV.int .i64 (if x<IntKind.i64.wrap (K0 x rate+amount) then x else IntKind.i64.wrap (K0 x rate+amount))=_
 rw [w];rfl
theorem S6 {x rate amount:Int} (hx:0≤x) (h0:0≤amount):0≤Q8 x rate amount∧Q8 x rate amount≤x:=by
 have:=S4 x rate
 unfold Q8
 split<;>omega
def B0Z (p:A8) (nets:List Int):AV:=.agg [eS p.id,eI p.kind,eI p.prio,eS p.group,eS p.code,eB p.closes,E3 p.scope.skus,E3 p.scope.cats,eI p.least,eI p.rate,eI p.amount,eI p.buy,eI p.get,B0 3 A2t p.parts,B0 3 A2u p.tiers,B2 nets]
theorem B2n (p:A8) (nets:List Int) (rate amount:Int) (h0:0≤amount) (h1:amount≤10000000000000) (hl:nets.length≤100000) (st:St):S P 314 [B0Z p nets,eI rate,eI amount] st fun v st'=>v=B2 (nets.map fun x=>Q8 x rate amount)∧st'=st:=by
 have he:B2 (nets.map fun x=>Q8 x rate amount)=.arr 1 nets.length (fun k=>eI (gI (nets.map fun x=>Q8 x rate amount) k)):=by unfold B2 B0;rw [C9o]
 rw [he]
 refine B6t (ty:=2) ?_
 refine F5 [3] Tryz.func314 ?_
 refine ⟨[1,2,7,11,12,13],fun m vs st'=>∃ (i:Nat) (sv:AV),i≤nets.length∧m=nets.length - i∧vs=[eI rate,eI amount,sv,B2 nets,eI nets.length,eI i]∧Col 2 1 (fun k=>eI (gI (nets.map fun x=>Q8 x rate amount) k)) st i sv st',?_,?_⟩
 ·conv=>whnf
  exact ⟨_,0,.emp,C9v _,rfl,rfl,Col.start _ _ _ _⟩
 ·rintro m vs st' ⟨i,sv,hi,rfl,rfl,hc⟩
  conv=>whnf
  cases h:decide ((i:Int)<(nets.length:Int))
  ·have:=C9k h
   obtain rfl:i=nets.length:=by omega
   conv=>whnf
   exact hc
  ·have hi':i<nets.length:=by have:=C9j h;omega
   conv=>whnf
   refine I8 ?_
   refine J0 (C0v (gI nets i) rate amount h0 h1 _) ?_
   refine Col.app (q:=r2) rfl rfl rfl rfl rfl ?_ (by show (i+1) * 8≤140737488355328;omega) hc (fun sv' st'' hc'=>?_)
   ·rw [show gI (nets.map fun x=>Q8 x rate amount) i=Q8 (gI nets i) rate amount from F7 (fun x=>Q8 x rate amount) nets hi'];rfl
   conv=>whnf
   refine I9 ?_
   exact ⟨nets.length - (i+1),by omega,i+1,sv',by omega,rfl,by rw [C1 (by omega)],hc'⟩
def B4b (p:A8) (nets:List Int):List Int:=nets.map fun x=>Q8 x p.rate 0
def B4a (p:A8) (nets:List Int):List Int:=nets.map fun x=>Q8 x 0 p.amount
theorem B5k (p:A8) (nets:List Int) (hl:nets.length≤100000) (st:St):S P 298 [B0Z p nets] st fun v st'=>v=B2 (B4b p nets)∧st'=st:=by
 refine F5 [1] Tryz.func298 ?_
 refine J0 (B2n p nets p.rate 0 (by omega) (by omega) hl st) ?_
 exact ⟨rfl,rfl⟩
theorem B6C (p:A8) (nets:List Int) (h0:0≤p.amount) (h1:p.amount≤10000000000000) (hl:nets.length≤100000) (st:St):S P 299 [B0Z p nets] st fun v st'=>v=B2 (B4a p nets)∧st'=st:=by
 refine F5 [1] Tryz.func299 ?_
 refine J0 (B2n p nets 0 p.amount h0 h1 hl st) ?_
 exact ⟨rfl,rfl⟩
def N1 (l:List A4t) (x:Int):Option A4t:=l.reverse.find? fun t=>decide (t.least≤x)
theorem A1W {α : Type} [Inhabited α] {l:List α} {k:Nat} (hk:k<l.length):l.reverse.getD k default=l.getD (l.length - 1 - k) default:=by
 rw [C9i,C9i,List.getElem?_reverse hk]
theorem B0c {l:List A4t} {x:Int} {i:Nat} (hi:i<l.length) (h:∀ k,i<k→k<l.length→decide ((l.getD k default).least≤x)=false) (hp:decide ((l.getD i default).least≤x)=true):N1 l x=some (l.getD i default):=by
 have e:l.getD i default=l.reverse.getD (l.length - 1 - i) default:=by
  rw [A1W (by omega),show l.length - 1 - (l.length - 1 - i)=i by omega]
 rw [e] at hp ⊢
 exact A5p (by rw [List.length_reverse];omega) (fun k hk=>by rw [A1W (by omega)];exact h _ (by omega) (by omega)) hp
theorem B0b {l:List A4t} {x:Int} (h:∀ k,k<l.length→decide ((l.getD k default).least≤x)=false):N1 l x=none :=
 A8H fun k hk=>by rw [List.length_reverse] at hk;rw [A1W hk];exact h _ (by omega)
theorem A8X (l:List A4t) (x:Int) (hl:l.length≤100000) (st:St):S P 315 [B0 3 A2u l,eI x] st fun v st'=>v=.tuple [A2u ((N1 l x).getD default),.bool (N1 l x).isSome]∧st'=st:=by
 refine A1k ?_
 refine F5 [] Tryz.func315 ?_
 intro b hb;conv=>whnf
 have w0:IntKind.i64.wrap ((l.length:Int) - 1)=(l.length:Int) - 1:=A6 (by omega) (by omega)
 refine ⟨[0,1,4,6],fun m vs st'=>∃ (i:Int) (f:Nat→AV) (u:A4t),-1≤i∧i<l.length∧(∀ k:Nat,i<k→k<l.length→decide ((l.getD k default).least≤x)=false)∧m=(i+1).toNat∧vs=[B0 3 A2u l,eI x,.optr 3 b 0 0,eI i]∧st'=upd st b ⟨300,3,1,f⟩∧f 0=A2u u,?_,?_⟩
 ·conv=>whnf
  exact ⟨_,(l.length:Int) - 1,_,default,by omega,by omega,fun k h1 h2=>by omega,rfl,by rw [w0],rfl,rfl⟩
 ·rintro m vs st' ⟨i,f,u,h0,hi,hno,rfl,rfl,rfl,hf⟩
  conv=>whnf
  cases h:decide (i≥0)
  ·have:=C9k h
   have hr:N1 l x=none:=B0b fun k hk=>hno k (by omega) hk
   conv=>whnf
   refine stW (A0 ..) hf ?_
   refine K9 (A0 ..) (B4 ..) ?_
   refine ⟨by rw [hr];rfl,((E9.refl st).upd hb).over hb⟩
  ·have hi0:=C9j h
   conv=>whnf
   refine I8 ?_
   refine B7 (fun h1=>?_) (fun h1=>?_)
   ·have hr:N1 l x=some (l.getD i.toNat default):=B0c (by omega) (fun k h2 h3=>hno k (by omega) h3) h1
    rw [h1];conv=>whnf
    refine I8 ?_
    refine stW (A0 ..) hf ?_
    refine K9 (A0 ..) (B4 ..) ?_
    refine ⟨by rw [hr];rfl,((E9.refl st).upd hb).over hb⟩
   ·have w:IntKind.i64.wrap (i - 1)=i - 1:=A6 (by omega) (by omega)
    rw [h1];conv=>whnf
    refine I9 ?_
    refine ⟨i.toNat,by omega,i - 1,f,u,by omega,by omega,fun k h2 h3=>?_,by omega,by rw [w],rfl,hf⟩
    rcases (by omega:k=i.toNat∨i<k) with e | e
    ·rw [e];exact h1
    ·exact hno k e h3
def A4u (l:List A4t):Prop:=l.length≤6∧∀ t∈l,0≤t.amount∧t.amount≤10000000000000
theorem V8 {l:List A4t} (h:A4u l) (x:Int):0≤((N1 l x).getD default).amount∧((N1 l x).getD default).amount≤10000000000000:=by
 cases hr:N1 l x with
 | none=>exact ⟨C9R _,by decide⟩
 | some t =>
  have:t∈l:=List.mem_reverse.1 (D1E hr)
  exact h.2 t this
def A2X (p:A8) (nets:List Int):List Int:=match N1 p.tiers nets.length with
 | none=>[]
 | some t=>nets.map fun x=>Q8 x t.rate t.amount
def A2Y (p:A8) (nets:List Int):List Int:=match N1 p.tiers (A3 nets) with
 | none=>[]
 | some t=>C3 (Q8 (A3 nets) t.rate t.amount) nets
theorem B9b (p:A8) (nets:List Int) (ht:A4u p.tiers) (hl:nets.length≤100000) (st:St):S P 301 [B0Z p nets] st fun v st'=>v=B2 (A2X p nets)∧st'=st:=by
 refine S.post (post:=fun v st'=>(v=B2 (A2X p nets)∨(A2X p nets=[]∧v=.emp))∧E9 st st') ?_ (fun v st' ⟨h,hs⟩=>⟨_,st,⟨rfl,rfl⟩,(hs.shift _).trans (by
  rcases h with rfl | ⟨h0,rfl⟩
  ·exact A4.keep _ _
  ·rw [h0];exact I1 1 _)⟩)
 have htl:=ht.1
 refine F5 [1] Tryz.func301 ?_
 refine J0 (A8X p.tiers nets.length (by omega) st) ?_
 intro b hb;conv=>whnf
 refine stW (A0 ..) rfl ?_
 have hsup:∀ x y:H1,E9 st (upd (upd st b x) b y):=fun x y=>((E9.refl st).upd hb).over hb
 have hok:=V8 ht nets.length
 cases hr:N1 p.tiers nets.length with
 | none =>
  have hB:A2X p nets=[]:=by unfold A2X;rw [hr]
  conv=>whnf
  exact ⟨.inr ⟨hB,rfl⟩,hsup _ _⟩
 | some t =>
  have hB:A2X p nets=nets.map fun x=>Q8 x t.rate t.amount:=by unfold A2X;rw [hr]
  rw [hr] at hok;conv=>whnf
  refine ldV (A0 ..) rfl (by omega) (v:=A2u t) (by rw [B4];rfl) ?_;conv=>whnf
  refine ldV (A0 ..) rfl (by omega) (v:=A2u t) (by rw [B4];rfl) ?_;conv=>whnf
  refine J0 (B2n p nets t.rate t.amount hok.1 hok.2 hl _) ?_
  exact ⟨.inl (by rw [hB];rfl),hsup _ _⟩
theorem C0c (p:A8) (nets:List Int) (ht:A4u p.tiers) (hl:nets.length≤100000) (h0:∀ x∈nets,0≤x) (hs:A3 nets≤10000000000000) (st:St):S P 300 [B0Z p nets] st fun v st'=>v=B2 (A2Y p nets)∧st'=st:=by
 refine S.post (post:=fun v st'=>(v=B2 (A2Y p nets)∨(A2Y p nets=[]∧v=.emp))∧E9 st st') ?_ (fun v st' ⟨h,hs⟩=>⟨_,st,⟨rfl,rfl⟩,(hs.shift _).trans (by
  rcases h with rfl | ⟨h0,rfl⟩
  ·exact A4.keep _ _
  ·rw [h0];exact I1 1 _)⟩)
 have htl:=ht.1
 have hsn:=B8 h0
 refine F5 [1] Tryz.func300 ?_
 refine ⟨[1,3,11,12,13],fun m vs st'=>∃ i:Nat,i≤nets.length∧m=nets.length - i∧vs=[.fptr (B0Z p nets) 0,eI (A3 (nets.take i)),B2 nets,eI nets.length,eI i]∧st'=st,?_,?_⟩
 ·conv=>whnf
  exact ⟨_,0,C9v _,rfl,rfl,rfl⟩
 ·rintro m vs st' ⟨i,hi,rfl,rfl,rfl⟩
  conv=>whnf
  cases h:decide ((i:Int)<(nets.length:Int))
  ·have:=C9k h
   obtain rfl:i=nets.length:=by omega
   rw [C9u];conv=>whnf
   refine J0 (A8X p.tiers (A3 nets) (by omega) _) ?_
   intro b hb;conv=>whnf
   refine stW (A0 ..) rfl ?_
   have hsup:∀ x y:H1,E9 st' (upd (upd st' b x) b y):=fun x y=>((E9.refl st').upd hb).over hb
   have hok:=V8 ht (A3 nets)
   cases hr:N1 p.tiers (A3 nets) with
   | none =>
    have hB:A2Y p nets=[]:=by unfold A2Y;rw [hr]
    conv=>whnf
    exact ⟨.inr ⟨hB,rfl⟩,hsup _ _⟩
   | some t =>
    have hB:A2Y p nets=C3 (Q8 (A3 nets) t.rate t.amount) nets:=by unfold A2Y;rw [hr]
    rw [hr] at hok
    have hob:0≤Q8 (A3 nets) t.rate t.amount∧Q8 (A3 nets) t.rate t.amount≤A3 nets:=S6 hsn hok.1
    have hW:M4 (Q8 (A3 nets) t.rate t.amount) nets:=⟨hob.1,by omega,hl,h0,by omega,fun e=>by omega⟩
    conv=>whnf
    refine ⟨[],[],[0,1,2,3,4,5,6,7,8,9,10,11,12,13],by kernel_rfl,?_⟩;conv=>whnf
    refine ldV (A0 ..) rfl (by omega) (v:=A2u t) (by rw [B4];rfl) ?_;conv=>whnf
    refine ldV (A0 ..) rfl (by omega) (v:=A2u t) (by rw [B4];rfl) ?_;conv=>whnf
    refine cqW (C0v (A3 nets) t.rate t.amount hok.1 hok.2 _) ?_
    refine cqW (A5x _ nets hW _) ?_
    exact ⟨.inl (by rw [hB];rfl),hsup _ _⟩
  ·have hi':i<nets.length:=by have:=C9j h;omega
   have e1:=J2 hi'
   have e2:=L6 h0 (i+1)
   have e3:=B8 (l:=nets.take i) (fun x hx=>h0 x (D0m _ _ hx))
   have e4:0≤gI nets i:=h0 _ (A7 hi')
   have w:IntKind.i64.wrap (A3 (nets.take i)+gI nets i)=A3 (nets.take (i+1)):=by rw [e1];exact A6 (by omega) (by omega)
   conv=>whnf
   refine I8 ?_
   refine I9 ?_
   exact ⟨nets.length - (i+1),by omega,i+1,by omega,rfl,by rw [C1 (by omega),←w];rfl,rfl⟩
def A2J (st:St) (b:Nat) (us:List A9):Prop:=∃ f,st b=some ⟨223,3,us.length,f⟩∧∀ k,k<us.length→f k=Z1 (gU us k)
theorem A5r {us:List A9} {j:Nat} (hj:j<us.length) (x:A9) (k:Nat):gU (us.set j x) k=if k=j then x else gU us k:=by
 unfold gU
 simp only [C9i,D0O]
 by_cases h:k=j
 ·subst h;simp [hj]
 ·rw [if_neg (fun e=>h e.symm),if_neg h]
def close1 (us:List A9) (i:Nat):List A9:=us.set i { gU us i with opn:=false }
def closeB (us:List A9) (mine:List Int):List A9:=mine.foldl (fun us i=>close1 us i.toNat) us
theorem A1R (us:List A9) (mine:List Int):(closeB us mine).length=us.length:=by
 unfold closeB
 induction mine generalizing us with
 | nil=>rfl
 | cons x l ih=>simp only [D0E];rw [ih];simp [close1]
theorem A2J.set {st':St} {b:Nat} {us:List A9} {f:Nat→AV} (hf:∀ k,k<us.length→f k=Z1 (gU us k)) {j:Nat} (hj:j<us.length) (x:A9) (h:st' b=some ⟨223,3,us.length,G8 f j (Z1 x)⟩):A2J st' b (us.set j x):=by
 refine ⟨_,by rw [h,D0p],fun k hk=>?_⟩
 rw [D0p] at hk
 rw [A5r hj]
 by_cases e:k=j
 ·rw [if_pos e,e,B4]
 ·rw [if_neg e,J1 e];exact hf k hk
theorem A9x (b:Nat) (us:List A9) (mine:List Int) (hm:∀ x∈mine,0≤x∧x.toNat<us.length) (hl:mine.length≤1000000) (st:St) (hb:A2J st b us) :
  S P 297 [.own 3 b 0 us.length,B2 mine] st fun v st'=>v=.tuple []∧A2J st' b (closeB us mine)∧∀ c,c≠b→st' c=st c:=by
 refine F5 [] Tryz.func297 ?_
 refine ⟨[0,6,7,8],fun m vs st'=>∃ i:Nat,i≤mine.length∧m=mine.length - i∧vs=[.own 3 b 0 us.length,B2 mine,eI mine.length,eI i]∧A2J st' b (closeB us (mine.take i))∧∀ c,c≠b→st' c=st c,?_,?_⟩
 ·conv=>whnf
  exact ⟨_,0,C9v _,rfl,rfl,hb,fun _ _=>rfl⟩
 ·rintro m vs st' ⟨i,hi,rfl,rfl,⟨f,hst,hf⟩,hfr⟩
  have hlen:=A1R us (mine.take i)
  conv=>whnf
  cases h:decide ((i:Int)<(mine.length:Int))
  ·have:=C9k h
   obtain rfl:i=mine.length:=by omega
   rw [C9u] at hst hf;conv=>whnf
   exact ⟨rfl,⟨f,hst,hf⟩,hfr⟩
  ·have hi':i<mine.length:=by have:=C9j h;omega
   have hx:0≤gI mine i∧(gI mine i).toNat<us.length:=hm _ (A7 hi')
   conv=>whnf
   refine I8 ?_
   refine ⟨rfl,⟨by show 0≤gI mine i;exact hx.1,by show gI mine i<(us.length:Int);have:=hx.2;have:=hx.1;omega⟩,?_⟩;conv=>whnf
   refine stV hst rfl (by show 0+(gI mine i).toNat<_;have:=hx.2;omega) (v:=Z1 (gU (closeB us (mine.take i)) (gI mine i).toNat)) (by rw [C9y];exact hf _ (show (gI mine i).toNat<(closeB us (mine.take i)).length by have:=hx.2;omega)) (by rfl) ?_;conv=>whnf
   refine I9 ?_
   refine ⟨mine.length - (i+1),by omega,i+1,by omega,rfl,by rw [C1 (by omega)],?_,fun c hc=>by rw [A5 hc];exact hfr c hc⟩
   have e:closeB us (mine.take (i+1))=close1 (closeB us (mine.take i)) (gI mine i).toNat:=K3 hi' _ _
   rw [e]
   refine A2J.set hf (by have:=hx.2;omega) _ ?_
   rw [A0,C9y];rfl
theorem A6W (us:List A9) (hl:us.length≤100000) (st:St):S P 293 [C5 us] st fun v st'=>Col 223 3 (fun k=>Z1 (gU us k)) st us.length v st':=by
 refine SyW [] Tryz.func293 ?_
 cases us with
 | nil =>
  conv=>whnf
  refine ⟨?_,?_⟩
  ·conv=>whnf
   exact Col.start _ _ _ _
  ·conv=>whnf
   refine apE rfl rfl rfl rfl rfl (by show 0 * 24≤_;omega) (fun _=>?_) (fun h=>absurd h (by show ¬ 0<0;omega));conv=>whnf
   exact Col.start _ _ _ _
 | cons u us =>
  conv=>whnf
  refine Col.apps (n:=0) (m:=us.length+1) (q:=C1y) (f:=fun k=>Z1 (gU (u::us) k)) rfl rfl rfl rfl rfl (fun i hi=>by rw [C9y]) (by show (0+(us.length+1)) * 24≤140737488355328;simp only [C9G] at hl;omega) (Col.start _ _ _ _) (fun sv' st'' hc'=>?_);conv=>whnf
  rw [C9y] at hc'
  exact hc'
theorem A4.agg {a b:List AV} {st st':St} (h:A4 a st b st'):A4 [.agg a] st [.agg b] st':=A4.one fun w c hS hr=>by
 cases hr with
 | agg cs vs hlen hg =>
  obtain ⟨h1,h2,h3⟩:=h w vs hS ⟨hlen,hg⟩
  exact ⟨h1,h3,.agg _ _ h2.1 h2.2⟩
theorem A4.last {v v':AV} {s t:St} (h:A4 [v] s [v'] t):∀ cs:List AV,A4 (cs++[v]) s (cs++[v']) t
 | []=>h
 | x::cs=>A4.cons (A4.keep [x] s) (A4.last h cs)
def A2N (st:St) (us:List A9) (sv:AV) (st':St):Prop:=E9 st st'∧((us=[]∧sv=.emp)∨∃ b,st b=none∧sv=.own 3 b 0 us.length∧A2J st' b us)
theorem A2N.shift {st:St} {us:List A9} {sv:AV} {st':St} (h:A2N st us sv st'):A4 [sv] st' [C5 us] st:=by
 obtain ⟨hs,⟨rfl,rfl⟩ | ⟨b,hb,rfl,f,hst,hf⟩⟩:=h
 ·exact (hs.shift _).trans (I1 3 _)
 ·have hsup:E9 (upd st b ⟨223,3,us.length,f⟩) st':=fun c x hc=>by
   by_cases e:c=b
   ·subst e;rw [A0] at hc;rw [hst];exact hc
   ·rw [A5 e] at hc;exact hs c x hc
  have h2:=K1 (st:=upd st b ⟨223,3,us.length,f⟩) (e:=3) (b:=b) (n:=us.length) (f:=fun k=>Z1 (gU us k)) (A0 ..) rfl (C9q _) hf
  rw [A3q hb] at h2
  exact (hsup.shift _).trans h2
theorem A2N.ofCol {st:St} {us:List A9} {sv:AV} {st':St} (h:Col 223 3 (fun k=>Z1 (gU us k)) st us.length sv st'):A2N st us sv st':=by
 rcases h with ⟨h0,rfl,rfl⟩ | ⟨h0,b,g,hb,rfl,rfl,hg⟩
 ·exact ⟨E9.refl _,.inl ⟨C9M h0,rfl⟩⟩
 ·exact ⟨(E9.refl st).upd hb,.inr ⟨b,hb,rfl,g,A0 ..,hg⟩⟩
def G9 (us:List A9) (mine:List Int):List Int:=mine.map fun i=>(gU us i.toNat).net
def N0 (p:A8) (nets:List Int):List Int:=if p.kind=1 then B4b p nets else if p.kind=2 then B4a p nets else if p.kind=5 then A2Y p nets else A2X p nets
def less1 (us:List A9) (i:Nat) (x:Int):List A9:=us.set i { gU us i with net:=(gU us i).net - x }
def D8 (us:List A9) (mine offs:List Int):Nat→List A9
 | 0=>us
 | k+1=>less1 (D8 us mine offs k) (gI mine k).toNat (gI offs k)
def A0q (p:A8) (us:List A9) (mine:List Int):List A9×Int :=
 let offs:=N0 p (G9 us mine)
 let us1:=D8 us mine offs offs.length
 (if (decide (A3 offs>0)&&p.closes)=true then closeB us1 mine else us1,A3 offs)
theorem L7 (us:List A9) (mine offs:List Int) (k:Nat):(D8 us mine offs k).length=us.length:=by
 induction k with
 | zero=>rfl
 | succ k ih=>unfold D8 less1;rw [D0p,ih]
theorem A6d {us:List A9} {mine offs:List Int} (hm:L2 us mine):∀ k,k≤mine.length→∀ j,j<us.length→(∀ i,i<k→j≠(gI mine i).toNat)→gU (D8 us mine offs k) j=gU us j
 | 0,_,j,hj,_=>rfl
 | k+1,hk,j,hj,hne=>by
  have ih:=A6d (offs:=offs) hm k (by omega) j hj (fun i hi=>hne i (by omega))
  unfold D8 less1
  rw [A5r (by rw [L7];exact (hm.rng k (by omega)).2),if_neg (hne k (by omega))]
  exact ih
theorem B3i {us:List A9} {mine offs:List Int} (hm:L2 us mine) {k:Nat} (hk:k<mine.length):gU (D8 us mine offs k) (gI mine k).toNat=gU us (gI mine k).toNat :=
 A6d hm k (by omega) _ (hm.rng k hk).2 fun i hi=>by
  have h1:=hm.lt i k hi hk
  have h2:=(hm.rng i (by omega)).1
  omega
theorem B1M {l:List Int} {j:Nat} (hj:j<l.length) (x:Int):A3 (l.set j x)=A3 l - gI l j+x:=by
 have e1:l.set j x=l.take j++x::l.drop (j+1):=List.set_eq_take_append_cons_drop (l:=l) (i:=j) (a:=x) |>.trans (by rw [if_pos hj])
 have e2:l=l.take j++gI l j::l.drop (j+1):=by
  have:gI l j=l[j]:=by simp [gI,hj]
  rw [this,←D1a hj,D1l]
 have c1:∀ (y:Int) (r:List Int),A3 (y::r)=y+A3 r:=fun y r=>by
  have:=D1 [y] r
  rw [D1n] at this
  rw [this];simp [A3]
 have h2:A3 l=A3 (l.take j)+(gI l j+A3 (l.drop (j+1))):=by
  conv=>lhs;rw [e2]
  rw [D1,c1]
 rw [e1,D1,c1,h2];omega
theorem B2g {qs:List Int} {R:List QE} (h:∀ e∈R,e.2.toNat<qs.length):A3 (N7 qs R)=A3 qs+R.length:=by
 unfold N7
 induction R generalizing qs with
 | nil=>simp
 | cons e R ih =>
  simp only [D0E,C9G]
  have he:=h e (C9C ..)
  rw [ih (fun x hx=>by rw [D0p];exact h x (C9x _ hx)),B1M he]
  omega
theorem P1 {total:Int} {ws:List Int} (h:M4 total ws):A3 (C3 total ws)=total∧(C3 total ws).length=ws.length∧∀ x∈C3 total ws,0≤x:=by
 unfold C3
 split
 ·rename_i h0
  have ht:=h.none h0
  refine ⟨?_,by simp,fun x hx=>?_⟩
  ·rw [ht]
   have:∀ l:List Int,A3 (l.map fun _=>(0:Int))=0:=fun l=>by
    induction l with
    | nil=>rfl
    | cons x l ih =>
     have:=D1 [(0:Int)] (l.map fun _=>(0:Int))
     rw [D1n] at this
     rw [D0j,this,ih];rfl
   exact this ws
  ·obtain ⟨_,_,rfl⟩:=C9H.1 hx;exact C9R _
 ·rename_i h0
  have hS:0<A3 ws:=by have:=B8 h.w0;omega
  obtain ⟨l0,l1⟩:=A2a h hS
  have hR:=B0i total (A3 ws) ws
  have hmem:∀ e∈(shR total (A3 ws) ws).take (H8 total (A3 ws) ws ws.length).toNat,e.2.toNat<((List.range ws.length).map (shQ total (A3 ws) ws)).length:=fun e he=>by
   rw [C9o,D0h];exact (B0j (D0m _ _ he)).2
  refine ⟨?_,by rw [A1Q];simp,fun x hx=>?_⟩
  ·rw [B2g hmem,C9D]
   unfold H8 at *
   omega
  ·obtain ⟨k,hk,rfl⟩:=F2 hx
   rw [A1Q,C9o,D0h] at hk
   have hb:=(A4A ((List.range ws.length).map (shQ total (A3 ws) ws)) ((shR total (A3 ws) ws).take (H8 total (A3 ws) ws ws.length).toNat) k).1
   have hq:=(A5I h hS hk).1
   rw [Q0 _ hk] at hb
   show 0≤gI _ k
   omega
theorem A4k {l:List Int} {f:Int→Int} (h:∀ x∈l,0≤f x∧f x≤x):A3 (l.map f)≤A3 l∧∀ y∈l.map f,0≤y:=by
 have c1:∀ (y:Int) (r:List Int),A3 (y::r)=y+A3 r:=fun y r=>by
  have:=D1 [y] r
  rw [D1n] at this
  rw [this];simp [A3]
 refine ⟨?_,fun y hy=>by obtain ⟨x,hx,rfl⟩:=C9H.1 hy;exact (h x hx).1⟩
 induction l with
 | nil=>exact C9R _
 | cons x l ih =>
  rw [D0j,c1,c1]
  have:=ih (fun y hy=>h y (C9x _ hy))
  have:=(h x (C9C ..)).2
  omega
structure A5N (p:A8):Prop where
 fit:K2 p
 right:I6 p=true
 kind:p.kind=1∨p.kind=2∨p.kind=5∨p.kind=6
 tiers:p.kind=5∨p.kind=6→A4u p.tiers
 amount:p.kind=2→0≤p.amount∧p.amount≤10000000000000
theorem A4c {p:A8} (hp:A5N p) {nets:List Int} (h0:∀ x∈nets,0≤x) (hs:A3 nets≤10000000000000) (hl:nets.length≤100000) :
  A3 (N0 p nets)≤A3 nets∧(N0 p nets).length≤nets.length∧∀ y∈N0 p nets,0≤y:=by
 have hn:=B8 h0
 rcases hp.kind with e | e | e | e
 ·have:N0 p nets=B4b p nets:=by unfold N0;rw [if_pos e]
  rw [this]
  have h:=A4k (l:=nets) (f:=fun x=>Q8 x p.rate 0) (fun x hx=>S6 (h0 x hx) (by omega))
  exact ⟨h.1,by simp [B4b],h.2⟩
 ·have:N0 p nets=B4a p nets:=by unfold N0;rw [if_neg (by omega),if_pos e]
  rw [this]
  have h:=A4k (l:=nets) (f:=fun x=>Q8 x 0 p.amount) (fun x hx=>S6 (h0 x hx) (hp.amount e).1)
  exact ⟨h.1,by simp [B4a],h.2⟩
 ·have:N0 p nets=A2Y p nets:=by unfold N0;rw [if_neg (by omega),if_neg (by omega),if_pos e]
  rw [this]
  have hok:=V8 (hp.tiers (.inl e)) (A3 nets)
  unfold A2Y
  split
  ·exact ⟨hn,by simp,fun y hy=>by cases hy⟩
  ·rename_i t hr
   rw [hr] at hok
   have hob:0≤Q8 (A3 nets) t.rate t.amount∧Q8 (A3 nets) t.rate t.amount≤A3 nets:=S6 hn hok.1
   have hW:M4 (Q8 (A3 nets) t.rate t.amount) nets:=⟨hob.1,by omega,hl,h0,by omega,fun e=>by omega⟩
   obtain ⟨a,b,c⟩:=P1 hW
   exact ⟨by rw [a];exact hob.2,by omega,c⟩
 ·have:N0 p nets=A2X p nets:=by unfold N0;rw [if_neg (by omega),if_neg (by omega),if_neg (by omega)]
  rw [this]
  have hok:=V8 (hp.tiers (.inr e)) nets.length
  unfold A2X
  split
  ·exact ⟨hn,by simp,fun y hy=>by cases hy⟩
  ·rename_i t hr
   rw [hr] at hok
   have h:=A4k (l:=nets) (f:=fun x=>Q8 x t.rate t.amount) (fun x hx=>S6 (h0 x hx) hok.1)
   exact ⟨h.1,by simp,h.2⟩
end Go.Proofs.YtaapofnkmpiknaaGreat
