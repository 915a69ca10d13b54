/- Part 21 of the proof: contracts of the functions that the law reaches -/
import Derived.Test.YtbajhapmlfbelaaGreatQf20
set_option maxRecDepth 100000
set_option linter.unusedVariables false
set_option linter.unusedSimpArgs false
namespace Go.Proofs.YtbajhapmlfbelaaGreat
open Go Go.Ab
attribute [local irreducible] upd del
abbrev gI (l:List Int) (k:Nat):Int:=l.getD k default
def swI (l:List Int) (i j:Nat):List Int:=(l.set i (gI l j)).set j (gI l i)
theorem A6e (l:List Int) (i j:Nat):(swI l i j).length=l.length:=by simp [swI]
theorem A6O {l:List Int} {i j:Nat} (hi:i<l.length) (hj:j<l.length) (k:Nat):gI (swI l i j) k=if k=j then gI l i else if k=i then gI l j else gI l k:=by
 unfold swI gI
 simp only [List.getD_eq_getElem?_getD,List.getElem?_set,List.length_set]
 by_cases h1:k=j
 ·subst h1;simp [hj]
 ·rw [if_neg (fun e=>h1 e.symm),if_neg h1]
  by_cases h2:k=i
  ·subst h2;simp [hi]
  ·rw [if_neg (fun e=>h2 e.symm),if_neg h2]
theorem A7O {l:List Int} {i j:Nat} (hi:i<l.length) (hj:j<l.length):(swI l i j).Perm l:=by
 have e1:gI l j=l[j]:=by simp [gI,hj]
 have e2:gI l i=l[i]:=by simp [gI,hi]
 unfold swI
 rw [e1,e2]
 exact List.set_set_perm hi hj
def A0o (st:St) (b:Nat) (l:List Int):Prop:=∃ f,st b=some ⟨3,1,l.length,f⟩∧∀ k,k<l.length→f k=eI (gI l k)
structure Ord (lt:Int→Int→Bool):Prop where
 asymm:∀ x y,lt x y=true→lt y x=false
 le:∀ x y z,lt y x=false→lt z y=false→lt z x=false
theorem Ord.irrefl {lt:Int→Int→Bool} (h:Ord lt) (x:Int):lt x x=false:=by
 cases e:lt x x with
 | false=>rfl
 | true=>have:=h.asymm x x e;rw [e] at this;cases this
def Srt (lt:Int→Int→Bool) (l:List Int) (a e:Nat):Prop:=∀ x y,a≤x→x<y→y<e→lt (gI l y) (gI l x)=false
structure Ins (lt:Int→Int→Bool) (l:List Int) (a e j:Nat):Prop where
 rest:∀ x y,a≤x→x<y→y<e→x≠j→y≠j→lt (gI l y) (gI l x)=false
 up:∀ y,j<y→y<e→lt (gI l y) (gI l j)=false
theorem Srt.ins {lt:Int→Int→Bool} {l:List Int} {a i:Nat} (h:Srt lt l a i):Ins lt l a (i+1) i :=
 ⟨fun x y hx hxy hy h1 h2=>h x y hx hxy (by omega),fun y h1 h2=>by omega⟩
theorem Ins.done {lt:Int→Int→Bool} (ho:Ord lt) {l:List Int} {a e j:Nat} (h:Ins lt l a e j) (hj:j≤a∨lt (gI l j) (gI l (j - 1))=false):Srt lt l a e:=fun x y hx hxy hy=>by
 by_cases h1:x=j
 ·subst h1;exact h.up y hxy hy
 ·by_cases h2:y=j
  ·subst h2
   rcases hj with hj | hj
   ·omega
   ·by_cases h3:x=y - 1
    ·subst h3;exact hj
    ·exact ho.le _ _ _ (h.rest x (y - 1) hx (by omega) (by omega) h1 (by omega)) hj
  ·exact h.rest x y hx hxy hy h1 h2
theorem Ins.step {lt:Int→Int→Bool} (ho:Ord lt) {l:List Int} {a e j:Nat} (h:Ins lt l a e j) (hj:a<j) (hje:j<e) (he:e≤l.length) (hlt:lt (gI l j) (gI l (j - 1))=true):Ins lt (swI l j (j - 1)) a e (j - 1):=by
 have sw:=A6O (l:=l) (i:=j) (j:=j - 1) (by omega) (by omega)
 refine ⟨fun x y hx hxy hy h1 h2=>?_,fun y h1 h2=>?_⟩
 ·rw [sw x,sw y,if_neg h1,if_neg h2]
  by_cases hxj:x=j
  ·rw [if_pos hxj,if_neg (by omega)]
   exact h.rest (j - 1) y (by omega) (by omega) hy (by omega) (by omega)
  ·rw [if_neg hxj]
   by_cases hyj:y=j
   ·rw [if_pos hyj]
    exact h.rest x (j - 1) hx (by omega) (by omega) hxj (by omega)
   ·rw [if_neg hyj];exact h.rest x y hx hxy hy hxj hyj
 ·rw [sw y,sw (j - 1),if_neg (by omega),if_pos rfl]
  by_cases hyj:y=j
  ·rw [if_pos hyj];exact ho.asymm _ _ hlt
  ·rw [if_neg hyj];exact h.up y (by omega) h2
theorem A7n (b:Nat) (l:List Int) (n a e:Nat) (g:FuncId) (cs:List AV) (cf:Int→Int→Int) (lt:Int→Int→Bool) (hlt:∀ x y,decide (cf x y<0)=lt x y) (ho:Ord lt) (st:St) (hb:A0o st b l) (hae:a≤e) (he:e≤n) (hn:n≤l.length) (hl:l.length<4611686018427387904)
  (hg:∀ x∈l,∀ y∈l,∀ st',S P g (eI x::eI y::cs) st' fun v s=>v=eI (cf x y)∧s=st') :
  S P 318 [.own 1 b 0 n,eI a,eI e,.fn (.func g) [] cs] st fun v st'=>v=.tuple []∧∃ l',l'.Perm l∧Srt lt l' a e∧(∀ k,k<a∨e≤k→gI l' k=gI l k)∧A0o st' b l'∧∀ c,c≠b→st' c=st c:=by
 refine G0 [] Tryz.func318 ?_
 refine ⟨[0,1,2,3,8],fun m vs st'=>∃ (i:Nat) (l':List Int),a<i∧(i≤e∨i=a+1)∧l'.Perm l∧Srt lt l' a i∧(∀ k,k<a∨e≤k→gI l' k=gI l k)∧A0o st' b l'∧(∀ c,c≠b→st' c=st c)∧m=e - i∧vs=[.own 1 b 0 n,eI a,eI e,.fn (.func g) [] cs,eI i],?_,?_⟩
 ·conv=>whnf
  exact ⟨_,a+1,l,by omega,.inr rfl,List.Perm.refl _,fun x y h1 h2 h3=>by omega,fun _ _=>rfl,hb,fun _ _=>rfl,rfl,by rw [B8 (by omega)]⟩
 ·rintro m vs st' ⟨i,l',hai,hie,hp,hs,hout,hb',hfr,rfl,rfl⟩
  have hlen:l'.length=l.length:=hp.length_eq
  conv=>whnf
  cases h:decide ((i:Int)<(e:Int))
  ·have:=of_decide_eq_false h
   conv=>whnf
   refine ⟨rfl,l',hp,fun x y h1 h2 h3=>hs x y h1 h2 (by omega),hout,hb',hfr⟩
  ·have hi:i<e:=by have:=of_decide_eq_true h;omega
   conv=>whnf
   refine ⟨[0,1,2,3,8,9],fun m vs st''=>∃ (j:Nat) (l'':List Int),a≤j∧j≤i∧l''.Perm l∧Ins lt l'' a (i+1) j∧(∀ k,k<a∨e≤k→gI l'' k=gI l k)∧A0o st'' b l''∧(∀ c,c≠b→st'' c=st c)∧m=j∧vs=[.own 1 b 0 n,eI a,eI e,.fn (.func g) [] cs,eI i,eI j],?_,?_⟩
   ·conv=>whnf
    exact ⟨_,i,l',by omega,Nat.le_refl _,hp,hs.ins,hout,hb',hfr,rfl,rfl⟩
   ·clear hp hs hout hb' hfr hlen
    rintro j vs st'' ⟨_,l'',haj,hji,hp,hs,hout,⟨f,hst,hf⟩,hfr,rfl,rfl⟩
    have hlen:l''.length=l.length:=hp.length_eq
    have next:Srt lt l'' a (i+1)→∃ m',m'<e - i∧∃ (i_1:Nat) (l':List Int),a<i_1∧(i_1≤e∨i_1=a+1)∧l'.Perm l∧Srt lt l' a i_1∧(∀ k,k<a∨e≤k→gI l' k=gI l k)∧A0o st'' b l'∧(∀ c,c≠b→st'' c=st c)∧m'=e - i_1∧[AV.own 1 b 0 n,eI a,eI e,.fn (.func g) [] cs,eI (IntKind.i64.wrap ((i:Int)+1))]=[.own 1 b 0 n,eI a,eI e,.fn (.func g) [] cs,eI i_1] :=
     fun hsrt=>⟨e - (i+1),by omega,i+1,l'',by omega,.inl (by omega),hp,hsrt,hout,⟨f,hst,hf⟩,hfr,rfl,by rw [B8 (by omega)]⟩
    conv=>whnf
    refine ⟨[],[],[0,1,2,3,4,5,6,7,8,9,10,11,12,13,14,15,16],by kernel_rfl,?_⟩;conv=>whnf
    refine B9 (fun h1=>?_) (fun h1=>?_)<;>rw [h1]<;>simp only [decide_eq_true_eq,decide_eq_false_iff_not] at h1
    ·have w:IntKind.i64.wrap ((j:Int) - 1)=((j - 1:Nat):Int):=by rw [A9 (by omega) (by omega)];omega
     have fj:f (0+(j:Int).toNat)=eI (gI l'' j):=by rw [show 0+(j:Int).toNat=j by omega];exact hf j (by omega)
     have fj1:f (0+((j - 1:Nat):Int).toNat)=eI (gI l'' (j - 1)):=by rw [show 0+((j - 1:Nat):Int).toNat=j - 1 by omega];exact hf (j - 1) (by omega)
     conv=>whnf
     refine E1 ?_
     refine F2 hst fj ?_
     rw [w]
     refine E1 ?_
     refine F2 hst fj1 ?_
     refine X9 (hg (gI l'' j) (hp.subset (B3 (by omega))) (gI l'' (j - 1)) (hp.subset (B3 (by omega))) _) ?_
     rw [hlt]
     refine B9 (fun h2=>?_) (fun h2=>?_)<;>rw [h2]
     ·have hfj1:C9 f (0+(j:Int).toNat) (O5 (eI (gI l'' j)) 0 (cellsOf (eI (gI l'' (j - 1))))) (0+((j - 1:Nat):Int).toNat)=eI (gI l'' (j - 1)):=(H3 (by omega)).trans fj1
      conv=>whnf
      refine ⟨[15,17],[],[0,1,2,3,4,5,6,7,8,9,10,11,12,13,14,15,16,17],by kernel_rfl,?_⟩;conv=>whnf
      rw [w]
      refine E1 ?_
      refine F2 hst fj1 ?_
      refine E1 ?_
      refine F2 hst fj ?_
      refine E1 ?_
      refine N1 hst fj ?_
      refine E1 ?_
      refine N1 (A0 ..) hfj1 ?_
      refine G7 ?_
      have hjl:j<l''.length:=by omega
      refine ⟨j - 1,by omega,j - 1,swI l'' j (j - 1),by omega,by omega,(A7O hjl (by omega)).trans hp,hs.step ho (by omega) (by omega) (by omega) h2,fun k hk=>?_,⟨_,by rw [A0,A6e],fun k hk=>?_⟩,fun c hc=>by rw [A6 hc,A6 hc];exact hfr c hc,rfl,by rw [w]⟩
      ·rw [A6O hjl (by omega),if_neg (by omega),if_neg (by omega)];exact hout k hk
      ·rw [A6e] at hk
       rw [A6O hjl (by omega)]
       by_cases e1:k=j - 1
       ·subst e1
        rw [if_pos rfl,show 0+((j - 1:Nat):Int).toNat=j - 1 by omega,A5];rfl
       ·rw [if_neg e1,H3 (by omega)]
        by_cases e2:k=j
        ·subst e2
         rw [if_pos rfl,show 0+(k:Int).toNat=k by omega,A5];rfl
        ·rw [if_neg e2,H3 (by omega)];exact hf k hk
     ·conv=>whnf
      refine G7 ?_
      exact next (hs.done ho (.inr h2))
    ·conv=>whnf
     refine G7 ?_
     exact next (hs.done ho (.inl (by omega)))
theorem Srt.congr {lt:Int→Int→Bool} {l l':List Int} {a e:Nat} (h:Srt lt l a e) (hk:∀ k,a≤k→k<e→gI l' k=gI l k):Srt lt l' a e:=fun x y h1 h2 h3=>by
 rw [hk x h1 (by omega),hk y (by omega) h3];exact h x y h1 h2 h3
theorem C2z (b:Nat) (l:List Int) (g:FuncId) (cs:List AV) (cf:Int→Int→Int) (lt:Int→Int→Bool) (hlt:∀ x y,decide (cf x y<0)=lt x y) (ho:Ord lt) (st:St) (hb:A0o st b l) (hl:l.length≤20)
  (hg:∀ x∈l,∀ y∈l,∀ st',S P g (eI x::eI y::cs) st' fun v s=>v=eI (cf x y)∧s=st') :
  S P 262 [.own 1 b 0 l.length,eI l.length,.fn (.func g) [] cs] st fun v st'=>v=.tuple []∧∃ l',l'.Perm l∧Srt lt l' 0 l.length∧A0o st' b l'∧∀ c,c≠b→st' c=st c:=by
 refine G0 [] Tryz.func262 ?_
 refine ⟨[0,1,2,6,7,8],fun m vs st'=>(m=1∧st'=st∧vs=[.own 1 b 0 l.length,eI l.length,.fn (.func g) [] cs,eI 20,eI 0,eI 20]) ∨
  (m=0∧l.length=20∧(∃ l',l'.Perm l∧Srt lt l' 0 l.length∧A0o st' b l'∧∀ c,c≠b→st' c=st c)∧vs=[.own 1 b 0 l.length,eI l.length,.fn (.func g) [] cs,eI 20,eI 20,eI 40]),?_,?_⟩
 ·conv=>whnf
  exact ⟨1,.inl ⟨rfl,rfl,rfl⟩⟩
 ·rintro m vs st' (⟨rfl,rfl,rfl⟩ | ⟨rfl,h20,⟨l',hp,hs,hb',hfr⟩,rfl⟩)
  ·conv=>whnf
   refine B9 (fun h1=>?_) (fun h1=>?_)<;>rw [h1]<;>simp only [decide_eq_true_eq,decide_eq_false_iff_not] at h1
   ·have h20:l.length=20:=by omega
    conv=>whnf
    refine call (A7n b l l.length 0 20 g cs cf lt hlt ho _ hb (by omega) (by omega) (by omega) (by omega) hg) (fun v st1 hv=>?_)
    obtain ⟨rfl,l',hp,hs,hout,hb',hfr⟩:=hv
    conv=>whnf
    refine G7 ?_
    exact ⟨0,by omega,.inr ⟨rfl,h20,⟨l',hp,by rw [h20];exact hs,hb',hfr⟩,rfl⟩⟩
   ·conv=>whnf
    refine call (A7n b l l.length 0 l.length g cs cf lt hlt ho _ hb (by omega) (by omega) (by omega) (by omega) hg) (fun v st1 hv=>?_)
    obtain ⟨rfl,l',hp,hs,hout,hb',hfr⟩:=hv
    conv=>whnf
    refine A4I [0,1,2,6] ?_;conv=>whnf
    intro I
    refine B9 (fun h2=>?_) (fun h2=>?_)<;>rw [h2]<;>simp only [decide_eq_true_eq,decide_eq_false_iff_not] at h2
    ·exact absurd h2 (by omega)
    ·conv=>whnf
     exact ⟨rfl,l',hp,hs,hb',hfr⟩
  ·have hlen:l'.length=l.length:=hp.length_eq
   conv=>whnf
   refine B9 (fun h1=>?_) (fun h1=>?_)<;>rw [h1]<;>simp only [decide_eq_true_eq,decide_eq_false_iff_not] at h1
   ·exact absurd h1 (by omega)
   ·conv=>whnf
    refine call (A7n b l' l.length 20 l.length g cs cf lt hlt ho _ hb' (by omega) (by omega) (by omega) (by omega) (fun x hx y hy=>hg x (hp.subset hx) y (hp.subset hy))) (fun v st1 hv=>?_)
    obtain ⟨rfl,l2,hp2,hs2,hout,hb2,hfr2⟩:=hv
    conv=>whnf
    refine A4I [0,1,2,6] ?_;conv=>whnf
    intro I
    refine B9 (fun h2=>?_) (fun h2=>?_)<;>rw [h2]<;>simp only [decide_eq_true_eq,decide_eq_false_iff_not] at h2
    ·exact absurd h2 (by omega)
    ·conv=>whnf
     exact ⟨rfl,l2,hp2.trans hp,hs.congr (fun k _ hk=>hout k (by omega)),hb2,fun c hc=>(hfr2 c hc).trans (hfr c hc)⟩
def A3t (N:Nat):Prop:=∀ (b:Nat) (l:List Int) (g:FuncId) (cs:List AV) (cf:Int→Int→Int) (lt:Int→Int→Bool) (hlt:∀ x y,decide (cf x y<0)=lt x y) (ho:Ord lt) (st:St) (hb:A0o st b l) (hl:l.length≤N)
  (hg:∀ x∈l,∀ y∈l,∀ st',S P g (eI x::eI y::cs) st' fun v s=>v=eI (cf x y)∧s=st'),
  S P 262 [.own 1 b 0 l.length,eI l.length,.fn (.func g) [] cs] st fun v st'=>v=.tuple []∧∃ l',l'.Perm l∧Srt lt l' 0 l.length∧A0o st' b l'∧∀ c,c≠b→st' c=st c
theorem B0X:A3t 20:=fun b l g cs cf lt hlt ho st hb hl hg=>C2z b l g cs cf lt hlt ho st hb hl hg
theorem B3B {N:Nat} (hN:A3t N) (b:Nat) (l:List Int) (g:FuncId) (cs:List AV) (cf:Int→Int→Int) (lt:Int→Int→Bool) (hlt:∀ x y,decide (cf x y<0)=lt x y) (ho:Ord lt) (st:St) (hb:A0o st b l) (hl:l.length≤N)
  (hg:∀ x∈l,∀ y∈l,∀ st',S P g (eI x::eI y::cs) st' fun v s=>v=eI (cf x y)∧s=st') :
  S P 190 [.own 1 b 0 l.length,.fn (.func g) [] cs] st fun v st'=>v=.tuple []∧∃ l',l'.Perm l∧Srt lt l' 0 l.length∧A0o st' b l'∧∀ c,c≠b→st' c=st c:=by
 refine G0 [] Tryz.func190 ?_
 refine call (hN b l g cs cf lt hlt ho st hb hl hg) (fun v st' hv=>?_)
 obtain ⟨rfl,h⟩:=hv
 conv=>whnf
 exact ⟨rfl,h⟩
theorem C1f (f:AV) (st:St):S P 318 [.emp,eI 0,eI 0,f] st fun v st'=>v=.tuple []∧st'=st:=by
 refine G0 [] Tryz.func318 ?_
 refine A4I [0,1,2,3,8] ?_;conv=>whnf
 intro I
 exact ⟨rfl,rfl⟩
theorem B9D (f:AV) (st:St):S P 262 [.emp,eI 0,f] st fun v st'=>v=.tuple []∧st'=st:=by
 refine G0 [] Tryz.func262 ?_
 refine A4I [0,1,2,6,7,8] ?_;conv=>whnf
 intro I
 refine I2 (C1f f st) ?_
 refine A4I [0,1,2,6] ?_;conv=>whnf
 intro I
 exact ⟨rfl,rfl⟩
theorem B1C (f:AV) (st:St):S P 190 [.emp,f] st fun v st'=>v=.tuple []∧st'=st:=by
 refine G0 [] Tryz.func190 ?_
 refine I2 (B9D f st) ?_
 exact ⟨rfl,rfl⟩
theorem QSt.grow {st0 st:St} {q bo bo':Nat} {f:Bool} {es:List QE} {y y':R9} (h:QSt (upd st0 bo y) q f es st) (h0:st0 bo=none) (hb:bo'=bo∨st bo'=none):st0 bo'=none∧QSt (upd st0 bo' y') q f es (upd (del st bo) bo' y'):=by
 obtain ⟨h1,h2,sv,⟨fq,hqs,hq0⟩,h3⟩:=h
 have hqo:q≠bo:=fun e=>by subst e;rw [A0] at h1;cases h1
 have hq1:st0 q=none:=by rw [A6 hqo] at h1;exact h1
 have hqb:q≠bo':=fun e=>by
  subst e
  rcases hb with e | e
  ·exact hqo e
  ·rw [hqs] at e;cases e
 have hsub:∀ c x,st0 c=some x→c≠bo∧st c=some x:=fun c x hc=>by
  have hne:c≠bo:=fun e=>by subst e;rw [h0] at hc;cases hc
  exact ⟨hne,h2 c x (by rw [A6 hne];exact hc)⟩
 have hbo':st0 bo'=none:=by
  rcases hb with e | e
  ·rw [e];exact h0
  ·cases hx:st0 bo' with
   | none=>rfl
   | some x=>rw [(hsub _ _ hx).2] at e;cases e
 refine ⟨hbo',by rw [A6 hqb];exact hq1,fun c x hc=>?_,sv,⟨fq,by rw [A6 hqb];unfold del;rw [if_neg hqo];exact hqs,hq0⟩,?_⟩
 ·by_cases hcb:c=bo'
  ·subst hcb;rw [A0] at hc ⊢;exact hc
  ·rw [A6 hcb] at hc ⊢
   obtain ⟨a,b⟩:=hsub c x hc
   unfold del;rw [if_neg a];exact b
 ·rcases h3 with h3 | ⟨b,l,n,a1,a2,a3,a4,a5,a6,⟨fe,hes,hef⟩,a8,a9⟩
  ·exact .inl h3
  ·have hbo:b≠bo:=fun e=>by subst e;rw [A0] at a2;cases a2
   have hb0:st0 b=none:=by rw [A6 hbo] at a2;exact a2
   have hbb:b≠bo':=fun e=>by
    subst e
    rcases hb with e | e
    ·exact hbo e
    ·rw [hes] at e;cases e
   exact .inr ⟨b,l,n,a1,by rw [A6 hbb];exact hb0,a3,a4,a5,a6,⟨fe,by rw [A6 hbb];unfold del;rw [if_neg hbo];exact hes,hef⟩,a8,a9⟩
theorem QSt.begin {st0 st:St} {q bo:Nat} {f:Bool} {es:List QE} {y:R9} (h:QSt st0 q f es st) (hb:st bo=none):st0 bo=none∧QSt (upd st0 bo y) q f es (upd st bo y):=by
 obtain ⟨h1,h2,sv,⟨fq,hqs,hq0⟩,h3⟩:=h
 have hqb:q≠bo:=fun e=>by subst e;rw [hqs] at hb;cases hb
 refine ⟨h2.none hb,by rw [A6 hqb];exact h1,fun c x hc=>?_,sv,⟨fq,by rw [A6 hqb];exact hqs,hq0⟩,?_⟩
 ·by_cases hcb:c=bo
  ·subst hcb;rw [A0] at hc ⊢;exact hc
  ·rw [A6 hcb] at hc ⊢;exact h2 c x hc
 ·rcases h3 with h3 | ⟨b,l,n,a1,a2,a3,a4,a5,a6,⟨fe,hes,hef⟩,a8,a9⟩
  ·exact .inl h3
  ·have hbb:b≠bo:=fun e=>by subst e;rw [hes] at hb;cases hb
   exact .inr ⟨b,l,n,a1,by rw [A6 hbb];exact a2,a3,a4,a5,a6,⟨fe,by rw [A6 hbb];exact hes,hef⟩,a8,a9⟩
def A0l (ty e:Nat) (fo:Nat→AV) (n:Nat) (st1:St) (q:Nat) (f:Bool) (es:List QE) (sv:AV) (st':St):Prop :=
 (n=0∧sv=.emp∧QSt st1 q f es st')∨(0<n∧∃ bo g,st1 bo=none∧sv=.own e bo 0 n∧(∀ k,k<n→g k=fo k)∧QSt (upd st1 bo ⟨ty,e,n,g⟩) q f es st')
theorem A0l.len_S {ty e:Nat} {fo:Nat→AV} {n:Nat} {st1:St} {q:Nat} {f:Bool} {es:List QE} {sv:AV} {st':St} (h:A0l ty e fo n st1 q f es sv st') :
  S P 148 [.optr 1 q 0 0] st' fun v st''=>v=eI es.length∧st''=st':=by
 rcases h with ⟨_,_,h⟩ | ⟨_,bo,g,_,_,_,h⟩
 ·exact A8y _ _ _ _ _ h
 ·exact A8y _ _ _ _ _ h
theorem A0l.pop_S {ty e:Nat} {fo:Nat→AV} {n:Nat} {st1:St} {q:Nat} {f:Bool} {x:QE} {es:List QE} {sv:AV} {st':St} (h:A0l ty e fo n st1 q f (x::es) sv st') (htop:∀ y∈es,H1 y x=false) :
  S P 149 [.optr 1 q 0 0] st' fun v st''=>v=.tuple [eI x.1,eI x.2,.bool true]∧A0l ty e fo n st1 q false es sv st'':=by
 rcases h with ⟨h1,h2,h⟩ | ⟨h0,bo,g,h1,h2,h3,h⟩
 ·exact (A8z _ _ _ _ _ _ h htop).mono fun v s hv=>⟨hv.1,.inl ⟨h1,h2,hv.2⟩⟩
 ·exact (A8z _ _ _ _ _ _ h htop).mono fun v s hv=>⟨hv.1,.inr ⟨h0,bo,g,h1,h2,h3,hv.2⟩⟩
theorem A0l.app {T:H9} {t:TypeId} {x sv:AV} {st1 st':St} {k:KK} {r q:D3} {el n qq:Nat} {fl:Bool} {es:List QE} {f g:Nat→AV} (hr:T t=some r) (hd:r.desc=.slice el) (hq:T el=some q)
  (hz:(Nat.blt 0 q.size&&Nat.blt 0 q.bytes&&Nat.beq q.zero.cells.size q.size)=true) (hs:Z2 q.size st' x=some (1,g)) (hg:g 0=f n) (hb:(n+1) * q.bytes≤140737488355328)
  (hc:A0l el q.size f n st1 qq fl es sv st') (hk:∀ sv' st'',A0l el q.size f (n+1) st1 qq fl es sv' st''→k sv' st''):A5E T t sv x st' k:=by
 rcases hc with ⟨rfl,rfl,h⟩ | ⟨h0,bo,y,h1,rfl,h4,h⟩
 ·refine apE hr hd hq hz hs (by omega) (fun h=>by omega) (fun _ b hb=>?_)
  obtain ⟨hb0,hn⟩:=h.begin (y:=⟨el,q.size,1,g⟩) hb
  have e0:∀ k,k<0+1→g k=f k:=fun k hk=>by
   have:k=0:=by omega
   rw [this];exact hg
  exact hk _ _ (.inr ⟨by omega,b,g,hb0,rfl,e0,hn⟩)
 ·have hby:st' bo=some ⟨el,q.size,n,y⟩:=h.sup bo _ (A0 ..)
  refine apO hr hd hq hz hs hby rfl rfl rfl hb (fun h=>by omega) (fun _ b' hb'=>?_)
  obtain ⟨hb0,hn⟩:=h.grow (y':=⟨el,q.size,n+1,fun i=>if i<n then y i else g (i - n)⟩) h1 hb'
  refine hk _ _ (.inr ⟨by omega,b',_,hb0,rfl,fun k hk=>?_,hn⟩)
  by_cases hkn:k<n
  ·simp only [hkn,if_true];exact h4 k hkn
  ·have:k=n:=by omega
   subst this
   simp only [hkn,if_false,Nat.sub_self];exact hg
theorem A0l.shift {ty e:Nat} {fo:Nat→AV} {n:Nat} {st1:St} {q:Nat} {f:Bool} {es:List QE} {sv:AV} {st':St} (h:A0l ty e fo n st1 q f es sv st'):B0 [sv] st' [.arr e n fo] st1:=by
 rcases h with ⟨rfl,rfl,h⟩ | ⟨h0,bo,g,h1,rfl,h3,h⟩
 ·exact (h.sup.shift [.emp]).trans (K4 e fo)
 ·have h2:=G5 (st:=upd st1 bo ⟨ty,e,n,g⟩) (e:=e) (b:=bo) (n:=n) (f:=fo) (A0 ..) rfl (Nat.le_refl _) h3
  rw [A2O h1] at h2
  exact (h.sup.shift [.own e bo 0 n]).trans h2
def Y1 (codes:List D6) (p:B4):Bool:=L7 p.code||codes.any fun c=>p.code.toList==c.toList
abbrev F8 (l:List B4) (x:Int):B4:=l.getD x.toNat default
def places (l:List B4) (codes:List D6) (i:Nat):List Int:=((List.range i).filter fun k=>Y1 codes (l.getD k default)).map Int.ofNat
theorem A5n (l:List B4) (codes:List D6) (i:Nat):places l codes (i+1)=places l codes i++(if Y1 codes (l.getD i default)=true then [(i:Int)] else []):=by
 unfold places
 rw [List.range_succ,List.filter_append,List.map_append]
 congr 1
 by_cases h:Y1 codes (l.getD i default)=true
 ·rw [if_pos h,List.filter_cons_of_pos (p:=fun k=>Y1 codes (l.getD k default)) h];rfl
 ·rw [if_neg h,List.filter_cons_of_neg (p:=fun k=>Y1 codes (l.getD k default)) h];rfl
theorem A0d {l:List B4} {codes:List D6} {i:Nat} {x:Int} (h:x∈places l codes i):0≤x∧x.toNat<i:=by
 unfold places at h
 obtain ⟨k,hk,rfl⟩:=List.mem_map.1 h
 have:=List.mem_range.1 (List.mem_filter.1 hk).1
 show 0≤(k:Int)∧(k:Int).toNat<i
 omega
theorem W5 (l:List B4) (codes:List D6) (i:Nat):(places l codes i).length≤i:=by
 unfold places
 rw [List.length_map]
 exact Nat.le_trans (List.length_filter_le ..) (by simp)
def C3N (l:List B4) (x y:Int):Bool:=slt (F8 l x).id (F8 l y).id
theorem C6T (l:List B4):Ord (C3N l):=⟨fun x y h=>A6b h,fun x y z h1 h2=>A3N h1 h2⟩
theorem C5w (l:List B4) (x y:Int) (hx:0≤x∧x.toNat<l.length) (hy:0≤y∧y.toNat<l.length) (st:St) :
  S P 191 [eI x,eI y,.fptr (B1 15 C0 l) 0] st fun v st'=>v=eI (A8b (F8 l x).id (F8 l y).id)∧st'=st:=by
 refine G0 [] Tryz.func191 ?_
 refine ⟨[],[],[0,1,2,3,4,5,6,7,8,9,10,11],by kernel_rfl,?_⟩;conv=>whnf
 refine E1 ?_
 refine E1 ?_
 refine X9 (C4S (F8 l x).id (F8 l y).id _) ?_
 exact ⟨rfl,rfl⟩
theorem M9 {a b:List Int} {k:Nat} (h:k<a.length):gI (a++b) k=gI a k:=by
 unfold gI;rw [List.getD_eq_getElem?_getD,List.getD_eq_getElem?_getD,List.getElem?_append_left h]
theorem A7k (a:List Int) (x:Int):gI (a++[x]) a.length=x:=by
 unfold gI;simp [List.getD_eq_getElem?_getD]
def A7U (l:List B4) (codes:List D6) (o:List Int):Prop:=o.Perm (places l codes l.length)∧Srt (C3N l) o 0 o.length
def B0F (l:List B4) (o:List Int) (k:Nat):QE:=((F8 l (gI o k)).prio,(k:Int))
def A0H (l:List B4) (o:List Int):List QE:=((List.range o.length).map (B0F l o)).mergeSort fun a b=>!H1 b a
theorem A0P (l:List B4) (o:List Int):(A0H l o).Perm ((List.range o.length).map (B0F l o)):=List.mergeSort_perm ..
theorem A6r (l:List B4) (o:List Int):(A0H l o).Pairwise fun a b=>H1 b a=false:=by
 have:=List.pairwise_mergeSort (le:=fun a b:QE=>!H1 b a) (fun a b c h1 h2=>by simp only [Bool.not_eq_true'] at *;exact A0c h2 h1) (fun a b=>by
  cases h:H1 b a with
  | false=>rfl
  | true=>rw [Y8 h];rfl) ((List.range o.length).map (B0F l o))
 exact this.imp (fun h=>by simpa using h)
theorem A4p {l:List B4} {o:List Int} {e:QE} (h:e∈A0H l o):0≤e.2∧e.2.toNat<o.length:=by
 obtain ⟨k,hk,rfl⟩:=List.mem_map.1 ((A0P l o).subset h)
 have:=List.mem_range.1 hk
 simp only [B0F];omega
theorem A4o (l:List B4) (o:List Int):(A0H l o).length=o.length:=by
 rw [(A0P l o).length_eq];simp
abbrev O4 (l:List B4) (o:List Int):List Int:=(A0H l o).map fun e=>gI o e.2.toNat
theorem A0l.sup {ty e:Nat} {fo:Nat→AV} {n:Nat} {st1:St} {q:Nat} {f:Bool} {es:List QE} {sv:AV} {st':St} (h:A0l ty e fo n st1 q f es sv st'):D8 st1 st':=by
 rcases h with ⟨_,_,h⟩ | ⟨_,bo,g,h1,_,_,h⟩
 ·exact h.sup
 ·exact ((D8.refl st1).upd h1).trans h.sup
theorem C4b {N:Nat} (hN:A3t N) (l:List B4) (codes:List D6) (hl:l.length≤60) (hc:codes.length≤9223372036854775807) (h20:(places l codes l.length).length≤N) (st:St) :
  S P 99 [B1 15 C0 l,D2 codes] st fun v st'=>(∃ o:List Int,A7U l codes o∧v=A8 (O4 l o))∧st'=st:=by
 refine S.post (post:=fun v st'=>∃ (o:List Int) (st1:St) (q:Nat) (fl:Bool),A7U l codes o∧D8 st st1∧A0l 3 1 (fun k=>eI (gI (O4 l o) k)) (O4 l o).length st1 q fl [] v st') ?_
  (fun v st' ⟨o,st1,q,fl,ho,hs,hq⟩=>⟨A8 (O4 l o),st,⟨⟨o,ho,rfl⟩,rfl⟩,hq.shift.trans (hs.shift _)⟩)
 refine G0 [2,7] Tryz.func99 ?_
 refine ⟨[1,2,5,15,16,17],fun m vs st'=>∃ (i:Nat) (sv:AV),i≤l.length∧m=l.length - i∧vs=[D2 codes,.fptr (B1 15 C0 l) 0,sv,B1 15 C0 l,eI l.length,eI i]∧N3 3 1 (fun k=>eI (gI (places l codes i) k)) st (places l codes i).length sv st',?_,?_⟩
 ·conv=>whnf
  exact ⟨_,0,.emp,Nat.zero_le _,rfl,rfl,N3.start _ _ _ _⟩
 ·rintro m vs st' ⟨i,sv,hi,rfl,rfl,hcol⟩
  conv=>whnf
  cases h:decide ((i:Int)<(l.length:Int))
  ·have:=of_decide_eq_false h
   obtain rfl:i=l.length:=by omega
   conv=>whnf
   have key:∀ K:KK,(∀ v st1 o,v=.tuple []→A7U l codes o→D8 st st1→((o=[]∧sv=.emp)∨∃ b,sv=.own 1 b 0 o.length∧A0o st1 b o∧0<o.length)→K v st1)→A1o P 190 [sv,.fn (.func 191) [] [.fptr (B1 15 C0 l) 0]] st' K:=fun K hK=>by
    rcases hcol with ⟨h0,rfl,rfl⟩ | ⟨h0,b,g,hb,rfl,rfl,hg⟩
    ·have hP:places l codes l.length=[]:=List.eq_nil_of_length_eq_zero h0
     refine call (B1C _ _) (fun v st1 hv=>?_)
     obtain ⟨rfl,rfl⟩:=hv
     exact hK _ _ [] rfl ⟨by rw [hP],fun x y _ _ h=>by simp at h⟩ (D8.refl _) (.inl ⟨rfl,rfl⟩)
    ·refine call (B3B hN b (places l codes l.length) _ _ (fun x y=>A8b (F8 l x).id (F8 l y).id) (C3N l) (fun x y=>A9L _ _) (C6T l) _ ⟨g,A0 ..,hg⟩ h20 (fun x hx y hy s=>C5w l x y (A0d hx) (A0d hy) s)) (fun v st1 hv=>?_)
     obtain ⟨rfl,l',hp,hs,hb',hfr⟩:=hv
     have hll:l'.length=(places l codes l.length).length:=hp.length_eq
     refine hK _ st1 l' rfl ⟨hp,by rw [hll];exact hs⟩ (fun c x hc=>?_) (.inr ⟨b,by rw [hll],hb',by omega⟩)
     have hne:c≠b:=fun e=>by subst e;rw [hb] at hc;cases hc
     rw [hfr c hne,A6 hne];exact hc
   refine key _ (fun v st1 o hv ho hsup hsv=>?_)
   subst hv
   clear key hcol
   have hmem:∀ k,k<o.length→0≤gI o k∧(gI o k).toNat<l.length:=fun k hk=>A0d (ho.1.subset (B3 hk))
   conv=>whnf
   refine call (B0C st1) (fun v st2 hv=>?_)
   obtain ⟨q,rfl,hq⟩:=hv
   conv=>whnf
   rcases hsv with ⟨rfl,rfl⟩ | ⟨b,rfl,⟨fb,hst,hfb⟩,hpos⟩
   ·conv=>whnf
    refine A4I [2,5,8,40,41,42] ?_;conv=>whnf
    intro I
    refine A4I [5,8,11] ?_;conv=>whnf
    intro I
    refine I2 (A8y _ _ _ _ _ hq) ?_
    exact ⟨[],st1,q,true,ho,hsup,.inl ⟨by rw [List.length_map,A4o];rfl,rfl,hq⟩⟩
   ·have hol:o.length≤60:=by rw [ho.1.length_eq];have:=W5 l codes l.length;omega
    conv=>whnf
    refine ⟨[2,5,8,40,41,42],fun m vs st'=>∃ i:Nat,i≤o.length∧m=o.length - i∧vs=[.fptr (B1 15 C0 l) 0,.own 1 b 0 o.length,.optr 1 q 0 0,.own 1 b 0 o.length,eI o.length,eI i]∧QSt st1 q true ((List.range i).map (B0F l o)) st',?_,?_⟩
    ·conv=>whnf
     exact ⟨_,0,Nat.zero_le _,rfl,rfl,hq⟩
    ·clear hq
     rintro m vs st' ⟨i,hi,rfl,rfl,hq⟩
     have hst':=hq.sup b _ hst
     conv=>whnf
     cases h:decide ((i:Int)<(o.length:Int))
     ·have:=of_decide_eq_false h
      obtain rfl:i=o.length:=by omega
      conv=>whnf
      refine ⟨[5,8,11],fun m vs st'=>∃ (t:Nat) (sv:AV) (fl:Bool),t≤o.length∧m=o.length - t∧vs=[.own 1 b 0 o.length,.optr 1 q 0 0,sv]∧A0l 3 1 (fun k=>eI (gI (O4 l o) k)) t st1 q fl ((A0H l o).drop t) sv st',?_,?_⟩
      ·conv=>whnf
       exact ⟨_,0,.emp,true,Nat.zero_le _,rfl,rfl,.inl ⟨rfl,rfl,hq.perm (A0P l o).symm⟩⟩
      ·rintro m vs st' ⟨t,sv,fl,ht,rfl,rfl,hout⟩
       have hst':=hout.sup b _ hst
       have hrl:=A4o l o
       conv=>whnf
       refine I2 (hout.len_S) ?_
       refine B9 (fun h1=>?_) (fun h1=>?_)<;>rw [h1]<;>simp only [decide_eq_true_eq,decide_eq_false_iff_not,List.length_drop] at h1
       ·have htl:t<(A0H l o).length:=by omega
        have hsplit:(A0H l o).drop t=(A0H l o)[t]::(A0H l o).drop (t+1):=List.drop_eq_getElem_cons htl
        have hsort:=A6r l o
        have htop:∀ y∈(A0H l o).drop (t+1),H1 y (A0H l o)[t]=false:=fun y hy=>by
         have:=hsort.sublist (List.drop_sublist t _)
         rw [hsplit,List.pairwise_cons] at this
         exact this.1 y hy
        have hx:=A4p (List.getElem_mem htl)
        have hres:gI (O4 l o) t=gI o ((A0H l o)[t]).2.toNat:=by
         unfold gI O4
         rw [List.getD_eq_getElem?_getD,List.getElem?_map,List.getElem?_eq_getElem htl];rfl
        rw [hsplit] at hout
        generalize (A0H l o)[t]=x at *
        conv=>whnf
        refine call (hout.pop_S htop) (fun v st'' hv=>?_)
        obtain ⟨rfl,hout'⟩:=hv
        have hst'':=hout'.sup b _ hst
        conv=>whnf
        refine E1 ?_
        refine ldV hst'' rfl (by omega) (v:=eI (gI o x.2.toNat)) (by rw [Nat.zero_add];exact hfb _ hx.2) ?_;conv=>whnf
        refine A0l.app (q:=r3) rfl rfl rfl rfl rfl (by simp only [hres];rfl) (by show (t+1) * 8≤140737488355328;omega) hout' (fun sv' st3 hout3=>?_);conv=>whnf
        refine G7 ?_
        exact ⟨o.length - (t+1),by omega,t+1,sv',false,by omega,rfl,rfl,hout3⟩
       ·have hte:t=o.length:=by omega
        subst hte;conv=>whnf
        refine ⟨o,st1,q,fl,ho,hsup,?_⟩
        rw [show (O4 l o).length=o.length by rw [List.length_map,hrl]]
        rw [show (A0H l o).drop o.length=[] by rw [←hrl,List.drop_length]] at hout
        exact hout
     ·have hi':i<o.length:=by have:=of_decide_eq_true h;omega
      have hm:=hmem i hi'
      conv=>whnf
      refine E1 ?_
      refine ldV hst' rfl (by omega) (v:=eI (gI o i)) (by rw [show 0+(i:Int).toNat=i by omega];exact hfb i hi') ?_;conv=>whnf
      refine E1 ?_
      refine call (A7C st1 q _ (F8 l (gI o i)).prio i _ hq (by rw [List.length_map,List.length_range];omega)) (fun v st'' hv=>?_)
      obtain ⟨rfl,hq'⟩:=hv
      conv=>whnf
      refine G7 ?_
      refine ⟨o.length - (i+1),by omega,i+1,by omega,rfl,by rw [B8 (by omega)],?_⟩
      rw [List.range_succ,List.map_append];exact hq'
  ·have hi':i<l.length:=by have:=of_decide_eq_true h;omega
   have hpl:=W5 l codes i
   conv=>whnf
   refine E1 ?_
   have yes:Y1 codes (l.getD (i:Int).toNat default)=true→∀ (K:KK),(∀ sv' st'',N3 3 1 (fun k=>eI (gI (places l codes (i+1)) k)) st (places l codes (i+1)).length sv' st''→K sv' st'')→A5E T 29 sv (.arr 1 1 fun k=>[AV.int .i64 (i:Int)].getD k .junk) st' K:=fun ha K hK=>by
    have es:=A5n l codes i
    rw [if_pos (show Y1 codes (l.getD i default)=true from ha)] at es
    have el:(places l codes (i+1)).length=(places l codes i).length+1:=by rw [es];simp
    refine N3.app (q:=r3) rfl rfl rfl rfl rfl ?_ (by show ((places l codes i).length+1) * 8≤140737488355328;omega) (hcol.congr (f':=fun k=>eI (gI (places l codes (i+1)) k)) fun k hk=>by rw [es,M9 hk]) (fun sv' st'' hc'=>hK sv' st'' (by rw [el];exact hc'))
    rw [es,A7k];rfl
   have no:Y1 codes (l.getD (i:Int).toNat default)=false→places l codes (i+1)=places l codes i:=fun ha=>by
    have es:=A5n l codes i
    rw [if_neg (show ¬ Y1 codes (l.getD i default)=true by rw [show Y1 codes (l.getD i default)=false from ha];simp),List.append_nil] at es
    exact es
   have fin:∀ sv' st'',N3 3 1 (fun k=>eI (gI (places l codes (i+1)) k)) st (places l codes (i+1)).length sv' st''→∃ m',m'<l.length - i∧∃ (i_1:Nat) (sv:AV),i_1≤l.length∧m'=l.length - i_1∧[D2 codes,AV.fptr (B1 15 C0 l) 0,sv',B1 15 C0 l,eI l.length,eI (IntKind.i64.wrap ((i:Int)+1))]=[D2 codes,.fptr (B1 15 C0 l) 0,sv,B1 15 C0 l,eI l.length,eI i_1]∧N3 3 1 (fun k=>eI (gI (places l codes i_1) k)) st (places l codes i_1).length sv st'' :=
    fun sv' st'' hc'=>⟨l.length - (i+1),by omega,i+1,sv',by omega,rfl,by rw [B8 (by omega)],hc'⟩
   refine B9 (fun h1=>?_) (fun h1=>?_)
   ·have ha:Y1 codes (l.getD (i:Int).toNat default)=true:=by unfold Y1;rw [show L7 (l.getD (i:Int).toNat default).code=true from h1,Bool.true_or]
    rw [h1];conv=>whnf
    refine yes ha _ (fun sv' st'' hc'=>?_);conv=>whnf
    refine G7 ?_
    exact fin _ _ hc'
   ·rw [h1];conv=>whnf
    refine I2 (C2A codes hc (l.getD (i:Int).toNat default).code _) ?_
    refine B9 (fun h2=>?_) (fun h2=>?_)
    ·have ha:Y1 codes (l.getD (i:Int).toNat default)=true:=by unfold Y1;rw [h2,Bool.or_true]
     rw [h2];conv=>whnf
     refine yes ha _ (fun sv' st'' hc'=>?_);conv=>whnf
     refine G7 ?_
     exact fin _ _ hc'
    ·have ha:Y1 codes (l.getD (i:Int).toNat default)=false:=by unfold Y1;rw [show L7 (l.getD (i:Int).toNat default).code=false from h1,h2];rfl
     rw [h2];conv=>whnf
     refine G7 ?_
     exact fin _ _ (by rw [no ha];exact hcol)
theorem C6H (a b:Int) (ha:0≤a) (hb:0≤b) (hab:a+b≤100000000000000) (st:St):S P 345 [eI a,eI b] st fun v st'=>v=.tuple [eI (a+b),eI 0]∧st'=st:=by
 have ra:(decide (0≤a)&&decide (a≤100000000000000))=true:=by simp;omega
 have rb:(decide (0≤b)&&decide (b≤100000000000000))=true:=by simp;omega
 have w1:IntKind.i64.wrap (100000000000000 - b)=100000000000000 - b:=A9 (by omega) (by omega)
 have w2:IntKind.i64.wrap (a+b)=a+b:=A9 (by omega) (by omega)
 refine G0 [] Tryz.func345 ?_
 refine C5 (A7H a st) ?_
 rw [ra];conv=>whnf
 refine C5 (A7H b st) ?_
 rw [rb];conv=>whnf
 rw [w1]
 refine B9 (fun h=>?_) (fun h=>?_)<;>rw [h]<;>simp only [decide_eq_true_eq,decide_eq_false_iff_not] at h
 ·exact absurd h (by omega)
 ·conv=>whnf
  rw [w2]
  exact ⟨rfl,rfl⟩
def A7 (l:List Int):Int:=l.foldl (fun s x=>s+x) 0
theorem L6 {l:List Int} {i:Nat} (h:i<l.length):A7 (l.take (i+1))=A7 (l.take i)+gI l i:=Q3 h _ _
theorem G6 (a b:List Int):A7 (a++b)=A7 a+A7 b:=by
 have:∀ (b:List Int) (s:Int),b.foldl (fun s x=>s+x) s=s+b.foldl (fun s x=>s+x) 0:=by
  intro b
  induction b with
  | nil=>intro s;simp
  | cons x b ih=>intro s;simp only [List.foldl_cons];rw [ih (s+x),ih (0+x)];omega
 unfold A7
 rw [List.foldl_append,this b]
theorem C4 {l:List Int} (h:∀ x∈l,0≤x):0≤A7 l:=by
 induction l with
 | nil=>exact Int.le_refl _
 | cons x l ih =>
  have:=G6 [x] l
  rw [List.singleton_append] at this
  have e:A7 [x]=x:=by simp [A7]
  rw [this,e]
  have:=ih (fun y hy=>h y (List.mem_cons_of_mem _ hy))
  have:=h x (List.mem_cons_self ..)
  omega
theorem K1 {l:List Int} (h:∀ x∈l,0≤x) (i:Nat):A7 (l.take i)≤A7 l:=by
 have e:=G6 (l.take i) (l.drop i)
 rw [List.take_append_drop] at e
 have:=C4 (l:=l.drop i) (fun x hx=>h x (List.drop_subset _ _ hx))
 omega
theorem I9 {l:List Int} (h:∀ x∈l,0≤x) {x:Int} (hx:x∈l):x≤A7 l:=by
 obtain ⟨i,hi,rfl⟩:=E3 hx
 have h1:=L6 hi
 have h2:=K1 h (i+1)
 have h3:=C4 (l:=l.take i) (fun x hx=>h x (List.take_subset _ _ hx))
 have e:gI l i=l.getD i default:=rfl
 omega
structure Q0 (total:Int) (ws:List Int):Prop where
 t0:0≤total
 t1:total≤100000000000000
 len:ws.length≤100000
 w0:∀ w∈ws,0≤w
 sum:A7 ws≤100000000000000
 none:A7 ws=0→total=0
theorem C6q (total:Int) (ws:List Int) (hW:Q0 total ws) (st:St):S P 327 [eI total,A8 ws] st fun v st'=>v=.tuple [eI (A7 ws),eI 0]∧st'=st:=by
 have rt:(decide (0≤total)&&decide (total≤100000000000000))=true:=by simp;exact ⟨hW.t0,hW.t1⟩
 have hw:∀ w∈ws,w≤100000000000000:=fun w hw=>Int.le_trans (I9 hW.w0 hw) hW.sum
 have hl:=hW.len
 refine G0 [] Tryz.func327 ?_
 refine C5 (A7H total st) ?_
 rw [rt];conv=>whnf
 refine B9 (fun h=>?_) (fun h=>?_)<;>rw [h]<;>simp only [decide_eq_true_eq,decide_eq_false_iff_not] at h
 ·exact absurd h (by omega)
 conv=>whnf
 refine ⟨[0,1,20,21,22],fun m vs st'=>∃ i:Nat,i≤ws.length∧m=ws.length - i∧vs=[eI total,A8 ws,A8 ws,eI ws.length,eI i]∧st'=st,?_,?_⟩
 ·conv=>whnf
  exact ⟨_,0,Nat.zero_le _,rfl,rfl,rfl⟩
 ·rintro m vs st' ⟨i,hi,rfl,rfl,rfl⟩
  conv=>whnf
  cases h1:decide ((i:Int)<(ws.length:Int))
  ·conv=>whnf
   refine ⟨[0,8,30,31,32],fun m vs st''=>∃ i:Nat,i≤ws.length∧m=ws.length - i∧vs=[eI total,eI (A7 (ws.take i)),A8 ws,eI ws.length,eI i]∧st''=st',?_,?_⟩
   ·conv=>whnf
    exact ⟨_,0,Nat.zero_le _,rfl,rfl,rfl⟩
   ·rintro m vs st'' ⟨i,hi,rfl,rfl,rfl⟩
    conv=>whnf
    cases h2:decide ((i:Int)<(ws.length:Int))
    ·have:=of_decide_eq_false h2
     obtain rfl:i=ws.length:=by omega
     rw [List.take_length];conv=>whnf
     refine B9 (fun h3=>?_) (fun h3=>?_)<;>rw [h3]
     ·conv=>whnf
      have:total=0:=hW.none (by simpa using h3)
      rw [this];conv=>whnf
      exact ⟨rfl,rfl⟩
     ·conv=>whnf
      exact ⟨rfl,rfl⟩
    ·have hi':i<ws.length:=by have:=of_decide_eq_true h2;omega
     have h3:=L6 hi'
     have h4:=K1 hW.w0 (i+1)
     have h5:=C4 (l:=ws.take i) (fun x hx=>hW.w0 x (List.take_subset _ _ hx))
     have h6:=hW.w0 _ (B3 hi')
     have h7:=hW.sum
     conv=>whnf
     refine E1 ?_
     refine I2 (C6H (A7 (ws.take i)) (gI ws i) h5 h6 (by omega) _) ?_
     refine G7 ?_
     exact ⟨ws.length - (i+1),by omega,i+1,by omega,rfl,by rw [B8 (by omega),h3],rfl⟩
  ·have hi':i<ws.length:=by have:=of_decide_eq_true h1;omega
   have hm:gI ws i∈ws:=B3 hi'
   have rw':(decide (0≤gI ws i)&&decide (gI ws i≤100000000000000))=true:=by simp only [Bool.and_eq_true,decide_eq_true_eq];exact ⟨hW.w0 _ hm,hw _ hm⟩
   conv=>whnf
   refine E1 ?_
   refine C5 (A7H (gI ws i) _) ?_
   rw [rw'];conv=>whnf
   refine G7 ?_
   exact ⟨ws.length - (i+1),by omega,i+1,by omega,rfl,by rw [B8 (by omega)],rfl⟩
theorem C5V (total w all:Int) (h0:0≤total) (h1:total≤100000000000000) (hw:0≤w) (hwa:w≤all) (ha:0<all) (ha':all≤100000000000000) (st:St):S P 328 [eI total,eI w,eI all] st fun v st'=>v=.tuple [eI (total * w / all),eI (total * w % all)]∧st'=st:=by
 have e1:IntKind.u64.wrap total=total:=C2 (by omega) (by omega)
 have e2:IntKind.u64.wrap w=w:=C2 (by omega) (by omega)
 have e3:IntKind.u64.wrap all=all:=C2 (by omega) (by omega)
 have hN:0≤total * w:=Int.mul_nonneg h0 hw
 have hN':total * w≤100000000000000 * all:=Int.mul_le_mul h1 hwa hw (by omega)
 have hq0:0≤total * w / all:=Int.ediv_nonneg hN (by omega)
 have hq1:total * w / all≤100000000000000:=by
  have:total * w / all<100000000000000+1:=(Int.ediv_lt_iff_lt_mul ha).2 (by omega)
  omega
 have hr0:=Int.emod_nonneg (total * w) (show all≠0 by omega)
 have hr1:=Int.emod_lt_of_pos (total * w) ha
 refine G0 [] Tryz.func328 ?_
 rw [e1,e2]
 refine I2 (B7F total w ⟨by omega,by omega⟩ ⟨by omega,by omega⟩ st) ?_
 rw [e3]
 have hN2:100000000000000 * all≤100000000000000 * 100000000000000:=by omega
 refine C5 (B7s _ _ all (by omega) (by omega) (by omega) (by omega) (by omega) st) ?_
 rw [show total * w / 18446744073709551616 * 18446744073709551616+total * w % 18446744073709551616=total * w by omega];conv=>whnf
 rw [A9 (x:=total * w / all) (by omega) (by omega),A9 (x:=total * w % all) (by omega) (by omega)]
 exact ⟨rfl,rfl⟩
def shQ (total S:Int) (ws:List Int) (k:Nat):Int:=total * gI ws k / S
def shE (total S:Int) (ws:List Int) (k:Nat):QE:=(total * gI ws k % S,(k:Int))
def shR (total S:Int) (ws:List Int):List QE:=((List.range ws.length).map (shE total S ws)).mergeSort fun a b=>!H1 b a
def R3 (qs:List Int) (R:List QE):List Int:=R.foldl (fun acc e=>acc.set e.2.toNat (gI acc e.2.toNat+1)) qs
def G9 (total S:Int) (ws:List Int) (i:Nat):Int:=total - A7 ((List.range i).map (shQ total S ws))
def D7 (total:Int) (ws:List Int):List Int :=
 if A7 ws=0 then ws.map fun _=>0
 else R3 ((List.range ws.length).map (shQ total (A7 ws) ws)) ((shR total (A7 ws) ws).take (G9 total (A7 ws) ws ws.length).toNat)
theorem A1N (total S:Int) (ws:List Int):(shR total S ws).Perm ((List.range ws.length).map (shE total S ws)):=List.mergeSort_perm ..
theorem A6L (total S:Int) (ws:List Int):(shR total S ws).Pairwise fun a b=>H1 b a=false:=by
 have:=List.pairwise_mergeSort (le:=fun a b:QE=>!H1 b a) (fun a b c h1 h2=>by simp only [Bool.not_eq_true'] at *;exact A0c h2 h1) (fun a b=>by
  cases h:H1 b a with
  | false=>rfl
  | true=>rw [Y8 h];rfl) ((List.range ws.length).map (shE total S ws))
 exact this.imp (fun h=>by simpa using h)
theorem A6a (total S:Int) (ws:List Int):(shR total S ws).length=ws.length:=by
 rw [(A1N total S ws).length_eq];simp
theorem A9t {total S:Int} {ws:List Int} {e:QE} (h:e∈shR total S ws):0≤e.2∧e.2.toNat<ws.length:=by
 obtain ⟨k,hk,rfl⟩:=List.mem_map.1 ((A1N total S ws).subset h)
 have:=List.mem_range.1 hk
 simp only [shE];omega
theorem A1u (qs:List Int) (R:List QE):(R3 qs R).length=qs.length:=by
 unfold R3
 induction R generalizing qs with
 | nil=>rfl
 | cons e R ih=>simp only [List.foldl_cons];rw [ih];simp
theorem A8I (qs:List Int) (R:List QE) (e:QE):R3 qs (R++[e])=(R3 qs R).set e.2.toNat (gI (R3 qs R) e.2.toNat+1):=by
 unfold R3;rw [List.foldl_append];rfl
theorem K9 (f:Nat→Int) (n:Nat):A7 ((List.range (n+1)).map f)=A7 ((List.range n).map f)+f n:=by
 rw [List.range_succ,List.map_append,G6];simp [A7]
theorem A9p (total S:Int) (hS:0<S) (ws:List Int):∀ i,i≤ws.length→S * A7 ((List.range i).map (shQ total S ws))+A7 ((List.range i).map fun k=>total * gI ws k % S)=total * A7 (ws.take i)
 | 0,_=>by simp [A7]
 | i+1,h=>by
  have ih:=A9p total S hS ws i (by omega)
  rw [K9,K9,L6 (by omega),Int.mul_add,Int.mul_add,←ih]
  have:=Int.mul_ediv_add_emod (total * gI ws i) S
  unfold shQ
  omega
theorem A6J (total S:Int) (hS:0<S) (ws:List Int):∀ i,0≤A7 ((List.range i).map fun k=>total * gI ws k % S)∧A7 ((List.range i).map fun k=>total * gI ws k % S)≤i * (S - 1)
 | 0=>by simp [A7]
 | i+1=>by
  have ih:=A6J total S hS ws i
  rw [K9]
  have h1:=Int.emod_nonneg (total * gI ws i) (show S≠0 by omega)
  have h2:=Int.emod_lt_of_pos (total * gI ws i) hS
  have h3:((i+1:Nat):Int) * (S - 1)=(i:Int) * (S - 1)+(S - 1):=by
   rw [show ((i+1:Nat):Int)=(i:Int)+1 by omega,Int.add_mul,Int.one_mul]
  omega
theorem A2A {total:Int} {ws:List Int} (h:Q0 total ws) (hS:0<A7 ws):0≤G9 total (A7 ws) ws ws.length∧G9 total (A7 ws) ws ws.length≤ws.length:=by
 have e:=A9p total (A7 ws) hS ws ws.length (Nat.le_refl _)
 have b:=A6J total (A7 ws) hS ws ws.length
 rw [List.take_length] at e
 have hk:A7 ws * G9 total (A7 ws) ws ws.length=A7 ((List.range ws.length).map fun k=>total * gI ws k % A7 ws):=by
  unfold G9
  rw [Int.mul_sub,Int.mul_comm (A7 ws) total];omega
 constructor
 ·refine Int.le_of_not_gt fun hlt=>?_
  have:A7 ws * G9 total (A7 ws) ws ws.length<0:=Int.mul_neg_of_pos_of_neg hS hlt
  omega
 ·refine Int.le_of_not_gt fun hgt=>?_
  have h1:A7 ws * ((ws.length:Int)+1)≤A7 ws * G9 total (A7 ws) ws ws.length:=Int.mul_le_mul_of_nonneg_left (by omega) (by omega)
  have h2:(ws.length:Int) * (A7 ws - 1)≤A7 ws * (ws.length:Int):=by
   rw [Int.mul_sub,Int.mul_one,Int.mul_comm];omega
  rw [Int.mul_add,Int.mul_one] at h1
  omega
theorem A3M {total:Int} {ws:List Int} (h:Q0 total ws) (hS:0<A7 ws) {k:Nat} (hk:k<ws.length):0≤shQ total (A7 ws) ws k∧shQ total (A7 ws) ws k≤total:=by
 have hw:=h.w0 _ (B3 hk)
 have hle:=I9 h.w0 (B3 hk)
 refine ⟨Int.ediv_nonneg (Int.mul_nonneg h.t0 hw) (by omega),?_⟩
 have h1:total * gI ws k≤total * A7 ws:=Int.mul_le_mul_of_nonneg_left hle h.t0
 have:shQ total (A7 ws) ws k<total+1:=(Int.ediv_lt_iff_lt_mul hS).2 (by rw [Int.add_mul,Int.one_mul];omega)
 omega
theorem A4u {total:Int} {ws:List Int} (h:Q0 total ws) (hS:0<A7 ws) {i:Nat} (hi:i≤ws.length):0≤A7 ((List.range i).map (shQ total (A7 ws) ws))∧A7 ((List.range i).map (shQ total (A7 ws) ws))≤total:=by
 have e:=A9p total (A7 ws) hS ws i hi
 have b:=A6J total (A7 ws) hS ws i
 have t:=K1 h.w0 i
 constructor
 ·exact C4 fun x hx=>by
   obtain ⟨k,hk,rfl⟩:=List.mem_map.1 hx
   exact (A3M h hS (by have:=List.mem_range.1 hk;omega)).1
 ·have h1:total * A7 (ws.take i)≤total * A7 ws:=Int.mul_le_mul_of_nonneg_left t h.t0
  refine Int.le_of_not_gt fun hgt=>?_
  have:A7 ws * (total+1)≤A7 ws * A7 ((List.range i).map (shQ total (A7 ws) ws)):=Int.mul_le_mul_of_nonneg_left (by omega) (by omega)
  rw [Int.mul_add,Int.mul_one,Int.mul_comm] at this
  omega
theorem A4d (qs:List Int) (R:List QE) (k:Nat):gI qs k≤gI (R3 qs R) k∧gI (R3 qs R) k≤gI qs k+R.length:=by
 unfold R3
 induction R generalizing qs with
 | nil=>simp
 | cons e R ih =>
  simp only [List.foldl_cons,List.length_cons]
  have h:=ih (qs.set e.2.toNat (gI qs e.2.toNat+1))
  have hs:gI qs k≤gI (qs.set e.2.toNat (gI qs e.2.toNat+1)) k∧gI (qs.set e.2.toNat (gI qs e.2.toNat+1)) k≤gI qs k+1:=by
   unfold gI
   simp only [List.getD_eq_getElem?_getD,List.getElem?_set]
   by_cases e1:e.2.toNat=k
   ·subst e1
    by_cases e2:e.2.toNat<qs.length
    ·simp [e2];omega
    ·simp [e2]
   ·rw [if_neg e1];omega
  omega
theorem L5 (f:Nat→Int) {n k:Nat} (hk:k<n):gI ((List.range n).map f) k=f k:=by
 unfold gI;simp [List.getD_eq_getElem?_getD,hk]
theorem C1a {l:List Int} {j:Nat} (hj:j<l.length) (x:Int) (k:Nat):gI (l.set j x) k=if k=j then x else gI l k:=by
 unfold gI
 simp only [List.getD_eq_getElem?_getD,List.getElem?_set]
 by_cases h:k=j
 ·subst h;simp [hj]
 ·rw [if_neg (fun e=>h e.symm),if_neg h]
theorem A8m (total:Int) (ws:List Int) (h:Q0 total ws) (st:St):S P 280 [eI total,A8 ws] st fun v st'=>v=.tuple [A8 (D7 total ws),eI 0]∧st'=st:=by
 have hlen:=h.len
 refine S.post (post:=fun v st'=>∃ (bo:Nat) (f:Nat→AV),st bo=none∧v=.tuple [.own 1 bo 0 ws.length,eI 0]∧D8 (upd st bo ⟨2,1,ws.length,f⟩) st'∧(D7 total ws).length=ws.length∧∀ k,k<ws.length→f k=eI (gI (D7 total ws) k)) ?_
  (fun v st' ⟨bo,f,h0,hv,hs,hl,hf⟩=>⟨_,st,⟨rfl,rfl⟩,by
   rw [hv]
   refine B0.tuple (B0.cons ((hs.shift _).trans ?_) (B0.keep _ _)) rfl
   have h2:=G5 (st:=upd st bo ⟨2,1,ws.length,f⟩) (e:=1) (b:=bo) (n:=ws.length) (f:=fun k=>eI (gI (D7 total ws) k)) (A0 ..) rfl (Nat.le_refl _) hf
   rw [A2O h0] at h2
   have e:A8 (D7 total ws)=.arr 1 ws.length (fun k=>eI (gI (D7 total ws) k)):=by unfold A8 B1;rw [hl]
   rw [e];exact h2⟩)
 refine G0 [] Tryz.func280 ?_
 refine I2 (C6q total ws h st) ?_
 refine mkO rfl rfl rfl (by show 8 * ws.length≤_;omega) (by omega) (by rfl) (fun bo hbo=>?_);conv=>whnf
 refine B9 (fun h1=>?_) (fun h1=>?_)<;>rw [h1]
 ·have h0:A7 ws=0:=by simpa using h1
  have hB:D7 total ws=ws.map fun _=>0:=if_pos h0
  conv=>whnf
  refine ⟨bo,_,hbo,rfl,D8.refl _,by rw [hB,List.length_map],fun k hk=>?_⟩
  rw [hB]
  show AV.int .i64 0=_
  rw [show gI (ws.map fun _=>(0:Int)) k=0 from E6 (fun _=>(0:Int)) ws hk]
 have hS:0<A7 ws:=by
  have h2:=C4 h.w0
  have h3:A7 ws≠0:=by simpa using h1
  omega
 have hB:D7 total ws=R3 ((List.range ws.length).map (shQ total (A7 ws) ws)) ((shR total (A7 ws) ws).take (G9 total (A7 ws) ws ws.length).toNat):=if_neg (by omega)
 have hsum:=h.sum
 have ht0:=h.t0
 have ht1:=h.t1
 conv=>whnf
 refine call (B0C _) (fun v st2 hv=>?_)
 obtain ⟨q,rfl,hq⟩:=hv
 conv=>whnf
 refine ⟨[0,6,8,9,10,35,36,37],fun m vs st'=>∃ (i:Nat) (f:Nat→AV),i≤ws.length∧m=ws.length - i∧vs=[eI total,eI (A7 ws),.own 1 bo 0 ws.length,eI (G9 total (A7 ws) ws i),.optr 1 q 0 0,A8 ws,eI ws.length,eI i] ∧
  (∀ k,k<i→f k=eI (shQ total (A7 ws) ws k))∧(∀ k,i≤k→f k=.int .i64 0)∧QSt (upd st bo ⟨2,1,ws.length,f⟩) q true ((List.range i).map (shE total (A7 ws) ws)) st',?_,?_⟩
 ·conv=>whnf
  exact ⟨_,0,fun _=>.int .i64 0,Nat.zero_le _,rfl,(by simp [G9,A7];rfl),fun k hk=>absurd hk (by omega),fun _ _=>rfl,hq⟩
 ·clear hq
  rintro m vs st' ⟨i,f,hi,rfl,rfl,hf1,hf2,hq⟩
  conv=>whnf
  cases h2:decide ((i:Int)<(ws.length:Int))
  ·have:=of_decide_eq_false h2
   obtain rfl:i=ws.length:=by omega
   obtain ⟨l0,l1⟩:=A2A h hS
   conv=>whnf
   refine ⟨[8,10,61,62],fun m vs st'=>∃ (t:Nat) (f:Nat→AV) (fl:Bool),(t:Int)≤G9 total (A7 ws) ws ws.length∧m=(G9 total (A7 ws) ws ws.length).toNat - t∧vs=[.own 1 bo 0 ws.length,.optr 1 q 0 0,eI (G9 total (A7 ws) ws ws.length),eI t] ∧
    (∀ k,k<ws.length→f k=eI (gI (R3 ((List.range ws.length).map (shQ total (A7 ws) ws)) ((shR total (A7 ws) ws).take t)) k))∧QSt (upd st bo ⟨2,1,ws.length,f⟩) q fl ((shR total (A7 ws) ws).drop t) st',?_,?_⟩
   ·conv=>whnf
    exact ⟨_,0,f,true,by omega,rfl,rfl,fun k hk=>by rw [hf1 k hk,List.take_zero];show _=eI (gI ((List.range ws.length).map _) k);rw [L5 _ hk],hq.perm (A1N total (A7 ws) ws).symm⟩
   ·clear hf1 hf2 hq f
    rintro m vs st' ⟨t,f,fl,ht,rfl,rfl,hf,hq⟩
    have hrl:=A6a total (A7 ws) ws
    have hby:st' bo=some ⟨2,1,ws.length,f⟩:=hq.sup bo _ (A0 ..)
    conv=>whnf
    cases h3:decide ((t:Int)<G9 total (A7 ws) ws ws.length)
    ·have h3':=of_decide_eq_false h3
     have hte:(G9 total (A7 ws) ws ws.length).toNat=t:=by omega
     conv=>whnf
     refine ⟨bo,f,hbo,rfl,hq.sup,by rw [hB,A1u];simp,fun k hk=>by rw [hB,hte];exact hf k hk⟩
    ·have h3':=of_decide_eq_true h3
     have htl:t<(shR total (A7 ws) ws).length:=by omega
     have hsplit:(shR total (A7 ws) ws).drop t=(shR total (A7 ws) ws)[t]::(shR total (A7 ws) ws).drop (t+1):=List.drop_eq_getElem_cons htl
     have htop:∀ y∈(shR total (A7 ws) ws).drop (t+1),H1 y (shR total (A7 ws) ws)[t]=false:=fun y hy=>by
      have:=(A6L total (A7 ws) ws).sublist (List.drop_sublist t _)
      rw [hsplit,List.pairwise_cons] at this
      exact this.1 y hy
     have hx:=A9t (List.getElem_mem htl)
     have htake:(shR total (A7 ws) ws).take (t+1)=(shR total (A7 ws) ws).take t++[(shR total (A7 ws) ws)[t]]:=List.take_succ_eq_append_getElem htl
     rw [hsplit] at hq
     generalize (shR total (A7 ws) ws)[t]=x at *
     have hb1:=A4d ((List.range ws.length).map (shQ total (A7 ws) ws)) ((shR total (A7 ws) ws).take t) x.2.toNat
     have hb2:=A3M h hS hx.2
     rw [L5 _ hx.2,List.length_take] at hb1;conv=>whnf
     refine call (A8z _ _ _ _ _ _ hq htop) (fun v st'' hv=>?_)
     obtain ⟨rfl,hq'⟩:=hv
     have hby':st'' bo=some ⟨2,1,ws.length,f⟩:=hq'.sup bo _ (A0 ..)
     conv=>whnf
     refine E1 ?_
     refine ldV hby' rfl (by omega) (v:=eI (gI (R3 ((List.range ws.length).map (shQ total (A7 ws) ws)) ((shR total (A7 ws) ws).take t)) x.2.toNat)) (by rw [Nat.zero_add];exact hf _ hx.2) ?_;conv=>whnf
     refine E1 ?_
     refine stV hby' rfl (by omega) (v:=eI (gI (R3 ((List.range ws.length).map (shQ total (A7 ws) ws)) ((shR total (A7 ws) ws).take t)) x.2.toNat)) (by rw [Nat.zero_add];exact hf _ hx.2) (by rfl) ?_;conv=>whnf
     refine G7 ?_
     have hg:=hq'.grow (bo':=bo) (y':=⟨2,1,ws.length,C9 f (0+x.2.toNat) (eI (IntKind.i64.wrap (gI (R3 ((List.range ws.length).map (shQ total (A7 ws) ws)) ((shR total (A7 ws) ws).take t)) x.2.toNat+1)))⟩) hbo (.inl rfl)
     rw [A9u] at hg
     refine ⟨(G9 total (A7 ws) ws ws.length).toNat - (t+1),by omega,t+1,_,false,by omega,rfl,by rw [B8 (by omega)],fun k hk=>?_,hg.2⟩
     rw [htake,A8I,C1a (by rw [A1u];simpa using hx.2),Nat.zero_add]
     by_cases e1:k=x.2.toNat
     ·rw [if_pos e1,e1,A5,A9 (by omega) (by omega)]
     ·rw [if_neg e1,H3 e1];exact hf k hk
  ·have hi':i<ws.length:=by have:=of_decide_eq_true h2;omega
   have hm:gI ws i∈ws:=B3 hi'
   have hby:st' bo=some ⟨2,1,ws.length,f⟩:=hq.sup bo _ (A0 ..)
   have hqb:=A4u h hS (show i≤ws.length by omega)
   have hqb':=A4u h hS (show i+1≤ws.length by omega)
   have hsr:=K9 (shQ total (A7 ws) ws) i
   conv=>whnf
   refine E1 ?_
   refine I2 (C5V total (gI ws i) (A7 ws) h.t0 h.t1 (h.w0 _ hm) (I9 h.w0 hm) hS h.sum _) ?_
   refine E1 ?_
   refine stV hby rfl (by omega) (v:=.int .i64 0) (by rw [show 0+(i:Int).toNat=i by omega];exact hf2 i (Nat.le_refl _)) (by rfl) ?_
   conv=>whnf
   have hg:=hq.grow (bo':=bo) (y':=⟨2,1,ws.length,C9 f (0+(i:Int).toNat) (eI (shQ total (A7 ws) ws i))⟩) hbo (.inl rfl)
   rw [A9u] at hg
   refine call (A7C _ q _ (total * gI ws i % A7 ws) i _ hg.2 (by rw [List.length_map,List.length_range];omega)) (fun v st'' hv=>?_)
   obtain ⟨rfl,hq'⟩:=hv
   conv=>whnf
   refine G7 ?_
   refine ⟨ws.length - (i+1),by omega,i+1,C9 f (0+(i:Int).toNat) (eI (shQ total (A7 ws) ws i)),by omega,rfl,?_,fun k hk=>?_,fun k hk=>?_,?_⟩
   ·rw [B8 (by omega)]
    have e:IntKind.i64.wrap (G9 total (A7 ws) ws i - total * gI ws i / A7 ws)=G9 total (A7 ws) ws (i+1):=by
     unfold G9
     have:total * gI ws i / A7 ws=shQ total (A7 ws) ws i:=rfl
     rw [this,A9 (by omega) (by omega)];omega
    rw [e]
   ·by_cases e1:k=i
    ·subst e1;rw [show 0+(k:Int).toNat=k by omega,A5]
    ·rw [H3 (by omega)];exact hf1 k (by omega)
   ·rw [H3 (by omega)];exact hf2 k (by omega)
   ·rw [List.range_succ,List.map_append];exact hq'
abbrev D1 (l:List B5):AV:=B1 3 W8 l
abbrev gU (l:List B5) (k:Nat):B5:=l.getD k default
abbrev E2 (us:List B5):List Int:=us.map B5.net
structure E8 (us:List B5):Prop where
 len:us.length≤100000
 pos:∀ u∈us,0≤u.net
 sum:A7 (E2 us)≤10000000000000
structure N0 (us:List B5) (mine:List Int):Prop where
 rng:∀ k,k<mine.length→0≤gI mine k∧(gI mine k).toNat<us.length
 opn:∀ k,k<mine.length→(gU us (gI mine k).toNat).opn=true
 inc:∀ k,k+1<mine.length→gI mine k<gI mine (k+1)
theorem E8.nets0 {us:List B5} (h:E8 us):∀ x∈E2 us,0≤x:=fun x hx=>by
 obtain ⟨u,hu,rfl⟩:=List.mem_map.1 hx
 exact h.pos u hu
theorem E8.le {us:List B5} (h:E8 us) {u:B5} (hu:u∈us):u.net≤10000000000000:=by
 have:=I9 h.nets0 (List.mem_map_of_mem (f:=B5.net) hu)
 have:=h.sum
 omega
theorem N0.lt {us:List B5} {mine:List Int} (h:N0 us mine):∀ j k,j<k→k<mine.length→gI mine j<gI mine k:=fun j k hjk hk=>by
 induction k with
 | zero=>omega
 | succ k ih =>
  rcases Nat.lt_or_ge j k with hlt | hge
  ·exact Int.lt_trans (ih hlt (by omega)) (h.inc k hk)
  ·have:j=k:=by omega
   subst this;exact h.inc j hk
theorem N0.len {us:List B5} {mine:List Int} (h:N0 us mine):mine.length≤us.length:=by
 have:∀ k,k<mine.length→(k:Int)≤gI mine k:=fun k=>by
  induction k with
  | zero=>intro hk;exact (h.rng 0 hk).1
  | succ k ih=>intro hk;have:=ih (by omega);have:=h.inc k hk;omega
 rcases Nat.eq_zero_or_pos mine.length with e | e
 ·omega
 ·have h1:=this (mine.length - 1) (by omega)
  have h2:=(h.rng (mine.length - 1) (by omega)).2
  omega
theorem C5Q (us:List B5) (h:E8 us) (st:St):S P 329 [D1 us] st fun v st'=>v=.bool true∧st'=st:=by
 have hlen:=h.len
 refine G0 [5] Tryz.func329 ?_
 refine B9 (fun h1=>?_) (fun h1=>?_)<;>rw [h1]<;>simp only [decide_eq_true_eq,decide_eq_false_iff_not] at h1
 ·exact absurd h1 (by omega)
 conv=>whnf
 refine ⟨[3,9,10,11],fun m vs st'=>∃ i:Nat,i≤us.length∧m=us.length - i∧vs=[eI (A7 ((E2 us).take i)),D1 us,eI us.length,eI i]∧st'=st,?_,?_⟩
 ·conv=>whnf
  exact ⟨_,0,Nat.zero_le _,rfl,rfl,rfl⟩
 ·rintro m vs st' ⟨i,hi,rfl,rfl,rfl⟩
  conv=>whnf
  cases h2:decide ((i:Int)<(us.length:Int))
  ·have:=of_decide_eq_false h2
   obtain rfl:i=us.length:=by omega
   have hs:=h.sum
   rw [show (E2 us).take us.length=E2 us from by rw [←List.length_map (f:=B5.net),List.take_length]];conv=>whnf
   refine ⟨?_,rfl⟩
   show AV.bool (decide _)=_
   rw [decide_eq_true hs]
  ·have hi':i<us.length:=by have:=of_decide_eq_true h2;omega
   have hu:gU us i∈us:=B3 hi'
   have p0:=h.pos _ hu
   have p1:=h.le hu
   have hsum:=h.sum
   have e1:=L6 (l:=E2 us) (i:=i) (by rw [List.length_map];exact hi')
   have e2:=K1 h.nets0 (i+1)
   have e3:=C4 (l:=(E2 us).take i) (fun x hx=>h.nets0 x (List.take_subset _ _ hx))
   have e4:gI (E2 us) i=(gU us i).net:=E6 B5.net us hi'
   have w:IntKind.i64.wrap (A7 ((E2 us).take i)+(gU us i).net)=A7 ((E2 us).take (i+1)):=by rw [e1,e4];exact A9 (by omega) (by omega)
   conv=>whnf
   refine E1 ?_
   refine B9 (fun h3=>?_) (fun h3=>?_)<;>rw [h3]
   ·exact absurd (of_decide_eq_true h3) (by show ¬(gU us i).net<0;omega)
   conv=>whnf
   refine B9 (fun h4=>?_) (fun h4=>?_)<;>rw [h4]
   ·exact absurd (of_decide_eq_true h4) (by show ¬(gU us i).net>10000000000000;omega)
   conv=>whnf
   refine G7 ?_
   exact ⟨us.length - (i+1),by omega,i+1,by omega,rfl,by rw [B8 (by omega),←w];rfl,rfl⟩
theorem A9O (us:List B5) (mine:List Int) (h:E8 us) (hm:N0 us mine) (st:St):S P 287 [D1 us,A8 mine] st fun v st'=>v=.bool true∧st'=st:=by
 have hlen:=h.len
 have hml:=hm.len
 refine G0 [] Tryz.func287 ?_
 refine I2 (C5Q us h st) ?_
 refine ⟨[0,5,11,12,13],fun m vs st'=>∃ i:Nat,i≤mine.length∧m=mine.length - i∧vs=[D1 us,eI (if i=0 then -1 else gI mine (i - 1)),A8 mine,eI mine.length,eI i]∧st'=st,?_,?_⟩
 ·conv=>whnf
  exact ⟨_,0,Nat.zero_le _,rfl,rfl,rfl⟩
 ·rintro m vs st' ⟨i,hi,rfl,rfl,rfl⟩
  conv=>whnf
  cases h2:decide ((i:Int)<(mine.length:Int))
  ·conv=>whnf
   exact ⟨rfl,rfl⟩
  ·have hi':i<mine.length:=by have:=of_decide_eq_true h2;omega
   have hr:=hm.rng i hi'
   have ho:=hm.opn i hi'
   have hlast:(if i=0 then -1 else gI mine (i - 1))<gI mine i:=by
    split
    ·omega
    ·exact hm.lt (i - 1) i (by omega) hi'
   conv=>whnf
   refine E1 ?_
   refine B9 (fun h3=>?_) (fun h3=>?_)<;>rw [h3]
   ·exact absurd (of_decide_eq_true h3) (by show ¬ gI mine i≤_;omega)
   conv=>whnf
   refine B9 (fun h4=>?_) (fun h4=>?_)<;>rw [h4]
   ·exact absurd (of_decide_eq_true h4) (by show ¬ gI mine i≥(us.length:Int);omega)
   conv=>whnf
   refine ⟨rfl,⟨by show 0≤gI mine i;omega,by show gI mine i<(us.length:Int);omega⟩,?_⟩;conv=>whnf
   rw [show (us.getD (mine.getD (i:Int).toNat default).toNat default).opn=true from ho];conv=>whnf
   refine G7 ?_
   exact ⟨mine.length - (i+1),by omega,i+1,by omega,rfl,by rw [B8 (by omega),if_neg (show ¬ i+1=0 by omega)];rfl,rfl⟩
def J2 (x rate:Int):Int:=(if 0≤rate∧rate≤10000 then V8 x rate 10000 1 else (0,2)).1
theorem S4 (x rate:Int):0≤J2 x rate∧J2 x rate≤100000000000000:=by
 unfold J2
 split
 ·unfold V8
  split
  ·exact ⟨Int.le_refl _,by decide⟩
  ·rename_i hb
   rw [Bool.not_eq_false] at hb
   simp only [S5,Bool.and_eq_true,decide_eq_true_eq,bne_iff_ne,ne_eq] at hb
   have hq:0≤x * rate / 10000:=Int.ediv_nonneg (Int.mul_nonneg hb.1.1.1.1.1.1 hb.1.1.1.1.2.1) (by omega)
   split
   ·exact ⟨Int.le_refl _,by decide⟩
   ·split
    ·exact ⟨Int.le_refl _,by decide⟩
    ·rename_i h1 h2
     refine ⟨?_,Int.le_of_not_gt h2⟩
     show 0≤S6 (x * rate / 10000) (x * rate % 10000) 10000 1
     unfold S6
     repeat' split
     all_goals omega
 ·exact ⟨Int.le_refl _,by decide⟩
def P4 (x rate amount:Int):Int:=if x<J2 x rate+amount then x else J2 x rate+amount
theorem C5a (x rate amount:Int) (h0:0≤amount) (h1:amount≤10000000000000) (st:St):S P 332 [eI x,eI rate,eI amount] st fun v st'=>v=eI (P4 x rate amount)∧st'=st:=by
 refine G0 [] Tryz.func332 ?_
 refine C5 (B6D x rate 1 st) ?_
 have hb:=S4 x rate
 have w:IntKind.i64.wrap (J2 x rate+amount)=J2 x rate+amount:=A9 (by omega) (by omega)
 conv=>whnf
 refine ⟨?_,rfl⟩
 show AV.int .i64 (if x<IntKind.i64.wrap (J2 x rate+amount) then x else IntKind.i64.wrap (J2 x rate+amount))=_
 rw [w];rfl
theorem Y7 {x rate amount:Int} (hx:0≤x) (h0:0≤amount):0≤P4 x rate amount∧P4 x rate amount≤x:=by
 have:=S4 x rate
 unfold P4
 split<;>omega
def B4h (p:B4) (nets:List Int):AV:=.agg [eS p.id,eI p.kind,eI p.prio,eS p.group,eS p.code,eB p.closes,D2 p.scope.skus,D2 p.scope.cats,eI p.least,eI p.rate,eI p.amount,eI p.buy,eI p.get,B1 3 T2 p.parts,B1 3 Q5 p.tiers,A8 nets]
theorem B5V (p:B4) (nets:List Int) (rate amount:Int) (h0:0≤amount) (h1:amount≤10000000000000) (hl:nets.length≤100000) (st:St):S P 330 [B4h p nets,eI rate,eI amount] st fun v st'=>v=A8 (nets.map fun x=>P4 x rate amount)∧st'=st:=by
 have he:A8 (nets.map fun x=>P4 x rate amount)=.arr 1 nets.length (fun k=>eI (gI (nets.map fun x=>P4 x rate amount) k)):=by unfold A8 B1;rw [List.length_map]
 rw [he]
 refine C0e (ty:=2) ?_
 refine G0 [3] Tryz.func330 ?_
 refine ⟨[1,2,7,11,12,13],fun m vs st'=>∃ (i:Nat) (sv:AV),i≤nets.length∧m=nets.length - i∧vs=[eI rate,eI amount,sv,A8 nets,eI nets.length,eI i]∧N3 2 1 (fun k=>eI (gI (nets.map fun x=>P4 x rate amount) k)) st i sv st',?_,?_⟩
 ·conv=>whnf
  exact ⟨_,0,.emp,Nat.zero_le _,rfl,rfl,N3.start _ _ _ _⟩
 ·rintro m vs st' ⟨i,sv,hi,rfl,rfl,hc⟩
  conv=>whnf
  cases h:decide ((i:Int)<(nets.length:Int))
  ·have:=of_decide_eq_false h
   obtain rfl:i=nets.length:=by omega
   conv=>whnf
   exact hc
  ·have hi':i<nets.length:=by have:=of_decide_eq_true h;omega
   conv=>whnf
   refine E1 ?_
   refine I2 (C5a (gI nets i) rate amount h0 h1 _) ?_
   refine N3.app (q:=r2) rfl rfl rfl rfl rfl ?_ (by show (i+1) * 8≤140737488355328;omega) hc (fun sv' st'' hc'=>?_)
   ·rw [show gI (nets.map fun x=>P4 x rate amount) i=P4 (gI nets i) rate amount from E6 (fun x=>P4 x rate amount) nets hi'];rfl
   conv=>whnf
   refine G7 ?_
   exact ⟨nets.length - (i+1),by omega,i+1,sv',by omega,rfl,by rw [B8 (by omega)],hc'⟩
def B4z (p:B4) (nets:List Int):List Int:=nets.map fun x=>P4 x p.rate 0
def B4y (p:B4) (nets:List Int):List Int:=nets.map fun x=>P4 x 0 p.amount
theorem B9a (p:B4) (nets:List Int) (hl:nets.length≤100000) (st:St):S P 291 [B4h p nets] st fun v st'=>v=A8 (B4z p nets)∧st'=st:=by
 refine G0 [1] Tryz.func291 ?_
 refine I2 (B5V p nets p.rate 0 (by omega) (by omega) hl st) ?_
 exact ⟨rfl,rfl⟩
theorem C0o (p:B4) (nets:List Int) (h0:0≤p.amount) (h1:p.amount≤10000000000000) (hl:nets.length≤100000) (st:St):S P 292 [B4h p nets] st fun v st'=>v=A8 (B4y p nets)∧st'=st:=by
 refine G0 [1] Tryz.func292 ?_
 refine I2 (B5V p nets 0 p.amount h0 h1 hl st) ?_
 exact ⟨rfl,rfl⟩
def N7 (l:List A0q) (x:Int):Option A0q:=l.reverse.find? fun t=>decide (t.least≤x)
theorem A4h {α : Type} [Inhabited α] {l:List α} {k:Nat} (hk:k<l.length):l.reverse.getD k default=l.getD (l.length - 1 - k) default:=by
 rw [List.getD_eq_getElem?_getD,List.getD_eq_getElem?_getD,List.getElem?_reverse hk]
theorem A7E {l:List A0q} {x:Int} {i:Nat} (hi:i<l.length) (h:∀ k,i<k→k<l.length→decide ((l.getD k default).least≤x)=false) (hp:decide ((l.getD i default).least≤x)=true):N7 l x=some (l.getD i default):=by
 have e:l.getD i default=l.reverse.getD (l.length - 1 - i) default:=by
  rw [A4h (by omega),show l.length - 1 - (l.length - 1 - i)=i by omega]
 rw [e] at hp ⊢
 exact A3z (by rw [List.length_reverse];omega) (fun k hk=>by rw [A4h (by omega)];exact h _ (by omega) (by omega)) hp
theorem A7D {l:List A0q} {x:Int} (h:∀ k,k<l.length→decide ((l.getD k default).least≤x)=false):N7 l x=none :=
 A8f fun k hk=>by rw [List.length_reverse] at hk;rw [A4h hk];exact h _ (by omega)
theorem B2h (l:List A0q) (x:Int) (hl:l.length≤100000) (st:St):S P 331 [B1 3 Q5 l,eI x] st fun v st'=>v=.tuple [Q5 ((N7 l x).getD default),.bool (N7 l x).isSome]∧st'=st:=by
 refine A2a ?_
 refine G0 [] Tryz.func331 ?_
 intro b hb;conv=>whnf
 have w0:IntKind.i64.wrap ((l.length:Int) - 1)=(l.length:Int) - 1:=A9 (by omega) (by omega)
 refine ⟨[0,1,4,6],fun m vs st'=>∃ (i:Int) (f:Nat→AV) (u:A0q),-1≤i∧i<l.length∧(∀ k:Nat,i<k→k<l.length→decide ((l.getD k default).least≤x)=false)∧m=(i+1).toNat∧vs=[B1 3 Q5 l,eI x,.optr 3 b 0 0,eI i]∧st'=upd st b ⟨250,3,1,f⟩∧f 0=Q5 u,?_,?_⟩
 ·conv=>whnf
  exact ⟨_,(l.length:Int) - 1,_,default,by omega,by omega,fun k h1 h2=>by omega,rfl,by rw [w0],rfl,rfl⟩
 ·rintro m vs st' ⟨i,f,u,h0,hi,hno,rfl,rfl,rfl,hf⟩
  conv=>whnf
  cases h:decide (i≥0)
  ·have:=of_decide_eq_false h
   have hr:N7 l x=none:=A7D fun k hk=>hno k (by omega) hk
   conv=>whnf
   refine N1 (A0 ..) hf ?_
   refine F2 (A0 ..) (A5 ..) ?_
   refine ⟨by rw [hr];rfl,((D8.refl st).upd hb).over hb⟩
  ·have hi0:=of_decide_eq_true h
   conv=>whnf
   refine E1 ?_
   refine B9 (fun h1=>?_) (fun h1=>?_)
   ·have hr:N7 l x=some (l.getD i.toNat default):=A7E (by omega) (fun k h2 h3=>hno k (by omega) h3) h1
    rw [h1];conv=>whnf
    refine E1 ?_
    refine N1 (A0 ..) hf ?_
    refine F2 (A0 ..) (A5 ..) ?_
    refine ⟨by rw [hr];rfl,((D8.refl st).upd hb).over hb⟩
   ·have w:IntKind.i64.wrap (i - 1)=i - 1:=A9 (by omega) (by omega)
    rw [h1];conv=>whnf
    refine G7 ?_
    refine ⟨i.toNat,by omega,i - 1,f,u,by omega,by omega,fun k h2 h3=>?_,by omega,by rw [w],rfl,hf⟩
    rcases (by omega:k=i.toNat∨i<k) with e | e
    ·rw [e];exact h1
    ·exact hno k e h3
def A6Y (l:List A0q):Prop:=l.length≤6∧∀ t∈l,0≤t.amount∧t.amount≤10000000000000
theorem Y9 {l:List A0q} (h:A6Y l) (x:Int):0≤((N7 l x).getD default).amount∧((N7 l x).getD default).amount≤10000000000000:=by
 cases hr:N7 l x with
 | none=>exact ⟨Int.le_refl _,by decide⟩
 | some t =>
  have:t∈l:=List.mem_reverse.1 (List.mem_of_find?_eq_some hr)
  exact h.2 t this
def A4z (p:B4) (nets:List Int):List Int:=match N7 p.tiers nets.length with
 | none=>[]
 | some t=>nets.map fun x=>P4 x t.rate t.amount
def A4A (p:B4) (nets:List Int):List Int:=match N7 p.tiers (A7 nets) with
 | none=>[]
 | some t=>D7 (P4 (A7 nets) t.rate t.amount) nets
theorem C3r (p:B4) (nets:List Int) (ht:A6Y p.tiers) (hl:nets.length≤100000) (st:St):S P 294 [B4h p nets] st fun v st'=>v=A8 (A4z p nets)∧st'=st:=by
 refine S.post (post:=fun v st'=>(v=A8 (A4z p nets)∨(A4z p nets=[]∧v=.emp))∧D8 st st') ?_ (fun v st' ⟨h,hs⟩=>⟨_,st,⟨rfl,rfl⟩,(hs.shift _).trans (by
  rcases h with rfl | ⟨h0,rfl⟩
  ·exact B0.keep _ _
  ·rw [h0];exact K4 1 _)⟩)
 have htl:=ht.1
 refine G0 [1] Tryz.func294 ?_
 refine I2 (B2h p.tiers nets.length (by omega) st) ?_
 intro b hb;conv=>whnf
 refine N1 (A0 ..) rfl ?_
 have hsup:∀ x y:R9,D8 st (upd (upd st b x) b y):=fun x y=>((D8.refl st).upd hb).over hb
 have hok:=Y9 ht nets.length
 cases hr:N7 p.tiers nets.length with
 | none =>
  have hB:A4z p nets=[]:=by unfold A4z;rw [hr]
  conv=>whnf
  exact ⟨.inr ⟨hB,rfl⟩,hsup _ _⟩
 | some t =>
  have hB:A4z p nets=nets.map fun x=>P4 x t.rate t.amount:=by unfold A4z;rw [hr]
  rw [hr] at hok;conv=>whnf
  refine ldV (A0 ..) rfl (by omega) (v:=Q5 t) (by rw [A5];rfl) ?_;conv=>whnf
  refine ldV (A0 ..) rfl (by omega) (v:=Q5 t) (by rw [A5];rfl) ?_;conv=>whnf
  refine I2 (B5V p nets t.rate t.amount hok.1 hok.2 hl _) ?_
  exact ⟨.inl (by rw [hB];rfl),hsup _ _⟩
theorem C4y (p:B4) (nets:List Int) (ht:A6Y p.tiers) (hl:nets.length≤100000) (h0:∀ x∈nets,0≤x) (hs:A7 nets≤10000000000000) (st:St):S P 293 [B4h p nets] st fun v st'=>v=A8 (A4A p nets)∧st'=st:=by
 refine S.post (post:=fun v st'=>(v=A8 (A4A p nets)∨(A4A p nets=[]∧v=.emp))∧D8 st st') ?_ (fun v st' ⟨h,hs⟩=>⟨_,st,⟨rfl,rfl⟩,(hs.shift _).trans (by
  rcases h with rfl | ⟨h0,rfl⟩
  ·exact B0.keep _ _
  ·rw [h0];exact K4 1 _)⟩)
 have htl:=ht.1
 have hsn:=C4 h0
 refine G0 [1] Tryz.func293 ?_
 refine ⟨[1,3,11,12,13],fun m vs st'=>∃ i:Nat,i≤nets.length∧m=nets.length - i∧vs=[.fptr (B4h p nets) 0,eI (A7 (nets.take i)),A8 nets,eI nets.length,eI i]∧st'=st,?_,?_⟩
 ·conv=>whnf
  exact ⟨_,0,Nat.zero_le _,rfl,rfl,rfl⟩
 ·rintro m vs st' ⟨i,hi,rfl,rfl,rfl⟩
  conv=>whnf
  cases h:decide ((i:Int)<(nets.length:Int))
  ·have:=of_decide_eq_false h
   obtain rfl:i=nets.length:=by omega
   rw [List.take_length];conv=>whnf
   refine I2 (B2h p.tiers (A7 nets) (by omega) _) ?_
   intro b hb;conv=>whnf
   refine N1 (A0 ..) rfl ?_
   have hsup:∀ x y:R9,D8 st' (upd (upd st' b x) b y):=fun x y=>((D8.refl st').upd hb).over hb
   have hok:=Y9 ht (A7 nets)
   cases hr:N7 p.tiers (A7 nets) with
   | none =>
    have hB:A4A p nets=[]:=by unfold A4A;rw [hr]
    conv=>whnf
    exact ⟨.inr ⟨hB,rfl⟩,hsup _ _⟩
   | some t =>
    have hB:A4A p nets=D7 (P4 (A7 nets) t.rate t.amount) nets:=by unfold A4A;rw [hr]
    rw [hr] at hok
    have hob:0≤P4 (A7 nets) t.rate t.amount∧P4 (A7 nets) t.rate t.amount≤A7 nets:=Y7 hsn hok.1
    have hW:Q0 (P4 (A7 nets) t.rate t.amount) nets:=⟨hob.1,by omega,hl,h0,by omega,fun e=>by omega⟩
    conv=>whnf
    refine ⟨[],[],[0,1,2,3,4,5,6,7,8,9,10,11,12,13],by kernel_rfl,?_⟩;conv=>whnf
    refine ldV (A0 ..) rfl (by omega) (v:=Q5 t) (by rw [A5];rfl) ?_;conv=>whnf
    refine ldV (A0 ..) rfl (by omega) (v:=Q5 t) (by rw [A5];rfl) ?_;conv=>whnf
    refine X9 (C5a (A7 nets) t.rate t.amount hok.1 hok.2 _) ?_
    refine X9 (A8m _ nets hW _) ?_
    exact ⟨.inl (by rw [hB];rfl),hsup _ _⟩
  ·have hi':i<nets.length:=by have:=of_decide_eq_true h;omega
   have e1:=L6 hi'
   have e2:=K1 h0 (i+1)
   have e3:=C4 (l:=nets.take i) (fun x hx=>h0 x (List.take_subset _ _ hx))
   have e4:0≤gI nets i:=h0 _ (B3 hi')
   have w:IntKind.i64.wrap (A7 (nets.take i)+gI nets i)=A7 (nets.take (i+1)):=by rw [e1];exact A9 (by omega) (by omega)
   conv=>whnf
   refine E1 ?_
   refine G7 ?_
   exact ⟨nets.length - (i+1),by omega,i+1,by omega,rfl,by rw [B8 (by omega),←w];rfl,rfl⟩
def A4M (st:St) (b:Nat) (us:List B5):Prop:=∃ f,st b=some ⟨152,3,us.length,f⟩∧∀ k,k<us.length→f k=W8 (gU us k)
theorem A4Z {us:List B5} {j:Nat} (hj:j<us.length) (x:B5) (k:Nat):gU (us.set j x) k=if k=j then x else gU us k:=by
 unfold gU
 simp only [List.getD_eq_getElem?_getD,List.getElem?_set]
 by_cases h:k=j
 ·subst h;simp [hj]
 ·rw [if_neg (fun e=>h e.symm),if_neg h]
def close1 (us:List B5) (i:Nat):List B5:=us.set i { gU us i with opn:=false }
def closeB (us:List B5) (mine:List Int):List B5:=mine.foldl (fun us i=>close1 us i.toNat) us
theorem A1w (us:List B5) (mine:List Int):(closeB us mine).length=us.length:=by
 unfold closeB
 induction mine generalizing us with
 | nil=>rfl
 | cons x l ih=>simp only [List.foldl_cons];rw [ih];simp [close1]
theorem A4M.set {st':St} {b:Nat} {us:List B5} {f:Nat→AV} (hf:∀ k,k<us.length→f k=W8 (gU us k)) {j:Nat} (hj:j<us.length) (x:B5) (h:st' b=some ⟨152,3,us.length,C9 f j (W8 x)⟩):A4M st' b (us.set j x):=by
 refine ⟨_,by rw [h,List.length_set],fun k hk=>?_⟩
 rw [List.length_set] at hk
 rw [A4Z hj]
 by_cases e:k=j
 ·rw [if_pos e,e,A5]
 ·rw [if_neg e,H3 e];exact hf k hk
theorem B2J (b:Nat) (us:List B5) (mine:List Int) (hm:∀ x∈mine,0≤x∧x.toNat<us.length) (hl:mine.length≤1000000) (st:St) (hb:A4M st b us) :
  S P 290 [.own 3 b 0 us.length,A8 mine] st fun v st'=>v=.tuple []∧A4M st' b (closeB us mine)∧∀ c,c≠b→st' c=st c:=by
 refine G0 [] Tryz.func290 ?_
 refine ⟨[0,6,7,8],fun m vs st'=>∃ i:Nat,i≤mine.length∧m=mine.length - i∧vs=[.own 3 b 0 us.length,A8 mine,eI mine.length,eI i]∧A4M st' b (closeB us (mine.take i))∧∀ c,c≠b→st' c=st c,?_,?_⟩
 ·conv=>whnf
  exact ⟨_,0,Nat.zero_le _,rfl,rfl,hb,fun _ _=>rfl⟩
 ·rintro m vs st' ⟨i,hi,rfl,rfl,⟨f,hst,hf⟩,hfr⟩
  have hlen:=A1w us (mine.take i)
  conv=>whnf
  cases h:decide ((i:Int)<(mine.length:Int))
  ·have:=of_decide_eq_false h
   obtain rfl:i=mine.length:=by omega
   rw [List.take_length] at hst hf;conv=>whnf
   exact ⟨rfl,⟨f,hst,hf⟩,hfr⟩
  ·have hi':i<mine.length:=by have:=of_decide_eq_true h;omega
   have hx:0≤gI mine i∧(gI mine i).toNat<us.length:=hm _ (B3 hi')
   conv=>whnf
   refine E1 ?_
   refine ⟨rfl,⟨by show 0≤gI mine i;exact hx.1,by show gI mine i<(us.length:Int);have:=hx.2;have:=hx.1;omega⟩,?_⟩;conv=>whnf
   refine stV hst rfl (by show 0+(gI mine i).toNat<_;have:=hx.2;omega) (v:=W8 (gU (closeB us (mine.take i)) (gI mine i).toNat)) (by rw [Nat.zero_add];exact hf _ (show (gI mine i).toNat<(closeB us (mine.take i)).length by have:=hx.2;omega)) (by rfl) ?_;conv=>whnf
   refine G7 ?_
   refine ⟨mine.length - (i+1),by omega,i+1,by omega,rfl,by rw [B8 (by omega)],?_,fun c hc=>by rw [A6 hc];exact hfr c hc⟩
   have e:closeB us (mine.take (i+1))=close1 (closeB us (mine.take i)) (gI mine i).toNat:=Q3 hi' _ _
   rw [e]
   refine A4M.set hf (by have:=hx.2;omega) _ ?_
   rw [A0,Nat.zero_add];rfl
theorem A9K (us:List B5) (hl:us.length≤100000) (st:St):S P 286 [D1 us] st fun v st'=>N3 152 3 (fun k=>W8 (gU us k)) st us.length v st':=by
 refine SyW [] Tryz.func286 ?_
 cases us with
 | nil =>
  conv=>whnf
  refine ⟨?_,?_⟩
  ·conv=>whnf
   exact N3.start _ _ _ _
  ·conv=>whnf
   refine apE rfl rfl rfl rfl rfl (by show 0 * 24≤_;omega) (fun _=>?_) (fun h=>absurd h (by show ¬ 0<0;omega));conv=>whnf
   exact N3.start _ _ _ _
 | cons u us =>
  conv=>whnf
  refine N3.apps (n:=0) (m:=us.length+1) (q:=B9e) (f:=fun k=>W8 (gU (u::us) k)) rfl rfl rfl rfl rfl (fun i hi=>by rw [Nat.zero_add]) (by show (0+(us.length+1)) * 24≤140737488355328;simp only [List.length_cons] at hl;omega) (N3.start _ _ _ _) (fun sv' st'' hc'=>?_);conv=>whnf
  rw [Nat.zero_add] at hc'
  exact hc'
theorem B0.agg {a b:List AV} {st st':St} (h:B0 a st b st'):B0 [.agg a] st [.agg b] st':=B0.one fun w c hS hr=>by
 cases hr with
 | agg cs vs hlen hg =>
  obtain ⟨h1,h2,h3⟩:=h w vs hS ⟨hlen,hg⟩
  exact ⟨h1,h3,.agg _ _ h2.1 h2.2⟩
theorem B0.last {v v':AV} {s t:St} (h:B0 [v] s [v'] t):∀ cs:List AV,B0 (cs++[v]) s (cs++[v']) t
 | []=>h
 | x::cs=>B0.cons (B0.keep [x] s) (B0.last h cs)
def A4F (st:St) (us:List B5) (sv:AV) (st':St):Prop:=D8 st st'∧((us=[]∧sv=.emp)∨∃ b,st b=none∧sv=.own 3 b 0 us.length∧A4M st' b us)
theorem A4F.shift {st:St} {us:List B5} {sv:AV} {st':St} (h:A4F st us sv st'):B0 [sv] st' [D1 us] st:=by
 obtain ⟨hs,⟨rfl,rfl⟩ | ⟨b,hb,rfl,f,hst,hf⟩⟩:=h
 ·exact (hs.shift _).trans (K4 3 _)
 ·have hsup:D8 (upd st b ⟨152,3,us.length,f⟩) st':=fun c x hc=>by
   by_cases e:c=b
   ·subst e;rw [A0] at hc;rw [hst];exact hc
   ·rw [A6 e] at hc;exact hs c x hc
  have h2:=G5 (st:=upd st b ⟨152,3,us.length,f⟩) (e:=3) (b:=b) (n:=us.length) (f:=fun k=>W8 (gU us k)) (A0 ..) rfl (Nat.le_refl _) hf
  rw [A2O hb] at h2
  exact (hsup.shift _).trans h2
theorem A4F.ofCol {st:St} {us:List B5} {sv:AV} {st':St} (h:N3 152 3 (fun k=>W8 (gU us k)) st us.length sv st'):A4F st us sv st':=by
 rcases h with ⟨h0,rfl,rfl⟩ | ⟨h0,b,g,hb,rfl,rfl,hg⟩
 ·exact ⟨D8.refl _,.inl ⟨List.eq_nil_of_length_eq_zero h0,rfl⟩⟩
 ·exact ⟨(D8.refl st).upd hb,.inr ⟨b,hb,rfl,g,A0 ..,hg⟩⟩
def F0 (us:List B5) (mine:List Int):List Int:=mine.map fun i=>(gU us i.toNat).net
def O0 (p:B4) (nets:List Int):List Int:=if p.kind=1 then B4z p nets else if p.kind=2 then B4y p nets else if p.kind=5 then A4A p nets else A4z p nets
def less1 (us:List B5) (i:Nat) (x:Int):List B5:=us.set i { gU us i with net:=(gU us i).net - x }
def D5 (us:List B5) (mine offs:List Int):Nat→List B5
 | 0=>us
 | k+1=>less1 (D5 us mine offs k) (gI mine k).toNat (gI offs k)
def X4 (p:B4) (us:List B5) (mine:List Int):List B5×Int :=
 let offs:=O0 p (F0 us mine)
 let us1:=D5 us mine offs offs.length
 (if (decide (A7 offs>0)&&p.closes)=true then closeB us1 mine else us1,A7 offs)
theorem P0 (us:List B5) (mine offs:List Int) (k:Nat):(D5 us mine offs k).length=us.length:=by
 induction k with
 | zero=>rfl
 | succ k ih=>unfold D5 less1;rw [List.length_set,ih]
theorem A8W {us:List B5} {mine offs:List Int} (hm:N0 us mine):∀ k,k≤mine.length→∀ j,j<us.length→(∀ i,i<k→j≠(gI mine i).toNat)→gU (D5 us mine offs k) j=gU us j
 | 0,_,j,hj,_=>rfl
 | k+1,hk,j,hj,hne=>by
  have ih:=A8W (offs:=offs) hm k (by omega) j hj (fun i hi=>hne i (by omega))
  unfold D5 less1
  rw [A4Z (by rw [P0];exact (hm.rng k (by omega)).2),if_neg (hne k (by omega))]
  exact ih
theorem B6X {us:List B5} {mine offs:List Int} (hm:N0 us mine) {k:Nat} (hk:k<mine.length):gU (D5 us mine offs k) (gI mine k).toNat=gU us (gI mine k).toNat :=
 A8W hm k (by omega) _ (hm.rng k hk).2 fun i hi=>by
  have h1:=hm.lt i k hi hk
  have h2:=(hm.rng i (by omega)).1
  omega
theorem B5v {l:List Int} {j:Nat} (hj:j<l.length) (x:Int):A7 (l.set j x)=A7 l - gI l j+x:=by
 have e1:l.set j x=l.take j++x::l.drop (j+1):=List.set_eq_take_append_cons_drop (l:=l) (i:=j) (a:=x) |>.trans (by rw [if_pos hj])
 have e2:l=l.take j++gI l j::l.drop (j+1):=by
  have:gI l j=l[j]:=by simp [gI,hj]
  rw [this,←List.drop_eq_getElem_cons hj,List.take_append_drop]
 have c1:∀ (y:Int) (r:List Int),A7 (y::r)=y+A7 r:=fun y r=>by
  have:=G6 [y] r
  rw [List.singleton_append] at this
  rw [this];simp [A7]
 have h2:A7 l=A7 (l.take j)+(gI l j+A7 (l.drop (j+1))):=by
  conv=>lhs;rw [e2]
  rw [G6,c1]
 rw [e1,G6,c1,h2];omega
theorem B5L {qs:List Int} {R:List QE} (h:∀ e∈R,e.2.toNat<qs.length):A7 (R3 qs R)=A7 qs+R.length:=by
 unfold R3
 induction R generalizing qs with
 | nil=>simp
 | cons e R ih =>
  simp only [List.foldl_cons,List.length_cons]
  have he:=h e (List.mem_cons_self ..)
  rw [ih (fun x hx=>by rw [List.length_set];exact h x (List.mem_cons_of_mem _ hx)),B5v he]
  omega
theorem R6 {total:Int} {ws:List Int} (h:Q0 total ws):A7 (D7 total ws)=total∧(D7 total ws).length=ws.length∧∀ x∈D7 total ws,0≤x:=by
 unfold D7
 split
 ·rename_i h0
  have ht:=h.none h0
  refine ⟨?_,by simp,fun x hx=>?_⟩
  ·rw [ht]
   have:∀ l:List Int,A7 (l.map fun _=>(0:Int))=0:=fun l=>by
    induction l with
    | nil=>rfl
    | cons x l ih =>
     have:=G6 [(0:Int)] (l.map fun _=>(0:Int))
     rw [List.singleton_append] at this
     rw [List.map_cons,this,ih];rfl
   exact this ws
  ·obtain ⟨_,_,rfl⟩:=List.mem_map.1 hx;exact Int.le_refl _
 ·rename_i h0
  have hS:0<A7 ws:=by have:=C4 h.w0;omega
  obtain ⟨l0,l1⟩:=A2A h hS
  have hR:=A6a total (A7 ws) ws
  have hmem:∀ e∈(shR total (A7 ws) ws).take (G9 total (A7 ws) ws ws.length).toNat,e.2.toNat<((List.range ws.length).map (shQ total (A7 ws) ws)).length:=fun e he=>by
   rw [List.length_map,List.length_range];exact (A9t (List.take_subset _ _ he)).2
  refine ⟨?_,by rw [A1u];simp,fun x hx=>?_⟩
  ·rw [B5L hmem,List.length_take]
   unfold G9 at *
   omega
  ·obtain ⟨k,hk,rfl⟩:=E3 hx
   rw [A1u,List.length_map,List.length_range] at hk
   have hb:=(A4d ((List.range ws.length).map (shQ total (A7 ws) ws)) ((shR total (A7 ws) ws).take (G9 total (A7 ws) ws ws.length).toNat) k).1
   have hq:=(A3M h hS hk).1
   rw [L5 _ hk] at hb
   show 0≤gI _ k
   omega
theorem A6N {l:List Int} {f:Int→Int} (h:∀ x∈l,0≤f x∧f x≤x):A7 (l.map f)≤A7 l∧∀ y∈l.map f,0≤y:=by
 have c1:∀ (y:Int) (r:List Int),A7 (y::r)=y+A7 r:=fun y r=>by
  have:=G6 [y] r
  rw [List.singleton_append] at this
  rw [this];simp [A7]
 refine ⟨?_,fun y hy=>by obtain ⟨x,hx,rfl⟩:=List.mem_map.1 hy;exact (h x hx).1⟩
 induction l with
 | nil=>exact Int.le_refl _
 | cons x l ih =>
  rw [List.map_cons,c1,c1]
  have:=ih (fun y hy=>h y (List.mem_cons_of_mem _ hy))
  have:=(h x (List.mem_cons_self ..)).2
  omega
structure A4K (p:B4):Prop where
 fit:P2 p
 right:H7 p=true
 kind:p.kind=1∨p.kind=2∨p.kind=5∨p.kind=6
 tiers:p.kind=5∨p.kind=6→A6Y p.tiers
 amount:p.kind=2→0≤p.amount∧p.amount≤10000000000000
theorem A4m {p:B4} (hp:A4K p) {nets:List Int} (h0:∀ x∈nets,0≤x) (hs:A7 nets≤10000000000000) (hl:nets.length≤100000) :
  A7 (O0 p nets)≤A7 nets∧(O0 p nets).length≤nets.length∧∀ y∈O0 p nets,0≤y:=by
 have hn:=C4 h0
 rcases hp.kind with e | e | e | e
 ·have:O0 p nets=B4z p nets:=by unfold O0;rw [if_pos e]
  rw [this]
  have h:=A6N (l:=nets) (f:=fun x=>P4 x p.rate 0) (fun x hx=>Y7 (h0 x hx) (by omega))
  exact ⟨h.1,by simp [B4z],h.2⟩
 ·have:O0 p nets=B4y p nets:=by unfold O0;rw [if_neg (by omega),if_pos e]
  rw [this]
  have h:=A6N (l:=nets) (f:=fun x=>P4 x 0 p.amount) (fun x hx=>Y7 (h0 x hx) (hp.amount e).1)
  exact ⟨h.1,by simp [B4y],h.2⟩
 ·have:O0 p nets=A4A p nets:=by unfold O0;rw [if_neg (by omega),if_neg (by omega),if_pos e]
  rw [this]
  have hok:=Y9 (hp.tiers (.inl e)) (A7 nets)
  unfold A4A
  split
  ·exact ⟨hn,by simp,fun y hy=>by cases hy⟩
  ·rename_i t hr
   rw [hr] at hok
   have hob:0≤P4 (A7 nets) t.rate t.amount∧P4 (A7 nets) t.rate t.amount≤A7 nets:=Y7 hn hok.1
   have hW:Q0 (P4 (A7 nets) t.rate t.amount) nets:=⟨hob.1,by omega,hl,h0,by omega,fun e=>by omega⟩
   obtain ⟨a,b,c⟩:=R6 hW
   exact ⟨by rw [a];exact hob.2,by omega,c⟩
 ·have:O0 p nets=A4z p nets:=by unfold O0;rw [if_neg (by omega),if_neg (by omega),if_neg (by omega)]
  rw [this]
  have hok:=Y9 (hp.tiers (.inr e)) nets.length
  unfold A4z
  split
  ·exact ⟨hn,by simp,fun y hy=>by cases hy⟩
  ·rename_i t hr
   rw [hr] at hok
   have h:=A6N (l:=nets) (f:=fun x=>P4 x t.rate t.amount) (fun x hx=>Y7 (h0 x hx) hok.1)
   exact ⟨h.1,by simp,h.2⟩
end Go.Proofs.YtbajhapmlfbelaaGreat
