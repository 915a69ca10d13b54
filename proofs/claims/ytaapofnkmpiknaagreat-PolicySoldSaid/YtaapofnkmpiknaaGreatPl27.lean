/- Part 27 of the proof: contracts of the functions that the law reaches -/
import Derived.Test.YtaapofnkmpiknaaGreatPl26
set_option maxRecDepth 100000
set_option linter.unusedVariables false
set_option linter.unusedSimpArgs false
namespace Go.Proofs.YtaapofnkmpiknaaGreat
open Go Go.Ab
attribute [local irreducible] upd del
def A1s (o:List Int) (a:Nat) (x:Int):List Int:=o.take a++x::o.drop a
theorem V0 {o:List Int} {a:Nat} {x:Int} (h:a≤o.length):(A1s o a x).length=o.length+1:=by
 unfold A1s;simp;omega
theorem A9v {o:List Int} {a:Nat} {x:Int} (h:a≤o.length) {j:Nat} (hj:j<o.length+1):gI (A1s o a x) j=if j<a then gI o j else if j=a then x else gI o (j - 1):=by
 unfold A1s gI
 simp only [D6D]
 by_cases h1:j<a
 ·rw [if_pos h1,D7b (by rw [D6N];omega),D6S h1]
 ·rw [if_neg h1,D7a (by rw [D6N];omega),D6N,D9K h]
  by_cases h2:j=a
  ·rw [if_pos h2,h2,Nat.sub_self];rfl
  ·rw [if_neg h2,show j - a=(j - 1 - a)+1 by omega,D9n,D8o,show a+(j - 1 - a)=j - 1 by omega]
theorem A7J (o:List Int) (a:Nat) (x:Int):(A1s o a x).Perm (o++[x]):=by
 unfold A1s
 refine List.perm_middle.trans ?_
 rw [D8U]
 exact (List.perm_append_comm (l₁:=[x]) (l₂:=o))
theorem A5h {R:Int→Int→Prop} {o:List Int} {a:Nat} {x:Int} (hs:o.Pairwise R) (h1:∀ k,k<a→k<o.length→R (gI o k) x) (h2:∀ k,a≤k→k<o.length→R x (gI o k)):(A1s o a x).Pairwise R:=by
 unfold A1s
 rw [List.pairwise_append,D8p]
 refine ⟨hs.sublist (List.take_sublist ..),⟨fun y hy=>?_,hs.sublist (D9q ..)⟩,fun y hy z hz=>?_⟩
 ·obtain ⟨k,hk,rfl⟩:=D8D hy
  rw [D9k] at hk
  have:=h2 (a+k) (by omega) (by omega)
  rw [List.getElem_drop];simpa [gI,show a+k<o.length by omega] using this
 ·obtain ⟨k,hk,rfl⟩:=D8D hy
  rw [D6N] at hk
  rcases D8f.1 hz with rfl | hz
  ·have:=h1 k (by omega) (by omega)
   rw [List.getElem_take];simpa [gI,show k<o.length by omega] using this
  ·obtain ⟨j,hj,rfl⟩:=D8D hz
   rw [D9k] at hj
   rw [List.getElem_take,List.getElem_drop]
   exact D8n.1 hs k (a+j) (by omega) (by omega) (by omega)
theorem B3W {R:Int→Int→Prop} {o:List Int} (hs:o.Pairwise R) {i j:Nat} (hij:i<j) (hj:j<o.length):R (gI o i) (gI o j):=by
 have:=D8n.1 hs i j (by omega) hj hij
 simpa [gI,show i<o.length by omega,hj] using this
theorem A8J {o p:List Int} (h:o.Perm p) {P:Int→Prop} (hp:∀ x∈p,P x) {k:Nat} (hk:k<o.length):P (gI o k):=hp _ (h.subset (A7 hk))
def B2l (ranks:List Int) (x:Int):QE:=(gI ranks x.toNat,x)
def B4n (ranks:List Int) (x y:Int):Prop:=G6 (B2l ranks y) (B2l ranks x)=false
def A4x (n:Nat):List Int:=(List.range n).map Int.ofNat
theorem B8y (n:Nat):A4x (n+1)=A4x n++[(n:Int)]:=by unfold A4x;rw [D8m,D7k];rfl
theorem A6X {n:Nat} {x:Int} (h:x∈A4x n):0≤x∧x.toNat<n:=by
 obtain ⟨k,hk,rfl⟩:=D6Z.1 h
 have:=D6T.1 hk
 show 0≤(k:Int)∧(k:Int).toNat<n
 omega
theorem A9A (n:Nat):(A4x n).length=n:=by unfold A4x;simp
theorem B6T (ranks:List Int) (hl:ranks.length≤1000000) (st:St):S P 258 [B0 ranks] st fun v st'=>(∃ o:List Int,o.Perm (A4x ranks.length)∧o.Pairwise (B4n ranks)∧v=B0 o)∧st'=st:=by
 refine S.post (post:=fun v st'=>∃ o:List Int,o.Perm (A4x ranks.length)∧o.Pairwise (B4n ranks)∧E6 3 1 eI o st v st') ?_ (fun v st' ⟨o,h1,h2,h3⟩=>⟨_,st,⟨⟨o,h1,h2,rfl⟩,rfl⟩,h3.shift⟩)
 refine F4 [] Tryz.func258 ?_
 refine lp ranks.length [0,3,4] (fun i vs s=>∃ o sv,o.Perm (A4x i)∧o.Pairwise (B4n ranks)∧vs=[B0 ranks,sv,eI i]∧E6 3 1 eI o st sv s) ?_ ?_
 ·conv=>whnf
  exact ⟨[],.emp,.refl _,.nil,rfl,E6.start _ _ _ _⟩
 ·rintro i vs st' hi ⟨o,sv,hp,hs,rfl,hc0⟩
  conv=>whnf
  cases h:decide ((i:Int)<(ranks.length:Int))
  ·obtain rfl:=C5 h hi
   conv=>whnf
   exact ⟨o,hp,hs,hc0⟩
  ·have hi':=E2 h
   have hol:o.length=i:=by rw [hp.length_eq,A9A]
   have hom:∀ {k:Nat},k<o.length→0≤gI o k∧(gI o k).toNat<i:=fun hk=>A8J hp (fun x hx=>A6X hx) hk
   conv=>whnf
   refine lp o.length [0,3,4,5] (fun a vs s=>(∀ k,k<a→gI ranks (gI o k).toNat≥gI ranks i)∧vs=[B0 ranks,sv,eI i,eI a]∧s=st') ?_ ?_
   ·conv=>whnf
    exact ⟨fun k hk=>absurd hk (by omega),rfl,rfl⟩
   ·rintro a vs s ha ⟨hok,rfl,rfl⟩
    conv=>whnf
    refine ⟨[],[],List.range 18,by kernel_rfl,?_⟩
    have hc1:=hc0
    have hB:(a=o.length∨gI ranks (gI o a).toNat<gI ranks i)→(A1s o a (i:Int)).Perm (A4x (i+1))∧(A1s o a (i:Int)).Pairwise (B4n ranks):=fun hB=>by
     refine ⟨by rw [B8y];exact (A7J o a i).trans (hp.append_right _),A5h hs (fun k hk hk2=>?_) (fun k hk hk2=>?_)⟩
     ·have:=hok k hk
      have:=hom hk2
      unfold B4n B2l;rw [S4];simp only [D6R];omega
     ·rcases hB with hB | hB
      ·omega
      ·have h6:gI ranks (gI o k).toNat≤gI ranks (gI o a).toNat:=by
        rcases D9G hk with e | e
        ·rw [e];exact D7l _
        ·have:=B3W hs e hk2
         unfold B4n B2l at this;rw [S4] at this;simp only at this;omega
       unfold B4n B2l;rw [S4];simp only [D6R];omega
    rcases hc1 with ⟨h0,rfl,hst⟩ | ⟨h0,b,g,hb,rfl,rfl,hg⟩
    case' inl =>
     have hst':=hst.symm
     subst hst'
     have hS:=hB (.inl (by omega))
     have hd:decide ((a:Int)<0)=false:=D6L (by omega)
     conv=>whnf
     rw [hd];conv=>whnf
    case' inr =>
     conv=>whnf
     cases hd:decide ((a:Int)<(o.length:Int))
     case' false =>
      have hS:=hB (.inl (by have:=D6G hd;omega))
      conv=>whnf
     case' true =>
      have hao:=E2 hd
      have hoa:=hom hao
      have hga:g (0+(a:Int).toNat)=eI (gI o a):=by rw [show 0+(a:Int).toNat=a by omega];exact hg a hao
      conv=>whnf
      refine E7 ?_
      refine J6 (A0 ..) hga ?_
      refine E7 ?_
      refine E7 ?_
      refine B9 (fun h2=>?_) (fun h2=>?_)<;>rw [h2]
      case' refine_1 =>
       conv=>whnf
       refine G2 ?_
       refine nx hao ⟨H5 hok (D6H h2),by rw [B4 (by omega)],rfl⟩
      case' refine_2 =>
       have hS:=hB (.inr (by have h7:=D6G h2;rw [D6R] at h7;exact Int.not_le.1 h7))
       conv=>whnf
    all_goals
     refine E6.app (q:=r3) (y:=0) (enc:=eI) rfl rfl rfl rfl rfl rfl (by show (_+1) * 8≤140737488355328;omega) hc0 (fun sv' s' hc'=>?_)
     have hln:(o++[0]).length=o.length+1:=by simp
     rcases hc' with ⟨h1,_⟩ | ⟨h1,b',g',hb',rfl,rfl,hg'⟩
     ·omega
     generalize (o++[0]).length=N at *
     subst hln;conv=>whnf
     have hw0:IntKind.i64.wrap (((o.length+1:Nat):Int) - 1)=((o.length - 0:Nat):Int):=by rw [A5 (by omega) (by omega)];omega
     rw [hw0]
     refine lp (o.length - a) [0,3,4,5,6] (fun r vs s=>vs=[B0 ranks,.own 1 b' 0 (o.length+1),eI i,eI a,eI (o.length - r:Nat)]∧∃ f,s=upd st b' ⟨3,1,o.length+1,f⟩∧∀ j,j<o.length+1→f j=eI (if o.length - r<j then gI o (j - 1) else gI (o++[0]) j)) ?_ ?_
     ·conv=>whnf
      exact ⟨rfl,g',rfl,fun j hj=>by rw [if_neg (by omega)];exact hg' j hj⟩
     ·clear hg' hc0
      rintro r vs s hr ⟨rfl,f,rfl,hf⟩
      conv=>whnf
      cases hk:decide (((o.length - r:Nat):Int)>(a:Int))
      ·have hra:r=o.length - a:=by have:=D6G hk;omega
       conv=>whnf
       refine E7 ?_
       refine Z7 (A0 ..) (hf _ (by omega)) ?_
       refine G2 ?_
       rw [A7j]
       refine nx hi' ⟨A1s o a (i:Int),.own 1 b' 0 (o.length+1),hS.1,hS.2,by rw [B4 (by omega)],?_⟩
       refine .inr ⟨by rw [V0 ha];omega,b',_,hb',by rw [V0 ha],by rw [V0 ha],fun j hj=>?_⟩
       rw [V0 ha] at hj
       show I4 f (0+(a:Int).toNat) _ j=eI (gI (A1s o a (i:Int)) j)
       rw [A9v ha hj]
       by_cases hja:j=a
       ·subst hja
        rw [show 0+((j:Nat):Int).toNat=j by omega,A4];show eI (i:Int)=_;rw [if_neg (by omega),if_pos rfl]
       ·rw [H4 (by omega),hf j hj]
        congr 1
        by_cases hj2:j<a
        ·rw [if_neg (by omega),if_pos hj2,N5 (by omega)]
        ·rw [if_pos (by omega),if_neg hj2,if_neg hja]
      ·have hra:a<o.length - r:=by have:=D6H hk;omega
       have hw1:=A7x (i:=o.length - r) (by omega) (by omega)
       conv=>whnf
       rw [hw1]
       refine E7 ?_
       refine ldV (v:=eI (gI o (o.length - r - 1))) (A0 ..) rfl (by omega) (by rw [hf _ (by omega),if_neg (by omega),N5 (by omega)];congr 2;omega) ?_;conv=>whnf
       refine E7 ?_
       refine Z7 (A0 ..) (hf _ (by omega)) ?_
       refine G2 ?_
       rw [A7j,hw1]
       refine nx (by omega) ⟨by rw [show o.length - (r+1)=o.length - r - 1 by omega],_,rfl,fun j hj=>?_⟩
       by_cases hj2:j=o.length - r
       ·subst hj2
        rw [show 0+((o.length - r:Nat):Int).toNat=o.length - r by omega,A4];show eI (gI o (o.length - r - 1))=_;rw [if_pos (by omega)]
       ·rw [H4 (by omega),hf j hj]
        congr 1
        by_cases hj3:o.length - r<j
        ·rw [if_pos hj3,if_pos (by omega)]
        ·rw [if_neg hj3,if_neg (by omega)]
def A0N (a b:B1):Bool:=if (a.prio != b.prio)=true then decide (a.prio>b.prio) else slt a.id b.id
theorem C4K (a b:B1) (st:St):S P 214 [B7 a,B7 b] st fun v st'=>v=.bool (A0N a b)∧st'=st:=by
 refine F4 [2,3] Tryz.func214 ?_
 unfold A0N
 refine B9 (fun h=>?_) (fun h=>?_)<;>rw [h]<;>(conv=>whnf)<;>exact ⟨rfl,rfl⟩
theorem A3o (a b:B1):A0N a b=true↔a.prio>b.prio∨(a.prio=b.prio∧slt a.id b.id=true):=by
 unfold A0N
 split
 ·rename_i h;simp only [D9p,ne_eq] at h;rw [D6F];omega
 ·rename_i h;simp only [D9p,ne_eq,Classical.not_not] at h;constructor
  ·exact fun h2=>.inr ⟨h,h2⟩
  ·rintro (h2 | h2)
   ·omega
   ·exact h2.2
theorem A9U {a b:B1} (h:A0N a b=true):A0N b a=false:=by
 rw [←D7K,A3o]
 rw [A3o] at h
 rcases h with h | ⟨h1,h2⟩
 ·rintro (h3 | h3)<;>omega
 ·rintro (h3 | h3)
  ·omega
  ·rw [A7e h2] at h3;cases h3.2
theorem A8D {a b c:B1} (h:A0N b a=false) (k:A0N c b=false):A0N c a=false:=by
 rw [←D7K,A3o] at *
 rintro (h3 | ⟨h3,h4⟩)
 ·by_cases e:b.prio>a.prio
  ·exact h (.inl e)
  ·exact k (.inl (by omega))
 ·by_cases e:b.prio=a.prio
  ·have h5:slt b.id a.id=false:=by rw [←D7K];exact fun e2=>h (.inr ⟨e,e2⟩)
   have h6:slt c.id b.id=false:=by rw [←D7K];exact fun e2=>k (.inr ⟨by omega,e2⟩)
   rw [A4I h5 h6] at h4;cases h4
  ·by_cases e2:b.prio>a.prio
   ·exact h (.inl e2)
   ·exact k (.inl (by omega))
def A4l (l:List B1) (x y:Int):Prop:=A0N (F2 l y) (F2 l x)=false
theorem B7m (l:List Int):(C4 l).Pairwise (·≤·):=by
 have:=D8W (le:=fun a b:Int=>decide (a≤b)) (fun a b c h1 h2=>by simp only [D6F] at *;omega) (fun a b=>by simp only [D7J,D6F];omega) l
 exact this.imp (fun h=>by simpa using h)
theorem C2a (l:List Int) (hl:l.length≤1000000) (st:St):S P 286 [B0 l] st fun v st'=>v=B0 (C4 l)∧st'=st:=by
 refine A0L (ty:=3) ?_
 refine F4 [] Tryz.func286 ?_
 refine lp l.length [0,3,4] (fun i vs s=>∃ o sv,o.Perm (l.take i)∧o.Pairwise (·≤·)∧vs=[B0 l,sv,eI i]∧E6 3 1 eI o st sv s) ?_ ?_
 ·conv=>whnf
  exact ⟨[],.emp,.refl _,.nil,rfl,E6.start _ _ _ _⟩
 ·rintro i vs st' hi ⟨o,sv,hp,hs,rfl,hc0⟩
  conv=>whnf
  cases h:decide ((i:Int)<(l.length:Int))
  ·obtain rfl:=C5 h hi
   conv=>whnf
   rw [D6O] at hp
   have e:o=C4 l:=List.Perm.eq_of_pairwise (le:=fun a b:Int=>a≤b) (fun a b _ _ h1 h2=>Int.le_antisymm h1 h2) hs (B7m l) (hp.trans (A1m l).symm)
   rw [←e]
   exact hc0
  ·have hi':=E2 h
   have hol:o.length=i:=by rw [hp.length_eq,D6N];omega
   have hom:∀ {k:Nat},k<o.length→True:=fun hk=>trivial
   have hB:∀ a,a≤o.length→(∀ k,a≤k→k<o.length→gI o k>gI l i)→(a=0∨gI o (a - 1)≤gI l i)→(A1s o a (gI l i)).Perm (l.take (i+1))∧(A1s o a (gI l i)).Pairwise (·≤·):=fun a ha hok hB=>by
    refine ⟨by rw [L0 hi'];exact (A7J o a _).trans (hp.append_right _),A5h hs (fun k hk hk2=>?_) (fun k hk hk2=>?_)⟩
    ·rcases hB with hB | hB
     ·omega
     ·rcases D8k k (a - 1) with e | e
      ·exact D9z (B3W hs e (by omega)) hB
      ·rw [show k=a - 1 by omega];exact hB
    ·have:=hok k hk hk2;omega
   have hc1:=hc0
   rcases hc1 with ⟨h0,hsv,hst⟩ | ⟨h0,b,g,hb,hsv,hst,hg⟩
   all_goals rw [hsv]
   all_goals (conv=>whnf)
   all_goals refine lp o.length [0,3,4,5] (fun r vs s=>(∀ k,o.length - r≤k→k<o.length→gI o k>gI l i)∧vs=[B0 l,sv,eI i,eI (o.length - r:Nat)]∧s=st') ?_ ?_
   all_goals first
    | (conv=>whnf
       exact ⟨fun k h1 h2=>absurd h2 (by omega),by first | (rw [hsv];rfl) | (rw [hsv,h0];rfl),rfl⟩)
    | skip
   all_goals
    rintro r vs s hr ⟨hok,rfl,rfl⟩
    conv=>whnf
    refine ⟨[],[],List.range 14,by kernel_rfl,?_⟩
    cases hd:decide (((o.length - r:Nat):Int)>0)
    case' false =>
     have ha:=Nat.sub_le o.length r
     have hS:=hB (o.length - r) ha hok (.inl (by have:=D6G hd;omega))
     generalize o.length - r=a at *
     conv=>whnf
     rw [hd];conv=>whnf
    case' true =>
     have hpos:0<o.length - r:=by have:=D6H hd;omega
     have hw2:=A7x hpos (by omega)
     have hoa:=hom (k:=o.length - r - 1) (by omega)
     first
      | (exfalso;omega)
      | (conv=>whnf
         rw [hd];conv=>whnf
         rw [hsv] at hc0
         rw [hsv,hw2]
         refine E7 ?_
         refine ldV (v:=eI (gI o (o.length - r - 1))) (by rw [hst];exact A0 ..) rfl (by omega) (by rw [hg _ (by omega)];congr 2;omega) ?_;conv=>whnf
         refine E7 ?_
         refine B9 (fun h2=>?_) (fun h2=>?_)<;>rw [h2]
         ·conv=>whnf
          refine G2 ?_
          refine nx (by omega) ⟨fun k h3 h4=>?_,by rw [hw2,show o.length - (r+1)=o.length - r - 1 by omega],rfl⟩
          rcases D9G h3 with h5 | h5
          ·rw [←h5,show o.length - (r+1)=o.length - r - 1 by omega];exact D6H h2
          ·exact hok k (by omega) h4
         have ha:=Nat.sub_le o.length r
         have hS:=hB (o.length - r) ha hok (.inr (by have h7:=D6G h2;rw [D6R] at h7;exact Int.not_lt.1 h7))
         clear hw2 hoa
         generalize o.length - r=a at *
         conv=>whnf)
    all_goals
     refine E6.app (q:=r3) (y:=0) (enc:=eI) rfl rfl rfl rfl rfl rfl (by show (_+1) * 8≤140737488355328;omega) hc0 (fun sv' s' hc'=>?_)
     have hln:(o++[0]).length=o.length+1:=by simp
     rcases hc' with ⟨h1,_⟩ | ⟨h1,b',g',hb',rfl,rfl,hg'⟩
     ·omega
     generalize (o++[0]).length=N at *
     subst hln;conv=>whnf
     have hw0:IntKind.i64.wrap (((o.length+1:Nat):Int) - 1)=((o.length - 0:Nat):Int):=by rw [A5 (by omega) (by omega)];omega
     rw [hw0]
     refine lp (o.length - a) [0,3,4,5,6] (fun r vs s=>vs=[B0 l,.own 1 b' 0 (o.length+1),eI i,eI a,eI (o.length - r:Nat)]∧∃ f,s=upd st b' ⟨3,1,o.length+1,f⟩∧∀ j,j<o.length+1→f j=eI (if o.length - r<j then gI o (j - 1) else gI (o++[0]) j)) ?_ ?_
     ·conv=>whnf
      exact ⟨rfl,g',rfl,fun j hj=>by rw [if_neg (by omega)];exact hg' j hj⟩
     ·clear hg' hc0
      rintro r vs s hr ⟨rfl,f,rfl,hf⟩
      conv=>whnf
      cases hk:decide (((o.length - r:Nat):Int)>(a:Int))
      ·have hra:r=o.length - a:=by have:=D6G hk;omega
       conv=>whnf
       refine E7 ?_
       refine E7 ?_
       refine Z7 (A0 ..) (hf _ (by omega)) ?_
       refine G2 ?_
       rw [A7j]
       refine nx hi' ⟨A1s o a (gI l i),.own 1 b' 0 (o.length+1),hS.1,hS.2,by rw [B4 (by omega)],?_⟩
       refine .inr ⟨by rw [V0 ha];omega,b',_,hb',by rw [V0 ha],by rw [V0 ha],fun j hj=>?_⟩
       rw [V0 ha] at hj
       show I4 f (0+(a:Int).toNat) _ j=eI (gI (A1s o a (gI l i)) j)
       rw [A9v ha hj]
       by_cases hja:j=a
       ·subst hja
        rw [show 0+((j:Nat):Int).toNat=j by omega,A4];show eI (gI l i)=_;rw [if_neg (by omega),if_pos rfl]
       ·rw [H4 (by omega),hf j hj]
        congr 1
        by_cases hj2:j<a
        ·rw [if_neg (by omega),if_pos hj2,N5 (by omega)]
        ·rw [if_pos (by omega),if_neg hj2,if_neg hja]
      ·have hra:a<o.length - r:=by have:=D6H hk;omega
       have hw1:=A7x (i:=o.length - r) (by omega) (by omega)
       conv=>whnf
       rw [hw1]
       refine E7 ?_
       refine ldV (v:=eI (gI o (o.length - r - 1))) (A0 ..) rfl (by omega) (by rw [hf _ (by omega),if_neg (by omega),N5 (by omega)];congr 2;omega) ?_;conv=>whnf
       refine E7 ?_
       refine Z7 (A0 ..) (hf _ (by omega)) ?_
       refine G2 ?_
       rw [A7j,hw1]
       refine nx (by omega) ⟨by rw [show o.length - (r+1)=o.length - r - 1 by omega],_,rfl,fun j hj=>?_⟩
       by_cases hj2:j=o.length - r
       ·subst hj2
        rw [show 0+((o.length - r:Nat):Int).toNat=o.length - r by omega,A4];show eI (gI o (o.length - r - 1))=_;rw [if_pos (by omega)]
       ·rw [H4 (by omega),hf j hj]
        congr 1
        by_cases hj3:o.length - r<j
        ·rw [if_pos hj3,if_pos (by omega)]
        ·rw [if_neg hj3,if_neg (by omega)]
set_option maxHeartbeats 1000000 in
theorem C4N (l:List B1) (codes:List C8) (hl:l.length≤1000) (hc:Sm codes.length) (st:St):S P 162 [A8 15 B7 l,C7 codes] st fun v st'=>(∃ o:List Int,o.Perm (places l codes l.length)∧o.Pairwise (A4l l)∧v=B0 o)∧st'=st:=by
 refine S.post (post:=fun v st'=>∃ o:List Int,o.Perm (places l codes l.length)∧o.Pairwise (A4l l)∧E6 3 1 eI o st v st') ?_ (fun v st' ⟨o,h1,h2,h3⟩=>⟨_,st,⟨⟨o,h1,h2,rfl⟩,rfl⟩,h3.shift⟩)
 refine F4 [] Tryz.func162 ?_
 refine lp l.length [0,1,5,6] (fun i vs s=>∃ o sv,o.Perm (places l codes i)∧o.Pairwise (A4l l)∧vs=[A8 15 B7 l,C7 codes,sv,eI i]∧E6 3 1 eI o st sv s) ?_ ?_
 ·conv=>whnf
  exact ⟨[],.emp,.refl _,.nil,rfl,E6.start _ _ _ _⟩
 ·rintro i vs st' hi ⟨o,sv,hp,hs,rfl,hc0⟩
  conv=>whnf
  cases h:decide ((i:Int)<(l.length:Int))
  ·obtain rfl:=C5 h hi
   conv=>whnf
   exact ⟨o,hp,hs,hc0⟩
  ·have hi':=E2 h
   have hol:o.length≤i:=by rw [hp.length_eq];exact A1i ..
   have hom:∀ {k:Nat},k<o.length→0≤gI o k∧(gI o k).toNat<i:=fun hk=>A8J hp (fun x hx=>A0E hx) hk
   have hps:=A6o l codes i
   have n1:=B8S codes (l.getD (i:Int).toNat default).code hc st'
   have ea:A0i codes (l.getD i default)=(!(!((l.getD (i:Int).toNat default).code.toList==(⟨#[]⟩:C8).toList))||codes.any fun y=>y.toList==(l.getD (i:Int).toNat default).code.toList):=by
    rw [D7Y];unfold A0i N2;congr 1;congr 1;funext c;exact D9L
   have skip:A0i codes (l.getD i default)=false→o.Perm (places l codes (i+1)):=fun h=>by rw [hps,if_neg (by rw [h];simp),D8y];exact hp
   have hB:A0i codes (l.getD i default)=true→∀ a,a≤o.length→(∀ k,a≤k→k<o.length→A0N (F2 l i) (F2 l (gI o k))=true)→(a=0∨A0N (F2 l i) (F2 l (gI o (a - 1)))=false)→(A1s o a (i:Int)).Perm (places l codes (i+1))∧(A1s o a (i:Int)).Pairwise (A4l l):=fun hask a ha hok hB=>by
    refine ⟨by rw [hps,if_pos hask];exact (A7J o a _).trans (hp.append_right _),A5h hs (fun k hk hk2=>?_) (fun k hk hk2=>?_)⟩
    ·rcases hB with hB | hB
     ·omega
     ·rcases D8k k (a - 1) with e | e
      ·exact A8D (B3W hs e (by omega)) hB
      ·rw [show k=a - 1 by omega];exact hB
    ·exact A9U (hok k hk hk2)
   rw [ea] at hB skip
   generalize (codes.any fun y=>y.toList==(l.getD (i:Int).toNat default).code.toList)=b1 at n1 hB skip
   clear ea hps
   conv=>whnf
   refine E7 ?_
   cases hn:(!((l.getD (i:Int).toNat default).code.toList==(⟨#[]⟩:C8).toList))
   case' true =>
    rw [hn] at hB skip;conv=>whnf
    refine E7 ?_
    refine B3 n1 ?_
    cases b1
    ·conv=>whnf
     refine G2 ?_
     exact nx hi' ⟨o,sv,skip rfl,hs,by rw [B4 (by omega)],hc0⟩
    replace hB:=hB rfl
   case' false =>
    rw [hn] at hB
    replace hB:=hB rfl
   all_goals clear skip n1
   all_goals (conv=>whnf)
   all_goals
    have hc1:=hc0
    rcases hc1 with ⟨h0,hsv,hst⟩ | ⟨h0,b,g,hb,hsv,hst,hg⟩
    all_goals rw [hsv]
    all_goals (conv=>whnf)
    all_goals refine lp o.length [0,1,5,6,7] (fun r vs s=>(∀ k,o.length - r≤k→k<o.length→A0N (F2 l i) (F2 l (gI o k))=true)∧vs=[A8 15 B7 l,C7 codes,sv,eI i,eI (o.length - r:Nat)]∧s=st') ?_ ?_
    all_goals first
     | (conv=>whnf
        exact ⟨fun k h1 h2=>absurd h2 (by omega),by first | (rw [hsv];rfl) | (rw [hsv,h0];rfl),rfl⟩)
     | skip
    all_goals
     rintro r vs s hr ⟨hok,rfl,rfl⟩
     conv=>whnf
     refine ⟨[],[],List.range 17,by kernel_rfl,?_⟩
     cases hd:decide (((o.length - r:Nat):Int)>0)
     case' false =>
      have ha:=Nat.sub_le o.length r
      have hS:=hB (o.length - r) ha hok (.inl (by have:=D6G hd;omega))
      generalize o.length - r=a at *
      conv=>whnf
      rw [hd];conv=>whnf
     case' true =>
      have hpos:0<o.length - r:=by have:=D6H hd;omega
      have hw2:=A7x hpos (by omega)
      have hoa:=hom (k:=o.length - r - 1) (by omega)
      first
       | (exfalso;omega)
       | (conv=>whnf
          rw [hd];conv=>whnf
          refine E7 ?_
          rw [hsv] at hc0
          rw [hsv,hw2]
          refine E7 ?_
          refine ldV (v:=eI (gI o (o.length - r - 1))) (by rw [hst];exact A0 ..) rfl (by omega) (by rw [hg _ (by omega)];congr 2;omega) ?_;conv=>whnf
          refine E7 ?_
          refine cqW (C4K (F2 l i) (F2 l (gI o (o.length - r - 1))) _) ?_
          refine B9 (fun h2=>?_) (fun h2=>?_)<;>rw [h2]
          ·conv=>whnf
           refine G2 ?_
           refine nx (by omega) ⟨fun k h3 h4=>?_,by rw [hw2,show o.length - (r+1)=o.length - r - 1 by omega],rfl⟩
           rcases D9G h3 with h5 | h5
           ·rw [←h5,show o.length - (r+1)=o.length - r - 1 by omega];exact h2
           ·exact hok k (by omega) h4
          have ha:=Nat.sub_le o.length r
          have hS:=hB (o.length - r) ha hok (.inr h2)
          clear hw2 hoa
          generalize o.length - r=a at *
          conv=>whnf)
     all_goals
      refine E6.app (q:=r3) (y:=0) (enc:=eI) rfl rfl rfl rfl rfl rfl (by show (_+1) * 8≤140737488355328;omega) hc0 (fun sv' s' hc'=>?_)
      have hln:(o++[0]).length=o.length+1:=by simp
      rcases hc' with ⟨h1,_⟩ | ⟨h1,b',g',hb',rfl,rfl,hg'⟩
      ·omega
      generalize (o++[0]).length=N at *
      subst hln;conv=>whnf
      have hw0:IntKind.i64.wrap (((o.length+1:Nat):Int) - 1)=((o.length - 0:Nat):Int):=by rw [A5 (by omega) (by omega)];omega
      rw [hw0]
      refine lp (o.length - a) [0,1,5,6,7,8] (fun r vs s=>vs=[A8 15 B7 l,C7 codes,.own 1 b' 0 (o.length+1),eI i,eI a,eI (o.length - r:Nat)]∧∃ f,s=upd st b' ⟨3,1,o.length+1,f⟩∧∀ j,j<o.length+1→f j=eI (if o.length - r<j then gI o (j - 1) else gI (o++[0]) j)) ?_ ?_
      ·conv=>whnf
       exact ⟨rfl,g',rfl,fun j hj=>by rw [if_neg (by omega)];exact hg' j hj⟩
      ·clear hg' hc0
       rintro r vs s hr ⟨rfl,f,rfl,hf⟩
       conv=>whnf
       cases hk:decide (((o.length - r:Nat):Int)>(a:Int))
       ·have hra:r=o.length - a:=by have:=D6G hk;omega
        conv=>whnf
        refine E7 ?_
        refine Z7 (A0 ..) (hf _ (by omega)) ?_
        refine G2 ?_
        rw [A7j]
        refine nx hi' ⟨A1s o a (i:Int),.own 1 b' 0 (o.length+1),hS.1,hS.2,by rw [B4 (by omega)],?_⟩
        refine .inr ⟨by rw [V0 ha];omega,b',_,hb',by rw [V0 ha],by rw [V0 ha],fun j hj=>?_⟩
        rw [V0 ha] at hj
        show I4 f (0+(a:Int).toNat) _ j=eI (gI (A1s o a (i:Int)) j)
        rw [A9v ha hj]
        by_cases hja:j=a
        ·subst hja
         rw [show 0+((j:Nat):Int).toNat=j by omega,A4];show eI (i:Int)=_;rw [if_neg (by omega),if_pos rfl]
        ·rw [H4 (by omega),hf j hj]
         congr 1
         by_cases hj2:j<a
         ·rw [if_neg (by omega),if_pos hj2,N5 (by omega)]
         ·rw [if_pos (by omega),if_neg hj2,if_neg hja]
       ·have hra:a<o.length - r:=by have:=D6H hk;omega
        have hw1:=A7x (i:=o.length - r) (by omega) (by omega)
        conv=>whnf
        rw [hw1]
        refine E7 ?_
        refine ldV (v:=eI (gI o (o.length - r - 1))) (A0 ..) rfl (by omega) (by rw [hf _ (by omega),if_neg (by omega),N5 (by omega)];congr 2;omega) ?_;conv=>whnf
        refine E7 ?_
        refine Z7 (A0 ..) (hf _ (by omega)) ?_
        refine G2 ?_
        rw [A7j,hw1]
        refine nx (by omega) ⟨by rw [show o.length - (r+1)=o.length - r - 1 by omega],_,rfl,fun j hj=>?_⟩
        by_cases hj2:j=o.length - r
        ·subst hj2
         rw [show 0+((o.length - r:Nat):Int).toNat=o.length - r by omega,A4];show eI (gI o (o.length - r - 1))=_;rw [if_pos (by omega)]
        ·rw [H4 (by omega),hf j hj]
         congr 1
         by_cases hj3:o.length - r<j
         ·rw [if_pos hj3,if_pos (by omega)]
         ·rw [if_neg hj3,if_neg (by omega)]
theorem A2v (x:Int) (st:St):S P 131 [eI x] st fun v st'=>v=.bool (U0 x)∧st'=st:=by
 refine F4 [] Tryz.func131 ?_
 unfold U0
 cases h:decide (0≤x)
 ·conv=>whnf
  exact ⟨rfl,rfl⟩
 ·conv=>whnf
  exact ⟨rfl,rfl⟩
theorem D3X {v:Int} (h0:0≤v) (h1:v≤9223372036854775807):IntKind.i64.wrap ((BitVec.ofInt IntKind.i64.bits v &&& BitVec.ofInt IntKind.i64.bits 1).toNat:Int)=v % 2:=by
 show IntKind.i64.wrap ((BitVec.ofInt 64 v &&& BitVec.ofInt 64 1).toNat:Int)=v % 2
 obtain ⟨n,rfl⟩:=Int.eq_ofNat_of_zero_le h0
 have e1:(BitVec.ofInt 64 ((n:Nat):Int)).toNat=n:=by rw [BitVec.ofInt_natCast,BitVec.toNat_ofNat,D9F (by omega)]
 have e2:(BitVec.ofInt 64 1).toNat=1:=by decide
 rw [BitVec.toNat_and,e1,e2,Nat.and_one_is_mod,A5 (by omega) (by omega)];omega
theorem B4D {d q r Y:Int} (h:Y=d * q+r) (h0:0≤r) (h1:r<d):Y / d=q∧Y % d=r:=by
 have:=(Int.ediv_emod_unique (a:=Y) (b:=d) (r:=r) (q:=q) (by omega)).2 ⟨by omega,h0,h1⟩
 exact this
def A0s (num:Int) (j:Nat):Int:=num / 2 ^ (63 - j)
theorem C2B {num:Int} (h:0≤num) {j:Nat} (hj:j<63):A0s num (j+1)=2 * A0s num j+A0s num (j+1) % 2:=by
 have e:A0s num j=A0s num (j+1) / 2:=by
  unfold A0s
  rw [show 63 - j=(63 - (j+1))+1 by omega,Int.pow_succ,Int.ediv_ediv_of_nonneg (Int.pow_nonneg (by omega))]
 omega
theorem B0n {num:Int} (h:0≤num) (j:Nat):0≤A0s num j:=D8l h (Int.pow_nonneg (by omega))
theorem C7D {num:Int} (h:0≤num) (j:Nat):A0s num j≤num:=Int.ediv_le_self _ h
theorem C5r {num:Int} (h:0≤num) (h1:num≤100000000000000):A0s num 0=0:=Int.ediv_eq_zero_of_lt h (by show num<2 ^ 63;omega)
theorem C0A (num:Int):A0s num 63=num:=by unfold A0s;simp
def A9E (x num den:Int):AV:=if x * num / den>100000000000000 then .tuple [eI 0,eI 0,.bool false] else .tuple [eI (x * num / den),eI (x * num % den),.bool true]
set_option maxHeartbeats 1000000 in
theorem B2r (x num den:Int) (hx:0≤x) (hx1:x≤100000000000000) (hn:0≤num) (hn1:num≤100000000000000) (hd:0<den) (hd1:den≤100000000000000) (st:St) :
  S P 150 [eI x,eI num,eI den] st fun v st'=>v=A9E x num den∧st'=st:=by
 refine F4 [] Tryz.func150 ?_
 refine lp 63 [0,1,2,9,10,11] (fun j vs s=>(x * A0s num j / den≤100000000000000)∧vs=[eI x,eI num,eI den,eI (x * A0s num j / den),eI (x * A0s num j % den),eI (62 - (j:Int))]∧s=st) ?_ ?_
 ·conv=>whnf
  refine ⟨?_,?_,rfl⟩
  ·rw [C5r hn hn1,Int.mul_zero,Int.zero_ediv];omega
  ·rw [C5r hn hn1,Int.mul_zero,Int.zero_ediv,Int.zero_emod];rfl
 ·rintro j vs s hj ⟨hq,rfl,rfl⟩
  conv=>whnf
  have hY0:0≤x * A0s num j:=D8d hx (B0n hn j)
  have hA0:0≤x * A0s num j / den:=D8l hY0 (by omega)
  have hB0:=D8a (x * A0s num j) (show den≠0 by omega)
  have hB1:=D7N (x * A0s num j) hd
  have hY:=D7M (x * A0s num j) den
  cases h:decide (62 - (j:Int)≥0)
  ·have hj63:j=63:=by have:=D6G h;omega
   subst hj63
   rw [C0A] at hq;conv=>whnf
   refine ⟨?_,rfl⟩
   unfold A9E
   rw [if_neg (by omega),C0A];rfl
  ·have hj':j<63:=by have:=D6H h;omega
   have hC0:0≤x / den:=D8l hx (by omega)
   have hC1:x / den≤x:=Int.ediv_le_self _ hx
   have hD0:=D8a x (show den≠0 by omega)
   have hD1:=D7N x hd
   have hX:=D7M x den
   have hst:=C2B hn hj'
   have hN0:=B0n hn (j+1)
   have hN1:=C7D hn (j+1)
   have hbit:x * A0s num (j+1)=2 * (x * A0s num j)+x * (A0s num (j+1) % 2):=by
    conv=>lhs;rw [hst]
    rw [D8Q,Int.mul_left_comm]
   have hshr:Int.fdiv num (2 ^ (min (IntKind.u64.wrap (62 - (j:Int))).toNat IntKind.i64.bits))=A0s num (j+1):=by
    show Int.fdiv num (2 ^ (min (IntKind.u64.wrap (62 - (j:Int))).toNat 64))=_
    rw [B6 (by omega) (by omega)]
    unfold A0s
    rw [show min (62 - (j:Int)).toNat 64=63 - (j+1) by omega,D7x _ (Int.pow_nonneg (by omega))]
   have hbig:x * A0s num (j+1) / den>100000000000000→A9E x num den=.tuple [eI 0,eI 0,.bool false]:=fun hb=>by
    unfold A9E
    refine if_pos ?_
    have:x * A0s num (j+1) / den≤x * num / den:=Int.ediv_le_ediv hd (D7y hN1 hx)
    omega
   have hand:=D3X (v:=A0s num (j+1)) hN0 (by omega)
   have htd:x.tdiv den=x / den:=D7Z hx
   have htm:x.tmod den=x % den:=D8q hx
   generalize hAe:x * A0s num j / den=A at *
   generalize hBe:x * A0s num j % den=B at *
   generalize hYe:x * A0s num j=Y at *
   generalize hCe:x / den=C at *
   generalize hDe:x % den=D at *
   have w1:IntKind.i64.wrap (2 * A)=2 * A:=A5 (by omega) (by omega)
   have w2:IntKind.i64.wrap (2 * B)=2 * B:=A5 (by omega) (by omega)
   conv=>whnf
   rw [w1,w2]
   -- doubled
   refine B9 (fun h1=>?_) (fun h1=>?_)<;>rw [h1]
   case' refine_1 =>
    have:=D6H h1
    have w3:IntKind.i64.wrap (2 * A+1)=2 * A+1:=A5 (by omega) (by omega)
    have w4:IntKind.i64.wrap (2 * B - den)=2 * B - den:=A5 (by omega) (by omega)
    have hq1:2 * Y=den * (2 * A+1)+(2 * B - den):=by rw [D8Q,Int.mul_left_comm,D9B];omega
    have hq2:0≤2 * A+1∧2 * A+1≤200000000000001:=by omega
    have hr1:0≤2 * B - den∧2 * B - den<den:=by omega
    conv=>whnf
    rw [w3,w4]
    generalize 2 * A+1=q1 at *
    generalize 2 * B - den=r1 at *
   case' refine_2 =>
    have:=D6G h1
    have hq1:2 * Y=den * (2 * A)+(2 * B):=by rw [Int.mul_left_comm];omega
    have hq2:0≤2 * A∧2 * A≤200000000000001:=by omega
    have hr1:0≤2 * B∧2 * B<den:=by omega
    conv=>whnf
    generalize 2 * A=q1 at *
    generalize 2 * B=r1 at *
   all_goals clear w1 w2 hY hA0 hB0 hB1 hq hAe hBe
   all_goals (rw [D6L (show ¬ IntKind.u64.wrap (62 - (j:Int))<0 by rw [B6 (by omega) (by omega)];omega)])
   all_goals (conv=>whnf)
   all_goals rw [hshr,hand]
   all_goals refine B9 (fun h2=>?_) (fun h2=>?_)<;>rw [h2]
   -- a bit of num
   case' refine_2.true.refine_1.refine_1 | refine_2.true.refine_2.refine_1 =>
    have hb1:A0s num (j+1) % 2=1:=eq_of_beq h2
    have w5:IntKind.i64.wrap C=C:=A5 (by omega) (by omega)
    have w6:IntKind.i64.wrap (q1+C)=q1+C:=A5 (by omega) (by omega)
    have w7:IntKind.i64.wrap (r1+D)=r1+D:=A5 (by omega) (by omega)
    have hd0:decide (den=0)=false:=D6L (by omega)
    rw [hb1,D9B] at hbit;conv=>whnf
    refine ⟨[],[],List.range 12,by kernel_rfl,?_⟩;conv=>whnf
    rw [hd0];conv=>whnf
    rw [hd0];conv=>whnf
    rw [htd,htm,w5,w6,w7]
    refine B9 (fun h3=>?_) (fun h3=>?_)<;>rw [h3]
    case' refine_1 =>
     have:=D6H h3
     have w8:IntKind.i64.wrap (q1+C+1)=q1+C+1:=A5 (by omega) (by omega)
     have w9:IntKind.i64.wrap (r1+D - den)=r1+D - den:=A5 (by omega) (by omega)
     obtain ⟨e1,e2⟩:=B4D (Y:=x * A0s num (j+1)) (d:=den) (q:=q1+C+1) (r:=r1+D - den) (by rw [hbit,D8Q,D8Q,D9B];omega) (by omega) (by omega)
     conv=>whnf
     rw [w8,w9,←e1,←e2]
    case' refine_2 =>
     have:=D6G h3
     obtain ⟨e1,e2⟩:=B4D (Y:=x * A0s num (j+1)) (d:=den) (q:=q1+C) (r:=r1+D) (by rw [hbit,D8Q];omega) (by omega) (by omega)
     conv=>whnf
     rw [←e1,←e2]
   case' refine_2.true.refine_1.refine_2 | refine_2.true.refine_2.refine_2 =>
    have hb1:A0s num (j+1) % 2=0:=by have:=ne_of_beq_false h2;omega
    rw [hb1,Int.mul_zero,D8R] at hbit
    obtain ⟨e1,e2⟩:=B4D (Y:=x * A0s num (j+1)) (d:=den) (q:=q1) (r:=r1) (by rw [hbit];omega) (by omega) (by omega)
    conv=>whnf
    rw [←e1,←e2]
   all_goals refine B9 (fun h4=>?_) (fun h4=>?_)<;>rw [h4]
   all_goals (conv=>whnf)
   all_goals first
    | exact ⟨by rw [hbig (D6H h4)];rfl,rfl⟩
    | (refine ⟨rfl,?_⟩;conv=>whnf
       have w10:IntKind.i64.wrap (62 - (j:Int) - 1)=62 - ((j+1:Nat):Int):=by rw [A5 (by omega) (by omega)];omega
       exact nx hj' ⟨by have:=D6G h4;omega,by rw [w10],rfl⟩)
theorem B2s (x num den round:Int) (st:St):S P 92 [eI x,eI num,eI den,eI round] st fun v st'=>v=.tuple [eI (W7 x num den round).1,eI (W7 x num den round).2]∧st'=st:=by
 refine SyW [] Tryz.func92 ?_
 by_cases hok:(U0 x&&U0 num&&U0 den&&den != 0&&decide (0≤round)&&decide (round<3))=false
 ·rw [show W7 x num den round=(0,2) from if_pos hok]
  have n1:=A2v x st
  have n2:=A2v num st
  have hok':¬(U0 x=true∧U0 num=true∧1≤den∧den≤100000000000000∧0≤round∧round≤2):=fun ⟨h1,h2,h3,h4,h5,h6⟩=>by
   rw [h1,h2,(A1k den).2 ⟨by omega,h4⟩,D7m h5,D7m (show round<3 by omega),D9p.2 (show den≠0 by omega)] at hok;cases hok
  repeat' ((conv=>whnf);first | refine B3 n1 ?_ | refine B3 n2 ?_ | (refine B9 (fun h=>?_) (fun h=>?_)<;>rw [h]))
  all_goals (conv=>whnf)
  all_goals first
   | exact ⟨rfl,rfl⟩
   | (exfalso
      simp only [D7q,D6E] at *
      exact hok' ⟨by assumption,by assumption,by omega,by omega,by omega,by omega⟩)
 ·rw [D9c] at hok
  have ht:W7 x num den round=if x * num / den>100000000000000 then (0,5) else if U1 (x * num / den) (x * num % den) den round>100000000000000 then (0,5) else (U1 (x * num / den) (x * num % den) den round,0):=if_neg (by rw [hok];simp)
  simp only [D6I,D9p,ne_eq,D6F] at hok
  obtain ⟨⟨⟨⟨⟨x0,n0⟩,d0⟩,d2⟩,r0⟩,r1⟩:=hok
  have x1:=(A1k x).1 x0
  have n1:=(A1k num).1 n0
  have d1:=(A1k den).1 d0
  have e1:decide (den<1)=false:=D6L (by omega)
  have e2:decide (den>100000000000000)=false:=D6L (by omega)
  have e3:decide (round<0)=false:=D6L (by omega)
  have e4:decide (round>2)=false:=D6L (by omega)
  have hp:=B2r x num den (by omega) (by omega) (by omega) (by omega) (by omega) (by omega) st
  have hN:0≤x * num:=D8d x1.1 n1.1
  have hq0:0≤x * num / den:=D8l hN (by omega)
  have hm0:=D8a (x * num) d2
  have hm1:=D7N (x * num) (show 0<den by omega)
  have m1:=A2v x st
  have m2:=A2v num st
  rw [x0] at m1
  rw [n0] at m2
  unfold A9E at hp
  rw [ht]
  clear ht
  generalize x * num / den=q at *
  generalize x * num % den=r at *
  have bq:0≤U1 q r den round:=by unfold U1;repeat' split<;>omega
  by_cases hbig:q>100000000000000
  ·rw [if_pos hbig] at hp ⊢
   repeat' ((conv=>whnf);first | refine B3 m1 ?_ | refine B3 m2 ?_ | refine B3 hp ?_ | rw [e1] | rw [e2] | rw [e3] | rw [e4])
   conv=>whnf
   exact ⟨rfl,rfl⟩
  ·rw [if_neg hbig] at hp ⊢
   have w1:IntKind.i64.wrap (2 * r)=2 * r:=A5 (by omega) (by omega)
   have w2:IntKind.i64.wrap (q+1)=q+1:=A5 (by omega) (by omega)
   have w3:q.tmod 2=q % 2:=D8q hq0
   have m3:=A2v q st
   have m4:=A2v (q+1) st
   rcases (by omega:round=0∨round=1∨round=2) with rfl | rfl | rfl
   all_goals repeat' ((conv=>whnf);first | refine B3 m1 ?_ | refine B3 m2 ?_ | refine B3 m3 ?_ | refine B3 m4 ?_ | refine B3 hp ?_ | rw [e1] | rw [e2] | rw [e3] | rw [e4] | rw [w1] | rw [w2] | rw [w3] | (refine B9 (fun h=>?_) (fun h=>?_)<;>rw [h]))
   all_goals (conv=>whnf)
   all_goals (refine ⟨?_,rfl⟩;show AV.tuple [AV.int .i64 _,AV.int .i64 _]=AV.tuple [AV.int .i64 _,AV.int .i64 _])
   all_goals (simp only [U1,D6X,D7q,D6F,D6E,D7B,D7p,ne_eq,U0,D6I,D8M,if_true,D9l,Int.reduceEq] at *)
   all_goals (repeat' split)
   all_goals first | rfl | (exfalso;omega)
theorem C1Z (x rate round:Int) (st:St):S P 33 [eI x,eI rate,eI round] st fun v st'=>v=.tuple [eI (if 0≤rate∧rate≤10000 then W7 x rate 10000 round else (0,2)).1,eI (if 0≤rate∧rate≤10000 then W7 x rate 10000 round else (0,2)).2]∧st'=st:=by
 refine SyW [] Tryz.func33 ?_
 repeat' ((conv=>whnf);first | refine B3 (B2s _ _ _ _ st) ?_ | (refine B9 (fun h=>?_) (fun h=>?_)<;>rw [h]))
 all_goals (conv=>whnf)
 all_goals (refine ⟨?_,rfl⟩;simp only [D6F,D6E] at *)
 ·rw [if_neg (by omega)];rfl
 ·rw [if_neg (by omega)];rfl
 ·rw [if_pos (by omega)];rfl
theorem A8S (x rate:Int) (st:St):S P 165 [eI x,eI rate] st fun v st'=>v=eI (J9 x rate)∧st'=st:=by
 refine F4 [] Tryz.func165 ?_
 refine I2 (C1Z x rate 1 st) ?_
 exact ⟨rfl,rfl⟩
theorem A9O (l:List Int) (hl:l.length≤1000000) (h0:∀ x∈l,0≤x) (hs:A2 l≤100000000000000000) (st:St):S P 118 [B0 l] st fun v st'=>v=eI (A2 l)∧st'=st:=by
 refine F4 [] Tryz.func118 ?_
 refine lp l.length [0,3,4] (fun i vs s=>vs=[B0 l,eI (A2 (l.take i)),eI i]∧s=st) ?_ ?_
 ·conv=>whnf
  exact ⟨rfl,rfl⟩
 ·rintro i vs st' hi ⟨rfl,rfl⟩
  conv=>whnf
  cases h:decide ((i:Int)<(l.length:Int))
  ·obtain rfl:=C5 h hi
   conv=>whnf
   exact ⟨by rw [D6O];rfl,rfl⟩
  ·have hi':=E2 h
   have e:=K9 hi'
   have h1:=C1 (l:=l.take i) (fun x hx=>h0 x (D7G _ _ hx))
   have h2:=N0 h0 (i+1)
   have h3:=h0 _ (A7 hi')
   have h4:gI l i=l.getD i default:=rfl
   have w:IntKind.i64.wrap (A2 (l.take i)+l.getD (i:Int).toNat default)=A2 (l.take (i+1)):=by rw [e];exact A5 (by rw [D6R];omega) (by rw [D6R];omega)
   conv=>whnf
   refine E7 ?_
   rw [w]
   refine G2 ?_
   exact nx hi' ⟨by rw [B4 (by omega)],rfl⟩
theorem A7c (us:List B2) (mine:List Int) (hl:mine.length≤1000000) (hm:∀ k,k<mine.length→0≤gI mine k∧(gI mine k).toNat<us.length) (st:St):S P 216 [C6 us,B0 mine] st fun v st'=>v=B0 (E4 us mine)∧st'=st:=by
 refine A0L (ty:=2) ?_
 refine F4 [] Tryz.func216 ?_
 refine lp mine.length [0,1,5,6] (fun i vs s=>∃ sv,vs=[C6 us,B0 mine,sv,eI i]∧E6 2 1 eI (E4 us (mine.take i)) st sv s) ?_ ?_
 ·conv=>whnf
  exact ⟨.emp,rfl,E6.start _ _ _ _⟩
 ·rintro i vs st' hi ⟨sv,rfl,hc⟩
  conv=>whnf
  cases h:decide ((i:Int)<(mine.length:Int))
  ·obtain rfl:=C5 h hi
   rw [D6O] at hc;conv=>whnf
   exact hc
  ·have hi':=E2 h
   have hx:=hm i hi'
   have hlen:(E4 us (mine.take i)).length=i:=by unfold E4;rw [D6J,D6N];omega
   conv=>whnf
   refine E7 ?_
   refine ⟨rfl,⟨by show 0≤gI mine i;omega,by show gI mine i<(us.length:Int);omega⟩,?_⟩;conv=>whnf
   refine E6.app (q:=r2) (y:=(gU us (gI mine i).toNat).net) rfl rfl rfl rfl rfl rfl (by show (_+1) * 8≤140737488355328;omega) hc (fun sv' s' hc'=>?_);conv=>whnf
   refine G2 ?_
   refine nx hi' ⟨sv',by rw [B4 (by omega)],?_⟩
   unfold E4 at hc' ⊢
   rw [A1L hi'];exact hc'
def A4G (total:Int) (ws:List Int):List Int:=(List.range ws.length).map fun k=>total * gI ws k % A2 ws
theorem C6P {total:Int} {ws:List Int} {o:List Int} (hp:o.Perm (A4x ws.length)) (hs:o.Pairwise (B4n (A4G total ws))):o=(shR total (A2 ws) ws).map (·.2):=by
 have e:o.map (B2l (A4G total ws))=shR total (A2 ws) ws:=by
  refine List.Perm.eq_of_pairwise (le:=fun a b=>G6 b a=false) (fun a b _ _ h1 h2=>A4B h2 h1) (List.pairwise_map.2 hs) (A7V ..) (((hp.map _).trans ?_).trans (A2x ..).symm)
  unfold A4x
  rw [D8Y]
  refine List.Perm.of_eq (D7V fun k hk=>?_)
  have:=D6T.1 hk
  show (gI (A4G total ws) ((k:Int).toNat),(k:Int))=shE total (A2 ws) ws k
  unfold A4G
  rw [D6R,M8 _ this];rfl
 rw [←e,D8Y]
 conv=>lhs;rw [←List.map_id o]
 rfl
theorem C3R {total:Int} {ws:List Int} (h:R3 total ws):D2 total ws=S5 ((List.range ws.length).map (shQ total (A2 ws) ws)) ((shR total (A2 ws) ws).take (F9 total (A2 ws) ws ws.length).toNat)∧0≤F9 total (A2 ws) ws ws.length∧F9 total (A2 ws) ws ws.length≤ws.length:=by
 by_cases hS:A2 ws=0
 ·have ht:=h.none hS
  have hq:∀ k,shQ total (A2 ws) ws k=0:=fun k=>by unfold shQ;rw [ht,D9D,Int.zero_ediv]
  have hl:F9 total (A2 ws) ws ws.length=0:=by
   unfold F9
   rw [show (List.range ws.length).map (shQ total (A2 ws) ws)=List.replicate ws.length 0 from by
    rw [List.eq_replicate_iff]
    exact ⟨by simp,fun b hb=>by obtain ⟨k,_,rfl⟩:=D6Z.1 hb;exact hq k⟩,ht]
   have:∀ n,A2 (List.replicate n 0)=0:=fun n=>by
    induction n with
    | zero=>rfl
    | succ n ih=>rw [List.replicate_succ',F5,ih];rfl
   rw [this];rfl
  refine ⟨?_,by omega,by omega⟩
  rw [hl]
  unfold D2
  rw [if_pos hS]
  show ws.map (fun _=>0)=S5 _ []
  unfold S5
  refine D9a (by simp) fun k h1 h2=>?_
  simp [hq]
 ·have hS':0<A2 ws:=by have:=C1 h.w0;omega
  refine ⟨?_,A3v h hS'⟩
  unfold D2;rw [if_neg hS]
set_option maxHeartbeats 1000000 in
theorem A7U (total:Int) (ws:List Int) (h:R3 total ws) (st:St):S P 220 [eI total,B0 ws] st fun v st'=>v=.tuple [B0 (D2 total ws),eI 0]∧st'=st:=by
 obtain ⟨hR,hl0,hl1⟩:=C3R h
 have hlen:=h.len
 have hS0:=C1 h.w0
 have hSm:=h.sum
 have ht0:=h.t0
 have ht1:=h.t1
 refine S.post (post:=fun v st'=>∃ (bo:Nat) (f:Nat→AV),st bo=none∧v=.tuple [.own 1 bo 0 ws.length,eI 0]∧st'=upd st bo ⟨2,1,ws.length,f⟩∧∀ k,k<ws.length→f k=eI (gI (D2 total ws) k)) ?_
  (fun v st' ⟨bo,f,hb,hv,hs,hf⟩=>⟨_,st,⟨rfl,rfl⟩,by
   subst hv;subst hs
   have hL:(D2 total ws).length=ws.length:=by rw [hR,A1V];simp
   have e:B0 (D2 total ws)=.arr 1 ws.length (fun k=>eI (gI (D2 total ws) k)):=by unfold B0 A8;rw [hL]
   rw [e]
   have h2:=O4 (st:=upd st bo ⟨2,1,ws.length,f⟩) (e:=1) (b:=bo) (n:=ws.length) (f:=fun k=>eI (gI (D2 total ws) k)) (A0 ..) rfl (D6M _) hf
   rw [A3L hb] at h2
   exact A6.tuple (A6.cons h2 (A6.keep _ _)) rfl⟩)
 refine F4 [] Tryz.func220 ?_
 refine B3 (A2v total st) ?_
 rw [(A1k total).2 ⟨ht0,ht1⟩];conv=>whnf
 rw [D6L (show ¬(ws.length:Int)>100000 by omega)];conv=>whnf
 refine lp ws.length [0,1,6] (fun i vs s=>vs=[eI total,B0 ws,eI i]∧s=st) ?_ ?_
 ·conv=>whnf
  exact ⟨rfl,rfl⟩
 ·rintro i vs st' hi ⟨rfl,rfl⟩
  conv=>whnf
  cases hd:decide ((i:Int)<(ws.length:Int))
  case true =>
   have hi':=E2 hd
   have hm:=A7 hi'
   conv=>whnf
   refine E7 ?_
   refine B3 (A2v _ _) ?_
   rw [(A1k (ws.getD (i:Int).toNat default)).2 ⟨h.w0 _ hm,D9z (J4 h.w0 hm) hSm⟩];conv=>whnf
   refine G2 ?_
   exact nx hi' ⟨by rw [B4 (by omega)],rfl⟩
  clear hd
  conv=>whnf
  refine lp ws.length [0,1,7,8] (fun i vs s=>vs=[eI total,B0 ws,eI (A2 (ws.take i)),eI i]∧s=st') ?_ ?_
  ·conv=>whnf
   exact ⟨rfl,rfl⟩
  ·clear hi
   rintro i vs st hi ⟨rfl,rfl⟩
   conv=>whnf
   cases hd:decide ((i:Int)<(ws.length:Int))
   case true =>
    have hi':=E2 hd
    have e:=K9 hi'
    have h1:=C1 (l:=ws.take i) (fun x hx=>h.w0 x (D7G _ _ hx))
    have h2:=N0 h.w0 (i+1)
    have h3:=h.w0 _ (A7 hi')
    have w:IntKind.i64.wrap (A2 (ws.take i)+ws.getD (i:Int).toNat default)=A2 (ws.take (i+1)):=by rw [e];exact A5 (by rw [D6R];omega) (by rw [D6R];show A2 (ws.take i)+gI ws i≤_;omega)
    conv=>whnf
    refine E7 ?_
    rw [w,D6L (show ¬ A2 (ws.take (i+1))>100000000000000 by omega)];conv=>whnf
    refine G2 ?_
    exact nx hi' ⟨by rw [B4 (by omega)],rfl⟩
   obtain rfl:=C5 hd hi
   rw [D6O]
   have hz:(A2 ws==0)=true→(total != 0)=false:=fun e=>by rw [h.none (eq_of_beq e)];rfl
   cases h0:(A2 ws==0)
   case' true =>
    conv=>whnf
    rw [h0];conv=>whnf
    rw [hz h0]
   case' false =>
    conv=>whnf
    rw [h0]
   all_goals (conv=>whnf)
   all_goals refine mkO rfl rfl rfl (by show 8 * ws.length≤_;omega) (by omega) (by rfl) (fun b1 hb1=>?_)
   all_goals (conv=>whnf)
   all_goals refine mkO rfl rfl rfl (by show 8 * ws.length≤_;omega) (by omega) (by rfl) (fun b2 hb2=>?_)
   all_goals (conv=>whnf)
   all_goals
    have hne:b1≠b2:=fun e=>by subst e;rw [A0] at hb2;cases hb2
    have hb2':st b2=none:=by rw [A9 hne.symm] at hb2;exact hb2
    refine lp ws.length [0,1,7,9,10,11,12] (fun i vs s=>vs=[eI total,B0 ws,eI (A2 ws),.own 1 b1 0 ws.length,.own 1 b2 0 ws.length,eI (F9 total (A2 ws) ws i),eI i]∧(A2 ws=0→i=0)∧∃ f1 f2,s=upd (upd st b1 ⟨2,1,ws.length,f1⟩) b2 ⟨2,1,ws.length,f2⟩∧∀ k,k<ws.length→f1 k=eI (if k<i then shQ total (A2 ws) ws k else 0)∧f2 k=eI (if k<i then total * gI ws k % A2 ws else 0)) ?_ ?_
    ·conv=>whnf
     exact ⟨by rw [show F9 total (A2 ws) ws 0=total from by unfold F9;simp [A2]];rfl,fun _=>rfl,_,_,rfl,fun k hk=>⟨by rw [if_neg (by omega)];rfl,by rw [if_neg (by omega)];rfl⟩⟩
    ·rintro i vs s hi ⟨rfl,hSi,f1,f2,rfl,hf⟩
     conv=>whnf
     have fin:(∀ k,k<ws.length→f1 k=eI (shQ total (A2 ws) ws k)∧f2 k=eI (total * gI ws k % A2 ws))→F9 total (A2 ws) ws i=F9 total (A2 ws) ws ws.length→True:=fun _ _=>trivial
     have hend:(i=ws.length∨A2 ws=0)→(∀ k,k<ws.length→f1 k=eI (shQ total (A2 ws) ws k)∧f2 k=eI (total * gI ws k % A2 ws))∧F9 total (A2 ws) ws i=F9 total (A2 ws) ws ws.length:=fun hE=>by
      rcases hE with hE | hE
      ·subst hE
       exact ⟨fun k hk=>by have:=hf k hk;rwa [if_pos hk,if_pos hk] at this,rfl⟩
      ·have hi0:=hSi hE
       have ht:=h.none hE
       have hq:∀ k,shQ total (A2 ws) ws k=0:=fun k=>by unfold shQ;rw [ht,D9D,Int.zero_ediv]
       have hz:∀ n,A2 ((List.range n).map (shQ total (A2 ws) ws))=0:=fun n=>by
        induction n with
        | zero=>rfl
        | succ n ih=>rw [L7,ih,hq];rfl
       refine ⟨fun k hk=>?_,?_⟩
       ·have:=hf k hk
        rw [if_neg (by omega),if_neg (by omega)] at this
        rw [hq,ht,D9D,Int.zero_emod];exact this
       ·unfold F9;rw [hz,hz]
     cases hd:decide ((i:Int)<(ws.length:Int))
     case' false =>
      have hE:=hend (.inl (C5 hd hi))
      conv=>whnf
     case' true =>
      have hi':=E2 hd
      conv=>whnf
      cases hp:decide (A2 ws>0)
      case' false =>
       have hE:=hend (.inr (by have:=D6G hp;omega))
       conv=>whnf
      case' true =>
       have hS:0<A2 ws:=D6H hp
       have hm:gI ws i∈ws:=A7 hi'
       have hqb:=A5u h hS (show i≤ws.length by omega)
       have hqb':=A5u h hS (show i+1≤ws.length by omega)
       have hsr:=L7 (shQ total (A2 ws) ws) i
       have hq:=A4H h hS hi'
       have hpt:=B2r total (gI ws i) (A2 ws) ht0 ht1 (h.w0 _ hm) (D9z (J4 h.w0 hm) hSm) hS hSm (upd (upd st b1 ⟨2,1,ws.length,f1⟩) b2 ⟨2,1,ws.length,f2⟩)
       unfold A9E at hpt
       rw [if_neg (by have:total * gI ws i / A2 ws≤total:=hq.2;omega)] at hpt;conv=>whnf
       refine E7 ?_
       refine I2 hpt ?_
       refine E7 ?_
       refine stU (by rw [A9 hne];exact A0 ..) (hf _ (by omega)).1 ?_
       rw [R1 hne.symm,C0];conv=>whnf
       refine E7 ?_
       refine stU (A0 ..) (hf _ (by omega)).2 ?_
       rw [C0];conv=>whnf
       refine E7 ?_
       refine J6 (by rw [A9 hne];exact A0 ..) (A4 ..) ?_
       refine G2 ?_
       have e:IntKind.i64.wrap (F9 total (A2 ws) ws i - total * gI ws i / A2 ws)=F9 total (A2 ws) ws (i+1):=by
        unfold F9
        have:total * gI ws i / A2 ws=shQ total (A2 ws) ws i:=rfl
        rw [this,A5 (by omega) (by omega)];omega
       refine nx hi' ⟨by rw [B4 (by omega),e],fun e=>by omega,_,_,rfl,fun k hk=>?_⟩
       rw [show 0+(i:Int).toNat=i by omega]
       by_cases e1:k=i
       ·subst e1;rw [A4,A4]
        refine ⟨?_,?_⟩
        ·show eI (shQ total (A2 ws) ws k)=_;rw [if_pos (by omega)]
        ·show eI (total * gI ws k % A2 ws)=_;rw [if_pos (by omega)]
       ·have h7:=hf k hk
        rw [H4 e1,H4 e1]
        by_cases h8:k<i
        ·rw [if_pos h8,if_pos h8] at h7;rw [if_pos (by omega),if_pos (by omega)];exact h7
        ·rw [if_neg h8,if_neg h8] at h7;rw [if_neg (by omega),if_neg (by omega)];exact h7
     all_goals
      obtain ⟨hE1,hE2⟩:=hE
      clear hend hf fin hSi
      rw [hE2]
      have hres:A4G total ws=A4G total ws:=rfl
      have hrl:(A4G total ws).length=ws.length:=by unfold A4G;simp
      have eA:B0 (A4G total ws)=.arr 1 ws.length (fun k=>eI (gI (A4G total ws) k)):=by unfold B0 A8;rw [hrl]
      refine E5 (args':=[B0 (A4G total ws)]) (by
       rw [eA]
       exact O4 (A0 ..) rfl (D6M _) (fun k hk=>by show f2 k=_;rw [(hE1 k hk).2];unfold A4G;rw [M8 _ hk])) (call (B6T (A4G total ws) (by omega) _) (fun v s2 hv=>?_))
      obtain ⟨⟨o,ho1,ho2,rfl⟩,rfl⟩:=hv
      rw [hrl] at ho1
      have hoS:=C6P ho1 ho2
      have hol:o.length=ws.length:=by rw [ho1.length_eq,A9A]
      have hog:∀ k,k<ws.length→gI o k=(at_ (shR total (A2 ws) ws) k).2:=fun k hk=>by
       rw [hoS];exact D4 (fun e:QE=>e.2) _ (by rw [A7d];exact hk)
      have hdl:del (upd (upd st b1 ⟨2,1,ws.length,f1⟩) b2 ⟨2,1,ws.length,f2⟩) b2=upd st b1 ⟨2,1,ws.length,f1⟩:=A3L (by rw [A9 hne.symm];exact hb2') _
      rw [hdl];conv=>whnf
      refine lp (F9 total (A2 ws) ws ws.length).toNat [9,11,13,14] (fun i vs s=>vs=[.own 1 b1 0 ws.length,eI (F9 total (A2 ws) ws ws.length),B0 o,eI i]∧∃ f,s=upd st b1 ⟨2,1,ws.length,f⟩∧∀ k,k<ws.length→f k=eI (gI (S5 ((List.range ws.length).map (shQ total (A2 ws) ws)) ((shR total (A2 ws) ws).take i)) k)) ?_ ?_
      ·conv=>whnf
       exact ⟨rfl,f1,rfl,fun k hk=>by rw [(hE1 k hk).1];show _=eI (gI ((List.range ws.length).map _) k);rw [M8 _ hk]⟩
      ·rintro t vs s ht ⟨rfl,f,rfl,hf⟩
       conv=>whnf
       cases hd2:decide ((t:Int)<F9 total (A2 ws) ws ws.length)
       ·have:t=(F9 total (A2 ws) ws ws.length).toNat:=by have:=D6G hd2;omega
        subst this;conv=>whnf
        exact ⟨b1,f,hb1,rfl,rfl,by rw [hR];exact hf⟩
       ·have ht':(t:Int)<F9 total (A2 ws) ws ws.length:=D6H hd2
        have hx:0≤(at_ (shR total (A2 ws) ws) t).2∧(at_ (shR total (A2 ws) ws) t).2.toNat<ws.length:=B0Q (total:=total) (S:=A2 ws) (ws:=ws) (A7 (l:=shR total (A2 ws) ws) (i:=t) (by rw [A7d];omega))
        have hgo:=hog t (by omega)
        have htk:=L0 (l:=shR total (A2 ws) ws) (i:=t) (by rw [A7d];omega)
        have hb1:=A5a ((List.range ws.length).map (shQ total (A2 ws) ws)) ((shR total (A2 ws) ws).take t) (at_ (shR total (A2 ws) ws) t).2.toNat
        rw [M8 _ hx.2,D6N] at hb1
        have hqq:0≤shQ total (A2 ws) ws (at_ (shR total (A2 ws) ws) t).2.toNat∧shQ total (A2 ws) ws (at_ (shR total (A2 ws) ws) t).2.toNat≤100000000000000:=by
         by_cases hS:A2 ws=0
         ·unfold shQ;rw [h.none hS,D9D,Int.zero_ediv];omega
         ·have:=A4H h (show 0<A2 ws by omega) hx.2;omega
        have hx2:0≤gI o t∧(gI o t).toNat<ws.length:=by rw [hgo];exact hx
        conv=>whnf
        refine E7 ?_
        refine ⟨rfl,⟨by show 0≤gI o t;omega,by show gI o t<(ws.length:Int);omega⟩,?_⟩;conv=>whnf
        refine ldV (A0 ..) rfl (by show 0+(gI o t).toNat<_;omega) (hf _ (by show 0+(gI o t).toNat<_;omega)) ?_;conv=>whnf
        refine ⟨rfl,⟨by show 0≤gI o t;omega,by show gI o t<(ws.length:Int);omega⟩,?_⟩;conv=>whnf
        refine stV (A0 ..) rfl (by show 0+(gI o t).toNat<_;omega) (hf _ (by show 0+(gI o t).toNat<_;omega)) (by rfl) ?_
        rw [C0];conv=>whnf
        refine G2 ?_
        refine nx (by omega) ⟨by rw [B4 (by omega)],_,rfl,fun k hk=>?_⟩
        rw [htk,A9V,C3J (by rw [A1V];simpa using hx.2)]
        show I4 f (0+(gI o t).toNat) (eI (IntKind.i64.wrap (gI (S5 _ _) (0+(gI o t).toNat)+1))) k=_
        rw [D6Q,hgo]
        by_cases e1:k=(at_ (shR total (A2 ws) ws) t).2.toNat
        ·rw [if_pos e1,e1,A4,A5 (by omega) (by omega)]
        ·rw [if_neg e1,H4 e1];exact hf k hk
theorem B8Q (us:List B2) (mine:List Int) (h:E3 us) (hm:N7 us mine) (st:St):S P 253 [C6 us,B0 mine] st fun v st'=>v=.bool true∧st'=st:=by
 have hlen:=h.len
 have hml:=hm.len
 refine F4 [] Tryz.func253 ?_
 rw [D6L (show ¬(us.length:Int)>100000 by omega)];conv=>whnf
 refine lp us.length [0,1,5,6] (fun i vs s=>vs=[C6 us,B0 mine,eI (A2 ((D9 us).take i)),eI i]∧s=st) ?_ ?_
 ·conv=>whnf
  exact ⟨rfl,rfl⟩
 ·rintro i vs st' hi ⟨rfl,rfl⟩
  conv=>whnf
  cases hd:decide ((i:Int)<(us.length:Int))
  case true =>
   have hi':=E2 hd
   have e:=K9 (l:=D9 us) (i:=i) (by rw [D6J];exact hi')
   have e4:gI (D9 us) i=(gU us i).net:=D4 B2.net us hi'
   have h1:=C1 (l:=(D9 us).take i) (fun x hx=>h.nets0 x (D7G _ _ hx))
   have h2:=N0 h.nets0 (i+1)
   have h3:=h.sum
   have h4:=h.at0 i
   have h5:=h.le (A7 hi')
   have w:IntKind.i64.wrap (A2 ((D9 us).take i)+(us.getD (i:Int).toNat default).net)=A2 ((D9 us).take (i+1)):=by rw [e,e4];exact A5 (by rw [D6R];show _≤A2 ((D9 us).take i)+(gU us i).net;omega) (by rw [D6R];show A2 ((D9 us).take i)+(gU us i).net≤_;omega)
   have f1:decide ((us.getD (i:Int).toNat default).net<0)=false:=D6L (by rw [D6R];show ¬(gU us i).net<0;omega)
   have f2:decide ((us.getD (i:Int).toNat default).net>10000000000000)=false:=D6L (by rw [D6R];omega)
   have f3:decide (A2 ((D9 us).take (i+1))>10000000000000)=false:=D6L (by omega)
   repeat' ((conv=>whnf);first | refine ⟨rfl,⟨by omega,by omega⟩,?_⟩ | rw [f1] | rw [f2] | rw [w,f3])
   conv=>whnf
   refine G2 ?_
   exact nx hi' ⟨by rw [B4 (by omega)],rfl⟩
  conv=>whnf
  refine lp mine.length [0,1,7] (fun i vs s=>vs=[C6 us,B0 mine,eI i]∧s=st') ?_ ?_
  ·conv=>whnf
   exact ⟨rfl,rfl⟩
  ·rintro k vs st hk ⟨rfl,rfl⟩
   conv=>whnf
   cases hd2:decide ((k:Int)<(mine.length:Int))
   ·conv=>whnf
    exact ⟨rfl,rfl⟩
   ·have hk':=E2 hd2
    have hr:0≤mine.getD (k:Int).toNat default∧(mine.getD (k:Int).toNat default).toNat<us.length:=hm.rng k hk'
    have f1:decide (mine.getD (k:Int).toNat default<0)=false:=D6L (by omega)
    have f2:decide (mine.getD (k:Int).toNat default≥(us.length:Int))=false:=D6L (by omega)
    have f3:(!(us.getD (mine.getD (k:Int).toNat default).toNat default).opn)=false:=by
     have:=hm.opn k hk'
     rw [D7q];exact this
    conv=>whnf
    refine ⟨[],[],List.range 41,by kernel_rfl,?_⟩
    rcases D8b k with h0 | h0
    ·have f4:decide ((k:Int)>0)=false:=D6L (by omega)
     repeat' ((conv=>whnf);first | refine ⟨rfl,⟨by omega,by omega⟩,?_⟩ | rw [f1] | rw [f2] | rw [f3] | rw [f4])
     conv=>whnf
     refine G2 ?_
     exact nx hk' ⟨by rw [B4 (by omega)],rfl⟩
    ·have f4:decide ((k:Int)>0)=true:=D7m (by omega)
     have hw:=A7x h0 (by omega)
     have f5:decide (mine.getD (k:Int).toNat default≤mine.getD (IntKind.i64.wrap ((k:Int) - 1)).toNat default)=false:=D6L (by
      rw [hw,D6R,D6R]
      have:=hm.lt (k - 1) k (by omega) hk'
      exact Int.not_le.2 this)
     repeat' ((conv=>whnf);first | refine ⟨rfl,⟨by omega,by omega⟩,?_⟩ | refine ⟨rfl,⟨by rw [hw];omega,by rw [hw];omega⟩,?_⟩ | rw [f1] | rw [f2] | rw [f3] | rw [f4] | rw [f5])
     conv=>whnf
     refine G2 ?_
     exact nx hk' ⟨by rw [B4 (by omega)],rfl⟩
theorem C0n (us:List B2) (mine:List Int) (h:E3 us) (hm:N7 us mine) (st:St):S P 254 [C6 us,B0 mine] st fun v st'=>v=B0 ((E1 us mine).map (·.2))∧st'=st:=by
 have hml:=hm.len
 have hul:=h.len
 have hnl:(E4 us mine).length=mine.length:=by unfold E4;rw [D6J]
 refine A0L (ty:=3) ?_
 refine F4 [] Tryz.func254 ?_
 refine I2 (A7c us mine (by omega) hm.rng st) ?_
 refine call (B6T (E4 us mine) (by omega) _) (fun v s hv=>?_)
 obtain ⟨⟨o,ho1,ho2,rfl⟩,rfl⟩:=hv
 rw [hnl] at ho1
 have hol:o.length=mine.length:=by rw [ho1.length_eq,A9A]
 have hom:∀ {k:Nat},k<o.length→0≤gI o k∧(gI o k).toNat<mine.length:=fun hk=>A8J ho1 (fun x hx=>A6X hx) hk
 have he:(E1 us mine).map (·.2)=o.map fun x=>gI mine x.toNat:=by
  have e:o.map (fun x=>C0Z us (gI mine x.toNat))=E1 us mine:=by
   refine List.Perm.eq_of_pairwise (le:=fun a b=>G6 b a=false) (fun a b _ _ h1 h2=>A4B h2 h1) (List.pairwise_map.2 ?_) (A5s _) (((ho1.map _).trans ?_).trans (A3r ..).symm)
   ·refine List.Pairwise.imp_of_mem ?_ ho2
    intro a b ha hb hab
    obtain ⟨a0,a1⟩:=A6X (ho1.subset ha)
    obtain ⟨b0,b1⟩:=A6X (ho1.subset hb)
    unfold B4n B2l at hab
    have ea:gI (E4 us mine) a.toNat=(gU us (gI mine a.toNat).toNat).net:=D4 (fun i:Int=>(gU us i.toNat).net) mine a1
    have eb:gI (E4 us mine) b.toNat=(gU us (gI mine b.toNat).toNat).net:=D4 (fun i:Int=>(gU us i.toNat).net) mine b1
    rw [ea,eb,S4] at hab
    unfold C0Z
    rw [S4]
    simp only at hab ⊢
    rintro (h1 | ⟨h1,h2⟩)
    ·exact hab (.inl h1)
    ·refine hab (.inr ⟨h1,?_⟩)
     refine Int.lt_of_not_ge fun hge=>?_
     rcases D9G (show a.toNat≤b.toNat by omega) with e1 | e1
     ·rw [e1] at h2;omega
     ·have:=hm.lt a.toNat b.toNat e1 b1;omega
   ·unfold A4x
    rw [D8Y]
    refine List.Perm.of_eq (D9a (by simp) fun k h1 h2=>?_)
    have:k<mine.length:=by simpa using h1
    simp [gI,this]
  rw [←e,D8Y];rfl
 rw [he];conv=>whnf
 refine lp o.length [1,5,6,7] (fun i vs s'=>∃ sv,vs=[B0 mine,B0 o,sv,eI i]∧E6 3 1 eI ((o.take i).map fun x=>gI mine x.toNat) s sv s') ?_ ?_
 ·conv=>whnf
  exact ⟨.emp,rfl,E6.start _ _ _ _⟩
 ·rintro i vs st' hi ⟨sv,rfl,hc⟩
  conv=>whnf
  cases hd:decide ((i:Int)<(o.length:Int))
  ·obtain rfl:=C5 hd hi
   rw [D6O] at hc;conv=>whnf
   exact hc
  ·have hi':=E2 hd
   have hx:=hom hi'
   conv=>whnf
   refine E7 ?_
   refine ⟨rfl,⟨by show 0≤gI o i;omega,by show gI o i<(mine.length:Int);omega⟩,?_⟩;conv=>whnf
   refine E6.app (q:=r3) (y:=gI mine (gI o i).toNat) rfl rfl rfl rfl rfl rfl (by show (_+1) * 8≤140737488355328;rw [D6J,D6N];omega) hc (fun sv' s' hc'=>?_);conv=>whnf
   refine G2 ?_
   refine nx hi' ⟨sv',by rw [B4 (by omega)],?_⟩
   rw [A1L hi'];exact hc'
theorem C0o (us:List B2) (items:List Ab.Item) (sc:W4) (h1:Sm sc.skus.length) (h2:Sm sc.cats.length) (hu:us.length≤100000) (hl:∀ u∈us,0≤u.line∧u.line.toNat<items.length) (st:St) :
  S P 215 [C6 us,A8 4 E9 items,A3Y sc] st fun v st'=>v=B0 (K0 sc items us us.length)∧st'=st:=by
 refine A0L (ty:=3) ?_
 refine F4 [5] Tryz.func215 ?_
 refine lp us.length [0,1,5,7,8] (fun i vs s=>∃ sv,vs=[C6 us,A8 4 E9 items,.fptr (A3Y sc) 0,sv,eI i]∧E6 3 1 eI (K0 sc items us i) st sv s) ?_ ?_
 ·conv=>whnf
  exact ⟨.emp,rfl,E6.start _ _ _ _⟩
 ·rintro i vs st' hi ⟨sv,rfl,hc⟩
  conv=>whnf
  cases hd:decide ((i:Int)<(us.length:Int))
  ·obtain rfl:=C5 hd hi
   conv=>whnf
   exact hc
  ·have hi':=E2 hd
   have hlk:0≤(us.getD (i:Int).toNat default).line∧(us.getD (i:Int).toNat default).line.toNat<items.length:=hl _ (A7 hi')
   have es:=B1F sc items us i
   have hpl:=A3i sc items us i
   have eo:A1G sc items (gU us i)=((us.getD (i:Int).toNat default).opn&&B0v sc (items.getD (us.getD (i:Int).toNat default).line.toNat default)):=rfl
   rw [eo] at es
   have n1:=C9f sc (items.getD (us.getD (i:Int).toNat default).line.toNat default) h1 h2 st'
   generalize B0v sc (items.getD (us.getD (i:Int).toNat default).line.toNat default)=b1 at n1 es
   conv=>whnf
   refine ⟨[],[],List.range 17,by kernel_rfl,?_⟩;conv=>whnf
   refine E7 ?_
   cases ho:(us.getD (i:Int).toNat default).opn
   case' true =>
    rw [ho,D6Y] at es;conv=>whnf
    refine E7 ?_
    refine E7 ?_
    refine ⟨_,H8 n1,?_⟩
    cases b1
    case true =>
     rw [if_pos rfl] at es;conv=>whnf
     refine E6.app (q:=r3) (y:=(i:Int)) rfl rfl rfl rfl rfl rfl (by show (_+1) * 8≤140737488355328;omega) hc (fun sv' s' hc'=>?_);conv=>whnf
     refine G2 ?_
     exact nx hi' ⟨sv',by rw [B4 (by omega)],by rw [es];exact hc'⟩
    rw [if_neg (by simp),D8y] at es
   case' false =>
    rw [ho,D7c,if_neg (by simp),D8y] at es
   all_goals (conv=>whnf)
   all_goals refine ⟨rfl,?_⟩
   all_goals (conv=>whnf)
   all_goals exact nx hi' ⟨sv,by rw [B4 (by omega)],by rw [es];exact hc⟩
theorem B2i (l:List A0S) (x:Int) (hl:l.length≤100000) (st:St):S P 285 [A8 3 R9 l,eI x] st fun v st'=>v=.tuple [R9 ((O3 l x).getD default),.bool (O3 l x).isSome]∧st'=st:=by
 refine A0Q ?_
 refine F4 [] Tryz.func285 ?_
 intro b hb;conv=>whnf
 have w0:IntKind.i64.wrap ((l.length:Int) - 1)=(l.length:Int) - 1:=A5 (by omega) (by omega)
 refine ⟨[0,1,4,6],fun m vs st'=>∃ (i:Int) (f:Nat→AV) (u:A0S),-1≤i∧i<l.length∧(∀ k:Nat,i<k→k<l.length→decide ((l.getD k default).least≤x)=false)∧m=(i+1).toNat∧vs=[A8 3 R9 l,eI x,.optr 3 b 0 0,eI i]∧st'=upd st b ⟨300,3,1,f⟩∧f 0=R9 u,?_,?_⟩
 ·conv=>whnf
  exact ⟨_,(l.length:Int) - 1,_,default,by omega,by omega,fun k h1 h2=>by omega,rfl,by rw [w0],rfl,rfl⟩
 ·rintro m vs st' ⟨i,f,u,h0,hi,hno,rfl,rfl,rfl,hf⟩
  conv=>whnf
  cases h:decide (i≥0)
  ·have:=D6G h
   have hr:O3 l x=none:=A8Q fun k hk=>hno k (by omega) hk
   conv=>whnf
   refine Z7 (A0 ..) hf ?_
   refine J6 (A0 ..) (A4 ..) ?_
   refine ⟨by rw [hr];rfl,((F1.refl st).upd hb).over hb⟩
  ·have hi0:=D6H h
   conv=>whnf
   refine E7 ?_
   refine B9 (fun h1=>?_) (fun h1=>?_)
   ·have hr:O3 l x=some (l.getD i.toNat default):=A8R (by omega) (fun k h2 h3=>hno k (by omega) h3) h1
    rw [h1];conv=>whnf
    refine E7 ?_
    refine Z7 (A0 ..) hf ?_
    refine J6 (A0 ..) (A4 ..) ?_
    refine ⟨by rw [hr];rfl,((F1.refl st).upd hb).over hb⟩
   ·have w:IntKind.i64.wrap (i - 1)=i - 1:=A5 (by omega) (by omega)
    rw [h1];conv=>whnf
    refine G2 ?_
    refine ⟨i.toNat,by omega,i - 1,f,u,by omega,by omega,fun k h2 h3=>?_,by omega,by rw [w],rfl,hf⟩
    rcases (by omega:k=i.toNat∨i<k) with e | e
    ·rw [e];exact h1
    ·exact hno k e h3
def A2P (us:List B2) (mine offs:List Int) (closes:Bool):List B2×Int :=
 if A2 offs=0 then (us,0) else (if closes=true then closeB (D0 us mine offs offs.length) mine else D0 us mine offs offs.length,A2 offs)
theorem A3f {us:List B2} {mine offs:List Int} (h:∀ k,k<offs.length→gI offs k=0):∀ k,k≤offs.length→D0 us mine offs k=us
 | 0,_=>rfl
 | k+1,hk=>by
  unfold D0
  rw [A3f h k (by omega),h k (by omega)]
  unfold less1
  refine D9a (by simp) fun j h1 h2=>?_
  rw [List.getElem_set]
  split
  ·rename_i e;subst e
   have e:gU us (gI mine k).toNat=us[(gI mine k).toNat]:=by unfold gU;rw [D6D,D6K h2];rfl
   rw [e,Int.sub_zero]
  ·rfl
theorem A3U {l:List Int} (h0:∀ x∈l,0≤x) (hs:A2 l=0):∀ k,k<l.length→gI l k=0:=fun k hk=>by
 have h1:=h0 _ (A7 hk)
 have h2:=J4 h0 (A7 hk)
 show l.getD k default=0
 omega
theorem B5h (us:List B2) (mine offs:List Int) (closes:Bool) (hu:E3 us) (hm:A0a us mine) (hml:mine.length≤1000000) (hol:offs.length≤mine.length) (ho:∀ k,k<offs.length→0≤gI offs k∧gI offs k≤(gU us (gI mine k).toNat).net) (hs:A2 offs≤1000000000000000) (st:St) :
  S P 255 [C6 us,B0 mine,B0 offs,eB closes] st fun v st'=>v=.tuple [C6 (A2P us mine offs closes).1,eI (A2P us mine offs closes).2]∧st'=st:=by
 have hul:=hu.len
 have ho0:∀ x∈offs,0≤x:=fun x hx=>by obtain ⟨k,hk,rfl⟩:=D5 hx;exact (ho k hk).1
 refine S.post (post:=fun v st'=>∃ sv,v=.tuple [sv,eI (A2P us mine offs closes).2]∧A5I st (A2P us mine offs closes).1 sv st') ?_
  (fun v st' ⟨sv,hv,h⟩=>⟨_,st,⟨rfl,rfl⟩,by rw [hv];exact A6.tuple (A6.cons h.shift (A6.keep _ _)) rfl⟩)
 refine SyW [] Tryz.func255 ?_
 have nsum:=fun s=>A9O offs (by omega) ho0 (by omega) s
 have hS:A2P us mine offs closes=if A2 offs=0 then (us,0) else (if closes=true then closeB (D0 us mine offs offs.length) mine else D0 us mine offs offs.length,A2 offs):=rfl
 conv=>whnf
 refine apE (q:=C1L) rfl rfl rfl rfl (A3F _ _ _ _) (by show us.length * 24≤_;omega) (fun h0=>?_) (fun h0 b hb=>?_)
 ·have hus:us=[]:=D7n h0
  have hmi:mine.length=0:=by
   rcases D8b mine.length with e | e
   ·exact e
   ·have:=(hm.rng 0 e).2;omega
  have hof:offs=[]:=D7n (by omega)
  have hz:A2 offs=0:=by rw [hof];rfl
  rw [if_pos hz] at hS;conv=>whnf
  refine B3 (nsum _) ?_
  rw [hz];conv=>whnf
  exact ⟨_,by rw [hS];rfl,by rw [hS];exact ⟨F1.refl _,.inl ⟨hus,rfl⟩⟩⟩
 ·conv=>whnf
  refine I2 (nsum _) ?_
  cases hz:(A2 offs==0)
  case true =>
   rw [if_pos (eq_of_beq hz)] at hS;conv=>whnf
   exact ⟨_,by rw [hS];rfl,by rw [hS];exact ⟨(F1.refl _).upd hb,.inr ⟨b,hb,rfl,_,A0 ..,fun k hk=>rfl⟩⟩⟩
  rw [if_neg (ne_of_beq_false hz)] at hS;conv=>whnf
  refine lp offs.length [1,2,3,10,11] (fun i vs s=>vs=[B0 mine,B0 offs,eB closes,.own 3 b 0 us.length,eI i]∧∃ f,s=upd st b ⟨223,3,us.length,f⟩∧∀ j,j<us.length→f j=Z4 (gU (D0 us mine offs i) j)) ?_ ?_
  ·conv=>whnf
   exact ⟨rfl,_,rfl,fun j hj=>rfl⟩
  ·rintro i vs s hi ⟨rfl,f,rfl,hf⟩
   conv=>whnf
   cases hd:decide ((i:Int)<(offs.length:Int))
   ·obtain rfl:=C5 hd hi
    have hlt:=P8 us mine offs offs.length
    conv=>whnf
    refine lp mine.length [1,2,3,10,12] (fun i vs s=>(closes=false→i=0)∧vs=[B0 mine,B0 offs,eB closes,.own 3 b 0 us.length,eI i]∧∃ f,s=upd st b ⟨223,3,us.length,f⟩∧∀ j,j<us.length→f j=Z4 (gU (closeB (D0 us mine offs offs.length) (mine.take i)) j)) ?_ ?_
    ·conv=>whnf
     exact ⟨fun _=>rfl,rfl,_,rfl,hf⟩
    ·clear hf
     rintro i vs s hi ⟨hci,rfl,f,rfl,hf⟩
     conv=>whnf
     have hend:(i=mine.length∨closes=false)→∀ j,j<us.length→f j=Z4 (gU (A2P us mine offs closes).1 j):=fun hE=>by
      intro j hj
      have h7:=hf j hj
      have e1:(A2P us mine offs closes).1=if closes=true then closeB (D0 us mine offs offs.length) mine else D0 us mine offs offs.length:=by rw [hS]
      rw [e1]
      cases hc:closes
      ·rw [hci hc,D8h] at h7;rw [if_neg (by simp)];exact h7
      ·rcases hE with hE | hE
       ·rw [hE,D6O] at h7;rw [if_pos rfl];exact h7
       ·rw [hE] at hc;cases hc
     have hlen:(A2P us mine offs closes).1.length=us.length:=by
      rw [hS];show (if closes=true then _ else _:List B2).length=_
      split
      ·rw [A1X,hlt]
      ·exact hlt
     cases hd:decide ((i:Int)<(mine.length:Int))
     case' false =>
      have hE:=hend (.inl (C5 hd hi))
      conv=>whnf
     case' true =>
      have hi':=E2 hd
      conv=>whnf
      cases hc:closes
      case' false =>
       have hE:=hend (.inr hc)
       rw [hc] at hS hlen hE;conv=>whnf
      case' true =>
       have hr:=hm.rng i hi'
       conv=>whnf
       refine E7 ?_
       refine ⟨rfl,⟨by show 0≤gI mine i;omega,by show gI mine i<(us.length:Int);omega⟩,?_⟩;conv=>whnf
       refine stV (A0 ..) rfl (by show 0+(gI mine i).toNat<_;omega) (v:=Z4 (gU (closeB (D0 us mine offs offs.length) (mine.take i)) (gI mine i).toNat)) (by rw [D6Q];exact hf _ hr.2) (by rfl) ?_
       rw [C0];conv=>whnf
       refine G2 ?_
       have e:closeB (D0 us mine offs offs.length) (mine.take (i+1))=close1 (closeB (D0 us mine offs offs.length) (mine.take i)) (gI mine i).toNat:=H6 hi' _ _
       refine ⟨mine.length - (i+1),by omega,i+1,by omega,rfl,fun e=>Bool.noConfusion e,by rw [B4 (by omega)],_,rfl,fun j hj=>?_⟩
       rw [e,D6Q,show (mine.getD (i:Int).toNat default).toNat=(gI mine i).toNat from rfl]
       unfold close1
       rw [A6b (by rw [A1X,hlt];exact hr.2)]
       by_cases hj2:j=(gI mine i).toNat
       ·rw [if_pos hj2,hj2,A4];rfl
       ·rw [if_neg hj2,H4 hj2];exact hf j hj
     all_goals
      refine I2 (nsum _) ?_
      refine ⟨.own 3 b 0 us.length,by rw [hS];rfl,(F1.refl st).upd hb,.inr ⟨b,hb,by rw [hlen],f,by rw [hlen];exact A0 ..,fun k hk=>?_⟩⟩
      rw [hlen] at hk
      exact hE k hk
   ·have hi':=E2 hd
    have hr:=hm.rng i (by omega)
    have hat:=A3T (offs:=offs) hm (show i<mine.length by omega)
    have hx:=ho i hi'
    have hnet1:(gU us (gI mine i).toNat).net≤10000000000000:=hu.le (A7 hr.2)
    have hfm:f (0+(gI mine i).toNat)=Z4 (gU (D0 us mine offs i) (gI mine i).toNat):=by rw [D6Q];exact hf _ hr.2
    conv=>whnf
    refine ⟨[20],[],List.range 21,by kernel_rfl,?_⟩;conv=>whnf
    refine E7 ?_
    refine E7 ?_
    refine ⟨rfl,⟨by show 0≤gI mine i;omega,by show gI mine i<(us.length:Int);omega⟩,?_⟩;conv=>whnf
    refine ldV (A0 ..) rfl (by show 0+(gI mine i).toNat<_;omega) hfm ?_;conv=>whnf
    refine E7 ?_
    refine ⟨rfl,⟨by show 0≤gI mine i;omega,by show gI mine i<(us.length:Int);omega⟩,?_⟩;conv=>whnf
    refine stV (A0 ..) rfl (by show 0+(gI mine i).toNat<_;omega) hfm (by rfl) ?_
    rw [C0];conv=>whnf
    refine G2 ?_
    have w:IntKind.i64.wrap ((gU (D0 us mine offs i) (gI mine i).toNat).net - gI offs i)=(gU (D0 us mine offs i) (gI mine i).toNat).net - gI offs i:=by
     rw [hat];exact A5 (by omega) (by omega)
    refine nx hi' ⟨by rw [B4 (by omega)],_,rfl,fun j hj=>?_⟩
    show _=Z4 (gU (less1 (D0 us mine offs i) (gI mine i).toNat (gI offs i)) j)
    unfold less1
    rw [A6b (by rw [P8];exact hr.2)]
    by_cases hj2:j=(gI mine i).toNat
    ·rw [if_pos hj2,hj2,←w]
     show I4 f (0+(gI mine i).toNat) _ _=_
     rw [D6Q,A4];rfl
    ·rw [if_neg hj2]
     show I4 f (0+(gI mine i).toNat) _ _=_
     rw [D6Q,H4 hj2];exact hf j hj
def L8 (p:B1) (x:Int):A0S:=(O3 p.tiers x).getD default
def X6 (p:B1) (nets:List Int):List Int :=
 if p.kind=1 then nets.map fun x=>J9 x p.rate else if p.kind=2 then nets.map fun x=>Q4 x 0 p.amount
 else if p.kind=6 then nets.map fun x=>Q4 x (L8 p nets.length).rate (L8 p nets.length).amount
 else D2 (Q4 (A2 nets) (L8 p (A2 nets)).rate (L8 p (A2 nets)).amount) nets
theorem A9t {x:Int} (h0:0≤x) (h1:x≤100000000000000):J9 x 0=0:=by
 unfold J9
 rw [if_pos ⟨by omega,by omega⟩]
 unfold W7
 rw [if_neg (by rw [(A1k x).2 ⟨h0,h1⟩];decide),Int.mul_zero]
 rfl
theorem B1E {x rate amount:Int}:(if J9 x rate+amount<x then J9 x rate+amount else x)=Q4 x rate amount:=by
 unfold Q4;split<;>split<;>omega
theorem C7m (p:B1) (nets:List Int) (hp:A5N p) (hl:nets.length≤100000) (h0:∀ x∈nets,0≤x) (hs:A2 nets≤10000000000000) (st:St) :
  S P 256 [B7 p,B0 nets] st fun v st'=>v=B0 (X6 p nets)∧st'=st:=by
 refine S.post (post:=fun v st'=>(∃ st1,F1 st st1∧E6 2 1 eI (X6 p nets) st1 v st')∨(v=B0 (X6 p nets)∧F1 st st')) ?_
  (fun v st' h=>⟨_,st,⟨rfl,rfl⟩,by
   rcases h with ⟨st1,h1,h2⟩ | ⟨rfl,h1⟩
   ·exact h2.shift.trans (h1.shift _)
   ·exact h1.shift _⟩)
 have hx1:∀ x∈nets,x≤10000000000000:=fun x hx=>D9z (J4 h0 hx) hs
 have hsn:=C1 h0
 refine F4 [2] Tryz.func256 ?_
 rcases hp.kind with hk | hk | hk | hk
 ·have hL:X6 p nets=nets.map fun x=>J9 x p.rate:=by unfold X6;rw [if_pos hk]
  rw [show (p.kind==1)=true from by rw [hk];rfl,hL];conv=>whnf
  refine lp nets.length [1,2,5,6] (fun i vs s=>∃ sv,vs=[B0 nets,.fptr (B7 p) 0,sv,eI i]∧E6 2 1 eI ((nets.take i).map fun x=>J9 x p.rate) st sv s) ?_ ?_
  ·conv=>whnf
   exact ⟨.emp,rfl,E6.start _ _ _ _⟩
  ·rintro i vs s hi ⟨sv,rfl,hc⟩
   conv=>whnf
   cases hd:decide ((i:Int)<(nets.length:Int))
   ·obtain rfl:=C5 hd hi
    rw [D6O] at hc;conv=>whnf
    exact .inl ⟨st,F1.refl _,hc⟩
   ·have hi':=E2 hd
    conv=>whnf
    refine ⟨[8,9],[],List.range 11,by kernel_rfl,?_⟩;conv=>whnf
    refine E7 ?_
    refine cqW (A8S (nets.getD (i:Int).toNat default) p.rate _) ?_
    refine E6.app (q:=r2) (y:=J9 (nets.getD (i:Int).toNat default) p.rate) rfl rfl rfl rfl rfl rfl (by show (_+1) * 8≤140737488355328;rw [D6J,D6N];omega) hc (fun sv' s' hc'=>?_);conv=>whnf
    refine G2 ?_
    exact nx hi' ⟨sv',by rw [B4 (by omega)],by rw [A1L hi'];exact hc'⟩
 ·have hL:X6 p nets=nets.map fun x=>Q4 x 0 p.amount:=by unfold X6;rw [if_neg (by omega),if_pos hk]
  have ha:=hp.amount hk
  rw [show (p.kind==1)=false from by rw [hk];rfl,hL];conv=>whnf
  rw [show (p.kind==2)=true from by rw [hk];rfl];conv=>whnf
  refine lp nets.length [1,2,5,7] (fun i vs s=>∃ sv,vs=[B0 nets,.fptr (B7 p) 0,sv,eI i]∧E6 2 1 eI ((nets.take i).map fun x=>Q4 x 0 p.amount) st sv s) ?_ ?_
  ·conv=>whnf
   exact ⟨.emp,rfl,E6.start _ _ _ _⟩
  ·rintro i vs s hi ⟨sv,rfl,hc⟩
   conv=>whnf
   cases hd:decide ((i:Int)<(nets.length:Int))
   ·obtain rfl:=C5 hd hi
    rw [D6O] at hc;conv=>whnf
    exact .inl ⟨st,F1.refl _,hc⟩
   ·have hi':=E2 hd
    have hz:J9 (nets.getD (i:Int).toNat default) 0=0:=A9t (h0 _ (A7 hi')) (D9z (hx1 _ (A7 hi')) (by decide))
    have hm:=B1E (x:=nets.getD (i:Int).toNat default) (rate:=0) (amount:=p.amount)
    rw [hz,Int.zero_add] at hm;conv=>whnf
    refine ⟨[8,9],[],List.range 11,by kernel_rfl,?_⟩;conv=>whnf
    refine E7 ?_
    refine E6.app (q:=r2) (y:=Q4 (nets.getD (i:Int).toNat default) 0 p.amount) rfl rfl rfl rfl rfl (by rw [←hm];rfl) (by show (_+1) * 8≤140737488355328;rw [D6J,D6N];omega) hc (fun sv' s' hc'=>?_);conv=>whnf
    refine G2 ?_
    exact nx hi' ⟨sv',by rw [B4 (by omega)],by rw [A1L hi'];exact hc'⟩
 ·have hL:X6 p nets=D2 (Q4 (A2 nets) (L8 p (A2 nets)).rate (L8 p (A2 nets)).amount) nets:=by unfold X6;rw [if_neg (by omega),if_neg (by omega),if_neg (by omega)]
  have ht:=hp.tiers (.inl hk)
  have hok:0≤(L8 p (A2 nets)).amount∧(L8 p (A2 nets)).amount≤10000000000000:=A0o ht (A2 nets)
  have hob:0≤Q4 (A2 nets) (L8 p (A2 nets)).rate (L8 p (A2 nets)).amount∧Q4 (A2 nets) (L8 p (A2 nets)).rate (L8 p (A2 nets)).amount≤A2 nets:=A0m hsn hok.1
  have hW:R3 (Q4 (A2 nets) (L8 p (A2 nets)).rate (L8 p (A2 nets)).amount) nets:=⟨hob.1,by omega,hl,h0,by omega,fun e=>by omega⟩
  have hb:=T7 (A2 nets) (L8 p (A2 nets)).rate
  have w:IntKind.i64.wrap (J9 (A2 nets) (L8 p (A2 nets)).rate+(L8 p (A2 nets)).amount)=J9 (A2 nets) (L8 p (A2 nets)).rate+(L8 p (A2 nets)).amount:=A5 (by omega) (by omega)
  rw [show (p.kind==1)=false from by rw [hk];rfl,hL];conv=>whnf
  rw [show (p.kind==2)=false from by rw [hk];rfl];conv=>whnf
  rw [show (p.kind==6)=false from by rw [hk];rfl];conv=>whnf
  rw [show (p.kind==5)=true from by rw [hk];rfl];conv=>whnf
  refine I2 (A9O nets (by omega) h0 (by omega) _) ?_
  refine I2 (B2i p.tiers (A2 nets) (by have:=ht.1;omega) _) ?_
  intro b hbn;conv=>whnf
  refine Z7 (A0 ..) rfl ?_
  refine ⟨[],[],List.range 15,by kernel_rfl,?_⟩;conv=>whnf
  refine ldV (A0 ..) rfl (by omega) (v:=R9 (L8 p (A2 nets))) (by rw [A4];rfl) ?_;conv=>whnf
  refine cqW (A8S (A2 nets) (L8 p (A2 nets)).rate _) ?_
  refine ldV (A0 ..) rfl (by omega) (v:=R9 (L8 p (A2 nets))) (by rw [A4];rfl) ?_;conv=>whnf
  rw [w,B1E]
  refine cqW (A7U _ nets hW _) ?_
  exact .inr ⟨rfl,((F1.refl st).upd hbn).over hbn⟩
 ·have hL:X6 p nets=nets.map fun x=>Q4 x (L8 p nets.length).rate (L8 p nets.length).amount:=by unfold X6;rw [if_neg (by omega),if_neg (by omega),if_pos hk]
  have ht:=hp.tiers (.inr hk)
  have hok:0≤(L8 p nets.length).amount∧(L8 p nets.length).amount≤10000000000000:=A0o ht nets.length
  rw [show (p.kind==1)=false from by rw [hk];rfl,hL];conv=>whnf
  rw [show (p.kind==2)=false from by rw [hk];rfl];conv=>whnf
  rw [show (p.kind==6)=true from by rw [hk];rfl];conv=>whnf
  refine I2 (B2i p.tiers nets.length (by have:=ht.1;omega) _) ?_
  intro b hbn;conv=>whnf
  refine stU (A0 ..) rfl ?_
  rw [C0];conv=>whnf
  generalize hst1:upd st b _=st1
  obtain ⟨f1,hs1,hf1⟩:∃ f,st1 b=some ⟨300,3,1,f⟩∧f 0=R9 (L8 p nets.length):=⟨_,by rw [←hst1];exact A0 ..,by rw [A4];rfl⟩
  have hsup:F1 st st1:=by rw [←hst1];exact (F1.refl st).upd hbn
  clear hst1
  refine lp nets.length [1,5,8,10] (fun i vs s=>∃ sv,vs=[B0 nets,sv,.optr 3 b 0 0,eI i]∧E6 2 1 eI ((nets.take i).map fun x=>Q4 x (L8 p nets.length).rate (L8 p nets.length).amount) st1 sv s) ?_ ?_
  ·conv=>whnf
   exact ⟨.emp,rfl,E6.start _ _ _ _⟩
  ·rintro i vs s hi ⟨sv,rfl,hc⟩
   have hb2:=hc.sup b _ hs1
   conv=>whnf
   cases hd:decide ((i:Int)<(nets.length:Int))
   ·obtain rfl:=C5 hd hi
    rw [D6O] at hc;conv=>whnf
    exact .inl ⟨st1,hsup,hc⟩
   ·have hi':=E2 hd
    have hb:=T7 (nets.getD (i:Int).toNat default) (L8 p nets.length).rate
    have w:IntKind.i64.wrap (J9 (nets.getD (i:Int).toNat default) (L8 p nets.length).rate+(L8 p nets.length).amount)=J9 (nets.getD (i:Int).toNat default) (L8 p nets.length).rate+(L8 p nets.length).amount:=A5 (by omega) (by omega)
    have hm:=B1E (x:=nets.getD (i:Int).toNat default) (rate:=(L8 p nets.length).rate) (amount:=(L8 p nets.length).amount)
    rw [←w] at hm;conv=>whnf
    refine ⟨[16,17],[],List.range 19,by kernel_rfl,?_⟩;conv=>whnf
    refine E7 ?_
    refine E7 ?_
    refine J6 hb2 hf1 ?_
    refine cqW (A8S (nets.getD (i:Int).toNat default) (L8 p nets.length).rate _) ?_
    refine J6 hb2 hf1 ?_
    refine E6.app (q:=r2) (y:=Q4 (nets.getD (i:Int).toNat default) (L8 p nets.length).rate (L8 p nets.length).amount) rfl rfl rfl rfl rfl (by rw [←hm];rfl) (by show (_+1) * 8≤140737488355328;rw [D6J,D6N];omega) hc (fun sv' s' hc'=>?_);conv=>whnf
    refine G2 ?_
    exact nx hi' ⟨sv',by rw [B4 (by omega)],by rw [A1L hi'];exact hc'⟩
theorem C5n {α : Type} (l:List α):A2 (l.map fun _=>(0:Int))=0:=by
 induction l with
 | nil=>rfl
 | cons x l ih=>rw [D7H,show (0:Int)::l.map (fun _=>(0:Int))=[0]++l.map (fun _=>(0:Int)) from rfl,F5,ih];rfl
theorem C4h {p:B1} (hp:A5N p) {nets:List Int} (h0:∀ x∈nets,0≤x) (hs:A2 nets≤10000000000000) (hl:nets.length≤100000) :
  X6 p nets=O8 p nets∨(O8 p nets=[]∧A2 (X6 p nets)=0∧(X6 p nets).length=nets.length∧∀ k,k<(X6 p nets).length→gI (X6 p nets) k=0):=by
 have hx1:∀ x∈nets,x≤10000000000000:=fun x hx=>D9z (J4 h0 hx) hs
 have ok:=A3R hp.right
 rcases hp.kind with hk | hk | hk | hk
 ·refine .inl ?_
  unfold X6 O8 B6v
  rw [if_pos hk,if_pos hk]
  refine D7V fun x hx=>?_
  have hr:1≤p.rate∧p.rate≤10000:=by
   have:=hp.right
   unfold H2 A7t A8I at this
   rw [if_pos hk] at this
   simp only [D6I,E0] at this
   exact this.2
  have:=A5p (h0 x hx) (show 0≤p.rate by omega) hr.2
  unfold Q4
  rw [D8R];split<;>omega
 ·refine .inl ?_
  unfold X6 O8 B6u
  rw [if_neg (by omega),if_pos hk,if_neg (by omega),if_pos hk]
 ·unfold X6 O8 A5D
  rw [if_neg (by omega),if_neg (by omega),if_neg (by omega),if_neg (by omega),if_neg (by omega),if_pos hk]
  cases hr:O3 p.tiers (A2 nets) with
  | some t=>refine .inl ?_;unfold L8;rw [hr];rfl
  | none =>
   have hsn:=C1 h0
   have e:Q4 (A2 nets) (L8 p (A2 nets)).rate (L8 p (A2 nets)).amount=0:=by
    unfold L8;rw [hr]
    show Q4 (A2 nets) 0 0=0
    unfold Q4
    rw [A9t hsn (by omega),D8R];split<;>omega
   rw [e]
   have hW:R3 0 nets:=⟨by omega,by omega,hl,h0,by omega,fun _=>rfl⟩
   obtain ⟨a,b,c⟩:=T2 hW
   exact .inr ⟨rfl,a,b,A3U c a⟩
 ·unfold X6 O8 A5C
  rw [if_neg (by omega),if_neg (by omega),if_pos hk,if_neg (by omega),if_neg (by omega),if_neg (by omega)]
  cases hr:O3 p.tiers nets.length with
  | some t=>refine .inl ?_;unfold L8;rw [hr];rfl
  | none =>
   have e:(nets.map fun x=>Q4 x (L8 p nets.length).rate (L8 p nets.length).amount)=nets.map fun _=>(0:Int):=by
    refine D7V fun x hx=>?_
    unfold L8;rw [hr]
    show Q4 x 0 0=0
    unfold Q4
    rw [A9t (h0 x hx) (D9z (hx1 x hx) (by decide)),D8R]
    have:=h0 x hx
    split<;>omega
   rw [e]
   exact .inr ⟨rfl,C5n nets,by simp,fun k hk=>by rw [D6J] at hk;exact D4 (fun _:Int=>(0:Int)) nets hk⟩
theorem A5j (us:List B2) (mine:List Int):(E4 us mine).length=mine.length:=D6J ..
theorem B1L {us:List B2} (hu:E3 us) {mine:List Int} (hm:N7 us mine):(∀ x∈E4 us mine,0≤x)∧A2 (E4 us mine)≤10000000000000:=by
 have hwl:=B2J hu hm.places
 have hus:=hu.sum
 exact ⟨fun x hx=>by obtain ⟨i,hi,rfl⟩:=D6Z.1 hx;exact hu.at0 _,by rw [A8E];omega⟩
theorem B6o {p:B1} {us:List B2} {mine:List Int} (h0:∀ x∈O8 p (E4 us mine),0≤x):A2P us mine (O8 p (E4 us mine)) p.closes=A0b p us mine:=by
 have hn:=C1 h0
 unfold A2P A0b
 by_cases hz:A2 (O8 p (E4 us mine))=0
 ·rw [if_pos hz]
  simp only
  rw [hz,A3f (A3U h0 hz) _ (D6M _)];rfl
 ·rw [if_neg hz]
  simp only
  rw [D7m (show A2 (O8 p (E4 us mine))>0 by omega),D6Y]
theorem C4C (p:B1) (us:List B2) (mine:List Int) (hp:A5N p) (hps:A2X p) (hu:E3 us) (hm:N7 us mine) (st:St) :
  S P 218 [B7 p,C6 us,B0 mine] st fun v st'=>v=.tuple [C6 (A0b p us mine).1,eI (A0b p us mine).2]∧st'=st:=by
 have hml:=hm.len
 have hul:=hu.len
 obtain ⟨hn0,hns⟩:=B1L hu hm
 have hnl:=A5j us mine
 have hob:=A5k hp hn0 hns (by omega)
 obtain ⟨ob1,ob2,ob3⟩:=hob
 have hle:=C0j hp hn0 hns (by omega)
 have hcz:=C4h hp hn0 hns (by omega)
 have hlen:(X6 p (E4 us mine)).length≤mine.length:=by
  rcases hcz with e | ⟨_,_,e,_⟩
  ·rw [e];omega
  ·omega
 have hc:∀ k,k<(X6 p (E4 us mine)).length→0≤gI (X6 p (E4 us mine)) k∧gI (X6 p (E4 us mine)) k≤(gU us (gI mine k).toNat).net:=fun k hk=>by
  rcases hcz with e | ⟨_,_,_,e⟩
  ·rw [e] at hk ⊢
   have h1:=hle k hk
   rw [show gI (E4 us mine) k=(gU us (gI mine k).toNat).net from D4 (fun i:Int=>(gU us i.toNat).net) mine (by omega)] at h1
   exact ⟨ob3 _ (A7 hk),h1⟩
  ·rw [e k hk];exact ⟨D7l _,hu.at0 _⟩
 have hsum:A2 (X6 p (E4 us mine))≤1000000000000000:=by
  rcases hcz with e | ⟨_,e,_⟩<;>rw [e]<;>omega
 have hE:A2P us mine (X6 p (E4 us mine)) p.closes=A0b p us mine:=by
  rcases hcz with e | ⟨e1,e2,_⟩
  ·rw [e];exact B6o ob3
  ·unfold A2P A0b
   rw [if_pos e2,e1];rfl
 rw [←hE]
 refine F4 [3] Tryz.func218 ?_
 refine I2 (A7S p hps hp.right st) ?_
 refine I2 (B8Q us mine hu hm st) ?_
 refine ⟨[],[],List.range 14,by kernel_rfl,?_⟩;conv=>whnf
 refine cqW (A7c us mine (by omega) hm.rng st) ?_
 refine cqW (C7m p (E4 us mine) hp (by omega) hn0 hns st) ?_
 refine cqW (B5h us mine (X6 p (E4 us mine)) p.closes hu hm.places (by omega) hlen hc hsum st) ?_
 exact ⟨rfl,rfl⟩
end Go.Proofs.YtaapofnkmpiknaaGreat
