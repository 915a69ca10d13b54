/- Part 27 of the proof: contracts of the functions that the law reaches -/
import Derived.Test.YtaapofnkmpiknaaGreatRs26
set_option maxRecDepth 100000
set_option linter.unusedVariables false
set_option linter.unusedSimpArgs false
namespace Go.Proofs.YtaapofnkmpiknaaGreat
open Go Go.Ab
attribute [local irreducible] upd del
def A1s (o:List Int) (a:Nat) (x:Int):List Int:=o.take a++x::o.drop a
theorem U8 {o:List Int} {a:Nat} {x:Int} (h:a≤o.length):(A1s o a x).length=o.length+1:=by
 unfold A1s;simp;omega
theorem A9g {o:List Int} {a:Nat} {x:Int} (h:a≤o.length) {j:Nat} (hj:j<o.length+1):gI (A1s o a x) j=if j<a then gI o j else if j=a then x else gI o (j - 1):=by
 unfold A1s gI
 simp only [D5C]
 by_cases h1:j<a
 ·rw [if_pos h1,D6a (by rw [D5M];omega),D5Q h1]
 ·rw [if_neg h1,D5Z (by rw [D5M];omega),D5M,D8J h]
  by_cases h2:j=a
  ·rw [if_pos h2,h2,Nat.sub_self];rfl
  ·rw [if_neg h2,show j - a=(j - 1 - a)+1 by omega,D8o,D7n,show a+(j - 1 - a)=j - 1 by omega]
theorem A7v (o:List Int) (a:Nat) (x:Int):(A1s o a x).Perm (o++[x]):=by
 unfold A1s
 refine List.perm_middle.trans ?_
 rw [D7T]
 exact (List.perm_append_comm (l₁:=[x]) (l₂:=o))
theorem A4Z {R:Int→Int→Prop} {o:List Int} {a:Nat} {x:Int} (hs:o.Pairwise R) (h1:∀ k,k<a→k<o.length→R (gI o k) x) (h2:∀ k,a≤k→k<o.length→R x (gI o k)):(A1s o a x).Pairwise R:=by
 unfold A1s
 rw [List.pairwise_append,D7o]
 refine ⟨hs.sublist (List.take_sublist ..),⟨fun y hy=>?_,hs.sublist (D8q ..)⟩,fun y hy z hz=>?_⟩
 ·obtain ⟨k,hk,rfl⟩:=D7D hy
  rw [D8k] at hk
  have:=h2 (a+k) (by omega) (by omega)
  rw [List.getElem_drop];simpa [gI,show a+k<o.length by omega] using this
 ·obtain ⟨k,hk,rfl⟩:=D7D hy
  rw [D5M] at hk
  rcases D7f.1 hz with rfl | hz
  ·have:=h1 k (by omega) (by omega)
   rw [List.getElem_take];simpa [gI,show k<o.length by omega] using this
  ·obtain ⟨j,hj,rfl⟩:=D7D hz
   rw [D8k] at hj
   rw [List.getElem_take,List.getElem_drop]
   exact D7m.1 hs k (a+j) (by omega) (by omega) (by omega)
theorem B3y {R:Int→Int→Prop} {o:List Int} (hs:o.Pairwise R) {i j:Nat} (hij:i<j) (hj:j<o.length):R (gI o i) (gI o j):=by
 have:=D7m.1 hs i j (by omega) hj hij
 simpa [gI,show i<o.length by omega,hj] using this
theorem A8t {o p:List Int} (h:o.Perm p) {P:Int→Prop} (hp:∀ x∈p,P x) {k:Nat} (hk:k<o.length):P (gI o k):=hp _ (h.subset (A6 hk))
def B1O (ranks:List Int) (x:Int):QE:=(gI ranks x.toNat,x)
def B3R (ranks:List Int) (x y:Int):Prop:=G3 (B1O ranks y) (B1O ranks x)=false
def A4q (n:Nat):List Int:=(List.range n).map Int.ofNat
theorem B7X (n:Nat):A4q (n+1)=A4q n++[(n:Int)]:=by unfold A4q;rw [D6R,D6g];rfl
theorem A6L {n:Nat} {x:Int} (h:x∈A4q n):0≤x∧x.toNat<n:=by
 obtain ⟨k,hk,rfl⟩:=D5X.1 h
 have:=D5S.1 hk
 show 0≤(k:Int)∧(k:Int).toNat<n
 omega
theorem A9k (n:Nat):(A4q n).length=n:=by unfold A4q;simp
theorem B6u (ranks:List Int) (hl:ranks.length≤1000000) (st:St):S P 258 [B0 ranks] st fun v st'=>(∃ o:List Int,o.Perm (A4q ranks.length)∧o.Pairwise (B3R ranks)∧v=B0 o)∧st'=st:=by
 refine S.post (post:=fun v st'=>∃ o:List Int,o.Perm (A4q ranks.length)∧o.Pairwise (B3R ranks)∧E0 3 1 eI o st v st') ?_ (fun v st' ⟨o,h1,h2,h3⟩=>⟨_,st,⟨⟨o,h1,h2,rfl⟩,rfl⟩,h3.shift⟩)
 refine F2 [] Tryz.func258 ?_
 refine lp ranks.length [0,3,4] (fun i vs s=>∃ o sv,o.Perm (A4q i)∧o.Pairwise (B3R ranks)∧vs=[B0 ranks,sv,eI i]∧E0 3 1 eI o st sv s) ?_ ?_
 ·conv=>whnf
  exact ⟨[],.emp,.refl _,.nil,rfl,E0.start _ _ _ _⟩
 ·rintro i vs st' hi ⟨o,sv,hp,hs,rfl,hc0⟩
  conv=>whnf
  cases h:decide ((i:Int)<(ranks.length:Int))
  ·obtain rfl:=C4 h hi
   conv=>whnf
   exact ⟨o,hp,hs,hc0⟩
  ·have hi':=D8 h
   have hol:o.length=i:=by rw [hp.length_eq,A9k]
   have hom:∀ {k:Nat},k<o.length→0≤gI o k∧(gI o k).toNat<i:=fun hk=>A8t hp (fun x hx=>A6L hx) hk
   conv=>whnf
   refine lp o.length [0,3,4,5] (fun a vs s=>(∀ k,k<a→gI ranks (gI o k).toNat≥gI ranks i)∧vs=[B0 ranks,sv,eI i,eI a]∧s=st') ?_ ?_
   ·conv=>whnf
    exact ⟨fun k hk=>absurd hk (by omega),rfl,rfl⟩
   ·rintro a vs s ha ⟨hok,rfl,rfl⟩
    conv=>whnf
    refine ⟨[],[],List.range 18,by kernel_rfl,?_⟩
    have hc1:=hc0
    have hB:(a=o.length∨gI ranks (gI o a).toNat<gI ranks i)→(A1s o a (i:Int)).Perm (A4q (i+1))∧(A1s o a (i:Int)).Pairwise (B3R ranks):=fun hB=>by
     refine ⟨by rw [B7X];exact (A7v o a i).trans (hp.append_right _),A4Z hs (fun k hk hk2=>?_) (fun k hk hk2=>?_)⟩
     ·have:=hok k hk
      have:=hom hk2
      unfold B3R B1O;rw [S5];simp only [D5P];omega
     ·rcases hB with hB | hB
      ·omega
      ·have h6:gI ranks (gI o k).toNat≤gI ranks (gI o a).toNat:=by
        rcases D8F hk with e | e
        ·rw [e];exact D6i _
        ·have:=B3y hs e hk2
         unfold B3R B1O at this;rw [S5] at this;simp only at this;omega
       unfold B3R B1O;rw [S5];simp only [D5P];omega
    rcases hc1 with ⟨h0,rfl,hst⟩ | ⟨h0,b,g,hb,rfl,rfl,hg⟩
    case' inl =>
     have hst':=hst.symm
     subst hst'
     have hS:=hB (.inl (by omega))
     have hd:decide ((a:Int)<0)=false:=D5J (by omega)
     conv=>whnf
     rw [hd];conv=>whnf
    case' inr =>
     conv=>whnf
     cases hd:decide ((a:Int)<(o.length:Int))
     case' false =>
      have hS:=hB (.inl (by have:=D5G hd;omega))
      conv=>whnf
     case' true =>
      have hao:=D8 hd
      have hoa:=hom hao
      have hga:g (0+(a:Int).toNat)=eI (gI o a):=by rw [show 0+(a:Int).toNat=a by omega];exact hg a hao
      conv=>whnf
      refine E7 ?_
      refine J0 (A0 ..) hga ?_
      refine E7 ?_
      refine E7 ?_
      refine B8 (fun h2=>?_) (fun h2=>?_)<;>rw [h2]
      case' refine_1 =>
       conv=>whnf
       refine F7 ?_
       refine nx hao ⟨H8 hok (D5F h2),by rw [B4 (by omega)],rfl⟩
      case' refine_2 =>
       have hS:=hB (.inr (by have h7:=D5G h2;rw [D5P] at h7;exact Int.not_le.1 h7))
       conv=>whnf
    all_goals
     refine E0.app (q:=r3) (y:=0) (enc:=eI) rfl rfl rfl rfl rfl rfl (by show (_+1) * 8≤140737488355328;omega) hc0 (fun sv' s' hc'=>?_)
     have hln:(o++[0]).length=o.length+1:=by simp
     rcases hc' with ⟨h1,_⟩ | ⟨h1,b',g',hb',rfl,rfl,hg'⟩
     ·omega
     generalize (o++[0]).length=N at *
     subst hln;conv=>whnf
     have hw0:IntKind.i64.wrap (((o.length+1:Nat):Int) - 1)=((o.length - 0:Nat):Int):=by rw [A5 (by omega) (by omega)];omega
     rw [hw0]
     refine lp (o.length - a) [0,3,4,5,6] (fun r vs s=>vs=[B0 ranks,.own 1 b' 0 (o.length+1),eI i,eI a,eI (o.length - r:Nat)]∧∃ f,s=upd st b' ⟨3,1,o.length+1,f⟩∧∀ j,j<o.length+1→f j=eI (if o.length - r<j then gI o (j - 1) else gI (o++[0]) j)) ?_ ?_
     ·conv=>whnf
      exact ⟨rfl,g',rfl,fun j hj=>by rw [if_neg (by omega)];exact hg' j hj⟩
     ·clear hg' hc0
      rintro r vs s hr ⟨rfl,f,rfl,hf⟩
      conv=>whnf
      cases hk:decide (((o.length - r:Nat):Int)>(a:Int))
      ·have hra:r=o.length - a:=by have:=D5G hk;omega
       conv=>whnf
       refine E7 ?_
       refine Y9 (A0 ..) (hf _ (by omega)) ?_
       refine F7 ?_
       rw [A6Y]
       refine nx hi' ⟨A1s o a (i:Int),.own 1 b' 0 (o.length+1),hS.1,hS.2,by rw [B4 (by omega)],?_⟩
       refine .inr ⟨by rw [U8 ha];omega,b',_,hb',by rw [U8 ha],by rw [U8 ha],fun j hj=>?_⟩
       rw [U8 ha] at hj
       show I3 f (0+(a:Int).toNat) _ j=eI (gI (A1s o a (i:Int)) j)
       rw [A9g ha hj]
       by_cases hja:j=a
       ·subst hja
        rw [show 0+((j:Nat):Int).toNat=j by omega,A4];show eI (i:Int)=_;rw [if_neg (by omega),if_pos rfl]
       ·rw [H1 (by omega),hf j hj]
        congr 1
        by_cases hj2:j<a
        ·rw [if_neg (by omega),if_pos hj2,N6 (by omega)]
        ·rw [if_pos (by omega),if_neg hj2,if_neg hja]
      ·have hra:a<o.length - r:=by have:=D5F hk;omega
       have hw1:=A7l (i:=o.length - r) (by omega) (by omega)
       conv=>whnf
       rw [hw1]
       refine E7 ?_
       refine ldV (v:=eI (gI o (o.length - r - 1))) (A0 ..) rfl (by omega) (by rw [hf _ (by omega),if_neg (by omega),N6 (by omega)];congr 2;omega) ?_;conv=>whnf
       refine E7 ?_
       refine Y9 (A0 ..) (hf _ (by omega)) ?_
       refine F7 ?_
       rw [A6Y,hw1]
       refine nx (by omega) ⟨by rw [show o.length - (r+1)=o.length - r - 1 by omega],_,rfl,fun j hj=>?_⟩
       by_cases hj2:j=o.length - r
       ·subst hj2
        rw [show 0+((o.length - r:Nat):Int).toNat=o.length - r by omega,A4];show eI (gI o (o.length - r - 1))=_;rw [if_pos (by omega)]
       ·rw [H1 (by omega),hf j hj]
        congr 1
        by_cases hj3:o.length - r<j
        ·rw [if_pos hj3,if_pos (by omega)]
        ·rw [if_neg hj3,if_neg (by omega)]
def A0N (a b:B1):Bool:=if (a.prio != b.prio)=true then decide (a.prio>b.prio) else slt a.id b.id
theorem C4c (a b:B1) (st:St):S P 214 [B7 a,B7 b] st fun v st'=>v=.bool (A0N a b)∧st'=st:=by
 refine F2 [2,3] Tryz.func214 ?_
 unfold A0N
 refine B8 (fun h=>?_) (fun h=>?_)<;>rw [h]<;>(conv=>whnf)<;>exact ⟨rfl,rfl⟩
theorem A3j (a b:B1):A0N a b=true↔a.prio>b.prio∨(a.prio=b.prio∧slt a.id b.id=true):=by
 unfold A0N
 split
 ·rename_i h;simp only [D8h,ne_eq] at h;rw [D5E];omega
 ·rename_i h;simp only [D8h,ne_eq,Classical.not_not] at h;constructor
  ·exact fun h2=>.inr ⟨h,h2⟩
  ·rintro (h2 | h2)
   ·omega
   ·exact h2.2
theorem A9C {a b:B1} (h:A0N a b=true):A0N b a=false:=by
 rw [←D6D,A3j]
 rw [A3j] at h
 rcases h with h | ⟨h1,h2⟩
 ·rintro (h3 | h3)<;>omega
 ·rintro (h3 | h3)
  ·omega
  ·rw [A6T h2] at h3;cases h3.2
theorem A8o {a b c:B1} (h:A0N b a=false) (k:A0N c b=false):A0N c a=false:=by
 rw [←D6D,A3j] at *
 rintro (h3 | ⟨h3,h4⟩)
 ·by_cases e:b.prio>a.prio
  ·exact h (.inl e)
  ·exact k (.inl (by omega))
 ·by_cases e:b.prio=a.prio
  ·have h5:slt b.id a.id=false:=by rw [←D6D];exact fun e2=>h (.inr ⟨e,e2⟩)
   have h6:slt c.id b.id=false:=by rw [←D6D];exact fun e2=>k (.inr ⟨by omega,e2⟩)
   rw [A4B h5 h6] at h4;cases h4
  ·by_cases e2:b.prio>a.prio
   ·exact h (.inl e2)
   ·exact k (.inl (by omega))
def A4e (l:List B1) (x y:Int):Prop:=A0N (E9 l y) (E9 l x)=false
theorem B6P (l:List Int):(C5 l).Pairwise (·≤·):=by
 have:=D7V (le:=fun a b:Int=>decide (a≤b)) (fun a b c h1 h2=>by simp only [D5E] at *;omega) (fun a b=>by simp only [D6K,D5E];omega) l
 exact this.imp (fun h=>by simpa using h)
theorem C1A (l:List Int) (hl:l.length≤1000000) (st:St):S P 286 [B0 l] st fun v st'=>v=B0 (C5 l)∧st'=st:=by
 refine A0L (ty:=3) ?_
 refine F2 [] Tryz.func286 ?_
 refine lp l.length [0,3,4] (fun i vs s=>∃ o sv,o.Perm (l.take i)∧o.Pairwise (·≤·)∧vs=[B0 l,sv,eI i]∧E0 3 1 eI o st sv s) ?_ ?_
 ·conv=>whnf
  exact ⟨[],.emp,.refl _,.nil,rfl,E0.start _ _ _ _⟩
 ·rintro i vs st' hi ⟨o,sv,hp,hs,rfl,hc0⟩
  conv=>whnf
  cases h:decide ((i:Int)<(l.length:Int))
  ·obtain rfl:=C4 h hi
   conv=>whnf
   rw [D5N] at hp
   have e:o=C5 l:=List.Perm.eq_of_pairwise (le:=fun a b:Int=>a≤b) (fun a b _ _ h1 h2=>Int.le_antisymm h1 h2) hs (B6P l) (hp.trans (A1m l).symm)
   rw [←e]
   exact hc0
  ·have hi':=D8 h
   have hol:o.length=i:=by rw [hp.length_eq,D5M];omega
   have hom:∀ {k:Nat},k<o.length→True:=fun hk=>trivial
   have hB:∀ a,a≤o.length→(∀ k,a≤k→k<o.length→gI o k>gI l i)→(a=0∨gI o (a - 1)≤gI l i)→(A1s o a (gI l i)).Perm (l.take (i+1))∧(A1s o a (gI l i)).Pairwise (·≤·):=fun a ha hok hB=>by
    refine ⟨by rw [K4 hi'];exact (A7v o a _).trans (hp.append_right _),A4Z hs (fun k hk hk2=>?_) (fun k hk hk2=>?_)⟩
    ·rcases hB with hB | hB
     ·omega
     ·rcases D7k k (a - 1) with e | e
      ·exact D8z (B3y hs e (by omega)) hB
      ·rw [show k=a - 1 by omega];exact hB
    ·have:=hok k hk hk2;omega
   have hc1:=hc0
   rcases hc1 with ⟨h0,hsv,hst⟩ | ⟨h0,b,g,hb,hsv,hst,hg⟩
   all_goals rw [hsv]
   all_goals (conv=>whnf)
   all_goals refine lp o.length [0,3,4,5] (fun r vs s=>(∀ k,o.length - r≤k→k<o.length→gI o k>gI l i)∧vs=[B0 l,sv,eI i,eI (o.length - r:Nat)]∧s=st') ?_ ?_
   all_goals first
    | (conv=>whnf
       exact ⟨fun k h1 h2=>absurd h2 (by omega),by first | (rw [hsv];rfl) | (rw [hsv,h0];rfl),rfl⟩)
    | skip
   all_goals
    rintro r vs s hr ⟨hok,rfl,rfl⟩
    conv=>whnf
    refine ⟨[],[],List.range 14,by kernel_rfl,?_⟩
    cases hd:decide (((o.length - r:Nat):Int)>0)
    case' false =>
     have ha:=Nat.sub_le o.length r
     have hS:=hB (o.length - r) ha hok (.inl (by have:=D5G hd;omega))
     generalize o.length - r=a at *
     conv=>whnf
     rw [hd];conv=>whnf
    case' true =>
     have hpos:0<o.length - r:=by have:=D5F hd;omega
     have hw2:=A7l hpos (by omega)
     have hoa:=hom (k:=o.length - r - 1) (by omega)
     first
      | (exfalso;omega)
      | (conv=>whnf
         rw [hd];conv=>whnf
         rw [hsv] at hc0
         rw [hsv,hw2]
         refine E7 ?_
         refine ldV (v:=eI (gI o (o.length - r - 1))) (by rw [hst];exact A0 ..) rfl (by omega) (by rw [hg _ (by omega)];congr 2;omega) ?_;conv=>whnf
         refine E7 ?_
         refine B8 (fun h2=>?_) (fun h2=>?_)<;>rw [h2]
         ·conv=>whnf
          refine F7 ?_
          refine nx (by omega) ⟨fun k h3 h4=>?_,by rw [hw2,show o.length - (r+1)=o.length - r - 1 by omega],rfl⟩
          rcases D8F h3 with h5 | h5
          ·rw [←h5,show o.length - (r+1)=o.length - r - 1 by omega];exact D5F h2
          ·exact hok k (by omega) h4
         have ha:=Nat.sub_le o.length r
         have hS:=hB (o.length - r) ha hok (.inr (by have h7:=D5G h2;rw [D5P] at h7;exact Int.not_lt.1 h7))
         clear hw2 hoa
         generalize o.length - r=a at *
         conv=>whnf)
    all_goals
     refine E0.app (q:=r3) (y:=0) (enc:=eI) rfl rfl rfl rfl rfl rfl (by show (_+1) * 8≤140737488355328;omega) hc0 (fun sv' s' hc'=>?_)
     have hln:(o++[0]).length=o.length+1:=by simp
     rcases hc' with ⟨h1,_⟩ | ⟨h1,b',g',hb',rfl,rfl,hg'⟩
     ·omega
     generalize (o++[0]).length=N at *
     subst hln;conv=>whnf
     have hw0:IntKind.i64.wrap (((o.length+1:Nat):Int) - 1)=((o.length - 0:Nat):Int):=by rw [A5 (by omega) (by omega)];omega
     rw [hw0]
     refine lp (o.length - a) [0,3,4,5,6] (fun r vs s=>vs=[B0 l,.own 1 b' 0 (o.length+1),eI i,eI a,eI (o.length - r:Nat)]∧∃ f,s=upd st b' ⟨3,1,o.length+1,f⟩∧∀ j,j<o.length+1→f j=eI (if o.length - r<j then gI o (j - 1) else gI (o++[0]) j)) ?_ ?_
     ·conv=>whnf
      exact ⟨rfl,g',rfl,fun j hj=>by rw [if_neg (by omega)];exact hg' j hj⟩
     ·clear hg' hc0
      rintro r vs s hr ⟨rfl,f,rfl,hf⟩
      conv=>whnf
      cases hk:decide (((o.length - r:Nat):Int)>(a:Int))
      ·have hra:r=o.length - a:=by have:=D5G hk;omega
       conv=>whnf
       refine E7 ?_
       refine E7 ?_
       refine Y9 (A0 ..) (hf _ (by omega)) ?_
       refine F7 ?_
       rw [A6Y]
       refine nx hi' ⟨A1s o a (gI l i),.own 1 b' 0 (o.length+1),hS.1,hS.2,by rw [B4 (by omega)],?_⟩
       refine .inr ⟨by rw [U8 ha];omega,b',_,hb',by rw [U8 ha],by rw [U8 ha],fun j hj=>?_⟩
       rw [U8 ha] at hj
       show I3 f (0+(a:Int).toNat) _ j=eI (gI (A1s o a (gI l i)) j)
       rw [A9g ha hj]
       by_cases hja:j=a
       ·subst hja
        rw [show 0+((j:Nat):Int).toNat=j by omega,A4];show eI (gI l i)=_;rw [if_neg (by omega),if_pos rfl]
       ·rw [H1 (by omega),hf j hj]
        congr 1
        by_cases hj2:j<a
        ·rw [if_neg (by omega),if_pos hj2,N6 (by omega)]
        ·rw [if_pos (by omega),if_neg hj2,if_neg hja]
      ·have hra:a<o.length - r:=by have:=D5F hk;omega
       have hw1:=A7l (i:=o.length - r) (by omega) (by omega)
       conv=>whnf
       rw [hw1]
       refine E7 ?_
       refine ldV (v:=eI (gI o (o.length - r - 1))) (A0 ..) rfl (by omega) (by rw [hf _ (by omega),if_neg (by omega),N6 (by omega)];congr 2;omega) ?_;conv=>whnf
       refine E7 ?_
       refine Y9 (A0 ..) (hf _ (by omega)) ?_
       refine F7 ?_
       rw [A6Y,hw1]
       refine nx (by omega) ⟨by rw [show o.length - (r+1)=o.length - r - 1 by omega],_,rfl,fun j hj=>?_⟩
       by_cases hj2:j=o.length - r
       ·subst hj2
        rw [show 0+((o.length - r:Nat):Int).toNat=o.length - r by omega,A4];show eI (gI o (o.length - r - 1))=_;rw [if_pos (by omega)]
       ·rw [H1 (by omega),hf j hj]
        congr 1
        by_cases hj3:o.length - r<j
        ·rw [if_pos hj3,if_pos (by omega)]
        ·rw [if_neg hj3,if_neg (by omega)]
set_option maxHeartbeats 1000000 in
theorem C4f (l:List B1) (codes:List C8) (hl:l.length≤1000) (hc:Sm codes.length) (st:St):S P 162 [A8 15 B7 l,C9 codes] st fun v st'=>(∃ o:List Int,o.Perm (places l codes l.length)∧o.Pairwise (A4e l)∧v=B0 o)∧st'=st:=by
 refine S.post (post:=fun v st'=>∃ o:List Int,o.Perm (places l codes l.length)∧o.Pairwise (A4e l)∧E0 3 1 eI o st v st') ?_ (fun v st' ⟨o,h1,h2,h3⟩=>⟨_,st,⟨⟨o,h1,h2,rfl⟩,rfl⟩,h3.shift⟩)
 refine F2 [] Tryz.func162 ?_
 refine lp l.length [0,1,5,6] (fun i vs s=>∃ o sv,o.Perm (places l codes i)∧o.Pairwise (A4e l)∧vs=[A8 15 B7 l,C9 codes,sv,eI i]∧E0 3 1 eI o st sv s) ?_ ?_
 ·conv=>whnf
  exact ⟨[],.emp,.refl _,.nil,rfl,E0.start _ _ _ _⟩
 ·rintro i vs st' hi ⟨o,sv,hp,hs,rfl,hc0⟩
  conv=>whnf
  cases h:decide ((i:Int)<(l.length:Int))
  ·obtain rfl:=C4 h hi
   conv=>whnf
   exact ⟨o,hp,hs,hc0⟩
  ·have hi':=D8 h
   have hol:o.length≤i:=by rw [hp.length_eq];exact A1j ..
   have hom:∀ {k:Nat},k<o.length→0≤gI o k∧(gI o k).toNat<i:=fun hk=>A8t hp (fun x hx=>A0F hx) hk
   have hps:=A6d l codes i
   have n1:=B8s codes (l.getD (i:Int).toNat default).code hc st'
   have ea:A0j codes (l.getD i default)=(!(!((l.getD (i:Int).toNat default).code.toList==(⟨#[]⟩:C8).toList))||codes.any fun y=>y.toList==(l.getD (i:Int).toNat default).code.toList):=by
    rw [D6X];unfold A0j N3;congr 1;congr 1;funext c;exact D8K
   have skip:A0j codes (l.getD i default)=false→o.Perm (places l codes (i+1)):=fun h=>by rw [hps,if_neg (by rw [h];simp),D7y];exact hp
   have hB:A0j codes (l.getD i default)=true→∀ a,a≤o.length→(∀ k,a≤k→k<o.length→A0N (E9 l i) (E9 l (gI o k))=true)→(a=0∨A0N (E9 l i) (E9 l (gI o (a - 1)))=false)→(A1s o a (i:Int)).Perm (places l codes (i+1))∧(A1s o a (i:Int)).Pairwise (A4e l):=fun hask a ha hok hB=>by
    refine ⟨by rw [hps,if_pos hask];exact (A7v o a _).trans (hp.append_right _),A4Z hs (fun k hk hk2=>?_) (fun k hk hk2=>?_)⟩
    ·rcases hB with hB | hB
     ·omega
     ·rcases D7k k (a - 1) with e | e
      ·exact A8o (B3y hs e (by omega)) hB
      ·rw [show k=a - 1 by omega];exact hB
    ·exact A9C (hok k hk hk2)
   rw [ea] at hB skip
   generalize (codes.any fun y=>y.toList==(l.getD (i:Int).toNat default).code.toList)=b1 at n1 hB skip
   clear ea hps
   conv=>whnf
   refine E7 ?_
   cases hn:(!((l.getD (i:Int).toNat default).code.toList==(⟨#[]⟩:C8).toList))
   case' true =>
    rw [hn] at hB skip;conv=>whnf
    refine E7 ?_
    refine B3 n1 ?_
    cases b1
    ·conv=>whnf
     refine F7 ?_
     exact nx hi' ⟨o,sv,skip rfl,hs,by rw [B4 (by omega)],hc0⟩
    replace hB:=hB rfl
   case' false =>
    rw [hn] at hB
    replace hB:=hB rfl
   all_goals clear skip n1
   all_goals (conv=>whnf)
   all_goals
    have hc1:=hc0
    rcases hc1 with ⟨h0,hsv,hst⟩ | ⟨h0,b,g,hb,hsv,hst,hg⟩
    all_goals rw [hsv]
    all_goals (conv=>whnf)
    all_goals refine lp o.length [0,1,5,6,7] (fun r vs s=>(∀ k,o.length - r≤k→k<o.length→A0N (E9 l i) (E9 l (gI o k))=true)∧vs=[A8 15 B7 l,C9 codes,sv,eI i,eI (o.length - r:Nat)]∧s=st') ?_ ?_
    all_goals first
     | (conv=>whnf
        exact ⟨fun k h1 h2=>absurd h2 (by omega),by first | (rw [hsv];rfl) | (rw [hsv,h0];rfl),rfl⟩)
     | skip
    all_goals
     rintro r vs s hr ⟨hok,rfl,rfl⟩
     conv=>whnf
     refine ⟨[],[],List.range 17,by kernel_rfl,?_⟩
     cases hd:decide (((o.length - r:Nat):Int)>0)
     case' false =>
      have ha:=Nat.sub_le o.length r
      have hS:=hB (o.length - r) ha hok (.inl (by have:=D5G hd;omega))
      generalize o.length - r=a at *
      conv=>whnf
      rw [hd];conv=>whnf
     case' true =>
      have hpos:0<o.length - r:=by have:=D5F hd;omega
      have hw2:=A7l hpos (by omega)
      have hoa:=hom (k:=o.length - r - 1) (by omega)
      first
       | (exfalso;omega)
       | (conv=>whnf
          rw [hd];conv=>whnf
          refine E7 ?_
          rw [hsv] at hc0
          rw [hsv,hw2]
          refine E7 ?_
          refine ldV (v:=eI (gI o (o.length - r - 1))) (by rw [hst];exact A0 ..) rfl (by omega) (by rw [hg _ (by omega)];congr 2;omega) ?_;conv=>whnf
          refine E7 ?_
          refine cqW (C4c (E9 l i) (E9 l (gI o (o.length - r - 1))) _) ?_
          refine B8 (fun h2=>?_) (fun h2=>?_)<;>rw [h2]
          ·conv=>whnf
           refine F7 ?_
           refine nx (by omega) ⟨fun k h3 h4=>?_,by rw [hw2,show o.length - (r+1)=o.length - r - 1 by omega],rfl⟩
           rcases D8F h3 with h5 | h5
           ·rw [←h5,show o.length - (r+1)=o.length - r - 1 by omega];exact h2
           ·exact hok k (by omega) h4
          have ha:=Nat.sub_le o.length r
          have hS:=hB (o.length - r) ha hok (.inr h2)
          clear hw2 hoa
          generalize o.length - r=a at *
          conv=>whnf)
     all_goals
      refine E0.app (q:=r3) (y:=0) (enc:=eI) rfl rfl rfl rfl rfl rfl (by show (_+1) * 8≤140737488355328;omega) hc0 (fun sv' s' hc'=>?_)
      have hln:(o++[0]).length=o.length+1:=by simp
      rcases hc' with ⟨h1,_⟩ | ⟨h1,b',g',hb',rfl,rfl,hg'⟩
      ·omega
      generalize (o++[0]).length=N at *
      subst hln;conv=>whnf
      have hw0:IntKind.i64.wrap (((o.length+1:Nat):Int) - 1)=((o.length - 0:Nat):Int):=by rw [A5 (by omega) (by omega)];omega
      rw [hw0]
      refine lp (o.length - a) [0,1,5,6,7,8] (fun r vs s=>vs=[A8 15 B7 l,C9 codes,.own 1 b' 0 (o.length+1),eI i,eI a,eI (o.length - r:Nat)]∧∃ f,s=upd st b' ⟨3,1,o.length+1,f⟩∧∀ j,j<o.length+1→f j=eI (if o.length - r<j then gI o (j - 1) else gI (o++[0]) j)) ?_ ?_
      ·conv=>whnf
       exact ⟨rfl,g',rfl,fun j hj=>by rw [if_neg (by omega)];exact hg' j hj⟩
      ·clear hg' hc0
       rintro r vs s hr ⟨rfl,f,rfl,hf⟩
       conv=>whnf
       cases hk:decide (((o.length - r:Nat):Int)>(a:Int))
       ·have hra:r=o.length - a:=by have:=D5G hk;omega
        conv=>whnf
        refine E7 ?_
        refine Y9 (A0 ..) (hf _ (by omega)) ?_
        refine F7 ?_
        rw [A6Y]
        refine nx hi' ⟨A1s o a (i:Int),.own 1 b' 0 (o.length+1),hS.1,hS.2,by rw [B4 (by omega)],?_⟩
        refine .inr ⟨by rw [U8 ha];omega,b',_,hb',by rw [U8 ha],by rw [U8 ha],fun j hj=>?_⟩
        rw [U8 ha] at hj
        show I3 f (0+(a:Int).toNat) _ j=eI (gI (A1s o a (i:Int)) j)
        rw [A9g ha hj]
        by_cases hja:j=a
        ·subst hja
         rw [show 0+((j:Nat):Int).toNat=j by omega,A4];show eI (i:Int)=_;rw [if_neg (by omega),if_pos rfl]
        ·rw [H1 (by omega),hf j hj]
         congr 1
         by_cases hj2:j<a
         ·rw [if_neg (by omega),if_pos hj2,N6 (by omega)]
         ·rw [if_pos (by omega),if_neg hj2,if_neg hja]
       ·have hra:a<o.length - r:=by have:=D5F hk;omega
        have hw1:=A7l (i:=o.length - r) (by omega) (by omega)
        conv=>whnf
        rw [hw1]
        refine E7 ?_
        refine ldV (v:=eI (gI o (o.length - r - 1))) (A0 ..) rfl (by omega) (by rw [hf _ (by omega),if_neg (by omega),N6 (by omega)];congr 2;omega) ?_;conv=>whnf
        refine E7 ?_
        refine Y9 (A0 ..) (hf _ (by omega)) ?_
        refine F7 ?_
        rw [A6Y,hw1]
        refine nx (by omega) ⟨by rw [show o.length - (r+1)=o.length - r - 1 by omega],_,rfl,fun j hj=>?_⟩
        by_cases hj2:j=o.length - r
        ·subst hj2
         rw [show 0+((o.length - r:Nat):Int).toNat=o.length - r by omega,A4];show eI (gI o (o.length - r - 1))=_;rw [if_pos (by omega)]
        ·rw [H1 (by omega),hf j hj]
         congr 1
         by_cases hj3:o.length - r<j
         ·rw [if_pos hj3,if_pos (by omega)]
         ·rw [if_neg hj3,if_neg (by omega)]
theorem A1J (x:Int) (st:St):S P 131 [eI x] st fun v st'=>v=.bool (Q5 x)∧st'=st:=by
 refine F2 [] Tryz.func131 ?_
 unfold Q5
 cases h:decide (0≤x)
 ·conv=>whnf
  exact ⟨rfl,rfl⟩
 ·conv=>whnf
  exact ⟨rfl,rfl⟩
theorem D2T {v:Int} (h0:0≤v) (h1:v≤9223372036854775807):IntKind.i64.wrap ((BitVec.ofInt IntKind.i64.bits v &&& BitVec.ofInt IntKind.i64.bits 1).toNat:Int)=v % 2:=by
 show IntKind.i64.wrap ((BitVec.ofInt 64 v &&& BitVec.ofInt 64 1).toNat:Int)=v % 2
 obtain ⟨n,rfl⟩:=Int.eq_ofNat_of_zero_le h0
 have e1:(BitVec.ofInt 64 ((n:Nat):Int)).toNat=n:=by rw [BitVec.ofInt_natCast,BitVec.toNat_ofNat,D8E (by omega)]
 have e2:(BitVec.ofInt 64 1).toNat=1:=by decide
 rw [BitVec.toNat_and,e1,e2,Nat.and_one_is_mod,A5 (by omega) (by omega)];omega
theorem B4i {d q r Y:Int} (h:Y=d * q+r) (h0:0≤r) (h1:r<d):Y / d=q∧Y % d=r:=by
 have:=(Int.ediv_emod_unique (a:=Y) (b:=d) (r:=r) (q:=q) (by omega)).2 ⟨by omega,h0,h1⟩
 exact this
def A0t (num:Int) (j:Nat):Int:=num / 2 ^ (63 - j)
theorem C1W {num:Int} (h:0≤num) {j:Nat} (hj:j<63):A0t num (j+1)=2 * A0t num j+A0t num (j+1) % 2:=by
 have e:A0t num j=A0t num (j+1) / 2:=by
  unfold A0t
  rw [show 63 - j=(63 - (j+1))+1 by omega,Int.pow_succ,Int.ediv_ediv_of_nonneg (Int.pow_nonneg (by omega))]
 omega
theorem A9U {num:Int} (h:0≤num) (j:Nat):0≤A0t num j:=D7l h (Int.pow_nonneg (by omega))
theorem C6L {num:Int} (h:0≤num) (j:Nat):A0t num j≤num:=Int.ediv_le_self _ h
theorem C4I {num:Int} (h:0≤num) (h1:num≤100000000000000):A0t num 0=0:=Int.ediv_eq_zero_of_lt h (by show num<2 ^ 63;omega)
theorem B9X (num:Int):A0t num 63=num:=by unfold A0t;simp
def A9o (x num den:Int):AV:=if x * num / den>100000000000000 then .tuple [eI 0,eI 0,.bool false] else .tuple [eI (x * num / den),eI (x * num % den),.bool true]
set_option maxHeartbeats 1000000 in
theorem B1U (x num den:Int) (hx:0≤x) (hx1:x≤100000000000000) (hn:0≤num) (hn1:num≤100000000000000) (hd:0<den) (hd1:den≤100000000000000) (st:St) :
  S P 150 [eI x,eI num,eI den] st fun v st'=>v=A9o x num den∧st'=st:=by
 refine F2 [] Tryz.func150 ?_
 refine lp 63 [0,1,2,9,10,11] (fun j vs s=>(x * A0t num j / den≤100000000000000)∧vs=[eI x,eI num,eI den,eI (x * A0t num j / den),eI (x * A0t num j % den),eI (62 - (j:Int))]∧s=st) ?_ ?_
 ·conv=>whnf
  refine ⟨?_,?_,rfl⟩
  ·rw [C4I hn hn1,Int.mul_zero,Int.zero_ediv];omega
  ·rw [C4I hn hn1,Int.mul_zero,Int.zero_ediv,Int.zero_emod];rfl
 ·rintro j vs s hj ⟨hq,rfl,rfl⟩
  conv=>whnf
  have hY0:0≤x * A0t num j:=D7d hx (A9U hn j)
  have hA0:0≤x * A0t num j / den:=D7l hY0 (by omega)
  have hB0:=D7a (x * A0t num j) (show den≠0 by omega)
  have hB1:=D6N (x * A0t num j) hd
  have hY:=D6M (x * A0t num j) den
  cases h:decide (62 - (j:Int)≥0)
  ·have hj63:j=63:=by have:=D5G h;omega
   subst hj63
   rw [B9X] at hq;conv=>whnf
   refine ⟨?_,rfl⟩
   unfold A9o
   rw [if_neg (by omega),B9X];rfl
  ·have hj':j<63:=by have:=D5F h;omega
   have hC0:0≤x / den:=D7l hx (by omega)
   have hC1:x / den≤x:=Int.ediv_le_self _ hx
   have hD0:=D7a x (show den≠0 by omega)
   have hD1:=D6N x hd
   have hX:=D6M x den
   have hst:=C1W hn hj'
   have hN0:=A9U hn (j+1)
   have hN1:=C6L hn (j+1)
   have hbit:x * A0t num (j+1)=2 * (x * A0t num j)+x * (A0t num (j+1) % 2):=by
    conv=>lhs;rw [hst]
    rw [D7J,Int.mul_left_comm]
   have hshr:Int.fdiv num (2 ^ (min (IntKind.u64.wrap (62 - (j:Int))).toNat IntKind.i64.bits))=A0t num (j+1):=by
    show Int.fdiv num (2 ^ (min (IntKind.u64.wrap (62 - (j:Int))).toNat 64))=_
    rw [B5 (by omega) (by omega)]
    unfold A0t
    rw [show min (62 - (j:Int)).toNat 64=63 - (j+1) by omega,D6v _ (Int.pow_nonneg (by omega))]
   have hbig:x * A0t num (j+1) / den>100000000000000→A9o x num den=.tuple [eI 0,eI 0,.bool false]:=fun hb=>by
    unfold A9o
    refine if_pos ?_
    have:x * A0t num (j+1) / den≤x * num / den:=Int.ediv_le_ediv hd (D6A hN1 hx)
    omega
   have hand:=D2T (v:=A0t num (j+1)) hN0 (by omega)
   have htd:x.tdiv den=x / den:=D6Y hx
   have htm:x.tmod den=x % den:=D7q hx
   generalize hAe:x * A0t num j / den=A at *
   generalize hBe:x * A0t num j % den=B at *
   generalize hYe:x * A0t num j=Y at *
   generalize hCe:x / den=C at *
   generalize hDe:x % den=D at *
   have w1:IntKind.i64.wrap (2 * A)=2 * A:=A5 (by omega) (by omega)
   have w2:IntKind.i64.wrap (2 * B)=2 * B:=A5 (by omega) (by omega)
   conv=>whnf
   rw [w1,w2]
   -- doubled
   refine B8 (fun h1=>?_) (fun h1=>?_)<;>rw [h1]
   case' refine_1 =>
    have:=D5F h1
    have w3:IntKind.i64.wrap (2 * A+1)=2 * A+1:=A5 (by omega) (by omega)
    have w4:IntKind.i64.wrap (2 * B - den)=2 * B - den:=A5 (by omega) (by omega)
    have hq1:2 * Y=den * (2 * A+1)+(2 * B - den):=by rw [D7J,Int.mul_left_comm,D8r];omega
    have hq2:0≤2 * A+1∧2 * A+1≤200000000000001:=by omega
    have hr1:0≤2 * B - den∧2 * B - den<den:=by omega
    conv=>whnf
    rw [w3,w4]
    generalize 2 * A+1=q1 at *
    generalize 2 * B - den=r1 at *
   case' refine_2 =>
    have:=D5G h1
    have hq1:2 * Y=den * (2 * A)+(2 * B):=by rw [Int.mul_left_comm];omega
    have hq2:0≤2 * A∧2 * A≤200000000000001:=by omega
    have hr1:0≤2 * B∧2 * B<den:=by omega
    conv=>whnf
    generalize 2 * A=q1 at *
    generalize 2 * B=r1 at *
   all_goals clear w1 w2 hY hA0 hB0 hB1 hq hAe hBe
   all_goals (rw [D5J (show ¬ IntKind.u64.wrap (62 - (j:Int))<0 by rw [B5 (by omega) (by omega)];omega)])
   all_goals (conv=>whnf)
   all_goals rw [hshr,hand]
   all_goals refine B8 (fun h2=>?_) (fun h2=>?_)<;>rw [h2]
   -- a bit of num
   case' refine_2.true.refine_1.refine_1 | refine_2.true.refine_2.refine_1 =>
    have hb1:A0t num (j+1) % 2=1:=eq_of_beq h2
    have w5:IntKind.i64.wrap C=C:=A5 (by omega) (by omega)
    have w6:IntKind.i64.wrap (q1+C)=q1+C:=A5 (by omega) (by omega)
    have w7:IntKind.i64.wrap (r1+D)=r1+D:=A5 (by omega) (by omega)
    have hd0:decide (den=0)=false:=D5J (by omega)
    rw [hb1,D8r] at hbit;conv=>whnf
    refine ⟨[],[],List.range 12,by kernel_rfl,?_⟩;conv=>whnf
    rw [hd0];conv=>whnf
    rw [hd0];conv=>whnf
    rw [htd,htm,w5,w6,w7]
    refine B8 (fun h3=>?_) (fun h3=>?_)<;>rw [h3]
    case' refine_1 =>
     have:=D5F h3
     have w8:IntKind.i64.wrap (q1+C+1)=q1+C+1:=A5 (by omega) (by omega)
     have w9:IntKind.i64.wrap (r1+D - den)=r1+D - den:=A5 (by omega) (by omega)
     obtain ⟨e1,e2⟩:=B4i (Y:=x * A0t num (j+1)) (d:=den) (q:=q1+C+1) (r:=r1+D - den) (by rw [hbit,D7J,D7J,D8r];omega) (by omega) (by omega)
     conv=>whnf
     rw [w8,w9,←e1,←e2]
    case' refine_2 =>
     have:=D5G h3
     obtain ⟨e1,e2⟩:=B4i (Y:=x * A0t num (j+1)) (d:=den) (q:=q1+C) (r:=r1+D) (by rw [hbit,D7J];omega) (by omega) (by omega)
     conv=>whnf
     rw [←e1,←e2]
   case' refine_2.true.refine_1.refine_2 | refine_2.true.refine_2.refine_2 =>
    have hb1:A0t num (j+1) % 2=0:=by have:=ne_of_beq_false h2;omega
    rw [hb1,Int.mul_zero,D7Q] at hbit
    obtain ⟨e1,e2⟩:=B4i (Y:=x * A0t num (j+1)) (d:=den) (q:=q1) (r:=r1) (by rw [hbit];omega) (by omega) (by omega)
    conv=>whnf
    rw [←e1,←e2]
   all_goals refine B8 (fun h4=>?_) (fun h4=>?_)<;>rw [h4]
   all_goals (conv=>whnf)
   all_goals first
    | exact ⟨by rw [hbig (D5F h4)];rfl,rfl⟩
    | (refine ⟨rfl,?_⟩;conv=>whnf
       have w10:IntKind.i64.wrap (62 - (j:Int) - 1)=62 - ((j+1:Nat):Int):=by rw [A5 (by omega) (by omega)];omega
       exact nx hj' ⟨by have:=D5G h4;omega,by rw [w10],rfl⟩)
theorem A8D (x num den round:Int) (st:St):S P 92 [eI x,eI num,eI den,eI round] st fun v st'=>v=.tuple [eI (W4 x num den round).1,eI (W4 x num den round).2]∧st'=st:=by
 refine SyW [] Tryz.func92 ?_
 by_cases hok:(Q5 x&&Q5 num&&Q5 den&&den != 0&&decide (0≤round)&&decide (round<3))=false
 ·rw [show W4 x num den round=(0,2) from if_pos hok]
  have n1:=A1J x st
  have n2:=A1J num st
  have hok':¬(Q5 x=true∧Q5 num=true∧1≤den∧den≤100000000000000∧0≤round∧round≤2):=fun ⟨h1,h2,h3,h4,h5,h6⟩=>by
   rw [h1,h2,(Y8 den).2 ⟨by omega,h4⟩,D6m h5,D6m (show round<3 by omega),D8h.2 (show den≠0 by omega)] at hok;cases hok
  repeat' ((conv=>whnf);first | refine B3 n1 ?_ | refine B3 n2 ?_ | (refine B8 (fun h=>?_) (fun h=>?_)<;>rw [h]))
  all_goals (conv=>whnf)
  all_goals first
   | exact ⟨rfl,rfl⟩
   | (exfalso
      simp only [D6l,D5D] at *
      exact hok' ⟨by assumption,by assumption,by omega,by omega,by omega,by omega⟩)
 ·rw [D8a] at hok
  have ht:W4 x num den round=if x * num / den>100000000000000 then (0,5) else if S9 (x * num / den) (x * num % den) den round>100000000000000 then (0,5) else (S9 (x * num / den) (x * num % den) den round,0):=if_neg (by rw [hok];simp)
  simp only [D5I,D8h,ne_eq,D5E] at hok
  obtain ⟨⟨⟨⟨⟨x0,n0⟩,d0⟩,d2⟩,r0⟩,r1⟩:=hok
  have x1:=(Y8 x).1 x0
  have n1:=(Y8 num).1 n0
  have d1:=(Y8 den).1 d0
  have e1:decide (den<1)=false:=D5J (by omega)
  have e2:decide (den>100000000000000)=false:=D5J (by omega)
  have e3:decide (round<0)=false:=D5J (by omega)
  have e4:decide (round>2)=false:=D5J (by omega)
  have hp:=B1U x num den (by omega) (by omega) (by omega) (by omega) (by omega) (by omega) st
  have hN:0≤x * num:=D7d x1.1 n1.1
  have hq0:0≤x * num / den:=D7l hN (by omega)
  have hm0:=D7a (x * num) d2
  have hm1:=D6N (x * num) (show 0<den by omega)
  have m1:=A1J x st
  have m2:=A1J num st
  rw [x0] at m1
  rw [n0] at m2
  unfold A9o at hp
  rw [ht]
  clear ht
  generalize x * num / den=q at *
  generalize x * num % den=r at *
  have bq:0≤S9 q r den round:=by unfold S9;repeat' split<;>omega
  by_cases hbig:q>100000000000000
  ·rw [if_pos hbig] at hp ⊢
   repeat' ((conv=>whnf);first | refine B3 m1 ?_ | refine B3 m2 ?_ | refine B3 hp ?_ | rw [e1] | rw [e2] | rw [e3] | rw [e4])
   conv=>whnf
   exact ⟨rfl,rfl⟩
  ·rw [if_neg hbig] at hp ⊢
   have w1:IntKind.i64.wrap (2 * r)=2 * r:=A5 (by omega) (by omega)
   have w2:IntKind.i64.wrap (q+1)=q+1:=A5 (by omega) (by omega)
   have w3:q.tmod 2=q % 2:=D7q hq0
   have m3:=A1J q st
   have m4:=A1J (q+1) st
   rcases (by omega:round=0∨round=1∨round=2) with rfl | rfl | rfl
   all_goals repeat' ((conv=>whnf);first | refine B3 m1 ?_ | refine B3 m2 ?_ | refine B3 m3 ?_ | refine B3 m4 ?_ | refine B3 hp ?_ | rw [e1] | rw [e2] | rw [e3] | rw [e4] | rw [w1] | rw [w2] | rw [w3] | (refine B8 (fun h=>?_) (fun h=>?_)<;>rw [h]))
   all_goals (conv=>whnf)
   all_goals (refine ⟨?_,rfl⟩;show AV.tuple [AV.int .i64 _,AV.int .i64 _]=AV.tuple [AV.int .i64 _,AV.int .i64 _])
   all_goals (simp only [S9,D5W,D6l,D5E,D5D,D6z,D6o,ne_eq,Q5,D5I,D7L,if_true,D8m,Int.reduceEq] at *)
   all_goals (repeat' split)
   all_goals first | rfl | (exfalso;omega)
theorem C1z (x rate round:Int) (st:St):S P 33 [eI x,eI rate,eI round] st fun v st'=>v=.tuple [eI (if 0≤rate∧rate≤10000 then W4 x rate 10000 round else (0,2)).1,eI (if 0≤rate∧rate≤10000 then W4 x rate 10000 round else (0,2)).2]∧st'=st:=by
 refine SyW [] Tryz.func33 ?_
 repeat' ((conv=>whnf);first | refine B3 (A8D _ _ _ _ st) ?_ | (refine B8 (fun h=>?_) (fun h=>?_)<;>rw [h]))
 all_goals (conv=>whnf)
 all_goals (refine ⟨?_,rfl⟩;simp only [D5E,D5D] at *)
 ·rw [if_neg (by omega)];rfl
 ·rw [if_neg (by omega)];rfl
 ·rw [if_pos (by omega)];rfl
theorem A8B (x rate:Int) (st:St):S P 165 [eI x,eI rate] st fun v st'=>v=eI (J7 x rate)∧st'=st:=by
 refine F2 [] Tryz.func165 ?_
 refine I5 (C1z x rate 1 st) ?_
 exact ⟨rfl,rfl⟩
theorem A9w (l:List Int) (hl:l.length≤1000000) (h0:∀ x∈l,0≤x) (hs:A2 l≤100000000000000000) (st:St):S P 118 [B0 l] st fun v st'=>v=eI (A2 l)∧st'=st:=by
 refine F2 [] Tryz.func118 ?_
 refine lp l.length [0,3,4] (fun i vs s=>vs=[B0 l,eI (A2 (l.take i)),eI i]∧s=st) ?_ ?_
 ·conv=>whnf
  exact ⟨rfl,rfl⟩
 ·rintro i vs st' hi ⟨rfl,rfl⟩
  conv=>whnf
  cases h:decide ((i:Int)<(l.length:Int))
  ·obtain rfl:=C4 h hi
   conv=>whnf
   exact ⟨by rw [D5N];rfl,rfl⟩
  ·have hi':=D8 h
   have e:=L1 hi'
   have h1:=C1 (l:=l.take i) (fun x hx=>h0 x (D6H _ _ hx))
   have h2:=N1 h0 (i+1)
   have h3:=h0 _ (A6 hi')
   have h4:gI l i=l.getD i default:=rfl
   have w:IntKind.i64.wrap (A2 (l.take i)+l.getD (i:Int).toNat default)=A2 (l.take (i+1)):=by rw [e];exact A5 (by rw [D5P];omega) (by rw [D5P];omega)
   conv=>whnf
   refine E7 ?_
   rw [w]
   refine F7 ?_
   exact nx hi' ⟨by rw [B4 (by omega)],rfl⟩
theorem A6R (us:List B2) (mine:List Int) (hl:mine.length≤1000000) (hm:∀ k,k<mine.length→0≤gI mine k∧(gI mine k).toNat<us.length) (st:St):S P 216 [C6 us,B0 mine] st fun v st'=>v=B0 (E2 us mine)∧st'=st:=by
 refine A0L (ty:=2) ?_
 refine F2 [] Tryz.func216 ?_
 refine lp mine.length [0,1,5,6] (fun i vs s=>∃ sv,vs=[C6 us,B0 mine,sv,eI i]∧E0 2 1 eI (E2 us (mine.take i)) st sv s) ?_ ?_
 ·conv=>whnf
  exact ⟨.emp,rfl,E0.start _ _ _ _⟩
 ·rintro i vs st' hi ⟨sv,rfl,hc⟩
  conv=>whnf
  cases h:decide ((i:Int)<(mine.length:Int))
  ·obtain rfl:=C4 h hi
   rw [D5N] at hc;conv=>whnf
   exact hc
  ·have hi':=D8 h
   have hx:=hm i hi'
   have hlen:(E2 us (mine.take i)).length=i:=by unfold E2;rw [D5H,D5M];omega
   conv=>whnf
   refine E7 ?_
   refine ⟨rfl,⟨by show 0≤gI mine i;omega,by show gI mine i<(us.length:Int);omega⟩,?_⟩;conv=>whnf
   refine E0.app (q:=r2) (y:=(gU us (gI mine i).toNat).net) rfl rfl rfl rfl rfl rfl (by show (_+1) * 8≤140737488355328;omega) hc (fun sv' s' hc'=>?_);conv=>whnf
   refine F7 ?_
   refine nx hi' ⟨sv',by rw [B4 (by omega)],?_⟩
   unfold E2 at hc' ⊢
   rw [A1N hi'];exact hc'
def A4z (total:Int) (ws:List Int):List Int:=(List.range ws.length).map fun k=>total * gI ws k % A2 ws
theorem C6d {total:Int} {ws:List Int} {o:List Int} (hp:o.Perm (A4q ws.length)) (hs:o.Pairwise (B3R (A4z total ws))):o=(shR total (A2 ws) ws).map (·.2):=by
 have e:o.map (B1O (A4z total ws))=shR total (A2 ws) ws:=by
  refine List.Perm.eq_of_pairwise (le:=fun a b=>G3 b a=false) (fun a b _ _ h1 h2=>A4u h2 h1) (List.pairwise_map.2 hs) (A7H ..) (((hp.map _).trans ?_).trans (A2u ..).symm)
  unfold A4q
  rw [D8d]
  refine List.Perm.of_eq (D6V fun k hk=>?_)
  have:=D5S.1 hk
  show (gI (A4z total ws) ((k:Int).toNat),(k:Int))=shE total (A2 ws) ws k
  unfold A4z
  rw [D5P,M9 _ this];rfl
 rw [←e,D8d]
 conv=>lhs;rw [←List.map_id o]
 rfl
theorem C3m {total:Int} {ws:List Int} (h:R6 total ws):D2 total ws=S6 ((List.range ws.length).map (shQ total (A2 ws) ws)) ((shR total (A2 ws) ws).take (F8 total (A2 ws) ws ws.length).toNat)∧0≤F8 total (A2 ws) ws ws.length∧F8 total (A2 ws) ws ws.length≤ws.length:=by
 by_cases hS:A2 ws=0
 ·have ht:=h.none hS
  have hq:∀ k,shQ total (A2 ws) ws k=0:=fun k=>by unfold shQ;rw [ht,D8C,Int.zero_ediv]
  have hl:F8 total (A2 ws) ws ws.length=0:=by
   unfold F8
   rw [show (List.range ws.length).map (shQ total (A2 ws) ws)=List.replicate ws.length 0 from by
    rw [List.eq_replicate_iff]
    exact ⟨by simp,fun b hb=>by obtain ⟨k,_,rfl⟩:=D5X.1 hb;exact hq k⟩,ht]
   have:∀ n,A2 (List.replicate n 0)=0:=fun n=>by
    induction n with
    | zero=>rfl
    | succ n ih=>rw [List.replicate_succ',F4,ih];rfl
   rw [this];rfl
  refine ⟨?_,by omega,by omega⟩
  rw [hl]
  unfold D2
  rw [if_pos hS]
  show ws.map (fun _=>0)=S6 _ []
  unfold S6
  refine D8l (by simp) fun k h1 h2=>?_
  simp [hq]
 ·have hS':0<A2 ws:=by have:=C1 h.w0;omega
  refine ⟨?_,A3p h hS'⟩
  unfold D2;rw [if_neg hS]
set_option maxHeartbeats 1000000 in
theorem A7G (total:Int) (ws:List Int) (h:R6 total ws) (st:St):S P 220 [eI total,B0 ws] st fun v st'=>v=.tuple [B0 (D2 total ws),eI 0]∧st'=st:=by
 obtain ⟨hR,hl0,hl1⟩:=C3m h
 have hlen:=h.len
 have hS0:=C1 h.w0
 have hSm:=h.sum
 have ht0:=h.t0
 have ht1:=h.t1
 refine S.post (post:=fun v st'=>∃ (bo:Nat) (f:Nat→AV),st bo=none∧v=.tuple [.own 1 bo 0 ws.length,eI 0]∧st'=upd st bo ⟨2,1,ws.length,f⟩∧∀ k,k<ws.length→f k=eI (gI (D2 total ws) k)) ?_
  (fun v st' ⟨bo,f,hb,hv,hs,hf⟩=>⟨_,st,⟨rfl,rfl⟩,by
   subst hv;subst hs
   have hL:(D2 total ws).length=ws.length:=by rw [hR,A1V];simp
   have e:B0 (D2 total ws)=.arr 1 ws.length (fun k=>eI (gI (D2 total ws) k)):=by unfold B0 A8;rw [hL]
   rw [e]
   have h2:=N7 (st:=upd st bo ⟨2,1,ws.length,f⟩) (e:=1) (b:=bo) (n:=ws.length) (f:=fun k=>eI (gI (D2 total ws) k)) (A0 ..) rfl (D5L _) hf
   rw [A3F hb] at h2
   exact A7.tuple (A7.cons h2 (A7.keep _ _)) rfl⟩)
 refine F2 [] Tryz.func220 ?_
 refine B3 (A1J total st) ?_
 rw [(Y8 total).2 ⟨ht0,ht1⟩];conv=>whnf
 rw [D5J (show ¬(ws.length:Int)>100000 by omega)];conv=>whnf
 refine lp ws.length [0,1,6] (fun i vs s=>vs=[eI total,B0 ws,eI i]∧s=st) ?_ ?_
 ·conv=>whnf
  exact ⟨rfl,rfl⟩
 ·rintro i vs st' hi ⟨rfl,rfl⟩
  conv=>whnf
  cases hd:decide ((i:Int)<(ws.length:Int))
  case true =>
   have hi':=D8 hd
   have hm:=A6 hi'
   conv=>whnf
   refine E7 ?_
   refine B3 (A1J _ _) ?_
   rw [(Y8 (ws.getD (i:Int).toNat default)).2 ⟨h.w0 _ hm,D8z (J3 h.w0 hm) hSm⟩];conv=>whnf
   refine F7 ?_
   exact nx hi' ⟨by rw [B4 (by omega)],rfl⟩
  clear hd
  conv=>whnf
  refine lp ws.length [0,1,7,8] (fun i vs s=>vs=[eI total,B0 ws,eI (A2 (ws.take i)),eI i]∧s=st') ?_ ?_
  ·conv=>whnf
   exact ⟨rfl,rfl⟩
  ·clear hi
   rintro i vs st hi ⟨rfl,rfl⟩
   conv=>whnf
   cases hd:decide ((i:Int)<(ws.length:Int))
   case true =>
    have hi':=D8 hd
    have e:=L1 hi'
    have h1:=C1 (l:=ws.take i) (fun x hx=>h.w0 x (D6H _ _ hx))
    have h2:=N1 h.w0 (i+1)
    have h3:=h.w0 _ (A6 hi')
    have w:IntKind.i64.wrap (A2 (ws.take i)+ws.getD (i:Int).toNat default)=A2 (ws.take (i+1)):=by rw [e];exact A5 (by rw [D5P];omega) (by rw [D5P];show A2 (ws.take i)+gI ws i≤_;omega)
    conv=>whnf
    refine E7 ?_
    rw [w,D5J (show ¬ A2 (ws.take (i+1))>100000000000000 by omega)];conv=>whnf
    refine F7 ?_
    exact nx hi' ⟨by rw [B4 (by omega)],rfl⟩
   obtain rfl:=C4 hd hi
   rw [D5N]
   have hz:(A2 ws==0)=true→(total != 0)=false:=fun e=>by rw [h.none (eq_of_beq e)];rfl
   cases h0:(A2 ws==0)
   case' true =>
    conv=>whnf
    rw [h0];conv=>whnf
    rw [hz h0]
   case' false =>
    conv=>whnf
    rw [h0]
   all_goals (conv=>whnf)
   all_goals refine mkO rfl rfl rfl (by show 8 * ws.length≤_;omega) (by omega) (by rfl) (fun b1 hb1=>?_)
   all_goals (conv=>whnf)
   all_goals refine mkO rfl rfl rfl (by show 8 * ws.length≤_;omega) (by omega) (by rfl) (fun b2 hb2=>?_)
   all_goals (conv=>whnf)
   all_goals
    have hne:b1≠b2:=fun e=>by subst e;rw [A0] at hb2;cases hb2
    have hb2':st b2=none:=by rw [A9 hne.symm] at hb2;exact hb2
    refine lp ws.length [0,1,7,9,10,11,12] (fun i vs s=>vs=[eI total,B0 ws,eI (A2 ws),.own 1 b1 0 ws.length,.own 1 b2 0 ws.length,eI (F8 total (A2 ws) ws i),eI i]∧(A2 ws=0→i=0)∧∃ f1 f2,s=upd (upd st b1 ⟨2,1,ws.length,f1⟩) b2 ⟨2,1,ws.length,f2⟩∧∀ k,k<ws.length→f1 k=eI (if k<i then shQ total (A2 ws) ws k else 0)∧f2 k=eI (if k<i then total * gI ws k % A2 ws else 0)) ?_ ?_
    ·conv=>whnf
     exact ⟨by rw [show F8 total (A2 ws) ws 0=total from by unfold F8;simp [A2]];rfl,fun _=>rfl,_,_,rfl,fun k hk=>⟨by rw [if_neg (by omega)];rfl,by rw [if_neg (by omega)];rfl⟩⟩
    ·rintro i vs s hi ⟨rfl,hSi,f1,f2,rfl,hf⟩
     conv=>whnf
     have fin:(∀ k,k<ws.length→f1 k=eI (shQ total (A2 ws) ws k)∧f2 k=eI (total * gI ws k % A2 ws))→F8 total (A2 ws) ws i=F8 total (A2 ws) ws ws.length→True:=fun _ _=>trivial
     have hend:(i=ws.length∨A2 ws=0)→(∀ k,k<ws.length→f1 k=eI (shQ total (A2 ws) ws k)∧f2 k=eI (total * gI ws k % A2 ws))∧F8 total (A2 ws) ws i=F8 total (A2 ws) ws ws.length:=fun hE=>by
      rcases hE with hE | hE
      ·subst hE
       exact ⟨fun k hk=>by have:=hf k hk;rwa [if_pos hk,if_pos hk] at this,rfl⟩
      ·have hi0:=hSi hE
       have ht:=h.none hE
       have hq:∀ k,shQ total (A2 ws) ws k=0:=fun k=>by unfold shQ;rw [ht,D8C,Int.zero_ediv]
       have hz:∀ n,A2 ((List.range n).map (shQ total (A2 ws) ws))=0:=fun n=>by
        induction n with
        | zero=>rfl
        | succ n ih=>rw [L7,ih,hq];rfl
       refine ⟨fun k hk=>?_,?_⟩
       ·have:=hf k hk
        rw [if_neg (by omega),if_neg (by omega)] at this
        rw [hq,ht,D8C,Int.zero_emod];exact this
       ·unfold F8;rw [hz,hz]
     cases hd:decide ((i:Int)<(ws.length:Int))
     case' false =>
      have hE:=hend (.inl (C4 hd hi))
      conv=>whnf
     case' true =>
      have hi':=D8 hd
      conv=>whnf
      cases hp:decide (A2 ws>0)
      case' false =>
       have hE:=hend (.inr (by have:=D5G hp;omega))
       conv=>whnf
      case' true =>
       have hS:0<A2 ws:=D5F hp
       have hm:gI ws i∈ws:=A6 hi'
       have hqb:=A5k h hS (show i≤ws.length by omega)
       have hqb':=A5k h hS (show i+1≤ws.length by omega)
       have hsr:=L7 (shQ total (A2 ws) ws) i
       have hq:=A4A h hS hi'
       have hpt:=B1U total (gI ws i) (A2 ws) ht0 ht1 (h.w0 _ hm) (D8z (J3 h.w0 hm) hSm) hS hSm (upd (upd st b1 ⟨2,1,ws.length,f1⟩) b2 ⟨2,1,ws.length,f2⟩)
       unfold A9o at hpt
       rw [if_neg (by have:total * gI ws i / A2 ws≤total:=hq.2;omega)] at hpt;conv=>whnf
       refine E7 ?_
       refine I5 hpt ?_
       refine E7 ?_
       refine stU (by rw [A9 hne];exact A0 ..) (hf _ (by omega)).1 ?_
       rw [R5 hne.symm,C0];conv=>whnf
       refine E7 ?_
       refine stU (A0 ..) (hf _ (by omega)).2 ?_
       rw [C0];conv=>whnf
       refine E7 ?_
       refine J0 (by rw [A9 hne];exact A0 ..) (A4 ..) ?_
       refine F7 ?_
       have e:IntKind.i64.wrap (F8 total (A2 ws) ws i - total * gI ws i / A2 ws)=F8 total (A2 ws) ws (i+1):=by
        unfold F8
        have:total * gI ws i / A2 ws=shQ total (A2 ws) ws i:=rfl
        rw [this,A5 (by omega) (by omega)];omega
       refine nx hi' ⟨by rw [B4 (by omega),e],fun e=>by omega,_,_,rfl,fun k hk=>?_⟩
       rw [show 0+(i:Int).toNat=i by omega]
       by_cases e1:k=i
       ·subst e1;rw [A4,A4]
        refine ⟨?_,?_⟩
        ·show eI (shQ total (A2 ws) ws k)=_;rw [if_pos (by omega)]
        ·show eI (total * gI ws k % A2 ws)=_;rw [if_pos (by omega)]
       ·have h7:=hf k hk
        rw [H1 e1,H1 e1]
        by_cases h8:k<i
        ·rw [if_pos h8,if_pos h8] at h7;rw [if_pos (by omega),if_pos (by omega)];exact h7
        ·rw [if_neg h8,if_neg h8] at h7;rw [if_neg (by omega),if_neg (by omega)];exact h7
     all_goals
      obtain ⟨hE1,hE2⟩:=hE
      clear hend hf fin hSi
      rw [hE2]
      have hres:A4z total ws=A4z total ws:=rfl
      have hrl:(A4z total ws).length=ws.length:=by unfold A4z;simp
      have eA:B0 (A4z total ws)=.arr 1 ws.length (fun k=>eI (gI (A4z total ws) k)):=by unfold B0 A8;rw [hrl]
      refine F3 (args':=[B0 (A4z total ws)]) (by
       rw [eA]
       exact N7 (A0 ..) rfl (D5L _) (fun k hk=>by show f2 k=_;rw [(hE1 k hk).2];unfold A4z;rw [M9 _ hk])) (call (B6u (A4z total ws) (by omega) _) (fun v s2 hv=>?_))
      obtain ⟨⟨o,ho1,ho2,rfl⟩,rfl⟩:=hv
      rw [hrl] at ho1
      have hoS:=C6d ho1 ho2
      have hol:o.length=ws.length:=by rw [ho1.length_eq,A9k]
      have hog:∀ k,k<ws.length→gI o k=(at_ (shR total (A2 ws) ws) k).2:=fun k hk=>by
       rw [hoS];exact D4 (fun e:QE=>e.2) _ (by rw [A6S];exact hk)
      have hdl:del (upd (upd st b1 ⟨2,1,ws.length,f1⟩) b2 ⟨2,1,ws.length,f2⟩) b2=upd st b1 ⟨2,1,ws.length,f1⟩:=A3F (by rw [A9 hne.symm];exact hb2') _
      rw [hdl];conv=>whnf
      refine lp (F8 total (A2 ws) ws ws.length).toNat [9,11,13,14] (fun i vs s=>vs=[.own 1 b1 0 ws.length,eI (F8 total (A2 ws) ws ws.length),B0 o,eI i]∧∃ f,s=upd st b1 ⟨2,1,ws.length,f⟩∧∀ k,k<ws.length→f k=eI (gI (S6 ((List.range ws.length).map (shQ total (A2 ws) ws)) ((shR total (A2 ws) ws).take i)) k)) ?_ ?_
      ·conv=>whnf
       exact ⟨rfl,f1,rfl,fun k hk=>by rw [(hE1 k hk).1];show _=eI (gI ((List.range ws.length).map _) k);rw [M9 _ hk]⟩
      ·rintro t vs s ht ⟨rfl,f,rfl,hf⟩
       conv=>whnf
       cases hd2:decide ((t:Int)<F8 total (A2 ws) ws ws.length)
       ·have:t=(F8 total (A2 ws) ws ws.length).toNat:=by have:=D5G hd2;omega
        subst this;conv=>whnf
        exact ⟨b1,f,hb1,rfl,rfl,by rw [hR];exact hf⟩
       ·have ht':(t:Int)<F8 total (A2 ws) ws ws.length:=D5F hd2
        have hx:0≤(at_ (shR total (A2 ws) ws) t).2∧(at_ (shR total (A2 ws) ws) t).2.toNat<ws.length:=B0x (total:=total) (S:=A2 ws) (ws:=ws) (A6 (l:=shR total (A2 ws) ws) (i:=t) (by rw [A6S];omega))
        have hgo:=hog t (by omega)
        have htk:=K4 (l:=shR total (A2 ws) ws) (i:=t) (by rw [A6S];omega)
        have hb1:=A4S ((List.range ws.length).map (shQ total (A2 ws) ws)) ((shR total (A2 ws) ws).take t) (at_ (shR total (A2 ws) ws) t).2.toNat
        rw [M9 _ hx.2,D5M] at hb1
        have hqq:0≤shQ total (A2 ws) ws (at_ (shR total (A2 ws) ws) t).2.toNat∧shQ total (A2 ws) ws (at_ (shR total (A2 ws) ws) t).2.toNat≤100000000000000:=by
         by_cases hS:A2 ws=0
         ·unfold shQ;rw [h.none hS,D8C,Int.zero_ediv];omega
         ·have:=A4A h (show 0<A2 ws by omega) hx.2;omega
        have hx2:0≤gI o t∧(gI o t).toNat<ws.length:=by rw [hgo];exact hx
        conv=>whnf
        refine E7 ?_
        refine ⟨rfl,⟨by show 0≤gI o t;omega,by show gI o t<(ws.length:Int);omega⟩,?_⟩;conv=>whnf
        refine ldV (A0 ..) rfl (by show 0+(gI o t).toNat<_;omega) (hf _ (by show 0+(gI o t).toNat<_;omega)) ?_;conv=>whnf
        refine ⟨rfl,⟨by show 0≤gI o t;omega,by show gI o t<(ws.length:Int);omega⟩,?_⟩;conv=>whnf
        refine stV (A0 ..) rfl (by show 0+(gI o t).toNat<_;omega) (hf _ (by show 0+(gI o t).toNat<_;omega)) (by rfl) ?_
        rw [C0];conv=>whnf
        refine F7 ?_
        refine nx (by omega) ⟨by rw [B4 (by omega)],_,rfl,fun k hk=>?_⟩
        rw [htk,A9D,C3g (by rw [A1V];simpa using hx.2)]
        show I3 f (0+(gI o t).toNat) (eI (IntKind.i64.wrap (gI (S6 _ _) (0+(gI o t).toNat)+1))) k=_
        rw [D5R,hgo]
        by_cases e1:k=(at_ (shR total (A2 ws) ws) t).2.toNat
        ·rw [if_pos e1,e1,A4,A5 (by omega) (by omega)]
        ·rw [if_neg e1,H1 e1];exact hf k hk
theorem B8p (us:List B2) (mine:List Int) (h:E1 us) (hm:N9 us mine) (st:St):S P 253 [C6 us,B0 mine] st fun v st'=>v=.bool true∧st'=st:=by
 have hlen:=h.len
 have hml:=hm.len
 refine F2 [] Tryz.func253 ?_
 rw [D5J (show ¬(us.length:Int)>100000 by omega)];conv=>whnf
 refine lp us.length [0,1,5,6] (fun i vs s=>vs=[C6 us,B0 mine,eI (A2 ((D6 us).take i)),eI i]∧s=st) ?_ ?_
 ·conv=>whnf
  exact ⟨rfl,rfl⟩
 ·rintro i vs st' hi ⟨rfl,rfl⟩
  conv=>whnf
  cases hd:decide ((i:Int)<(us.length:Int))
  case true =>
   have hi':=D8 hd
   have e:=L1 (l:=D6 us) (i:=i) (by rw [D5H];exact hi')
   have e4:gI (D6 us) i=(gU us i).net:=D4 B2.net us hi'
   have h1:=C1 (l:=(D6 us).take i) (fun x hx=>h.nets0 x (D6H _ _ hx))
   have h2:=N1 h.nets0 (i+1)
   have h3:=h.sum
   have h4:=h.at0 i
   have h5:=h.le (A6 hi')
   have w:IntKind.i64.wrap (A2 ((D6 us).take i)+(us.getD (i:Int).toNat default).net)=A2 ((D6 us).take (i+1)):=by rw [e,e4];exact A5 (by rw [D5P];show _≤A2 ((D6 us).take i)+(gU us i).net;omega) (by rw [D5P];show A2 ((D6 us).take i)+(gU us i).net≤_;omega)
   have f1:decide ((us.getD (i:Int).toNat default).net<0)=false:=D5J (by rw [D5P];show ¬(gU us i).net<0;omega)
   have f2:decide ((us.getD (i:Int).toNat default).net>10000000000000)=false:=D5J (by rw [D5P];omega)
   have f3:decide (A2 ((D6 us).take (i+1))>10000000000000)=false:=D5J (by omega)
   repeat' ((conv=>whnf);first | refine ⟨rfl,⟨by omega,by omega⟩,?_⟩ | rw [f1] | rw [f2] | rw [w,f3])
   conv=>whnf
   refine F7 ?_
   exact nx hi' ⟨by rw [B4 (by omega)],rfl⟩
  conv=>whnf
  refine lp mine.length [0,1,7] (fun i vs s=>vs=[C6 us,B0 mine,eI i]∧s=st') ?_ ?_
  ·conv=>whnf
   exact ⟨rfl,rfl⟩
  ·rintro k vs st hk ⟨rfl,rfl⟩
   conv=>whnf
   cases hd2:decide ((k:Int)<(mine.length:Int))
   ·conv=>whnf
    exact ⟨rfl,rfl⟩
   ·have hk':=D8 hd2
    have hr:0≤mine.getD (k:Int).toNat default∧(mine.getD (k:Int).toNat default).toNat<us.length:=hm.rng k hk'
    have f1:decide (mine.getD (k:Int).toNat default<0)=false:=D5J (by omega)
    have f2:decide (mine.getD (k:Int).toNat default≥(us.length:Int))=false:=D5J (by omega)
    have f3:(!(us.getD (mine.getD (k:Int).toNat default).toNat default).opn)=false:=by
     have:=hm.opn k hk'
     rw [D6l];exact this
    conv=>whnf
    refine ⟨[],[],List.range 41,by kernel_rfl,?_⟩
    rcases D7b k with h0 | h0
    ·have f4:decide ((k:Int)>0)=false:=D5J (by omega)
     repeat' ((conv=>whnf);first | refine ⟨rfl,⟨by omega,by omega⟩,?_⟩ | rw [f1] | rw [f2] | rw [f3] | rw [f4])
     conv=>whnf
     refine F7 ?_
     exact nx hk' ⟨by rw [B4 (by omega)],rfl⟩
    ·have f4:decide ((k:Int)>0)=true:=D6m (by omega)
     have hw:=A7l h0 (by omega)
     have f5:decide (mine.getD (k:Int).toNat default≤mine.getD (IntKind.i64.wrap ((k:Int) - 1)).toNat default)=false:=D5J (by
      rw [hw,D5P,D5P]
      have:=hm.lt (k - 1) k (by omega) hk'
      exact Int.not_le.2 this)
     repeat' ((conv=>whnf);first | refine ⟨rfl,⟨by omega,by omega⟩,?_⟩ | refine ⟨rfl,⟨by rw [hw];omega,by rw [hw];omega⟩,?_⟩ | rw [f1] | rw [f2] | rw [f3] | rw [f4] | rw [f5])
     conv=>whnf
     refine F7 ?_
     exact nx hk' ⟨by rw [B4 (by omega)],rfl⟩
theorem B9J (us:List B2) (mine:List Int) (h:E1 us) (hm:N9 us mine) (st:St):S P 254 [C6 us,B0 mine] st fun v st'=>v=B0 ((D9 us mine).map (·.2))∧st'=st:=by
 have hml:=hm.len
 have hul:=h.len
 have hnl:(E2 us mine).length=mine.length:=by unfold E2;rw [D5H]
 refine A0L (ty:=3) ?_
 refine F2 [] Tryz.func254 ?_
 refine I5 (A6R us mine (by omega) hm.rng st) ?_
 refine call (B6u (E2 us mine) (by omega) _) (fun v s hv=>?_)
 obtain ⟨⟨o,ho1,ho2,rfl⟩,rfl⟩:=hv
 rw [hnl] at ho1
 have hol:o.length=mine.length:=by rw [ho1.length_eq,A9k]
 have hom:∀ {k:Nat},k<o.length→0≤gI o k∧(gI o k).toNat<mine.length:=fun hk=>A8t ho1 (fun x hx=>A6L hx) hk
 have he:(D9 us mine).map (·.2)=o.map fun x=>gI mine x.toNat:=by
  have e:o.map (fun x=>C0B us (gI mine x.toNat))=D9 us mine:=by
   refine List.Perm.eq_of_pairwise (le:=fun a b=>G3 b a=false) (fun a b _ _ h1 h2=>A4u h2 h1) (List.pairwise_map.2 ?_) (A5i _) (((ho1.map _).trans ?_).trans (A3m ..).symm)
   ·refine List.Pairwise.imp_of_mem ?_ ho2
    intro a b ha hb hab
    obtain ⟨a0,a1⟩:=A6L (ho1.subset ha)
    obtain ⟨b0,b1⟩:=A6L (ho1.subset hb)
    unfold B3R B1O at hab
    have ea:gI (E2 us mine) a.toNat=(gU us (gI mine a.toNat).toNat).net:=D4 (fun i:Int=>(gU us i.toNat).net) mine a1
    have eb:gI (E2 us mine) b.toNat=(gU us (gI mine b.toNat).toNat).net:=D4 (fun i:Int=>(gU us i.toNat).net) mine b1
    rw [ea,eb,S5] at hab
    unfold C0B
    rw [S5]
    simp only at hab ⊢
    rintro (h1 | ⟨h1,h2⟩)
    ·exact hab (.inl h1)
    ·refine hab (.inr ⟨h1,?_⟩)
     refine Int.lt_of_not_ge fun hge=>?_
     rcases D8F (show a.toNat≤b.toNat by omega) with e1 | e1
     ·rw [e1] at h2;omega
     ·have:=hm.lt a.toNat b.toNat e1 b1;omega
   ·unfold A4q
    rw [D8d]
    refine List.Perm.of_eq (D8l (by simp) fun k h1 h2=>?_)
    have:k<mine.length:=by simpa using h1
    simp [gI,this]
  rw [←e,D8d];rfl
 rw [he];conv=>whnf
 refine lp o.length [1,5,6,7] (fun i vs s'=>∃ sv,vs=[B0 mine,B0 o,sv,eI i]∧E0 3 1 eI ((o.take i).map fun x=>gI mine x.toNat) s sv s') ?_ ?_
 ·conv=>whnf
  exact ⟨.emp,rfl,E0.start _ _ _ _⟩
 ·rintro i vs st' hi ⟨sv,rfl,hc⟩
  conv=>whnf
  cases hd:decide ((i:Int)<(o.length:Int))
  ·obtain rfl:=C4 hd hi
   rw [D5N] at hc;conv=>whnf
   exact hc
  ·have hi':=D8 hd
   have hx:=hom hi'
   conv=>whnf
   refine E7 ?_
   refine ⟨rfl,⟨by show 0≤gI o i;omega,by show gI o i<(mine.length:Int);omega⟩,?_⟩;conv=>whnf
   refine E0.app (q:=r3) (y:=gI mine (gI o i).toNat) rfl rfl rfl rfl rfl rfl (by show (_+1) * 8≤140737488355328;rw [D5H,D5M];omega) hc (fun sv' s' hc'=>?_);conv=>whnf
   refine F7 ?_
   refine nx hi' ⟨sv',by rw [B4 (by omega)],?_⟩
   rw [A1N hi'];exact hc'
theorem B9K (us:List B2) (items:List Ab.Item) (sc:V9) (h1:Sm sc.skus.length) (h2:Sm sc.cats.length) (hu:us.length≤100000) (hl:∀ u∈us,0≤u.line∧u.line.toNat<items.length) (st:St) :
  S P 215 [C6 us,A8 4 E5 items,A3U sc] st fun v st'=>v=B0 (J8 sc items us us.length)∧st'=st:=by
 refine A0L (ty:=3) ?_
 refine F2 [5] Tryz.func215 ?_
 refine lp us.length [0,1,5,7,8] (fun i vs s=>∃ sv,vs=[C6 us,A8 4 E5 items,.fptr (A3U sc) 0,sv,eI i]∧E0 3 1 eI (J8 sc items us i) st sv s) ?_ ?_
 ·conv=>whnf
  exact ⟨.emp,rfl,E0.start _ _ _ _⟩
 ·rintro i vs st' hi ⟨sv,rfl,hc⟩
  conv=>whnf
  cases hd:decide ((i:Int)<(us.length:Int))
  ·obtain rfl:=C4 hd hi
   conv=>whnf
   exact hc
  ·have hi':=D8 hd
   have hlk:0≤(us.getD (i:Int).toNat default).line∧(us.getD (i:Int).toNat default).line.toNat<items.length:=hl _ (A6 hi')
   have es:=B1m sc items us i
   have hpl:=A3d sc items us i
   have eo:A1F sc items (gU us i)=((us.getD (i:Int).toNat default).opn&&B0b sc (items.getD (us.getD (i:Int).toNat default).line.toNat default)):=rfl
   rw [eo] at es
   have n1:=C8q sc (items.getD (us.getD (i:Int).toNat default).line.toNat default) h1 h2 st'
   generalize B0b sc (items.getD (us.getD (i:Int).toNat default).line.toNat default)=b1 at n1 es
   conv=>whnf
   refine ⟨[],[],List.range 17,by kernel_rfl,?_⟩;conv=>whnf
   refine E7 ?_
   cases ho:(us.getD (i:Int).toNat default).opn
   case' true =>
    rw [ho,D5T] at es;conv=>whnf
    refine E7 ?_
    refine E7 ?_
    refine ⟨_,H0 n1,?_⟩
    cases b1
    case true =>
     rw [if_pos rfl] at es;conv=>whnf
     refine E0.app (q:=r3) (y:=(i:Int)) rfl rfl rfl rfl rfl rfl (by show (_+1) * 8≤140737488355328;omega) hc (fun sv' s' hc'=>?_);conv=>whnf
     refine F7 ?_
     exact nx hi' ⟨sv',by rw [B4 (by omega)],by rw [es];exact hc'⟩
    rw [if_neg (by simp),D7y] at es
   case' false =>
    rw [ho,D6b,if_neg (by simp),D7y] at es
   all_goals (conv=>whnf)
   all_goals refine ⟨rfl,?_⟩
   all_goals (conv=>whnf)
   all_goals exact nx hi' ⟨sv,by rw [B4 (by omega)],by rw [es];exact hc⟩
theorem B1L (l:List A0U) (x:Int) (hl:l.length≤100000) (st:St):S P 285 [A8 3 S3 l,eI x] st fun v st'=>v=.tuple [S3 ((O5 l x).getD default),.bool (O5 l x).isSome]∧st'=st:=by
 refine A1S ?_
 refine F2 [] Tryz.func285 ?_
 intro b hb;conv=>whnf
 have w0:IntKind.i64.wrap ((l.length:Int) - 1)=(l.length:Int) - 1:=A5 (by omega) (by omega)
 refine ⟨[0,1,4,6],fun m vs st'=>∃ (i:Int) (f:Nat→AV) (u:A0U),-1≤i∧i<l.length∧(∀ k:Nat,i<k→k<l.length→decide ((l.getD k default).least≤x)=false)∧m=(i+1).toNat∧vs=[A8 3 S3 l,eI x,.optr 3 b 0 0,eI i]∧st'=upd st b ⟨300,3,1,f⟩∧f 0=S3 u,?_,?_⟩
 ·conv=>whnf
  exact ⟨_,(l.length:Int) - 1,_,default,by omega,by omega,fun k h1 h2=>by omega,rfl,by rw [w0],rfl,rfl⟩
 ·rintro m vs st' ⟨i,f,u,h0,hi,hno,rfl,rfl,rfl,hf⟩
  conv=>whnf
  cases h:decide (i≥0)
  ·have:=D5G h
   have hr:O5 l x=none:=A8z fun k hk=>hno k (by omega) hk
   conv=>whnf
   refine Y9 (A0 ..) hf ?_
   refine J0 (A0 ..) (A4 ..) ?_
   refine ⟨by rw [hr];rfl,((E8.refl st).upd hb).over hb⟩
  ·have hi0:=D5F h
   conv=>whnf
   refine E7 ?_
   refine B8 (fun h1=>?_) (fun h1=>?_)
   ·have hr:O5 l x=some (l.getD i.toNat default):=A8A (by omega) (fun k h2 h3=>hno k (by omega) h3) h1
    rw [h1];conv=>whnf
    refine E7 ?_
    refine Y9 (A0 ..) hf ?_
    refine J0 (A0 ..) (A4 ..) ?_
    refine ⟨by rw [hr];rfl,((E8.refl st).upd hb).over hb⟩
   ·have w:IntKind.i64.wrap (i - 1)=i - 1:=A5 (by omega) (by omega)
    rw [h1];conv=>whnf
    refine F7 ?_
    refine ⟨i.toNat,by omega,i - 1,f,u,by omega,by omega,fun k h2 h3=>?_,by omega,by rw [w],rfl,hf⟩
    rcases (by omega:k=i.toNat∨i<k) with e | e
    ·rw [e];exact h1
    ·exact hno k e h3
def A2L (us:List B2) (mine offs:List Int) (closes:Bool):List B2×Int :=
 if A2 offs=0 then (us,0) else (if closes=true then closeB (D1 us mine offs offs.length) mine else D1 us mine offs offs.length,A2 offs)
theorem A3b {us:List B2} {mine offs:List Int} (h:∀ k,k<offs.length→gI offs k=0):∀ k,k≤offs.length→D1 us mine offs k=us
 | 0,_=>rfl
 | k+1,hk=>by
  unfold D1
  rw [A3b h k (by omega),h k (by omega)]
  unfold less1
  refine D8l (by simp) fun j h1 h2=>?_
  rw [List.getElem_set]
  split
  ·rename_i e;subst e
   have e:gU us (gI mine k).toNat=us[(gI mine k).toNat]:=by unfold gU;rw [D5C,D5K h2];rfl
   rw [e,Int.sub_zero]
  ·rfl
theorem A3Q {l:List Int} (h0:∀ x∈l,0≤x) (hs:A2 l=0):∀ k,k<l.length→gI l k=0:=fun k hk=>by
 have h1:=h0 _ (A6 hk)
 have h2:=J3 h0 (A6 hk)
 show l.getD k default=0
 omega
theorem B4N (us:List B2) (mine offs:List Int) (closes:Bool) (hu:E1 us) (hm:Z8 us mine) (hml:mine.length≤1000000) (hol:offs.length≤mine.length) (ho:∀ k,k<offs.length→0≤gI offs k∧gI offs k≤(gU us (gI mine k).toNat).net) (hs:A2 offs≤1000000000000000) (st:St) :
  S P 255 [C6 us,B0 mine,B0 offs,eB closes] st fun v st'=>v=.tuple [C6 (A2L us mine offs closes).1,eI (A2L us mine offs closes).2]∧st'=st:=by
 have hul:=hu.len
 have ho0:∀ x∈offs,0≤x:=fun x hx=>by obtain ⟨k,hk,rfl⟩:=D3 hx;exact (ho k hk).1
 refine S.post (post:=fun v st'=>∃ sv,v=.tuple [sv,eI (A2L us mine offs closes).2]∧A5x st (A2L us mine offs closes).1 sv st') ?_
  (fun v st' ⟨sv,hv,h⟩=>⟨_,st,⟨rfl,rfl⟩,by rw [hv];exact A7.tuple (A7.cons h.shift (A7.keep _ _)) rfl⟩)
 refine SyW [] Tryz.func255 ?_
 have nsum:=fun s=>A9w offs (by omega) ho0 (by omega) s
 have hS:A2L us mine offs closes=if A2 offs=0 then (us,0) else (if closes=true then closeB (D1 us mine offs offs.length) mine else D1 us mine offs offs.length,A2 offs):=rfl
 conv=>whnf
 refine apE (q:=C1m) rfl rfl rfl rfl (A2K _ _ _ _) (by show us.length * 24≤_;omega) (fun h0=>?_) (fun h0 b hb=>?_)
 ·have hus:us=[]:=D6n h0
  have hmi:mine.length=0:=by
   rcases D7b mine.length with e | e
   ·exact e
   ·have:=(hm.rng 0 e).2;omega
  have hof:offs=[]:=D6n (by omega)
  have hz:A2 offs=0:=by rw [hof];rfl
  rw [if_pos hz] at hS;conv=>whnf
  refine B3 (nsum _) ?_
  rw [hz];conv=>whnf
  exact ⟨_,by rw [hS];rfl,by rw [hS];exact ⟨E8.refl _,.inl ⟨hus,rfl⟩⟩⟩
 ·conv=>whnf
  refine I5 (nsum _) ?_
  cases hz:(A2 offs==0)
  case true =>
   rw [if_pos (eq_of_beq hz)] at hS;conv=>whnf
   exact ⟨_,by rw [hS];rfl,by rw [hS];exact ⟨(E8.refl _).upd hb,.inr ⟨b,hb,rfl,_,A0 ..,fun k hk=>rfl⟩⟩⟩
  rw [if_neg (ne_of_beq_false hz)] at hS;conv=>whnf
  refine lp offs.length [1,2,3,10,11] (fun i vs s=>vs=[B0 mine,B0 offs,eB closes,.own 3 b 0 us.length,eI i]∧∃ f,s=upd st b ⟨223,3,us.length,f⟩∧∀ j,j<us.length→f j=Z3 (gU (D1 us mine offs i) j)) ?_ ?_
  ·conv=>whnf
   exact ⟨rfl,_,rfl,fun j hj=>rfl⟩
  ·rintro i vs s hi ⟨rfl,f,rfl,hf⟩
   conv=>whnf
   cases hd:decide ((i:Int)<(offs.length:Int))
   ·obtain rfl:=C4 hd hi
    have hlt:=Q0 us mine offs offs.length
    conv=>whnf
    refine lp mine.length [1,2,3,10,12] (fun i vs s=>(closes=false→i=0)∧vs=[B0 mine,B0 offs,eB closes,.own 3 b 0 us.length,eI i]∧∃ f,s=upd st b ⟨223,3,us.length,f⟩∧∀ j,j<us.length→f j=Z3 (gU (closeB (D1 us mine offs offs.length) (mine.take i)) j)) ?_ ?_
    ·conv=>whnf
     exact ⟨fun _=>rfl,rfl,_,rfl,hf⟩
    ·clear hf
     rintro i vs s hi ⟨hci,rfl,f,rfl,hf⟩
     conv=>whnf
     have hend:(i=mine.length∨closes=false)→∀ j,j<us.length→f j=Z3 (gU (A2L us mine offs closes).1 j):=fun hE=>by
      intro j hj
      have h7:=hf j hj
      have e1:(A2L us mine offs closes).1=if closes=true then closeB (D1 us mine offs offs.length) mine else D1 us mine offs offs.length:=by rw [hS]
      rw [e1]
      cases hc:closes
      ·rw [hci hc,D7p] at h7;rw [if_neg (by simp)];exact h7
      ·rcases hE with hE | hE
       ·rw [hE,D5N] at h7;rw [if_pos rfl];exact h7
       ·rw [hE] at hc;cases hc
     have hlen:(A2L us mine offs closes).1.length=us.length:=by
      rw [hS];show (if closes=true then _ else _:List B2).length=_
      split
      ·rw [A1X,hlt]
      ·exact hlt
     cases hd:decide ((i:Int)<(mine.length:Int))
     case' false =>
      have hE:=hend (.inl (C4 hd hi))
      conv=>whnf
     case' true =>
      have hi':=D8 hd
      conv=>whnf
      cases hc:closes
      case' false =>
       have hE:=hend (.inr hc)
       rw [hc] at hS hlen hE;conv=>whnf
      case' true =>
       have hr:=hm.rng i hi'
       conv=>whnf
       refine E7 ?_
       refine ⟨rfl,⟨by show 0≤gI mine i;omega,by show gI mine i<(us.length:Int);omega⟩,?_⟩;conv=>whnf
       refine stV (A0 ..) rfl (by show 0+(gI mine i).toNat<_;omega) (v:=Z3 (gU (closeB (D1 us mine offs offs.length) (mine.take i)) (gI mine i).toNat)) (by rw [D5R];exact hf _ hr.2) (by rfl) ?_
       rw [C0];conv=>whnf
       refine F7 ?_
       have e:closeB (D1 us mine offs offs.length) (mine.take (i+1))=close1 (closeB (D1 us mine offs offs.length) (mine.take i)) (gI mine i).toNat:=I0 hi' _ _
       refine ⟨mine.length - (i+1),by omega,i+1,by omega,rfl,fun e=>Bool.noConfusion e,by rw [B4 (by omega)],_,rfl,fun j hj=>?_⟩
       rw [e,D5R,show (mine.getD (i:Int).toNat default).toNat=(gI mine i).toNat from rfl]
       unfold close1
       rw [A5R (by rw [A1X,hlt];exact hr.2)]
       by_cases hj2:j=(gI mine i).toNat
       ·rw [if_pos hj2,hj2,A4];rfl
       ·rw [if_neg hj2,H1 hj2];exact hf j hj
     all_goals
      refine I5 (nsum _) ?_
      refine ⟨.own 3 b 0 us.length,by rw [hS];rfl,(E8.refl st).upd hb,.inr ⟨b,hb,by rw [hlen],f,by rw [hlen];exact A0 ..,fun k hk=>?_⟩⟩
      rw [hlen] at hk
      exact hE k hk
   ·have hi':=D8 hd
    have hr:=hm.rng i (by omega)
    have hat:=A3O (offs:=offs) hm (show i<mine.length by omega)
    have hx:=ho i hi'
    have hnet1:(gU us (gI mine i).toNat).net≤10000000000000:=hu.le (A6 hr.2)
    have hfm:f (0+(gI mine i).toNat)=Z3 (gU (D1 us mine offs i) (gI mine i).toNat):=by rw [D5R];exact hf _ hr.2
    conv=>whnf
    refine ⟨[20],[],List.range 21,by kernel_rfl,?_⟩;conv=>whnf
    refine E7 ?_
    refine E7 ?_
    refine ⟨rfl,⟨by show 0≤gI mine i;omega,by show gI mine i<(us.length:Int);omega⟩,?_⟩;conv=>whnf
    refine ldV (A0 ..) rfl (by show 0+(gI mine i).toNat<_;omega) hfm ?_;conv=>whnf
    refine E7 ?_
    refine ⟨rfl,⟨by show 0≤gI mine i;omega,by show gI mine i<(us.length:Int);omega⟩,?_⟩;conv=>whnf
    refine stV (A0 ..) rfl (by show 0+(gI mine i).toNat<_;omega) hfm (by rfl) ?_
    rw [C0];conv=>whnf
    refine F7 ?_
    have w:IntKind.i64.wrap ((gU (D1 us mine offs i) (gI mine i).toNat).net - gI offs i)=(gU (D1 us mine offs i) (gI mine i).toNat).net - gI offs i:=by
     rw [hat];exact A5 (by omega) (by omega)
    refine nx hi' ⟨by rw [B4 (by omega)],_,rfl,fun j hj=>?_⟩
    show _=Z3 (gU (less1 (D1 us mine offs i) (gI mine i).toNat (gI offs i)) j)
    unfold less1
    rw [A5R (by rw [Q0];exact hr.2)]
    by_cases hj2:j=(gI mine i).toNat
    ·rw [if_pos hj2,hj2,←w]
     show I3 f (0+(gI mine i).toNat) _ _=_
     rw [D5R,A4];rfl
    ·rw [if_neg hj2]
     show I3 f (0+(gI mine i).toNat) _ _=_
     rw [D5R,H1 hj2];exact hf j hj
def L8 (p:B1) (x:Int):A0U:=(O5 p.tiers x).getD default
def X3 (p:B1) (nets:List Int):List Int :=
 if p.kind=1 then nets.map fun x=>J7 x p.rate else if p.kind=2 then nets.map fun x=>Q3 x 0 p.amount
 else if p.kind=6 then nets.map fun x=>Q3 x (L8 p nets.length).rate (L8 p nets.length).amount
 else D2 (Q3 (A2 nets) (L8 p (A2 nets)).rate (L8 p (A2 nets)).amount) nets
theorem A9e {x:Int} (h0:0≤x) (h1:x≤100000000000000):J7 x 0=0:=by
 unfold J7
 rw [if_pos ⟨by omega,by omega⟩]
 unfold W4
 rw [if_neg (by rw [(Y8 x).2 ⟨h0,h1⟩];decide),Int.mul_zero]
 rfl
theorem B1l {x rate amount:Int}:(if J7 x rate+amount<x then J7 x rate+amount else x)=Q3 x rate amount:=by
 unfold Q3;split<;>split<;>omega
theorem C6x (p:B1) (nets:List Int) (hp:A5C p) (hl:nets.length≤100000) (h0:∀ x∈nets,0≤x) (hs:A2 nets≤10000000000000) (st:St) :
  S P 256 [B7 p,B0 nets] st fun v st'=>v=B0 (X3 p nets)∧st'=st:=by
 refine S.post (post:=fun v st'=>(∃ st1,E8 st st1∧E0 2 1 eI (X3 p nets) st1 v st')∨(v=B0 (X3 p nets)∧E8 st st')) ?_
  (fun v st' h=>⟨_,st,⟨rfl,rfl⟩,by
   rcases h with ⟨st1,h1,h2⟩ | ⟨rfl,h1⟩
   ·exact h2.shift.trans (h1.shift _)
   ·exact h1.shift _⟩)
 have hx1:∀ x∈nets,x≤10000000000000:=fun x hx=>D8z (J3 h0 hx) hs
 have hsn:=C1 h0
 refine F2 [2] Tryz.func256 ?_
 rcases hp.kind with hk | hk | hk | hk
 ·have hL:X3 p nets=nets.map fun x=>J7 x p.rate:=by unfold X3;rw [if_pos hk]
  rw [show (p.kind==1)=true from by rw [hk];rfl,hL];conv=>whnf
  refine lp nets.length [1,2,5,6] (fun i vs s=>∃ sv,vs=[B0 nets,.fptr (B7 p) 0,sv,eI i]∧E0 2 1 eI ((nets.take i).map fun x=>J7 x p.rate) st sv s) ?_ ?_
  ·conv=>whnf
   exact ⟨.emp,rfl,E0.start _ _ _ _⟩
  ·rintro i vs s hi ⟨sv,rfl,hc⟩
   conv=>whnf
   cases hd:decide ((i:Int)<(nets.length:Int))
   ·obtain rfl:=C4 hd hi
    rw [D5N] at hc;conv=>whnf
    exact .inl ⟨st,E8.refl _,hc⟩
   ·have hi':=D8 hd
    conv=>whnf
    refine ⟨[8,9],[],List.range 11,by kernel_rfl,?_⟩;conv=>whnf
    refine E7 ?_
    refine cqW (A8B (nets.getD (i:Int).toNat default) p.rate _) ?_
    refine E0.app (q:=r2) (y:=J7 (nets.getD (i:Int).toNat default) p.rate) rfl rfl rfl rfl rfl rfl (by show (_+1) * 8≤140737488355328;rw [D5H,D5M];omega) hc (fun sv' s' hc'=>?_);conv=>whnf
    refine F7 ?_
    exact nx hi' ⟨sv',by rw [B4 (by omega)],by rw [A1N hi'];exact hc'⟩
 ·have hL:X3 p nets=nets.map fun x=>Q3 x 0 p.amount:=by unfold X3;rw [if_neg (by omega),if_pos hk]
  have ha:=hp.amount hk
  rw [show (p.kind==1)=false from by rw [hk];rfl,hL];conv=>whnf
  rw [show (p.kind==2)=true from by rw [hk];rfl];conv=>whnf
  refine lp nets.length [1,2,5,7] (fun i vs s=>∃ sv,vs=[B0 nets,.fptr (B7 p) 0,sv,eI i]∧E0 2 1 eI ((nets.take i).map fun x=>Q3 x 0 p.amount) st sv s) ?_ ?_
  ·conv=>whnf
   exact ⟨.emp,rfl,E0.start _ _ _ _⟩
  ·rintro i vs s hi ⟨sv,rfl,hc⟩
   conv=>whnf
   cases hd:decide ((i:Int)<(nets.length:Int))
   ·obtain rfl:=C4 hd hi
    rw [D5N] at hc;conv=>whnf
    exact .inl ⟨st,E8.refl _,hc⟩
   ·have hi':=D8 hd
    have hz:J7 (nets.getD (i:Int).toNat default) 0=0:=A9e (h0 _ (A6 hi')) (D8z (hx1 _ (A6 hi')) (by decide))
    have hm:=B1l (x:=nets.getD (i:Int).toNat default) (rate:=0) (amount:=p.amount)
    rw [hz,Int.zero_add] at hm;conv=>whnf
    refine ⟨[8,9],[],List.range 11,by kernel_rfl,?_⟩;conv=>whnf
    refine E7 ?_
    refine E0.app (q:=r2) (y:=Q3 (nets.getD (i:Int).toNat default) 0 p.amount) rfl rfl rfl rfl rfl (by rw [←hm];rfl) (by show (_+1) * 8≤140737488355328;rw [D5H,D5M];omega) hc (fun sv' s' hc'=>?_);conv=>whnf
    refine F7 ?_
    exact nx hi' ⟨sv',by rw [B4 (by omega)],by rw [A1N hi'];exact hc'⟩
 ·have hL:X3 p nets=D2 (Q3 (A2 nets) (L8 p (A2 nets)).rate (L8 p (A2 nets)).amount) nets:=by unfold X3;rw [if_neg (by omega),if_neg (by omega),if_neg (by omega)]
  have ht:=hp.tiers (.inl hk)
  have hok:0≤(L8 p (A2 nets)).amount∧(L8 p (A2 nets)).amount≤10000000000000:=A0p ht (A2 nets)
  have hob:0≤Q3 (A2 nets) (L8 p (A2 nets)).rate (L8 p (A2 nets)).amount∧Q3 (A2 nets) (L8 p (A2 nets)).rate (L8 p (A2 nets)).amount≤A2 nets:=A0n hsn hok.1
  have hW:R6 (Q3 (A2 nets) (L8 p (A2 nets)).rate (L8 p (A2 nets)).amount) nets:=⟨hob.1,by omega,hl,h0,by omega,fun e=>by omega⟩
  have hb:=U0 (A2 nets) (L8 p (A2 nets)).rate
  have w:IntKind.i64.wrap (J7 (A2 nets) (L8 p (A2 nets)).rate+(L8 p (A2 nets)).amount)=J7 (A2 nets) (L8 p (A2 nets)).rate+(L8 p (A2 nets)).amount:=A5 (by omega) (by omega)
  rw [show (p.kind==1)=false from by rw [hk];rfl,hL];conv=>whnf
  rw [show (p.kind==2)=false from by rw [hk];rfl];conv=>whnf
  rw [show (p.kind==6)=false from by rw [hk];rfl];conv=>whnf
  rw [show (p.kind==5)=true from by rw [hk];rfl];conv=>whnf
  refine I5 (A9w nets (by omega) h0 (by omega) _) ?_
  refine I5 (B1L p.tiers (A2 nets) (by have:=ht.1;omega) _) ?_
  intro b hbn;conv=>whnf
  refine Y9 (A0 ..) rfl ?_
  refine ⟨[],[],List.range 15,by kernel_rfl,?_⟩;conv=>whnf
  refine ldV (A0 ..) rfl (by omega) (v:=S3 (L8 p (A2 nets))) (by rw [A4];rfl) ?_;conv=>whnf
  refine cqW (A8B (A2 nets) (L8 p (A2 nets)).rate _) ?_
  refine ldV (A0 ..) rfl (by omega) (v:=S3 (L8 p (A2 nets))) (by rw [A4];rfl) ?_;conv=>whnf
  rw [w,B1l]
  refine cqW (A7G _ nets hW _) ?_
  exact .inr ⟨rfl,((E8.refl st).upd hbn).over hbn⟩
 ·have hL:X3 p nets=nets.map fun x=>Q3 x (L8 p nets.length).rate (L8 p nets.length).amount:=by unfold X3;rw [if_neg (by omega),if_neg (by omega),if_pos hk]
  have ht:=hp.tiers (.inr hk)
  have hok:0≤(L8 p nets.length).amount∧(L8 p nets.length).amount≤10000000000000:=A0p ht nets.length
  rw [show (p.kind==1)=false from by rw [hk];rfl,hL];conv=>whnf
  rw [show (p.kind==2)=false from by rw [hk];rfl];conv=>whnf
  rw [show (p.kind==6)=true from by rw [hk];rfl];conv=>whnf
  refine I5 (B1L p.tiers nets.length (by have:=ht.1;omega) _) ?_
  intro b hbn;conv=>whnf
  refine stU (A0 ..) rfl ?_
  rw [C0];conv=>whnf
  generalize hst1:upd st b _=st1
  obtain ⟨f1,hs1,hf1⟩:∃ f,st1 b=some ⟨300,3,1,f⟩∧f 0=S3 (L8 p nets.length):=⟨_,by rw [←hst1];exact A0 ..,by rw [A4];rfl⟩
  have hsup:E8 st st1:=by rw [←hst1];exact (E8.refl st).upd hbn
  clear hst1
  refine lp nets.length [1,5,8,10] (fun i vs s=>∃ sv,vs=[B0 nets,sv,.optr 3 b 0 0,eI i]∧E0 2 1 eI ((nets.take i).map fun x=>Q3 x (L8 p nets.length).rate (L8 p nets.length).amount) st1 sv s) ?_ ?_
  ·conv=>whnf
   exact ⟨.emp,rfl,E0.start _ _ _ _⟩
  ·rintro i vs s hi ⟨sv,rfl,hc⟩
   have hb2:=hc.sup b _ hs1
   conv=>whnf
   cases hd:decide ((i:Int)<(nets.length:Int))
   ·obtain rfl:=C4 hd hi
    rw [D5N] at hc;conv=>whnf
    exact .inl ⟨st1,hsup,hc⟩
   ·have hi':=D8 hd
    have hb:=U0 (nets.getD (i:Int).toNat default) (L8 p nets.length).rate
    have w:IntKind.i64.wrap (J7 (nets.getD (i:Int).toNat default) (L8 p nets.length).rate+(L8 p nets.length).amount)=J7 (nets.getD (i:Int).toNat default) (L8 p nets.length).rate+(L8 p nets.length).amount:=A5 (by omega) (by omega)
    have hm:=B1l (x:=nets.getD (i:Int).toNat default) (rate:=(L8 p nets.length).rate) (amount:=(L8 p nets.length).amount)
    rw [←w] at hm;conv=>whnf
    refine ⟨[16,17],[],List.range 19,by kernel_rfl,?_⟩;conv=>whnf
    refine E7 ?_
    refine E7 ?_
    refine J0 hb2 hf1 ?_
    refine cqW (A8B (nets.getD (i:Int).toNat default) (L8 p nets.length).rate _) ?_
    refine J0 hb2 hf1 ?_
    refine E0.app (q:=r2) (y:=Q3 (nets.getD (i:Int).toNat default) (L8 p nets.length).rate (L8 p nets.length).amount) rfl rfl rfl rfl rfl (by rw [←hm];rfl) (by show (_+1) * 8≤140737488355328;rw [D5H,D5M];omega) hc (fun sv' s' hc'=>?_);conv=>whnf
    refine F7 ?_
    exact nx hi' ⟨sv',by rw [B4 (by omega)],by rw [A1N hi'];exact hc'⟩
theorem C4D {α : Type} (l:List α):A2 (l.map fun _=>(0:Int))=0:=by
 induction l with
 | nil=>rfl
 | cons x l ih=>rw [D6I,show (0:Int)::l.map (fun _=>(0:Int))=[0]++l.map (fun _=>(0:Int)) from rfl,F4,ih];rfl
theorem C3B {p:B1} (hp:A5C p) {nets:List Int} (h0:∀ x∈nets,0≤x) (hs:A2 nets≤10000000000000) (hl:nets.length≤100000) :
  X3 p nets=O9 p nets∨(O9 p nets=[]∧A2 (X3 p nets)=0∧(X3 p nets).length=nets.length∧∀ k,k<(X3 p nets).length→gI (X3 p nets) k=0):=by
 have hx1:∀ x∈nets,x≤10000000000000:=fun x hx=>D8z (J3 h0 hx) hs
 have ok:=A3L hp.right
 rcases hp.kind with hk | hk | hk | hk
 ·refine .inl ?_
  unfold X3 O9 B5W
  rw [if_pos hk,if_pos hk]
  refine D6V fun x hx=>?_
  have hr:1≤p.rate∧p.rate≤10000:=by
   have:=hp.right
   unfold G9 A7h A8s at this
   rw [if_pos hk] at this
   simp only [D5I,E3] at this
   exact this.2
  have:=A5g (h0 x hx) (show 0≤p.rate by omega) hr.2
  unfold Q3
  rw [D7Q];split<;>omega
 ·refine .inl ?_
  unfold X3 O9 B5V
  rw [if_neg (by omega),if_pos hk,if_neg (by omega),if_pos hk]
 ·unfold X3 O9 A5t
  rw [if_neg (by omega),if_neg (by omega),if_neg (by omega),if_neg (by omega),if_neg (by omega),if_pos hk]
  cases hr:O5 p.tiers (A2 nets) with
  | some t=>refine .inl ?_;unfold L8;rw [hr];rfl
  | none =>
   have hsn:=C1 h0
   have e:Q3 (A2 nets) (L8 p (A2 nets)).rate (L8 p (A2 nets)).amount=0:=by
    unfold L8;rw [hr]
    show Q3 (A2 nets) 0 0=0
    unfold Q3
    rw [A9e hsn (by omega),D7Q];split<;>omega
   rw [e]
   have hW:R6 0 nets:=⟨by omega,by omega,hl,h0,by omega,fun _=>rfl⟩
   obtain ⟨a,b,c⟩:=T7 hW
   exact .inr ⟨rfl,a,b,A3Q c a⟩
 ·unfold X3 O9 A5s
  rw [if_neg (by omega),if_neg (by omega),if_pos hk,if_neg (by omega),if_neg (by omega),if_neg (by omega)]
  cases hr:O5 p.tiers nets.length with
  | some t=>refine .inl ?_;unfold L8;rw [hr];rfl
  | none =>
   have e:(nets.map fun x=>Q3 x (L8 p nets.length).rate (L8 p nets.length).amount)=nets.map fun _=>(0:Int):=by
    refine D6V fun x hx=>?_
    unfold L8;rw [hr]
    show Q3 x 0 0=0
    unfold Q3
    rw [A9e (h0 x hx) (D8z (hx1 x hx) (by decide)),D7Q]
    have:=h0 x hx
    split<;>omega
   rw [e]
   exact .inr ⟨rfl,C4D nets,by simp,fun k hk=>by rw [D5H] at hk;exact D4 (fun _:Int=>(0:Int)) nets hk⟩
theorem A5b (us:List B2) (mine:List Int):(E2 us mine).length=mine.length:=D5H ..
theorem B1q {us:List B2} (hu:E1 us) {mine:List Int} (hm:N9 us mine):(∀ x∈E2 us mine,0≤x)∧A2 (E2 us mine)≤10000000000000:=by
 have hwl:=B2m hu hm.places
 have hus:=hu.sum
 exact ⟨fun x hx=>by obtain ⟨i,hi,rfl⟩:=D5X.1 hx;exact hu.at0 _,by rw [A8p];omega⟩
theorem B5P {p:B1} {us:List B2} {mine:List Int} (h0:∀ x∈O9 p (E2 us mine),0≤x):A2L us mine (O9 p (E2 us mine)) p.closes=Z9 p us mine:=by
 have hn:=C1 h0
 unfold A2L Z9
 by_cases hz:A2 (O9 p (E2 us mine))=0
 ·rw [if_pos hz]
  simp only
  rw [hz,A3b (A3Q h0 hz) _ (D5L _)];rfl
 ·rw [if_neg hz]
  simp only
  rw [D6m (show A2 (O9 p (E2 us mine))>0 by omega),D5T]
theorem C3U (p:B1) (us:List B2) (mine:List Int) (hp:A5C p) (hps:A2T p) (hu:E1 us) (hm:N9 us mine) (st:St) :
  S P 218 [B7 p,C6 us,B0 mine] st fun v st'=>v=.tuple [C6 (Z9 p us mine).1,eI (Z9 p us mine).2]∧st'=st:=by
 have hml:=hm.len
 have hul:=hu.len
 obtain ⟨hn0,hns⟩:=B1q hu hm
 have hnl:=A5b us mine
 have hob:=A5c hp hn0 hns (by omega)
 obtain ⟨ob1,ob2,ob3⟩:=hob
 have hle:=B9F hp hn0 hns (by omega)
 have hcz:=C3B hp hn0 hns (by omega)
 have hlen:(X3 p (E2 us mine)).length≤mine.length:=by
  rcases hcz with e | ⟨_,_,e,_⟩
  ·rw [e];omega
  ·omega
 have hc:∀ k,k<(X3 p (E2 us mine)).length→0≤gI (X3 p (E2 us mine)) k∧gI (X3 p (E2 us mine)) k≤(gU us (gI mine k).toNat).net:=fun k hk=>by
  rcases hcz with e | ⟨_,_,_,e⟩
  ·rw [e] at hk ⊢
   have h1:=hle k hk
   rw [show gI (E2 us mine) k=(gU us (gI mine k).toNat).net from D4 (fun i:Int=>(gU us i.toNat).net) mine (by omega)] at h1
   exact ⟨ob3 _ (A6 hk),h1⟩
  ·rw [e k hk];exact ⟨D6i _,hu.at0 _⟩
 have hsum:A2 (X3 p (E2 us mine))≤1000000000000000:=by
  rcases hcz with e | ⟨_,e,_⟩<;>rw [e]<;>omega
 have hE:A2L us mine (X3 p (E2 us mine)) p.closes=Z9 p us mine:=by
  rcases hcz with e | ⟨e1,e2,_⟩
  ·rw [e];exact B5P ob3
  ·unfold A2L Z9
   rw [if_pos e2,e1];rfl
 rw [←hE]
 refine F2 [3] Tryz.func218 ?_
 refine I5 (A7E p hps hp.right st) ?_
 refine I5 (B8p us mine hu hm st) ?_
 refine ⟨[],[],List.range 14,by kernel_rfl,?_⟩;conv=>whnf
 refine cqW (A6R us mine (by omega) hm.rng st) ?_
 refine cqW (C6x p (E2 us mine) hp (by omega) hn0 hns st) ?_
 refine cqW (B4N us mine (X3 p (E2 us mine)) p.closes hu hm.places (by omega) hlen hc hsum st) ?_
 exact ⟨rfl,rfl⟩
end Go.Proofs.YtaapofnkmpiknaaGreat
