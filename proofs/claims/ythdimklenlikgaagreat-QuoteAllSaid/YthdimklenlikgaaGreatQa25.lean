/- Part 25 of the proof: contracts of the functions that the law reaches -/
import Derived.Test.YthdimklenlikgaaGreatQa24
set_option maxRecDepth 100000
set_option linter.unusedVariables false
set_option linter.unusedSimpArgs false
namespace Go.Proofs.YthdimklenlikgaaGreat
open Go Go.Ab
attribute [local irreducible] upd del
theorem C0K (st0:St) (q:Nat) (f:Bool) (st:St) (h:QSt st0 q f [] st):S P 283 [.optr 1 q 0 0] st fun v st'=>v=.tuple [eI 0,eI 0,.bool false]∧st'=st:=by
 obtain ⟨h1,h2,sv,⟨fq,hqs,hq0⟩,h3⟩:=h
 refine A8 [] B8 mixed Tryz.func283 (by rfl) rfl rfl rfl ?_;conv=>whnf
 rcases h3 with ⟨_,rfl⟩ | ⟨b,l,n,a1,a2,rfl,a4,a5,a6,a7,a8,a9⟩
 ·refine D9 hqs rfl (by omega) hq0 ?_;conv=>whnf
  exact ⟨rfl,rfl⟩
 ·have e:n=0:=by
   have:=a8.length_eq
   rw [List.length_take,List.length_nil] at this;omega
  subst e
  refine D9 hqs rfl (by omega) hq0 ?_;conv=>whnf
  exact ⟨rfl,rfl⟩
theorem B2H (st0:St) (q:Nat) (f:Bool) (x:QE) (es:List QE) (st:St) (h:QSt st0 q f (x::es) st) (htop:∀ y∈es,G7 y x=false):S P 283 [.optr 1 q 0 0] st fun v st'=>v=.tuple [eI x.1,eI x.2,.bool true]∧st'=st:=by
 obtain ⟨h1,h2,sv,hq,h3⟩:=h
 rcases h3 with ⟨h,_⟩ | ⟨b,l,n,a1,a2,rfl,a4,a5,a6,a7,a8,a9⟩
 ·cases h
 have hn:n=es.length+1:=by
  have:=a8.length_eq
  rw [List.length_take,List.length_cons] at this;omega
 subst hn
 have hx:at_ l 0=x:=by
  have m0:at_ l 0∈x::es:=by
   refine a8.subset ?_
   have:(l.take (es.length+1)).getD 0 default=at_ l 0:=by
    unfold at_;rw [List.getD_eq_getElem?_getD,List.getD_eq_getElem?_getD,List.getElem?_take_of_lt (by omega)]
   rw [←this];exact B3 (by rw [List.length_take];omega)
  have hmem:x∈l.take (es.length+1):=a8.symm.subset (List.mem_cons_self ..)
  obtain ⟨k,hk,he⟩:=E8 hmem
  rw [List.length_take] at hk
  have hxk:x=at_ l k:=by
   rw [he];unfold at_;rw [List.getD_eq_getElem?_getD,List.getD_eq_getElem?_getD,List.getElem?_take_of_lt (by omega)]
  have t1:G7 x (at_ l 0)=false:=by rw [hxk];exact a6.top k (by omega)
  rcases List.mem_cons.1 m0 with e | e
  ·exact e
  ·exact A3p (htop _ e) t1
 obtain ⟨fq,hqs,hq0⟩:=hq
 obtain ⟨fe,hes,hef⟩:=a7
 have h0:fe 0=A4E x:=by rw [hef 0 (by omega),hx]
 refine A8 [] B8 mixed Tryz.func283 (by rfl) rfl rfl rfl ?_;conv=>whnf
 refine D9 hqs rfl (by omega) hq0 ?_;conv=>whnf
 rw [show (((es.length+1:Nat):Int)==0)=false by rw [beq_eq_false_iff_ne];omega];conv=>whnf
 refine ⟨[],[],List.range 17,by kernel_rfl,?_⟩;conv=>whnf
 refine D9 hqs rfl (by omega) hq0 ?_;conv=>whnf
 refine ⟨rfl,⟨by omega,by omega⟩,?_⟩;conv=>whnf
 refine D9 hes rfl (by omega) (v:=A4E x) h0 ?_;conv=>whnf
 refine D9 hqs rfl (by omega) hq0 ?_;conv=>whnf
 refine ⟨rfl,⟨by omega,by omega⟩,?_⟩;conv=>whnf
 refine D9 hes rfl (by omega) (v:=A4E x) h0 ?_;conv=>whnf
 exact ⟨rfl,rfl⟩
def IsL (L:List Int) (y:R3):Prop:=∃ f,y=⟨2,1,L.length,f⟩∧∀ i,i<L.length→f i=eI (gI L i)
def OQ (bo q:Nat) (L:List Int) (fl:Bool) (es:List QE):St→St→Prop:=U4 bo (IsL L) (fun s t=>QSt s q fl es t)
theorem A9o (bo q:Nat) (L:List Int) (fl:Bool) (es:List QE):J5 (OQ bo q L fl es):=Y3 (B6C q fl es)
abbrev gN (G:List Nat) (i:Nat):Int:=((G.getD i 0:Nat):Int)
def QJ (G:List Nat) (k:Int) (Rest:List QE) (j:Nat):List QE:=((G.drop j).map fun i:Nat=>(k,(i:Int)))++Rest
theorem C2b {G:List Nat} {k:Int} {Rest:List QE} {j:Nat} (hj:j<G.length):QJ G k Rest j=(k,gN G j)::QJ G k Rest (j+1):=by
 unfold QJ gN
 rw [List.drop_eq_getElem_cons hj,List.getD_eq_getElem?_getD,List.getElem?_eq_getElem hj];rfl
theorem B9m {G:List Nat} {k:Int} {Rest:List QE}:QJ G k Rest G.length=Rest:=by
 unfold QJ;rw [List.drop_length];rfl
def C0E (es:List QE):AV:=match es with
 | []=>.tuple [eI 0,eI 0,.bool false]
 | y::_=>.tuple [eI y.1,eI y.2,.bool true]
theorem C0L (st0:St) (q:Nat) (f:Bool) (es:List QE) (st:St) (h:QSt st0 q f es st) (hs:es.Pairwise fun a b=>G7 b a=false):S P 283 [.optr 1 q 0 0] st fun v st'=>v=C0E es∧st'=st:=by
 cases es with
 | nil=>exact C0K st0 q f st h
 | cons y es=>exact B2H st0 q f y es st h (List.pairwise_cons.1 hs).1
def B1m (t:Z9) (rates nets:List Int) (D:Int→Bool) (L:List Int):Prop:=L.length=nets.length∧∀ i,i<nets.length→gI L i=if D (-(gI rates i))=true then A0Q t rates nets i else 0
theorem C0b {a b:List Int} (hl:a.length=b.length) (h:∀ i,i<a.length→gI a i=gI b i):a=b:=List.ext_getElem hl fun i h1 h2=>by
 have:=h i h1
 unfold gI at this
 rw [List.getD_eq_getElem?_getD,List.getElem?_eq_getElem h1,List.getD_eq_getElem?_getD,List.getElem?_eq_getElem h2] at this
 exact this
theorem B9U {t:Z9} {rates nets:List Int} {D:Int→Bool} {L:List Int} (h:B1m t rates nets D L) (hr:rates.length=nets.length) (hE:A0M rates D=[]):L=F5 t rates nets:=by
 have hl:(F5 t rates nets).length=nets.length:=by unfold F5;rw [List.length_map,List.length_range]
 refine C0b (by rw [h.1,hl]) fun i h1=>?_
 have hi:i<nets.length:=by rw [←h.1];exact h1
 have h3:=h.2 i hi
 have hD:D (-(gI rates i))=true:=by
  have hm:B9W rates i∈A8v rates:=(A4c rates).mem_iff.2 (List.mem_map.2 ⟨i,List.mem_range.2 (by omega),rfl⟩)
  have:=List.filter_eq_nil_iff.1 hE _ hm
  simpa [B9W] using this
 rw [if_pos hD] at h3
 rw [h3]
 unfold F5 gI
 rw [List.getD_eq_getElem?_getD,List.getElem?_map,List.getElem?_range hi];rfl
def A3q (L:List Int) (G:List Nat) (X:List Int):Nat→List Int
 | 0=>L
 | j+1=>(A3q L G X j).set (G.getD j 0) (gI X j)
theorem A7h (L:List Int) (G:List Nat) (X:List Int) (j:Nat):(A3q L G X j).length=L.length:=by
 induction j with
 | zero=>rfl
 | succ j ih=>show ((A3q L G X j).set _ _).length=_;rw [List.length_set,ih]
theorem B7a {L:List Int} {G:List Nat} {X:List Int} (hn:G.Nodup) (hG:∀ i∈G,i<L.length):∀ j,j≤G.length→∀ i,i<L.length→gI (A3q L G X j) i=if i∈G.take j then gI X (G.idxOf i) else gI L i
 | 0,_,i,hi=>by rw [List.take_zero,if_neg List.not_mem_nil];rfl
 | j+1,hj,i,hi=>by
  have ih:=B7a (X:=X) hn hG j (by omega) i hi
  have hgj:G.getD j 0=G[j]:=by rw [List.getD_eq_getElem?_getD,List.getElem?_eq_getElem (by omega)];rfl
  show gI ((A3q L G X j).set (G.getD j 0) (gI X j)) i=_
  rw [hgj,List.take_succ_eq_append_getElem (show j<G.length by omega)]
  by_cases e:G[j]=i
  ·have hidx:G.idxOf i=j:=by rw [←e];exact hn.idxOf_getElem j (by omega)
   rw [if_pos (List.mem_append_right _ (List.mem_singleton.2 e.symm)),hidx]
   unfold gI
   rw [e,List.getD_eq_getElem?_getD,List.getElem?_set_self (by rw [A7h];exact hi)];rfl
  ·have hs:gI ((A3q L G X j).set G[j] (gI X j)) i=gI (A3q L G X j) i:=by
    unfold gI;rw [List.getD_eq_getElem?_getD,List.getElem?_set_ne e,←List.getD_eq_getElem?_getD]
   rw [hs,ih]
   by_cases hm:i∈G.take j
   ·rw [if_pos hm,if_pos (List.mem_append_left _ hm)]
   ·rw [if_neg hm,if_neg]
    intro h
    rcases List.mem_append.1 h with h | h
    ·exact hm h
    ·exact e (List.mem_singleton.1 h).symm
theorem B1n {t:Z9} {rates nets:List Int} {D:Int→Bool} {L:List Int} {k:Int} (h:B1m t rates nets D L) (hr:rates.length=nets.length):B1m t rates nets (fun y=>D y||y==k) (A3q L (K0 rates k) (A1I t rates nets k) (K0 rates k).length):=by
 have hG:∀ i∈K0 rates k,i<L.length:=fun i hi=>by rw [h.1,←hr];exact (Y4 hi).2.1
 refine ⟨by rw [A7h];exact h.1,fun i hi=>?_⟩
 rw [B7a (B1p rates k) hG _ (Nat.le_refl _) i (by rw [h.1];exact hi),List.take_length]
 by_cases hm:i∈K0 rates k
 ·obtain ⟨h1,h2,h3⟩:=Y4 hm
  have hlt:=List.idxOf_lt_length_iff.2 hm
  rw [if_pos hm,C0C hlt,List.getElem_idxOf hlt,if_pos (by rw [h1];simp)]
 ·have hne:¬ -(gI rates i)=k:=fun e=>hm (List.mem_filter.2 ⟨List.mem_range.2 (by omega),by rw [e];exact beq_self_eq_true k⟩)
  rw [if_neg hm,h.2 i hi]
  have:(-(gI rates i)==k)=false:=beq_eq_false_iff_ne.2 hne
  simp only [this,Bool.or_false]
theorem IsL.set {L:List Int} {f:Nat→AV} {i:Nat} {v:Int} (h:∀ k,k<L.length→f k=eI (gI L k)):IsL (L.set i v) ⟨2,1,L.length,C9 f i (eI v)⟩:=by
 refine ⟨_,by rw [List.length_set],fun k hk=>?_⟩
 rw [List.length_set] at hk
 by_cases e:k=i
 ·subst e
  rw [A2];unfold gI
  rw [List.getD_eq_getElem?_getD,List.getElem?_set_self hk];rfl
 ·rw [H7 e,h k hk];unfold gI
  rw [List.getD_eq_getElem?_getD,List.getD_eq_getElem?_getD,List.getElem?_set_ne (fun e2=>e e2.symm)]
theorem B8a {rates:List Int} {D:Int→Bool} {x:QE} {E:List QE} (h:A0M rates D=x::E):∃ i,i<rates.length∧i∈K0 rates x.1∧gI rates i = -x.1:=by
 have hx:x∈A8v rates:=(List.mem_filter.1 (show x∈A0M rates D by rw [h];exact List.mem_cons_self ..)).1
 obtain ⟨i,hi,rfl⟩:=List.mem_map.1 ((A4c rates).mem_iff.1 hx)
 have hi:=List.mem_range.1 hi
 exact ⟨i,hi,List.mem_filter.2 ⟨List.mem_range.2 hi,beq_self_eq_true _⟩,by show gI rates i = - -(gI rates i);omega⟩
theorem C3S {rates:List Int} {k:Int} {j:Nat} (hj:j<(K0 rates k).length):(gN (K0 rates k) j).toNat<rates.length∧0≤gN (K0 rates k) j:=by
 have hm:(K0 rates k).getD j 0∈K0 rates k:=by rw [List.getD_eq_getElem?_getD,List.getElem?_eq_getElem hj];exact List.getElem_mem hj
 have:=(Y4 hm).2.1
 exact ⟨by show ((((K0 rates k).getD j 0:Nat):Int)).toNat<_;omega,by show 0≤(((K0 rates k).getD j 0:Nat):Int);omega⟩
theorem C0Z (l:List A1t) (hl:Sm l.length) (hs:∀ x∈l,A1p x.scope) (st:St):S P 308 [B2 3 S7 l] st fun v st'=>v=.bool (K8 l (fun _ x=>A0e x)&&(decide ((l.length:Int)≥1)&&decide ((l.length:Int)≤3)))∧st'=st:=by
 refine A8 [] B8 mixed Tryz.func308 (by rfl) rfl rfl rfl ?_;conv=>whnf
 refine lp l.length [0,3] (fun i vs st'=>(∀ k,k<i→A0e (l.getD k default)=true)∧vs=[B2 3 S7 l,eI i]∧st'=st) ?_ ?_
 ·conv=>whnf
  exact ⟨fun k hk=>absurd hk (by omega),rfl,rfl⟩
 ·rintro i vs st' hi ⟨hok,rfl,rfl⟩
  conv=>whnf
  cases h:decide ((i:Int)<(l.length:Int))
  ·obtain rfl:=C6 h hi
   rw [L1 hok,Bool.true_and];conv=>whnf
   refine C3 (fun h=>?_) (fun h=>?_)<;>rw [h]<;>(conv=>whnf)<;>exact ⟨rfl,rfl⟩
  ·have hi':=E4 h
   have yes:A0e (l.getD (i:Int).toNat default)=true→∀ k,k<i+1→A0e (l.getD k default)=true:=fun h=>J8 hok h
   have no:A0e (l.getD (i:Int).toNat default)=false→K8 l (fun _ x=>A0e x)=false:=fun h=>T2 (p:=fun _ x=>A0e x) hi' h
   have n1:=B4n (l.getD (i:Int).toNat default).scope (hs _ (B3 hi')) st'
   rw [show A0e (l.getD (i:Int).toNat default)=(A0r (l.getD (i:Int).toNat default).scope&&!(decide ((l.getD (i:Int).toNat default).count<1)||decide ((l.getD (i:Int).toNat default).count>100))) from rfl] at yes no
   generalize A0r (l.getD (i:Int).toNat default).scope=b1 at n1 yes no
   repeat' ((conv=>whnf);first | refine ⟨rfl,⟨by omega,by omega⟩,?_⟩ | refine A7 n1 ?_ | cases b1 | (refine C3 (fun h=>?_) (fun h=>?_)<;>rw [h]))
   all_goals (conv=>whnf)
   all_goals first
    | (rw [no (by simp only [*,Bool.true_or,Bool.or_true,Bool.not_true,Bool.and_false,Bool.false_and])];exact ⟨rfl,rfl⟩)
    | (refine ⟨rfl,?_⟩;conv=>whnf
       exact nx hi' ⟨yes (by simp only [*,Bool.or_false,Bool.not_false,Bool.and_true]),by rw [B9 (by omega)],rfl⟩)
theorem B4s (l:List Int) (hl:Sm l.length) (st:St):S P 163 [A6 l] st fun v st'=>v=.bool (A1i l)∧st'=st:=by
 refine A8 [] B8 mixed Tryz.func163 (by rfl) rfl rfl rfl ?_;conv=>whnf
 refine lp l.length [0,3] (fun i vs st'=>(∀ k,k<i→A1G l k (l.getD k default)=true)∧vs=[A6 l,eI i]∧st'=st) ?_ ?_
 ·conv=>whnf
  exact ⟨fun k hk=>absurd hk (by omega),rfl,rfl⟩
 ·rintro i vs st' hi ⟨hok,rfl,rfl⟩
  conv=>whnf
  cases h:decide ((i:Int)<(l.length:Int))
  ·obtain rfl:=C6 h hi
   conv=>whnf
   exact ⟨by rw [show A1i l=true from L1 hok];rfl,rfl⟩
  ·have hi':=E4 h
   have yes:A1G l i (l.getD (i:Int).toNat default)=true→∀ k,k<i+1→A1G l k (l.getD k default)=true:=fun h=>J8 hok h
   have no:A1G l i (l.getD (i:Int).toNat default)=false→A1i l=false:=fun h=>T2 hi' h
   rw [show A1G l i (l.getD (i:Int).toNat default)=!(!(decide ((l.getD (i:Int).toNat default)≥1)&&decide ((l.getD (i:Int).toNat default)≤9))||(l.take i).any fun y=>l.getD (i:Int).toNat default==y) from rfl] at yes no
   have no':(decide ((l.getD (i:Int).toNat default)≥1)&&decide ((l.getD (i:Int).toNat default)≤9))=false→A1i l=false:=fun h=>no (by rw [h];rfl)
   repeat' ((conv=>whnf);first | refine ⟨rfl,⟨by omega,by omega⟩,?_⟩ | (refine C3 (fun h=>?_) (fun h=>?_)<;>rw [h]))
   all_goals (conv=>whnf)
   ·rw [no' (by rw [Bool.and_eq_false_iff,decide_eq_false_iff_not,decide_eq_false_iff_not];simp only [decide_eq_true_eq,decide_eq_false_iff_not] at *;omega)];exact ⟨rfl,rfl⟩
   ·rw [no' (by rw [Bool.and_eq_false_iff,decide_eq_false_iff_not,decide_eq_false_iff_not];simp only [decide_eq_true_eq,decide_eq_false_iff_not] at *;omega)];exact ⟨rfl,rfl⟩
   have hk:(decide ((l.getD (i:Int).toNat default)≥1)&&decide ((l.getD (i:Int).toNat default)≤9))=true:=by rw [Bool.and_eq_true,decide_eq_true_eq,decide_eq_true_eq];simp only [decide_eq_true_eq,decide_eq_false_iff_not] at *;omega
   rw [hk] at yes no
   refine lp i [0,3,4] (fun j vs s=>(∀ k,k<j→(l.getD k default==l.getD i default)=false)∧vs=[A6 l,eI i,eI j]∧s=st') ?_ ?_
   ·conv=>whnf
    exact ⟨fun k hk=>absurd hk (by omega),rfl,rfl⟩
   ·rintro j vs s hj ⟨hokj,rfl,rfl⟩
    conv=>whnf
    cases h:decide ((j:Int)<(i:Int))
    ·obtain rfl:=C6 h hj
     conv=>whnf
     refine ⟨rfl,?_⟩;conv=>whnf
     refine nx hi' ⟨yes ?_,by rw [B9 (by omega)],rfl⟩
     rw [List.any_eq_false.2 fun x hx=>?_];rfl
     obtain ⟨k,hk2,rfl⟩:=E8 hx
     rw [List.length_take] at hk2
     have h4:=hokj k (by omega)
     rw [Int.toNat_natCast,show (l.take j).getD k default=l.getD k default by rw [List.getD_eq_getElem?_getD,List.getD_eq_getElem?_getD,List.getElem?_take_of_lt (by omega)],Bool.beq_comm,h4];simp
    ·have hj':=E4 h
     conv=>whnf
     refine ⟨[],[],List.range 9,by kernel_rfl,?_⟩;conv=>whnf
     refine ⟨rfl,⟨by omega,by omega⟩,?_⟩;conv=>whnf
     refine ⟨rfl,⟨by omega,by omega⟩,?_⟩;conv=>whnf
     refine C3 (fun h1=>?_) (fun h1=>?_)<;>rw [h1]
     ·conv=>whnf
      refine ⟨?_,rfl⟩
      rw [no ?_];rfl
      rw [List.any_eq_true.2 ⟨l.getD j default,?_,?_⟩];rfl
      ·rw [List.mem_take_iff_getElem]
       exact ⟨j,by omega,by simp [show j<l.length by omega]⟩
      ·rw [Bool.beq_comm];exact h1
     ·conv=>whnf
      refine ⟨rfl,?_⟩;conv=>whnf
      exact nx hj' ⟨J8 hokj h1,by rw [B9 (by omega)],rfl⟩
structure B4W (z:K3):Prop where
 n:Sm z.rates.length
 s:Sm z.name.size
 r:∀ x∈z.rates,Sm x.cat.size
def A2U (l:List G8) (k:Nat) (x:G8):Bool:=F8 x.cat&&R4 0 10000 x.rate&&N5 (l.map G8.cat) k
def B0G (z:K3):Bool:=K8 z.rates (A2U z.rates)&&(decide ((z.rates.length:Int)≤40)&&R4 0 10000 z.rest&&R4 0 10000 z.ship)
theorem C1a (z:K3) (hz:B4W z) (st:St):S P 251 [Q3 z] st fun v st'=>v=.bool (B0G z)∧st'=st:=by
 rw [show B0G z=(K8 z.rates (A2U z.rates)&&(decide ((z.rates.length:Int)≤40)&&R4 0 10000 z.rest&&R4 0 10000 z.ship)) from rfl]
 refine A8 [1] B8 mixed Tryz.func251 (by rfl) rfl rfl rfl ?_;conv=>whnf
 refine lp z.rates.length [1,3] (fun i vs st'=>(∀ k,k<i→A2U z.rates k (z.rates.getD k default)=true)∧vs=[.fptr (Q3 z) 0,eI i]∧st'=st) ?_ ?_
 ·conv=>whnf
  exact ⟨fun k hk=>absurd hk (by omega),rfl,rfl⟩
 ·rintro i vs st' hi ⟨hok,rfl,rfl⟩
  conv=>whnf
  cases h:decide ((i:Int)<(z.rates.length:Int))
  ·obtain rfl:=C6 h hi
   rw [show K8 z.rates (A2U z.rates)=true from L1 hok,Bool.true_and];conv=>whnf
   cases hd:decide ((z.rates.length:Int)≤40)
   ·conv=>whnf
    exact ⟨rfl,rfl⟩
   ·conv=>whnf
    refine A7 (A1M z.rest 10000 _) ?_;conv=>whnf
    cases R4 0 10000 z.rest
    ·conv=>whnf
     exact ⟨rfl,rfl⟩
    ·conv=>whnf
     refine A7 (A1M z.ship 10000 _) ?_;conv=>whnf
     exact ⟨rfl,rfl⟩
  ·have hi':=E4 h
   have yes:A2U z.rates i (z.rates.getD (i:Int).toNat default)=true→∀ k,k<i+1→A2U z.rates k (z.rates.getD k default)=true:=fun h=>J8 hok h
   have no:A2U z.rates i (z.rates.getD (i:Int).toNat default)=false→K8 z.rates (A2U z.rates)=false:=fun h=>T2 hi' h
   have hl:=hz.n
   have hm:=hz.r _ (B3 hi')
   have n1:=A2J (z.rates.getD (i:Int).toNat default).cat hm st'
   have n2:=A1M (z.rates.getD (i:Int).toNat default).rate 10000 st'
   have e:0<i→N5 (z.rates.map G8.cat) i=!(Op.bytesLess (z.rates.getD i default).cat.toList (z.rates.getD (i - 1) default).cat.toList||(z.rates.getD i default).cat.toList==(z.rates.getD (i - 1) default).cat.toList):=fun hp=>by
    rw [B2J hp]
    have e1:(z.rates.map G8.cat).getD i default=(z.rates.getD i default).cat:=E3 G8.cat z.rates hi'
    have e2:(z.rates.map G8.cat).getD (i - 1) default=(z.rates.getD (i - 1) default).cat:=E3 G8.cat z.rates (by omega)
    rw [e1,e2]
   have e0:i=0→N5 (z.rates.map G8.cat) i=true:=fun h=>by rw [h];rfl
   rw [show A2U z.rates i (z.rates.getD (i:Int).toNat default)=(F8 (z.rates.getD (i:Int).toNat default).cat&&R4 0 10000 (z.rates.getD (i:Int).toNat default).rate&&N5 (z.rates.map G8.cat) i) from rfl] at yes no
   generalize F8 (z.rates.getD (i:Int).toNat default).cat=b1 at n1 yes no
   generalize R4 0 10000 (z.rates.getD (i:Int).toNat default).rate=b2 at n2 yes no
   conv=>whnf
   refine ⟨[],[],List.range 38,by kernel_rfl,?_⟩
   cases h0:decide ((i:Int)>0)
   ·replace e:=e0 (by have:=of_decide_eq_false h0;omega)
    repeat' ((conv=>whnf);first | refine ⟨rfl,⟨by omega,by omega⟩,?_⟩ | refine ⟨_,D1 n1,?_⟩ | refine ⟨_,D1 n2,?_⟩ | rw [h0] | cases b1 | cases b2)
    all_goals (conv=>whnf)
    all_goals first
     | (rw [no (by rfl)];exact ⟨rfl,rfl⟩)
     | (refine ⟨rfl,?_⟩;conv=>whnf
        exact nx hi' ⟨yes (by rw [e];rfl),by rw [B9 (by omega)],rfl⟩)
   ·have h0':0<i:=by have:=of_decide_eq_true h0;omega
    replace e:=e h0'
    have hw:=A6a h0' (by omega)
    repeat' ((conv=>whnf);first | refine ⟨rfl,⟨by omega,by omega⟩,?_⟩ | refine ⟨rfl,⟨by rw [hw];omega,by rw [hw];omega⟩,?_⟩ | refine ⟨_,D1 n1,?_⟩ | refine ⟨_,D1 n2,?_⟩ | rw [h0] | cases b1 | cases b2 | refine C3 (fun h=>?_) (fun h=>?_))
    all_goals (conv=>whnf)
    all_goals first
     | (rw [no (by rfl)];exact ⟨rfl,rfl⟩)
     | (rw [hw] at h;rw [no (by rw [e];exact congrArg not h)];exact ⟨rfl,rfl⟩)
     | (rw [hw] at h;refine ⟨rfl,?_⟩;conv=>whnf
        exact nx hi' ⟨yes (by rw [e];exact congrArg not h),by rw [B9 (by omega)],rfl⟩)
def A2Y (l:List K3) (k:Nat) (x:K3):Bool:=F8 x.name&&B0G x&&N5 (l.map K3.name) k
structure A8f (x:Z9):Prop where
 n:Sm x.zones.length
 z:∀ z∈x.zones,B4W z
def C3y (x:Z9):Bool:=K8 x.zones (A2Y x.zones)&&(decide ((x.zones.length:Int)≤20)&&decide (x.round≥0)&&decide (x.round≤2))
theorem C3h (x:Z9) (hx:A8f x) (st:St):S P 161 [L7 x] st fun v st'=>v=.bool (C3y x)∧st'=st:=by
 rw [show C3y x=(K8 x.zones (A2Y x.zones)&&(decide ((x.zones.length:Int)≤20)&&decide (x.round≥0)&&decide (x.round≤2))) from rfl]
 refine A8 [1] B8 mixed Tryz.func161 (by rfl) rfl rfl rfl ?_;conv=>whnf
 refine lp x.zones.length [1,3] (fun i vs st'=>(∀ k,k<i→A2Y x.zones k (x.zones.getD k default)=true)∧vs=[.fptr (L7 x) 0,eI i]∧st'=st) ?_ ?_
 ·conv=>whnf
  exact ⟨fun k hk=>absurd hk (by omega),rfl,rfl⟩
 ·rintro i vs st' hi ⟨hok,rfl,rfl⟩
  conv=>whnf
  cases h:decide ((i:Int)<(x.zones.length:Int))
  ·obtain rfl:=C6 h hi
   rw [show K8 x.zones (A2Y x.zones)=true from L1 hok,Bool.true_and];conv=>whnf
   refine C3 (fun h=>?_) (fun h=>?_)<;>rw [h]
   ·conv=>whnf
    refine C3 (fun h=>?_) (fun h=>?_)<;>rw [h]<;>(conv=>whnf)<;>exact ⟨rfl,rfl⟩
   ·conv=>whnf
    exact ⟨rfl,rfl⟩
  ·have hi':=E4 h
   have yes:A2Y x.zones i (x.zones.getD (i:Int).toNat default)=true→∀ k,k<i+1→A2Y x.zones k (x.zones.getD k default)=true:=fun h=>J8 hok h
   have no:A2Y x.zones i (x.zones.getD (i:Int).toNat default)=false→K8 x.zones (A2Y x.zones)=false:=fun h=>T2 hi' h
   have hl:=hx.n
   have hm:=hx.z _ (B3 hi')
   have n1:=A2J (x.zones.getD (i:Int).toNat default).name hm.s st'
   have n2:=C1a (x.zones.getD (i:Int).toNat default) hm st'
   have e:0<i→N5 (x.zones.map K3.name) i=!(Op.bytesLess (x.zones.getD i default).name.toList (x.zones.getD (i - 1) default).name.toList||(x.zones.getD i default).name.toList==(x.zones.getD (i - 1) default).name.toList):=fun hp=>by
    rw [B2J hp]
    have e1:(x.zones.map K3.name).getD i default=(x.zones.getD i default).name:=E3 K3.name x.zones hi'
    have e2:(x.zones.map K3.name).getD (i - 1) default=(x.zones.getD (i - 1) default).name:=E3 K3.name x.zones (by omega)
    rw [e1,e2]
   have e0:i=0→N5 (x.zones.map K3.name) i=true:=fun h=>by rw [h];rfl
   rw [show A2Y x.zones i (x.zones.getD (i:Int).toNat default)=(F8 (x.zones.getD (i:Int).toNat default).name&&B0G (x.zones.getD (i:Int).toNat default)&&N5 (x.zones.map K3.name) i) from rfl] at yes no
   generalize F8 (x.zones.getD (i:Int).toNat default).name=b1 at n1 yes no
   generalize B0G (x.zones.getD (i:Int).toNat default)=b2 at n2 yes no
   conv=>whnf
   refine ⟨[],[],List.range 37,by kernel_rfl,?_⟩
   cases h0:decide ((i:Int)>0)
   ·replace e:=e0 (by have:=of_decide_eq_false h0;omega)
    repeat' ((conv=>whnf);first | refine ⟨rfl,⟨by omega,by omega⟩,?_⟩ | refine ⟨_,D1 n1,?_⟩ | refine ⟨_,D1 n2,?_⟩ | rw [h0] | cases b1 | cases b2)
    all_goals (conv=>whnf)
    all_goals first
     | (rw [no (by rfl)];exact ⟨rfl,rfl⟩)
     | (refine ⟨rfl,?_⟩;conv=>whnf
        exact nx hi' ⟨yes (by rw [e];rfl),by rw [B9 (by omega)],rfl⟩)
   ·have h0':0<i:=by have:=of_decide_eq_true h0;omega
    replace e:=e h0'
    have hw:=A6a h0' (by omega)
    repeat' ((conv=>whnf);first | refine ⟨rfl,⟨by omega,by omega⟩,?_⟩ | refine ⟨rfl,⟨by rw [hw];omega,by rw [hw];omega⟩,?_⟩ | refine ⟨_,D1 n1,?_⟩ | refine ⟨_,D1 n2,?_⟩ | rw [h0] | cases b1 | cases b2 | refine C3 (fun h=>?_) (fun h=>?_))
    all_goals (conv=>whnf)
    all_goals first
     | (rw [no (by rfl)];exact ⟨rfl,rfl⟩)
     | (rw [hw] at h;rw [no (by rw [e];exact congrArg not h)];exact ⟨rfl,rfl⟩)
     | (rw [hw] at h;refine ⟨rfl,?_⟩;conv=>whnf
        exact nx hi' ⟨yes (by rw [e];exact congrArg not h),by rw [B9 (by omega)],rfl⟩)
theorem C1O (z:K3):(F8 z.name&&B0G z)=U3 z:=by
 unfold B0G U3 K8 X8 A2U A3r R4
 rw [List.length_map,←Bool.coe_iff_coe]
 simp only [Bool.and_eq_true,List.all_eq_true,List.mem_range,Bool.not_eq_true',Bool.or_eq_false_iff,Bool.not_eq_false',decide_eq_true_eq,decide_eq_false_iff_not]
 constructor
 ·rintro ⟨h0,h1,⟨h2,h3⟩,h4⟩
  exact ⟨⟨⟨⟨h0,h3⟩,h4⟩,by omega⟩,fun k hk=>(h1 k hk).1,fun k hk=>(h1 k hk).2⟩
 ·rintro ⟨⟨⟨⟨h0,h3⟩,h4⟩,h2⟩,h1,h5⟩
  exact ⟨h0,fun k hk=>⟨h1 k hk,h5 k hk⟩,⟨by omega,h3⟩,h4⟩
theorem C3z (x:Z9):C3y x=taxC x:=by
 unfold C3y taxC
 rw [←Bool.coe_iff_coe]
 unfold K8 X8 A2Y
 rw [List.length_map]
 simp only [C1O,Bool.and_eq_true,List.all_eq_true,List.mem_range,Bool.not_eq_true',Bool.or_eq_false_iff,Bool.not_eq_false',decide_eq_true_eq,decide_eq_false_iff_not]
 constructor
 ·rintro ⟨h1,⟨h2,h3⟩,h4⟩
  exact ⟨⟨⟨by omega,by omega⟩,by omega⟩,fun k hk=>(h1 k hk).1,fun k hk=>(h1 k hk).2⟩
 ·rintro ⟨⟨⟨h3,h4⟩,h2⟩,h1,h5⟩
  exact ⟨fun k hk=>⟨h1 k hk,h5 k hk⟩,⟨by omega,by omega⟩,by omega⟩
theorem B5P (x:Z9) (hx:A8f x) (st:St):S P 161 [L7 x] st fun v st'=>v=.bool (taxC x)∧st'=st:=by
 rw [←C3z];exact C3h x hx st
def A1V (l:List A0a) (k:Nat) (x:A0a):Bool:=R4 0 10000000000000 x.least&&R4 0 10000 x.rate&&R4 0 10000000000000 x.amount&&!(x.rate==0&&x.amount==0)&&(k==0||!decide (x.least≤(l.getD (k - 1) default).least))
theorem C1b (l:List A0a) (hl:Sm l.length) (st:St):S P 309 [B2 3 P7 l] st fun v st'=>v=.bool (K8 l (A1V l)&&(decide ((l.length:Int)≥1)&&decide ((l.length:Int)≤6)))∧st'=st:=by
 refine A8 [4] B8 mixed Tryz.func309 (by rfl) rfl rfl rfl ?_;conv=>whnf
 refine lp l.length [0,3] (fun i vs st'=>(∀ k,k<i→A1V l k (l.getD k default)=true)∧vs=[B2 3 P7 l,eI i]∧st'=st) ?_ ?_
 ·conv=>whnf
  exact ⟨fun k hk=>absurd hk (by omega),rfl,rfl⟩
 ·rintro i vs st' hi ⟨hok,rfl,rfl⟩
  conv=>whnf
  cases h:decide ((i:Int)<(l.length:Int))
  ·obtain rfl:=C6 h hi
   rw [L1 hok,Bool.true_and];conv=>whnf
   refine C3 (fun h=>?_) (fun h=>?_)<;>rw [h]<;>(conv=>whnf)<;>exact ⟨rfl,rfl⟩
  ·have hi':=E4 h
   have yes:A1V l i (l.getD (i:Int).toNat default)=true→∀ k,k<i+1→A1V l k (l.getD k default)=true:=fun h=>J8 hok h
   have no:A1V l i (l.getD (i:Int).toNat default)=false→K8 l (A1V l)=false:=fun h=>T2 hi' h
   have n1:=A1M (l.getD (i:Int).toNat default).least 10000000000000 st'
   have n2:=A1M (l.getD (i:Int).toNat default).rate 10000 st'
   have n3:=A1M (l.getD (i:Int).toNat default).amount 10000000000000 st'
   have hw:=fun h=>A6a (i:=i) h (by omega)
   rw [show A1V l i (l.getD (i:Int).toNat default)=(R4 0 10000000000000 (l.getD (i:Int).toNat default).least&&R4 0 10000 (l.getD (i:Int).toNat default).rate&&R4 0 10000000000000 (l.getD (i:Int).toNat default).amount&&!((l.getD (i:Int).toNat default).rate==0&&(l.getD (i:Int).toNat default).amount==0)&&(i==0||!decide ((l.getD (i:Int).toNat default).least≤(l.getD (i - 1) default).least))) from rfl] at yes no
   generalize R4 0 10000000000000 (l.getD (i:Int).toNat default).least=b1 at n1 yes no
   generalize R4 0 10000 (l.getD (i:Int).toNat default).rate=b2 at n2 yes no
   generalize R4 0 10000000000000 (l.getD (i:Int).toNat default).amount=b3 at n3 yes no
   conv=>whnf
   refine ⟨rfl,⟨by omega,by omega⟩,?_⟩;conv=>whnf
   refine ⟨[],[],List.range 41,by kernel_rfl,?_⟩
   have step:∀ b4:Bool,b4=((l.getD (i:Int).toNat default).rate==0&&(l.getD (i:Int).toNat default).amount==0)→True:=fun _ _=>trivial
   rcases Nat.eq_zero_or_pos i with h0 | h0
   ·have h1:decide ((i:Int)>0)=false:=decide_eq_false (by omega)
    rw [show (i==0)=true from by rw [h0];rfl,Bool.true_or,Bool.and_true] at yes no
    repeat' ((conv=>whnf);first | refine ⟨rfl,⟨by omega,by omega⟩,?_⟩ | refine ⟨_,D1 n1,?_⟩ | refine ⟨_,D1 n2,?_⟩ | refine ⟨_,D1 n3,?_⟩ | rw [h1] | cases b1 | cases b2 | cases b3 | (refine C3 (fun h=>?_) (fun h=>?_)<;>rw [h] at yes no ⊢))
    all_goals (conv=>whnf)
    all_goals first
     | (rw [no (by rfl)];exact ⟨rfl,rfl⟩)
     | (refine ⟨rfl,?_⟩;conv=>whnf
        exact nx hi' ⟨yes (by rfl),by rw [B9 (by omega)],rfl⟩)
   ·have h1:decide ((i:Int)>0)=true:=decide_eq_true (by omega)
    rw [show (i==0)=false from beq_false_of_ne (by omega),Bool.false_or] at yes no
    have hw:=hw h0
    repeat' ((conv=>whnf);first | refine ⟨rfl,⟨by omega,by omega⟩,?_⟩ | refine ⟨rfl,⟨by rw [hw];omega,by rw [hw];omega⟩,?_⟩ | refine ⟨_,D1 n1,?_⟩ | refine ⟨_,D1 n2,?_⟩ | refine ⟨_,D1 n3,?_⟩ | rw [h1] | cases b1 | cases b2 | cases b3 | (refine C3 (fun h=>?_) (fun h=>?_)<;>rw [h] at yes no ⊢) | (rw [hw];refine C3 (fun h=>?_) (fun h=>?_)))
    all_goals (conv=>whnf)
    all_goals first
     | (rw [no (by rfl)];exact ⟨rfl,rfl⟩)
     | (rw [no (congrArg not h)];exact ⟨rfl,rfl⟩)
     | (refine ⟨rfl,?_⟩;conv=>whnf
        exact nx hi' ⟨yes (congrArg not h),by rw [B9 (by omega)],rfl⟩)
theorem B8Y (l:List A0a):(K8 l (A1V l)&&(decide ((l.length:Int)≥1)&&decide ((l.length:Int)≤6)))=W5 l:=by
 unfold W5
 rw [Bool.and_comm]
 congr 1
 ·rw [Bool.not_or];congr 1<;>(rw [←decide_not];exact decide_eq_decide.2 (by omega))
 ·rw [←Bool.coe_iff_coe]
  unfold K8 A1V A2X R4
  simp only [Bool.and_eq_true,List.all_eq_true,List.mem_range,Bool.not_eq_true',Bool.or_eq_false_iff,Bool.not_eq_false',decide_eq_true_eq,decide_eq_false_iff_not,Bool.or_eq_true,beq_iff_eq]
  constructor
  ·intro h k hk
   obtain ⟨⟨⟨⟨h1,h2⟩,h3⟩,h4⟩,h5⟩:=h k hk
   refine ⟨⟨⟨⟨⟨⟨?_,by omega⟩,by omega⟩,by omega⟩,by omega⟩,by omega⟩,h4⟩
   split
   ·omega
   ·rcases h5 with h5 | h5<;>omega
  ·intro h
   have pos:∀ k,k<l.length→0≤(l.getD k default).least:=fun k=>by
    induction k with
    | zero=>intro hk;have:=(h 0 hk).1.1.1.1.1.1;rw [if_pos rfl] at this;omega
    | succ k ih=>intro hk;have:=(h (k+1) hk).1.1.1.1.1.1;rw [if_neg (by omega),Nat.add_sub_cancel] at this;have:=ih (by omega);omega
   intro k hk
   obtain ⟨⟨⟨⟨⟨⟨h1,h2⟩,h3⟩,h4⟩,h5⟩,h6⟩,h7⟩:=h k hk
   have:=pos k hk
   refine ⟨⟨⟨⟨⟨by omega,by omega⟩,by omega,by omega⟩,by omega,by omega⟩,h7⟩,?_⟩
   by_cases h0:k=0
   ·exact .inl h0
   ·rw [if_neg h0] at h1;exact .inr h1
structure A2z (p:B4):Prop where
 id:Sm p.id.size
 group:Sm p.group.size
 code:Sm p.code.size
 scope:A1p p.scope
 parts:Sm p.parts.length
 part:∀ x∈p.parts,A1p x.scope
 tiers:Sm p.tiers.length
def A4T (l:List A1t):Bool:=K8 l (fun _ x=>A0e x)&&(decide ((l.length:Int)≥1)&&decide ((l.length:Int)≤3))
def B2G (p:B4):Bool :=
 if p.kind=1 then (decide (p.rate≥1)&&decide (p.rate≤10000))&&p.amount==0&&(p.buy==0&&p.get==0)&&(p.parts.length:Int)==0&&(p.tiers.length:Int)==0
 else if p.kind=2 then p.rate==0&&decide (p.amount≥1)&&decide (p.amount≤1000000000)&&(p.buy==0&&p.get==0)&&(p.parts.length:Int)==0&&(p.tiers.length:Int)==0
 else if p.kind=3 then (decide (p.rate≥1)&&decide (p.rate≤10000))&&p.amount==0&&decide (p.buy≥1)&&decide (p.buy≤100)&&decide (p.get≥1)&&decide (p.get≤100)&&(p.parts.length:Int)==0&&(p.tiers.length:Int)==0
 else if p.kind=4 then p.rate==0&&R4 0 10000000000000 p.amount&&(p.buy==0&&p.get==0)&&A4T p.parts&&(p.tiers.length:Int)==0&&((p.scope.skus.length:Int)==0&&(p.scope.cats.length:Int)==0)
 else if p.kind=7 then (decide (p.rate≥1)&&decide (p.rate≤10000))&&p.amount==0&&(p.buy==0&&p.get==0)&&(p.parts.length:Int)==0&&(p.tiers.length:Int)==0&&((p.scope.skus.length:Int)==0&&(p.scope.cats.length:Int)==0)&&!p.closes
 else p.rate==0&&p.amount==0&&(p.buy==0&&p.get==0)&&(p.parts.length:Int)==0&&W5 p.tiers
theorem B8m (p:B4):(A4T p.parts&&R4 0 10000000000000 p.amount)=A5C p:=by
 unfold A4T A5C K8 R4
 rw [←Bool.coe_iff_coe]
 simp only [Bool.and_eq_true,List.all_eq_true,List.mem_range,Bool.not_eq_true',Bool.or_eq_false_iff,decide_eq_true_eq,decide_eq_false_iff_not,List.any_eq_false,Bool.not_eq_false']
 constructor
 ·rintro ⟨⟨h1,h2⟩,h3⟩
  exact ⟨⟨⟨⟨by omega,by omega⟩,by omega⟩,by omega⟩,fun x hx=>by obtain ⟨k,hk,rfl⟩:=E8 hx;rw [h1 k hk];simp⟩
 ·rintro ⟨h1,h2⟩
  exact ⟨⟨fun k hk=>by have:=h2 _ (B3 hk);simpa using this,by omega⟩,by omega⟩
theorem B8r (p:B4) (hk:1≤p.kind∧p.kind≤7):B2G p=(A7S p&&A5W p):=by
 have hb:=B8m p
 unfold B2G A7S A5W A7b A7c A7d
 rw [←hb]
 rw [A2G,A2G,A2G,A2G]
 have e:(p.scope.skus.length+p.scope.cats.length==0)=(p.scope.skus.length==0&&p.scope.cats.length==0):=by
  rw [←Bool.coe_iff_coe];simp only [Bool.and_eq_true,beq_iff_eq];omega
 have u:∀ m x,R4 1 m x=true→(x==0)=false:=fun m x h=>by simp only [R4,Bool.and_eq_true,decide_eq_true_eq] at h;exact beq_false_of_ne (by omega)
 have e4:A4T p.parts=true→(p.parts.length==0)=false:=fun h=>by
  simp only [A4T,Bool.and_eq_true,decide_eq_true_eq] at h;exact beq_false_of_ne (by omega)
 have e5:W5 p.tiers=true→(p.tiers.length==0)=false:=fun h=>by
  simp only [W5,Bool.and_eq_true,Bool.not_eq_true',Bool.or_eq_false_iff,decide_eq_false_iff_not] at h;exact beq_false_of_ne (by omega)
 rw [e]
 rcases (by omega:p.kind=1∨p.kind=2∨p.kind=3∨p.kind=4∨p.kind=5∨p.kind=6∨p.kind=7) with h | h | h | h | h | h | h
 all_goals (rw [h];simp only [show ∀ a b:Int,(if a=b then _ else _)=_ from fun _ _=>rfl,R4,if_true,if_false,Int.reduceEq,Int.reduceBEq,Bool.true_or,Bool.or_true,Bool.true_and,Bool.and_true,Bool.false_or,Bool.or_false,bne,Bool.not_true,Bool.not_false])
 all_goals (generalize W5 p.tiers=b1 at *;generalize A4T p.parts=b2 at *;generalize (p.parts.length==0)=b3 at *;generalize (p.tiers.length==0)=b4 at *;generalize (p.scope.skus.length==0&&p.scope.cats.length==0)=b5;generalize (p.buy==0&&p.get==0)=b6;generalize (p.rate==0)=b7;generalize (p.amount==0)=b8;generalize decide (p.rate≥1)=b9;generalize decide (p.rate≤10000)=b10)
 all_goals first | done | ac_rfl
set_option maxHeartbeats 8000000 in
theorem A3W (p:B4) (hp:A2z p) (hC:I9 p=true) (st:St):S P 250 [C1 p] st fun v st'=>v=.bool true∧st'=st:=by
 have n1:=A2J p.id hp.id st
 have n2:=A2J p.group hp.group st
 have n3:=A2J p.code hp.code st
 have n4:=B4n p.scope hp.scope st
 have n5:=A1M p.least 10000000000000 st
 have n6:=A1M p.amount 10000000000000 st
 have n7:=C0Z p.parts hp.parts hp.part st
 have n8:=C1b p.tiers hp.tiers st
 rw [B8Y] at n8
 rw [show (K8 p.parts (fun _ x=>A0e x)&&(decide ((p.parts.length:Int)≥1)&&decide ((p.parts.length:Int)≤3)))=A4T p.parts from rfl] at n7
 unfold I9 A5V A1H L4 at hC
 simp only [Bool.and_eq_true] at hC
 obtain ⟨⟨⟨⟨k1,k2⟩,⟨⟨⟨⟨⟨h1,h2⟩,h3⟩,h4⟩,h5⟩,h6⟩⟩,hP⟩,hQ⟩:=hC
 have hk:1≤p.kind∧p.kind≤7:=by simp only [decide_eq_true_eq] at k1 k2;omega
 have hT:B2G p=true:=by rw [B8r p hk,hP,hQ];rfl
 have g1:decide (p.prio<0)=false:=decide_eq_false (by simp only [R4,Bool.and_eq_true,decide_eq_true_eq] at h2;omega)
 have g2:decide (p.prio>1000)=false:=decide_eq_false (by simp only [R4,Bool.and_eq_true,decide_eq_true_eq] at h2;omega)
 have g3:(!(p.group.toList==(⟨#[]⟩:D6).toList))=true→F8 p.group=true:=fun h=>by
  rw [Bool.not_eq_true'] at h;rw [h] at h3;exact h3
 have g4:(!(p.code.toList==(⟨#[]⟩:D6).toList))=true→F8 p.code=true:=fun h=>by
  rw [Bool.not_eq_true'] at h;rw [h] at h4;exact h4
 unfold B2G at hT
 rw [h1] at n1
 rw [h5] at n4
 rw [h6] at n5
 clear h1 h2 h3 h4 h5 h6 hP hQ k1 k2 hp
 generalize A4T p.parts=b7 at *
 generalize W5 p.tiers=b8 at *
 generalize R4 0 10000000000000 p.amount=b6 at *
 obtain ⟨id,kind,prio,group,code,closes,scope,least,rate,amount,buy,get,parts,tiers⟩:=p
 simp only at *
 generalize F8 group=b2 at *
 generalize F8 code=b3 at *
 refine A8 [1] B8 mixed Tryz.func250 (by rfl) rfl rfl rfl ?_
 rcases (by omega:kind=1∨kind=2∨kind=3∨kind=4∨kind=5∨kind=6∨kind=7) with rfl | rfl | rfl | rfl | rfl | rfl | rfl
 all_goals (clear hk;simp only [if_true,if_false,Int.reduceEq,Bool.and_eq_true] at hT)
 ·obtain ⟨⟨⟨⟨⟨f1,f2⟩,f3⟩,f4,f5⟩,f6⟩,f7⟩:=hT
  repeat' ((conv=>whnf);first | refine A7 n1 ?_ | (refine A7 n2 ?_;rw [g3 h]) | (refine A7 n3 ?_;rw [g4 h]) | refine A7 n4 ?_ | refine A7 n5 ?_ | refine A7 n6 ?_ | refine A7 n7 ?_ | refine A7 n8 ?_ | refine ⟨[],[],List.range 27,by kernel_rfl,?_⟩ | rw [g1] | rw [g2] | rw [f1] | rw [f2] | rw [f3] | rw [f4] | rw [f5] | rw [f6] | rw [f7] | (refine C3 (fun h=>?_) (fun h=>?_)<;>rw [h]))
  all_goals (conv=>whnf)
  all_goals exact ⟨rfl,rfl⟩
 ·obtain ⟨⟨⟨⟨⟨f1,f2⟩,f3⟩,f4,f5⟩,f6⟩,f7⟩:=hT
  repeat' ((conv=>whnf);first | refine A7 n1 ?_ | (refine A7 n2 ?_;rw [g3 h]) | (refine A7 n3 ?_;rw [g4 h]) | refine A7 n4 ?_ | refine A7 n5 ?_ | refine A7 n6 ?_ | refine A7 n7 ?_ | refine A7 n8 ?_ | refine ⟨[],[],List.range 27,by kernel_rfl,?_⟩ | rw [g1] | rw [g2] | rw [f1] | rw [f2] | rw [f3] | rw [f4] | rw [f5] | rw [f6] | rw [f7] | (refine C3 (fun h=>?_) (fun h=>?_)<;>rw [h]))
  all_goals (conv=>whnf)
  all_goals exact ⟨rfl,rfl⟩
 ·obtain ⟨⟨⟨⟨⟨⟨⟨⟨f1,f2⟩,f3⟩,f4⟩,f5⟩,f6⟩,f7⟩,f8⟩,f9⟩:=hT
  repeat' ((conv=>whnf);first | refine A7 n1 ?_ | (refine A7 n2 ?_;rw [g3 h]) | (refine A7 n3 ?_;rw [g4 h]) | refine A7 n4 ?_ | refine A7 n5 ?_ | refine A7 n6 ?_ | refine A7 n7 ?_ | refine A7 n8 ?_ | refine ⟨[],[],List.range 27,by kernel_rfl,?_⟩ | rw [g1] | rw [g2] | rw [f1] | rw [f2] | rw [f3] | rw [f4] | rw [f5] | rw [f6] | rw [f7] | rw [f8] | rw [f9] | (refine C3 (fun h=>?_) (fun h=>?_)<;>rw [h]))
  all_goals (conv=>whnf)
  all_goals exact ⟨rfl,rfl⟩
 ·obtain ⟨⟨⟨⟨⟨f1,f2⟩,f3,f4⟩,f5⟩,f6⟩,f7,f8⟩:=hT
  subst f2
  subst f5
  repeat' ((conv=>whnf);first | refine A7 n1 ?_ | (refine A7 n2 ?_;rw [g3 h]) | (refine A7 n3 ?_;rw [g4 h]) | refine A7 n4 ?_ | refine A7 n5 ?_ | refine A7 n6 ?_ | refine A7 n7 ?_ | refine A7 n8 ?_ | refine ⟨[],[],List.range 27,by kernel_rfl,?_⟩ | rw [g1] | rw [g2] | rw [f1] | rw [f3] | rw [f4] | rw [f6] | rw [f7] | rw [f8] | (refine C3 (fun h=>?_) (fun h=>?_)<;>rw [h]))
  all_goals (conv=>whnf)
  all_goals exact ⟨rfl,rfl⟩
 ·obtain ⟨⟨⟨⟨f1,f2⟩,f3,f4⟩,f5⟩,f6⟩:=hT
  subst f6
  repeat' ((conv=>whnf);first | refine A7 n1 ?_ | (refine A7 n2 ?_;rw [g3 h]) | (refine A7 n3 ?_;rw [g4 h]) | refine A7 n4 ?_ | refine A7 n5 ?_ | refine A7 n6 ?_ | refine A7 n7 ?_ | refine A7 n8 ?_ | refine ⟨[],[],List.range 27,by kernel_rfl,?_⟩ | rw [g1] | rw [g2] | rw [f1] | rw [f2] | rw [f3] | rw [f4] | rw [f5] | (refine C3 (fun h=>?_) (fun h=>?_)<;>rw [h]))
  all_goals (conv=>whnf)
  all_goals exact ⟨rfl,rfl⟩
 ·obtain ⟨⟨⟨⟨f1,f2⟩,f3,f4⟩,f5⟩,f6⟩:=hT
  subst f6
  repeat' ((conv=>whnf);first | refine A7 n1 ?_ | (refine A7 n2 ?_;rw [g3 h]) | (refine A7 n3 ?_;rw [g4 h]) | refine A7 n4 ?_ | refine A7 n5 ?_ | refine A7 n6 ?_ | refine A7 n7 ?_ | refine A7 n8 ?_ | refine ⟨[],[],List.range 27,by kernel_rfl,?_⟩ | rw [g1] | rw [g2] | rw [f1] | rw [f2] | rw [f3] | rw [f4] | rw [f5] | (refine C3 (fun h=>?_) (fun h=>?_)<;>rw [h]))
  all_goals (conv=>whnf)
  all_goals exact ⟨rfl,rfl⟩
 ·obtain ⟨⟨⟨⟨⟨⟨⟨f1,f2⟩,f3⟩,f4,f5⟩,f6⟩,f7⟩,f8,f9⟩,f10⟩:=hT
  rw [Bool.not_eq_true'] at f10
  subst f10
  repeat' ((conv=>whnf);first | refine A7 n1 ?_ | (refine A7 n2 ?_;rw [g3 h]) | (refine A7 n3 ?_;rw [g4 h]) | refine A7 n4 ?_ | refine A7 n5 ?_ | refine A7 n6 ?_ | refine A7 n7 ?_ | refine A7 n8 ?_ | refine ⟨[],[],List.range 27,by kernel_rfl,?_⟩ | rw [g1] | rw [g2] | rw [f1] | rw [f2] | rw [f3] | rw [f4] | rw [f5] | rw [f6] | rw [f7] | rw [f8] | rw [f9] | (refine C3 (fun h=>?_) (fun h=>?_)<;>rw [h]))
  all_goals (conv=>whnf)
  all_goals exact ⟨rfl,rfl⟩
theorem B8E (x rate round:Int) (st:St):S P 173 [eI x,eI rate,eI round] st fun v st'=>v=.tuple [eI (if 0≤rate∧rate≤10000 then U2 x rate 10000 round else (0,2)).1,eI (if 0≤rate∧rate≤10000 then U2 x rate 10000 round else (0,2)).2]∧st'=st:=by
 refine A8 [] B8 mixed Tryz.func173 (by rfl) rfl rfl rfl ?_
 repeat' ((conv=>whnf);first | refine A7 (B0j _ _ _ _ st) ?_ | (refine C3 (fun h=>?_) (fun h=>?_)<;>rw [h]))
 all_goals (conv=>whnf)
 all_goals (refine ⟨?_,rfl⟩;simp only [decide_eq_true_eq,decide_eq_false_iff_not] at *)
 ·rw [if_neg (by omega)];rfl
 ·rw [if_neg (by omega)];rfl
 ·rw [if_pos (by omega)];rfl
theorem A7l (x rate:Int) (st:St):S P 99 [eI x,eI rate] st fun v st'=>v=eI (I7 x rate)∧st'=st:=by
 refine A8 [] B8 mixed Tryz.func99 (by rfl) rfl rfl rfl ?_;conv=>whnf
 refine A7 (B8E x rate 1 st) ?_;conv=>whnf
 exact ⟨rfl,rfl⟩
theorem A8b (l:List Int) (hl:l.length≤1000000) (h0:∀ x∈l,0≤x) (hs:A5 l≤100000000000000000) (st:St):S P 125 [A6 l] st fun v st'=>v=eI (A5 l)∧st'=st:=by
 refine A8 [] B8 mixed Tryz.func125 (by rfl) rfl rfl rfl ?_;conv=>whnf
 refine lp l.length [0,3,4] (fun i vs s=>vs=[A6 l,eI (A5 (l.take i)),eI i]∧s=st) ?_ ?_
 ·conv=>whnf
  exact ⟨rfl,rfl⟩
 ·rintro i vs st' hi ⟨rfl,rfl⟩
  conv=>whnf
  cases h:decide ((i:Int)<(l.length:Int))
  ·obtain rfl:=C6 h hi
   conv=>whnf
   exact ⟨by rw [List.take_length];rfl,rfl⟩
  ·have hi':=E4 h
   have e:=L3 hi'
   have h1:=C4 (l:=l.take i) (fun x hx=>h0 x (List.take_subset _ _ hx))
   have h2:=J9 h0 (i+1)
   have h3:=h0 _ (B3 hi')
   have h4:gI l i=l.getD i default:=rfl
   have w:IntKind.i64.wrap (A5 (l.take i)+l.getD (i:Int).toNat default)=A5 (l.take (i+1)):=by rw [e];exact A9 (by rw [Int.toNat_natCast];omega) (by rw [Int.toNat_natCast];omega)
   conv=>whnf
   refine ⟨rfl,⟨by omega,by omega⟩,?_⟩;conv=>whnf
   rw [w]
   refine ⟨rfl,?_⟩;conv=>whnf
   exact nx hi' ⟨by rw [B9 (by omega)],rfl⟩
theorem A5F (us:List B5) (mine:List Int) (hl:mine.length≤1000000) (hm:∀ k,k<mine.length→0≤gI mine k∧(gI mine k).toNat<us.length) (st:St):S P 169 [D0 us,A6 mine] st fun v st'=>v=A6 (F0 us mine)∧st'=st:=by
 refine A0Z (ty:=2) ?_
 refine A8 [] B8 mixed Tryz.func169 (by rfl) rfl rfl rfl ?_;conv=>whnf
 refine lp mine.length [0,1,5,6] (fun i vs s=>∃ sv,vs=[D0 us,A6 mine,sv,eI i]∧F2 2 1 eI (F0 us (mine.take i)) st sv s) ?_ ?_
 ·conv=>whnf
  exact ⟨.emp,rfl,F2.start _ _ _ _⟩
 ·rintro i vs st' hi ⟨sv,rfl,hc⟩
  conv=>whnf
  cases h:decide ((i:Int)<(mine.length:Int))
  ·obtain rfl:=C6 h hi
   rw [List.take_length] at hc;conv=>whnf
   exact hc
  ·have hi':=E4 h
   have hx:=hm i hi'
   have hlen:(F0 us (mine.take i)).length=i:=by unfold F0;rw [List.length_map,List.length_take];omega
   conv=>whnf
   refine ⟨rfl,⟨by omega,by omega⟩,?_⟩;conv=>whnf
   refine ⟨rfl,⟨by show 0≤gI mine i;omega,by show gI mine i<(us.length:Int);omega⟩,?_⟩;conv=>whnf
   refine F2.app (q:=r2) (y:=(gU us (gI mine i).toNat).net) rfl rfl rfl rfl rfl rfl (by show (_+1) * 8≤140737488355328;omega) hc (fun sv' s' hc'=>?_);conv=>whnf
   refine ⟨rfl,?_⟩;conv=>whnf
   refine nx hi' ⟨sv',by rw [B9 (by omega)],?_⟩
   unfold F0 at hc' ⊢
   rw [A2w hi'];exact hc'
def A3v (total:Int) (ws:List Int):List Int:=(List.range ws.length).map fun k=>total * gI ws k % A5 ws
theorem C2W {total:Int} {ws:List Int} {o:List Int} (hp:o.Perm (A3n ws.length)) (hs:o.Pairwise (B1Q (A3v total ws))):o=(shR total (A5 ws) ws).map (·.2):=by
 have e:o.map (B0e (A3v total ws))=shR total (A5 ws) ws:=by
  refine List.Perm.eq_of_pairwise (le:=fun a b=>G7 b a=false) (fun a b _ _ h1 h2=>A3p h2 h1) (List.pairwise_map.2 hs) (A6r ..) (((hp.map _).trans ?_).trans (A1y ..).symm)
  unfold A3n
  rw [List.map_map]
  refine List.Perm.of_eq (List.map_congr_left fun k hk=>?_)
  have:=List.mem_range.1 hk
  show (gI (A3v total ws) ((k:Int).toNat),(k:Int))=shE total (A5 ws) ws k
  unfold A3v
  rw [Int.toNat_natCast,L2 _ this];rfl
 rw [←e,List.map_map]
 conv=>lhs;rw [←List.map_id o]
 rfl
theorem C0j {total:Int} {ws:List Int} (h:P3 total ws):D5 total ws=Q0 ((List.range ws.length).map (shQ total (A5 ws) ws)) ((shR total (A5 ws) ws).take (G3 total (A5 ws) ws ws.length).toNat)∧0≤G3 total (A5 ws) ws ws.length∧G3 total (A5 ws) ws ws.length≤ws.length:=by
 by_cases hS:A5 ws=0
 ·have ht:=h.none hS
  have hq:∀ k,shQ total (A5 ws) ws k=0:=fun k=>by unfold shQ;rw [ht,Int.zero_mul,Int.zero_ediv]
  have hl:G3 total (A5 ws) ws ws.length=0:=by
   unfold G3
   rw [show (List.range ws.length).map (shQ total (A5 ws) ws)=List.replicate ws.length 0 from by
    rw [List.eq_replicate_iff]
    exact ⟨by simp,fun b hb=>by obtain ⟨k,_,rfl⟩:=List.mem_map.1 hb;exact hq k⟩,ht]
   have:∀ n,A5 (List.replicate n 0)=0:=fun n=>by
    induction n with
    | zero=>rfl
    | succ n ih=>rw [List.replicate_succ',G1,ih];rfl
   rw [this];rfl
  refine ⟨?_,by omega,by omega⟩
  rw [hl]
  unfold D5
  rw [if_pos hS]
  show ws.map (fun _=>0)=Q0 _ []
  unfold Q0
  refine List.ext_getElem (by simp) fun k h1 h2=>?_
  simp [hq]
 ·have hS':0<A5 ws:=by have:=C4 h.w0;omega
  refine ⟨?_,A2m h hS'⟩
  unfold D5;rw [if_neg hS]
set_option maxHeartbeats 1000000 in
theorem A6q (total:Int) (ws:List Int) (h:P3 total ws) (st:St):S P 257 [eI total,A6 ws] st fun v st'=>v=.tuple [A6 (D5 total ws),eI 0]∧st'=st:=by
 obtain ⟨hR,hl0,hl1⟩:=C0j h
 have hlen:=h.len
 have hS0:=C4 h.w0
 have hSm:=h.sum
 have ht0:=h.t0
 have ht1:=h.t1
 refine S.post (post:=fun v st'=>∃ (bo:Nat) (f:Nat→AV),st bo=none∧v=.tuple [.own 1 bo 0 ws.length,eI 0]∧st'=upd st bo ⟨2,1,ws.length,f⟩∧∀ k,k<ws.length→f k=eI (gI (D5 total ws) k)) ?_
  (fun v st' ⟨bo,f,hb,hv,hs,hf⟩=>⟨_,st,⟨rfl,rfl⟩,by
   subst hv;subst hs
   have hL:(D5 total ws).length=ws.length:=by rw [hR,A1b];simp
   have e:A6 (D5 total ws)=.arr 1 ws.length (fun k=>eI (gI (D5 total ws) k)):=by unfold A6 B2;rw [hL]
   rw [e]
   have h2:=G0 (st:=upd st bo ⟨2,1,ws.length,f⟩) (e:=1) (b:=bo) (n:=ws.length) (f:=fun k=>eI (gI (D5 total ws) k)) (A0 ..) rfl (Nat.le_refl _) hf
   rw [A2B hb] at h2
   exact B0.tuple (B0.cons h2 (B0.keep _ _)) rfl⟩)
 refine A8 [] B8 mixed Tryz.func257 (by rfl) rfl rfl rfl ?_;conv=>whnf
 refine A7 (A1x total st) ?_
 rw [(A0q total).2 ⟨ht0,ht1⟩];conv=>whnf
 rw [decide_eq_false (show ¬(ws.length:Int)>100000 by omega)];conv=>whnf
 refine lp ws.length [0,1,6] (fun i vs s=>vs=[eI total,A6 ws,eI i]∧s=st) ?_ ?_
 ·conv=>whnf
  exact ⟨rfl,rfl⟩
 ·rintro i vs st' hi ⟨rfl,rfl⟩
  conv=>whnf
  cases hd:decide ((i:Int)<(ws.length:Int))
  case true =>
   have hi':=E4 hd
   have hm:=B3 hi'
   conv=>whnf
   refine ⟨rfl,⟨by omega,by omega⟩,?_⟩;conv=>whnf
   refine A7 (A1x _ _) ?_
   rw [(A0q (ws.getD (i:Int).toNat default)).2 ⟨h.w0 _ hm,Int.le_trans (I5 h.w0 hm) hSm⟩];conv=>whnf
   refine ⟨rfl,?_⟩;conv=>whnf
   exact nx hi' ⟨by rw [B9 (by omega)],rfl⟩
  clear hd
  conv=>whnf
  refine lp ws.length [0,1,7,8] (fun i vs s=>vs=[eI total,A6 ws,eI (A5 (ws.take i)),eI i]∧s=st') ?_ ?_
  ·conv=>whnf
   exact ⟨rfl,rfl⟩
  ·clear hi
   rintro i vs st hi ⟨rfl,rfl⟩
   conv=>whnf
   cases hd:decide ((i:Int)<(ws.length:Int))
   case true =>
    have hi':=E4 hd
    have e:=L3 hi'
    have h1:=C4 (l:=ws.take i) (fun x hx=>h.w0 x (List.take_subset _ _ hx))
    have h2:=J9 h.w0 (i+1)
    have h3:=h.w0 _ (B3 hi')
    have w:IntKind.i64.wrap (A5 (ws.take i)+ws.getD (i:Int).toNat default)=A5 (ws.take (i+1)):=by rw [e];exact A9 (by rw [Int.toNat_natCast];omega) (by rw [Int.toNat_natCast];show A5 (ws.take i)+gI ws i≤_;omega)
    conv=>whnf
    refine ⟨rfl,⟨by omega,by omega⟩,?_⟩;conv=>whnf
    rw [w,decide_eq_false (show ¬ A5 (ws.take (i+1))>100000000000000 by omega)];conv=>whnf
    refine ⟨rfl,?_⟩;conv=>whnf
    exact nx hi' ⟨by rw [B9 (by omega)],rfl⟩
   obtain rfl:=C6 hd hi
   rw [List.take_length]
   have hz:(A5 ws==0)=true→(total != 0)=false:=fun e=>by rw [h.none (eq_of_beq e)];rfl
   cases h0:(A5 ws==0)
   case' true =>
    conv=>whnf
    rw [h0];conv=>whnf
    rw [hz h0]
   case' false =>
    conv=>whnf
    rw [h0]
   all_goals (conv=>whnf)
   all_goals refine mkO rfl rfl rfl (by show 8 * ws.length≤_;omega) (by omega) (by rfl) (fun b1 hb1=>?_)
   all_goals (conv=>whnf)
   all_goals refine mkO rfl rfl rfl (by show 8 * ws.length≤_;omega) (by omega) (by rfl) (fun b2 hb2=>?_)
   all_goals (conv=>whnf)
   all_goals
    have hne:b1≠b2:=fun e=>by subst e;rw [A0] at hb2;cases hb2
    have hb2':st b2=none:=by rw [A4 hne.symm] at hb2;exact hb2
    refine lp ws.length [0,1,7,9,10,11,12] (fun i vs s=>vs=[eI total,A6 ws,eI (A5 ws),.own 1 b1 0 ws.length,.own 1 b2 0 ws.length,eI (G3 total (A5 ws) ws i),eI i]∧(A5 ws=0→i=0)∧∃ f1 f2,s=upd (upd st b1 ⟨2,1,ws.length,f1⟩) b2 ⟨2,1,ws.length,f2⟩∧∀ k,k<ws.length→f1 k=eI (if k<i then shQ total (A5 ws) ws k else 0)∧f2 k=eI (if k<i then total * gI ws k % A5 ws else 0)) ?_ ?_
    ·conv=>whnf
     exact ⟨by rw [show G3 total (A5 ws) ws 0=total from by unfold G3;simp [A5]];rfl,fun _=>rfl,_,_,rfl,fun k hk=>⟨by rw [if_neg (by omega)];rfl,by rw [if_neg (by omega)];rfl⟩⟩
    ·rintro i vs s hi ⟨rfl,hSi,f1,f2,rfl,hf⟩
     conv=>whnf
     have fin:(∀ k,k<ws.length→f1 k=eI (shQ total (A5 ws) ws k)∧f2 k=eI (total * gI ws k % A5 ws))→G3 total (A5 ws) ws i=G3 total (A5 ws) ws ws.length→True:=fun _ _=>trivial
     have hend:(i=ws.length∨A5 ws=0)→(∀ k,k<ws.length→f1 k=eI (shQ total (A5 ws) ws k)∧f2 k=eI (total * gI ws k % A5 ws))∧G3 total (A5 ws) ws i=G3 total (A5 ws) ws ws.length:=fun hE=>by
      rcases hE with hE | hE
      ·subst hE
       exact ⟨fun k hk=>by have:=hf k hk;rwa [if_pos hk,if_pos hk] at this,rfl⟩
      ·have hi0:=hSi hE
       have ht:=h.none hE
       have hq:∀ k,shQ total (A5 ws) ws k=0:=fun k=>by unfold shQ;rw [ht,Int.zero_mul,Int.zero_ediv]
       have hz:∀ n,A5 ((List.range n).map (shQ total (A5 ws) ws))=0:=fun n=>by
        induction n with
        | zero=>rfl
        | succ n ih=>rw [K5,ih,hq];rfl
       refine ⟨fun k hk=>?_,?_⟩
       ·have:=hf k hk
        rw [if_neg (by omega),if_neg (by omega)] at this
        rw [hq,ht,Int.zero_mul,Int.zero_emod];exact this
       ·unfold G3;rw [hz,hz]
     cases hd:decide ((i:Int)<(ws.length:Int))
     case' false =>
      have hE:=hend (.inl (C6 hd hi))
      conv=>whnf
     case' true =>
      have hi':=E4 hd
      conv=>whnf
      cases hp:decide (A5 ws>0)
      case' false =>
       have hE:=hend (.inr (by have:=of_decide_eq_false hp;omega))
       conv=>whnf
      case' true =>
       have hS:0<A5 ws:=of_decide_eq_true hp
       have hm:gI ws i∈ws:=B3 hi'
       have hqb:=A4d h hS (show i≤ws.length by omega)
       have hqb':=A4d h hS (show i+1≤ws.length by omega)
       have hsr:=K5 (shQ total (A5 ws) ws) i
       have hq:=A3w h hS hi'
       have hpt:=B0i total (gI ws i) (A5 ws) ht0 ht1 (h.w0 _ hm) (Int.le_trans (I5 h.w0 hm) hSm) hS hSm (upd (upd st b1 ⟨2,1,ws.length,f1⟩) b2 ⟨2,1,ws.length,f2⟩)
       unfold A7T at hpt
       rw [if_neg (by have:total * gI ws i / A5 ws≤total:=hq.2;omega)] at hpt;conv=>whnf
       refine ⟨rfl,⟨by omega,by omega⟩,?_⟩;conv=>whnf
       refine A7 hpt ?_;conv=>whnf
       refine ⟨rfl,⟨by omega,by omega⟩,?_⟩;conv=>whnf
       refine G6 (by rw [A4 hne];exact A0 ..) rfl (by omega) (hf _ (by omega)).1 (by rfl) ?_
       rw [P9 hne.symm,B7];conv=>whnf
       refine ⟨rfl,⟨by omega,by omega⟩,?_⟩;conv=>whnf
       refine G6 (A0 ..) rfl (by omega) (hf _ (by omega)).2 (by rfl) ?_
       rw [B7];conv=>whnf
       refine ⟨rfl,⟨by omega,by omega⟩,?_⟩;conv=>whnf
       refine D9 (by rw [A4 hne];exact A0 ..) rfl (by omega) (A2 ..) ?_;conv=>whnf
       refine ⟨rfl,?_⟩;conv=>whnf
       have e:IntKind.i64.wrap (G3 total (A5 ws) ws i - total * gI ws i / A5 ws)=G3 total (A5 ws) ws (i+1):=by
        unfold G3
        have:total * gI ws i / A5 ws=shQ total (A5 ws) ws i:=rfl
        rw [this,A9 (by omega) (by omega)];omega
       refine nx hi' ⟨by rw [B9 (by omega),e],fun e=>by omega,_,_,rfl,fun k hk=>?_⟩
       rw [show 0+(i:Int).toNat=i by omega]
       by_cases e1:k=i
       ·subst e1;rw [A2,A2]
        refine ⟨?_,?_⟩
        ·show eI (shQ total (A5 ws) ws k)=_;rw [if_pos (by omega)]
        ·show eI (total * gI ws k % A5 ws)=_;rw [if_pos (by omega)]
       ·have h7:=hf k hk
        rw [H7 e1,H7 e1]
        by_cases h8:k<i
        ·rw [if_pos h8,if_pos h8] at h7;rw [if_pos (by omega),if_pos (by omega)];exact h7
        ·rw [if_neg h8,if_neg h8] at h7;rw [if_neg (by omega),if_neg (by omega)];exact h7
     all_goals
      obtain ⟨hE1,hE2⟩:=hE
      clear hend hf fin hSi
      rw [hE2]
      have hres:A3v total ws=A3v total ws:=rfl
      have hrl:(A3v total ws).length=ws.length:=by unfold A3v;simp
      have eA:A6 (A3v total ws)=.arr 1 ws.length (fun k=>eI (gI (A3v total ws) k)):=by unfold A6 B2;rw [hrl]
      refine F3 (args':=[A6 (A3v total ws)]) (by
       rw [eA]
       exact G0 (A0 ..) rfl (Nat.le_refl _) (fun k hk=>by show f2 k=_;rw [(hE1 k hk).2];unfold A3v;rw [L2 _ hk])) (call (B4l (A3v total ws) (by omega) _) (fun v s2 hv=>?_))
      obtain ⟨⟨o,ho1,ho2,rfl⟩,rfl⟩:=hv
      rw [hrl] at ho1
      have hoS:=C2W ho1 ho2
      have hol:o.length=ws.length:=by rw [ho1.length_eq,A7P]
      have hog:∀ k,k<ws.length→gI o k=(at_ (shR total (A5 ws) ws) k).2:=fun k hk=>by
       rw [hoS];exact E3 (fun e:QE=>e.2) _ (by rw [A5G];exact hk)
      have hdl:del (upd (upd st b1 ⟨2,1,ws.length,f1⟩) b2 ⟨2,1,ws.length,f2⟩) b2=upd st b1 ⟨2,1,ws.length,f1⟩:=A2B (by rw [A4 hne.symm];exact hb2') _
      rw [hdl];conv=>whnf
      refine lp (G3 total (A5 ws) ws ws.length).toNat [9,11,13,14] (fun i vs s=>vs=[.own 1 b1 0 ws.length,eI (G3 total (A5 ws) ws ws.length),A6 o,eI i]∧∃ f,s=upd st b1 ⟨2,1,ws.length,f⟩∧∀ k,k<ws.length→f k=eI (gI (Q0 ((List.range ws.length).map (shQ total (A5 ws) ws)) ((shR total (A5 ws) ws).take i)) k)) ?_ ?_
      ·conv=>whnf
       exact ⟨rfl,f1,rfl,fun k hk=>by rw [(hE1 k hk).1];show _=eI (gI ((List.range ws.length).map _) k);rw [L2 _ hk]⟩
      ·rintro t vs s ht ⟨rfl,f,rfl,hf⟩
       conv=>whnf
       cases hd2:decide ((t:Int)<G3 total (A5 ws) ws ws.length)
       ·have:t=(G3 total (A5 ws) ws ws.length).toNat:=by have:=of_decide_eq_false hd2;omega
        subst this;conv=>whnf
        exact ⟨b1,f,hb1,rfl,rfl,by rw [hR];exact hf⟩
       ·have ht':(t:Int)<G3 total (A5 ws) ws ws.length:=of_decide_eq_true hd2
        have hx:0≤(at_ (shR total (A5 ws) ws) t).2∧(at_ (shR total (A5 ws) ws) t).2.toNat<ws.length:=A8Z (total:=total) (S:=A5 ws) (ws:=ws) (B3 (l:=shR total (A5 ws) ws) (i:=t) (by rw [A5G];omega))
        have hgo:=hog t (by omega)
        have htk:=I6 (l:=shR total (A5 ws) ws) (i:=t) (by rw [A5G];omega)
        have hb1:=A3M ((List.range ws.length).map (shQ total (A5 ws) ws)) ((shR total (A5 ws) ws).take t) (at_ (shR total (A5 ws) ws) t).2.toNat
        rw [L2 _ hx.2,List.length_take] at hb1
        have hqq:0≤shQ total (A5 ws) ws (at_ (shR total (A5 ws) ws) t).2.toNat∧shQ total (A5 ws) ws (at_ (shR total (A5 ws) ws) t).2.toNat≤100000000000000:=by
         by_cases hS:A5 ws=0
         ·unfold shQ;rw [h.none hS,Int.zero_mul,Int.zero_ediv];omega
         ·have:=A3w h (show 0<A5 ws by omega) hx.2;omega
        have hx2:0≤gI o t∧(gI o t).toNat<ws.length:=by rw [hgo];exact hx
        conv=>whnf
        refine ⟨rfl,⟨by omega,by omega⟩,?_⟩;conv=>whnf
        refine ⟨rfl,⟨by show 0≤gI o t;omega,by show gI o t<(ws.length:Int);omega⟩,?_⟩;conv=>whnf
        refine D9 (A0 ..) rfl (by show 0+(gI o t).toNat<_;omega) (hf _ (by show 0+(gI o t).toNat<_;omega)) ?_;conv=>whnf
        refine ⟨rfl,⟨by show 0≤gI o t;omega,by show gI o t<(ws.length:Int);omega⟩,?_⟩;conv=>whnf
        refine G6 (A0 ..) rfl (by show 0+(gI o t).toNat<_;omega) (hf _ (by show 0+(gI o t).toNat<_;omega)) (by rfl) ?_
        rw [B7];conv=>whnf
        refine ⟨rfl,?_⟩;conv=>whnf
        refine nx (by omega) ⟨by rw [B9 (by omega)],_,rfl,fun k hk=>?_⟩
        rw [htk,A8i,C0d (by rw [A1b];simpa using hx.2)]
        show C9 f (0+(gI o t).toNat) (eI (IntKind.i64.wrap (gI (Q0 _ _) (0+(gI o t).toNat)+1))) k=_
        rw [Nat.zero_add,hgo]
        by_cases e1:k=(at_ (shR total (A5 ws) ws) t).2.toNat
        ·rw [if_pos e1,e1,A2,A9 (by omega) (by omega)]
        ·rw [if_neg e1,H7 e1];exact hf k hk
theorem B5N (us:List B5) (mine:List Int) (h:E9 us) (hm:M0 us mine) (st:St):S P 252 [D0 us,A6 mine] st fun v st'=>v=.bool true∧st'=st:=by
 have hlen:=h.len
 have hml:=hm.len
 refine A8 [] B8 mixed Tryz.func252 (by rfl) rfl rfl rfl ?_;conv=>whnf
 rw [decide_eq_false (show ¬(us.length:Int)>100000 by omega)];conv=>whnf
 refine lp us.length [0,1,5,6] (fun i vs s=>vs=[D0 us,A6 mine,eI (A5 ((E1 us).take i)),eI i]∧s=st) ?_ ?_
 ·conv=>whnf
  exact ⟨rfl,rfl⟩
 ·rintro i vs st' hi ⟨rfl,rfl⟩
  conv=>whnf
  cases hd:decide ((i:Int)<(us.length:Int))
  case true =>
   have hi':=E4 hd
   have e:=L3 (l:=E1 us) (i:=i) (by rw [List.length_map];exact hi')
   have e4:gI (E1 us) i=(gU us i).net:=E3 B5.net us hi'
   have h1:=C4 (l:=(E1 us).take i) (fun x hx=>h.nets0 x (List.take_subset _ _ hx))
   have h2:=J9 h.nets0 (i+1)
   have h3:=h.sum
   have h4:=h.at0 i
   have h5:=h.le (B3 hi')
   have w:IntKind.i64.wrap (A5 ((E1 us).take i)+(us.getD (i:Int).toNat default).net)=A5 ((E1 us).take (i+1)):=by rw [e,e4];exact A9 (by rw [Int.toNat_natCast];show _≤A5 ((E1 us).take i)+(gU us i).net;omega) (by rw [Int.toNat_natCast];show A5 ((E1 us).take i)+(gU us i).net≤_;omega)
   have f1:decide ((us.getD (i:Int).toNat default).net<0)=false:=decide_eq_false (by rw [Int.toNat_natCast];show ¬(gU us i).net<0;omega)
   have f2:decide ((us.getD (i:Int).toNat default).net>10000000000000)=false:=decide_eq_false (by rw [Int.toNat_natCast];omega)
   have f3:decide (A5 ((E1 us).take (i+1))>10000000000000)=false:=decide_eq_false (by omega)
   repeat' ((conv=>whnf);first | refine ⟨rfl,⟨by omega,by omega⟩,?_⟩ | rw [f1] | rw [f2] | rw [w,f3])
   conv=>whnf
   refine ⟨rfl,?_⟩;conv=>whnf
   exact nx hi' ⟨by rw [B9 (by omega)],rfl⟩
  conv=>whnf
  refine lp mine.length [0,1,7] (fun i vs s=>vs=[D0 us,A6 mine,eI i]∧s=st') ?_ ?_
  ·conv=>whnf
   exact ⟨rfl,rfl⟩
  ·rintro k vs st hk ⟨rfl,rfl⟩
   conv=>whnf
   cases hd2:decide ((k:Int)<(mine.length:Int))
   ·conv=>whnf
    exact ⟨rfl,rfl⟩
   ·have hk':=E4 hd2
    have hr:0≤mine.getD (k:Int).toNat default∧(mine.getD (k:Int).toNat default).toNat<us.length:=hm.rng k hk'
    have f1:decide (mine.getD (k:Int).toNat default<0)=false:=decide_eq_false (by omega)
    have f2:decide (mine.getD (k:Int).toNat default≥(us.length:Int))=false:=decide_eq_false (by omega)
    have f3:(!(us.getD (mine.getD (k:Int).toNat default).toNat default).opn)=false:=by
     have:=hm.opn k hk'
     rw [Bool.not_eq_false'];exact this
    conv=>whnf
    refine ⟨[],[],List.range 41,by kernel_rfl,?_⟩
    rcases Nat.eq_zero_or_pos k with h0 | h0
    ·have f4:decide ((k:Int)>0)=false:=decide_eq_false (by omega)
     repeat' ((conv=>whnf);first | refine ⟨rfl,⟨by omega,by omega⟩,?_⟩ | rw [f1] | rw [f2] | rw [f3] | rw [f4])
     conv=>whnf
     refine ⟨rfl,?_⟩;conv=>whnf
     exact nx hk' ⟨by rw [B9 (by omega)],rfl⟩
    ·have f4:decide ((k:Int)>0)=true:=decide_eq_true (by omega)
     have hw:=A6a h0 (by omega)
     have f5:decide (mine.getD (k:Int).toNat default≤mine.getD (IntKind.i64.wrap ((k:Int) - 1)).toNat default)=false:=decide_eq_false (by
      rw [hw,Int.toNat_natCast,Int.toNat_natCast]
      have:=hm.lt (k - 1) k (by omega) hk'
      exact Int.not_le.2 this)
     repeat' ((conv=>whnf);first | refine ⟨rfl,⟨by omega,by omega⟩,?_⟩ | refine ⟨rfl,⟨by rw [hw];omega,by rw [hw];omega⟩,?_⟩ | rw [f1] | rw [f2] | rw [f3] | rw [f4] | rw [f5])
     conv=>whnf
     refine ⟨rfl,?_⟩;conv=>whnf
     exact nx hk' ⟨by rw [B9 (by omega)],rfl⟩
theorem B7d (us:List B5) (mine:List Int) (h:E9 us) (hm:M0 us mine) (st:St):S P 253 [D0 us,A6 mine] st fun v st'=>v=A6 ((E2 us mine).map (·.2))∧st'=st:=by
 have hml:=hm.len
 have hul:=h.len
 have hnl:(F0 us mine).length=mine.length:=by unfold F0;rw [List.length_map]
 refine A0Z (ty:=3) ?_
 refine A8 [] B8 mixed Tryz.func253 (by rfl) rfl rfl rfl ?_;conv=>whnf
 refine A7 (A5F us mine (by omega) hm.rng st) ?_;conv=>whnf
 refine call (B4l (F0 us mine) (by omega) _) (fun v s hv=>?_)
 obtain ⟨⟨o,ho1,ho2,rfl⟩,rfl⟩:=hv
 rw [hnl] at ho1
 have hol:o.length=mine.length:=by rw [ho1.length_eq,A7P]
 have hom:∀ {k:Nat},k<o.length→0≤gI o k∧(gI o k).toNat<mine.length:=fun hk=>A7e ho1 (fun x hx=>A5B hx) hk
 have he:(E2 us mine).map (·.2)=o.map fun x=>gI mine x.toNat:=by
  have e:o.map (fun x=>B7P us (gI mine x.toNat))=E2 us mine:=by
   refine List.Perm.eq_of_pairwise (le:=fun a b=>G7 b a=false) (fun a b _ _ h1 h2=>A3p h2 h1) (List.pairwise_map.2 ?_) (A4b _) (((ho1.map _).trans ?_).trans (A2k ..).symm)
   ·refine List.Pairwise.imp_of_mem ?_ ho2
    intro a b ha hb hab
    obtain ⟨a0,a1⟩:=A5B (ho1.subset ha)
    obtain ⟨b0,b1⟩:=A5B (ho1.subset hb)
    unfold B1Q B0e at hab
    have ea:gI (F0 us mine) a.toNat=(gU us (gI mine a.toNat).toNat).net:=E3 (fun i:Int=>(gU us i.toNat).net) mine a1
    have eb:gI (F0 us mine) b.toNat=(gU us (gI mine b.toNat).toNat).net:=E3 (fun i:Int=>(gU us i.toNat).net) mine b1
    rw [ea,eb,P8] at hab
    unfold B7P
    rw [P8]
    simp only at hab ⊢
    rintro (h1 | ⟨h1,h2⟩)
    ·exact hab (.inl h1)
    ·refine hab (.inr ⟨h1,?_⟩)
     refine Int.lt_of_not_ge fun hge=>?_
     rcases Nat.eq_or_lt_of_le (show a.toNat≤b.toNat by omega) with e1 | e1
     ·rw [e1] at h2;omega
     ·have:=hm.lt a.toNat b.toNat e1 b1;omega
   ·unfold A3n
    rw [List.map_map]
    refine List.Perm.of_eq (List.ext_getElem (by simp) fun k h1 h2=>?_)
    have:k<mine.length:=by simpa using h1
    simp [gI,this]
  rw [←e,List.map_map];rfl
 rw [he];conv=>whnf
 refine lp o.length [1,5,6,7] (fun i vs s'=>∃ sv,vs=[A6 mine,A6 o,sv,eI i]∧F2 3 1 eI ((o.take i).map fun x=>gI mine x.toNat) s sv s') ?_ ?_
 ·conv=>whnf
  exact ⟨.emp,rfl,F2.start _ _ _ _⟩
 ·rintro i vs st' hi ⟨sv,rfl,hc⟩
  conv=>whnf
  cases hd:decide ((i:Int)<(o.length:Int))
  ·obtain rfl:=C6 hd hi
   rw [List.take_length] at hc;conv=>whnf
   exact hc
  ·have hi':=E4 hd
   have hx:=hom hi'
   conv=>whnf
   refine ⟨rfl,⟨by omega,by omega⟩,?_⟩;conv=>whnf
   refine ⟨rfl,⟨by show 0≤gI o i;omega,by show gI o i<(mine.length:Int);omega⟩,?_⟩;conv=>whnf
   refine F2.app (q:=r3) (y:=gI mine (gI o i).toNat) rfl rfl rfl rfl rfl rfl (by show (_+1) * 8≤140737488355328;rw [List.length_map,List.length_take];omega) hc (fun sv' s' hc'=>?_);conv=>whnf
   refine ⟨rfl,?_⟩;conv=>whnf
   refine nx hi' ⟨sv',by rw [B9 (by omega)],?_⟩
   rw [A2w hi'];exact hc'
theorem B7e (us:List B5) (items:List Ab.Item) (sc:S6) (h1:Sm sc.skus.length) (h2:Sm sc.cats.length) (hu:us.length≤100000) (hl:∀ u∈us,0≤u.line∧u.line.toNat<items.length) (st:St) :
  S P 168 [D0 us,B2 4 F1 items,A2Q sc] st fun v st'=>v=A6 (I8 sc items us us.length)∧st'=st:=by
 refine A0Z (ty:=3) ?_
 refine A8 [5] B8 mixed Tryz.func168 (by rfl) rfl rfl rfl ?_;conv=>whnf
 refine lp us.length [0,1,5,7,8] (fun i vs s=>∃ sv,vs=[D0 us,B2 4 F1 items,.fptr (A2Q sc) 0,sv,eI i]∧F2 3 1 eI (I8 sc items us i) st sv s) ?_ ?_
 ·conv=>whnf
  exact ⟨.emp,rfl,F2.start _ _ _ _⟩
 ·rintro i vs st' hi ⟨sv,rfl,hc⟩
  conv=>whnf
  cases hd:decide ((i:Int)<(us.length:Int))
  ·obtain rfl:=C6 hd hi
   conv=>whnf
   exact hc
  ·have hi':=E4 hd
   have hlk:0≤(us.getD (i:Int).toNat default).line∧(us.getD (i:Int).toNat default).line.toNat<items.length:=hl _ (B3 hi')
   have es:=A9J sc items us i
   have hpl:=A1Z sc items us i
   have eo:A0P sc items (gU us i)=((us.getD (i:Int).toNat default).opn&&A8G sc (items.getD (us.getD (i:Int).toNat default).line.toNat default)):=rfl
   rw [eo] at es
   have n1:=C5a sc (items.getD (us.getD (i:Int).toNat default).line.toNat default) h1 h2 st'
   generalize A8G sc (items.getD (us.getD (i:Int).toNat default).line.toNat default)=b1 at n1 es
   conv=>whnf
   refine ⟨[],[],List.range 17,by kernel_rfl,?_⟩;conv=>whnf
   refine ⟨rfl,⟨by omega,by omega⟩,?_⟩;conv=>whnf
   cases ho:(us.getD (i:Int).toNat default).opn
   case' true =>
    rw [ho,Bool.true_and] at es;conv=>whnf
    refine ⟨rfl,⟨by omega,by omega⟩,?_⟩;conv=>whnf
    refine ⟨rfl,⟨by omega,by omega⟩,?_⟩;conv=>whnf
    refine ⟨_,D1 n1,?_⟩
    cases b1
    case true =>
     rw [if_pos rfl] at es;conv=>whnf
     refine F2.app (q:=r3) (y:=(i:Int)) rfl rfl rfl rfl rfl rfl (by show (_+1) * 8≤140737488355328;omega) hc (fun sv' s' hc'=>?_);conv=>whnf
     refine ⟨rfl,?_⟩;conv=>whnf
     exact nx hi' ⟨sv',by rw [B9 (by omega)],by rw [es];exact hc'⟩
    rw [if_neg (by simp),List.append_nil] at es
   case' false =>
    rw [ho,Bool.false_and,if_neg (by simp),List.append_nil] at es
   all_goals (conv=>whnf)
   all_goals refine ⟨rfl,?_⟩
   all_goals (conv=>whnf)
   all_goals exact nx hi' ⟨sv,by rw [B9 (by omega)],by rw [es];exact hc⟩
theorem B0c (l:List A0a) (x:Int) (hl:l.length≤100000) (st:St):S P 311 [B2 3 P7 l,eI x] st fun v st'=>v=.tuple [P7 ((N1 l x).getD default),.bool (N1 l x).isSome]∧st'=st:=by
 refine A1u ?_
 refine A8 [] B8 mixed Tryz.func311 (by rfl) rfl rfl rfl ?_;conv=>whnf
 intro b hb;conv=>whnf
 have w0:IntKind.i64.wrap ((l.length:Int) - 1)=(l.length:Int) - 1:=A9 (by omega) (by omega)
 refine ⟨[0,1,4,6],fun m vs st'=>∃ (i:Int) (f:Nat→AV) (u:A0a),-1≤i∧i<l.length∧(∀ k:Nat,i<k→k<l.length→decide ((l.getD k default).least≤x)=false)∧m=(i+1).toNat∧vs=[B2 3 P7 l,eI x,.optr 3 b 0 0,eI i]∧st'=upd st b ⟨257,3,1,f⟩∧f 0=P7 u,?_,?_⟩
 ·conv=>whnf
  exact ⟨_,(l.length:Int) - 1,_,default,by omega,by omega,fun k h1 h2=>by omega,rfl,by rw [w0],rfl,rfl⟩
 ·rintro m vs st' ⟨i,f,u,h0,hi,hno,rfl,rfl,rfl,hf⟩
  conv=>whnf
  cases h:decide (i≥0)
  ·have:=of_decide_eq_false h
   have hr:N1 l x=none:=A7j fun k hk=>hno k (by omega) hk
   conv=>whnf
   refine G6 (A0 ..) rfl (by omega) hf (by rfl) ?_;conv=>whnf
   refine D9 (A0 ..) rfl (by omega) (A2 ..) ?_;conv=>whnf
   refine ⟨by rw [hr];rfl,((D7.refl st).upd hb).over hb⟩
  ·have hi0:=of_decide_eq_true h
   conv=>whnf
   refine ⟨rfl,⟨by omega,by omega⟩,?_⟩;conv=>whnf
   refine C3 (fun h1=>?_) (fun h1=>?_)
   ·have hr:N1 l x=some (l.getD i.toNat default):=A7k (by omega) (fun k h2 h3=>hno k (by omega) h3) h1
    rw [h1];conv=>whnf
    refine ⟨rfl,⟨by omega,by omega⟩,?_⟩;conv=>whnf
    refine G6 (A0 ..) rfl (by omega) hf (by rfl) ?_;conv=>whnf
    refine D9 (A0 ..) rfl (by omega) (A2 ..) ?_;conv=>whnf
    refine ⟨by rw [hr];rfl,((D7.refl st).upd hb).over hb⟩
   ·have w:IntKind.i64.wrap (i - 1)=i - 1:=A9 (by omega) (by omega)
    rw [h1];conv=>whnf
    refine ⟨rfl,?_⟩;conv=>whnf
    refine ⟨i.toNat,by omega,i - 1,f,u,by omega,by omega,fun k h2 h3=>?_,by omega,by rw [w],rfl,hf⟩
    rcases (by omega:k=i.toNat∨i<k) with e | e
    ·rw [e];exact h1
    ·exact hno k e h3
def A1L (us:List B5) (mine offs:List Int) (closes:Bool):List B5×Int :=
 if A5 offs=0 then (us,0) else (if closes=true then closeB (D4 us mine offs offs.length) mine else D4 us mine offs offs.length,A5 offs)
theorem A1X {us:List B5} {mine offs:List Int} (h:∀ k,k<offs.length→gI offs k=0):∀ k,k≤offs.length→D4 us mine offs k=us
 | 0,_=>rfl
 | k+1,hk=>by
  unfold D4
  rw [A1X h k (by omega),h k (by omega)]
  unfold less1
  refine List.ext_getElem (by simp) fun j h1 h2=>?_
  rw [List.getElem_set]
  split
  ·rename_i e;subst e
   have e:gU us (gI mine k).toNat=us[(gI mine k).toNat]:=by unfold gU;rw [List.getD_eq_getElem?_getD,List.getElem?_eq_getElem h2];rfl
   rw [e,Int.sub_zero]
  ·rfl
theorem A2N {l:List Int} (h0:∀ x∈l,0≤x) (hs:A5 l=0):∀ k,k<l.length→gI l k=0:=fun k hk=>by
 have h1:=h0 _ (B3 hk)
 have h2:=I5 h0 (B3 hk)
 show l.getD k default=0
 omega
theorem B2L (us:List B5) (mine offs:List Int) (closes:Bool) (hu:E9 us) (hm:W0 us mine) (hml:mine.length≤1000000) (hol:offs.length≤mine.length) (ho:∀ k,k<offs.length→0≤gI offs k∧gI offs k≤(gU us (gI mine k).toNat).net) (hs:A5 offs≤1000000000000000) (st:St) :
  S P 254 [D0 us,A6 mine,A6 offs,eB closes] st fun v st'=>v=.tuple [D0 (A1L us mine offs closes).1,eI (A1L us mine offs closes).2]∧st'=st:=by
 have hul:=hu.len
 have ho0:∀ x∈offs,0≤x:=fun x hx=>by obtain ⟨k,hk,rfl⟩:=E8 hx;exact (ho k hk).1
 refine S.post (post:=fun v st'=>∃ sv,v=.tuple [sv,eI (A1L us mine offs closes).2]∧A4q st (A1L us mine offs closes).1 sv st') ?_
  (fun v st' ⟨sv,hv,h⟩=>⟨_,st,⟨rfl,rfl⟩,by rw [hv];exact B0.tuple (B0.cons h.shift (B0.keep _ _)) rfl⟩)
 refine A8 [] B8 mixed Tryz.func254 (by rfl) rfl rfl rfl ?_
 have nsum:=fun s=>A8b offs (by omega) ho0 (by omega) s
 have hS:A1L us mine offs closes=if A5 offs=0 then (us,0) else (if closes=true then closeB (D4 us mine offs offs.length) mine else D4 us mine offs offs.length,A5 offs):=rfl
 conv=>whnf
 refine apE (q:=B8s) rfl rfl rfl rfl (A6s _ _ _ _) (by show us.length * 24≤_;omega) (fun h0=>?_) (fun h0 b hb=>?_)
 ·have hus:us=[]:=List.eq_nil_of_length_eq_zero h0
  have hmi:mine.length=0:=by
   rcases Nat.eq_zero_or_pos mine.length with e | e
   ·exact e
   ·have:=(hm.rng 0 e).2;omega
  have hof:offs=[]:=List.eq_nil_of_length_eq_zero (by omega)
  have hz:A5 offs=0:=by rw [hof];rfl
  rw [if_pos hz] at hS;conv=>whnf
  refine A7 (nsum _) ?_
  rw [hz];conv=>whnf
  exact ⟨_,by rw [hS];rfl,by rw [hS];exact ⟨D7.refl _,.inl ⟨hus,rfl⟩⟩⟩
 ·conv=>whnf
  refine A7 (nsum _) ?_;conv=>whnf
  cases hz:(A5 offs==0)
  case true =>
   rw [if_pos (eq_of_beq hz)] at hS;conv=>whnf
   exact ⟨_,by rw [hS];rfl,by rw [hS];exact ⟨(D7.refl _).upd hb,.inr ⟨b,hb,rfl,_,A0 ..,fun k hk=>rfl⟩⟩⟩
  rw [if_neg (ne_of_beq_false hz)] at hS;conv=>whnf
  refine lp offs.length [1,2,3,10,11] (fun i vs s=>vs=[A6 mine,A6 offs,eB closes,.own 3 b 0 us.length,eI i]∧∃ f,s=upd st b ⟨158,3,us.length,f⟩∧∀ j,j<us.length→f j=U9 (gU (D4 us mine offs i) j)) ?_ ?_
  ·conv=>whnf
   exact ⟨rfl,_,rfl,fun j hj=>rfl⟩
  ·rintro i vs s hi ⟨rfl,f,rfl,hf⟩
   conv=>whnf
   cases hd:decide ((i:Int)<(offs.length:Int))
   ·obtain rfl:=C6 hd hi
    have hlt:=O4 us mine offs offs.length
    conv=>whnf
    refine lp mine.length [1,2,3,10,12] (fun i vs s=>(closes=false→i=0)∧vs=[A6 mine,A6 offs,eB closes,.own 3 b 0 us.length,eI i]∧∃ f,s=upd st b ⟨158,3,us.length,f⟩∧∀ j,j<us.length→f j=U9 (gU (closeB (D4 us mine offs offs.length) (mine.take i)) j)) ?_ ?_
    ·conv=>whnf
     exact ⟨fun _=>rfl,rfl,_,rfl,hf⟩
    ·clear hf
     rintro i vs s hi ⟨hci,rfl,f,rfl,hf⟩
     conv=>whnf
     have hend:(i=mine.length∨closes=false)→∀ j,j<us.length→f j=U9 (gU (A1L us mine offs closes).1 j):=fun hE=>by
      intro j hj
      have h7:=hf j hj
      have e1:(A1L us mine offs closes).1=if closes=true then closeB (D4 us mine offs offs.length) mine else D4 us mine offs offs.length:=by rw [hS]
      rw [e1]
      cases hc:closes
      ·rw [hci hc,List.take_zero] at h7;rw [if_neg (by simp)];exact h7
      ·rcases hE with hE | hE
       ·rw [hE,List.take_length] at h7;rw [if_pos rfl];exact h7
       ·rw [hE] at hc;cases hc
     have hlen:(A1L us mine offs closes).1.length=us.length:=by
      rw [hS];show (if closes=true then _ else _:List B5).length=_
      split
      ·rw [A1d,hlt]
      ·exact hlt
     cases hd:decide ((i:Int)<(mine.length:Int))
     case' false =>
      have hE:=hend (.inl (C6 hd hi))
      conv=>whnf
     case' true =>
      have hi':=E4 hd
      conv=>whnf
      cases hc:closes
      case' false =>
       have hE:=hend (.inr hc)
       rw [hc] at hS hlen hE;conv=>whnf
      case' true =>
       have hr:=hm.rng i hi'
       conv=>whnf
       refine ⟨rfl,⟨by omega,by omega⟩,?_⟩;conv=>whnf
       refine ⟨rfl,⟨by show 0≤gI mine i;omega,by show gI mine i<(us.length:Int);omega⟩,?_⟩;conv=>whnf
       refine G6 (A0 ..) rfl (by show 0+(gI mine i).toNat<_;omega) (v:=U9 (gU (closeB (D4 us mine offs offs.length) (mine.take i)) (gI mine i).toNat)) (by rw [Nat.zero_add];exact hf _ hr.2) (by rfl) ?_
       rw [B7];conv=>whnf
       refine ⟨rfl,?_⟩;conv=>whnf
       have e:closeB (D4 us mine offs offs.length) (mine.take (i+1))=close1 (closeB (D4 us mine offs offs.length) (mine.take i)) (gI mine i).toNat:=P6 hi' _ _
       refine ⟨mine.length - (i+1),by omega,i+1,by omega,rfl,fun e=>Bool.noConfusion e,by rw [B9 (by omega)],_,rfl,fun j hj=>?_⟩
       rw [e,Nat.zero_add,show (mine.getD (i:Int).toNat default).toNat=(gI mine i).toNat from rfl]
       unfold close1
       rw [A4G (by rw [A1d,hlt];exact hr.2)]
       by_cases hj2:j=(gI mine i).toNat
       ·rw [if_pos hj2,hj2,A2];rfl
       ·rw [if_neg hj2,H7 hj2];exact hf j hj
     all_goals
      refine A7 (nsum _) ?_;conv=>whnf
      refine ⟨.own 3 b 0 us.length,by rw [hS];rfl,(D7.refl st).upd hb,.inr ⟨b,hb,by rw [hlen],f,by rw [hlen];exact A0 ..,fun k hk=>?_⟩⟩
      rw [hlen] at hk
      exact hE k hk
   ·have hi':=E4 hd
    have hr:=hm.rng i (by omega)
    have hat:=A2M (offs:=offs) hm (show i<mine.length by omega)
    have hx:=ho i hi'
    have hnet1:(gU us (gI mine i).toNat).net≤10000000000000:=hu.le (B3 hr.2)
    have hfm:f (0+(gI mine i).toNat)=U9 (gU (D4 us mine offs i) (gI mine i).toNat):=by rw [Nat.zero_add];exact hf _ hr.2
    conv=>whnf
    refine ⟨[20],[],List.range 21,by kernel_rfl,?_⟩;conv=>whnf
    refine ⟨rfl,⟨by omega,by omega⟩,?_⟩;conv=>whnf
    refine ⟨rfl,⟨by omega,by omega⟩,?_⟩;conv=>whnf
    refine ⟨rfl,⟨by show 0≤gI mine i;omega,by show gI mine i<(us.length:Int);omega⟩,?_⟩;conv=>whnf
    refine D9 (A0 ..) rfl (by show 0+(gI mine i).toNat<_;omega) hfm ?_;conv=>whnf
    refine ⟨rfl,⟨by omega,by omega⟩,?_⟩;conv=>whnf
    refine ⟨rfl,⟨by show 0≤gI mine i;omega,by show gI mine i<(us.length:Int);omega⟩,?_⟩;conv=>whnf
    refine G6 (A0 ..) rfl (by show 0+(gI mine i).toNat<_;omega) hfm (by rfl) ?_
    rw [B7];conv=>whnf
    refine ⟨rfl,?_⟩;conv=>whnf
    have w:IntKind.i64.wrap ((gU (D4 us mine offs i) (gI mine i).toNat).net - gI offs i)=(gU (D4 us mine offs i) (gI mine i).toNat).net - gI offs i:=by
     rw [hat];exact A9 (by omega) (by omega)
    refine nx hi' ⟨by rw [B9 (by omega)],_,rfl,fun j hj=>?_⟩
    show _=U9 (gU (less1 (D4 us mine offs i) (gI mine i).toNat (gI offs i)) j)
    unfold less1
    rw [A4G (by rw [O4];exact hr.2)]
    by_cases hj2:j=(gI mine i).toNat
    ·rw [if_pos hj2,hj2,←w]
     show C9 f (0+(gI mine i).toNat) _ _=_
     rw [Nat.zero_add,A2];rfl
    ·rw [if_neg hj2]
     show C9 f (0+(gI mine i).toNat) _ _=_
     rw [Nat.zero_add,H7 hj2];exact hf j hj
def K6 (p:B4) (x:Int):A0a:=(N1 p.tiers x).getD default
def T4 (p:B4) (nets:List Int):List Int :=
 if p.kind=1 then nets.map fun x=>I7 x p.rate else if p.kind=2 then nets.map fun x=>O6 x 0 p.amount
 else if p.kind=6 then nets.map fun x=>O6 x (K6 p nets.length).rate (K6 p nets.length).amount
 else D5 (O6 (A5 nets) (K6 p (A5 nets)).rate (K6 p (A5 nets)).amount) nets
theorem A7L {x:Int} (h0:0≤x) (h1:x≤100000000000000):I7 x 0=0:=by
 unfold I7
 rw [if_pos ⟨by omega,by omega⟩]
 unfold U2
 rw [if_neg (by rw [(A0q x).2 ⟨h0,h1⟩];decide),Int.mul_zero]
 rfl
theorem A9I {x rate amount:Int}:(if I7 x rate+amount<x then I7 x rate+amount else x)=O6 x rate amount:=by
 unfold O6;split<;>split<;>omega
theorem C3l (p:B4) (nets:List Int) (hp:A4s p) (hl:nets.length≤100000) (h0:∀ x∈nets,0≤x) (hs:A5 nets≤10000000000000) (st:St) :
  S P 255 [C1 p,A6 nets] st fun v st'=>v=A6 (T4 p nets)∧st'=st:=by
 refine S.post (post:=fun v st'=>(∃ st1,D7 st st1∧F2 2 1 eI (T4 p nets) st1 v st')∨(v=A6 (T4 p nets)∧D7 st st')) ?_
  (fun v st' h=>⟨_,st,⟨rfl,rfl⟩,by
   rcases h with ⟨st1,h1,h2⟩ | ⟨rfl,h1⟩
   ·exact h2.shift.trans (h1.shift _)
   ·exact h1.shift _⟩)
 have hx1:∀ x∈nets,x≤10000000000000:=fun x hx=>Int.le_trans (I5 h0 hx) hs
 have hsn:=C4 h0
 refine A8 [2] B8 mixed Tryz.func255 (by rfl) rfl rfl rfl ?_;conv=>whnf
 rcases hp.kind with hk | hk | hk | hk
 ·have hL:T4 p nets=nets.map fun x=>I7 x p.rate:=by unfold T4;rw [if_pos hk]
  rw [show (p.kind==1)=true from by rw [hk];rfl,hL];conv=>whnf
  refine lp nets.length [1,2,5,6] (fun i vs s=>∃ sv,vs=[A6 nets,.fptr (C1 p) 0,sv,eI i]∧F2 2 1 eI ((nets.take i).map fun x=>I7 x p.rate) st sv s) ?_ ?_
  ·conv=>whnf
   exact ⟨.emp,rfl,F2.start _ _ _ _⟩
  ·rintro i vs s hi ⟨sv,rfl,hc⟩
   conv=>whnf
   cases hd:decide ((i:Int)<(nets.length:Int))
   ·obtain rfl:=C6 hd hi
    rw [List.take_length] at hc;conv=>whnf
    exact .inl ⟨st,D7.refl _,hc⟩
   ·have hi':=E4 hd
    conv=>whnf
    refine ⟨[8,9],[],List.range 11,by kernel_rfl,?_⟩;conv=>whnf
    refine ⟨rfl,⟨by omega,by omega⟩,?_⟩;conv=>whnf
    refine ⟨_,D1 (A7l (nets.getD (i:Int).toNat default) p.rate _),?_⟩;conv=>whnf
    refine F2.app (q:=r2) (y:=I7 (nets.getD (i:Int).toNat default) p.rate) rfl rfl rfl rfl rfl rfl (by show (_+1) * 8≤140737488355328;rw [List.length_map,List.length_take];omega) hc (fun sv' s' hc'=>?_);conv=>whnf
    refine ⟨rfl,?_⟩;conv=>whnf
    exact nx hi' ⟨sv',by rw [B9 (by omega)],by rw [A2w hi'];exact hc'⟩
 ·have hL:T4 p nets=nets.map fun x=>O6 x 0 p.amount:=by unfold T4;rw [if_neg (by omega),if_pos hk]
  have ha:=hp.amount hk
  rw [show (p.kind==1)=false from by rw [hk];rfl,hL];conv=>whnf
  rw [show (p.kind==2)=true from by rw [hk];rfl];conv=>whnf
  refine lp nets.length [1,2,5,7] (fun i vs s=>∃ sv,vs=[A6 nets,.fptr (C1 p) 0,sv,eI i]∧F2 2 1 eI ((nets.take i).map fun x=>O6 x 0 p.amount) st sv s) ?_ ?_
  ·conv=>whnf
   exact ⟨.emp,rfl,F2.start _ _ _ _⟩
  ·rintro i vs s hi ⟨sv,rfl,hc⟩
   conv=>whnf
   cases hd:decide ((i:Int)<(nets.length:Int))
   ·obtain rfl:=C6 hd hi
    rw [List.take_length] at hc;conv=>whnf
    exact .inl ⟨st,D7.refl _,hc⟩
   ·have hi':=E4 hd
    have hz:I7 (nets.getD (i:Int).toNat default) 0=0:=A7L (h0 _ (B3 hi')) (Int.le_trans (hx1 _ (B3 hi')) (by decide))
    have hm:=A9I (x:=nets.getD (i:Int).toNat default) (rate:=0) (amount:=p.amount)
    rw [hz,Int.zero_add] at hm;conv=>whnf
    refine ⟨[8,9],[],List.range 11,by kernel_rfl,?_⟩;conv=>whnf
    refine ⟨rfl,⟨by omega,by omega⟩,?_⟩;conv=>whnf
    refine F2.app (q:=r2) (y:=O6 (nets.getD (i:Int).toNat default) 0 p.amount) rfl rfl rfl rfl rfl (by rw [←hm];rfl) (by show (_+1) * 8≤140737488355328;rw [List.length_map,List.length_take];omega) hc (fun sv' s' hc'=>?_);conv=>whnf
    refine ⟨rfl,?_⟩;conv=>whnf
    exact nx hi' ⟨sv',by rw [B9 (by omega)],by rw [A2w hi'];exact hc'⟩
 ·have hL:T4 p nets=D5 (O6 (A5 nets) (K6 p (A5 nets)).rate (K6 p (A5 nets)).amount) nets:=by unfold T4;rw [if_neg (by omega),if_neg (by omega),if_neg (by omega)]
  have ht:=hp.tiers (.inl hk)
  have hok:0≤(K6 p (A5 nets)).amount∧(K6 p (A5 nets)).amount≤10000000000000:=X7 ht (A5 nets)
  have hob:0≤O6 (A5 nets) (K6 p (A5 nets)).rate (K6 p (A5 nets)).amount∧O6 (A5 nets) (K6 p (A5 nets)).rate (K6 p (A5 nets)).amount≤A5 nets:=X4 hsn hok.1
  have hW:P3 (O6 (A5 nets) (K6 p (A5 nets)).rate (K6 p (A5 nets)).amount) nets:=⟨hob.1,by omega,hl,h0,by omega,fun e=>by omega⟩
  have hb:=Q7 (A5 nets) (K6 p (A5 nets)).rate
  have w:IntKind.i64.wrap (I7 (A5 nets) (K6 p (A5 nets)).rate+(K6 p (A5 nets)).amount)=I7 (A5 nets) (K6 p (A5 nets)).rate+(K6 p (A5 nets)).amount:=A9 (by omega) (by omega)
  rw [show (p.kind==1)=false from by rw [hk];rfl,hL];conv=>whnf
  rw [show (p.kind==2)=false from by rw [hk];rfl];conv=>whnf
  rw [show (p.kind==6)=false from by rw [hk];rfl];conv=>whnf
  rw [show (p.kind==5)=true from by rw [hk];rfl];conv=>whnf
  refine A7 (A8b nets (by omega) h0 (by omega) _) ?_;conv=>whnf
  refine A7 (B0c p.tiers (A5 nets) (by have:=ht.1;omega) _) ?_;conv=>whnf
  intro b hbn;conv=>whnf
  refine G6 (A0 ..) rfl (by omega) rfl (by rfl) ?_;conv=>whnf
  refine ⟨[],[],List.range 15,by kernel_rfl,?_⟩;conv=>whnf
  refine D9 (A0 ..) rfl (by omega) (v:=P7 (K6 p (A5 nets))) (by rw [A2];rfl) ?_;conv=>whnf
  refine ⟨_,D1 (A7l (A5 nets) (K6 p (A5 nets)).rate _),?_⟩;conv=>whnf
  refine D9 (A0 ..) rfl (by omega) (v:=P7 (K6 p (A5 nets))) (by rw [A2];rfl) ?_;conv=>whnf
  rw [w,A9I]
  refine ⟨_,D1 (A6q _ nets hW _),?_⟩;conv=>whnf
  exact .inr ⟨rfl,((D7.refl st).upd hbn).over hbn⟩
 ·have hL:T4 p nets=nets.map fun x=>O6 x (K6 p nets.length).rate (K6 p nets.length).amount:=by unfold T4;rw [if_neg (by omega),if_neg (by omega),if_pos hk]
  have ht:=hp.tiers (.inr hk)
  have hok:0≤(K6 p nets.length).amount∧(K6 p nets.length).amount≤10000000000000:=X7 ht nets.length
  rw [show (p.kind==1)=false from by rw [hk];rfl,hL];conv=>whnf
  rw [show (p.kind==2)=false from by rw [hk];rfl];conv=>whnf
  rw [show (p.kind==6)=true from by rw [hk];rfl];conv=>whnf
  refine A7 (B0c p.tiers nets.length (by have:=ht.1;omega) _) ?_;conv=>whnf
  intro b hbn;conv=>whnf
  refine G6 (A0 ..) rfl (by omega) rfl (by rfl) ?_
  rw [B7];conv=>whnf
  generalize hst1:upd st b _=st1
  obtain ⟨f1,hs1,hf1⟩:∃ f,st1 b=some ⟨257,3,1,f⟩∧f 0=P7 (K6 p nets.length):=⟨_,by rw [←hst1];exact A0 ..,by rw [A2];rfl⟩
  have hsup:D7 st st1:=by rw [←hst1];exact (D7.refl st).upd hbn
  clear hst1
  refine lp nets.length [1,5,8,10] (fun i vs s=>∃ sv,vs=[A6 nets,sv,.optr 3 b 0 0,eI i]∧F2 2 1 eI ((nets.take i).map fun x=>O6 x (K6 p nets.length).rate (K6 p nets.length).amount) st1 sv s) ?_ ?_
  ·conv=>whnf
   exact ⟨.emp,rfl,F2.start _ _ _ _⟩
  ·rintro i vs s hi ⟨sv,rfl,hc⟩
   have hb2:=hc.sup b _ hs1
   conv=>whnf
   cases hd:decide ((i:Int)<(nets.length:Int))
   ·obtain rfl:=C6 hd hi
    rw [List.take_length] at hc;conv=>whnf
    exact .inl ⟨st1,hsup,hc⟩
   ·have hi':=E4 hd
    have hb:=Q7 (nets.getD (i:Int).toNat default) (K6 p nets.length).rate
    have w:IntKind.i64.wrap (I7 (nets.getD (i:Int).toNat default) (K6 p nets.length).rate+(K6 p nets.length).amount)=I7 (nets.getD (i:Int).toNat default) (K6 p nets.length).rate+(K6 p nets.length).amount:=A9 (by omega) (by omega)
    have hm:=A9I (x:=nets.getD (i:Int).toNat default) (rate:=(K6 p nets.length).rate) (amount:=(K6 p nets.length).amount)
    rw [←w] at hm;conv=>whnf
    refine ⟨[16,17],[],List.range 19,by kernel_rfl,?_⟩;conv=>whnf
    refine ⟨rfl,⟨by omega,by omega⟩,?_⟩;conv=>whnf
    refine ⟨rfl,⟨by omega,by omega⟩,?_⟩;conv=>whnf
    refine D9 hb2 rfl (by omega) hf1 ?_;conv=>whnf
    refine ⟨_,D1 (A7l (nets.getD (i:Int).toNat default) (K6 p nets.length).rate _),?_⟩;conv=>whnf
    refine D9 hb2 rfl (by omega) hf1 ?_;conv=>whnf
    refine F2.app (q:=r2) (y:=O6 (nets.getD (i:Int).toNat default) (K6 p nets.length).rate (K6 p nets.length).amount) rfl rfl rfl rfl rfl (by rw [←hm];rfl) (by show (_+1) * 8≤140737488355328;rw [List.length_map,List.length_take];omega) hc (fun sv' s' hc'=>?_);conv=>whnf
    refine ⟨rfl,?_⟩;conv=>whnf
    exact nx hi' ⟨sv',by rw [B9 (by omega)],by rw [A2w hi'];exact hc'⟩
theorem C1v {α : Type} (l:List α):A5 (l.map fun _=>(0:Int))=0:=by
 induction l with
 | nil=>rfl
 | cons x l ih=>rw [List.map_cons,show (0:Int)::l.map (fun _=>(0:Int))=[0]++l.map (fun _=>(0:Int)) from rfl,G1,ih];rfl
theorem C0y {p:B4} (hp:A4s p) {nets:List Int} (h0:∀ x∈nets,0≤x) (hs:A5 nets≤10000000000000) (hl:nets.length≤100000) :
  T4 p nets=N4 p nets∨(N4 p nets=[]∧A5 (T4 p nets)=0∧(T4 p nets).length=nets.length∧∀ k,k<(T4 p nets).length→gI (T4 p nets) k=0):=by
 have hx1:∀ x∈nets,x≤10000000000000:=fun x hx=>Int.le_trans (I5 h0 hx) hs
 have ok:=A2I hp.right
 rcases hp.kind with hk | hk | hk | hk
 ·refine .inl ?_
  unfold T4 N4 B3R
  rw [if_pos hk,if_pos hk]
  refine List.map_congr_left fun x hx=>?_
  have hr:1≤p.rate∧p.rate≤10000:=by
   have:=hp.right
   unfold I9 A5W A7d at this
   rw [if_pos hk] at this
   simp only [Bool.and_eq_true,J2] at this
   exact this.2
  have:=A3Z (h0 x hx) (show 0≤p.rate by omega) hr.2
  unfold O6
  rw [Int.add_zero];split<;>omega
 ·refine .inl ?_
  unfold T4 N4 B3Q
  rw [if_neg (by omega),if_pos hk,if_neg (by omega),if_pos hk]
 ·unfold T4 N4 A4l
  rw [if_neg (by omega),if_neg (by omega),if_neg (by omega),if_neg (by omega),if_neg (by omega),if_pos hk]
  cases hr:N1 p.tiers (A5 nets) with
  | some t=>refine .inl ?_;unfold K6;rw [hr];rfl
  | none =>
   have hsn:=C4 h0
   have e:O6 (A5 nets) (K6 p (A5 nets)).rate (K6 p (A5 nets)).amount=0:=by
    unfold K6;rw [hr]
    show O6 (A5 nets) 0 0=0
    unfold O6
    rw [A7L hsn (by omega),Int.add_zero];split<;>omega
   rw [e]
   have hW:P3 0 nets:=⟨by omega,by omega,hl,h0,by omega,fun _=>rfl⟩
   obtain ⟨a,b,c⟩:=Q4 hW
   exact .inr ⟨rfl,a,b,A2N c a⟩
 ·unfold T4 N4 A4k
  rw [if_neg (by omega),if_neg (by omega),if_pos hk,if_neg (by omega),if_neg (by omega),if_neg (by omega)]
  cases hr:N1 p.tiers nets.length with
  | some t=>refine .inl ?_;unfold K6;rw [hr];rfl
  | none =>
   have e:(nets.map fun x=>O6 x (K6 p nets.length).rate (K6 p nets.length).amount)=nets.map fun _=>(0:Int):=by
    refine List.map_congr_left fun x hx=>?_
    unfold K6;rw [hr]
    show O6 x 0 0=0
    unfold O6
    rw [A7L (h0 x hx) (Int.le_trans (hx1 x hx) (by decide)),Int.add_zero]
    have:=h0 x hx
    split<;>omega
   rw [e]
   exact .inr ⟨rfl,C1v nets,by simp,fun k hk=>by rw [List.length_map] at hk;exact E3 (fun _:Int=>(0:Int)) nets hk⟩
theorem A3T (us:List B5) (mine:List Int):(F0 us mine).length=mine.length:=List.length_map ..
theorem A9N {us:List B5} (hu:E9 us) {mine:List Int} (hm:M0 us mine):(∀ x∈F0 us mine,0≤x)∧A5 (F0 us mine)≤10000000000000:=by
 have hwl:=B0A hu hm.places
 have hus:=hu.sum
 exact ⟨fun x hx=>by obtain ⟨i,hi,rfl⟩:=List.mem_map.1 hx;exact hu.at0 _,by rw [A7a];omega⟩
theorem B3K {p:B4} {us:List B5} {mine:List Int} (h0:∀ x∈N4 p (F0 us mine),0≤x):A1L us mine (N4 p (F0 us mine)) p.closes=W1 p us mine:=by
 have hn:=C4 h0
 unfold A1L W1
 by_cases hz:A5 (N4 p (F0 us mine))=0
 ·rw [if_pos hz]
  simp only
  rw [hz,A1X (A2N h0 hz) _ (Nat.le_refl _)];rfl
 ·rw [if_neg hz]
  simp only
  rw [decide_eq_true (show A5 (N4 p (F0 us mine))>0 by omega),Bool.true_and]
theorem C0N (p:B4) (us:List B5) (mine:List Int) (hp:A4s p) (hps:A2z p) (hu:E9 us) (hm:M0 us mine) (st:St) :
  S P 171 [C1 p,D0 us,A6 mine] st fun v st'=>v=.tuple [D0 (W1 p us mine).1,eI (W1 p us mine).2]∧st'=st:=by
 have hml:=hm.len
 have hul:=hu.len
 obtain ⟨hn0,hns⟩:=A9N hu hm
 have hnl:=A3T us mine
 have hob:=A3U hp hn0 hns (by omega)
 obtain ⟨ob1,ob2,ob3⟩:=hob
 have hle:=B6Y hp hn0 hns (by omega)
 have hcz:=C0y hp hn0 hns (by omega)
 have hlen:(T4 p (F0 us mine)).length≤mine.length:=by
  rcases hcz with e | ⟨_,_,e,_⟩
  ·rw [e];omega
  ·omega
 have hc:∀ k,k<(T4 p (F0 us mine)).length→0≤gI (T4 p (F0 us mine)) k∧gI (T4 p (F0 us mine)) k≤(gU us (gI mine k).toNat).net:=fun k hk=>by
  rcases hcz with e | ⟨_,_,_,e⟩
  ·rw [e] at hk ⊢
   have h1:=hle k hk
   rw [show gI (F0 us mine) k=(gU us (gI mine k).toNat).net from E3 (fun i:Int=>(gU us i.toNat).net) mine (by omega)] at h1
   exact ⟨ob3 _ (B3 hk),h1⟩
  ·rw [e k hk];exact ⟨Int.le_refl _,hu.at0 _⟩
 have hsum:A5 (T4 p (F0 us mine))≤1000000000000000:=by
  rcases hcz with e | ⟨_,e,_⟩<;>rw [e]<;>omega
 have hE:A1L us mine (T4 p (F0 us mine)) p.closes=W1 p us mine:=by
  rcases hcz with e | ⟨e1,e2,_⟩
  ·rw [e];exact B3K ob3
  ·unfold A1L W1
   rw [if_pos e2,e1];rfl
 rw [←hE]
 refine A8 [3] B8 mixed Tryz.func171 (by rfl) rfl rfl rfl ?_;conv=>whnf
 refine A7 (A3W p hps hp.right st) ?_;conv=>whnf
 refine A7 (B5N us mine hu hm st) ?_;conv=>whnf
 refine ⟨[],[],List.range 14,by kernel_rfl,?_⟩;conv=>whnf
 refine ⟨_,D1 (A5F us mine (by omega) hm.rng st),?_⟩;conv=>whnf
 refine ⟨_,D1 (C3l p (F0 us mine) hp (by omega) hn0 hns st),?_⟩;conv=>whnf
 refine ⟨_,D1 (B2L us mine (T4 p (F0 us mine)) p.closes hu hm.places (by omega) hlen hc hsum st),?_⟩;conv=>whnf
 exact ⟨rfl,rfl⟩
end Go.Proofs.YthdimklenlikgaaGreat
