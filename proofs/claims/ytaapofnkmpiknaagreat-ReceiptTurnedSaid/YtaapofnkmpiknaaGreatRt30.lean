/- Part 30 of the proof: contracts of the functions that the law reaches -/
import Derived.Test.YtaapofnkmpiknaaGreatRt29
set_option maxRecDepth 100000
set_option linter.unusedVariables false
set_option linter.unusedSimpArgs false
namespace Go.Proofs.YtaapofnkmpiknaaGreat
open Go Go.Ab
def C2U (rates:List Int) (i:Nat):QE:=(-(gI rates i),(i:Int))
def B9k (rates:List Int):List QE:=(List.range rates.length).map (C2U rates)
def A9T (rates:List Int):List QE:=(B9k rates).mergeSort fun a b=>!G4 b a
theorem A8J (rates:List Int):(A9T rates).Pairwise fun a b=>G4 b a=false:=by
 have:=D7T (le:=fun a b:QE=>!G4 b a) (fun a b c h1 h2=>by simp only [D5Q] at *;exact A0F h2 h1) (fun a b=>by
  cases h:G4 b a with
  | false=>rfl
  | true=>rw [A0q h];rfl) (B9k rates)
 exact this.imp (fun h=>by simpa using h)
theorem A5j (rates:List Int):(A9T rates).Perm (B9k rates):=D8o ..
def K9 (rates:List Int) (k:Int):List Nat:=(List.range rates.length).filter fun i=>-(gI rates i)==k
theorem C1D (rates:List Int) (k:Int):(A9T rates).filter (fun e=>e.1==k)=(K9 rates k).map fun i:Nat=>(k,(i:Int)):=by
 have h1:((A9T rates).filter (fun e=>e.1==k)).Perm ((K9 rates k).map fun i:Nat=>(k,(i:Int))):=by
  refine ((A5j rates).filter _).trans ?_
  unfold B9k K9
  rw [List.filter_map]
  refine List.Perm.of_eq ?_
  refine D6S fun i hi=>?_
  have:=(D6D.1 hi).2
  show (-(gI rates i),(i:Int))=(k,(i:Int))
  have h : -(gI rates i)=k:=by simpa [C2U] using this
  rw [h]
 refine h1.eq_of_pairwise (le:=fun a b=>G4 b a=false) (fun a b _ _ h3 h4=>(A4v h4 h3)) (D8x D7C (A8J rates)) ?_
 refine List.pairwise_map.2 ?_
 unfold K9
 refine (D8x D7C List.pairwise_lt_range).imp fun {a b} hab=>?_
 rw [S4]
 show ¬(k>k∨k=k∧(b:Int)<(a:Int))
 omega
theorem C1E {E:List QE} (hs:E.Pairwise fun a b=>G4 b a=false) {k:Int} (hk:∀ e∈E,e.1≤k):E=E.filter (fun e=>e.1==k)++E.filter (fun e=>!(e.1==k)):=by
 induction E with
 | nil=>rfl
 | cons e E ih =>
  have hs':=D7n.1 hs
  by_cases h:e.1=k
  ·rw [D6G (by simpa using h),D6N (by simpa using h),D7V,←ih hs'.2 fun x hx=>hk x (D6a _ hx)]
  ·have hlt:∀ x∈E,x.1<k:=fun x hx=>by
    have h1:=(S4 _ _).1 (hs'.1 x hx)
    have h2:=hk e (D6c ..)
    omega
   have hn:E.filter (fun e=>e.1==k)=[]:=List.filter_eq_nil_iff.2 fun x hx=>by have:=hlt x hx;simp;omega
   have ha:E.filter (fun e=>!(e.1==k))=E:=List.filter_eq_self.2 fun x hx=>by have:=hlt x hx;simp;omega
   rw [D6N (by simpa using h),D6G (by simpa using h),hn,ha];rfl
def A1H (rates:List Int) (D:Int→Bool):List QE:=(A9T rates).filter fun e=>!D e.1
theorem A8m (rates:List Int) (D:Int→Bool):(A1H rates D).Pairwise fun a b=>G4 b a=false:=D8x D7C (A8J rates)
theorem B7O {rates:List Int} {D:Int→Bool} {x:QE} {E:List QE} (h:A1H rates D=x::E) :
  D x.1=false∧x::E=((K9 rates x.1).map fun i:Nat=>(x.1,(i:Int)))++A1H rates (fun y=>D y||y==x.1):=by
 have hs:=A8m rates D
 have hx:x∈A1H rates D:=by rw [h];exact D6c ..
 have hD:D x.1=false:=by
  have:=(D6D.1 hx).2
  simpa using this
 refine ⟨hD,?_⟩
 have hk:∀ e∈A1H rates D,e.1≤x.1:=fun e he=>by
  rw [h] at he hs
  rcases D7c.1 he with rfl | he
  ·exact D6j _
  ·have:=(S4 _ _).1 ((D7n.1 hs).1 e he);omega
 have h2:=C1E hs hk
 rw [←h,h2]
 congr 1
 ·rw [←C1D]
  unfold A1H
  rw [List.filter_filter]
  refine List.filter_congr fun e he=>?_
  by_cases e1:e.1=x.1
  ·rw [e1,hD];simp
  ·simp [e1]
 ·unfold A1H
  rw [List.filter_filter]
  refine List.filter_congr fun e he=>?_
  show (!(e.1==x.1)&&!D e.1)=!(D e.1||e.1==x.1)
  rw [Bool.not_or,Bool.and_comm]
theorem B4s {rates:List Int} {D:Int→Bool} {k:Int}:∀ y∈A1H rates (fun z=>D z||z==k),(y.1==k)=false:=fun y hy=>by
 have:=(D6D.1 hy).2
 simp only [D5Q,D6P] at this
 exact this.2
theorem B5Q (rates:List Int):A1H rates (fun _=>false)=A9T rates:=List.filter_eq_self.2 fun x _=>rfl
theorem A0B {rates:List Int} {k:Int} {i:Nat} (hi:i∈K9 rates k) : -(gI rates i)=k∧i<rates.length∧A8o rates i=K9 rates k:=by
 have h1:=D6D.1 hi
 have h2 : -(gI rates i)=k:=by simpa using h1.2
 refine ⟨h2,D5U.1 h1.1,?_⟩
 unfold A8o K9
 refine List.filter_congr fun j _=>?_
 rw [D8G,D6z,D6z];omega
theorem B3s (rates:List Int) (k:Int):(K9 rates k).Nodup:=D8x D7C List.nodup_range
theorem C5G {rates:List Int} {k:Int} {j:Nat} (hj:j<(K9 rates k).length):A0D rates ((K9 rates k)[j])=j:=by
 have hm:=A0B (D6Z hj)
 have h1:=A8p hm.2.1
 rw [hm.2.2] at h1
 have h2:=D5S.1 h1
 obtain ⟨h3,h4⟩:=h2
 have:=(List.nodup_iff_pairwise_ne.1 (B3s rates k))
 rcases Nat.lt_trichotomy (A0D rates ((K9 rates k)[j])) j with e | e | e
 ·exact absurd h4 (D7j.1 this _ _ h3 hj e)
 ·exact e
 ·exact absurd h4.symm (D7j.1 this _ _ hj h3 e)
def A2H (t:Tax) (rates nets:List Int) (k:Int):List Int:=D2 (N8 t (A2 ((K9 rates k).map (gI nets))) (-k)) ((K9 rates k).map (gI nets))
theorem C3E {t:Tax} {rates nets:List Int} {k:Int} {j:Nat} (hj:j<(K9 rates k).length):gI (A2H t rates nets k) j=A1L t rates nets ((K9 rates k)[j]):=by
 have hm:=A0B (D6Z hj)
 unfold A2H A1L I7
 rw [C5G hj,hm.2.2,show gI rates ((K9 rates k)[j]) = -k by omega]
end Go.Proofs.YtaapofnkmpiknaaGreat
namespace Go.Proofs.YtaapofnkmpiknaaGreat
open Go Go.Ab
attribute [local irreducible] upd del
theorem C3O (st0:St) (q:Nat) (f:Bool) (st:St) (h:QSt st0 q f [] st):S P 237 [.optr 1 q 0 0] st fun v st'=>v=.tuple [eI 0,eI 0,.bool false]∧st'=st:=by
 obtain ⟨h1,h2,sv,⟨fq,hqs,hq0⟩,h3⟩:=h
 refine F1 [] Tryz.func237 ?_
 rcases h3 with ⟨_,rfl⟩ | ⟨b,l,n,a1,a2,rfl,a4,a5,a6,a7,a8,a9⟩
 ·refine I4 hqs hq0 ?_
  exact ⟨rfl,rfl⟩
 ·have e:n=0:=by
   have:=a8.length_eq
   rw [D5K,D6T] at this;omega
  subst e
  refine I4 hqs hq0 ?_
  exact ⟨rfl,rfl⟩
theorem B4L (st0:St) (q:Nat) (f:Bool) (x:QE) (es:List QE) (st:St) (h:QSt st0 q f (x::es) st) (htop:∀ y∈es,G4 y x=false):S P 237 [.optr 1 q 0 0] st fun v st'=>v=.tuple [eI x.1,eI x.2,.bool true]∧st'=st:=by
 obtain ⟨h1,h2,sv,hq,h3⟩:=h
 rcases h3 with ⟨h,_⟩ | ⟨b,l,n,a1,a2,rfl,a4,a5,a6,a7,a8,a9⟩
 ·cases h
 have hn:n=es.length+1:=by
  have:=a8.length_eq
  rw [D5K,D6n] at this;omega
 subst hn
 have hx:at_ l 0=x:=by
  have m0:at_ l 0∈x::es:=by
   refine a8.subset ?_
   have:(l.take (es.length+1)).getD 0 default=at_ l 0:=by
    unfold at_;rw [D5A,D5A,D5O (by omega)]
   rw [←this];exact A6 (by rw [D5K];omega)
  have hmem:x∈l.take (es.length+1):=a8.symm.subset (D6c ..)
  obtain ⟨k,hk,he⟩:=D3 hmem
  rw [D5K] at hk
  have hxk:x=at_ l k:=by
   rw [he];unfold at_;rw [D5A,D5A,D5O (by omega)]
  have t1:G4 x (at_ l 0)=false:=by rw [hxk];exact a6.top k (by omega)
  rcases D7c.1 m0 with e | e
  ·exact e
  ·exact A4v (htop _ e) t1
 obtain ⟨fq,hqs,hq0⟩:=hq
 obtain ⟨fe,hes,hef⟩:=a7
 have h0:fe 0=A5M x:=by rw [hef 0 (by omega),hx]
 refine F1 [] Tryz.func237 ?_
 refine I4 hqs hq0 ?_
 rw [show (((es.length+1:Nat):Int)==0)=false by rw [D6l];omega];conv=>whnf
 refine ⟨[],[],List.range 17,by kernel_rfl,?_⟩;conv=>whnf
 refine I4 hqs hq0 ?_
 refine E4 ?_
 refine ldV hes rfl (by omega) (v:=A5M x) h0 ?_;conv=>whnf
 refine I4 hqs hq0 ?_
 refine E4 ?_
 refine ldV hes rfl (by omega) (v:=A5M x) h0 ?_;conv=>whnf
 exact ⟨rfl,rfl⟩
def IsL (L:List Int) (y:K8):Prop:=∃ f,y=⟨2,1,L.length,f⟩∧∀ i,i<L.length→f i=eI (gI L i)
def OQ (bo q:Nat) (L:List Int) (fl:Bool) (es:List QE):St→St→Prop:=Y4 bo (IsL L) (fun s t=>QSt s q fl es t)
theorem B0R (bo q:Nat) (L:List Int) (fl:Bool) (es:List QE):L3 (OQ bo q L fl es):=A0y (B9a q fl es)
abbrev gN (G:List Nat) (i:Nat):Int:=((G.getD i 0:Nat):Int)
def QJ (G:List Nat) (k:Int) (Rest:List QE) (j:Nat):List QE:=((G.drop j).map fun i:Nat=>(k,(i:Int)))++Rest
theorem C5g {G:List Nat} {k:Int} {Rest:List QE} {j:Nat} (hj:j<G.length):QJ G k Rest j=(k,gN G j)::QJ G k Rest (j+1):=by
 unfold QJ gN
 rw [D7E hj,D5A,D5I hj];rfl
theorem C2i {G:List Nat} {k:Int} {Rest:List QE}:QJ G k Rest G.length=Rest:=by
 unfold QJ;rw [List.drop_length];rfl
def C3H (es:List QE):AV:=match es with
 | []=>.tuple [eI 0,eI 0,.bool false]
 | y::_=>.tuple [eI y.1,eI y.2,.bool true]
theorem C3P (st0:St) (q:Nat) (f:Bool) (es:List QE) (st:St) (h:QSt st0 q f es st) (hs:es.Pairwise fun a b=>G4 b a=false):S P 237 [.optr 1 q 0 0] st fun v st'=>v=C3H es∧st'=st:=by
 cases es with
 | nil=>exact C3O st0 q f st h
 | cons y es=>exact B4L st0 q f y es st h (D7n.1 hs).1
def B3p (t:Tax) (rates nets:List Int) (D:Int→Bool) (L:List Int):Prop:=L.length=nets.length∧∀ i,i<nets.length→gI L i=if D (-(gI rates i))=true then A1L t rates nets i else 0
theorem C2Z {a b:List Int} (hl:a.length=b.length) (h:∀ i,i<a.length→gI a i=gI b i):a=b:=D8i hl fun i h1 h2=>by
 have:=h i h1
 unfold gI at this
 rw [D5A,D5I h1,D5A,D5I h2] at this
 exact this
theorem C2S {t:Tax} {rates nets:List Int} {D:Int→Bool} {L:List Int} (h:B3p t rates nets D L) (hr:rates.length=nets.length) (hE:A1H rates D=[]):L=G9 t rates nets:=by
 have hl:(G9 t rates nets).length=nets.length:=by unfold G9;rw [D5F,D6d]
 refine C2Z (by rw [h.1,hl]) fun i h1=>?_
 have hi:i<nets.length:=by rw [←h.1];exact h1
 have h3:=h.2 i hi
 have hD:D (-(gI rates i))=true:=by
  have hm:C2U rates i∈A9T rates:=(A5j rates).mem_iff.2 (D5X.2 ⟨i,D5U.2 (by omega),rfl⟩)
  have:=List.filter_eq_nil_iff.1 hE _ hm
  simpa [C2U] using this
 rw [if_pos hD] at h3
 rw [h3]
 unfold G9 gI
 rw [D5A,D6y,D7e hi];rfl
def A4w (L:List Int) (G:List Nat) (X:List Int):Nat→List Int
 | 0=>L
 | j+1=>(A4w L G X j).set (G.getD j 0) (gI X j)
theorem A8A (L:List Int) (G:List Nat) (X:List Int) (j:Nat):(A4w L G X j).length=L.length:=by
 induction j with
 | zero=>rfl
 | succ j ih=>show ((A4w L G X j).set _ _).length=_;rw [D6M,ih]
theorem B9C {L:List Int} {G:List Nat} {X:List Int} (hn:G.Nodup) (hG:∀ i∈G,i<L.length):∀ j,j≤G.length→∀ i,i<L.length→gI (A4w L G X j) i=if i∈G.take j then gI X (G.idxOf i) else gI L i
 | 0,_,i,hi=>by rw [D7o,if_neg D7f];rfl
 | j+1,hj,i,hi=>by
  have ih:=B9C (X:=X) hn hG j (by omega) i hi
  have hgj:G.getD j 0=G[j]:=by rw [D5A,D5I (by omega)];rfl
  show gI ((A4w L G X j).set (G.getD j 0) (gI X j)) i=_
  rw [hgj,D7F (show j<G.length by omega)]
  by_cases e:G[j]=i
  ·have hidx:G.idxOf i=j:=by rw [←e];exact hn.idxOf_getElem j (by omega)
   rw [if_pos (List.mem_append_right _ (D6f.2 e.symm)),hidx]
   unfold gI
   rw [e,D5A,List.getElem?_set_self (by rw [A8A];exact hi)];rfl
  ·have hs:gI ((A4w L G X j).set G[j] (gI X j)) i=gI (A4w L G X j) i:=by
    unfold gI;rw [D5A,D7u e,←D5A]
   rw [hs,ih]
   by_cases hm:i∈G.take j
   ·rw [if_pos hm,if_pos (List.mem_append_left _ hm)]
   ·rw [if_neg hm,if_neg]
    intro h
    rcases D6Q.1 h with h | h
    ·exact hm h
    ·exact e (D6f.1 h).symm
theorem B3q {t:Tax} {rates nets:List Int} {D:Int→Bool} {L:List Int} {k:Int} (h:B3p t rates nets D L) (hr:rates.length=nets.length):B3p t rates nets (fun y=>D y||y==k) (A4w L (K9 rates k) (A2H t rates nets k) (K9 rates k).length):=by
 have hG:∀ i∈K9 rates k,i<L.length:=fun i hi=>by rw [h.1,←hr];exact (A0B hi).2.1
 refine ⟨by rw [A8A];exact h.1,fun i hi=>?_⟩
 rw [B9C (B3s rates k) hG _ (D5J _) i (by rw [h.1];exact hi),D5L]
 by_cases hm:i∈K9 rates k
 ·obtain ⟨h1,h2,h3⟩:=A0B hm
  have hlt:=List.idxOf_lt_length_iff.2 hm
  rw [if_pos hm,C3E hlt,List.getElem_idxOf hlt,if_pos (by rw [h1];simp)]
 ·have hne:¬ -(gI rates i)=k:=fun e=>hm (D6D.2 ⟨D5U.2 (by omega),by rw [e];exact D7O k⟩)
  rw [if_neg hm,h.2 i hi]
  have:(-(gI rates i)==k)=false:=D6l.2 hne
  simp only [this,D6s]
theorem IsL.set {L:List Int} {f:Nat→AV} {i:Nat} {v:Int} (h:∀ k,k<L.length→f k=eI (gI L k)):IsL (L.set i v) ⟨2,1,L.length,I1 f i (eI v)⟩:=by
 refine ⟨_,by rw [D6M],fun k hk=>?_⟩
 rw [D6M] at hk
 by_cases e:k=i
 ·subst e
  rw [A4];unfold gI
  rw [D5A,List.getElem?_set_self hk];rfl
 ·rw [H4 e,h k hk];unfold gI
  rw [D5A,D5A,D7u (fun e2=>e e2.symm)]
theorem C0J {rates:List Int} {D:Int→Bool} {x:QE} {E:List QE} (h:A1H rates D=x::E):∃ i,i<rates.length∧i∈K9 rates x.1∧gI rates i = -x.1:=by
 have hx:x∈A9T rates:=(D6D.1 (show x∈A1H rates D by rw [h];exact D6c ..)).1
 obtain ⟨i,hi,rfl⟩:=D5X.1 ((A5j rates).mem_iff.1 hx)
 have hi:=D5U.1 hi
 exact ⟨i,hi,D6D.2 ⟨D5U.2 hi,D7O _⟩,by show gI rates i = - -(gI rates i);omega⟩
theorem C7c {rates:List Int} {k:Int} {j:Nat} (hj:j<(K9 rates k).length):(gN (K9 rates k) j).toNat<rates.length∧0≤gN (K9 rates k) j:=by
 have hm:(K9 rates k).getD j 0∈K9 rates k:=by rw [D5A,D5I hj];exact D6Z hj
 have:=(A0B hm).2.1
 exact ⟨by show ((((K9 rates k).getD j 0:Nat):Int)).toNat<_;omega,by show 0≤(((K9 rates k).getD j 0:Nat):Int);omega⟩
theorem B8e (es:List QE):∃ c1 c2 is,C3H es=.tuple [eI c1,eI c2,.bool is]:=by
 cases es with
 | nil=>exact ⟨0,0,false,rfl⟩
 | cons y es=>exact ⟨y.1,y.2,true,rfl⟩
theorem A9t {c1 c2 d1 d2:Int} {is js:Bool} (h:AV.tuple [eI c1,eI c2,.bool is]=.tuple [eI d1,eI d2,.bool js]):c1=d1∧c2=d2∧is=js:=by
 injection h with h;injection h with h1 h;injection h with h2 h;injection h with h3 h
 injection h1 with _ h1;injection h2 with _ h2;injection h3 with h3
 exact ⟨h1,h2,h3⟩
set_option maxHeartbeats 8000000 in
theorem C0j (t:Tax) (rates nets:List Int) (hn:A4J nets) (hr:rates.length=nets.length) (hq:∀ x∈rates,0≤x∧x≤10000) (st:St) :
  S P 191 [S7 t,B0 rates,B0 nets] st fun v st'=>v=B0 (G9 t rates nets)∧st'=st:=by
 have hnl:=hn.len
 have hol:(G9 t rates nets).length=nets.length:=by unfold G9;rw [D5F,D6d]
 refine S.post (post:=fun v s=>∃ bo,v=.own 1 bo 0 nets.length∧st bo=none∧(∃ y,IsL (G9 t rates nets) y∧s bo=some y)∧E6 st s) ?_ (fun v s ⟨bo,h1,h2,⟨y,⟨f,hy,hf⟩,hb⟩,h4⟩=>⟨_,st,⟨rfl,rfl⟩,by
  subst hy;rw [h1]
  have e:B0 (G9 t rates nets)=.arr 1 nets.length (fun i=>eI (gI (G9 t rates nets) i)):=by unfold B0 A8;rw [hol]
  rw [e]
  exact (N7 hb rfl (by show nets.length≤(G9 t rates nets).length;omega) (fun i hi=>hf i (by omega))).trans ((E6.del h4 h2).shift _)⟩)
 refine F1 [3] Tryz.func191 ?_
 refine mkO rfl rfl rfl (by show 8 * nets.length≤_;omega) (by omega) (by rfl) (fun bo hbo=>?_);conv=>whnf
 refine call (B1M _) (fun v s hv=>?_)
 obtain ⟨q,rfl,hQ⟩:=hv
 conv=>whnf
 refine lp rates.length [2,3,7,8,28,29,30] (fun i vs s=>vs=[B0 nets,.fptr (S7 t) 0,.own 1 bo 0 nets.length,.optr 1 q 0 0,B0 rates,eI rates.length,eI i]∧QSt (upd st bo ⟨2,1,nets.length,fun _=>H2 r2.zero⟩) q true ((List.range i).map (C2U rates)) s) ?_ ?_
 ·conv=>whnf
  exact ⟨rfl,hQ⟩
 clear hQ s
 rintro i vs s hi ⟨rfl,hQ⟩
 conv=>whnf
 cases h1:decide ((i:Int)<(rates.length:Int))
 case true =>
  have hi':=D6 h1
  have hx:=hq (gI rates (i:Int).toNat) (A6 hi')
  have hw:IntKind.i64.wrap (0 - rates.getD (i:Int).toNat default) = -(gI rates (i:Int).toNat):=(A5 (show _≤0 - gI rates (i:Int).toNat by omega) (show 0 - gI rates (i:Int).toNat≤_ by omega)).trans (by show 0 - gI rates (i:Int).toNat=_;omega)
  conv=>whnf
  refine E4 ?_
  rw [hw]
  refine call (A8B _ q _ _ _ _ hQ (by rw [D5F,D6d];omega)) (fun v s' hv=>?_)
  obtain ⟨rfl,hQ2⟩:=hv
  conv=>whnf
  refine F6 ?_
  exact nx hi' ⟨by rw [B4 (by omega)],by rw [D7i,D6i];exact hQ2⟩
 obtain rfl:=C2 h1 hi
 have hQ2:=QSt.perm hQ (A5j rates).symm
 clear hQ
 conv=>whnf
 refine ⟨[2,3,7,8],fun m vs u=>∃ (D:Int→Bool) (fl:Bool) (L:List Int),m=(A1H rates D).length∧vs=[B0 nets,.fptr (S7 t) 0,.own 1 bo 0 nets.length,.optr 1 q 0 0]∧B3p t rates nets D L∧OQ bo q L fl (A1H rates D) st u,?_,?_⟩
 ·conv=>whnf
  exact ⟨_,fun _=>false,true,List.replicate nets.length 0,rfl,rfl,⟨D6J,fun i hi=>by
   rw [if_neg (by simp)];unfold gI
   rw [D5A,D7S];split<;>rfl⟩,hbo,_,⟨fun _=>H2 r2.zero,by rw [D6J],fun i hi=>by
   unfold gI;rw [D5A,D7S];split<;>rfl⟩,by rw [B5Q];exact hQ2⟩
 clear hQ2
 rintro m vs u ⟨D,fl,L,rfl,rfl,hdone,hb0,y,hy,hQ3⟩
 conv=>whnf
 refine B3 (A9x _ q fl _ _ hQ3) ?_
 cases hE:A1H rates D with
 | nil =>
  conv=>whnf
  have hL:=C2S hdone hr hE
  rw [hE] at hQ3
  exact ⟨bo,rfl,hb0,⟨y,by rw [←hL];exact hy,hQ3.sup bo _ (A0 ..)⟩,E6.drop hQ3.sup hb0⟩
 | cons x E =>
  obtain ⟨hD,hEq⟩:=B7O hE
  obtain ⟨i0,hi0,hi0m,hi0r⟩:=C0J hE
  have hsort:=A8m rates D
  have hkey:∀ y∈A1H rates (fun z=>D z||z==x.1),(y.1==x.1)=false:=B4s
  have hmeas:(A1H rates (fun z=>D z||z==x.1)).length<E.length+1:=by
   have h1:=D7B List.length hEq
   rw [D5M,D5F,D6n] at h1
   have h2:0<(K9 rates x.1).length:=List.length_pos_of_mem hi0m
   omega
  have hnext:=B3q (k:=x.1) hdone hr
  have hparts:(A2H t rates nets x.1).length=(K9 rates x.1).length∧∀ st,S P 238 [eI (N8 t (A2 ((K9 rates x.1).map (gI nets))) (-x.1)),B0 ((K9 rates x.1).map (gI nets))] st fun v st'=>v=.tuple [B0 (A2H t rates nets x.1),eI 0]∧st'=st:=by
   have hw:=A2V (t:=t) hn hr (i:=i0) (hq (gI rates i0) (A6 hi0))
   have e:I7 rates nets i0=(K9 rates x.1).map (gI nets):=by unfold I7;rw [(A0B hi0m).2.2]
   rw [e,hi0r] at hw
   have h3:=(T4 hw).2.1
   refine ⟨by unfold A2H;rw [h3,D5F],fun st=>?_⟩
   exact A9m _ _ hw st
  have hGok:=fun j=>C7c (rates:=rates) (k:=x.1) (j:=j)
  have hrate:0≤-x.1∧-x.1≤10000:=by rw [←hi0r];exact hq (gI rates i0) (A6 hi0)
  have hGl:(K9 rates x.1).length≤1000:=by
   have:(K9 rates x.1).length≤(List.range rates.length).length:=D8c _ _
   rw [D6d] at this;omega
  have hgsum:0≤A2 ((K9 rates x.1).map (gI nets)):=C1 fun v hv=>by
   obtain ⟨j,hj,rfl⟩:=D5X.1 hv
   exact hn.pos _ (A6 (by have:=(A0B hj).2.1;omega))
  have hgs:∀ j,j≤(K9 rates x.1).length→0≤A2 (((K9 rates x.1).take j).map (gI nets))∧A2 (((K9 rates x.1).take j).map (gI nets))≤10000000000000:=fun j hj=>by
   have hsub:(((K9 rates x.1).take j).map (gI nets)).Sublist nets:=by
    have h1:(((K9 rates x.1).take j).map (gI nets)).Sublist ((List.range nets.length).map (gI nets)):=by
     refine List.Sublist.map _ ((List.take_sublist _ _).trans ?_)
     unfold K9;rw [hr];exact D7C
    rw [A6h] at h1;exact h1
   have h2:=B2n hsub hn.pos
   have h3:=hn.sum
   exact ⟨C1 fun v hv=>hn.pos v (hsub.subset hv),by omega⟩
  rw [hE] at hQ3 hsort
  have hQ0:x::E=QJ (K9 rates x.1) x.1 (A1H rates (fun z=>D z||z==x.1)) 0:=hEq
  generalize K9 rates x.1=G at *
  generalize hRest:A1H rates (fun z=>D z||z==x.1)=Rest at *
  generalize A2H t rates nets x.1=X at *
  clear hEq
  conv=>whnf
  rw [show decide ((((x::E).length:Nat):Int)>0)=true by rw [D5C,D6n];omega];conv=>whnf
  refine I2 (B4L _ q fl x E _ hQ3 (D7n.1 hsort).1) ?_
  refine I2 (B4L _ q fl x E _ hQ3 (D7n.1 hsort).1) ?_
  have hsortQ:∀ j,j≤G.length→(QJ G x.1 Rest j).Pairwise fun a b=>G4 b a=false:=fun j hj=>by
   rw [hQ0] at hsort
   refine D8x ?_ hsort
   unfold QJ
   rw [List.drop_zero]
   exact List.Sublist.append ((D8n j G).map _) (List.Sublist.refl _)
  refine lp G.length [2,3,7,8,11,14,15,16,17,18,19] (fun j vs u=>∃ (fl:Bool) (lv wv:AV) (c1 c2:Int) (is:Bool),vs=[B0 nets,.fptr (S7 t) 0,.own 1 bo 0 nets.length,.optr 1 q 0 0,eI x.1,lv,wv,eI (A2 ((G.take j).map (gI nets))),eI c1,eI c2,.bool is]∧C3H (QJ G x.1 Rest j)=.tuple [eI c1,eI c2,.bool is]∧ROut (fun s t=>ROut (OQ bo q L fl (QJ G x.1 Rest j)) 3 1 (fun i=>eI (gN G i)) j s lv t) 2 1 (fun i=>eI (gI (G.map (gI nets)) i)) j st wv u) ?_ ?_
  ·conv=>whnf
   exact ⟨fl,.emp,.emp,x.1,x.2,true,rfl,by rw [←hQ0];rfl,ROut.start (show ROut _ _ _ _ 0 st .emp u from ROut.start (show OQ bo q L fl (QJ G x.1 Rest 0) st u from ⟨hb0,y,hy,by rw [←hQ0];exact hQ3⟩) _ _ _) _ _ _⟩
  rintro j vs w hj ⟨fl2,lv,wv,c1,c2,is,rfl,hpk,hR⟩
  by_cases hjl:j<G.length
  ·have hQn:=C5g (G:=G) (k:=x.1) (Rest:=Rest) hjl
   rw [hQn] at hpk
   obtain ⟨rfl,rfl,rfl⟩:=A9t hpk
   have hGj:=hGok j hjl
   have hxn:0≤gI nets (gN G j).toNat∧gI nets (gN G j).toNat≤A2 nets:=⟨hn.pos _ (A6 (by omega)),J2 hn.pos (A6 (by omega))⟩
   have hns:=hn.sum
   have hg1:=hgs j hj
   have hg2:=hgs (j+1) hjl
   have hgt:((G.take (j+1)).map (gI nets))=((G.take j).map (gI nets))++[gI nets (gN G j).toNat]:=by
    rw [D7F hjl,D6i]
    have:(gN G j).toNat=G[j]:=by show (((G.getD j 0:Nat):Int)).toNat=_;rw [D5A,D5I hjl];rfl
    rw [this];rfl
   have hgm:gI (G.map (gI nets)) j=nets.getD (gN G j).toNat default:=by
    unfold gI
    rw [D5A,D6y,D5I hjl]
    have:(gN G j).toNat=G[j]:=by show (((G.getD j 0:Nat):Int)).toNat=_;rw [D5A,D5I hjl];rfl
    rw [this];rfl
   have hsum:IntKind.i64.wrap (A2 ((G.take j).map (gI nets))+nets.getD (gN G j).toNat default)=A2 ((G.take (j+1)).map (gI nets)):=by
    rw [hgt,F3] at hg2 ⊢
    have e1:A2 [gI nets (gN G j).toNat]=gI nets (gN G j).toNat:=by rw [J5];exact D7N _
    rw [e1] at hg2 ⊢
    exact A5 (show _≤A2 ((G.take j).map (gI nets))+gI nets (gN G j).toNat by omega) (show A2 ((G.take j).map (gI nets))+gI nets (gN G j).toNat≤_ by omega)
   conv=>whnf
   rw [show (x.1==x.1)=true from D7O _];conv=>whnf
   obtain ⟨s0,hw0,s1,hl0,hb1,y1,hy1,hq1⟩:=hR
   rw [hQn] at hq1
   have hsj:=hsortQ j hj
   rw [hQn] at hsj
   refine call (A9y _ q fl2 (x.1,gN G j) (QJ G x.1 Rest (j+1)) _ hq1 (D7n.1 hsj).1) (fun v w' hv=>?_)
   obtain ⟨rfl,hq2⟩:=hv
   have hin:ROut (OQ bo q L false (QJ G x.1 Rest (j+1))) 3 1 (fun i=>eI (gN G i)) j s0 lv w':=⟨s1,hl0,hb1,y1,hy1,hq2⟩
   have hwv:wv=.emp∨∃ b,wv=.own 1 b 0 j:=ROut.head (show ROut (fun s t=>ROut (OQ bo q L false (QJ G x.1 Rest (j+1))) 3 1 (fun i=>eI (gN G i)) j s lv t) 2 1 (fun i=>eI (gI (G.map (gI nets)) i)) j st wv w' from ⟨s0,hw0,hin⟩)
   have hlv:=ROut.head hin
   obtain ⟨d1,d2,js,hpk2⟩:=B8e (QJ G x.1 Rest (j+1))
   have hB1:=B0R bo q L false (QJ G x.1 Rest (j+1))
   rcases hlv with rfl | ⟨bl,rfl⟩<;>rcases hwv with rfl | ⟨bw,rfl⟩
   all_goals
    conv=>whnf
    refine ⟨[2,3,8,9,10],[],[],.qui 0 (.qui 1 (.qui 4 (.qui 5 (.qui 6 (.qui 7 (.two 2 8 (.two 3 8 (.gen 8 (.gen 9 (.gen 10 (.qui 11 (.qui 12 .done))))) (.two 3 9 (.gen 9 (.gen 10 (.qui 11 (.qui 12 .done)))) (.gen 3 (.gen 10 (.qui 11 (.qui 12 .done)))))) (.two 2 9 (.two 3 9 (.gen 9 (.gen 10 (.qui 11 (.qui 12 .done)))) (.gen 3 (.gen 10 (.qui 11 (.qui 12 .done))))) (.gen 2 (.gen 3 (.gen 10 (.qui 11 (.qui 12 .done)))))))))))),by kernel_rfl,?_⟩;conv=>whnf
    refine E4 ?_
    repeat' (refine And.intro ?_ ?_<;>(conv=>whnf))
    all_goals
     refine ROut.app (q:=r3) hB1 rfl rfl rfl rfl rfl (f:=fun i=>eI (gN G i)) (by rfl) (by show (j+1) * 8≤140737488355328;omega) hin (fun lv' w2 hin2=>?_)
     have hout2:ROut (fun s t=>ROut (OQ bo q L false (QJ G x.1 Rest (j+1))) 3 1 (fun i=>eI (gN G i)) (j+1) s lv' t) 2 1 (fun i=>eI (gI (G.map (gI nets)) i)) j st _ w2:=⟨s0,hw0,hin2⟩
     conv=>whnf
     refine ROut.app (q:=r2) (U5 hB1 _ _ _ _ _) rfl rfl rfl rfl rfl (f:=fun i=>eI (gI (G.map (gI nets)) i)) (by show _=eI _;rw [hgm];rfl) (by show (j+1) * 8≤140737488355328;omega) hout2 (fun wv' w3 hout3=>?_);conv=>whnf
     refine E4 ?_
     rw [hsum]
     obtain ⟨s2,hw2,s3,hl3,hb3,y3,hy3,hq3⟩:=hout3
     have hpc:=C3P _ q false _ _ hq3 (hsortQ (j+1) hjl)
     rw [hpk2] at hpc
     refine I2 hpc ?_
     refine F6 ?_
     exact nx hjl ⟨false,lv',wv',d1,d2,js,rfl,hpk2,⟨s2,hw2,s3,hl3,hb3,y3,hy3,hq3⟩⟩
  ·obtain rfl:j=G.length:=by omega
   rw [C2i] at hpk
   have hexit:(is&&(c1==x.1))=false:=by
    cases Rest with
    | nil=>obtain ⟨rfl,rfl,rfl⟩:=A9t hpk;rfl
    | cons r Rest=>obtain ⟨rfl,rfl,rfl⟩:=A9t hpk;exact hkey r (D6c ..)
   rw [D5L]
   have hM:=fun u=>B7U t (A2 (G.map (gI nets))) (-x.1) hrate u
   have hwn:IntKind.i64.wrap (0 - x.1) = -x.1:=(A5 (by omega) (by omega)).trans (by omega)
   case' neg=>cases is
   case' neg.true=>have hne:(c1==x.1)=false:=hexit
   case' neg.true=>conv=>whnf
   case' neg.true=>rw [hne]
   all_goals
    conv=>whnf
    rw [hwn]
    refine B3 (hM _) ?_
    generalize N8 t (A2 (G.map (gI nets))) (-x.1)=M at hparts
    conv=>whnf
    obtain ⟨w2,hsh,hR2⟩:=ROut.shift (U5 (B0R bo q L fl2 Rest) _ _ _ _ _) (show ROut (fun s t=>ROut (OQ bo q L fl2 Rest) 3 1 (fun i=>eI (gN G i)) G.length s lv t) 2 1 (fun i=>eI (gI (G.map (gI nets)) i)) G.length st wv w by rw [C2i] at hR;exact hR)
    have e0:AV.arr 1 G.length (fun i=>eI (gI (G.map (gI nets)) i))=B0 (G.map (gI nets)):=by unfold B0 A8;rw [D5F]
    rw [e0] at hsh
    refine F7 (args':=[eI M,B0 (G.map (gI nets))]) (A7.cons (A7.keep _ _) hsh) (B3 (hparts.2 _) ?_);conv=>whnf
    refine lp X.length [2,3,7,8,14,97,98,99] (fun j vs u=>vs=[B0 nets,.fptr (S7 t) 0,.own 1 bo 0 nets.length,.optr 1 q 0 0,lv,B0 X,eI X.length,eI j]∧ROut (OQ bo q (A4w L G X j) fl2 Rest) 3 1 (fun i=>eI (gN G i)) G.length st lv u) ?_ ?_
    ·conv=>whnf
     exact ⟨rfl,hR2⟩
    rintro j vs v hjx ⟨rfl,hR3⟩
    have hPl:=A8A L G X j
    have hdl:=hdone.1
    conv=>whnf
    cases h5:decide ((j:Int)<(X.length:Int))
    case' true =>
     have hj5:=D6 h5
     have hGj:=hGok j (by omega)
     obtain ⟨s0,hcl,h1o,yo,⟨fo,rfl,hfo⟩,h2o⟩:=hR3
     obtain ⟨b,g,h3,rfl,rfl,h4⟩:∃ b g,st b=none∧lv=.own 1 b 0 G.length∧s0=upd st b ⟨3,1,G.length,g⟩∧∀ k,k<G.length→g k=eI (gN G k):=by
      rcases hcl with ⟨h0,_⟩ | ⟨_,b,g,h3,h4,h5,h6⟩
      ·omega
      ·exact ⟨b,g,h3,h4,h5,h6⟩
     have hbb:b≠bo:=fun e=>by subst e;rw [A0] at h1o;cases h1o
     conv=>whnf
     refine E4 ?_
     refine E4 ?_
     refine ldV (h2o.sup b _ (by rw [A9 hbb];exact A0 ..)) rfl (by show 0+((j:Nat):Int).toNat<G.length;omega) (v:=eI (gN G j)) (by show g (0+((j:Nat):Int).toNat)=_;rw [show 0+((j:Nat):Int).toNat=j by omega];exact h4 j (by omega)) ?_;conv=>whnf
     refine E4 ?_
     refine stV (h2o.sup bo _ (A0 ..)) rfl (by show 0+(gN G j).toNat<(A4w L G X j).length;omega) (hfo (0+(gN G j).toNat) (by omega)) (by rfl) ?_;conv=>whnf
     refine F6 ?_
     have hset:IsL (A4w L G X (j+1)) ⟨2,1,(A4w L G X j).length,I1 fo (0+(gN G j).toNat) (eI (gI X (j:Int).toNat))⟩:=by
      have:=IsL.set (i:=(gN G j).toNat) (v:=gI X j) hfo
      rw [show 0+(gN G j).toNat=(gN G j).toNat by omega,show (j:Int).toNat=j by omega]
      exact this
     have hw2:=(B9a q fl2 Rest).write (y':=⟨2,1,(A4w L G X j).length,I1 fo (0+(gN G j).toNat) (eI (gI X (j:Int).toNat))⟩) h2o (A0 ..)
     rw [B7] at hw2
     exact nx hj5 ⟨by rw [B4 (by omega)],⟨_,hcl,h1o,_,hset,hw2⟩⟩
    obtain rfl:=C2 h5 hjx
    conv=>whnf
    refine F6 ?_
    have hfin:=ROut.dropped (B0R bo q (A4w L G X X.length) fl2 Rest) hR3
    rw [hparts.1] at hfin
    exact ⟨Rest.length,hmeas,_,fl2,A4w L G X G.length,by rw [hRest],rfl,hnext,by rw [hRest];exact hfin⟩
end Go.Proofs.YtaapofnkmpiknaaGreat
namespace Go.Proofs.YtaapofnkmpiknaaGreat
open Go Go.Ab
theorem B2O (p:B1) (id K:Int):A2U (P3 p id K):=by
 have hs:=(A2X p.scope).2
 have hp:=A5d p.parts
 have ht5:=(A2Y p.tiers 5000 (.inl rfl)).2
 have ht6:=(A2Y p.tiers 5 (.inr rfl)).2
 refine ⟨?_,?_,?_,?_,?_,?_,?_⟩
 ·have:=U1 (B5K id);show (idN id).size≤_;omega
 ·have:=(A9N p).2;show (A2c p).size≤_;omega
 ·have:=(B0W p).2;show (A3v p).size≤_;omega
 ·show A2g (if K=4∨K=7 then ⟨[],[]⟩ else Q2 p.scope)
  split
  ·exact A5N.2
  ·exact hs
 ·show (if K=4 then P5 p.parts else []).length≤_
  split
  ·omega
  ·exact D6b _
 ·show ∀ x∈(if K=4 then P5 p.parts else []),_
  split
  ·exact fun x hx=>(hp.2 x hx).2
  ·exact fun x hx=>absurd hx D7f
 ·show (if K=5 then P6 p.tiers 5000 else if K=6 then P6 p.tiers 5 else []).length≤_
  split
  ·omega
  ·split
   ·omega
   ·exact D6b _
theorem B6q (l:List K7) (k:Nat) (hk:k<3):B7m (D5 l k):=by
 have hn:=D5V.1 A7O k (D5U.2 hk)
 have hz:=U1 hn
 unfold D5
 split
 ·obtain ⟨h1,h2,h3⟩:=A8y (l.getD k default).rates
  generalize T7 (l.getD k default).rates=R at h1 h2 h3 ⊢
  exact ⟨by show R.length≤_;omega,by show (Q0 k).size≤_;omega,fun x hx=>by have:=(h2 x hx).2;show x.cat.size≤_;omega⟩
 ·exact ⟨by show 0≤_;decide,by show (Q0 k).size≤_;omega,fun x hx=>absurd hx D7f⟩
theorem B8i (t:Tax):B3d (L2 t):=by
 refine ⟨by show ((List.range 3).map _).length≤_;rw [D5F,D6d];decide,fun z hz=>?_⟩
 obtain ⟨k,hk,rfl⟩:=D5X.1 hz
 exact B6q _ k (D5U.1 hk)
theorem A8z (r:H0):A7T (H6 r):=by
 have h0:=A2i r.items
 have h2:=(A0H r.policy.order).2
 have h3:=(A0H r.policy.credit).2
 refine ⟨by show (G2 r.items).length≤_;omega,fun x hx=>?_,fun p hp=>?_,B8i r.tax,by show (O5 r.policy.order).length≤_;omega,by show (O5 r.policy.credit).length≤_;omega⟩
 ·have:=A7h hx
  exact ⟨by have:=this.2.1;show x.sku.size≤_;omega,by have:=this.2.2;show x.cat.size≤_;omega⟩
 ·obtain ⟨q,id,K,_,rfl⟩:=A6g hp
  exact B2O q id K
end Go.Proofs.YtaapofnkmpiknaaGreat
namespace Go.Proofs.YtaapofnkmpiknaaGreat
open Go Go.Ab
attribute [local irreducible] upd del
theorem ROut.own {R:St→St→Prop} {ty e n:Nat} {fo:Nat→AV} {s t:St} {sv:AV} (h:ROut R ty e fo (n+1) s sv t):∃ b,sv=.own e b 0 (n+1):=by
 obtain ⟨s0,⟨h1,_⟩ | ⟨_,b,_,_,h1,_⟩,h2⟩:=h
 ·cases h1
 ·exact ⟨b,h1⟩
theorem RD.wr {dl:List A1T} {gr:List C8} {dv gv:AV} {s t:St} {b:Nat} {y y':K8} (h:RD dl gr dv gv s t) (hb:s b=some y):RD dl gr dv gv (upd s b y') (upd t b y'):=(A3G dl gr dv gv).write h hb
theorem RD.sup {dl:List A1T} {gr:List C8} {dv gv:AV} {s t:St} (h:RD dl gr dv gv s t):E6 s t:=(A3G dl gr dv gv).sup h
theorem RD.start (s:St):RD [] [] .emp .emp s s:=ROut.start (ROut.start (E6.refl s) _ _ _) _ _ _
theorem RD.appG {dl:List A1T} {gr:List C8} {dv gv:AV} {s t:St} {y:C8} {x:AV} {k:KK} {g:Nat→AV} (h:RD dl gr dv gv s t) (hs:A0i 1 t x=some (1,g)) (hg:g 0=eS y) (hb:gr.length≤1000)
  (hk:∀ gv' t',RD dl (gr++[y]) dv gv' s t'→k gv' t'):A5x T 34 gv x t k:=by
 obtain ⟨s0,hc,h⟩:=h
 refine ROut.app (q:=r9) (f:=A7e (gr++[y])) J3 rfl rfl rfl rfl hs (by rw [hg];simp only [A7e,A8i]) (by show (gr.length+1) * 16≤140737488355328;omega) (ROut.congr h fun k hk=>by simp only [A7e];rw [A4p hk]) (fun sv' t' h'=>hk sv' t' ⟨s0,hc,?_⟩)
 show ROut _ _ _ _ (gr++[y]).length _ _ _
 rw [D5M];exact h'
theorem RD.appD {dl:List A1T} {gr:List C8} {dv gv:AV} {s t:St} {y:A1T} {x:AV} {k:KK} {g:Nat→AV} (h:RD dl gr dv gv s t) (hs:A0i 2 t x=some (1,g)) (hg:g 0=B9h y) (hb:dl.length≤1000)
  (hk:∀ b t',RD (dl++[y]) gr (.own 2 b 0 (dl.length+1)) gv s t'→k (.own 2 b 0 (dl.length+1)) t'):A5x T 111 dv x t k:=by
 refine ROut.app (q:=C6k) (f:=A1D (dl++[y])) (A8b _ _) rfl rfl rfl rfl hs (by rw [hg];simp only [A1D,A8i]) (by show (dl.length+1) * 24≤140737488355328;omega) (ROut.congr h fun k hk=>by simp only [A1D];rw [A4p hk]) (fun sv' t' h'=>?_)
 obtain ⟨b,rfl⟩:=ROut.own h'
 exact hk b t' (RD.of h')
theorem RD.deals {dl:List A1T} {gr:List C8} {dv gv:AV} {s t:St} (h:RD dl gr dv gv s t):(dl=[]∧dv=.emp)∨∃ bd g,dv=.own 2 bd 0 dl.length∧s bd=none∧t bd=some ⟨221,2,dl.length,g⟩∧∀ k,k<dl.length→g k=A1D dl k:=by
 obtain ⟨s0,hc,hg0⟩:=h
 rcases hc with ⟨h0,h1,rfl⟩ | ⟨h0,b,g0,hb,h1,rfl,hgg⟩
 ·exact .inl ⟨D6k h0,h1⟩
 ·exact .inr ⟨b,g0,h1,hb,(A8b _ _).sup hg0 b _ (A0 ..),hgg⟩
theorem RD.groups {dl:List A1T} {gr:List C8} {dv gv:AV} {s t:St} (h:RD dl gr dv gv s t):(gv=.emp∧gr=[])∨∃ b g,gv=.own 1 b 0 gr.length∧t b=some ⟨9,1,gr.length,g⟩∧∀ k,k<gr.length→g k=eS (gr.getD k default):=by
 obtain ⟨s0,hc,s1,hc2,hs⟩:=h
 rcases hc2 with ⟨h0,h1,rfl⟩ | ⟨h0,b,g0,hb,h1,rfl,hgg⟩
 ·exact .inl ⟨h1,D6k h0⟩
 ·exact .inr ⟨b,g0,h1,hs b _ (A0 ..),hgg⟩
theorem B1d {σ : Type} (px : σ→PSt) (step : σ→B1→σ) (sm:B1→Bool) (l:List B1) (a : σ) (o:List Int) (x:Int):Z6 px step sm l a (o++[x])=if sm (E8 l x)=true then goB px step (Z6 px step sm l a o) (E8 l x) else Z6 px step sm l a o:=by
 unfold Z6
 rw [D7x,D7P]
 by_cases h:sm (E8 l x)=true
 ·rw [if_pos h,D6G (p:=fun x=>sm (E8 l x)) h];rfl
 ·rw [if_neg h,D6N (p:=fun x=>sm (E8 l x)) h];rfl
def named (l:List C8):List C8:=l.filter fun g=>!N3 g
theorem B1t (l:List C8) (g:C8):named (l++[g])=named l++(if N3 g=true then [] else [g]):=by
 unfold named
 rw [D7x]
 congr 1
 cases h:N3 g
 ·rw [D6G (p:=fun g=>!N3 g) (by rw [h];rfl)];rfl
 ·rw [D6N (p:=fun g=>!N3 g) (by rw [h];simp)];rfl
theorem C4E (l:List C8) (g:C8):(!N3 g&&l.any fun y=>y.toList==g.toList)=!(N3 g||!inB (named l) g):=by
 cases hn:N3 g
 ·rw [D6h,D5P,D6o,D6U]
  unfold inB named
  rw [←D7J,D7m,D7m]
  constructor
  ·rintro ⟨y,h1,h2⟩
   refine ⟨y,D6D.2 ⟨h1,?_⟩,by rw [D8I];exact h2⟩
   unfold N3 at hn ⊢
   rw [eq_of_beq h2,hn];rfl
  ·rintro ⟨y,h1,h2⟩
   exact ⟨y,(D6D.1 h1).1,by rw [D8I];exact h2⟩
 ·rfl
theorem C7d {σ : Type} {px : σ→PSt} {step : σ→B1→σ} {a : σ} {pr:B1} {G:List C8} (hG:named G=(px a).groups) :
  goB px step a pr=if (!N3 pr.group&&G.any fun y=>y.toList==pr.group.toList)=true then a else step a pr:=by
 unfold goB
 rw [C4E,hG]
 cases (N3 pr.group||!inB (px a).groups pr.group)<;>rfl
theorem C5m {items:List Ab.Item} {p:PSt} {pr:B1} (hk:U3 pr=true) {G:List C8} (hG:named G=p.groups) :
  goB (fun p=>p) (A4O items) p pr=if (!N3 pr.group&&G.any fun y=>y.toList==pr.group.toList)=true then p else A4O items p pr:=C7d (px:=fun p=>p) hG
theorem C0O (l:List C8):(named l).length≤l.length:=D8c _ _
set_option maxHeartbeats 8000000 in
theorem C3U (r:H0) (codes:List C8) (l:List E7) (hf:A0T r) (hsm:A7T r) (hR:W0 r=true) (hcn:Sm codes.length) (hcs:∀ s∈codes,Sm s.size) (hln:Sm l.length) (st:St) :
  S P 115 [H5 r,C9 codes,A8 3 H7 l] st fun v st' =>
   v=(if D8 r codes l=0 then .tuple [A1f (A0f r l (U8 r.promos codes) (U8 r.promos codes)),eI 0] else .tuple [A1f ⟨[],0,0,[]⟩,eI (D8 r codes l)])∧st'=st:=by
 obtain ⟨X,hX⟩:∃ X,X=A0f r l (U8 r.promos codes) (U8 r.promos codes):=⟨_,rfl⟩
 refine S.post (post:=fun v st'=>(D8 r codes l≠0∧v=.tuple [.agg [.emp,eI 0,eI 0,.emp],eI (D8 r codes l)]∧E6 st st') ∨
   (D8 r codes l=0∧∃ bn fn dv,v=.tuple [.agg [.own 1 bn 0 l.length,eI X.net,eI X.ship,dv],eI 0] ∧
    st bn=none∧st' bn=some ⟨2,1,l.length,fn⟩∧(∀ k,k<l.length→fn k=eI (gI X.nets k))∧E6 st st' ∧
    ((X.deals=[]∧dv=.emp)∨∃ bd g,dv=.own 2 bd 0 X.deals.length∧st bd=none∧bd≠bn∧st' bd=some ⟨221,2,X.deals.length,g⟩∧∀ k,k<X.deals.length→g k=A1D X.deals k))) ?_
  (fun v st' hv=>by
   rcases hv with ⟨h1,rfl,hs⟩ | ⟨h1,bn,fn,dv,rfl,h4,h5,h6,hs,h7⟩
   ·refine ⟨_,st,⟨rfl,rfl⟩,?_⟩
    rw [if_neg h1]
    refine (hs.shift _).trans (A7.tuple (A7.cons (A7.agg ?_) (A7.keep _ _)) rfl)
    exact A7.cons (I0 1 _) (A7.cons (A7.keep [eI 0] _) (A7.cons (A7.keep [eI 0] _) (I0 2 _)))
   ·refine ⟨_,st,⟨rfl,rfl⟩,?_⟩
    rw [if_pos h1,←hX]
    refine A7.tuple (A7.cons (A7.agg ?_) (A7.keep _ _)) rfl
    have hnl:X.nets.length=l.length:=by rw [hX];show (X0 _ _).length=_;unfold X0;rw [D5F,D6d]
    clear hX
    have e1:B0 X.nets=.arr 1 l.length (fun k=>eI (gI X.nets k)):=by unfold B0 A8;rw [hnl]
    refine A7.cons (t:=del st' bn) ?_ (A7.cons (A7.keep [eI X.net] _) (A7.cons (A7.keep [eI X.ship] _) ?_))
    ·rw [e1];exact N7 h5 rfl (D5J _) h6
    ·rcases h7 with ⟨h8,rfl⟩ | ⟨bd,g,rfl,h8,h9,h10,h11⟩
     ·rw [h8]
      exact ((E6.del hs h4).shift _).trans (I0 2 _)
     ·refine (N7 (b:=bd) (y:=⟨221,2,X.deals.length,g⟩) (f:=A1D X.deals) (by rw [A2C h9];exact h10) rfl (D5J _) h11).trans ?_
      exact (E6.del (E6.del hs h4) h8).shift _)
 have hC:=hR
 unfold W0 A9S at hC
 simp only [D5G] at hC
 obtain ⟨⟨⟨⟨_,hpc⟩,_⟩,hfee,hfree⟩,_⟩:=hC
 rw [F4] at hfee hfree
 have hpk:D8 r codes l=if S6 codes=false then 2 else O8 (known r.items) l:=by unfold D8;rw [if_neg (by rw [hR];simp)]
 refine F1 [3,15,20] Tryz.func115 ?_
 intro b6 hb6;conv=>whnf
 refine I2 (B1U r hsm hR _) ?_
 refine B3 (B1Q codes hcn hcs _) ?_
 have h6s:∀ x:K8,E6 st (upd st b6 x):=fun x=>(E6.refl st).upd hb6
 cases hcc:S6 codes
 ·rw [if_pos hcc] at hpk
  have hk0:D8 r codes l≠0:=by rw [hpk];decide
  conv=>whnf
  refine X8 (A0 ..) rfl ?_
  refine I4 (A0 ..) (A4 ..) ?_
  exact .inl ⟨hk0,by rw [hpk];rfl,(h6s _).over hb6⟩
 rw [if_neg (by rw [hcc];simp)] at hpk;conv=>whnf
 refine B3 (C3S r.items l hsm.n hln _) ?_
 rw [←hpk];conv=>whnf
 cases h1:(D8 r codes l != 0)
 case true =>
  have hk0:D8 r codes l≠0:=by simpa using h1
  conv=>whnf
  refine X8 (A0 ..) rfl ?_
  refine I4 (A0 ..) (A4 ..) ?_
  exact .inl ⟨hk0,rfl,(h6s _).over hb6⟩
 have hk0:D8 r codes l=0:=by simpa using h1
 have hck:=A6D hk0
 have hli:=hck.lines
 have hlen:=hli.len
 have hus0:=B5i hli
 have hitl:(C3 r.items l).length=l.length:=D5F ..
 obtain ⟨u1,u2,u3⟩:=A2x l hli.line l.length (D5J _)
 conv=>whnf
 refine ⟨[],[],List.range 13,by kernel_rfl,?_⟩;conv=>whnf
 refine cqW (C3Z l hlen hli.line (eq_of_beq hli.may) hus0.ok.len _) ?_
 refine cqW (B6u r.items l hsm.n hlen hli.known _) ?_
 refine cqW (C1s r.promos codes hpc hcn _) ?_
 have hol:(U8 r.promos codes).length≤60:=by
  rw [(A4t _ _).length_eq]
  have:=A1o r.promos codes r.promos.length
  have:=hck.few;omega
 have hom:∀ x∈U8 r.promos codes,0≤x∧x.toNat<r.promos.length:=fun x hx=>A0G ((A4t _ _).mem_iff.1 hx)
 have hXd:X=⟨X0 l.length (p1B r l (U8 r.promos codes)).us,O3 (p1B r l (U8 r.promos codes)),(p2B r l (p1B r l (U8 r.promos codes)) (U8 r.promos codes)).2,(p2B r l (p1B r l (U8 r.promos codes)) (U8 r.promos codes)).1.deals⟩:=hX
 clear hX
 generalize U8 r.promos codes=o at *
 generalize hs6:(upd st b6 _)=s6 at *
 have h6:s6 b6=some ⟨170,4,1,fun _=>H2 B8l.zero⟩:=by rw [←hs6];exact A0 ..
 have hst6:E6 st s6:=by rw [←hs6];exact h6s _
 clear hs6
 refine mkO rfl rfl rfl (by show 8 * l.length≤_;omega) (by omega) (by rfl) (fun bn hbn=>?_);conv=>whnf
 intro bp hbp
 have hnb:bn≠bp:=fun e=>by subst e;rw [A0] at hbp;cases hbp
 have hbp6:s6 bp=none:=by rw [A9 hnb.symm] at hbp;exact hbp
 have hb6p:b6≠bp:=fun e=>by subst e;rw [h6] at hbp6;cases hbp6
 have hb6n:b6≠bn:=fun e=>by subst e;rw [h6] at hbn;cases hbn
 have hstn:st bn=none:=hst6.none hbn
 have hstp:st bp=none:=hst6.none hbp6
 conv=>whnf
 refine stU (A0 ..) rfl ?_
 rw [B7];conv=>whnf
 have hat:∀ {dl:List A1T} {gr:List C8} {dv gv:AV} {Y Z:K8} {t:St},RD dl gr dv gv (upd (upd s6 bn Y) bp Z) t→t bn=some Y∧t bp=some Z:=fun h=>⟨h.sup bn _ (by rw [A9 hnb,A0]),h.sup bp _ (A0 ..)⟩
 have hwn:∀ {dl:List A1T} {gr:List C8} {dv gv:AV} {Y Z Y':K8} {t:St},RD dl gr dv gv (upd (upd s6 bn Y) bp Z) t→RD dl gr dv gv (upd (upd s6 bn Y') bp Z) (upd t bn Y'):=fun {_ _ _ _ Y Z Y' t} h=>by
  have:=h.wr (b:=bn) (y':=Y') (by rw [A9 hnb,A0])
  rw [R3 hnb.symm,B7] at this;exact this
 have hwp:∀ {dl:List A1T} {gr:List C8} {dv gv:AV} {Y Z Z':K8} {t:St},RD dl gr dv gv (upd (upd s6 bn Y) bp Z) t→RD dl gr dv gv (upd (upd s6 bn Y) bp Z') (upd t bp Z'):=fun {_ _ _ _ Y Z Z' t} h=>by
  have:=h.wr (b:=bp) (y':=Z') (A0 ..)
  rw [B7] at this;exact this
 have htk:∀ {i:Nat},i<o.length→o.take (i+1)=o.take i++[gI o i]:=fun h=>K6 h
 refine lp o.length [3,6,9,10,11,12,13,14] (fun i vs t=>∃ (p:PSt) (dv gv:AV) (G:List C8) (fp:Nat→AV),p=Z6 (fun p=>p) (A4O (C3 r.items l)) U3 r.promos ⟨V9 l,[],[]⟩ (o.take i) ∧
   vs=[.fptr (H5 r) 0,.optr 4 b6 0 0,C6 p.us,A8 4 E5 (C3 r.items l),B0 o,.optr 4 bp 0 0,gv,eI i] ∧
   RD p.deals G dv gv (upd (upd s6 bn ⟨2,1,l.length,fun _=>H2 r2.zero⟩) bp ⟨170,4,1,fp⟩) t∧fp 0=.agg [.own 1 bn 0 l.length,eI 0,eI 0,dv] ∧
   named G=p.groups∧G.length≤i∧p.deals.length≤i∧A6Z (C3 r.items l) p.us∧∃ x,Off (V9 l) p.us x) ?_ ?_
 ·conv=>whnf
  exact ⟨⟨V9 l,[],[]⟩,.emp,.emp,[],_,rfl,rfl,RD.start _,A4 ..,rfl,D5J _,D5J _,hus0,0,Off.refl hus0.ok⟩
 ·rintro i vs t hi ⟨p,dv,gv,G,fp,hp,rfl,hR,hfp,hG,hGn,hDn,hus,x,hoff⟩
  conv=>whnf
  cases hd:decide ((i:Int)<(o.length:Int))
  case true =>
   have hi':=D6 hd
   have hx:=hom _ (A6 hi')
   have hx0:0≤gI o (i:Int).toNat:=hx.1
   have hx1:(gI o (i:Int).toNat).toNat<r.promos.length:=hx.2
   have hpm:E8 r.promos (gI o i)∈r.promos:=A6 hx.2
   have hpr:E8 r.promos (gI o i)=r.promos.getD (gI o (i:Int).toNat).toNat default:=rfl
   have hps:PSm (E8 r.promos (gI o i)):=⟨hsm.promos _ hpm,hck.promo _ hpm,hf.fit _ hpm⟩
   have hnext:=B1d (fun p=>p) (A4O (C3 r.items l)) U3 r.promos ⟨V9 l,[],[]⟩ (o.take i) (gI o i)
   rw [←htk hi',←hp,hpr] at hnext
   rw [hpr] at hps;conv=>whnf
   refine ⟨[8,9],[1,5,7],List.range 10,by kernel_rfl,?_⟩;conv=>whnf
   refine ⟨_,fun s _=>⟨rfl,rfl⟩,?_⟩;conv=>whnf
   refine E4 ?_
   refine ⟨_,fun s _=>⟨rfl,rfl⟩,?_⟩;conv=>whnf
   refine ⟨rfl,⟨by show 0≤gI o (i:Int).toNat;omega,by show gI o (i:Int).toNat<(r.promos.length:Int);omega⟩,?_⟩;conv=>whnf
   refine ⟨_,fun s _=>⟨rfl,rfl⟩,?_⟩;conv=>whnf
   have hend:∀ {q:PSt} {dv' gv':AV} {G':List C8} {fp':Nat→AV} {t':St},q=Z6 (fun p=>p) (A4O (C3 r.items l)) U3 r.promos ⟨V9 l,[],[]⟩ (o.take (i+1))→RD q.deals G' dv' gv' (upd (upd s6 bn ⟨2,1,l.length,fun _=>H2 r2.zero⟩) bp ⟨170,4,1,fp'⟩) t'→fp' 0=.agg [.own 1 bn 0 l.length,eI 0,eI 0,dv'] →
     named G'=q.groups→G'.length≤i+1→q.deals.length≤i+1→A6Z (C3 r.items l) q.us→(∃ x,Off (V9 l) q.us x)→∃ (p:PSt) (dv gv:AV) (G:List C8) (fp:Nat→AV),p=Z6 (fun p=>p) (A4O (C3 r.items l)) U3 r.promos ⟨V9 l,[],[]⟩ (o.take (i+1)) ∧
     [.fptr (H5 r) 0,.optr 4 b6 0 0,C6 q.us,A8 4 E5 (C3 r.items l),B0 o,.optr 4 bp 0 0,gv',eI (IntKind.i64.wrap ((i:Int)+1))]=[.fptr (H5 r) 0,.optr 4 b6 0 0,C6 p.us,A8 4 E5 (C3 r.items l),B0 o,.optr 4 bp 0 0,gv,eI ((i+1:Nat):Int)] ∧
     RD p.deals G dv gv (upd (upd s6 bn ⟨2,1,l.length,fun _=>H2 r2.zero⟩) bp ⟨170,4,1,fp⟩) t'∧fp 0=.agg [.own 1 bn 0 l.length,eI 0,eI 0,dv] ∧
     named G=p.groups∧G.length≤i+1∧p.deals.length≤i+1∧A6Z (C3 r.items l) p.us∧∃ x,Off (V9 l) p.us x:=fun {q dv' gv' G' fp' t'} h1 h2 h3 h4 h5 h6 h7 h8=>⟨q,dv',gv',G',fp',h1,by rw [B4 (by omega)],h2,h3,h4,h5,h6,h7,h8⟩
   cases h7:((r.promos.getD (gI o (i:Int).toNat).toNat default).kind==7)
   case true =>
    rw [if_neg (by unfold U3;rw [h7];simp)] at hnext;conv=>whnf
    refine F6 ?_
    exact nx hi' (hend hnext.symm hR hfp hG (by omega) (by omega) hus ⟨x,hoff⟩)
   case false =>
    have hns:U3 (r.promos.getD (gI o (i:Int).toNat).toNat default)=true:=by unfold U3;rw [h7];rfl
    rw [if_pos hns,C5m hns hG] at hnext;conv=>whnf
    refine B3 (B6G G (r.promos.getD (gI o (i:Int).toNat).toNat default).group (by omega) gv _ hR.groups) ?_
    cases htk:(!N3 (r.promos.getD (gI o (i:Int).toNat).toNat default).group&&G.any fun y=>y.toList==(r.promos.getD (gI o (i:Int).toNat).toNat default).group.toList)
    case true =>
     rw [if_pos htk] at hnext;conv=>whnf
     refine F6 ?_
     exact nx hi' (hend hnext.symm hR hfp hG (by omega) (by omega) hus ⟨x,hoff⟩)
    case false =>
     rw [if_neg (by rw [htk];simp)] at hnext
     have hk7:(r.promos.getD (gI o (i:Int).toNat).toNat default).kind≠7:=by simpa using h7
     obtain ⟨y,hoy⟩:=B5v hus hps.fit hps.right hk7
     have hus2:=hus.off hoy
     have hof2:=hoff.trans hoy
     rw [←hnext] at hus2 hof2
     have hAs:A4O (C3 r.items l) p (r.promos.getD (gI o (i:Int).toNat).toNat default)=if (A0j (C3 r.items l) p.us (r.promos.getD (gI o (i:Int).toNat).toNat default)).2>0 then A1J ⟨(A0j (C3 r.items l) p.us (r.promos.getD (gI o (i:Int).toNat).toNat default)).1,p.deals,p.groups⟩ (r.promos.getD (gI o (i:Int).toNat).toNat default) (A0j (C3 r.items l) p.us (r.promos.getD (gI o (i:Int).toNat).toNat default)).2 else p:=rfl
     conv=>whnf
     refine call (C8p (C3 r.items l) p.us (r.promos.getD (gI o (i:Int).toNat).toNat default) hps hk7 hus _) (fun v t' hv=>?_)
     obtain ⟨⟨z,rfl,hz⟩,rfl⟩:=hv
     conv=>whnf
     cases hgt:decide ((A0j (C3 r.items l) p.us (r.promos.getD (gI o (i:Int).toNat).toNat default)).2>0)
     case false =>
      rw [if_neg (D5E hgt)] at hAs
      rw [hAs] at hnext;conv=>whnf
      refine F6 ?_
      exact nx hi' (hend hnext.symm hR hfp hG (by omega) (by omega) hus ⟨x,hoff⟩)
     case true =>
      have hgt':=D5D hgt
      rw [if_pos hgt'] at hAs
      rw [hAs] at hnext
      obtain rfl:=hz hgt'
      conv=>whnf
      refine RD.appG (y:=(r.promos.getD (gI o (i:Int).toNat).toNat default).group) hR rfl rfl (by omega) (fun gv' t1 hR1=>?_);conv=>whnf
      have hdv:=ROut.head hR1
      rcases hdv with rfl | ⟨bo,rfl⟩
      all_goals
       refine I4 (hat hR1).2 hfp ?_
       refine RD.appD (y:=⟨(r.promos.getD (gI o (i:Int).toNat).toNat default).id,(A0j (C3 r.items l) p.us (r.promos.getD (gI o (i:Int).toNat).toNat default)).2⟩) hR1 rfl (by rfl) (by omega) (fun bd t2 hR2=>?_);conv=>whnf
       refine X8 (hat hR2).2 hfp ?_
       refine F6 ?_
       refine nx hi' ?_
       have hD:(A1J ⟨(A0j (C3 r.items l) p.us (r.promos.getD (gI o (i:Int).toNat).toNat default)).1,p.deals,p.groups⟩ (r.promos.getD (gI o (i:Int).toNat).toNat default) (A0j (C3 r.items l) p.us (r.promos.getD (gI o (i:Int).toNat).toNat default)).2).deals=p.deals++[⟨(r.promos.getD (gI o (i:Int).toNat).toNat default).id,(A0j (C3 r.items l) p.us (r.promos.getD (gI o (i:Int).toNat).toNat default)).2⟩]:=rfl
       have hGr:(A1J ⟨(A0j (C3 r.items l) p.us (r.promos.getD (gI o (i:Int).toNat).toNat default)).1,p.deals,p.groups⟩ (r.promos.getD (gI o (i:Int).toNat).toNat default) (A0j (C3 r.items l) p.us (r.promos.getD (gI o (i:Int).toNat).toNat default)).2).groups=p.groups++(if N3 (r.promos.getD (gI o (i:Int).toNat).toNat default).group=true then [] else [(r.promos.getD (gI o (i:Int).toNat).toNat default).group]):=rfl
       have hUs:(A1J ⟨(A0j (C3 r.items l) p.us (r.promos.getD (gI o (i:Int).toNat).toNat default)).1,p.deals,p.groups⟩ (r.promos.getD (gI o (i:Int).toNat).toNat default) (A0j (C3 r.items l) p.us (r.promos.getD (gI o (i:Int).toNat).toNat default)).2).us=(A0j (C3 r.items l) p.us (r.promos.getD (gI o (i:Int).toNat).toNat default)).1:=rfl
       rw [hnext] at hus2 hof2
       exact hend (G':=G++[(r.promos.getD (gI o (i:Int).toNat).toNat default).group]) hnext.symm (hwp hR2) (A4 ..) (by rw [B1t,hG];rfl) (by rw [D5M];show G.length+1≤_;omega) (by rw [hD,D5M];show p.deals.length+1≤_;omega) hus2 ⟨_,hof2⟩
  case false =>
   obtain rfl:=C2 hd hi
   rw [D5L] at hp
   have hp1:p1B r l o=p:=hp.symm
   rw [hp1] at hXd
   clear hp1 hp
   have hu1:=hus.ok
   have hul:=hu1.len
   have hus1:=hu1.sum
   have hnet0:=C1 hu1.nets0
   have hline:∀ k,k<p.us.length→0≤(gU p.us k).line∧(gU p.us k).line.toNat<l.length:=fun k hk=>by
    have:=hus.line _ (A6 hk)
    rw [hitl] at this;exact this
   have hul1:p.us.length=(V9 l).length:=hoff.len
   conv=>whnf
   refine lp p.us.length [3,6,9,11,12,13,18] (fun k vs t=>∃ (fn fp:Nat→AV),vs=[.fptr (H5 r) 0,.optr 4 b6 0 0,C6 p.us,B0 o,.optr 4 bp 0 0,gv,eI k] ∧
    RD p.deals G dv gv (upd (upd s6 bn ⟨2,1,l.length,fn⟩) bp ⟨170,4,1,fp⟩) t∧fp 0=.agg [.own 1 bn 0 l.length,eI (A2 ((D7 p.us).take k)),eI 0,dv]∧∀ j,j<l.length→fn j=eI (F8 (p.us.take k) j)) ?_ ?_
   ·conv=>whnf
    exact ⟨_,fp,rfl,hR,hfp,fun j _=>rfl⟩
   ·clear hR hfp fp
    rintro k vs t hk ⟨fn,fp,rfl,hR,hfp,hfn⟩
    obtain ⟨htn,htp⟩:=hat hR
    conv=>whnf
    cases hd2:decide ((k:Int)<(p.us.length:Int))
    case true =>
     have hk':=D6 hd2
     have hlk:0≤(gU p.us (k:Int).toNat).line∧(gU p.us (k:Int).toNat).line.toNat<l.length:=hline k hk'
     have hn0:0≤(gU p.us k).net:=hu1.at0 k
     have hn1:(gU p.us k).net≤10000000000000:=hu1.le (A6 hk')
     have e1:=K5 (l:=D7 p.us) (i:=k) (by rw [D5F];exact hk')
     have e4:gI (D7 p.us) k=(gU p.us k).net:=D4 B2.net p.us hk'
     have e2:=N0 hu1.nets0 (k+1)
     have e3:=C1 (l:=(D7 p.us).take k) (fun x hx=>hu1.nets0 x (D6E _ _ hx))
     have hlb:=A0Z hu1 k (gU p.us (k:Int).toNat).line.toNat
     have hlb2:=A0Z hu1 (k+1) (gU p.us (k:Int).toNat).line.toNat
     have hln1:F8 (p.us.take (k+1)) (gU p.us (k:Int).toNat).line.toNat=F8 (p.us.take k) (gU p.us (k:Int).toNat).line.toNat+(gU p.us (k:Int).toNat).net:=(Y8 hk' (gU p.us k).line.toNat).trans (if_pos rfl)
     have hfl:fn (0+(gU p.us (k:Int).toNat).line.toNat)=eI (F8 (p.us.take k) (gU p.us (k:Int).toNat).line.toNat):=by rw [D5R];exact hfn _ hlk.2
     have w1:IntKind.i64.wrap (F8 (p.us.take k) (gU p.us (k:Int).toNat).line.toNat+(gU p.us (k:Int).toNat).net)=F8 (p.us.take (k+1)) (gU p.us (k:Int).toNat).line.toNat:=by rw [hln1];exact A5 (by omega) (by omega)
     have w2:IntKind.i64.wrap (A2 ((D7 p.us).take k)+(gU p.us (k:Int).toNat).net)=A2 ((D7 p.us).take (k+1)):=by rw [e1,e4];exact A5 (by omega) (by omega)
     conv=>whnf
     refine ⟨[23],[],List.range 24,by kernel_rfl,?_⟩;conv=>whnf
     refine I4 htp hfp ?_
     refine E4 ?_
     refine I4 htp hfp ?_
     refine E4 ?_
     refine ⟨rfl,⟨by show 0≤(gU p.us (k:Int).toNat).line;exact hlk.1,by show (gU p.us (k:Int).toNat).line<(l.length:Int);have:=hlk.2;have:=hlk.1;omega⟩,?_⟩;conv=>whnf
     refine ldV htn rfl (by show 0+(gU p.us (k:Int).toNat).line.toNat<_;have:=hlk.2;omega) hfl ?_;conv=>whnf
     refine E4 ?_
     refine ⟨rfl,⟨by show 0≤(gU p.us (k:Int).toNat).line;exact hlk.1,by show (gU p.us (k:Int).toNat).line<(l.length:Int);have:=hlk.2;have:=hlk.1;omega⟩,?_⟩;conv=>whnf
     refine stV htn rfl (by show 0+(gU p.us (k:Int).toNat).line.toNat<_;have:=hlk.2;omega) hfl (by rfl) ?_
     have hP5:=hwn (Y':=⟨2,1,l.length,I1 fn (0+(gU p.us (k:Int).toNat).line.toNat) (eI (F8 (p.us.take (k+1)) (gU p.us (k:Int).toNat).line.toNat))⟩) hR
     rw [←w1] at hP5
     obtain ⟨_,htp2⟩:=hat hP5
     conv=>whnf
     refine ⟨[9],[],List.range 10,by kernel_rfl,?_⟩;conv=>whnf
     refine I4 htp2 hfp ?_
     refine E4 ?_
     refine X8 htp2 hfp ?_
     refine F6 ?_
     refine nx hk' ⟨_,_,by rw [B4 (by omega)],hwp hP5,?_,fun j hj=>?_⟩
     ·rw [A4,←w2];rfl
     ·show I1 fn (0+(gU p.us (k:Int).toNat).line.toNat) _ j=_
      rw [D5R]
      by_cases hj2:j=(gU p.us (k:Int).toNat).line.toNat
      ·subst hj2
       rw [A4,w1]
      ·rw [H4 hj2,Y8 hk' j,if_neg (fun e=>hj2 e.symm)];exact hfn j hj
    case false =>
     obtain rfl:=C2 hd2 hk
     rw [D5L] at hfn
     have htk2:(D7 p.us).take p.us.length=D7 p.us:=by rw [←D5F (f:=B2.net),D5L]
     rw [htk2] at hfp
     change fp 0=.agg [.own 1 bn 0 l.length,eI (O3 p),eI 0,dv] at hfp
     have hF:A0Q r.ship (V9 l).length (O3 p)=if ((p.us.length:Int)=0∨(r.ship.free>0∧O3 p≥r.ship.free)) then 0 else r.ship.fee:=by unfold A0Q;rw [hul1]
     have hnb0:0≤O3 p:=hnet0
     conv=>whnf
     refine B8 (fun g1=>?_) (fun g1=>?_)<;>rw [g1]<;>simp only [D5C,D5B] at g1
     case' refine_1 =>
      conv=>whnf
      refine B8 (fun g2=>?_) (fun g2=>?_)<;>rw [g2]<;>simp only [D6z,D6l,ne_eq] at g2
     case' refine_1.refine_1 =>
      conv=>whnf
      refine stU htp hfp ?_
      have hR3:=hwp (Z':=⟨170,4,1,I1 fp 0 (.agg [.own 1 bn 0 l.length,eI (O3 p),eI r.ship.fee,dv])⟩) hR
      have hfp3:I1 fp 0 (.agg [.own 1 bn 0 l.length,eI (O3 p),eI r.ship.fee,dv]) 0=.agg [.own 1 bn 0 l.length,eI (O3 p),eI (A0Q r.ship (V9 l).length (O3 p)),dv]:=by rw [A4,hF,if_neg (by omega)]
     case' refine_1.refine_2 =>
      conv=>whnf
      refine I4 htp hfp ?_
      refine B8 (fun g3=>?_) (fun g3=>?_)<;>rw [g3]<;>simp only [D5C,D5B] at g3
     case' refine_1.refine_2.refine_1 =>
      conv=>whnf
      refine stU htp hfp ?_
      have hR3:=hwp (Z':=⟨170,4,1,I1 fp 0 (.agg [.own 1 bn 0 l.length,eI (O3 p),eI r.ship.fee,dv])⟩) hR
      have hfp3:I1 fp 0 (.agg [.own 1 bn 0 l.length,eI (O3 p),eI r.ship.fee,dv]) 0=.agg [.own 1 bn 0 l.length,eI (O3 p),eI (A0Q r.ship (V9 l).length (O3 p)),dv]:=by rw [A4,hF,if_neg (by omega)]
     case' refine_1.refine_2.refine_2 =>
      have hR3:=hR
      have hfp3:fp 0=.agg [.own 1 bn 0 l.length,eI (O3 p),eI (A0Q r.ship (V9 l).length (O3 p)),dv]:=by rw [hfp,hF,if_pos (by omega)]
     case' refine_2 =>
      have hR3:=hR
      have hfp3:fp 0=.agg [.own 1 bn 0 l.length,eI (O3 p),eI (A0Q r.ship (V9 l).length (O3 p)),dv]:=by rw [hfp,hF,if_pos (by omega)]
     all_goals
      conv=>whnf
      clear hR hfp hF
      have hfeB:0≤A0Q r.ship (V9 l).length (O3 p)∧A0Q r.ship (V9 l).length (O3 p)≤10000000000000:=by
       unfold A0Q;split<;>omega
      refine lp o.length [3,6,11,12,13,19] (fun i vs t=>∃ (a:PSt×Int) (dv gv:AV) (G:List C8) (fp:Nat→AV),a=Z6 (fun a=>a.1) (V6 (O3 p)) A0n r.promos (p,A0Q r.ship (V9 l).length (O3 p)) (o.take i) ∧
       vs=[.fptr (H5 r) 0,.optr 4 b6 0 0,B0 o,.optr 4 bp 0 0,gv,eI i] ∧
       RD a.1.deals G dv gv (upd (upd s6 bn ⟨2,1,l.length,fn⟩) bp ⟨170,4,1,fp⟩) t∧fp 0=.agg [.own 1 bn 0 l.length,eI (O3 p),eI a.2,dv] ∧
       named G=a.1.groups∧G.length≤60+i∧a.1.deals.length≤60+i∧0≤a.2∧a.2≤10000000000000) ?_ ?_
      ·conv=>whnf
       exact ⟨(p,A0Q r.ship (V9 l).length (O3 p)),dv,gv,G,_,rfl,rfl,hR3,hfp3,hG,by omega,by show p.deals.length≤_;omega,hfeB⟩
      clear hR3 hfp3 hG hGn hDn htp htn hd hd2 hk hi
      rintro i vs t hi ⟨a,dv,gv,G,fp,ha,rfl,hR,hfp,hG,hGn,hDn,ha0,ha1⟩
      obtain ⟨htn,htp⟩:=hat hR
      conv=>whnf
      cases hd:decide ((i:Int)<(o.length:Int))
      case false =>
       obtain rfl:=C2 hd hi
       rw [D5L] at ha
       have hp2:p2B r l p o=a:=ha.symm
       rw [hp2] at hXd
       have h6b:t b6=some ⟨170,4,1,fun _=>H2 B8l.zero⟩:=hR.sup b6 _ (by rw [A9 hb6p,A9 hb6n];exact h6)
       have h76:E6 s6 t:=fun c x hc=>hR.sup c x (by
        have e1:c≠bp:=fun e=>by subst e;rw [hbp6] at hc;cases hc
        have e2:c≠bn:=fun e=>by subst e;rw [hbn] at hc;cases hc
        rw [A9 e1,A9 e2];exact hc)
       have hS2:E6 st t:=hst6.trans h76
       have hnets:∀ k,k<l.length→fn k=eI (gI X.nets k):=fun k hk=>by
        rw [hXd,hfn k hk]
        show eI _=eI (gI (X0 l.length p.us) k)
        unfold X0
        rw [M8 _ hk]
       conv=>whnf
       rcases hR.deals with ⟨hd0,rfl⟩ | ⟨bd,gd,rfl,hbd,hbt,hgd⟩
       ·refine I4 htp hfp ?_
        refine X8 h6b rfl ?_
        refine I4 (A0 ..) (A4 ..) ?_
        exact .inr ⟨hk0,bn,fn,.emp,by rw [hXd];rfl,hstn,by rw [A9 hb6n.symm];exact htn,hnets,hS2.over hb6,.inl ⟨by rw [hXd];exact hd0,rfl⟩⟩
       ·have hbdp:bd≠bp:=fun e=>by subst e;rw [A0] at hbd;cases hbd
        rw [A9 hbdp] at hbd
        have hbdn:bd≠bn:=fun e=>by subst e;rw [A0] at hbd;cases hbd
        rw [A9 hbdn] at hbd
        have hbd6:bd≠b6:=fun e=>by subst e;rw [h6] at hbd;cases hbd
        refine I4 htp hfp ?_
        refine X8 h6b rfl ?_
        refine I4 (A0 ..) (A4 ..) ?_
        exact .inr ⟨hk0,bn,fn,.own 2 bd 0 a.1.deals.length,by rw [hXd];rfl,hstn,by rw [A9 hb6n.symm];exact htn,hnets,hS2.over hb6,.inr ⟨bd,gd,by rw [hXd],hst6.none hbd,hbdn,by rw [A9 hbd6,hXd];exact hbt,by rw [hXd];exact hgd⟩⟩
      case true =>
       have hi':=D6 hd
       have hx:=hom _ (A6 hi')
       have hx0:0≤gI o (i:Int).toNat:=hx.1
       have hx1:(gI o (i:Int).toNat).toNat<r.promos.length:=hx.2
       have hpm:(r.promos.getD (gI o (i:Int).toNat).toNat default)∈r.promos:=A6 hx.2
       have hpc1:H3 (r.promos.getD (gI o (i:Int).toNat).toNat default)=true:=hck.promo _ hpm
       have hnext:Z6 (fun a=>a.1) (V6 (O3 p)) A0n r.promos (p,A0Q r.ship (V9 l).length (O3 p)) (o.take (i+1))=if A0n (r.promos.getD (gI o (i:Int).toNat).toNat default)=true then goB (fun a=>a.1) (V6 (O3 p)) a (r.promos.getD (gI o (i:Int).toNat).toNat default) else a:=by
        rw [htk hi',B1d,←ha];rfl
       have hend:∀ {q:PSt×Int} {dv' gv':AV} {G':List C8} {fp':Nat→AV} {t':St},q=Z6 (fun a=>a.1) (V6 (O3 p)) A0n r.promos (p,A0Q r.ship (V9 l).length (O3 p)) (o.take (i+1))→RD q.1.deals G' dv' gv' (upd (upd s6 bn ⟨2,1,l.length,fn⟩) bp ⟨170,4,1,fp'⟩) t'→fp' 0=.agg [.own 1 bn 0 l.length,eI (O3 p),eI q.2,dv'] →
         named G'=q.1.groups→G'.length≤60+(i+1)→q.1.deals.length≤60+(i+1)→0≤q.2∧q.2≤10000000000000→∃ (a:PSt×Int) (dv gv:AV) (G:List C8) (fp:Nat→AV),a=Z6 (fun a=>a.1) (V6 (O3 p)) A0n r.promos (p,A0Q r.ship (V9 l).length (O3 p)) (o.take (i+1)) ∧
         [.fptr (H5 r) 0,.optr 4 b6 0 0,B0 o,.optr 4 bp 0 0,gv',eI (IntKind.i64.wrap ((i:Int)+1))]=[.fptr (H5 r) 0,.optr 4 b6 0 0,B0 o,.optr 4 bp 0 0,gv,eI ((i+1:Nat):Int)] ∧
         RD a.1.deals G dv gv (upd (upd s6 bn ⟨2,1,l.length,fn⟩) bp ⟨170,4,1,fp⟩) t'∧fp 0=.agg [.own 1 bn 0 l.length,eI (O3 p),eI a.2,dv] ∧
         named G=a.1.groups∧G.length≤60+(i+1)∧a.1.deals.length≤60+(i+1)∧0≤a.2∧a.2≤10000000000000:=fun {q dv' gv' G' fp' t'} h1 h2 h3 h4 h5 h6 h7=>⟨q,dv',gv',G',fp',h1,by rw [B4 (by omega)],h2,h3,h4,h5,h6,h7⟩
       conv=>whnf
       refine ⟨[8,9],[1,5,7],List.range 10,by kernel_rfl,?_⟩;conv=>whnf
       refine ⟨_,fun s _=>⟨rfl,rfl⟩,?_⟩;conv=>whnf
       refine E4 ?_
       refine ⟨_,fun s _=>⟨rfl,rfl⟩,?_⟩;conv=>whnf
       refine ⟨rfl,⟨by show 0≤gI o (i:Int).toNat;omega,by show gI o (i:Int).toNat<(r.promos.length:Int);omega⟩,?_⟩;conv=>whnf
       refine ⟨_,fun s _=>⟨rfl,rfl⟩,?_⟩;conv=>whnf
       rw [show ((r.promos.getD (gI o (i:Int).toNat).toNat default).kind != 7)=!((r.promos.getD (gI o (i:Int).toNat).toNat default).kind==7) from rfl]
       cases h7:((r.promos.getD (gI o (i:Int).toNat).toNat default).kind==7)
       case false =>
        rw [if_neg (by unfold A0n;rw [h7];simp)] at hnext;conv=>whnf
        refine F6 ?_
        exact nx hi' (hend hnext.symm hR hfp hG (by omega) (by omega) ⟨ha0,ha1⟩)
       case true =>
        have hns:A0n (r.promos.getD (gI o (i:Int).toNat).toNat default)=true:=by unfold A0n;rw [h7]
        rw [if_pos hns,C7d hG] at hnext;conv=>whnf
        refine B3 (B6G G (r.promos.getD (gI o (i:Int).toNat).toNat default).group (by omega) gv _ hR.groups) ?_
        cases htk2:(!N3 (r.promos.getD (gI o (i:Int).toNat).toNat default).group&&G.any fun y=>y.toList==(r.promos.getD (gI o (i:Int).toNat).toNat default).group.toList)
        case true =>
         rw [if_pos htk2] at hnext;conv=>whnf
         refine F6 ?_
         exact nx hi' (hend hnext.symm hR hfp hG (by omega) (by omega) ⟨ha0,ha1⟩)
        case false =>
         rw [if_neg (by rw [htk2];simp)] at hnext
         have hgl:=C0O G
         rw [hG] at hgl
         have hinv:=B3v (net:=O3 p) (n:=0) hpc1 hns (a:=a) ⟨by omega,by omega,ha0,ha1⟩
         have hS0:V6 (O3 p) a (r.promos.getD (gI o (i:Int).toNat).toNat default)=((A7j a.1 (r.promos.getD (gI o (i:Int).toNat).toNat default) (O3 p) a.2).2,(A7j a.1 (r.promos.getD (gI o (i:Int).toNat).toNat default) (O3 p) a.2).1):=rfl
         have hSB:A7j a.1 (r.promos.getD (gI o (i:Int).toNat).toNat default) (O3 p) a.2=if O3 p<(r.promos.getD (gI o (i:Int).toNat).toNat default).least then (a.2,a.1) else (a.2 - J8 a.2 (r.promos.getD (gI o (i:Int).toNat).toNat default).rate,if J8 a.2 (r.promos.getD (gI o (i:Int).toNat).toNat default).rate>0 then A1J a.1 (r.promos.getD (gI o (i:Int).toNat).toNat default) (J8 a.2 (r.promos.getD (gI o (i:Int).toNat).toNat default).rate) else a.1):=rfl
         rw [hS0] at hnext hinv;conv=>whnf
         refine I4 htp hfp ?_
         cases hgt:decide ((r.promos.getD (gI o (i:Int).toNat).toNat default).least>O3 p)
         case true =>
          have hgt':=D5D hgt
          rw [hSB,if_pos hgt'] at hnext;conv=>whnf
          refine F6 ?_
          exact nx hi' (hend (q:=a) hnext.symm hR hfp hG (by omega) (by omega) ⟨ha0,ha1⟩)
         case false =>
          have hgt':=D5E hgt
          rw [if_neg (by omega)] at hSB
          have hb:=T9 a.2 (r.promos.getD (gI o (i:Int).toNat).toNat default).rate
          have hr0:=(A3N hpc1).ship (by simpa using h7)
          have hle:=A5g ha0 (show 0≤(r.promos.getD (gI o (i:Int).toNat).toNat default).rate by omega) hr0.2
          have hw:IntKind.i64.wrap (a.2 - J8 a.2 (r.promos.getD (gI o (i:Int).toNat).toNat default).rate)=a.2 - J8 a.2 (r.promos.getD (gI o (i:Int).toNat).toNat default).rate:=A5 (by omega) (by omega)
          conv=>whnf
          refine I4 htp hfp ?_
          refine I2 (A8E a.2 (r.promos.getD (gI o (i:Int).toNat).toNat default).rate _) ?_
          cases hgh:decide (J8 a.2 (r.promos.getD (gI o (i:Int).toNat).toNat default).rate>0)
          case false =>
           have hgh':=D5E hgh
           rw [if_neg hgh'] at hSB
           rw [hSB,show a.2 - J8 a.2 (r.promos.getD (gI o (i:Int).toNat).toNat default).rate=a.2 by omega] at hnext;conv=>whnf
           refine F6 ?_
           exact nx hi' (hend (q:=a) hnext.symm hR hfp hG (by omega) (by omega) ⟨ha0,ha1⟩)
          case true =>
           have hgh':=D5D hgh
           rw [if_pos hgh'] at hSB
           rw [hSB] at hnext hinv;conv=>whnf
           refine ⟨[1,6,7,8,10],[],[],.qui 0 (.qui 2 (.qui 4 (.qui 5 (.two 1 6 (.qui 3 (.qui 9 (.gen 6 (.gen 7 (.gen 8 (.gen 10 (.qui 11 .done))))))) (.two 1 7 (.qui 3 (.qui 9 (.gen 7 (.gen 8 (.gen 10 (.qui 11 .done)))))) (.two 1 8 (.qui 3 (.qui 9 (.gen 8 (.gen 10 (.qui 11 .done))))) (.gen 1 (.qui 3 (.qui 9 (.gen 10 (.qui 11 .done))))))))))),by kernel_rfl,?_⟩;conv=>whnf
           repeat' (refine And.intro ?_ ?_<;>(conv=>whnf))
           all_goals first
            | (refine ldV htp rfl (by omega) hfp ?_
               conv=>whnf
               refine RD.appG (y:=(r.promos.getD (gI o (i:Int).toNat).toNat default).group) hR rfl rfl (by omega) (fun gv' t1 hR1=>?_))
            | (refine RD.appG (y:=(r.promos.getD (gI o (i:Int).toNat).toNat default).group) hR rfl rfl (by omega) (fun gv' t1 hR1=>?_)
               conv=>whnf
               refine ldV (hat hR1).2 rfl (by omega) hfp ?_)
           all_goals
            conv=>whnf
            refine stU (hat hR1).2 hfp ?_
            have hR2:=hwp (Z':=⟨170,4,1,I1 fp 0 (.agg [.own 1 bn 0 l.length,eI (O3 p),eI (IntKind.i64.wrap (a.2 - J8 a.2 (r.promos.getD (gI o (i:Int).toNat).toNat default).rate)),dv])⟩) hR1
            rcases ROut.head hR2 with rfl | ⟨bo,rfl⟩
            all_goals
             conv=>whnf
             refine I4 (hat hR2).2 (A4 ..) ?_
             refine RD.appD (y:=⟨(r.promos.getD (gI o (i:Int).toNat).toNat default).id,J8 a.2 (r.promos.getD (gI o (i:Int).toNat).toNat default).rate⟩) hR2 rfl (by rfl) (by omega) (fun bd t2 hR3=>?_);conv=>whnf
             refine X8 (hat hR3).2 (A4 ..) ?_
             refine F6 ?_
             refine nx hi' ?_
             exact hend (q:=(A1J a.1 (r.promos.getD (gI o (i:Int).toNat).toNat default) (J8 a.2 (r.promos.getD (gI o (i:Int).toNat).toNat default).rate),a.2 - J8 a.2 (r.promos.getD (gI o (i:Int).toNat).toNat default).rate)) (G':=G++[(r.promos.getD (gI o (i:Int).toNat).toNat default).group]) hnext.symm (hwp hR3) (by rw [A4,hw];rfl) (by rw [B1t,hG];rfl) (by rw [D5M];show G.length+1≤_;omega) (by show (a.1.deals++[_]).length≤_;rw [D5M];show a.1.deals.length+1≤_;omega) ⟨by show 0≤a.2 - J8 a.2 (r.promos.getD (gI o (i:Int).toNat).toNat default).rate;omega,by show a.2 - J8 a.2 (r.promos.getD (gI o (i:Int).toNat).toNat default).rate≤_;omega⟩
end Go.Proofs.YtaapofnkmpiknaaGreat
namespace Go.Proofs.YtaapofnkmpiknaaGreat
open Go Go.Ab
abbrev C3w (l:List B1) (xs:List (Int×Int)):List A1T:=xs.map fun a=>(⟨(E8 l a.1).id,a.2⟩:A1T)
abbrev B1g (l:List B1) (xs:List (Int×Int)):List C8:=(xs.map fun a=>(E8 l a.1).group).filter fun g=>!N3 g
structure Tr (l:List B1) (p:PSt) (xs:List (Int×Int)):Prop where
 deals:p.deals=C3w l xs
 groups:p.groups=B1g l xs
 pos:∀ a∈xs,1≤a.2
 apart:p.groups.Pairwise fun x y=>(y.toList==x.toList)=false
theorem Tr.start (l:List B1) (us:List B2):Tr l ⟨us,[],[]⟩ []:=⟨rfl,rfl,fun a h=>absurd h D7f,.nil⟩
def B3W {σ : Type} (px : σ→PSt) (step : σ→B1→σ) (sm:B1→Bool) (l:List B1) (Q : σ→Int→Prop):Prop :=
 ∀ (a : σ) (s:Int) (pr:B1),pr∈l→sm pr=true→Q a s →
  ((px (step a pr)).deals=(px a).deals∧(px (step a pr)).groups=(px a).groups∧Q (step a pr) s) ∨
  ∃ off,1≤off∧(px (step a pr)).deals=(px a).deals++[⟨pr.id,off⟩]∧(px (step a pr)).groups=(px a).groups++(if N3 pr.group=true then [] else [pr.group])∧Q (step a pr) (s+off)
theorem C6L {σ : Type} {px : σ→PSt} {step : σ→B1→σ} {sm:B1→Bool} {l:List B1} {Q : σ→Int→Prop} (hstep:B3W px step sm l Q) :
  ∀ (f:List Int) (a : σ) (xs:List (Int×Int)) (s:Int),(∀ x∈f,x.toNat<l.length∧sm (E8 l x)=true)→Tr l (px a) xs→Q a s →
   ∃ ys,Tr l (px (f.foldl (fun a x=>goB px step a (E8 l x)) a)) (xs++ys)∧(ys.map Prod.fst).Sublist f∧Q (f.foldl (fun a x=>goB px step a (E8 l x)) a) (s+A2 (ys.map Prod.snd)):=by
 intro f
 induction f with
 | nil=>intro a xs s _ ht hq;exact ⟨[],by rw [D7v];exact ht,List.Sublist.slnil,by rw [show s+A2 (([]:List (Int×Int)).map Prod.snd)=s from D7N s];exact hq⟩
 | cons x f ih =>
  intro a xs s hm ht hq
  have hm':∀ y∈f,y.toNat<l.length∧sm (E8 l y)=true:=fun y hy=>hm y (D6a _ hy)
  have hx:=hm x (D6c ..)
  have hmem:E8 l x∈l:=A6 hx.1
  rw [D6W]
  unfold goB
  by_cases hg:(N3 (E8 l x).group||!inB (px a).groups (E8 l x).group)=true
  ·rw [if_pos hg]
   rcases hstep a s (E8 l x) hmem hx.2 hq with ⟨h1,h2,h3⟩ | ⟨off,h0,h1,h2,h3⟩
   ·obtain ⟨ys,k1,k2,k3⟩:=ih _ xs s hm' ⟨h1.trans ht.deals,h2.trans ht.groups,ht.pos,by rw [h2];exact ht.apart⟩ h3
    exact ⟨ys,k1,k2.cons _,k3⟩
   ·have ht':Tr l (px (step a (E8 l x))) (xs++[(x,off)]):=by
     refine ⟨?_,?_,fun b hb=>?_,?_⟩
     ·rw [h1,ht.deals];unfold C3w;rw [D6i];rfl
     ·rw [h2,ht.groups];unfold B1g
      rw [D6i,D7x]
      congr 1
      cases hn:N3 (E8 l x).group
      ·rw [if_neg (by simp)]
       show [(E8 l x).group]=List.filter (fun g=>!N3 g) [(E8 l x).group]
       rw [D6G (p:=fun g=>!N3 g) (by rw [hn];rfl)];rfl
      ·rw [if_pos rfl]
       show []=List.filter (fun g=>!N3 g) [(E8 l x).group]
       rw [D6N (p:=fun g=>!N3 g) (by rw [hn];simp)];rfl
     ·rcases D6Q.1 hb with hb | hb
      ·exact ht.pos b hb
      ·rw [D6f.1 hb];exact h0
     ·rw [h2]
      refine List.pairwise_append.2 ⟨ht.apart,?_,fun y hy z hz=>?_⟩
      ·split
       ·exact .nil
       ·exact List.pairwise_singleton _ _
      ·split at hz
       ·exact absurd hz D7f
       ·rename_i hn
        rw [D6f.1 hz]
        rw [D7k.2 hn,D6o,D5Q] at hg
        unfold inB at hg
        rw [D6F] at hg
        exact D7k.2 (hg y hy)
    obtain ⟨ys,k1,k2,k3⟩:=ih _ (xs++[(x,off)]) (s+off) hm' ht' h3
    refine ⟨(x,off)::ys,by rw [D7b] at k1;exact k1,k2.cons_cons x,?_⟩
    rw [D6I,J5,←Int.add_assoc];exact k3
  ·rw [if_neg hg]
   obtain ⟨ys,k1,k2,k3⟩:=ih _ xs s hm' ht hq
   exact ⟨ys,k1,k2.cons _,k3⟩
theorem B9T {σ : Type} {px : σ→PSt} {step : σ→B1→σ} {sm:B1→Bool} {l:List B1} {Q : σ→Int→Prop} (hstep:B3W px step sm l Q) {o:List Int} (ho:∀ x∈o,x.toNat<l.length) {a : σ} {xs:List (Int×Int)} {s:Int} (ht:Tr l (px a) xs) (hq:Q a s) :
  ∃ ys,Tr l (px (Z6 px step sm l a o)) (xs++ys)∧(ys.map Prod.fst).Sublist (o.filter fun x=>sm (E8 l x))∧Q (Z6 px step sm l a o) (s+A2 (ys.map Prod.snd)) :=
 C6L hstep _ a xs s (fun x hx=>⟨ho x (D6D.1 hx).1,(D6D.1 hx).2⟩) ht hq
theorem C2B {items:List Ab.Item} {us0:List B2} {l:List B1} (hf:∀ p∈l,Q7 p) (hr:∀ p∈l,H3 p=true):B3W (fun p:PSt=>p) (A4O items) U3 l (fun p s=>A6Z items p.us∧Off us0 p.us s):=by
 intro a s pr hm hs hq
 have hk:pr.kind≠7:=by simpa [U3] using hs
 unfold A4O
 by_cases h:(A0j items a.us pr).2>0
 ·rw [if_pos h]
  rcases B9W hq.1 (hf _ hm) (hr _ hm) hk with e | e
  ·rw [e] at h;exact absurd h (by decide)
  ·exact .inr ⟨_,by omega,rfl,rfl,hq.1.off e,hq.2.trans e⟩
 ·rw [if_neg h]
  exact .inl ⟨rfl,rfl,hq⟩
theorem C1y {net fee fee0:Int} {l:List B1} (hr:∀ p∈l,H3 p=true):B3W (fun a:PSt×Int=>a.1) (V6 net) A0n l (fun a s=>0≤a.2∧a.2≤fee∧a.2+s=fee0):=by
 intro a s pr hm hs hq
 have hk:pr.kind=7:=by simpa [A0n] using hs
 have h7:=(A3N (hr _ hm)).ship hk
 have hb:=T9 a.2 pr.rate
 have hle:=A5g hq.1 (show 0≤pr.rate by omega) h7.2
 unfold V6 A7j
 by_cases h:net<pr.least
 ·rw [if_pos h];exact .inl ⟨rfl,rfl,hq⟩
 ·rw [if_neg h]
  by_cases h2:J8 a.2 pr.rate>0
  ·rw [if_pos h2]
   exact .inr ⟨J8 a.2 pr.rate,by omega,rfl,rfl,by show 0≤a.2 - J8 a.2 pr.rate;omega,by show a.2 - J8 a.2 pr.rate≤_;omega,by show a.2 - J8 a.2 pr.rate+(s+J8 a.2 pr.rate)=_;omega⟩
  ·rw [if_neg h2]
   exact .inl ⟨rfl,rfl,by show 0≤a.2 - J8 a.2 pr.rate;omega,by show a.2 - J8 a.2 pr.rate≤_;omega,by show a.2 - J8 a.2 pr.rate+s=_;omega⟩
theorem A5U (a b:List B2) (j:Nat):F8 (a++b) j=F8 a j+F8 b j:=by
 unfold F8;rw [D7x,D6i,F3]
theorem B5T (l:List E7) (i j n:Nat):F8 (List.replicate n (lnU l i)) j=if i=j then n * (l.getD i default).price else 0:=by
 induction n with
 | zero=>show (0:Int)=_;split<;>simp
 | succ n ih =>
  rw [show List.replicate (n+1) (lnU l i)=[lnU l i]++List.replicate n (lnU l i) from rfl,A5U,ih]
  by_cases h:i=j
  ·rw [if_pos h,if_pos h]
   have:F8 [lnU l i] j=(l.getD i default).price:=by
    unfold F8
    rw [D6G (by show (((i:Int)).toNat==j)=true;rw [D5N,h];simp)]
    show A2 [(l.getD i default).price]=_
    rw [J5];exact D7N _
   rw [this,show ((n+1:Nat):Int) * (l.getD i default).price=n * (l.getD i default).price+(l.getD i default).price by rw [Int.natCast_add,D8g];simp]
   omega
  ·rw [if_neg h,if_neg h]
   have:F8 [lnU l i] j=0:=by
    unfold F8
    rw [D6N (by show ¬(((i:Int)).toNat==j)=true;rw [D5N];simpa using h)];rfl
   rw [this];rfl
theorem B7Q (l:List E7) (hl:∀ x∈l,0≤x.qty) (j k:Nat) (hk:k≤l.length):F8 (G3 l k) j=if j<k then (l.getD j default).qty * (l.getD j default).price else 0:=by
 induction k with
 | zero=>rfl
 | succ k ih =>
  show F8 (G3 l k++List.replicate (l.getD k default).qty.toNat (lnU l k)) j=_
  rw [A5U,ih (by omega),B5T]
  have hq:=hl _ (A6 (show k<l.length by omega))
  by_cases e:k=j
  ·subst e
   rw [if_neg (by omega),if_pos rfl,if_pos (by omega),D7s hq,Int.zero_add]
  ·rw [if_neg e]
   by_cases h:j<k
   ·rw [if_pos h,if_pos (by omega),D7N]
   ·rw [if_neg h,if_neg (by omega)];rfl
theorem B1l {us us':List B2} {x:Int} (h:Off us us' x) (j:Nat):∀ k,k≤us.length→F8 (us'.take k) j≤F8 (us.take k) j
 | 0,_=>D6j _
 | k+1,hk=>by
  have ih:=B1l h j k (by omega)
  have hl:=h.len
  rw [Y8 (by omega),Y8 (by omega),h.line k]
  have:=(h.net k).2
  split<;>omega
theorem B6W (f:Nat→Int) (t:Nat) (x:Int):∀ n,A2 ((List.range n).map fun j=>if t=j then f j+x else f j)=A2 ((List.range n).map f)+if t<n then x else 0
 | 0=>by rw [if_neg (by omega)];rfl
 | n+1=>by
  rw [L7,L7,B6W f t x n]
  by_cases e:t=n
  ·rw [if_pos e,if_neg (by omega),if_pos (by omega)];omega
  ·rw [if_neg e]
   by_cases h:t<n
   ·rw [if_pos h,if_pos (by omega)];omega
   ·rw [if_neg h,if_neg (by omega)];omega
theorem B2o:∀ n,A2 ((List.range n).map fun _=>(0:Int))=0
 | 0=>rfl
 | n+1=>by rw [L7,B2o n];rfl
theorem A8n {us:List B2} {n:Nat} (h:∀ k,k<us.length→(gU us k).line.toNat<n):∀ k,k≤us.length→A2 ((List.range n).map (F8 (us.take k)))=A2 (D7 (us.take k))
 | 0,_=>B2o n
 | k+1,hk=>by
  have ih:=A8n h k (by omega)
  have e1:(F8 (us.take (k+1)))=fun j=>if (gU us k).line.toNat=j then F8 (us.take k) j+(gU us k).net else F8 (us.take k) j:=funext fun j=>Y8 (by omega) j
  rw [e1,B6W,ih,if_pos (h k (by omega)),K6 (by omega)]
  unfold D7
  rw [D6i,F3]
  show _+(gU us k).net=_+A2 [(gU us k).net]
  rw [J5];show _=_+((gU us k).net+0);omega
structure A4i (r:H0) (codes:List C8) (l:List E7) (Pr:A3T) (xs ys:List (Int×Int)):Prop where
 deals:Pr.deals=C3w r.promos (xs++ys)
 mem:∀ a∈xs++ys,(0≤a.1∧a.1.toNat<r.promos.length)∧A0k codes (E8 r.promos a.1)=true∧1≤a.2
 sx:(xs.map Prod.fst).Sublist (U8 r.promos codes)
 sy:(ys.map Prod.fst).Sublist (U8 r.promos codes)
 kx:∀ a∈xs,(E8 r.promos a.1).kind≠7
 ky:∀ a∈ys,(E8 r.promos a.1).kind=7
 apart:(B1g r.promos (xs++ys)).Pairwise fun x y=>(y.toList==x.toList)=false
 sum:Pr.net+A2 (xs.map Prod.snd)=J6 l
 len:Pr.nets.length=l.length
 nets:A2 Pr.nets=Pr.net
 each:∀ i,i<l.length→0≤gI Pr.nets i∧gI Pr.nets i≤(l.getD i default).qty * (l.getD i default).price
 ship:0≤Pr.ship∧Pr.ship≤r.ship.fee
 shipSum:Pr.ship+A2 (ys.map Prod.snd)=A0Q r.ship (V9 l).length Pr.net
theorem B4F {l:List B1} {codes:List C8} {i:Nat} {x:Int} (h:x∈places l codes i):A0k codes (E8 l x)=true:=by
 unfold places at h
 obtain ⟨k,hk,rfl⟩:=D5X.1 h
 exact (D6D.1 hk).2
theorem C1d {r:H0} {codes:List C8} {l:List E7} (hf:A0T r) (hck:D8 r codes l=0):∃ xs ys,A4i r codes l (A0f r l (U8 r.promos codes) (U8 r.promos codes)) xs ys:=by
 have ck:=A6D hck
 have hok:=ck.lines
 have hu:=B5i hok
 obtain ⟨u1,u2,u3⟩:=A2x l hok.line l.length (D5J _)
 rw [D5L] at u1 u2
 have hitl:(C3 r.items l).length=l.length:=D5F ..
 have hpl:∀ x∈U8 r.promos codes,(0≤x∧x.toNat<r.promos.length)∧A0k codes (E8 r.promos x)=true:=fun x hx=>by
  have:=(A4t r.promos codes).mem_iff.1 hx
  exact ⟨A0G this,B4F this⟩
 have hlt:∀ x∈U8 r.promos codes,x.toNat<r.promos.length:=fun x hx=>(hpl x hx).1.2
 obtain ⟨xs,a1,a2,a3,a4⟩:=B9T (C2B (items:=C3 r.items l) (us0:=V9 l) hf.fit ck.promo) hlt (a:=⟨V9 l,[],[]⟩) (Tr.start r.promos (V9 l)) ⟨hu,Off.refl hu.ok⟩
 rw [D8F] at a1
 rw [Int.zero_add] at a4
 have hfee:0≤A0Q r.ship (V9 l).length (O3 (p1B r l (U8 r.promos codes)))∧A0Q r.ship (V9 l).length (O3 (p1B r l (U8 r.promos codes)))≤r.ship.fee:=by
  unfold A0Q;have:=ck.fee;split<;>omega
 obtain ⟨ys,b1,b2,b3⟩:=B9T (C1y (net:=O3 (p1B r l (U8 r.promos codes))) (fee:=r.ship.fee) (fee0:=A0Q r.ship (V9 l).length (O3 (p1B r l (U8 r.promos codes)))) ck.promo) hlt (a:=(p1B r l (U8 r.promos codes),A0Q r.ship (V9 l).length (O3 (p1B r l (U8 r.promos codes))))) (s:=0) a1 ⟨hfee.1,hfee.2,D7N _⟩
 rw [Int.zero_add] at b3
 have a2':∀ a∈xs,a.1∈U8 r.promos codes∧U3 (E8 r.promos a.1)=true:=fun a ha=>D6D.1 (a2.subset (D5X.2 ⟨a,ha,rfl⟩))
 have b2':∀ a∈ys,a.1∈U8 r.promos codes∧A0n (E8 r.promos a.1)=true:=fun a ha=>D6D.1 (b2.subset (D5X.2 ⟨a,ha,rfl⟩))
 have hus:A6Z (C3 r.items l) (p1B r l (U8 r.promos codes)).us:=a3
 have hlen:=a4.len
 have hln:∀ k,k<(p1B r l (U8 r.promos codes)).us.length→(gU (p1B r l (U8 r.promos codes)).us k).line.toNat<l.length:=fun k hk=>by
  have:=(hus.line _ (A6 hk)).2
  rw [hitl] at this;exact this
 have hsm:=A8n hln _ (D5J _)
 rw [D5L] at hsm
 refine ⟨xs,ys,b1.deals,fun a ha=>?_,a2.trans D7C,b2.trans D7C,fun a ha=>by simpa [U3] using (a2' a ha).2,fun a ha=>by simpa [A0n] using (b2' a ha).2,by rw [←b1.groups];exact b1.apart,?_,?_,hsm,fun i hi=>?_,⟨b3.1,b3.2.1⟩,b3.2.2⟩
 ·have hp:=b1.pos a ha
  rcases D6Q.1 ha with h | h
  ·exact ⟨(hpl _ (a2' a h).1).1,(hpl _ (a2' a h).1).2,hp⟩
  ·exact ⟨(hpl _ (b2' a h).1).1,(hpl _ (b2' a h).1).2,hp⟩
 ·have:=a4.sum
  show A2 (D7 (p1B r l (U8 r.promos codes)).us)+_=_
  exact this.trans u2
 ·show ((List.range l.length).map _).length=_
  rw [D5F,D6d]
 ·have e:gI (A0f r l (U8 r.promos codes) (U8 r.promos codes)).nets i=F8 (p1B r l (U8 r.promos codes)).us i:=by
   show gI ((List.range l.length).map (F8 (p1B r l (U8 r.promos codes)).us)) i=_
   unfold gI
   rw [D5A,D6y,D7e hi];rfl
  rw [e]
  have h1:=(A0Z hus.ok (p1B r l (U8 r.promos codes)).us.length i).1
  rw [D5L] at h1
  have h2:=B1l a4 i _ (D5J _)
  rw [D5L,D7t (Nat.le_of_eq hlen)] at h2
  have h3:=B7Q l (fun x hx=>((A0C _).1 (hok.line x hx)).1.1) i l.length (D5J _)
  rw [if_pos hi] at h3
  have h2':F8 (p1B r l (U8 r.promos codes)).us i≤F8 (G3 l l.length) i:=h2
  exact ⟨h1,by omega⟩
def B9y (l:List B1) (a:Int×Int):Int:=if (E8 l a.1).kind=7 then 0 else a.2
theorem A4i.off {r:H0} {codes:List C8} {l:List E7} {Pr:A3T} {xs ys:List (Int×Int)} (h:A4i r codes l Pr xs ys):Pr.net+A2 ((xs++ys).map (B9y r.promos))=J6 l:=by
 have e1:xs.map (B9y r.promos)=xs.map Prod.snd:=D6S fun a ha=>if_neg (h.kx a ha)
 have e2:∀ zs:List (Int×Int),(∀ a∈zs,(E8 r.promos a.1).kind=7)→A2 (zs.map (B9y r.promos))=0:=fun zs=>by
  induction zs with
  | nil=>intro _;rfl
  | cons a zs ih =>
   intro hz
   rw [D6I,J5,ih fun b hb=>hz b (D6a _ hb),show B9y r.promos a=0 from if_pos (hz a (D6c ..))];rfl
 rw [D6i,F3,e1,e2 ys h.ky,D7N];exact h.sum
theorem A9U {xs:List (Int×Int)} (h:∀ a∈xs,1≤a.2) (hs:A2 (xs.map Prod.snd)≤0):xs=[]:=by
 cases xs with
 | nil=>rfl
 | cons a xs =>
  have h1:=h a (D6c ..)
  have h2:0≤A2 (xs.map Prod.snd):=C1 fun x hx=>by
   obtain ⟨b,hb,rfl⟩:=D5X.1 hx
   have:=h b (D6a _ hb);omega
  rw [D6I,J5] at hs;omega
theorem A4i.nothing {r:H0} {codes:List C8} {l:List E7} {Pr:A3T} {xs ys:List (Int×Int)} (h:A4i r codes l Pr xs ys) (hq:∀ x∈l,x.qty=0) (hu:(V9 l).length=0) (hg:J6 l=0) :
  Pr.deals=[]∧Pr.ship=0∧(∀ x∈Pr.nets,x=0):=by
 have h0:∀ x∈Pr.nets,x=0:=fun x hx=>by
  obtain ⟨i,hi,rfl⟩:=D3 hx
  have hi':i<l.length:=by rw [←h.len];exact hi
  have h1:=h.each i hi'
  rw [hq _ (A6 hi'),D8A] at h1
  show gI Pr.nets i=0
  omega
 have hn:0≤Pr.net:=by rw [←h.nets];exact C1 fun x hx=>by rw [h0 x hx];exact D6j _
 have hx:xs=[]:=A9U (fun a ha=>(h.mem a (List.mem_append_left _ ha)).2.2) (by have:=h.sum;omega)
 have hsh:=h.shipSum
 have hfee:A0Q r.ship (V9 l).length Pr.net=0:=by unfold A0Q;rw [if_pos (.inl (by omega))]
 have hy:ys=[]:=A9U (fun a ha=>(h.mem a (List.mem_append_right _ ha)).2.2) (by have:=h.ship;omega)
 subst hx hy
 refine ⟨by rw [h.deals];rfl,?_,h0⟩
 rw [hfee] at hsh
 have:Pr.ship+0=0:=hsh
 omega
end Go.Proofs.YtaapofnkmpiknaaGreat
namespace Go.Proofs.YtaapofnkmpiknaaGreat
open Go Go.Ab
attribute [local irreducible] upd del
structure Q6 (R:H0) (C:List C8) (L:List E7):Prop where
 right:W0 R=true
 fit:A0T R
 sm:A7T R
 codes:S6 C=true
 ncodes:C.length≤3
 scodes:∀ s∈C,s.size≤12
 lines:A2k L
 check:D8 R C L=0
 few:R.promos.length≤6
 items:R.items.length≤8
 known:∀ n,known R.items (A1q n)=true
 fee:0≤R.ship.fee∧R.ship.fee≤1000000000
theorem C8l (r:H0) (codes:List C8) (l:List E7):Q6 (H6 r) (J4 codes) (A6M l):=by
 have hc:=B4H codes
 have hl:=B4I l
 have hr:=B0j r
 have hn:=A1M r.promos
 have hck:D8 (H6 r) (J4 codes) (A6M l)=0:=by
  unfold D8
  rw [if_neg (by rw [hr];simp),if_neg (by rw [hc.1];simp)]
  exact hl.check (A7w r.items)
 exact ⟨hr,B2P r,A8z r,hc.1,hc.2.1,hc.2.2,hl,hck,by show (N4 r.promos).length≤6;omega,by show (G2 r.items).length≤8;rw [A2i];omega,A7w r.items,(A6D hck).fee⟩
theorem Q6.relines {R:H0} {C:List C8} {L L':List E7} (h:Q6 R C L) (hl:A2k L'):Q6 R C L' :=
 { h with
  lines:=hl
  check:=by
   unfold D8
   rw [if_neg (by rw [h.right];simp),if_neg (by rw [h.codes];simp)]
   exact hl.check h.known }
theorem Q6.promosC {R:H0} {C:List C8} {L:List E7} (h:Q6 R C L):promosC R.promos=true:=by
 have:=h.right
 unfold W0 at this
 simp only [D5G] at this
 exact this.1.1.1.2
def A3x (R:H0) (C:List C8) (L:List E7):A3T:=A0f R L (U8 R.promos C) (U8 R.promos C)
theorem C3J {R:H0} {C:List C8} {L:List E7} (hck:D8 R C L=0) (hf:A0T R) (hC:Go.Proofs.YtaapofnkmpiknaaGreat.promosC R.promos=true) (hn:R.promos.length≤6) (hi:R.items.length≤8) (hc:C.length≤3) (st:St) :
  S P 122 [H5 R,C9 C,A8 3 H7 L] st fun v s=>v=.tuple [A1f (A3x R C L),eI 0]∧s=st :=
 (price_S B6R R C L hf (by show C.length≤9223372036854775807;omega) (by omega) (by have:=A1o R.promos C R.promos.length;omega) st).mono fun v s ⟨hv,hs⟩=>by
  refine ⟨?_,hs⟩
  rcases hv with ⟨h1,_⟩ | ⟨_,o1,o2,h1,h2,h3⟩
  ·exact absurd hck h1
  ·rw [B6C hC h1,B6C hC h2] at h3;exact h3
theorem Q6.price_S {R:H0} {C:List C8} {L:List E7} (h:Q6 R C L) (st:St) :
  S P 122 [H5 R,C9 C,A8 3 H7 L] st fun v s=>v=.tuple [A1f (A3x R C L),eI 0]∧s=st :=
 C3J h.check h.fit h.promosC h.few h.items h.ncodes st
theorem Q6.ref_S {R:H0} {C:List C8} {L:List E7} (h:Q6 R C L) (st:St) :
  S P 115 [H5 R,C9 C,A8 3 H7 L] st fun v s=>v=.tuple [A1f (A3x R C L),eI 0]∧s=st :=
 (C3U R C L h.fit h.sm h.right (by have:=h.ncodes;show C.length≤9223372036854775807;omega) (fun s hs=>by have:=h.scodes s hs;show s.size≤9223372036854775807;omega) (by have:=h.lines.len;show L.length≤9223372036854775807;omega) st).mono fun v s ⟨hv,hs⟩=>by
  rw [if_pos h.check] at hv
  exact ⟨hv,hs⟩
theorem Q6.law {R:H0} {C:List C8} {L:List E7} (h:Q6 R C L):∃ xs ys,A4i R C L (A3x R C L) xs ys:=C1d h.fit h.check
structure C7x (L:List E7) (Pr:A3T) (g fee:Int):Prop where
 len:Pr.nets.length=L.length
 at':∀ i,i<L.length→0≤gI Pr.nets i∧gI Pr.nets i≤(L.getD i default).qty * (L.getD i default).price
 sum:A2 Pr.nets=Pr.net
 net:0≤Pr.net∧Pr.net≤g
 ship:0≤Pr.ship∧Pr.ship≤fee
theorem Q6.nets {R:H0} {C:List C8} {L:List E7} (h:Q6 R C L):C7x L (A3x R C L) (J6 L) R.ship.fee:=by
 obtain ⟨xs,ys,hl⟩:=h.law
 have h0:∀ x∈(A3x R C L).nets,0≤x:=fun x hx=>by
  obtain ⟨i,hi,rfl⟩:=D3 hx
  exact (hl.each i (by rw [←hl.len];exact hi)).1
 have hx:0≤A2 (xs.map Prod.snd):=C1 fun x hx=>by
  obtain ⟨a,ha,rfl⟩:=D5X.1 hx
  have:=(hl.mem a (List.mem_append_left _ ha)).2.2
  omega
 have hs:=hl.sum
 have hn:=hl.nets
 have:=C1 h0
 exact ⟨hl.len,hl.each,hl.nets,by omega,hl.ship⟩
theorem B8T (n:Int) (st:St):S P 52 [eI n] st fun r st'=>r=eS (Q0 (B5 n 3))∧st'=st:=by
 refine F1 [] Tryz.func52 ?_
 refine I2 (Z8 n 3 (by decide) (by decide) _) ?_
 refine ⟨?_,rfl⟩
 show AV.str ((⟨#[122]⟩:C8)++B2m [IntKind.u8.wrap (48+IntKind.u8.wrap (B5 n 3))])=_
 rw [B2v];rfl
theorem D2D {t:Tax} {z:K7} {cats:List C8} {nets:List Int} {ship:Int} (h:A2z t z cats nets ship) (st:St) :
  S P (C4L t) [S7 t,B0 (cats.map (E9 z)),B0 nets] st fun v st'=>v=B0 (L0 t (cats.map (E9 z)) nets)∧st'=st:=by
 obtain ⟨r1,r2⟩:=A3y h
 unfold C4L L0
 split
 ·exact C0j t _ _ h.nets r1 r2 st
 ·exact B5z t _ _ h.nets.len r1 r2 st
theorem Q6.taxC {R:H0} {C:List C8} {L:List E7} (h:Q6 R C L):taxC R.tax=true:=by
 have:=h.right
 unfold W0 at this
 simp only [D5G] at this
 exact this.1.1.2
theorem Q6.levy {R:H0} {C:List C8} {L:List E7} (h:Q6 R C L) {z:K7} {s:C8} (hz:A0a R.tax.zones s=some z):A2z R.tax z (N2 R L) (A3x R C L).nets (A3x R C L).ship:=by
 have hN:=h.nets
 have hg:=B9O h.lines.line
 have hl:=h.lines.len
 have hf:=h.fee
 have hsh:=hN.ship
 refine ⟨h.taxC,B7G h.taxC hz,by rw [C0l,hN.len],⟨by rw [hN.len];omega,fun x hx=>?_,by rw [hN.sum];have:=hN.net;omega⟩,by omega⟩
 obtain ⟨i,hi,rfl⟩:=D3 hx
 exact (hN.at' i (by rw [←hN.len];exact hi)).1
def B1P (R:H0) (C:List C8) (L:List E7) (z:K7) (exempt:Bool):A0S:=A9z R z exempt L (A3x R C L)
theorem Q6.quote_S {R:H0} {C:List C8} {L:List E7} (h:Q6 R C L) {z:K7} {s:C8} (hz:A0a R.tax.zones s=some z) (exempt:Bool) (st:St) :
  S P 60 [H5 R,eS s,eB exempt,C9 C,A8 3 H7 L] st fun v st'=>v=.tuple [A0e (B1P R C L z exempt),eI 0]∧st'=st:=by
 have hv:=h.levy hz
 have hk:=(A6D h.check).lines.known
 have hi:=h.items
 have hl:=h.lines.len
 exact Go.Proofs.YtaapofnkmpiknaaGreat.quote_S exempt (fun st=>h.price_S st) (fun st=>A9j _ _ (by omega) (by omega) hk st) (by omega) hv hz (fun st=>D2D hv st) (B3w hv exempt) st
theorem Q6.quoteIn {R:H0} {C:List C8} {L:List E7} (h:Q6 R C L) {z:K7} {s:C8} (hz:A0a R.tax.zones s=some z) (exempt:Bool):B8W (B1P R C L z exempt) L.length:=by
 have:=B0v (h.levy hz) exempt (A3x R C L).deals
 rw [h.nets.len] at this;exact this
theorem B2Q (r:H0) (n:Int):∃ z,A0a (H6 r).tax.zones (Q0 (B5 n 3))=some z:=by
 have:=C7 n (n:=3) (by decide)
 obtain ⟨k,hk⟩:∃ k:Nat,B5 n 3=k:=⟨(B5 n 3).toNat,by omega⟩
 rw [hk]
 exact ⟨_,C2a r.tax (by omega)⟩
end Go.Proofs.YtaapofnkmpiknaaGreat
