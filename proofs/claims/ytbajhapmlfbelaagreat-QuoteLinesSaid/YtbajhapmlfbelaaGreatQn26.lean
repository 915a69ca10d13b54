/- Part 26 of the proof: contracts of the functions that the law reaches -/
import Derived.Test.YtbajhapmlfbelaaGreatQn25
set_option maxRecDepth 100000
set_option linter.unusedVariables false
set_option linter.unusedSimpArgs false
namespace Go.Proofs.YtbajhapmlfbelaaGreat
open Go Go.Ab
attribute [local irreducible] upd del
def goB {σ : Type} (px : σ→Y4) (step : σ→A8→σ) (a : σ) (pr:A8) : σ:=if Z8 pr.group||!inB (px a).groups pr.group then step a pr else a
def A0M {σ : Type} (px : σ→Y4) (step : σ→A8→σ) (sm:A8→Bool) (l:List A8) (a : σ) (o:List Int) : σ:=(o.filter fun x=>sm (H2 l x)).foldl (fun a x=>goB px step a (H2 l x)) a
def T8 (sm:A8→Bool) (l:List A8) (o:List Int) (i:Nat):List QE:=((List.range i).filter fun k=>sm (H2 l (gI o k))).map fun (k:Nat)=>(-(k:Int),gI o k)
theorem A4c (sm:A8→Bool) (l:List A8) (o:List Int) (i:Nat):T8 sm l o (i+1)=T8 sm l o i++(if sm (H2 l (gI o i))=true then [(-(i:Int),gI o i)] else []):=by
 unfold T8
 rw [List.range_succ,List.filter_append,List.map_append]
 congr 1
 by_cases h:sm (H2 l (gI o i))=true
 ·rw [if_pos h,List.filter_cons_of_pos (p:=fun k=>sm (H2 l (gI o k))) h];rfl
 ·rw [if_neg h,List.filter_cons_of_neg (p:=fun k=>sm (H2 l (gI o k))) h];rfl
theorem A9U (sm:A8→Bool) (l:List A8) (o:List Int) (i:Nat):(T8 sm l o i).length≤i:=by
 unfold T8
 rw [List.length_map]
 exact Nat.le_trans (List.length_filter_le ..) (by simp)
theorem A5v (sm:A8→Bool) (l:List A8) (o:List Int):∀ i,i≤o.length→(T8 sm l o i).map (·.2)=(o.take i).filter fun x=>sm (H2 l x)
 | 0,_=>by simp [T8]
 | i+1,h=>by
  rw [A4c,List.map_append,A5v sm l o i (by omega),I4 (show i<o.length by omega),List.filter_append]
  congr 1
  show List.map (fun x=>x.2) (if sm (H2 l (gI o i))=true then [(-(i:Int),gI o i)] else [])=List.filter (fun x=>sm (H2 l x)) [gI o i]
  by_cases hs:sm (H2 l (gI o i))=true
  ·rw [if_pos hs,List.filter_cons_of_pos (p:=fun x=>sm (H2 l x)) hs];rfl
  ·rw [if_neg hs,List.filter_cons_of_neg (p:=fun x=>sm (H2 l x)) hs];rfl
theorem A6i (sm:A8→Bool) (l:List A8) (o:List Int) (i:Nat):(T8 sm l o i).Pairwise fun a b=>D6 b a=false:=by
 unfold T8
 refine List.Pairwise.map _ (fun a b h=>?_) ((List.pairwise_lt_range (n:=i)).filter _)
 rw [W4]
 show ¬(-(b:Int) > -(a:Int)∨(-(b:Int) = -(a:Int)∧_))
 omega
theorem A8T {l:List A8} {codes:List D8} {o:List Int} (ho:A4p l codes o) {x:Int} (hx:x∈G8 l o):0≤x∧x.toNat<l.length:=by
 obtain ⟨e,he,rfl⟩:=List.mem_map.1 hx
 have h:=A5A he
 exact A1M (ho.1.subset (A7 h.2))
theorem B1a {σ : Type} {N:Nat} (hN:A0Y N) (bx:Nat) (items:List Ab.Item) (R : σ→St→St→Prop) (px : σ→Y4) (hR:∀ a,G0 (R a)) (hmore:∀ a s t t',R a s t→E2 t t'→R a s t') (hP:∀ a s t,R a s t→∃ s',Y5 bx items (px a) s' t)
  (l:List A8) (codes:List D8) (hl:l.length≤60) (hc:codes.length≤9223372036854775807) (h20:(places l codes l.length).length≤N)
  (g:FuncId) (cs:List AV) (sm:A8→Bool) (hsome:∀ (pr:A8) (t:St),S P g (B6 pr::cs) t fun v t'=>v=.bool (sm pr)∧t'=t)
  (f:FuncId) (fs ds:List AV) (step : σ→A8→σ) (Inv : σ→Nat→Prop) (hgr:∀ a n,Inv a n→(px a).groups.length≤1000) (hle:∀ a n,Inv a (n+1)→Inv a n)
  (hdo:∀ (a : σ) (n:Nat) (pr:A8) (s t:St),pr∈l→sm pr=true→Inv a (n+1)→R a s t→S P f (fs++[B6 pr]++ds) t fun v t'=>v=.tuple []∧R (step a pr) s t')
  (hinv:∀ (a : σ) (n:Nat) (pr:A8),pr∈l→sm pr=true→Inv a (n+1)→Inv (step a pr) n) (a0 : σ) (hI:Inv a0 60) (s t:St) (h:R a0 s t) :
  S P 78 [.optr 4 bx 0 0,A5 15 B6 l,E6 codes,.fn (.func g) [] cs,.fn (.func f) fs ds] t fun v t'=>v=.tuple []∧∃ o,A4p l codes o∧R (A0M px step sm l a0 (G8 l o)) s t':=by
 refine E3 [] Tryz.func78 ?_
 refine call (A7G t) (fun v t1 hv=>?_)
 obtain ⟨q,rfl,hq⟩:=hv
 conv=>whnf
 refine call (B5C hN l codes hl hc h20 t1) (fun v t2 hv=>?_)
 obtain ⟨⟨o,ho,rfl⟩,rfl⟩:=hv
 have hmem:=fun {x:Int} (hx:x∈G8 l o)=>A8T ho hx
 have hrl:(G8 l o).length≤60:=by
  rw [List.length_map,A0D,ho.1.length_eq]
  have:=A0C l codes l.length;omega
 obtain ⟨r,hr⟩:∃ r:List Int,r=G8 l o:=⟨_,rfl⟩
 rw [←hr] at hrl
 have hmem':∀ x∈r,0≤x∧x.toNat<l.length:=fun x hx=>hmem (by rw [←hr];exact hx)
 have hInvle:∀ (a : σ) (n m:Nat),m≤n→Inv a n→Inv a m:=fun a n m hmn h=>by
  induction n with
  | zero=>have:m=0:=by omega
          subst this;exact h
  | succ n ih =>
   rcases Nat.lt_or_ge n m with h1 | h1
   ·have:m=n+1:=by omega
    subst this;exact h
   ·exact ih h1 (hle a n h)
 have hfin:∀ t',R (A0M px step sm l a0 r) s t'→∃ o,A4p l codes o∧R (A0M px step sm l a0 (G8 l o)) s t':=fun t' h=>⟨o,ho,by rw [←hr];exact h⟩
 have hv:B2 (G8 l o)=B2 r:=by rw [hr]
 rw [hv]
 clear hv
 conv=>whnf
 refine ⟨[0,1,3,4,10,19,20,21],fun m vs t'=>∃ i:Nat,i≤r.length∧m=r.length - i∧vs=[.optr 4 bx 0 0,A5 15 B6 l,.fn (.func g) [] cs,.fn (.func f) fs ds,.optr 1 q 0 0,B2 r,eI r.length,eI i]∧T5 t q true (T8 sm l r i) t',?_,?_⟩
 ·conv=>whnf
  exact ⟨_,0,Nat.zero_le _,rfl,rfl,hq⟩
 ·clear hq
  rintro m vs t' ⟨i,hi,rfl,rfl,hq⟩
  have hpl:=A9U sm l r i
  conv=>whnf
  cases hd:decide ((i:Int)<(r.length:Int))
  ·have:=of_decide_eq_false hd
   obtain rfl:i=r.length:=by omega
   have hsnd:=A5v sm l r r.length (Nat.le_refl _)
   rw [List.take_length] at hsnd;conv=>whnf
   refine ⟨[0,1,4,10],fun m vs t'=>∃ (a : σ) (rest:List QE) (fl:Bool) (t0:St),m=rest.length∧vs=[.optr 4 bx 0 0,A5 15 B6 l,.fn (.func f) fs ds,.optr 1 q 0 0]∧(rest.map (·.2)).foldl (fun a x=>goB px step a (H2 l x)) a=A0M px step sm l a0 r∧(∀ e∈rest,(0≤e.2∧e.2.toNat<l.length)∧sm (H2 l e.2)=true)∧(rest.Pairwise fun a b=>D6 b a=false)∧Inv a rest.length∧R a s t0∧T5 t0 q fl rest t',?_,?_⟩
   ·conv=>whnf
    refine ⟨_,a0,T8 sm l r r.length,true,t,rfl,rfl,by rw [hsnd];rfl,fun e he=>?_,A6i sm l r r.length,hInvle a0 60 _ (by omega) hI,h,hq⟩
    have:e.2∈(T8 sm l r r.length).map (·.2):=List.mem_map_of_mem he
    rw [hsnd] at this
    obtain ⟨h1,h2⟩:=List.mem_filter.1 this
    exact ⟨hmem' _ h1,h2⟩
   ·clear hq
    rintro m vs t' ⟨a,rest,fl,t0,rfl,rfl,hF,hrm,hsort,hIa,hRa,hq⟩
    conv=>whnf
    refine H9 (A5w _ _ _ _ _ hq) ?_
    cases rest with
    | nil =>
     conv=>whnf
     refine ⟨rfl,hfin t' ?_⟩
     rw [←hF]
     exact hmore _ _ _ _ hRa hq.sup
    | cons x rest =>
     rw [List.pairwise_cons] at hsort
     have hx:=hrm x (List.mem_cons_self ..)
     have hlen0:decide (((x::rest).length:Int)>0)=true:=decide_eq_true (by rw [List.length_cons];omega)
     rw [hlen0];conv=>whnf
     refine call (A5x _ _ _ _ _ _ hq hsort.1) (fun v t2 hv=>?_)
     obtain ⟨rfl,hq2⟩:=hv
     have hpr:H2 l x.2∈l:=A7 hx.1.2
     have hgl:=hgr a _ hIa
     obtain ⟨s',hpx⟩:=hP a s t2 (hmore _ _ _ _ hRa hq2.sup)
     obtain ⟨dv,gv,fx,hbx,hfx,hgv,hcont⟩:=hpx.groups hgl
     conv=>whnf
     -- what is behind the round
     have hgo:goB px step a (H2 l x.2)=if Z8 (H2 l x.2).group||!inB (px a).groups (H2 l x.2).group then step a (H2 l x.2) else a:=rfl
     have hF2:(rest.map (·.2)).foldl (fun a x=>goB px step a (H2 l x)) (goB px step a (H2 l x.2))=A0M px step sm l a0 r:=by rw [←hF];rfl
     have round:∀ (b : σ) (t3:St),b=goB px step a (H2 l x.2)→Inv b rest.length→(∃ t0',R b s t0'∧T5 t0' q false rest t3)→∃ m',m'<rest.length+1∧∃ (a : σ) (rest_1:List QE) (fl:Bool) (t0:St),m'=rest_1.length∧[AV.optr 4 bx 0 0,A5 15 B6 l,.fn (.func f) fs ds,.optr 1 q 0 0]=[AV.optr 4 bx 0 0,A5 15 B6 l,.fn (.func f) fs ds,.optr 1 q 0 0]∧(rest_1.map (·.2)).foldl (fun a x=>goB px step a (H2 l x)) a=A0M px step sm l a0 r∧(∀ e∈rest_1,(0≤e.2∧e.2.toNat<l.length)∧sm (H2 l e.2)=true)∧(rest_1.Pairwise fun a b=>D6 b a=false)∧Inv a rest_1.length∧R a s t0∧T5 t0 q fl rest_1 t3 :=
      fun b t3 hb hib ⟨t0',h1,h2⟩=>⟨rest.length,Nat.lt_succ_self _,b,rest,false,t0',rfl,rfl,by rw [hb];exact hF2,fun e he=>hrm e (List.mem_cons_of_mem _ he),hsort.2,hib,h1,h2⟩
     -- the call itself
     have doit:∀ K:KK,(∀ t3,(∃ t0',R (step a (H2 l x.2)) s t0'∧T5 t0' q false rest t3)→K (.tuple []) t3)→Q7 P f (fs++[B6 (H2 l x.2)]++ds) t2 K:=fun K hK=>by
      refine call (A8S (hR a) (hmore a) (hR _) hRa hq2 (fun u hu=>hdo a rest.length (H2 l x.2) u t2 hpr hx.2 (by simpa using hIa) hu)) (fun v t3 hv=>?_)
      rw [hv.1];exact hK t3 hv.2
     refine ⟨[],[],[0,1,2,3,4,5,6,7,8,9,10,11,12,13,14,15,16,17,18],by kernel_rfl,?_⟩;conv=>whnf
     refine G9 ?_
     have hnil:(ByteArray.toList (l.getD x.2.toNat default).group==ByteArray.toList ⟨#[]⟩)=Z8 (H2 l x.2).group:=rfl
     have hyes:(Z8 (H2 l x.2).group||!inB (px a).groups (H2 l x.2).group)=true→∀ K:KK,(∀ t3,(∃ (b : σ),b=goB px step a (H2 l x.2)∧Inv b rest.length∧∃ t0',R b s t0'∧T5 t0' q false rest t3)→K (.tuple []) t3)→Q7 P f (fs++[B6 (H2 l x.2)]++ds) t2 K:=fun hy K hK =>
      doit K fun t3 h3=>hK t3 ⟨_,by rw [hgo,if_pos hy],hinv a _ _ hpr hx.2 (by simpa using hIa),h3⟩
     rw [hnil]
     cases hg:Z8 (H2 l x.2).group with
     | true =>
      conv=>whnf
      refine G9 ?_
      rw [A0n,A0n]
      refine hyes (by rw [hg];rfl) _ (fun t3 h3=>?_);conv=>whnf
      refine H4 ?_
      obtain ⟨b,h4,h5,h6⟩:=h3
      exact round b t3 h4 h5 h6
     | false =>
      rcases hgv with rfl | ⟨bg,rfl⟩
      all_goals
       conv=>whnf
       refine J7 hbx hfx ?_
       refine G9 ?_
       refine cqW (hcont (H2 l x.2).group) ?_
       cases hi:inB (px a).groups (H2 l x.2).group with
       | false =>
        conv=>whnf
        refine G9 ?_
        rw [A0n,A0n]
        refine hyes (by rw [hi];simp) _ (fun t3 h3=>?_);conv=>whnf
        refine H4 ?_
        obtain ⟨b,h4,h5,h6⟩:=h3
        exact round b t3 h4 h5 h6
       | true =>
        conv=>whnf
        refine H4 ?_
        refine round a t2 (by rw [hgo,if_neg (by rw [hg,hi];simp)]) (hle a _ (by simpa using hIa)) ⟨t0,hRa,hq2⟩
  ·have hi':i<r.length:=by have:=of_decide_eq_true hd;omega
   have hm:=hmem' _ (A7 hi')
   have es:=A4c sm l r i
   conv=>whnf
   refine G9 ?_
   refine ⟨rfl,⟨by show 0≤gI r i;exact hm.1,by show gI r i<(l.length:Int);have h1:=hm.1;have h2:=hm.2;show gI r i<_;have:(gI r i).toNat<l.length:=h2;have:0≤gI r i:=h1;omega⟩,?_⟩;conv=>whnf
   refine H9 (hsome (H2 l (gI r i)) t') ?_
   refine B5 (fun h3=>?_) (fun h3=>?_)<;>rw [h3]
   ·rw [if_pos h3] at es
    have w:IntKind.i64.wrap (0 - (i:Int)) = -(i:Int):=by rw [show 0 - (i:Int) = -(i:Int) by omega];exact B0 (by omega) (by omega)
    conv=>whnf
    rw [w]
    refine call (A4H t q _ (-(i:Int)) (gI r i) _ hq (by omega)) (fun v t2 hv=>?_)
    obtain ⟨rfl,hq'⟩:=hv
    conv=>whnf
    refine H4 ?_
    exact ⟨r.length - (i+1),by omega,i+1,by omega,rfl,by rw [B7 (by omega)],by rw [es];exact hq'⟩
   ·have h3':¬ sm (H2 l (gI r i))=true:=by rw [h3];simp
    rw [if_neg h3',List.append_nil] at es;conv=>whnf
    refine H4 ?_
    exact ⟨r.length - (i+1),by omega,i+1,by omega,rfl,by rw [B7 (by omega)],by rw [es];exact hq⟩
def G3 (r:Q2) (codes:List D8) (l:List G1):Int :=
 if A1k r=false then 10 else if A3t codes=false then 2 else R3 (known r.items) l
theorem B3O (r:Q2) (codes:List D8) (l:List G1) (hf:A2E r) (hc:codes.length≤Big) (hi:r.items.length≤9223372036854775807) (st:St) :
  S P 74 [A0s r,E6 codes,A5 3 F2 l] st fun v st'=>v=eI (G3 r codes l)∧st'=st:=by
 refine E3 [3] Tryz.func74 ?_
 refine H9 (B5N r hf st) ?_
 have hP:G3 r codes l=if A1k r=false then 10 else if A3t codes=false then 2 else R3 (known r.items) l:=rfl
 cases h1:A1k r
 ·rw [if_pos h1] at hP;conv=>whnf
  exact ⟨by rw [hP];rfl,rfl⟩
 ·rw [if_neg (by rw [h1];simp)] at hP;conv=>whnf
  refine H9 (B4Y codes hc st) ?_
  cases h2:A3t codes
  ·rw [if_pos h2] at hP;conv=>whnf
   exact ⟨by rw [hP];rfl,rfl⟩
  ·rw [if_neg (by rw [h2];simp)] at hP;conv=>whnf
   refine H9 (B4K r.items l hi st) ?_
   exact ⟨by rw [hP];rfl,rfl⟩
abbrev A5S (l:List G1):List A6:=D3 l l.length
structure A2C (items:List Ab.Item) (l:List G1):Prop where
 len:l.length≤1000
 line:∀ x∈l,Z9 x=true
 known:∀ x∈l,known items x.sku=true
 units:P4 l≤100000
 gross:O9 l≤10000000000000
theorem B5t {items:List Ab.Item} {l:List G1} (h:R3 (known items) l=0):A2C items l:=by
 unfold R3 at h
 split at h
 ·cases h
 ·rename_i hl
  split at h
  ·rename_i x hx
   split at h<;>cases h
  ·rename_i hf
   have hall:∀ x∈l,M5 (Go.Proofs.YtbajhapmlfbelaaGreat.known items) x=false:=fun x hx=>Bool.eq_false_iff.2 (List.find?_eq_none.1 hf x hx)
   have hb:∀ x∈l,Go.Proofs.YtbajhapmlfbelaaGreat.known items x.sku=true∧Z9 x=true:=fun x hx=>by
    have:=hall x hx
    unfold M5 at this
    simpa using this
   split at h
   ·cases h
   ·rename_i hg
    simp only [Bool.or_eq_true,decide_eq_true_eq,not_or] at hg
    exact ⟨by omega,fun x hx=>(hb x hx).2,fun x hx=>(hb x hx).1,by omega,by omega⟩
theorem A2C.may {items:List Ab.Item} {l:List G1} (h:A2C items l):(R3 (fun _=>true) l==0)=true:=by
 have:R3 (fun _=>true) l=0:=by
  unfold R3
  rw [if_neg (by have:=h.len;omega)]
  have hf:l.find? (M5 fun _=>true)=none:=List.find?_eq_none.2 fun x hx=>by
   unfold M5;rw [h.line x hx];simp
  rw [hf]
  simp only
  rw [if_neg]
  have:=h.units
  have:=h.gross
  simp only [Bool.or_eq_true,decide_eq_true_eq,not_or]
  omega
 rw [this];rfl
theorem A1r (l:List G1) (hl:∀ x∈l,Z9 x=true):∀ k,k≤l.length→((D3 l k).length:Int)=P4 (l.take k)∧A2 (C8 (D3 l k))=O9 (l.take k)∧(∀ u∈D3 l k,0≤u.net∧0≤u.line∧u.line.toNat<k∧u.opn=true)
 | 0,_=>⟨rfl,rfl,fun u hu=>by simp [D3] at hu⟩
 | k+1,h=>by
  obtain ⟨h1,h2,h3⟩:=A1r l hl k (by omega)
  have hx:=(A1I _).1 (hl _ (A7 (show k<l.length by omega)))
  have eN:P4 (l.take (k+1))=P4 (l.take k)+(l.getD k default).qty:=R4 (by omega) _ _
  have eG:O9 (l.take (k+1))=O9 (l.take k)+(l.getD k default).qty * (l.getD k default).price:=R4 (by omega) _ _
  have hup:D3 l (k+1)=D3 l k++List.replicate (l.getD k default).qty.toNat (lnU l k):=rfl
  have hsr:∀ (n:Nat) (c:Int),A2 (List.replicate n c)=n * c:=fun n c=>by
   induction n with
   | zero=>simp [A2]
   | succ n ih=>rw [List.replicate_succ,G6,ih,show ((n+1:Nat):Int)=(n:Int)+1 by omega,Int.add_mul,Int.one_mul];omega
  refine ⟨?_,?_,fun u hu=>?_⟩
  ·rw [hup,List.length_append,List.length_replicate,eN,←h1];omega
  ·unfold C8 at h2 ⊢
   rw [hup,List.map_append,E0,h2,List.map_replicate,hsr,eG]
   show _+((l.getD k default).qty.toNat:Int) * (l.getD k default).price=_
   rw [Int.toNat_of_nonneg hx.1.1]
  ·rw [hup] at hu
   rcases List.mem_append.1 hu with hu | hu
   ·have:=h3 u hu;exact ⟨this.1,this.2.1,by omega,this.2.2.2⟩
   ·rw [List.eq_of_mem_replicate hu]
    refine ⟨hx.2.1,?_,?_,rfl⟩
    ·show (0:Int)≤(k:Int);omega
    ·show ((k:Int)).toNat<k+1;omega
theorem B6a {items:List Ab.Item} {l:List G1} (h:A2C items l):A6a (C2 items l) (A5S l):=by
 obtain ⟨h1,h2,h3⟩:=A1r l h.line l.length (Nat.le_refl _)
 rw [List.take_length] at h1 h2
 have hN:=h.units
 have hG:=h.gross
 have hlen:(C2 items l).length=l.length:=List.length_map ..
 exact ⟨⟨by show (D3 l l.length).length≤100000;omega,fun u hu=>(h3 u hu).1,by show A2 (C8 (D3 l l.length))≤_;omega⟩,by rw [hlen];have:=h.len;omega,fun u hu=>⟨(h3 u hu).2.1,by rw [hlen];exact (h3 u hu).2.2.1⟩⟩
def C1F (bn n:Nat) (net ship:Int) (y:M6):Prop:=∃ f,y=⟨44,4,1,f⟩∧f 0=.agg [.own 1 bn 0 n,eI net,eI ship,.emp]
def R2 (bx bp bn n:Nat) (items:List Ab.Item) (net:Int) (a:Y4×Int):St→St→Prop:=S4 bp (C1F bn n net a.2) (Y5 bx items a.1)
theorem B3g (bx bp bn n:Nat) (items:List Ab.Item) (net:Int) (a:Y4×Int):G0 (R2 bx bp bn n items net a):=X1 (A0p _ _ _)
theorem R2.more {bx bp bn n:Nat} {items:List Ab.Item} {net:Int} {a:Y4×Int} {s t t':St} (h:R2 bx bp bn n items net a s t) (hs:E2 t t'):R2 bx bp bn n items net a s t':=by
 obtain ⟨h1,y,h2,h3⟩:=h
 exact ⟨h1,y,h2,h3.more hs⟩
def A0g (net:Int) (a:Y4×Int) (pr:A8):Y4×Int:=((A6S a.1 pr net a.2).2,(A6S a.1 pr net a.2).1)
theorem A5I (bx bp bn n:Nat) (items:List Ab.Item) (net:Int) (a:Y4×Int) (pr:A8) (h0:0≤a.2) (h1:a.2≤10000000000000) (hd:a.1.deals.length≤1000) (hg:a.1.groups.length≤1000) (s t:St) (h:R2 bx bp bn n items net a s t) :
  S P 82 [B6 pr,.fptr (.optr 4 bx 0 0) 0,.optr 4 bp 0 0] t fun v t'=>v=.tuple []∧R2 bx bp bn n items net (A0g net a pr) s t':=by
 obtain ⟨hbp,y,⟨f,rfl,hf⟩,hP⟩:=h
 have hat:t bp=some ⟨44,4,1,f⟩:=(A0p _ _ _).sup hP bp _ (A0 ..)
 refine E3 [3] Tryz.func82 ?_
 refine J7 hat hf ?_
 refine J7 hat hf ?_
 refine call (B0e bx items a.1 pr net a.2 h0 h1 hd hg _ t hP) (fun v t2 hv=>?_)
 obtain ⟨rfl,hP2⟩:=hv
 have hat2:t2 bp=some ⟨44,4,1,f⟩:=(A0p _ _ _).sup hP2 bp _ (A0 ..)
 conv=>whnf
 refine stW hat2 hf ?_
 refine ⟨rfl,?_⟩
 exact S4.set (A0p _ _ _) (Q:=fun y=>y=⟨44,4,1,f⟩) ⟨hbp,_,rfl,hP2⟩ ⟨_,rfl,by rw [B3];rfl⟩
def O5 (us:List A6) (j:Nat):Int:=A2 ((us.filter fun u=>u.line.toNat==j).map A6.net)
def T0 (n:Nat) (us:List A6):List Int:=(List.range n).map (O5 us)
theorem A2V {us:List A6} {k:Nat} (hk:k<us.length) (j:Nat):O5 (us.take (k+1)) j=if (gU us k).line.toNat=j then O5 (us.take k) j+(gU us k).net else O5 (us.take k) j:=by
 unfold O5
 rw [I4 hk,List.filter_append,List.map_append,E0]
 by_cases h:(gU us k).line.toNat=j
 ·rw [if_pos h,List.filter_cons_of_pos (by show ((gU us k).line.toNat==j)=true;rw [h];simp)]
  simp [A2]
 ·rw [if_neg h,List.filter_cons_of_neg (by show ¬((gU us k).line.toNat==j)=true;simpa using h)]
  simp [A2]
theorem A1Z {us:List A6} (h:C0 us) (k j:Nat):0≤O5 (us.take k) j∧O5 (us.take k) j≤A2 (C8 us):=by
 have hsub:((us.take k).filter fun u=>u.line.toNat==j).Sublist us:=List.filter_sublist.trans (List.take_sublist _ _)
 have hgen:∀ {a b:List A6},a.Sublist b→(∀ u∈b,0≤u.net)→0≤A2 (a.map A6.net)∧A2 (a.map A6.net)≤A2 (b.map A6.net):=fun {a b} hs=>by
  induction hs with
  | slnil=>intro _;exact ⟨Int.le_refl _,Int.le_refl _⟩
  | cons x _ ih =>
   intro hb
   have h1:=ih fun u hu=>hb u (List.mem_cons_of_mem _ hu)
   have h2:=hb x (List.mem_cons_self ..)
   rw [List.map_cons,G6];omega
  | cons_cons x _ ih =>
   intro hb
   have h1:=ih fun u hu=>hb u (List.mem_cons_of_mem _ hu)
   have h2:=hb x (List.mem_cons_self ..)
   rw [List.map_cons,List.map_cons,G6,G6];omega
 exact hgen hsub h.pos
def A1K (pr:A8):Bool:=!(pr.kind==7)
def A5f (pr:A8):Bool:=pr.kind==7
def p1B (r:Q2) (l:List G1) (o:List Int):Y4:=A0M (fun p=>p) (A6d (C2 r.items l)) A1K r.promos ⟨A5S l,[],[]⟩ o
def A1d (p:Y4):Int:=A2 (C8 p.us)
def p2B (r:Q2) (l:List G1) (p1:Y4) (o:List Int):Y4×Int:=A0M (fun a=>a.1) (A0g (A1d p1)) A5f r.promos (p1,A5c r.ship (A5S l).length (A1d p1)) o
def R8 (r:Q2) (l:List G1) (o1 o2:List Int):A7b:=⟨T0 l.length (p1B r l o1).us,A1d (p1B r l o1),(p2B r l (p1B r l o1) o2).2,(p2B r l (p1B r l o1) o2).1.deals⟩
theorem B1B {σ : Type} {px : σ→Y4} {step : σ→A8→σ} {sm:A8→Bool} {l:List A8} {Inv : σ→Nat→Prop} (hle:∀ a n,Inv a (n+1)→Inv a n) (hinv:∀ (a : σ) (n:Nat) (pr:A8),pr∈l→sm pr=true→Inv a (n+1)→Inv (step a pr) n) :
  ∀ (o:List Int) (a : σ) (n:Nat),(∀ x∈o,x.toNat<l.length)→Inv a (n+o.length)→Inv (A0M px step sm l a o) n:=by
 intro o
 unfold A0M
 induction o with
 | nil=>intro a n _ h;exact h
 | cons x o ih =>
  intro a n hm h
  have hm':∀ y∈o,y.toNat<l.length:=fun y hy=>hm y (List.mem_cons_of_mem _ hy)
  have hx:H2 l x∈l:=A7 (hm x (List.mem_cons_self ..))
  have h':Inv a ((n+o.length)+1):=by rw [List.length_cons] at h;exact h
  by_cases hs:sm (H2 l x)=true
  ·rw [List.filter_cons_of_pos (p:=fun x=>sm (H2 l x)) hs,List.foldl_cons]
   refine ih _ _ hm' ?_
   unfold goB
   split
   ·exact hinv a _ _ hx hs h'
   ·exact hle _ _ h'
  ·rw [List.filter_cons_of_neg (p:=fun x=>sm (H2 l x)) hs]
   exact ih _ _ hm' (hle _ _ h')
def B4O (items:List Ab.Item) (us0:List A6) (p:Y4) (n:Nat):Prop:=A6a items p.us∧p.deals.length+n≤100∧p.groups.length+n≤100∧∃ x,Y8 us0 p.us x
def B6z (a:Y4×Int) (n:Nat):Prop:=a.1.deals.length+n≤200∧a.1.groups.length+n≤200∧0≤a.2∧a.2≤10000000000000
theorem A6E {items:List Ab.Item} {us0:List A6} {a:Y4} {n:Nat} {pr:A8} (hfit:I9 pr) (hright:I2 pr=true) (hk:A1K pr=true) (h:B4O items us0 a (n+1)):B4O items us0 (A6d items a pr) n:=by
 obtain ⟨h1,h2,h3,x,h4⟩:=h
 obtain ⟨y,h5⟩:=B3d h1 hfit hright (by simpa [A1K] using hk)
 refine ⟨h1.off h5,?_,?_,x+y,h4.trans h5⟩
 ·unfold A6d;split
  ·simp only [A0b,List.length_append,List.length_cons,List.length_nil];omega
  ·omega
 ·unfold A6d;split
  ·simp only [A0b,List.length_append]
   split<;>simp<;>omega
  ·omega
theorem B1K {net:Int} {a:Y4×Int} {n:Nat} {pr:A8} (hright:I2 pr=true) (hk:A5f pr=true) (h:B6z a (n+1)):B6z (A0g net a pr) n:=by
 obtain ⟨h1,h2,h3,h4⟩:=h
 have hk7:pr.kind=7:=by simpa [A5f] using hk
 have hr:=(A4F hright).ship hk7
 have hb:=R5 a.2 pr.rate
 have hle:=A7I h3 (show 0≤pr.rate by omega) hr.2
 unfold A0g A6S
 split
 ·exact ⟨by show a.1.deals.length+n≤200;omega,by show a.1.groups.length+n≤200;omega,h3,h4⟩
 ·refine ⟨?_,?_,by show 0≤a.2 - L6 a.2 pr.rate;omega,by show a.2 - L6 a.2 pr.rate≤_;omega⟩
  ·show (if L6 a.2 pr.rate>0 then A0b a.1 pr (L6 a.2 pr.rate) else a.1).deals.length+n≤200
   split
   ·simp only [A0b,List.length_append,List.length_cons,List.length_nil];omega
   ·omega
  ·show (if L6 a.2 pr.rate>0 then A0b a.1 pr (L6 a.2 pr.rate) else a.1).groups.length+n≤200
   split
   ·simp only [A0b,List.length_append]
    split<;>simp<;>omega
   ·omega
theorem Y5.deals' {bx:Nat} {items:List Ab.Item} {p:Y4} {s t:St} (h:Y5 bx items p s t):∃ dv gv f,t bx=some ⟨147,4,1,f⟩∧f 0=.agg [A5 4 C6 items,B9 p.us,dv,gv] ∧
  ((p.deals=[]∧dv=.emp)∨∃ bd g,dv=.own 2 bd 0 p.deals.length∧s bd=none∧t bd=some ⟨134,2,p.deals.length,g⟩∧∀ k,k<p.deals.length→g k=A1a p.deals k):=by
 obtain ⟨⟨dv,gv⟩,h⟩:=h
 obtain ⟨y,⟨f,rfl,hf⟩,hy⟩:=S4.at (A1C _ _ _ _) h
 obtain ⟨hbx,_,_,hd⟩:=h
 obtain ⟨s0,hc,hg0⟩:=hd
 refine ⟨dv,gv,f,hy,hf,?_⟩
 rcases hc with ⟨h0,h1,rfl⟩ | ⟨h0,b,g0,hb,h1,rfl,hgg⟩
 ·exact .inl ⟨List.eq_nil_of_length_eq_zero h0,h1⟩
 ·refine .inr ⟨b,g0,h1,?_,(A7i _ _).sup hg0 b _ (A0 ..),hgg⟩
  by_cases e:b=bx
  ·subst e;rw [A0] at hb;cases hb
  ·rw [A3 e] at hb;exact hb
structure B4J (r:Q2) (codes:List D8) (l:List G1):Prop where
 rules:A1k r=true
 codes:A3t codes=true
 lines:A2C r.items l
 few:r.promos.length≤60
 promo:∀ p∈r.promos,I2 p=true
 fee:0≤r.ship.fee∧r.ship.fee≤1000000000
theorem B4X {r:Q2} {codes:List D8} {l:List G1} (h:G3 r codes l=0):B4J r codes l:=by
 unfold G3 at h
 split at h
 ·cases h
 ·rename_i h1
  split at h
  ·cases h
  ·rename_i h2
   have hr:A1k r=true:=by simpa using h1
   have hr':=hr
   unfold A1k at hr'
   simp only [Bool.and_eq_true] at hr'
   obtain ⟨⟨⟨⟨_,hp⟩,_⟩,hs⟩,_⟩:=hr'
   unfold X9 at hp
   simp only [Bool.and_eq_true,decide_eq_true_eq] at hp
   have hs':upB 0 1000000000 r.ship.fee=true:=by
    unfold B1d at hs
    simp only [Bool.and_eq_true] at hs
    exact hs.1
   refine ⟨hr,by simpa using h2,B5t h,by omega,fun p hm=>?_,Q6.1 hs'⟩
   obtain ⟨k,hk,rfl⟩:=E4 hm
   have:=A1B.1 hp.2 k hk
   unfold X8 at this
   simp only [Bool.and_eq_true] at this
   exact this.1
def B6D (r:Q2) (codes:List D8) (l:List G1) (v:AV):Prop :=
 (G3 r codes l≠0∧v=.tuple [A2S ⟨[],0,0,[]⟩,eI (G3 r codes l)]) ∨
 (G3 r codes l=0∧∃ o1 o2,A4p r.promos codes o1∧A4p r.promos codes o2∧v=.tuple [A2S (R8 r l (G8 r.promos o1) (G8 r.promos o2)),eI 0])
theorem B5F {N:Nat} (hN:A0Y N) (r:Q2) (codes:List D8) (l:List G1) (hf:A2E r) (hc:codes.length≤Big) (hi:r.items.length≤9223372036854775807) (h20:(places r.promos codes r.promos.length).length≤N) (st:St) :
  S P 18 [A0s r,E6 codes,A5 3 F2 l] st fun v st'=>B6D r codes l v∧st'=st:=by
 refine S.post (post:=fun v st'=>(G3 r codes l≠0∧v=.tuple [.agg [.emp,eI 0,eI 0,.emp],eI (G3 r codes l)]∧E2 st st') ∨
   (G3 r codes l=0∧∃ o1 o2 bn fn dv,A4p r.promos codes o1∧A4p r.promos codes o2∧v=.tuple [.agg [.own 1 bn 0 l.length,eI (R8 r l (G8 r.promos o1) (G8 r.promos o2)).net,eI (R8 r l (G8 r.promos o1) (G8 r.promos o2)).ship,dv],eI 0] ∧
    st bn=none∧st' bn=some ⟨2,1,l.length,fn⟩∧(∀ k,k<l.length→fn k=eI (gI (R8 r l (G8 r.promos o1) (G8 r.promos o2)).nets k))∧E2 st st' ∧
    (((R8 r l (G8 r.promos o1) (G8 r.promos o2)).deals=[]∧dv=.emp)∨∃ bd g,dv=.own 2 bd 0 (R8 r l (G8 r.promos o1) (G8 r.promos o2)).deals.length∧st bd=none∧bd≠bn∧st' bd=some ⟨134,2,(R8 r l (G8 r.promos o1) (G8 r.promos o2)).deals.length,g⟩∧∀ k,k<(R8 r l (G8 r.promos o1) (G8 r.promos o2)).deals.length→g k=A1a (R8 r l (G8 r.promos o1) (G8 r.promos o2)).deals k))) ?_
  (fun v st' hv=>by
   rcases hv with ⟨h1,rfl,hs⟩ | ⟨h1,o1,o2,bn,fn,dv,h2,h3,rfl,h4,h5,h6,hs,h7⟩
   ·refine ⟨_,st,⟨.inl ⟨h1,rfl⟩,rfl⟩,(hs.shift _).trans (A4.tuple (A4.cons (A4.agg ?_) (A4.keep _ _)) rfl)⟩
    exact A4.cons (G5 1 _) (A4.cons (A4.keep [eI 0] _) (A4.cons (A4.keep [eI 0] _) (G5 2 _)))
   ·refine ⟨_,st,⟨.inr ⟨h1,o1,o2,h2,h3,rfl⟩,rfl⟩,A4.tuple (A4.cons (A4.agg ?_) (A4.keep _ _)) rfl⟩
    have hnl:(R8 r l (G8 r.promos o1) (G8 r.promos o2)).nets.length=l.length:=by show (T0 _ _).length=_;unfold T0;rw [List.length_map,List.length_range]
    generalize R8 r l (G8 r.promos o1) (G8 r.promos o2)=X at *
    have e1:B2 X.nets=.arr 1 l.length (fun k=>eI (gI X.nets k)):=by unfold B2 A5;rw [hnl]
    refine A4.cons (t:=del st' bn) ?_ (A4.cons (A4.keep [eI X.net] _) (A4.cons (A4.keep [eI X.ship] _) ?_))
    ·rw [e1];exact M1 h5 rfl (Nat.le_refl _) h6
    ·rcases h7 with ⟨h8,rfl⟩ | ⟨bd,g,rfl,h8,h9,h10,h11⟩
     ·rw [h8]
      exact ((E2.del hs h4).shift _).trans (G5 2 _)
     ·refine (M1 (b:=bd) (y:=⟨134,2,X.deals.length,g⟩) (f:=A1a X.deals) (by rw [W0 h9];exact h10) rfl (Nat.le_refl _) h11).trans ?_
      exact (E2.del (E2.del hs h4) h8).shift _)
 refine E3 [3,9,10,13] Tryz.func18 ?_
 intro b6 hb6;conv=>whnf
 refine H9 (B3O r codes l hf hc hi _) ?_
 have h6s:∀ x:M6,E2 st (upd st b6 x):=fun x=>(E2.refl st).upd hb6
 cases h1:(G3 r codes l != 0)
 ·have hk0:G3 r codes l=0:=by simpa using h1
  have hck:=B4X hk0
  have hln:=hck.lines
  have hlen:=hln.len
  have hus0:=B6a hln
  obtain ⟨u1,u2,u3⟩:=A1r l hln.line l.length (Nat.le_refl _)
  have hitl:(C2 r.items l).length=l.length:=List.length_map ..
  have hmo:=fun {o:List Int} (ho:A4p r.promos codes o)=>(show (G8 r.promos o).length≤60 by
   rw [List.length_map,A0D,ho.1.length_eq]
   have:=A0C r.promos codes r.promos.length
   have:=hck.few;omega)
  conv=>whnf
  refine H9 (A6F r.items l hi hlen hln.known _) ?_
  refine H9 (B5Z l hlen (fun x hx=>((A1I x).1 (hln.line x hx)).1) hus0.ok.len hln.may _) ?_
  generalize hs6:(upd st b6 _)=s6 at *
  have h6:s6 b6=some ⟨44,4,1,fun _=>F9 r44.zero⟩:=by rw [←hs6];exact A0 ..
  have hBig:(Big:Nat)≤9223372036854775807:=by decide
  have hst6:E2 st s6:=by rw [←hs6];exact h6s _
  intro bx hbx;conv=>whnf
  have hP0:Y5 bx (C2 r.items l) ⟨A5S l,[],[]⟩ s6 (upd s6 bx ⟨147,4,1,fun _=>.agg [A5 4 C6 (C2 r.items l),B9 (A5S l),.emp,.emp]⟩) :=
   Y5.mk' hbx rfl (ROut.start (ROut.start (E2.refl _) _ _ _) _ _ _)
  refine call (B1a (σ:=Y4) hN bx (C2 r.items l) (Y5 bx (C2 r.items l)) (fun p=>p) (A0p bx (C2 r.items l)) (fun a s t t' h hs=>h.more hs) (fun a s t h=>⟨s,h⟩) r.promos codes hck.few (Nat.le_trans hc hBig) h20 79 [.fptr (.fn (.func 77) [] []) 0] A1K (fun pr t=>B3K pr t)
   80 [.optr 4 bx 0 0] [] (A6d (C2 r.items l)) (B4O (C2 r.items l) (A5S l)) (fun a n h=>by have:=h.2.2.1;omega) (fun a n h=>⟨h.1,by have:=h.2.1;omega,by have:=h.2.2.1;omega,h.2.2.2⟩)
   (fun a n pr s t hm hs hI h=>B7U bx (C2 r.items l) a pr (hf.fit pr hm) (hck.promo pr hm) (by simpa [A1K] using hs) hI.1 (by have:=hI.2.1;omega) (by have:=hI.2.2.1;omega) s t h)
   (fun a n pr hm hs hI=>A6E (hf.fit pr hm) (hck.promo pr hm) hs hI) ⟨A5S l,[],[]⟩ ⟨hus0,by simp,by simp,0,Y8.refl hus0.ok⟩ s6 _ hP0) (fun v t1 hv=>?_)
  obtain ⟨rfl,o1,ho1,hP1⟩:=hv
  have hp1:A0M (fun p=>p) (A6d (C2 r.items l)) A1K r.promos ⟨A5S l,[],[]⟩ (G8 r.promos o1)=p1B r l (G8 r.promos o1):=rfl
  have hI1:B4O (C2 r.items l) (A5S l) (p1B r l (G8 r.promos o1)) 40:=B1B (fun a n h=>⟨h.1,by have:=h.2.1;omega,by have:=h.2.2.1;omega,h.2.2.2⟩) (fun a n pr hm hs hI=>A6E (hf.fit pr hm) (hck.promo pr hm) hs hI) (G8 r.promos o1) ⟨A5S l,[],[]⟩ 40 (fun x hx=>(A8T ho1 hx).2) ⟨hus0,by have:=hmo ho1;show 0+(40+(G8 r.promos o1).length)≤100;omega,by have:=hmo ho1;show 0+(40+(G8 r.promos o1).length)≤100;omega,0,Y8.refl hus0.ok⟩
  rw [hp1] at hP1
  have hQ:∀ o2,R8 r l (G8 r.promos o1) (G8 r.promos o2)=⟨T0 l.length (p1B r l (G8 r.promos o1)).us,A1d (p1B r l (G8 r.promos o1)),(p2B r l (p1B r l (G8 r.promos o1)) (G8 r.promos o2)).2,(p2B r l (p1B r l (G8 r.promos o1)) (G8 r.promos o2)).1.deals⟩:=fun _=>rfl
  generalize p1B r l (G8 r.promos o1)=p1 at *
  obtain ⟨hus1,hd1,hg1,xoff,hoff⟩:=hI1
  have hul1:p1.us.length=(A5S l).length:=hoff.len
  have hu1:=hus1.ok
  have hul:=hu1.len
  have hus:=hu1.sum
  have hnet0:=B8 hu1.nets0
  have hBP:=A0p bx (C2 r.items l) p1
  conv=>whnf
  refine mkO rfl rfl rfl (by show 8 * l.length≤_;omega) (by omega) (by rfl) (fun bn hbn=>?_);conv=>whnf
  intro bp hbp
  have hnb:bn≠bp:=fun e=>by subst e;rw [A0] at hbp;cases hbp
  have hbp1:t1 bp=none:=by rw [A3 hnb.symm] at hbp;exact hbp
  have hbn6:s6 bn=none:=(hBP.sup hP1).none hbn
  have hbp6:s6 bp=none:=(hBP.sup hP1).none hbp1
  conv=>whnf
  refine stW (A0 ..) rfl ?_
  -- the pricer,what the lines come to,what is made of it
  have hP2:=fun (Y Z:M6)=>hBP.begin (y:=Z) (hBP.begin (y:=Y) hP1 hbn) (by rw [A3 hnb.symm];exact hbp1)
  have hload:∀ {Y Z:M6} {t:St},Y5 bx (C2 r.items l) p1 (upd (upd s6 bn Y) bp Z) t→t bn=some Y∧t bp=some Z:=fun h=>⟨hBP.sup h bn _ (by rw [A3 hnb,A0]),hBP.sup h bp _ (A0 ..)⟩
  have hwn:∀ {Y Z Y':M6} {t:St},Y5 bx (C2 r.items l) p1 (upd (upd s6 bn Y) bp Z) t→Y5 bx (C2 r.items l) p1 (upd (upd s6 bn Y') bp Z) (upd t bn Y'):=fun {Y Z Y' t} h=>by
   have:=hBP.write (b:=bn) (y':=Y') h (by rw [A3 hnb,A0])
   rw [L0 hnb.symm,G7] at this;exact this
  have hwp:∀ {Y Z Z':M6} {t:St},Y5 bx (C2 r.items l) p1 (upd (upd s6 bn Y) bp Z) t→Y5 bx (C2 r.items l) p1 (upd (upd s6 bn Y) bp Z') (upd t bp Z'):=fun {Y Z Z' t} h=>by
   have:=hBP.write (b:=bp) (y':=Z') h (A0 ..)
   rw [G7] at this;exact this
  have hP3:=hP2 ⟨2,1,l.length,fun _=>F9 r2.zero⟩ ⟨44,4,1,fun _=>F9 r44.zero⟩
  have hP4:=hwp (Z':=⟨44,4,1,L4 (fun _=>F9 r44.zero) 0 (.agg [.own 1 bn 0 l.length,eI 0,eI 0,.emp])⟩) hP3
  obtain ⟨dv1,gv1,fx1,hx1,hfx1,_,_⟩:=hP4.at
  refine J7 hx1 hfx1 ?_
  have hline:∀ k,k<p1.us.length→0≤(gU p1.us k).line∧(gU p1.us k).line.toNat<l.length:=fun k hk=>by
   have:=hus1.line _ (A7 hk)
   rw [hitl] at this;exact this
  refine ⟨[1,3,6,9,10,11,45,46,47],fun m vs t=>∃ (k:Nat) (fn fp:Nat→AV),k≤p1.us.length∧m=p1.us.length - k∧vs=[E6 codes,.fptr (A0s r) 0,.optr 4 b6 0 0,.fptr (.optr 4 bx 0 0) 0,.fptr (.fn (.func 77) [] []) 0,.optr 4 bp 0 0,B9 p1.us,eI p1.us.length,eI k] ∧
   Y5 bx (C2 r.items l) p1 (upd (upd s6 bn ⟨2,1,l.length,fn⟩) bp ⟨44,4,1,fp⟩) t∧fp 0=.agg [.own 1 bn 0 l.length,eI (A2 ((C8 p1.us).take k)),eI 0,.emp]∧∀ j,j<l.length→fn j=eI (O5 (p1.us.take k) j),?_,?_⟩
  ·conv=>whnf
   exact ⟨_,0,_,_,Nat.zero_le _,rfl,rfl,hP4,B3 ..,fun j _=>rfl⟩
  ·clear hP4 hP3 hx1 hfx1 hP2
   rintro m vs t ⟨k,fn,fp,hk,rfl,rfl,hP,hfp,hfn⟩
   obtain ⟨htn,htp⟩:=hload hP
   conv=>whnf
   cases hd:decide ((k:Int)<(p1.us.length:Int))
   ·have:=of_decide_eq_false hd
    obtain rfl:k=p1.us.length:=by omega
    rw [List.take_length] at hfn
    have htk:(C8 p1.us).take p1.us.length=C8 p1.us:=by rw [←List.length_map (f:=A6.net),List.take_length]
    rw [htk] at hfp;conv=>whnf
    obtain ⟨dv1,gv1,fx1,hx1,hfx1,_,_⟩:=hP.at
    refine ⟨[11],[],[0,1,2,3,4,5,6,7,8,9,10,11],by kernel_rfl,?_⟩;conv=>whnf
    refine J7 hx1 hfx1 ?_
    refine J7 htp hfp ?_
    refine cqW (B8b r.ship p1.us.length (A1d p1) t) ?_
    refine stW htp hfp ?_
    have hP5:=hwp (Z':=⟨44,4,1,L4 fp 0 (.agg [.own 1 bn 0 l.length,eI (A1d p1),eI (A5c r.ship p1.us.length (A1d p1)),.emp])⟩) hP
    have hfee:0≤A5c r.ship p1.us.length (A1d p1)∧A5c r.ship p1.us.length (A1d p1)≤10000000000000:=by
     have:=hck.fee
     unfold A5c;split<;>omega
    generalize hfe:A5c r.ship p1.us.length (A1d p1)=fee at *
    have hR2:R2 bx bp bn l.length (C2 r.items l) (A1d p1) (p1,fee) (upd s6 bn ⟨2,1,l.length,fn⟩) (upd t bp ⟨44,4,1,L4 fp 0 (.agg [.own 1 bn 0 l.length,eI (A1d p1),eI fee,.emp])⟩):=⟨by rw [A3 hnb.symm];exact hbp6,_,⟨_,rfl,B3 ..⟩,hP5⟩
    refine call (B1a (σ:=Y4×Int) hN bx (C2 r.items l) (R2 bx bp bn l.length (C2 r.items l) (A1d p1)) (fun a=>a.1) (B3g bx bp bn l.length (C2 r.items l) (A1d p1)) (fun a s t t' h hs=>h.more hs) (fun a s t h=>⟨_,h.2.choose_spec.2⟩) r.promos codes hck.few (Nat.le_trans hc hBig) h20 77 [] A5f (fun pr t=>A8C pr t)
     82 [] [.fptr (.optr 4 bx 0 0) 0,.optr 4 bp 0 0] (A0g (A1d p1)) B6z (fun a n h=>by have:=h.2.1;omega) (fun a n h=>⟨by have:=h.1;omega,by have:=h.2.1;omega,h.2.2⟩)
     (fun a n pr s t hm hs hI h=>A5I bx bp bn l.length (C2 r.items l) (A1d p1) a pr hI.2.2.1 hI.2.2.2 (by have:=hI.1;omega) (by have:=hI.2.1;omega) s t h)
     (fun a n pr hm hs hI=>B1K (hck.promo pr hm) hs hI) (p1,fee) ⟨by show p1.deals.length+60≤200;omega,by show p1.groups.length+60≤200;omega,hfee⟩ (upd s6 bn ⟨2,1,l.length,fn⟩) _ hR2) (fun v t2 hv=>?_)
    obtain ⟨rfl,o2,ho2,hR3⟩:=hv
    have hp2:A0M (fun a:Y4×Int=>a.1) (A0g (A1d p1)) A5f r.promos (p1,fee) (G8 r.promos o2)=p2B r l p1 (G8 r.promos o2):=by
     unfold p2B;rw [←hfe,hul1]
    rw [hp2] at hR3
    have hQ2:=hQ o2
    generalize p2B r l p1 (G8 r.promos o2)=a2 at *
    obtain ⟨hbp7,y,⟨f7,rfl,hf7⟩,hP7⟩:=hR3
    have hBP7:=A0p bx (C2 r.items l) a2.1
    have h7p:t2 bp=some ⟨44,4,1,f7⟩:=hBP7.sup hP7 bp _ (A0 ..)
    have h7n:t2 bn=some ⟨2,1,l.length,fn⟩:=hBP7.sup hP7 bn _ (by rw [A3 hnb,A0])
    have h76:E2 s6 t2:=fun c x hc=>hBP7.sup hP7 c x (by
     have e1:c≠bp:=fun e=>by subst e;rw [hbp6] at hc;cases hc
     have e2:c≠bn:=fun e=>by subst e;rw [hbn6] at hc;cases hc
     rw [A3 e1,A3 e2];exact hc)
    have h6b:=h76 b6 _ h6
    have hb6p:b6≠bp:=fun e=>by subst e;rw [h6] at hbp6;cases hbp6
    have hb6n:b6≠bn:=fun e=>by subst e;rw [h6] at hbn6;cases hbn6
    have hstn:st bn=none:=hst6.none hbn6
    have hstp:st bp=none:=hst6.none hbp6
    obtain ⟨dv,gv,fx,hx2,hfx2,hdl⟩:=hP7.deals'
    have hS2:E2 st t2:=hst6.trans h76
    conv=>whnf
    refine ldV hx2 rfl (by omega) hfx2 ?_
    rcases hdl with ⟨hd0,rfl⟩ | ⟨bd,gd,rfl,hbd,hbt,hgd⟩
    ·conv=>whnf
     refine stW h7p hf7 ?_
     refine J7 (A0 ..) (B3 ..) ?_
     refine stW (by rw [A3 hb6p];exact h6b) rfl ?_
     refine J7 (A0 ..) (B3 ..) ?_
     refine .inr ⟨hk0,o1,o2,bn,fn,.emp,ho1,ho2,?_,hstn,?_,?_,((hS2.over hstp).over hb6),.inl ⟨?_,rfl⟩⟩
     ·rw [hQ2];rfl
     ·rw [A3 hb6n.symm,A3 hnb];exact h7n
     ·intro k hk
      rw [hQ2,hfn k hk]
      show eI _=eI (gI (T0 l.length p1.us) k)
      unfold T0
      rw [N4 _ hk]
     ·rw [hQ2];exact hd0
    ·have hbdp:bd≠bp:=fun e=>by subst e;rw [A0] at hbd;cases hbd
     rw [A3 hbdp] at hbd
     have hbdn:bd≠bn:=fun e=>by subst e;rw [A0] at hbd;cases hbd
     rw [A3 hbdn] at hbd
     have hbd6:bd≠b6:=fun e=>by subst e;rw [h6] at hbd;cases hbd
     conv=>whnf
     refine stW h7p hf7 ?_
     refine J7 (A0 ..) (B3 ..) ?_
     refine stW (by rw [A3 hb6p];exact h6b) rfl ?_
     refine J7 (A0 ..) (B3 ..) ?_
     refine .inr ⟨hk0,o1,o2,bn,fn,.own 2 bd 0 a2.1.deals.length,ho1,ho2,?_,hstn,?_,?_,((hS2.over hstp).over hb6),.inr ⟨bd,gd,?_,hst6.none hbd,hbdn,?_,?_⟩⟩
     ·rw [hQ2];rfl
     ·rw [A3 hb6n.symm,A3 hnb];exact h7n
     ·intro k hk
      rw [hQ2,hfn k hk]
      show eI _=eI (gI (T0 l.length p1.us) k)
      unfold T0
      rw [N4 _ hk]
     ·rw [hQ2]
     ·rw [A3 hbd6,A3 hbdp,hQ2];exact hbt
     ·rw [hQ2];exact hgd
   ·have hk':k<p1.us.length:=by have:=of_decide_eq_true hd;omega
    have hlk:=hline k hk'
    have hn0:0≤(gU p1.us k).net:=hu1.at0 k
    have hn1:(gU p1.us k).net≤10000000000000:=hu1.le (A7 hk')
    have e1:=I8 (l:=C8 p1.us) (i:=k) (by rw [List.length_map];exact hk')
    have e4:gI (C8 p1.us) k=(gU p1.us k).net:=E7 A6.net p1.us hk'
    have e2:=J4 hu1.nets0 (k+1)
    have e3:=B8 (l:=(C8 p1.us).take k) (fun x hx=>hu1.nets0 x (List.take_subset _ _ hx))
    have hlb:=A1Z hu1 k (gU p1.us k).line.toNat
    have hlb2:=A1Z hu1 (k+1) (gU p1.us k).line.toNat
    have hln1:=A2V hk' (gU p1.us k).line.toNat
    rw [if_pos rfl] at hln1
    have hfl:fn (0+(gU p1.us k).line.toNat)=eI (O5 (p1.us.take k) (gU p1.us k).line.toNat):=by rw [Nat.zero_add];exact hfn _ hlk.2
    have w1:IntKind.i64.wrap (O5 (p1.us.take k) (gU p1.us k).line.toNat+(gU p1.us k).net)=O5 (p1.us.take (k+1)) (gU p1.us k).line.toNat:=by rw [hln1];exact B0 (by omega) (by omega)
    have w2:IntKind.i64.wrap (A2 ((C8 p1.us).take k)+(gU p1.us k).net)=A2 ((C8 p1.us).take (k+1)):=by rw [e1,e4];exact B0 (by omega) (by omega)
    conv=>whnf
    refine G9 ?_
    refine ⟨[10],[],[0,1,2,3,4,5,6,7,8,9,10],by kernel_rfl,?_⟩;conv=>whnf
    refine J7 htp hfp ?_
    refine ⟨rfl,⟨by show 0≤(gU p1.us k).line;exact hlk.1,by show (gU p1.us k).line<(l.length:Int);have:=hlk.2;have:=hlk.1;omega⟩,?_⟩;conv=>whnf
    refine ldV htn rfl (by show 0+(gU p1.us k).line.toNat<_;have:=hlk.2;omega) hfl ?_;conv=>whnf
    refine ⟨rfl,⟨by show 0≤(gU p1.us k).line;exact hlk.1,by show (gU p1.us k).line<(l.length:Int);have:=hlk.2;have:=hlk.1;omega⟩,?_⟩;conv=>whnf
    refine stV htn rfl (by show 0+(gU p1.us k).line.toNat<_;have:=hlk.2;omega) hfl (by rfl) ?_
    have hP5:=hwn (Y':=⟨2,1,l.length,L4 fn (0+(gU p1.us k).line.toNat) (eI (O5 (p1.us.take (k+1)) (gU p1.us k).line.toNat))⟩) hP
    rw [←w1] at hP5
    obtain ⟨_,htp2⟩:=hload hP5
    conv=>whnf
    refine J7 htp2 hfp ?_
    refine stW htp2 hfp ?_
    refine H4 ?_
    refine ⟨p1.us.length - (k+1),by omega,k+1,_,_,by omega,rfl,by rw [B7 (by omega)],hwp hP5,?_,fun j hj=>?_⟩
    ·rw [B3,←w2];rfl
    ·show L4 fn (0+(gU p1.us k).line.toNat) _ j=_
     rw [Nat.zero_add]
     rw [A2V hk' j]
     by_cases hj2:j=(gU p1.us k).line.toNat
     ·subst hj2
      rw [if_pos rfl,B3,w1,hln1]
     ·rw [J9 hj2,if_neg (fun e=>hj2 e.symm)];exact hfn j hj
 ·have hk0:G3 r codes l≠0:=by simpa using h1
  conv=>whnf
  refine stW (A0 ..) rfl ?_
  refine J7 (A0 ..) (B3 ..) ?_
  exact .inl ⟨hk0,rfl,(h6s _).over hb6⟩
end Go.Proofs.YtbajhapmlfbelaaGreat
namespace Go.Proofs.YtbajhapmlfbelaaGreat
open Go Go.Ab
def A8s (t:Tax) (rate:Int):Int:=10000+(if t.incl=true then rate else 0)
def J6 (t:Tax) (x rate:Int):Int:=(U4 x rate (A8s t rate) t.round).1
theorem B2h {q r den round x:Int} (h:q * den+r≤x * den) (h0:0≤r) (h1:r<den):q≤x∧M3 q r den round≤x:=by
 have hq:q≤x:=by
  rcases Int.lt_or_le x q with e | e
  ·have:(x+1) * den≤q * den:=Int.mul_le_mul_of_nonneg_right (by omega) (by omega)
   rw [Int.add_mul,Int.one_mul] at this;omega
  ·exact e
 refine ⟨hq,?_⟩
 by_cases e:q=x
 ·subst e
  have hr:r=0:=by omega
  subst hr
  unfold M3
  split
  ·omega
  ·split
   ·split<;>omega
   ·split
    ·rename_i h2;omega
    ·omega
 ·unfold M3
  split
  ·omega
  ·split<;>split<;>omega
theorem B2g {q r den round:Int} (h:0≤q):0≤M3 q r den round:=by
 unfold M3
 split
 ·omega
 ·split<;>split<;>omega
theorem B4t {x num den round:Int} (hx:0≤x) (hn:0≤num) (hd:num≤den) (h0:0<den):0≤(U4 x num den round).1∧(U4 x num den round).1≤x:=by
 have h1:0≤x * num:=Int.mul_nonneg hx hn
 have h2:x * num≤x * den:=Int.mul_le_mul_of_nonneg_left hd hx
 have e1:=Int.mul_ediv_add_emod (x * num) den
 have e2:=Int.emod_nonneg (x * num) (show den≠0 by omega)
 have e3:=Int.emod_lt_of_pos (x * num) h0
 have e4:0≤x * num / den:=Int.ediv_nonneg h1 (by omega)
 have h3:=B2h (q:=x * num / den) (r:=x * num % den) (den:=den) (round:=round) (x:=x) (by rw [Int.mul_comm (x * num / den) den];omega) e2 e3
 have h4:=B2g (q:=x * num / den) (r:=x * num % den) (den:=den) (round:=round) e4
 unfold U4
 split
 ·exact ⟨Int.le_refl _,hx⟩
 ·split
  ·exact ⟨Int.le_refl _,hx⟩
  ·split
   ·exact ⟨Int.le_refl _,hx⟩
   ·exact ⟨h4,h3.2⟩
theorem A0z {t:Tax} {x rate:Int} (hx:0≤x) (hr:0≤rate∧rate≤10000):0≤J6 t x rate∧J6 t x rate≤x:=by
 refine B4t hx hr.1 ?_ ?_
 ·unfold A8s;split<;>omega
 ·unfold A8s;split<;>omega
def A4l (l:List N0) (s:D8):Option N0:=l.find? fun z=>z.name.toList==s.toList
def F4 (z:N0) (c:D8):Int:=match z.rates.find? (fun x=>x.cat.toList==c.toList) with
 | some x=>x.rate
 | none=>z.rest
theorem A3i {z:N0} (h:U5 z=true):(0≤z.rest∧z.rest≤10000)∧(0≤z.ship∧z.ship≤10000)∧z.rates.length≤40∧∀ x∈z.rates,0≤x.rate∧x.rate≤10000:=by
 unfold U5 at h
 simp only [Bool.and_eq_true,Bool.not_eq_true',Bool.or_eq_false_iff,decide_eq_false_iff_not,Bool.not_eq_false'] at h
 obtain ⟨⟨⟨⟨h1,h2⟩,h3⟩,h4⟩,h5,h6⟩:=h
 refine ⟨Q6.1 h2,Q6.1 h3,by omega,fun x hx=>?_⟩
 obtain ⟨k,hk,rfl⟩:=E4 hx
 have:=A1B.1 h5 k hk
 unfold A4d at this
 simp only [Bool.not_eq_true',Bool.or_eq_false_iff,Bool.not_eq_false'] at this
 exact Q6.1 this.2
theorem B3S {z:N0} (h:U5 z=true) (c:D8):0≤F4 z c∧F4 z c≤10000:=by
 obtain ⟨h1,h2,h3,h4⟩:=A3i h
 unfold F4
 split
 ·rename_i x hx;exact h4 x (List.mem_of_find?_eq_some hx)
 ·exact h1
def V3 (t:Tax) (rates nets:List Int):List Int:=(List.range nets.length).map fun i=>J6 t (gI nets i) (gI rates i)
def A5m (rates:List Int) (i:Nat):List Nat:=(List.range rates.length).filter fun k=>gI rates k==gI rates i
def E8 (rates nets:List Int) (i:Nat):List Int:=(A5m rates i).map (gI nets)
def U7 (rates:List Int) (i:Nat):Nat:=((List.range i).filter fun k=>gI rates k==gI rates i).length
def A0c (t:Tax) (rates nets:List Int) (i:Nat):Int:=gI (C3 (J6 t (A2 (E8 rates nets i)) (gI rates i)) (E8 rates nets i)) (U7 rates i)
def A0A (t:Tax) (rates nets:List Int):List Int:=(List.range nets.length).map (A0c t rates nets)
def H0 (t:Tax) (rates nets:List Int):List Int:=if t.byOrder=true then A0A t rates nets else V3 t rates nets
structure A2e (nets:List Int):Prop where
 len:nets.length≤1000
 pos:∀ x∈nets,0≤x
 sum:A2 nets≤10000000000000
theorem B4o {a b:List Int} (hs:a.Sublist b) (hb:∀ x∈b,0≤x):A2 a≤A2 b:=by
 induction hs with
 | slnil=>exact Int.le_refl _
 | cons x _ ih =>
  have h1:=ih fun u hu=>hb u (List.mem_cons_of_mem _ hu)
  have h2:=hb x (List.mem_cons_self ..)
  rw [G6];omega
 | cons_cons x _ ih =>
  have h1:=ih fun u hu=>hb u (List.mem_cons_of_mem _ hu)
  rw [G6,G6];omega
theorem A5z (l:List Int):(List.range l.length).map (gI l)=l:=by
 refine List.ext_getElem (by rw [List.length_map,List.length_range]) fun i h1 h2=>?_
 rw [List.getElem_map,List.getElem_range];unfold gI;rw [List.getD_eq_getElem?_getD,List.getElem?_eq_getElem h2];rfl
theorem A1c {rates nets:List Int} (hn:A2e nets) (hr:rates.length=nets.length) (i:Nat):(E8 rates nets i).length≤1000∧(∀ x∈E8 rates nets i,0≤x)∧0≤A2 (E8 rates nets i)∧A2 (E8 rates nets i)≤10000000000000:=by
 have hsub:(E8 rates nets i).Sublist nets:=by
  have h1:(E8 rates nets i).Sublist ((List.range nets.length).map (gI nets)):=by
   unfold E8 A5m
   rw [hr]
   exact List.filter_sublist.map _
  rw [A5z] at h1;exact h1
 have hp:∀ x∈E8 rates nets i,0≤x:=fun x hx=>hn.pos x (hsub.subset hx)
 have h2:=hsub.length_le
 have h3:=hn.len
 have h4:=B4o hsub hn.pos
 have h5:=hn.sum
 exact ⟨by omega,hp,B8 hp,by omega⟩
theorem A2W {t:Tax} {rates nets:List Int} (hn:A2e nets) (hr:rates.length=nets.length) {i:Nat} (hq:0≤gI rates i∧gI rates i≤10000):J8 (J6 t (A2 (E8 rates nets i)) (gI rates i)) (E8 rates nets i):=by
 obtain ⟨h1,h2,h3,h4⟩:=A1c hn hr i
 have hm:=A0z (t:=t) h3 hq
 exact ⟨hm.1,by omega,by omega,h2,by omega,fun e=>by rw [e] at hm;rw [e];omega⟩
theorem B2d {n i:Nat} (hi:i<n):List.range n=List.range i++(i::(List.range (n - i - 1)).map (fun k=>i+1+k)):=by
 have h1:n=i+(1+(n - i - 1)):=by omega
 conv=>lhs;rw [h1]
 rw [List.range_add,show 1+(n - i - 1)=(n - i - 1)+1 by omega,List.range_succ_eq_map]
 simp only [List.map_cons,List.map_map,Nat.add_zero]
 congr 2
 refine List.map_congr_left fun k _=>?_
 show i+(k+1)=i+1+k
 omega
theorem A8E {rates:List Int} {i:Nat} (hi:i<rates.length):(A5m rates i)[U7 rates i]?=some i:=by
 unfold U7 A5m
 rw [B2d hi,List.filter_append,List.getElem?_append_right (Nat.le_refl _),Nat.sub_self,List.filter_cons_of_pos (by simp)];rfl
theorem A5l {rates:List Int} {i:Nat} (hi:i<rates.length):U7 rates i<(A5m rates i).length:=by
 exact (List.getElem?_eq_some_iff.1 (A8E hi)).1
theorem A8K {t:Tax} {rates nets:List Int} (hn:A2e nets) (hr:rates.length=nets.length) (hq:∀ x∈rates,0≤x∧x≤10000) {i:Nat} (hi:i<nets.length):0≤A0c t rates nets i∧A0c t rates nets i≤10000000000000:=by
 have hqi:=hq (gI rates i) (A7 (by omega))
 have hw:=A2W (t:=t) hn hr hqi
 obtain ⟨h1,h2,h3,h4⟩:=A1c hn hr i
 have hm:=A0z (t:=t) h3 hqi
 have hp:=A5l (rates:=rates) (i:=i) (by omega)
 have hml:(E8 rates nets i).length=(A5m rates i).length:=List.length_map ..
 obtain ⟨l1,l2,l3⟩:=S9 hw
 have hle:=A0x hw hm.2 (k:=U7 rates i) (by omega)
 have hg:gI (C3 (J6 t (A2 (E8 rates nets i)) (gI rates i)) (E8 rates nets i)) (U7 rates i)∈C3 (J6 t (A2 (E8 rates nets i)) (gI rates i)) (E8 rates nets i):=A7 (by omega)
 have h0:=l3 _ hg
 have hmem:gI (E8 rates nets i) (U7 rates i)∈E8 rates nets i:=A7 (by omega)
 have h6:=I3 h2 hmem
 unfold A0c
 omega
theorem A5R {t:Tax} {rates nets:List Int} (hn:A2e nets) (hr:rates.length=nets.length) (hq:∀ x∈rates,0≤x∧x≤10000):(H0 t rates nets).length=nets.length∧∀ x∈H0 t rates nets,0≤x∧x≤10000000000000:=by
 unfold H0
 split
 ·refine ⟨by unfold A0A;rw [List.length_map,List.length_range],fun x hx=>?_⟩
  obtain ⟨i,hi,rfl⟩:=List.mem_map.1 hx
  exact A8K hn hr hq (List.mem_range.1 hi)
 ·refine ⟨by unfold V3;rw [List.length_map,List.length_range],fun x hx=>?_⟩
  obtain ⟨i,hi,rfl⟩:=List.mem_map.1 hx
  have hi:=List.mem_range.1 hi
  have h1:=hn.pos _ (show gI nets i∈nets from A7 hi)
  have h2:=A0z (t:=t) h1 (hq (gI rates i) (A7 (by omega)))
  have h3:=I3 hn.pos (show gI nets i∈nets from A7 hi)
  have h4:=hn.sum
  omega
theorem A8J {t:Tax} {rates nets:List Int} (hn:A2e nets) (hr:rates.length=nets.length) (hq:∀ x∈rates,0≤x∧x≤10000) {i:Nat} (hi:i<nets.length):A0c t rates nets i≤gI nets i:=by
 have hqi:=hq (gI rates i) (A7 (by omega))
 have hw:=A2W (t:=t) hn hr hqi
 obtain ⟨h1,h2,h3,h4⟩:=A1c hn hr i
 have hm:=A0z (t:=t) h3 hqi
 have hp:=A5l (rates:=rates) (i:=i) (by omega)
 have hml:(E8 rates nets i).length=(A5m rates i).length:=List.length_map ..
 have hle:=A0x hw hm.2 (k:=U7 rates i) (by omega)
 have e:gI (E8 rates nets i) (U7 rates i)=gI nets i:=by
  unfold E8 gI
  rw [List.getD_eq_getElem?_getD,List.getElem?_map,A8E (by omega)];rfl
 rw [e] at hle
 exact hle
theorem B4s {t:Tax} {rates nets:List Int} (hn:A2e nets) (hr:rates.length=nets.length) (hq:∀ x∈rates,0≤x∧x≤10000) {i:Nat} (hi:i<nets.length):gI (H0 t rates nets) i≤gI nets i:=by
 unfold H0
 split
 ·have e:gI (A0A t rates nets) i=A0c t rates nets i:=by unfold A0A gI;rw [List.getD_eq_getElem?_getD,List.getElem?_map,List.getElem?_range hi];rfl
  rw [e];exact A8J hn hr hq hi
 ·have e:gI (V3 t rates nets) i=J6 t (gI nets i) (gI rates i):=by unfold V3 gI;rw [List.getD_eq_getElem?_getD,List.getElem?_map,List.getElem?_range hi];rfl
  rw [e]
  exact (A0z (hn.pos _ (show gI nets i∈nets from A7 hi)) (hq (gI rates i) (A7 (by omega)))).2
theorem A1p (f g:Nat→Int):∀ n,(∀ i,i<n→f i≤g i)→A2 ((List.range n).map f)≤A2 ((List.range n).map g)
 | 0,_=>Int.le_refl _
 | n+1,h=>by
  rw [K9,K9]
  have h1:=A1p f g n fun i hi=>h i (by omega)
  have h2:=h n (by omega)
  omega
structure B2L where
 goods:List Int
 taxes:List Int
 ship:Int
 shipTax:Int
def A0v (t:Tax) (taxes nets:List Int):List Int:=(List.range nets.length).map fun i=>if t.incl=true then gI nets i - gI taxes i else gI nets i
def J1 (t:Tax) (z:N0) (exempt:Bool) (cats:List D8) (nets:List Int) (ship:Int):B2L :=
 ⟨A0v t (H0 t (cats.map (F4 z)) nets) nets,if exempt=true then List.replicate nets.length 0 else H0 t (cats.map (F4 z)) nets,
 if t.incl=true then ship - J6 t ship z.ship else ship,if exempt=true then 0 else J6 t ship z.ship⟩
structure A4O where
 goods:List Int
 taxes:List Int
 ship:Int
 shipTax:Int
 total:Int
 deals:List A2c
end Go.Proofs.YtbajhapmlfbelaaGreat
namespace Go.Ab
open Go
theorem lp {A:List AV} {st:St} (n:Nat) (keep:List Nat) (J:Nat→List AV→St→Prop) {B:List Nat→(Nat→KA)→Nat→List AV→St→Prop}
  (h0:X6 A keep fun us=>J 0 us st) (h:∀ i vs s,i≤n→J i vs s→B keep (fun m vs s=>∃ i,i≤n∧m=n - i∧J i vs s) (n - i) vs s) :
  ∃ (keep:List Nat) (I:Nat→KA),(X6 A keep fun us=>∃ m,I m us st)∧∀ m vs s,I m vs s→B keep I m vs s:=by
 rw [S7] at h0
 refine ⟨keep,fun m vs s=>∃ i,i≤n∧m=n - i∧J i vs s,?_,?_⟩
 ·rw [S7];exact ⟨n,0,Nat.zero_le _,rfl,h0⟩
 ·rintro m vs s ⟨i,hi,rfl,hj⟩;exact h i vs s hi hj
theorem nx {n i:Nat} {J:Nat→Prop} (hi:i<n) (h:J (i+1)):∃ m',m'<n - i∧∃ i',i'≤n∧m'=n - i'∧J i':=⟨n - (i+1),by omega,i+1,hi,rfl,h⟩
theorem J3 {i n:Nat} (h:decide ((i:Int)<(n:Int))=false) (hi:i≤n):i=n:=by have:=of_decide_eq_false h;omega
theorem S8 {i n:Nat} (h:decide ((i:Int)<(n:Int))=true):i<n:=by have:=of_decide_eq_true h;omega
def I0 {α : Type} [Inhabited α] (ty e:Nat) (enc : α→AV) (L:List α) (st:St) (sv:AV) (st':St):Prop:=H6 ty e (fun k=>enc (L.getD k default)) st L.length sv st'
theorem I0.start {α : Type} [Inhabited α] (ty e:Nat) (enc : α→AV) (st:St):I0 ty e enc [] st .emp st:=H6.start _ _ _ _
theorem B1I {α : Type} [Inhabited α] (L:List α) (x : α):(L++[x]).getD L.length default=x:=by simp [List.getD_eq_getElem?_getD]
theorem A2T {α : Type} [Inhabited α] {a b:List α} {k:Nat} (h:k<a.length):(a++b).getD k default=a.getD k default:=by
 rw [List.getD_eq_getElem?_getD,List.getD_eq_getElem?_getD,List.getElem?_append_left h]
theorem I0.app {α : Type} [Inhabited α] {T:C9} {t:TypeId} {x sv:AV} {st st':St} {k:KK} {r q:B4} {el:Nat} {enc : α→AV} {L:List α} {y : α} {g:Nat→AV} (hr:T t=some r) (hd:r.desc=.slice el) (hq:T el=some q)
  (hz:(Nat.blt 0 q.size&&Nat.blt 0 q.bytes&&Nat.beq q.zero.cells.size q.size)=true) (hs:T2 q.size st' x=some (1,g)) (hg:g 0=enc y) (hb:(L.length+1) * q.bytes≤140737488355328)
  (hc:I0 el q.size enc L st sv st') (hk:∀ sv' st'',I0 el q.size enc (L++[y]) st sv' st''→k sv' st''):A3N T t sv x st' k:=by
 refine H6.app (f:=fun k=>enc ((L++[y]).getD k default)) hr hd hq hz hs (by show g 0=enc _;rw [B1I];exact hg) hb (H6.congr hc fun k hk=>by show enc _=enc _;rw [A2T hk]) (fun sv' st'' h=>hk sv' st'' ?_)
 unfold I0
 rw [List.length_append];exact h
theorem B2O {α : Type} [Inhabited α] {P:Program} {F:FuncId} {args:List AV} {st:St} {ty e:Nat} {enc : α→AV} {L:List α} (h:S P F args st fun v st'=>I0 ty e enc L st v st'):S P F args st fun v st'=>v=A5 e enc L∧st'=st:=B2N h
theorem I0.shift {α : Type} [Inhabited α] {ty e:Nat} {enc : α→AV} {L:List α} {st:St} {sv:AV} {st':St} (h:I0 ty e enc L st sv st'):A4 [sv] st' [A5 e enc L] st:=H6.shift h
theorem I0.sup {α : Type} [Inhabited α] {ty e:Nat} {enc : α→AV} {L:List α} {st:St} {sv:AV} {st':St} (h:I0 ty e enc L st sv st'):E2 st st':=H6.sup h
theorem B4r {α β : Type} [Inhabited α] {l:List α} {i:Nat} (h:i<l.length) (g : α→β):(l.take (i+1)).map g=(l.take i).map g++[g (l.getD i default)]:=by rw [I4 h,List.map_append];rfl
end Go.Ab
namespace Go.Proofs.YtbajhapmlfbelaaGreat
open Go Go.Ab
attribute [local irreducible] upd del
abbrev Sm (n:Nat):Prop:=n≤9223372036854775807
structure B0w (s:O2):Prop where
 n1:Sm s.skus.length
 n2:Sm s.cats.length
 s1:∀ x∈s.skus,Sm x.size
 s2:∀ x∈s.cats,Sm x.size
theorem B5K (l:List Ab.Item) (s:D8) (hl:Sm l.length) (st:St):S P 109 [A5 4 C6 l,eS s] st fun v st'=>v=eI (F7 l s)∧st'=st:=by
 refine E3 [] Tryz.func109 ?_
 refine lp l.length [0,1,5] (fun i vs st'=>(∀ k,k<i→((l.getD k default).sku.toList==s.toList)=false)∧vs=[A5 4 C6 l,eS s,eI i]∧st'=st) ?_ ?_
 ·conv=>whnf
  exact ⟨fun k hk=>absurd hk (by omega),rfl,rfl⟩
 ·rintro i vs st' hi ⟨hok,rfl,rfl⟩
  conv=>whnf
  cases h:decide ((i:Int)<(l.length:Int))
  ·obtain rfl:=J3 h hi
   conv=>whnf
   exact ⟨by rw [show F7 l s = -1 from J0 fun k hk=>hok k hk];rfl,rfl⟩
  ·have hi':=S8 h
   conv=>whnf
   refine G9 ?_
   refine B5 (fun h1=>?_) (fun h1=>?_)<;>rw [h1]
   ·conv=>whnf
    exact ⟨by rw [show F7 l s=i from R6 hi' hok h1];rfl,rfl⟩
   ·conv=>whnf
    refine H4 ?_
    exact nx hi' ⟨K0 hok h1,by rw [B7 (by omega)],rfl⟩
end Go.Proofs.YtbajhapmlfbelaaGreat
namespace Go.Proofs.YtbajhapmlfbelaaGreat
open Go Go.Ab
theorem B2f (l:List A8) (o:List Int):(G8 l o).Perm o:=by
 have h:=(Y0 l o).map fun e:QE=>gI o e.2.toNat
 rw [List.map_map] at h
 have e:(List.range o.length).map ((fun e:QE=>gI o e.2.toNat) ∘ A6O l o)=o:=by
  refine List.ext_getElem (by simp) fun k h1 h2=>?_
  rw [List.getElem_map,List.getElem_range]
  show o.getD k default=_
  rw [List.getD_eq_getElem?_getD,List.getElem?_eq_getElem h2];rfl
 rw [e] at h;exact h
end Go.Proofs.YtbajhapmlfbelaaGreat
namespace Go.Proofs.YtbajhapmlfbelaaGreat
open Go Go.Ab
attribute [local irreducible] upd del
def Q3 (v n:Int):Int:=v % 18446744073709551616 % n
theorem A4B (v:Int) {n:Int} (h:0<n):0≤Q3 v n∧Q3 v n<n:=⟨Int.emod_nonneg _ (by omega),Int.emod_lt_of_pos _ h⟩
theorem B1m (x:Int):IntKind.u64.wrap x=x % 18446744073709551616:=rfl
theorem B3G (v:Int) {n:Int} (h0:0<n) (h1:n≤9223372036854775807):IntKind.i64.wrap (Int.tmod (IntKind.u64.wrap v) (IntKind.u64.wrap n))=Q3 v n:=by
 have h2:=A4B v h0
 have e1:IntKind.u64.wrap n=n:=by rw [B1m];omega
 have e2:Int.tmod (IntKind.u64.wrap v) n=Q3 v n:=by rw [Int.tmod_eq_emod_of_nonneg (by rw [B1m];omega)];rfl
 rw [e1,e2,B0 (by omega) (by omega)]
theorem B0Q (v n:Int) (h0:0<n) (h1:n≤9223372036854775807) (st:St):S P 60 [eI v,eI n] st fun r st'=>r=eI (Q3 v n)∧st'=st:=by
 refine E3 [] Tryz.func60 ?_
 rw [decide_eq_false (show ¬ IntKind.u64.wrap n=0 by rw [B1m];omega)];conv=>whnf
 refine ⟨?_,rfl⟩
 rw [←B3G v h0 h1];rfl
theorem A8G (v n:Int) (h0:0<n) (h1:n≤9223372036854775807) (st:St):S P 66 [eI v,eI n] st fun r st'=>r=eI (Q3 v n)∧st'=st:=by
 refine E3 [] Tryz.func66 ?_
 rw [decide_eq_false (show ¬ IntKind.u64.wrap n=0 by rw [B1m];omega)];conv=>whnf
 refine ⟨?_,rfl⟩
 rw [←B3G v h0 h1];rfl
def Z4 (c:Int):D8:=B2q [IntKind.u8.wrap c]
def A4s (n:Int):D8:=Z4 (97+Q3 n 8)
def B3l (n:Int):D8:=Z4 (120+Q3 n 3)
theorem B6v (c x:Int):IntKind.u8.wrap (c+IntKind.u8.wrap x)=IntKind.u8.wrap (c+x):=by
 show (c+x % 256) % 256=(c+x) % 256
 omega
theorem B4a (n:Int) (st:St):S P 72 [eI n] st fun r st'=>r=eS (A4s n)∧st'=st:=by
 refine E3 [] Tryz.func72 ?_
 refine H9 (B0Q n 8 (by decide) (by decide) _) ?_
 refine ⟨?_,rfl⟩
 show AV.str (B2q [IntKind.u8.wrap (97+IntKind.u8.wrap (Q3 n 8))])=_
 rw [B6v];rfl
theorem A4V (n:Int) (st:St):S P 113 [eI n] st fun r st'=>r=eS (B3l n)∧st'=st:=by
 refine E3 [] Tryz.func113 ?_
 refine H9 (B0Q n 3 (by decide) (by decide) _) ?_
 refine ⟨?_,rfl⟩
 show AV.str (B2q [IntKind.u8.wrap (120+IntKind.u8.wrap (Q3 n 3))])=_
 rw [B6v];rfl
def A7C (s:D8):Nat→Int
 | 0=>s.size
 | i+1=>IntKind.i64.wrap (IntKind.i64.wrap (7 * A7C s i)+chr s i)
def A6M (s:D8):Int:=A7C s (min s.size 8)
theorem B3n (s:D8) (i:Nat):0≤chr s i∧chr s i<256:=by
 unfold chr;split
 ·rename_i h;have:=(s[i]'h).toNat_lt;omega
 ·omega
theorem A9S (s:D8) (st:St):S P 73 [eS s] st fun r st'=>r=eI (A6M s)∧st'=st:=by
 refine E3 [] Tryz.func73 ?_
 refine lp (min s.size 8) [0,3,4] (fun i vs t=>vs=[eS s,eI (A7C s i),eI i]∧t=st) ?_ ?_
 ·conv=>whnf
  exact ⟨rfl,rfl⟩
 ·rintro i vs t hi ⟨rfl,rfl⟩
  conv=>whnf
  refine B5 (fun h1=>?_) (fun h1=>?_)<;>rw [h1]<;>simp only [decide_eq_true_eq,decide_eq_false_iff_not] at h1
  ·conv=>whnf
   refine B5 (fun h2=>?_) (fun h2=>?_)<;>rw [h2]<;>simp only [decide_eq_true_eq,decide_eq_false_iff_not] at h2
   ·have hi':i<min s.size 8:=by omega
    conv=>whnf
    refine B6X (i:=i) rfl (by omega) ?_;conv=>whnf
    refine H4 ?_
    refine nx hi' ⟨?_,rfl⟩
    rw [B7 (by omega)]
    have hc:IntKind.i64.wrap (chr s i)=chr s i:=B0 (by have:=B3n s i;omega) (by have:=B3n s i;omega)
    show [eS s,eI (IntKind.i64.wrap (IntKind.i64.wrap (7 * A7C s i)+IntKind.i64.wrap (chr s i))),eI ((i+1:Nat):Int)]=_
    rw [hc];rfl
   ·obtain rfl:i=min s.size 8:=by omega
    conv=>whnf
    exact ⟨rfl,rfl⟩
  ·obtain rfl:i=min s.size 8:=by omega
   conv=>whnf
   exact ⟨rfl,rfl⟩
def A1h (x:G1):G1:=⟨A4s (A6M x.sku),Q3 x.qty 10,Q3 x.price 4000⟩
def A1N (l:List G1):List G1:=(l.take 8).map A1h
theorem B5E (l:List G1) (st:St):S P 17 [A5 3 F2 l] st fun v st'=>I0 51 3 F2 (A1N l) st v st':=by
 refine E3 [] Tryz.func17 ?_
 refine lp (min l.length 8) [0,3,4] (fun i vs s=>∃ sv,vs=[A5 3 F2 l,sv,eI i]∧I0 51 3 F2 ((l.take i).map A1h) st sv s) ?_ ?_
 ·conv=>whnf
  exact ⟨.emp,rfl,I0.start _ _ _ _⟩
 ·rintro i vs s hi ⟨sv,rfl,hc⟩
  have hfin:i=min l.length 8→I0 51 3 F2 (A1N l) st sv s:=fun e=>by
   have:A1N l=(l.take i).map A1h:=by
    unfold A1N
    rcases Nat.le_total l.length 8 with h | h
    ·rw [show i=l.length by omega,List.take_length,List.take_of_length_le h]
    ·rw [show i=8 by omega]
   rw [this];exact hc
  conv=>whnf
  refine B5 (fun h1=>?_) (fun h1=>?_)<;>rw [h1]<;>simp only [decide_eq_true_eq,decide_eq_false_iff_not] at h1
  ·conv=>whnf
   refine B5 (fun h2=>?_) (fun h2=>?_)<;>rw [h2]<;>simp only [decide_eq_true_eq,decide_eq_false_iff_not] at h2
   ·have hi':i<min l.length 8:=by omega
    conv=>whnf
    refine ⟨[21,22],[],List.range 24,by kernel_rfl,?_⟩;conv=>whnf
    refine G9 ?_
    refine cqW (A9S _ _) ?_
    refine cqW (B4a _ _) ?_
    refine G9 ?_
    refine cqW (B0Q _ 10 (by decide) (by decide) _) ?_
    refine G9 ?_
    refine cqW (A8G _ 4000 (by decide) (by decide) _) ?_
    refine I0.app (y:=A1h (l.getD (i:Int).toNat default)) (q:=r51) rfl rfl rfl rfl rfl (by rfl) (by show (((l.take i).map A1h).length+1) * 32≤140737488355328;rw [List.length_map,List.length_take];omega) hc (fun sv' t' hc'=>?_);conv=>whnf
    refine H4 ?_
    refine nx hi' ⟨sv',by rw [B7 (by omega)],?_⟩
    rw [I4 (by omega),List.map_append];exact hc'
   ·conv=>whnf
    exact hfin (by omega)
  ·conv=>whnf
   exact hfin (by omega)
def J2 (l:List Ab.Item) (k:Nat):Ab.Item :=
 if k<l.length then ⟨A4s k,B3l (A6M (l.getD k default).cat),Q3 (l.getD k default).price 4000,(l.getD k default).final&&k==7⟩ else ⟨A4s k,B3l k,100+37 * k,false⟩
def K4 (l:List Ab.Item):List Ab.Item:=(List.range 8).map (J2 l)
theorem A5k {α : Type} (f:Nat→α) (k:Nat):(List.range (k+1)).map f=(List.range k).map f++[f k]:=by rw [List.range_succ,List.map_append];rfl
theorem A8Q (l:List Ab.Item) (st:St):S P 38 [A5 4 C6 l] st fun v st'=>v=A5 4 C6 (K4 l)∧st'=st:=by
 refine S.post (post:=fun v st'=>∃ base,E2 st base∧I0 64 4 C6 (K4 l) base v st') ?_ (fun v st' ⟨base,hs,hc⟩=>⟨_,st,⟨rfl,rfl⟩,hc.shift.trans (hs.shift _)⟩)
 refine E3 [] Tryz.func38 ?_
 refine lp 8 [0,3,4] (fun k vs s=>∃ sv base,vs=[A5 4 C6 l,sv,eI k]∧E2 st base∧I0 64 4 C6 ((List.range k).map (J2 l)) base sv s) ?_ ?_
 ·conv=>whnf
  exact ⟨.emp,st,rfl,E2.refl _,I0.start _ _ _ _⟩
 ·rintro k vs s hk ⟨sv,base,rfl,hsup,hc⟩
  conv=>whnf
  refine B5 (fun h1=>?_) (fun h1=>?_)<;>rw [h1]<;>simp only [decide_eq_true_eq,decide_eq_false_iff_not] at h1
  ·have hk':k<8:=by omega
   have hnext:=A5k (J2 l) k
   have hlen:((List.range k).map (J2 l)).length=k:=by rw [List.length_map,List.length_range]
   have w1:IntKind.i64.wrap (100+IntKind.i64.wrap (37 * (k:Int)))=100+37 * (k:Int):=by
    rw [B0 (x:=37 * (k:Int)) (by omega) (by omega),B0 (by omega) (by omega)]
   conv=>whnf
   refine H9 (B4a _ _) ?_
   refine H9 (A4V _ _) ?_
   intro b hb;conv=>whnf
   refine stU (A0 ..) rfl ?_
   rw [G7]
   have hbb:base b=none:=H6.off hc hb
   have hc1:=fun y=>H6.under (y:=y) hc hb
   have hend:∀ {t:St} {Y:M6} {x:AV} {g:Nat→AV} {K:KK},t=upd s b Y→T2 4 t x=some (1,g)→g 0=C6 (J2 l k)→(∀ sv' t',I0 64 4 C6 ((List.range (k+1)).map (J2 l)) (upd base b Y) sv' t'→K sv' t')→A3N T 22 sv x t K:=fun {t Y x g K} e hs hg hk=>by
    subst e
    refine I0.app (q:=r64) rfl rfl rfl rfl hs hg (by rw [hlen];show (k+1) * 48≤140737488355328;omega) (hc1 Y) (fun sv' t' hc'=>hk sv' t' ?_)
    rw [hnext];exact hc'
   conv=>whnf
   refine B5 (fun h2=>?_) (fun h2=>?_)<;>rw [h2]<;>simp only [decide_eq_true_eq,decide_eq_false_iff_not] at h2
   ·have hi:k<l.length:=by omega
    have hp:J2 l k=⟨A4s k,B3l (A6M (l.getD (k:Int).toNat default).cat),Q3 (l.getD (k:Int).toNat default).price 4000,(l.getD (k:Int).toNat default).final&&k==7⟩:=by unfold J2;rw [if_pos hi];rfl
    conv=>whnf
    refine ⟨[23,25,27],[],List.range 28,by kernel_rfl,?_⟩;conv=>whnf
    refine G9 ?_
    refine cqW (A9S _ _) ?_
    refine cqW (A4V _ _) ?_
    refine G9 ?_
    refine cqW (A8G _ 4000 (by decide) (by decide) _) ?_
    refine G9 ?_
    refine B5 (fun h3=>?_) (fun h3=>?_)<;>rw [h3] at hp ⊢
    all_goals
     conv=>whnf
     refine stU (A0 ..) (B3 ..) ?_
     rw [G7];conv=>whnf
     refine stU (A0 ..) (B3 ..) ?_
     rw [G7];conv=>whnf
     refine stU (A0 ..) (B3 ..) ?_
     rw [G7];conv=>whnf
     refine J7 (A0 ..) (B3 ..) ?_
     refine hend rfl rfl (by rw [hp];first | rfl | (have e7:((k:Int)==7)=(k==7):=by rw [Bool.eq_iff_iff,beq_iff_eq,beq_iff_eq];omega
                                                    rw [Bool.true_and,←e7];rfl)) (fun sv' t' hc'=>?_)
     conv=>whnf
     refine H4 ?_
     exact nx hk' ⟨sv',_,by rw [B7 (by omega)],hsup.upd hbb,hc'⟩
   ·have hi:¬ k<l.length:=by omega
    have hp:J2 l k=⟨A4s k,B3l k,100+37 * k,false⟩:=by unfold J2;rw [if_neg hi]
    conv=>whnf
    refine J7 (A0 ..) (B3 ..) ?_
    refine hend rfl rfl (by rw [hp];show AV.agg _=_;rw [w1];rfl) (fun sv' t' hc'=>?_);conv=>whnf
    refine H4 ?_
    exact nx hk' ⟨sv',_,by rw [B7 (by omega)],hsup.upd hbb,hc'⟩
  ·obtain rfl:k=8:=by omega
   conv=>whnf
   exact ⟨base,hsup,hc⟩
theorem C1O (n:Int):Q3 n 8=0∨Q3 n 8=1∨Q3 n 8=2∨Q3 n 8=3∨Q3 n 8=4∨Q3 n 8=5∨Q3 n 8=6∨Q3 n 8=7:=by
 have:=A4B n (n:=8) (by decide);omega
theorem B3Z (k:Nat) (h:k<8):A4s k=Z4 (97+k):=by
 unfold A4s Q3;congr 2;omega
theorem B2j (l:List Ab.Item):(K4 l).map Ab.Item.sku=[Z4 97,Z4 98,Z4 99,Z4 100,Z4 101,Z4 102,Z4 103,Z4 104]:=by
 unfold K4
 rw [List.map_map]
 have e:∀ k,k<8→(Ab.Item.sku ∘ J2 l) k=Z4 (97+(k:Int)):=fun k hk=>by
  rw [←B3Z k hk]
  show (J2 l k).sku=_
  unfold J2;split<;>rfl
 have:(List.range 8).map (Ab.Item.sku ∘ J2 l)=(List.range 8).map fun k:Nat=>Z4 (97+(k:Int)):=List.map_congr_left fun k hk=>e k (List.mem_range.1 hk)
 rw [this];rfl
theorem B1M (items:List Ab.Item) (s:D8):known items s=(items.map Ab.Item.sku).any fun y=>y.toList==s.toList:=by
 unfold known F7
 rw [S3,List.any_map];rfl
theorem A9I (l:List Ab.Item) (n:Int):known (K4 l) (A4s n)=true:=by
 rw [B1M,B2j]
 unfold A4s
 rcases C1O n with h | h | h | h | h | h | h | h<;>rw [h]<;>kernel_rfl
theorem B0w.fit {s:O2} (h:B0w s):A4P s:=⟨by have:=h.n1;show _≤9223372036854775807;omega,by have:=h.n2;show _≤9223372036854775807;omega⟩
end Go.Proofs.YtbajhapmlfbelaaGreat
namespace Go.Proofs.YtbajhapmlfbelaaGreat
open Go Go.Ab
structure B2I where
 goods:Int
 tax:Int
 ship:Int
 shipTax:Int
 fee:Int
def B7Y (b:B2I):AV:=.agg [eI b.goods,eI b.tax,eI b.ship,eI b.shipTax,eI b.fee]
def A9A (q:A4O):AV:=.agg [B2 q.goods,B2 q.taxes,eI q.ship,eI q.shipTax,eI q.total,A5 2 B3r q.deals]
def L9 (r:Q2) (l:List G1):List D8:=(C2 r.items l).map Ab.Item.cat
def B1b (v:B2L) (deals:List A2c):A4O:=⟨v.goods,v.taxes,v.ship,v.shipTax,A2 v.goods+A2 v.taxes+v.ship+v.shipTax,deals⟩
def A9V (r:Q2) (z:N0) (exempt:Bool) (l:List G1) (Pr:A7b):A4O:=B1b (J1 r.tax z exempt (L9 r l) Pr.nets Pr.ship) Pr.deals
def B6k (q:A4O):B2I:=⟨A2 q.goods,A2 q.taxes,q.ship,q.shipTax,0⟩
theorem B0i {l:List Int} {B:Int} (hB:0≤B) (h:∀ x∈l,-B≤x∧x≤B) : -(l.length * B)≤A2 l∧A2 l≤l.length * B:=by
 induction l with
 | nil=>exact ⟨by show -(((0:Nat):Int) * B)≤0;rw [Int.natCast_zero,Int.zero_mul];omega,by show (0:Int)≤((0:Nat):Int) * B;rw [Int.natCast_zero,Int.zero_mul];omega⟩
 | cons x l ih =>
  have h1:=ih fun y hy=>h y (List.mem_cons_of_mem _ hy)
  have h2:=h x (List.mem_cons_self ..)
  rw [G6,List.length_cons,show ((l.length+1:Nat):Int) * B=l.length * B+B by rw [Int.natCast_add,Int.add_mul];simp]
  omega
structure H3 (l:List Int):Prop where
 len:l.length≤1000
 all:∀ x∈l,-10000000000000≤x∧x≤10000000000000
theorem H3.take {l:List Int} (h:H3 l) (i:Nat) : -10000000000000000≤A2 (l.take i)∧A2 (l.take i)≤10000000000000000:=by
 have h1:=B0i (l:=l.take i) (B:=10000000000000) (by decide) fun x hx=>h.all x (List.mem_of_mem_take hx)
 have h2:(l.take i).length≤1000:=by rw [List.length_take];have:=h.len;omega
 omega
theorem H3.sum {l:List Int} (h:H3 l) : -10000000000000000≤A2 l∧A2 l≤10000000000000000:=by
 have:=h.take l.length
 rwa [List.take_length] at this
theorem H3.step {l:List Int} (h:H3 l) {i:Nat} (hi:i<l.length):IntKind.i64.wrap (A2 (l.take i)+gI l i)=A2 (l.take (i+1)):=by
 have h1:=h.take (i+1)
 rw [I8 hi] at h1 ⊢
 exact B0 (by omega) (by omega)
structure A2d (t:Tax) (z:N0) (cats:List D8) (nets:List Int) (ship:Int):Prop where
 tax:A6n t=true
 zone:U5 z=true
 cats:cats.length=nets.length
 nets:A2e nets
 ship:0≤ship∧ship≤10000000000000
structure B4Q (q:A4O) (n:Nat):Prop where
 goods:H3 q.goods
 taxes:H3 q.taxes
 ngoods:q.goods.length=n
 ntaxes:q.taxes.length=n
 pos:∀ x∈q.taxes,0≤x
 ship:0≤q.ship∧q.ship≤10000000000000
 shipTax:0≤q.shipTax∧q.shipTax≤10000000000000
 total:q.total=A2 q.goods+A2 q.taxes+q.ship+q.shipTax
theorem A2X {t:Tax} {z:N0} {cats:List D8} {nets:List Int} {ship:Int} (h:A2d t z cats nets ship):(cats.map (F4 z)).length=nets.length∧∀ x∈cats.map (F4 z),0≤x∧x≤10000:=by
 refine ⟨by rw [List.length_map];exact h.cats,fun x hx=>?_⟩
 obtain ⟨c,_,rfl⟩:=List.mem_map.1 hx
 exact B3S h.zone c
theorem B5s {t:Tax} {z:N0} {cats:List D8} {nets:List Int} {ship:Int} (h:A2d t z cats nets ship) (exempt:Bool) (deals:List A2c):B4Q (B1b (J1 t z exempt cats nets ship) deals) nets.length:=by
 obtain ⟨r1,r2⟩:=A2X h
 obtain ⟨t1,t2⟩:=A5R (t:=t) h.nets r1 r2
 have hz:=(A3i h.zone).2.1
 have hm:=A0z (t:=t) h.ship.1 hz
 have hs:=h.ship
 have hn:=h.nets
 have hnx:∀ i,i<nets.length→0≤gI nets i∧gI nets i≤10000000000000:=fun i hi=>by
  have h1:=hn.pos _ (show gI nets i∈nets from A7 hi)
  have h2:=I3 hn.pos (show gI nets i∈nets from A7 hi)
  have h3:=hn.sum
  exact ⟨h1,by omega⟩
 have htx:∀ i,i<nets.length→0≤gI (H0 t (cats.map (F4 z)) nets) i∧gI (H0 t (cats.map (F4 z)) nets) i≤10000000000000:=fun i hi=>t2 _ (A7 (by omega))
 have hnl:=hn.len
 have gl:(A0v t (H0 t (cats.map (F4 z)) nets) nets).length=nets.length:=by unfold A0v;rw [List.length_map,List.length_range]
 refine ⟨⟨by show (A0v _ _ _).length≤_;omega,fun x hx=>?_⟩,⟨?_,fun x hx=>?_⟩,gl,?_,fun x hx=>?_,?_,?_,rfl⟩
 ·obtain ⟨i,hi,rfl⟩:=List.mem_map.1 (show x∈A0v _ _ _ from hx)
  have hi:=List.mem_range.1 hi
  have h1:=hnx i hi
  have h2:=htx i hi
  split<;>omega
 ·show (if exempt=true then List.replicate nets.length 0 else H0 t (cats.map (F4 z)) nets).length≤1000
  split
  ·rw [List.length_replicate];omega
  ·omega
 ·have hx:x∈(if exempt=true then List.replicate nets.length 0 else H0 t (cats.map (F4 z)) nets):=hx
  split at hx
  ·rw [(List.mem_replicate.1 hx).2];omega
  ·have:=t2 x hx;omega
 ·show (if exempt=true then List.replicate nets.length 0 else H0 t (cats.map (F4 z)) nets).length=nets.length
  split
  ·exact List.length_replicate
  ·exact t1
 ·have hx:x∈(if exempt=true then List.replicate nets.length 0 else H0 t (cats.map (F4 z)) nets):=hx
  split at hx
  ·rw [(List.mem_replicate.1 hx).2];exact Int.le_refl _
  ·exact (t2 x hx).1
 ·show 0≤(if t.incl=true then ship - J6 t ship z.ship else ship)∧(if t.incl=true then ship - J6 t ship z.ship else ship)≤10000000000000
  split<;>omega
 ·show 0≤(if exempt=true then 0 else J6 t ship z.ship)∧(if exempt=true then 0 else J6 t ship z.ship)≤10000000000000
  split<;>omega
theorem B1O {t:Tax} {z:N0} {cats:List D8} {nets:List Int} {ship:Int} (h:A2d t z cats nets ship) (exempt:Bool) :
  A2 (J1 t z exempt cats nets ship).goods≤10000000000000∧-10000000000000≤A2 (J1 t z exempt cats nets ship).goods∧A2 (J1 t z exempt cats nets ship).taxes≤10000000000000:=by
 obtain ⟨r1,r2⟩:=A2X h
 obtain ⟨t1,t2⟩:=A5R (t:=t) h.nets r1 r2
 have hs:=h.nets.sum
 have hle:∀ i,i<nets.length→gI (H0 t (cats.map (F4 z)) nets) i≤gI nets i:=fun i hi=>B4s h.nets r1 r2 hi
 have h0:∀ i,i<nets.length→0≤gI (H0 t (cats.map (F4 z)) nets) i:=fun i hi=>(t2 _ (A7 (by omega))).1
 have hn0:∀ i,i<nets.length→0≤gI nets i:=fun i hi=>h.nets.pos _ (A7 hi)
 have hrn:=A5z nets
 have hg:A2 (A0v t (H0 t (cats.map (F4 z)) nets) nets)≤A2 ((List.range nets.length).map (gI nets)):=by
  refine A1p _ _ _ fun i hi=>?_
  have:=h0 i hi
  split<;>omega
 have hg0:0≤A2 (A0v t (H0 t (cats.map (F4 z)) nets) nets):=B8 fun x hx=>by
  obtain ⟨i,hi,rfl⟩:=List.mem_map.1 hx
  have hi:=List.mem_range.1 hi
  have h1:=hle i hi
  have h2:=hn0 i hi
  split<;>omega
 have ht:A2 (H0 t (cats.map (F4 z)) nets)≤A2 ((List.range nets.length).map (gI nets)):=by
  have e:=A5z (H0 t (cats.map (F4 z)) nets)
  rw [t1] at e
  rw [←e]
  exact A1p _ _ _ fun i hi=>hle i hi
 rw [hrn] at hg ht
 refine ⟨by show A2 (A0v _ _ _)≤_;omega,by show _≤A2 (A0v _ _ _);omega,?_⟩
 show A2 (if exempt=true then List.replicate nets.length 0 else H0 t (cats.map (F4 z)) nets)≤_
 split
 ·have e:∀ n,A2 (List.replicate n (0:Int))=0:=fun n=>by
   induction n with
   | zero=>rfl
   | succ n ih=>rw [List.replicate_succ,G6,ih];rfl
  rw [e];omega
 ·omega
end Go.Proofs.YtbajhapmlfbelaaGreat
