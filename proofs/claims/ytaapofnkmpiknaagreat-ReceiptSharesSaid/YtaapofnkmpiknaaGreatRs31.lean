/- Part 31 of the proof: contracts of the functions that the law reaches -/
import Derived.Test.YtaapofnkmpiknaaGreatRs30
set_option maxRecDepth 100000
set_option linter.unusedVariables false
set_option linter.unusedSimpArgs false
namespace Go.Proofs.YtaapofnkmpiknaaGreat
open Go Go.Ab
attribute [local irreducible] upd del
theorem B4O (t:Tax) (x rate:Int) (hr:0≤rate∧rate≤10000) (st:St):S P 167 [S8 t,eI x,eI rate] st fun v st'=>v=eI (N8 t x rate)∧st'=st:=by
 have hM:N8 t x rate=(W4 x rate (A9a t rate) t.round).1:=rfl
 have hw:IntKind.i64.wrap (10000+rate)=10000+rate:=A5 (by omega) (by omega)
 refine F2 [3] Tryz.func167 ?_
 cases hi:t.incl
 ·have hd:A9a t rate=10000:=by unfold A9a;rw [if_neg (by rw [hi];simp)];rfl
  conv=>whnf
  refine B3 (A8D x rate 10000 t.round st) ?_
  rw [hM,hd]
  generalize W4 x rate 10000 t.round=Y
  conv=>whnf
  exact ⟨rfl,rfl⟩
 ·have hd:A9a t rate=10000+rate:=by unfold A9a;rw [if_pos hi]
  conv=>whnf
  rw [hw]
  refine B3 (A8D x rate (10000+rate) t.round st) ?_
  rw [hM,hd]
  generalize W4 x rate (10000+rate) t.round=Y
  conv=>whnf
  exact ⟨rfl,rfl⟩
theorem C1q (z:K5) (c:C8) (hl:z.rates.length≤100000) (st:St):S P 168 [T4 z,eS c] st fun v st'=>v=eI (F0 z c)∧st'=st:=by
 refine F2 [2] Tryz.func168 ?_
 refine lp z.rates.length [1,2,5] (fun i vs t=>(∀ j,j<i→((z.rates.getD j default).cat.toList==c.toList)=false)∧vs=[eS c,.fptr (T4 z) 0,eI i]∧t=st) ?_ ?_
 ·conv=>whnf
  exact ⟨fun j hj=>absurd hj (by omega),rfl,rfl⟩
 ·rintro i vs t hi ⟨hno,rfl,rfl⟩
  conv=>whnf
  cases h1:decide ((i:Int)<(z.rates.length:Int))
  ·obtain rfl:=C4 h1 hi
   have hf:F0 z c=z.rest:=by unfold F0;rw [B0o hno]
   rw [hf];conv=>whnf
   exact ⟨rfl,rfl⟩
  ·have hi':=D8 h1
   conv=>whnf
   refine E7 ?_
   refine B8 (fun h2=>?_) (fun h2=>?_)<;>rw [h2]
   ·have hf:F0 z c=(z.rates.getD (i:Int).toNat default).rate:=by unfold F0;rw [B0n (p:=fun x:G4=>x.cat.toList==c.toList) hi' h2 hno];rfl
    rw [hf];conv=>whnf
    refine E7 ?_
    exact ⟨rfl,rfl⟩
   ·conv=>whnf
    refine F7 ?_
    exact nx hi' ⟨H8 hno h2,by rw [B4 (by omega)],rfl⟩
theorem C1r (t:Tax) (s:C8) (hl:t.zones.length≤100000) (st:St) :
  S P 166 [S8 t,eS s] st fun v st'=>v=.tuple [T4 ((Z6 t.zones s).getD C7v),.bool (Z6 t.zones s).isSome]∧st'=st:=by
 refine S.post (post:=fun v s'=>E8 st s'∧((∃ z,Z6 t.zones s=some z∧v=.tuple [T4 z,.bool true])∨(Z6 t.zones s=none∧v=.tuple [.agg [eS ⟨#[]⟩,.emp,eI 0,eI 0],.bool false]))) ?_ (fun v s' ⟨hs,h⟩=>⟨_,st,⟨rfl,rfl⟩,by
  rcases h with ⟨z,h1,rfl⟩ | ⟨h1,rfl⟩
  ·rw [h1];exact hs.shift _
  ·rw [h1]
   exact (A7.tuple (A7.cons (Le.shift (Le.agg (F1.cons (Le.refl _) (F1.cons (Le.emp _ _) (F1.refl _)))) _) (A7.keep _ _)) rfl).trans (hs.shift _)⟩)
 refine F2 [2] Tryz.func166 ?_
 intro b4 hb4;conv=>whnf
 refine lp t.zones.length [1,2,4,6] (fun i vs u=>(∀ j,j<i→((t.zones.getD j default).name.toList==s.toList)=false)∧vs=[eS s,.fptr (S8 t) 0,.optr 4 b4 0 0,eI i]∧u=upd st b4 ⟨103,4,1,fun _=>H2 C1l.zero⟩) ?_ ?_
 ·conv=>whnf
  exact ⟨fun j hj=>absurd hj (by omega),rfl,rfl⟩
 ·rintro i vs u hi ⟨hno,rfl,rfl⟩
  conv=>whnf
  cases h1:decide ((i:Int)<(t.zones.length:Int))
  ·obtain rfl:=C4 h1 hi
   have hf:Z6 t.zones s=none:=B0o hno
   conv=>whnf
   refine Y9 (A0 ..) rfl ?_
   refine J0 (A0 ..) (A4 ..) ?_
   exact ⟨((E8.refl st).upd hb4).over hb4,.inr ⟨hf,rfl⟩⟩
  ·have hi':=D8 h1
   conv=>whnf
   refine E7 ?_
   refine B8 (fun h2=>?_) (fun h2=>?_)<;>rw [h2]
   ·have hf:Z6 t.zones s=some (t.zones.getD (i:Int).toNat default):=B0n (p:=fun z:K5=>z.name.toList==s.toList) hi' h2 hno
    conv=>whnf
    refine E7 ?_
    refine Y9 (A0 ..) rfl ?_
    refine J0 (A0 ..) (A4 ..) ?_
    exact ⟨((E8.refl st).upd hb4).over hb4,.inl ⟨_,hf,rfl⟩⟩
   ·conv=>whnf
    refine F7 ?_
    exact nx hi' ⟨H8 hno h2,by rw [B4 (by omega)],rfl⟩
def IsF (n:Nat) (F:Nat→Bool) (y:K7):Prop:=∃ f,y=⟨4,1,n,f⟩∧∀ k,k<n→f k=eB (F k)
theorem IsF.set {n i:Nat} {F F':Nat→Bool} {f:Nat→AV} (h:∀ k,k<n→f k=eB (F k)) (h1:F' i=true) (h2:∀ k,k≠i→F' k=F k):IsF n F' ⟨4,1,n,I3 f i (eB true)⟩:=by
 refine ⟨_,rfl,fun k hk=>?_⟩
 by_cases e:k=i
 ·subst e;rw [A4,h1]
 ·rw [H1 e,h k hk,h2 k e]
def OD (bo bd:Nat) (L:List Int) (n:Nat) (F:Nat→Bool):St→St→Prop:=Y3 bo (IsL L) (Y3 bd (IsF n F) E8)
theorem A5K (bo bd:Nat) (L:List Int) (n:Nat) (F:Nat→Bool):L3 (OD bo bd L n F):=A0x (A0x J4)
section
variable {bo bd n:Nat} {L L':List Int} {F F':Nat→Bool} {s t:St} {y:K7}
theorem OD.setL (h:OD bo bd L n F s t) (hy:IsL L' y):OD bo bd L' n F s (upd t bo y):=Y3.set (A0x J4) h hy
theorem OD.setD (h:OD bo bd L n F s t) (hy:IsF n F' y):OD bo bd L n F' s (upd t bd y):=Y3.map h fun s h=>Y3.set J4 h hy
theorem OD.atL (h:OD bo bd L n F s t):∃ y,IsL L y∧t bo=some y:=Y3.at (A0x J4) h
theorem OD.atD (h:OD bo bd L n F s t):∃ y,IsF n F y∧t bd=some y:=by
 obtain ⟨_,y,_,h⟩:=h
 exact Y3.at J4 h
theorem OD.congr (h:OD bo bd L n F s t) (hF:∀ k,k<n→F k=F' k):OD bo bd L n F' s t :=
 Y3.map h fun s h=>Y3.weak h fun y ⟨f,h1,h2⟩=>⟨f,h1,fun k hk=>by rw [h2 k hk,hF k hk]⟩
end
theorem C0z {t:Tax} {rates nets:List Int} {D:Int→Bool} {L:List Int} (h:B3j t rates nets D L) (hD:∀ i,i<nets.length→D (-(gI rates i))=true):L=G6 t rates nets:=by
 have hl:(G6 t rates nets).length=nets.length:=by unfold G6;rw [D5H,D6c]
 refine C3e (by rw [h.1,hl]) fun i h1=>?_
 have hi:i<nets.length:=by rw [←h.1];exact h1
 have h3:=h.2 i hi
 rw [if_pos (hD i hi)] at h3
 rw [h3]
 unfold G6 gI
 rw [D5C,D6B,D7h hi];rfl
def A8b (rates:List Int) (k:Int) (m:Nat):Nat:=((List.range m).filter fun i=>-(gI rates i)==k).length
theorem C2S (rates:List Int) (k:Int) (m:Nat):A8b rates k (m+1)=A8b rates k m+(if (-(gI rates m)==k)=true then 1 else 0):=by
 unfold A8b
 rw [D6R,D7A,D5O]
 congr 1
 by_cases h:(-(gI rates m)==k)=true
 ·rw [if_pos h,D6J (p:=fun i=>-(gI rates i)==k) h];rfl
 ·rw [if_neg h,D6O (p:=fun i=>-(gI rates i)==k) h];rfl
theorem C5p (rates:List Int) (k:Int):A8b rates k rates.length=(K8 rates k).length:=rfl
theorem C7N {rates:List Int} {k:Int} {m:Nat} (hm:m≤rates.length):A8b rates k m≤(K8 rates k).length:=by
 unfold A8b K8
 exact (((List.range_sublist.2 hm).filter _).length_le)
theorem C7M {rates:List Int} {k:Int} {m:Nat} (hm:m<rates.length) (h:(-(gI rates m)==k)=true):A8b rates k m<(K8 rates k).length∧gN (K8 rates k) (A8b rates k m)=m:=by
 have hk : -(gI rates m)=k:=by simpa using h
 have hg:m∈K8 rates k:=D6G.2 ⟨D5S.2 hm,h⟩
 have e1:=A8n hm
 rw [(A0A hg).2.2] at e1
 have e2:A0C rates m=A8b rates k m:=by
  unfold A0C A8b
  congr 1
  refine List.filter_congr fun j _=>?_
  rw [D8I,D6z,D6z];omega
 rw [e2] at e1
 obtain ⟨e3,e4⟩:=D5U.1 e1
 refine ⟨e3,?_⟩
 show (((K8 rates k).getD (A8b rates k m) 0:Nat):Int)=m
 rw [D5C,e1];rfl
set_option maxHeartbeats 8000000 in
theorem B6z (t:Tax) (rates nets:List Int) (hn:A4K nets) (hr:rates.length=nets.length) (hq:∀ x∈rates,0≤x∧x≤10000) (st:St) :
  S P 169 [S8 t,B0 rates,B0 nets] st fun v s=>∃ bo,v=.own 1 bo 0 nets.length∧st bo=none∧(∃ y,IsL (G6 t rates nets) y∧s bo=some y)∧E8 st s:=by
 have hnl:=hn.len
 have hns:=hn.sum
 have hol:(G6 t rates nets).length=nets.length:=by unfold G6;rw [D5H,D6c]
 refine F2 [3] Tryz.func169 ?_
 refine mkO rfl rfl rfl (by show 8 * nets.length≤_;omega) (by omega) (by rfl) (fun bo hbo=>?_);conv=>whnf
 refine mkO rfl rfl rfl (by show 1 * nets.length≤_;omega) (by omega) (by rfl) (fun bd hbd=>?_);conv=>whnf
 refine lp nets.length [1,2,3,7,8,9] (fun i vs u=>∃ (D:Int→Bool) (L:List Int),vs=[B0 rates,B0 nets,.fptr (S8 t) 0,.own 1 bo 0 nets.length,.own 1 bd 0 nets.length,eI i]∧B3j t rates nets D L∧(∀ j,j<i→D (-(gI rates j))=true)∧OD bo bd L nets.length (fun k=>D (-(gI rates k))) st u) ?_ ?_
 ·conv=>whnf
  exact ⟨fun _=>false,List.replicate nets.length 0,rfl,⟨D6L,fun i hi=>by
   rw [if_neg (by simp)];unfold gI
   rw [D5C,D7U];split<;>rfl⟩,fun j hj=>absurd hj (by omega),hbo,_,⟨fun _=>H2 r2.zero,by rw [D6L];rfl,fun i hi=>by
   unfold gI;rw [D5C,D7U];split<;>rfl⟩,hbd,_,⟨fun _=>H2 r4.zero,rfl,fun k hk=>rfl⟩,E8.refl _⟩
 rintro i vs u hi ⟨D,L,rfl,hdone,hall,hR⟩
 conv=>whnf
 cases h1:decide ((i:Int)<(nets.length:Int))
 case false =>
  obtain rfl:=C4 h1 hi
  have hL:=C0z hdone hall
  conv=>whnf
  obtain ⟨y,hy,hb⟩:=hR.atL
  have hsup:=(A5K ..).sup hR
  exact ⟨bo,rfl,hbo,⟨y,by rw [←hL];exact hy,hb⟩,hsup⟩
 have hi':=D8 h1
 obtain ⟨yd,⟨fd,rfl,hfd⟩,hbd2⟩:=hR.atD
 conv=>whnf
 refine E7 ?_
 refine ldV hbd2 rfl (by omega) (v:=eB (D (-(gI rates i)))) (by rw [show 0+((i:Nat):Int).toNat=i by omega];exact hfd i hi') ?_;conv=>whnf
 cases hD:D (-(gI rates i))
 case true =>
  conv=>whnf
  refine F7 ?_
  exact nx hi' ⟨D,L,by rw [B4 (by omega)],hdone,fun j hj=>by
   by_cases e:j=i
   ·rw [e];exact hD
   ·exact hall j (by omega),hR⟩
 clear hbd2 hfd
 obtain ⟨key,hkey⟩:∃ key,key = -(gI rates i):=⟨_,rfl⟩
 have hil:i<rates.length:=by omega
 have hrate:0≤gI rates i∧gI rates i≤10000:=hq (gI rates i) (A6 hil)
 have him:i∈K8 rates key:=D6G.2 ⟨D5S.2 hil,by rw [hkey];exact D7R _⟩
 have hnext:=B3k (k:=key) hdone hr
 have hcl:=fun m (hm:m≤rates.length)=>C7N (k:=key) hm
 have hca:=fun m (hm:m<rates.length) h=>C7M (k:=key) hm h
 have hcn:=C2S rates key
 have hce:=C5p rates key
 have hc0:A8b rates key i=0:=by
  unfold A8b
  rw [List.length_eq_zero_iff,List.filter_eq_nil_iff]
  intro j hj hk
  have hj:=D5S.1 hj
  have h2:=hall j hj
  rw [show -(gI rates j) = -(gI rates i) by rw [←hkey];simpa using hk,hD] at h2
  cases h2
 have hparts:(A2H t rates nets key).length=(K8 rates key).length∧(∀ st,S P 220 [eI (N8 t (A2 ((K8 rates key).map (gI nets))) (gI rates i)),B0 ((K8 rates key).map (gI nets))] st fun v st'=>v=.tuple [B0 (A2H t rates nets key),eI 0]∧st'=st):=by
  have hw:=A2U (t:=t) hn hr (i:=i) hrate
  have e:I7 rates nets i=(K8 rates key).map (gI nets):=by unfold I7;rw [(A0A him).2.2]
  rw [e] at hw
  have h3:=(T7 hw).2.1
  have e2:A2H t rates nets key=D2 (N8 t (A2 ((K8 rates key).map (gI nets))) (gI rates i)) ((K8 rates key).map (gI nets)):=by unfold A2H;rw [hkey,show - -(gI rates i)=gI rates i by omega]
  rw [e2]
  refine ⟨by rw [h3,D5H],fun st=>?_⟩
  exact A7G _ _ hw st
 have hGok:=fun j=>C7e (rates:=rates) (k:=key) (j:=j)
 have hsub:((K8 rates key).map (gI nets)).Sublist nets:=by
  have h1:((K8 rates key).map (gI nets)).Sublist ((List.range nets.length).map (gI nets)):=by
   refine List.Sublist.map _ ?_
   unfold K8;rw [hr];exact D7F
  rw [A6j] at h1;exact h1
 have hw0:∀ v∈(K8 rates key).map (gI nets),0≤v:=fun v hv=>hn.pos v (hsub.subset hv)
 have hws:A2 ((K8 rates key).map (gI nets))≤10000000000000:=by have:=B2e hsub hn.pos;omega
 have hGl:(K8 rates key).length≤nets.length:=by have:=hsub.length_le;rwa [D5H] at this
 have hGp:0<(K8 rates key).length:=List.length_pos_of_mem him
 have hgm:∀ j,j<(K8 rates key).length→gI ((K8 rates key).map (gI nets)) j=gI nets (gN (K8 rates key) j).toNat:=fun j hj=>by
  show gI ((K8 rates key).map (gI nets)) j=gI nets ((((K8 rates key).getD j 0:Nat):Int)).toNat
  rw [D5P]
  unfold gI
  rw [D5C,D6B,D5C (l:=K8 rates key),D5K hj];rfl
 generalize K8 rates key=G at *
 generalize A2H t rates nets key=X at *
 generalize hCnt:A8b rates key=cnt at *
 conv=>whnf
 refine lp (nets.length - i) [1,2,3,7,8,9,10,11,12] (fun j vs u=>∃ (lv wv:AV),vs=[B0 rates,B0 nets,.fptr (S8 t) 0,.own 1 bo 0 nets.length,.own 1 bd 0 nets.length,eI i,lv,wv,eI ((i+j:Nat):Int)]∧ROut (fun s t=>ROut (OD bo bd L nets.length (fun m=>D (-(gI rates m))||(decide (m<i+j)&&(-(gI rates m)==key)))) 3 1 (fun x=>eI (gN G x)) (cnt (i+j)) s lv t) 2 1 (fun x=>eI (gI (G.map (gI nets)) x)) (cnt (i+j)) st wv u) ?_ ?_
 ·conv=>whnf
  refine ⟨.emp,.emp,rfl,?_⟩
  rw [D7W,hc0]
  refine ROut.start (show ROut _ _ _ _ 0 st .emp u from ROut.start (show OD _ _ _ _ _ st u from hR.congr fun m hm=>?_) _ _ _) _ _ _
  by_cases e:m<i
  ·rw [hall m e,D6x]
  ·rw [D5J e,D6b,D6u]
 clear hR
 rintro j vs w hj ⟨lv,wv,rfl,hR⟩
 conv=>whnf
 cases h2:decide ((((i+j:Nat)):Int)<(nets.length:Int))
 case true =>
  have hj':i+j<nets.length:=by have:=D5F h2;omega
  have hcj:=hcn (i+j)
  conv=>whnf
  refine ⟨[],[],List.range 9,by kernel_rfl,?_⟩;conv=>whnf
  refine E7 ?_
  refine E7 ?_
  have hk3:(rates.getD (((i+j:Nat):Int)).toNat default==rates.getD ((i:Nat):Int).toNat default)=(-(gI rates (i+j))==key):=by
   rw [D5P,D5P,hkey,D8I,D6z,D6z]
   show gI rates (i+j)=gI rates i↔-(gI rates (i+j)) = -(gI rates i)
   omega
  rw [hk3]
  cases h3:(-(gI rates (i+j))==key)
  case false =>
   rw [h3,if_neg (by simp)] at hcj;conv=>whnf
   refine F7 ?_
   refine nx (n:=nets.length - i) (by omega) ⟨lv,wv,by rw [B4 (by omega)];rfl,?_⟩
   rw [show i+(j+1)=i+j+1 from rfl,hcj]
   refine ROut.map hR fun s h=>ROut.map h fun s h=>OD.congr h fun m hm=>?_
   by_cases e:m=i+j
   ·subst e;rw [h3,D6j,D6j]
   ·rw [show decide (m<i+j+1)=decide (m<i+j) from D7t.2 (by omega)]
  rw [h3,if_pos rfl] at hcj
  obtain ⟨hc1,hc2⟩:=hca (i+j) (by omega) h3
  obtain ⟨s0,hw0,s1,hl0,hOD⟩:=hR
  obtain ⟨yd,⟨fd,rfl,hfd⟩,hbd2⟩:=hOD.atD
  conv=>whnf
  refine E7 ?_
  refine stU hbd2 (hfd (0+((i+j:Nat):Int).toNat) (by omega)) ?_
  have hOD2:OD bo bd L nets.length (fun m=>D (-(gI rates m))||(decide (m<i+j+1)&&(-(gI rates m)==key))) s1 _:=hOD.setD (IsF.set (i:=0+((i+j:Nat):Int).toNat) hfd (by rw [show 0+((i+j:Nat):Int).toNat=i+j by omega,h3,D6m (by omega),D6w,D6t]) (fun k hk=>by
   rw [show decide (k<i+j+1)=decide (k<i+j) from D7t.2 (by omega)]))
  have hB1:=A5K bo bd L nets.length (fun m=>D (-(gI rates m))||(decide (m<i+j+1)&&(-(gI rates m)==key)))
  have hin:ROut (OD bo bd L nets.length (fun m=>D (-(gI rates m))||(decide (m<i+j+1)&&(-(gI rates m)==key)))) 3 1 (fun x=>eI (gN G x)) (cnt (i+j)) s0 lv _:=⟨s1,hl0,hOD2⟩
  have hout:ROut (fun s t=>ROut (OD bo bd L nets.length (fun m=>D (-(gI rates m))||(decide (m<i+j+1)&&(-(gI rates m)==key)))) 3 1 (fun x=>eI (gN G x)) (cnt (i+j)) s lv t) 2 1 (fun x=>eI (gI (G.map (gI nets)) x)) (cnt (i+j)) st wv _:=⟨s0,hw0,hin⟩
  have hwv:=ROut.head hout
  have hlv:=ROut.head hin
  have hgc:=hgm _ hc1
  rw [hc2] at hgc
  have hcl2:=hcl (i+j) (by omega)
  rcases hlv with rfl | ⟨bl,rfl⟩<;>rcases hwv with rfl | ⟨bw,rfl⟩
  all_goals
   conv=>whnf
   refine ⟨[2,3,8,9,10],[],[],.qui 0 (.qui 1 (.qui 4 (.qui 5 (.qui 6 (.qui 7 (.two 2 8 (.two 3 8 (.gen 8 (.gen 9 (.gen 10 (.qui 11 (.qui 12 .done))))) (.two 3 9 (.gen 9 (.gen 10 (.qui 11 (.qui 12 .done)))) (.gen 3 (.gen 10 (.qui 11 (.qui 12 .done)))))) (.two 2 9 (.two 3 9 (.gen 9 (.gen 10 (.qui 11 (.qui 12 .done)))) (.gen 3 (.gen 10 (.qui 11 (.qui 12 .done))))) (.gen 2 (.gen 3 (.gen 10 (.qui 11 (.qui 12 .done)))))))))))),by kernel_rfl,?_⟩;conv=>whnf
   refine E7 ?_
   repeat' (refine And.intro ?_ ?_<;>(conv=>whnf))
   all_goals
    refine ROut.app (q:=r3) hB1 rfl rfl rfl rfl rfl (f:=fun x=>eI (gN G x)) (by show _=eI _;rw [hc2];rfl) (by show (cnt (i+j)+1) * 8≤140737488355328;omega) hin (fun lv' w2 hin2=>?_)
    have hout2:ROut (fun s t=>ROut (OD bo bd L nets.length (fun m=>D (-(gI rates m))||(decide (m<i+j+1)&&(-(gI rates m)==key)))) 3 1 (fun x=>eI (gN G x)) (cnt (i+j)+1) s lv' t) 2 1 (fun x=>eI (gI (G.map (gI nets)) x)) (cnt (i+j)) st _ w2:=⟨s0,hw0,hin2⟩
    conv=>whnf
    refine ROut.app (q:=r2) (U7 hB1 _ _ _ _ _) rfl rfl rfl rfl rfl (f:=fun x=>eI (gI (G.map (gI nets)) x)) (by show _=eI _;rw [hgc];rfl) (by show (cnt (i+j)+1) * 8≤140737488355328;omega) hout2 (fun wv' w3 hout3=>?_);conv=>whnf
    refine F7 ?_
    refine nx (n:=nets.length - i) (by omega) ⟨lv',wv',by rw [B4 (by omega)];rfl,?_⟩
    rw [show i+(j+1)=i+j+1 from rfl,hcj]
    exact hout3
 have hije:i+j=rates.length:=by have:=D5G h2;omega
 rw [hije,hce] at hR
 obtain ⟨w2,hsh,hR2⟩:=ROut.shift (U7 (A5K ..) _ _ _ _ _) hR
 have e0:AV.arr 1 G.length (fun x=>eI (gI (G.map (gI nets)) x))=B0 (G.map (gI nets)):=by unfold B0 A8;rw [D5H]
 rw [e0] at hsh
 have hsm:S P 118 [wv] w fun v s=>v=eI (A2 (G.map (gI nets)))∧s=w :=
  S.lends (A9w (G.map (gI nets)) (by rw [D5H];omega) hw0 (by omega) st0) (hsh.trans ((C6I _).shift _)) fun v hv=>⟨_,rfl,by rw [hv];exact So.int _ _⟩
 have hpt:=fun s=>B4O t (A2 (G.map (gI nets))) (gI rates i) hrate s
 generalize A2 (G.map (gI nets))=W at hsm hpt hparts
 generalize N8 t W (gI rates i)=M at hpt hparts
 obtain ⟨bw,rfl⟩:∃ b,wv=.own 1 b 0 G.length:=by
  rcases ROut.head hR with rfl | h
  ·obtain ⟨s0,⟨h0,_⟩ | ⟨_,b,_,_,h1,_⟩,_⟩:=hR
   ·omega
   ·cases h1
  ·exact h
 conv=>whnf
 refine ⟨[9],[],List.range 15,by kernel_rfl,?_⟩;conv=>whnf
 refine cqW hsm ?_
 refine E7 ?_
 refine cqW (hpt _) ?_
 refine F3 (args':=[eI M,B0 (G.map (gI nets))]) (A7.cons (A7.keep _ _) hsh) (B3 (hparts.2 _) ?_);conv=>whnf
 obtain ⟨bl,rfl⟩:∃ b,lv=.own 1 b 0 G.length:=by
  rcases ROut.head hR2 with rfl | h
  ·obtain ⟨s0,⟨h0,_⟩ | ⟨_,b,_,_,h1,_⟩,_⟩:=hR2
   ·omega
   ·cases h1
  ·exact h
 refine lp G.length [1,2,3,7,8,9,10,13,15] (fun j vs u=>vs=[B0 rates,B0 nets,.fptr (S8 t) 0,.own 1 bo 0 nets.length,.own 1 bd 0 nets.length,eI i,.own 1 bl 0 G.length,B0 X,eI j]∧ROut (OD bo bd (A4v L G X j) nets.length (fun m=>D (-(gI rates m))||(decide (m<rates.length)&&(-(gI rates m)==key)))) 3 1 (fun x=>eI (gN G x)) G.length st (.own 1 bl 0 G.length) u) ?_ ?_
 ·conv=>whnf
  exact ⟨rfl,hR2⟩
 clear hR hR2 hsm hsh
 rintro j vs v hjx ⟨rfl,hR3⟩
 have hPl:=A8x L G X j
 have hdl:=hdone.1
 have hXl:=hparts.1
 conv=>whnf
 cases h5:decide ((j:Int)<(G.length:Int))
 case true =>
  have hj5:=D8 h5
  have hGj:=hGok j (by omega)
  obtain ⟨s0,hcl,hOD⟩:=hR3
  obtain ⟨g,hb3,h4⟩:∃ g,v bl=some ⟨3,1,G.length,g⟩∧∀ k,k<G.length→g k=eI (gN G k):=by
   rcases hcl with ⟨h0,_⟩ | ⟨_,b,g,h3,h4,h5,h6⟩
   ·omega
   ·injection h4 with _ h4 _ _
    subst h4
    exact ⟨g,(A5K ..).sup hOD bl _ (by rw [h5];exact A0 ..),h6⟩
  obtain ⟨yo,⟨fo,rfl,hfo⟩,hbo3⟩:=hOD.atL
  conv=>whnf
  refine ⟨[10],[],List.range 11,by kernel_rfl,?_⟩;conv=>whnf
  refine E7 ?_
  refine ldV hb3 rfl (by show 0+((j:Nat):Int).toNat<G.length;omega) (v:=eI (gN G j)) (by show g (0+((j:Nat):Int).toNat)=_;rw [show 0+((j:Nat):Int).toNat=j by omega];exact h4 j (by omega)) ?_;conv=>whnf
  refine E7 ?_
  refine E7 ?_
  refine stV hbo3 rfl (by show 0+(gN G j).toNat<(A4v L G X j).length;omega) (hfo (0+(gN G j).toNat) (by omega)) (by rfl) ?_;conv=>whnf
  refine F7 ?_
  have hset:IsL (A4v L G X (j+1)) ⟨2,1,(A4v L G X j).length,I3 fo (0+(gN G j).toNat) (eI (gI X (j:Int).toNat))⟩:=by
   have:=IsL.set (i:=(gN G j).toNat) (v:=gI X j) hfo
   rw [show 0+(gN G j).toNat=(gN G j).toNat by omega,show (j:Int).toNat=j by omega]
   exact this
  exact nx hj5 ⟨by rw [B4 (by omega)],⟨_,hcl,hOD.setL hset⟩⟩
 obtain rfl:=C4 h5 hjx
 have hfin:=ROut.dropped (A5K ..) hR3
 conv=>whnf
 refine F7 ?_
 refine nx hi' ⟨fun y=>D y||y==key,A4v L G X G.length,by rw [B4 (by omega)],hnext,fun j hj=>?_,hfin.congr fun m hm=>?_⟩
 ·show (D (-(gI rates j))||(-(gI rates j)==key))=true
  by_cases e:j=i
  ·subst e;rw [hkey,D7R,D6t]
  ·rw [hall j (by omega),D6x]
 ·rw [D6m (by omega),D5T]
end Go.Proofs.YtaapofnkmpiknaaGreat
namespace Go.Ab
open Go
inductive At {α : Type}:List α→Nat→α→Prop
 | z {a : α} {l:List α}:At (a::l) 0 a
 | s {a b : α} {l:List α} {n:Nat} (h:At l n a):At (b::l) (n+1) a
def Has (s:St) (b:Nat) (y:K7):Prop:=∃ g,s b=some ⟨y.ty,y.e,y.n,g⟩∧∀ k,k<y.n→g k=y.f k
def E6 (st:St):List (Nat×K7)→St→Prop
 | [],s=>E8 st s
 | x::L,s=>(x.2.n=0∨(st x.1=none∧Has s x.1 x.2∧∀ j p,At L j p→p.2.n=0∨p.1≠x.1))∧E6 st L s
theorem E6.sup {st:St}:∀ {L:List (Nat×K7)} {s:St},E6 st L s→E8 st s
 | [],_,h=>h
 | _::_,_,h=>E6.sup h.2
theorem E6.get {st s:St}:∀ {L:List (Nat×K7)} {j:Nat} {p:Nat×K7},E6 st L s→At L j p→p.2.n=0∨(st p.1=none∧Has s p.1 p.2)
 | _,_,_,h,.z=>h.1.imp id fun h=>⟨h.1,h.2.1⟩
 | _,_,_,h,.s k=>E6.get h.2 k
theorem E6.other {st s:St} {L:List (Nat×K7)} (h:E6 st L s) {b:Nat} (hb:s b=none) (j:Nat) (p:Nat×K7) (hp:At L j p):p.2.n=0∨p.1≠b :=
 (h.get hp).imp id fun ⟨_,g,hg,_⟩ e=>by subst e;rw [hb] at hg;cases hg
theorem E6.frame {st s s':St}:∀ {L:List (Nat×K7)},E6 st L s→E8 st s'→(∀ j p,At L j p→p.2.n=0∨s' p.1=s p.1)→E6 st L s'
 | [],_,hs,_=>hs
 | x::L,h,hs,hf=>⟨h.1.elim .inl fun ⟨h1,⟨g,h2,h3⟩,h4⟩=>(hf 0 x .z).imp id fun e=>⟨h1,⟨g,e.trans h2,h3⟩,h4⟩,E6.frame h.2 hs fun j p hp=>hf (j+1) p (.s hp)⟩
theorem E6.new {st s:St} {L:List (Nat×K7)} (h:E6 st L s) {b:Nat} (hb:s b=none) (y:K7):E6 st ((b,y)::L) (upd s b y) :=
 ⟨.inr ⟨h.sup.none hb,⟨y.f,A0 ..,fun _ _=>rfl⟩,h.other hb⟩,h.frame (h.sup.upd hb) fun j p hp=>(h.other hb j p hp).imp id A9⟩
theorem E6.new' {st s s':St} {L:List (Nat×K7)} {b:Nat} {y:K7} (hs:upd s b y=s') (h:E6 st L s) (hb:s b=none):E6 st ((b,y)::L) s':=hs▸h.new hb y
theorem E6.soft {st s:St} {L:List (Nat×K7)} (h:E6 st L s) (b ty e:Nat) (f:Nat→AV):E6 st ((b,⟨ty,e,0,f⟩)::L) s:=⟨.inl rfl,h⟩
theorem At.of_set {α : Type}:∀ {L:List α} {j i:Nat} {p q : α},At (L.set j q) i p→p=q∨∃ i,At L i p
 | _::_,0,_,_,_,.z=>.inl rfl
 | _::_,0,_,_,_,.s k=>.inr ⟨_,.s k⟩
 | _::_,_+1,_,_,_,.z=>.inr ⟨_,.z⟩
 | _::_,_+1,_,_,_,.s k=>(At.of_set k).imp id fun ⟨_,h⟩=>⟨_,.s h⟩
theorem E6.chg {st s s':St} {b b':Nat} {y y':K7} (hS:E8 st s') (hst:st b'=none) (hH:Has s' b' y') (ho:∀ c x,(y.n=0∨c≠b)→s c=some x→s' c=some x∧c≠b') :
  ∀ {L:List (Nat×K7)} {j:Nat},E6 st L s→At L j (b,y)→E6 st (L.set j (b',y')) s'
 | _::L,_,h,.z=>by
  have ho':∀ j p,At L j p→p.2.n=0∨(s' p.1=s p.1∧p.1≠b'):=fun j p hp=>by
   rcases h.2.get hp with h0 | ⟨_,g,hg,_⟩
   ·exact .inl h0
   ·rcases h.1 with h1 | h1
    ·obtain ⟨e1,e2⟩:=ho _ _ (.inl h1) hg
     exact .inr ⟨e1.trans hg.symm,e2⟩
    ·rcases h1.2.2 j p hp with h0 | h0
     ·exact .inl h0
     ·obtain ⟨e1,e2⟩:=ho _ _ (.inr h0) hg
      exact .inr ⟨e1.trans hg.symm,e2⟩
  exact ⟨.inr ⟨hst,hH,fun j p hp=>(ho' j p hp).imp id And.right⟩,h.2.frame hS fun j p hp=>(ho' j p hp).imp id And.left⟩
 | x::L,_,h,.s k=>by
  refine ⟨?_,E6.chg hS hst hH ho h.2 k⟩
  rcases h.1 with h0 | ⟨h1,⟨g,h2,h3⟩,h4⟩
  ·exact .inl h0
  ·obtain ⟨e1,e2⟩:=ho _ _ ((h4 _ _ k).imp id Ne.symm) h2
   refine .inr ⟨h1,⟨g,e1,h3⟩,fun j p hp=>?_⟩
   rcases At.of_set hp with rfl | ⟨i,hi⟩
   ·exact .inr (Ne.symm e2)
   ·exact h4 i p hi
theorem E6.put {st s:St} {L:List (Nat×K7)} {j b:Nat} {y y':K7} (h:E6 st L s) (k:At L j (b,y)) (hn:0<y.n) {g:Nat→AV} (hg:∀ k,k<y'.n→g k=y'.f k):E6 st (L.set j (b,y')) (upd s b ⟨y'.ty,y'.e,y'.n,g⟩):=by
 have h1:=((h.get k).resolve_left (by show ¬ y.n=0;omega)).1
 exact E6.chg (h.sup.over h1) h1 ⟨g,A0 ..,hg⟩ (fun c x hc hx=>by
  have hc:=hc.resolve_left (by omega)
  exact ⟨(A9 hc).trans hx,hc⟩) h k
theorem At.of_erase {α : Type}:∀ {L:List α} {j i:Nat} {p : α},At (L.eraseIdx j) i p→∃ i,At L i p
 | _::_,0,_,_,k=>⟨_,.s k⟩
 | _::_,_+1,_,_,.z=>⟨_,.z⟩
 | _::_,_+1,_,_,.s k=>let ⟨_,h⟩:=At.of_erase k;⟨_,.s h⟩
theorem E6.drop {st s:St}:∀ {L:List (Nat×K7)} (j:Nat),E6 st L s→E6 st (L.eraseIdx j) s
 | [],_,h=>h
 | _::_,0,h=>h.2
 | _::_,j+1,h=>⟨h.1.imp id fun h=>⟨h.1,h.2.1,fun i p hp=>let ⟨_,hq⟩:=At.of_erase hp;h.2.2 _ p hq⟩,E6.drop j h.2⟩
theorem E6.apart {st s:St} {b:Nat} {y:K7} (hn:0<y.n):∀ {L:List (Nat×K7)} {j:Nat},E6 st L s→At L j (b,y)→∀ i p,At (L.eraseIdx j) i p→p.2.n=0∨p.1≠b
 | _::_,_,h,.z,i,p,hp=>(h.1.resolve_left (by show ¬ y.n=0;omega)).2.2 i p hp
 | _::_,_,h,.s k,_,_,.z=>h.1.imp id fun h=>((h.2.2 _ _ k).resolve_left (by show ¬ y.n=0;omega)).symm
 | _::_,_,h,.s k,_,_,.s hp=>E6.apart hn h.2 k _ _ hp
theorem E6.zero {st s:St} {b b':Nat} {y y':K7} (hy:y'.n=0):∀ {L:List (Nat×K7)} {j:Nat},E6 st L s→At L j (b,y)→E6 st (L.set j (b',y')) s
 | _::_,_,h,.z=>⟨.inl hy,h.2⟩
 | _::_,_,h,.s k=>⟨h.1.imp id fun h=>⟨h.1,h.2.1,fun i p hp=>by
   rcases At.of_set hp with rfl | ⟨i,hi⟩
   ·exact .inl hy
   ·exact h.2.2 i p hi⟩,E6.zero hy h.2 k⟩
theorem E6.as {st s:St} {L:List (Nat×K7)} {j b ty e n:Nat} {f:Nat→AV} (f':Nat→AV) (h:E6 st L s) (k:At L j (b,⟨ty,e,n,f⟩)) (hf:∀ k,k<n→f k=f' k):E6 st (L.set j (b,⟨ty,e,n,f'⟩)) s:=by
 rcases D7b n with h0 | h0
 ·exact E6.zero h0 h k
 ·obtain ⟨h1,g,hg,hh⟩:=(h.get k).resolve_left (by show ¬ n=0;omega)
  have:=h.put (y':=⟨ty,e,n,f'⟩) k h0 (g:=g) fun i hi=>(hh i hi).trans (hf i hi)
  rwa [upd_self' hg] at this
where
 upd_self' {st:St} {a:Nat} {x:K7} (h:st a=some x):upd st a x=st:=funext fun c=>by
  unfold upd;split
  ·rename_i e;subst e;exact h.symm
  ·rfl
def OV (e b n:Nat) (v:AV):Prop:=(n=0∧v=.emp)∨(0<n∧v=.own e b 0 n)
theorem OV.nil (e b:Nat):OV e b 0 .emp:=.inl ⟨rfl,rfl⟩
theorem OV.one {e b n:Nat} {v:AV} (h:OV e b n v):v.one=true:=by rcases h with ⟨_,rfl⟩ | ⟨_,rfl⟩<;>rfl
theorem OV.own {e b n:Nat} {v:AV} (h:OV e b n v) (hn:0<n):v=.own e b 0 n:=h.elim (fun h=>by omega) And.right
theorem own0 {rd:Addr→Option Value} {sz:Nat→Nat} {e b off:Nat} {c:Value} (f:Nat→AV) (h:Rep rd sz (.own e b off 0) c):Rep rd sz (.arr e 0 f) c:=by
 cases h with
 | own e b off n c hc hs=>exact .arr e 0 f _ c (fun _ _=>undef) (D6e _) (fun h=>absurd h (by omega)) (fun i hi=>absurd hi (by omega)) (fun i hi=>absurd hi (by omega)) (fun _ _ i j hi=>absurd hi (by omega)) (fun i j y hi=>absurd hi (by omega))
theorem E6.frzO {st s:St} {L:List (Nat×K7)} {j b ty e n:Nat} {f:Nat→AV} (h:E6 st L s) (k:At L j (b,⟨ty,e,n,f⟩)):∃ s',E6 st (L.eraseIdx j) s'∧A7 [.own e b 0 n] s [.arr e n f] s':=by
 rcases D7b n with h0 | h0
 ·subst h0
  exact ⟨s,h.drop j,Le.shift (fun rd sz c hr=>own0 f hr) s⟩
 ·obtain ⟨h1,g,hg,hh⟩:=(h.get k).resolve_left (by show ¬ n=0;omega)
  refine ⟨del s b,(h.drop j).frame (h.sup.del h1) fun i p hp=>(h.apart h0 k i p hp).imp id fun hne=>?_,N7 hg rfl (D5L _) hh⟩
  unfold del;rw [if_neg hne]
theorem E6.frz {st s:St} {L:List (Nat×K7)} {j b ty e n:Nat} {f:Nat→AV} {v:AV} (h:E6 st L s) (k:At L j (b,⟨ty,e,n,f⟩)) (hv:OV e b n v):∃ s',E6 st (L.eraseIdx j) s'∧A7 [v] s [.arr e n f] s':=by
 rcases hv with ⟨rfl,rfl⟩ | ⟨hn,rfl⟩
 ·exact ⟨s,h.drop j,I1 e f⟩
 ·exact h.frzO k
def LV (e b n:Nat) (v:AV):Prop:=(n=0∧(v=.emp∨v=.own e b 0 0))∨(0<n∧v=.own e b 0 n)
theorem LV.own {e b n:Nat} {v:AV} (h:LV e b n v) (hn:0<n):v=.own e b 0 n:=h.elim (fun h=>by omega) And.right
theorem LV.one {e b n:Nat} {v:AV} (h:LV e b n v):v.one=true:=by rcases h with ⟨_,rfl | rfl⟩ | ⟨_,rfl⟩<;>rfl
theorem LV.of (e b n:Nat):LV e b n (.own e b 0 n):=by
 rcases D7b n with rfl | h
 ·exact .inl ⟨rfl,.inr rfl⟩
 ·exact .inr ⟨h,rfl⟩
theorem OV.lv {e b n:Nat} {v:AV} (h:OV e b n v):LV e b n v:=h.imp (fun h=>⟨h.1,.inl h.2⟩) id
theorem E6.frzL {st s:St} {L:List (Nat×K7)} {j b ty e n:Nat} {f:Nat→AV} {v:AV} (h:E6 st L s) (k:At L j (b,⟨ty,e,n,f⟩)) (hv:LV e b n v):∃ s',E6 st (L.eraseIdx j) s'∧A7 [v] s [.arr e n f] s':=by
 rcases hv with ⟨rfl,rfl | rfl⟩ | ⟨hn,rfl⟩
 ·exact ⟨s,h.drop j,I1 e f⟩
 ·exact h.frzO k
 ·exact h.frzO k
theorem E6.fin {st s:St} {L:List (Nat×K7)} (h:E6 st L s) (vs:List AV):A7 vs s vs st:=h.sup.shift vs
def setL:List (Nat×K7)→Nat→Nat×K7→(List (Nat×K7)→Prop)→Prop
 | [],_,_,k=>k []
 | _::l,0,x,k=>k (x::l)
 | a::l,n+1,x,k=>setL l n x fun l'=>k (a::l')
theorem B0w:∀ (l:List (Nat×K7)) (n:Nat) (x:Nat×K7) (k:List (Nat×K7)→Prop),setL l n x k=k (l.set n x)
 | [],_,_,_=>rfl
 | _::_,0,_,_=>rfl
 | _::l,n+1,x,_=>B0w l n x _
def C3P (v:AV) (o:Nat) (us:List AV) (k:AV→Prop):Prop :=
 match v with
 | .agg cs=>(match Nat.ble (o+us.length) cs.length with | true=>A6V cs o us fun r=>k (.agg r) | false=>False)
 | _=>(match us with | []=>False | u::_=>k u)
theorem B9H {v:AV} {o:Nat} {us:List AV} {k:AV→Prop} (h:C3P v o us k):k (Q1 v o us):=by
 unfold C3P at h
 split at h
 ·split at h
  ·rename_i hb
   rw [A7I _ _ _ _ (by simpa using hb)] at h;exact h
  ·exact h.elim
 ·rename_i hv
  split at h
  ·exact h.elim
  ·unfold Q1
   split
   ·rename_i ds;exact absurd rfl (hv ds)
   ·exact h
theorem E6.has1 {st s:St} {L:List (Nat×K7)} {j b ty e:Nat} {f:Nat→AV} (h:E6 st L s) (hj:At L j (b,⟨ty,e,1,f⟩)):Has s b ⟨ty,e,1,f⟩:=((h.get hj).resolve_left (by show ¬ 1=0;omega)).2
theorem B4w {T:G5} {t:TypeId} {e b i o ty n j:Nat} {st s:St} {L:List (Nat×K7)} {k:KK} {r:C3} {f:Nat→AV} {v:AV} (h:E6 st L s) (hj:At L j (b,⟨ty,e,n,f⟩)) (hr:T t=some r) (hi:i<n) (hv:f i=v)
  (hk:A8N r (cellsOf v) o (fun y=>k y s)):C2e T t e b i o s k:=by
 obtain ⟨_,g,hg,hh⟩:=(h.get hj).resolve_left (by show ¬ n=0;omega)
 exact ldV hg hr hi ((hh i hi).trans hv) hk
theorem C9o {T:G5} {t:TypeId} {e b i o ty n j:Nat} {st s:St} {L:List (Nat×K7)} {k:KK} {r:C3} {f:Nat→AV} {u v:AV} (h:E6 st L s) (hj:At L j (b,⟨ty,e,n,f⟩)) (hr:T t=some r) (hi:i<n) (hv:f i=v)
  (hc:(Nat.blt 0 r.size&&Nat.beq (cellsOf u).length r.size&&(cellsOf u).all AV.one&&Nat.ble (o+r.size) e)=true)
  (hk:C3P v o (cellsOf u) fun w=>setL L j (b,⟨ty,e,n,I3 f i w⟩) fun L'=>∀ s',E6 st L' s'→k (.tuple []) s'):B7g T t e b i o u s k:=by
 obtain ⟨_,g,hg,hh⟩:=(h.get hj).resolve_left (by show ¬ n=0;omega)
 have hk:=B9H hk
 rw [B0w] at hk
 refine stV hg hr hi ((hh i hi).trans hv) hc (hk _ (h.put (y':=⟨ty,e,n,I3 f i _⟩) hj (by show 0<n;omega) fun m hm=>?_))
 by_cases hm':m=i
 ·subst hm';rw [A4];exact (A4 ..).symm
 ·rw [H1 hm',hh m hm];exact (H1 hm').symm
theorem A1H {T:G5} {t:TypeId} {e b o ty j:Nat} {st s:St} {L:List (Nat×K7)} {k:KK} {r:C3} {f:Nat→AV} {u v:AV} (h:E6 st L s) (hj:At L j (b,⟨ty,e,1,f⟩)) (hr:T t=some r) (hv:f 0=v)
  (hc:(Nat.blt 0 r.size&&Nat.beq (cellsOf u).length r.size&&(cellsOf u).all AV.one&&Nat.ble (o+r.size) e)=true)
  (hk:C3P v o (cellsOf u) fun w=>setL L j (b,⟨ty,e,1,fun _=>w⟩) fun L'=>∀ s',E6 st L' s'→k (.tuple []) s'):B7g T t e b 0 o u s k:=by
 obtain ⟨_,g,hg,hh⟩:=(h.get hj).resolve_left (by show ¬ 1=0;omega)
 have hk:=B9H hk
 rw [B0w] at hk
 refine stV hg hr (by show 0<1;omega) ((hh 0 (by show 0<1;omega)).trans hv) hc (hk _ (h.put (y':=⟨ty,e,1,fun _=>_⟩) hj (by show 0<1;omega) fun m hm=>?_))
 obtain rfl:m=0:=by have:m<1:=hm;omega
 exact A4 ..
theorem A1Z {u:AV} (hu:u.one=true):cellsOf u=[u]:=by cases u<;>first | rfl | cases hu
theorem B0t {u:AV} (hu:u.one=true):[u].all AV.one=true:=by simp [hu]
theorem C6a {u:AV} (hu:u.one=true) {r:C3} {o e:Nat} (h1:r.size=1) (ho:o+1≤e):(Nat.blt 0 r.size&&Nat.beq (cellsOf u).length r.size&&(cellsOf u).all AV.one&&Nat.ble (o+r.size) e)=true:=by
 rw [A1Z hu,h1]
 simp [hu,ho,Nat.blt]
theorem C0t {u:AV} {r:C3} {o e:Nat} (h1:(Nat.blt 0 r.size&&Nat.beq (cellsOf u).length r.size&&Nat.ble (o+r.size) e)=true) (h2:(cellsOf u).all AV.one=true):(Nat.blt 0 r.size&&Nat.beq (cellsOf u).length r.size&&(cellsOf u).all AV.one&&Nat.ble (o+r.size) e)=true:=by
 rw [h2,D6w];exact h1
theorem C8k {T:G5} {t:TypeId} {e b o ty j:Nat} {st s:St} {L:List (Nat×K7)} {k:KK} {r:C3} {f:Nat→AV} {u v:AV} (h:E6 st L s) (hj:At L j (b,⟨ty,e,1,f⟩)) (hr:T t=some r) (hv:f 0=v) (h1:r.size=1) (hu:u.one=true) (ho:o+1≤e)
  (hk:C3P v o [u] fun w=>setL L j (b,⟨ty,e,1,fun _=>w⟩) fun L'=>∀ s',E6 st L' s'→k (.tuple []) s'):B7g T t e b 0 o u s k :=
 A1H h hj hr hv (C6a hu h1 ho) (by rw [A1Z hu];exact hk)
theorem B6c {T:G5} {t:TypeId} {st s:St} {L:List (Nat×K7)} {k:KK} {r q:C3} {el e j b n m:Nat} {f g f':Nat→AV} {sv x:AV} (h:E6 st L s) (hv:OV e b n sv) (hj:At L j (b,⟨el,e,n,f⟩)) (hr:T t=some r) (hd:r.desc=.slice el) (hq:T el=some q) (he:q.size=e)
  (hz:(Nat.blt 0 q.size&&Nat.blt 0 q.bytes&&Nat.beq q.zero.cells.size q.size)=true) (hs:A0g e s x=some (m,g)) (hb:(n+m) * q.bytes≤140737488355328) (hf:∀ k,k<n+m→(if k<n then f k else g (k - n))=f' k)
  (hk:∀ sv' b',OV e b' (n+m) sv'→setL L j (b',⟨el,e,n+m,f'⟩) fun L'=>∀ s',E6 st L' s'→k sv' s'):A5A T t sv x s k:=by
 subst he
 have hk:∀ sv' b' s',OV q.size b' (n+m) sv'→E6 st (L.set j (b',⟨el,q.size,n+m,f'⟩)) s'→k sv' s':=fun sv' b' s' h1 h2=>by have:=hk sv' b' h1;rw [B0w] at this;exact this s' h2
 have h0:m=0→k sv s:=fun hm=>by
  subst hm
  exact hk sv b s hv (h.as f' hj fun i hi=>by have:=hf i hi;rwa [if_pos (show i<n from hi)] at this)
 rcases hv with ⟨rfl,rfl⟩ | ⟨hn,rfl⟩
 ·refine apE hr hd hq hz hs (by simpa using hb) h0 fun hm b' hb'=>?_
  refine hk _ b' _ (.inr ⟨by omega,by rw [D5R]⟩) (E6.chg (h.sup.upd hb') (h.sup.none hb') ⟨g,by rw [A0,D5R],fun i hi=>?_⟩ (fun c z _ hc=>?_) h hj)
  ·have:=hf i hi;rw [if_neg (by omega)] at this;simpa using this
  ·have hne:c≠b':=fun e=>by subst e;rw [hb'] at hc;cases hc
   exact ⟨(A9 hne).trans hc,hne⟩
 ·obtain ⟨hst,y,hy,hh⟩:=(h.get hj).resolve_left (by show ¬ n=0;omega)
  refine apO hr hd hq hz hs hy rfl rfl rfl hb h0 fun hm b' hb'=>?_
  have hst':st b'=none:=hb'.elim (fun e=>e▸hst) h.sup.none
  refine hk _ b' _ (.inr ⟨by omega,rfl⟩) (E6.chg ((h.sup.del hst).over hst') hst' ⟨_,A0 ..,fun i hi=>?_⟩ (fun c z hc hcz=>?_) h hj)
  ·show (if i<n then y i else _)=f' i
   rw [←hf i hi]
   split
   ·rename_i hin;exact hh i hin
   ·rfl
  ·have hcb:c≠b:=hc.resolve_left (by show ¬ n=0;omega)
   have hne:c≠b':=fun e=>by
    subst e
    rcases hb' with e | e
    ·exact hcb e
    ·rw [e] at hcz;cases hcz
   exact ⟨(A9 hne).trans (by unfold del;rw [if_neg hcb];exact hcz),hne⟩
theorem D3a {T:G5} {t:TypeId} {kk kk':IntKind} {n:Nat} {st s:St} {L:List (Nat×K7)} {k:KK} {r q:C3} {el e:Nat} (h:E6 st L s) (hr:T t=some r) (hd:r.desc=.slice el) (hq:T el=some q) (he:q.size=e)
  (hb:q.bytes * n≤281474976710656) (hn:n≤281474976710656) (hz:(Nat.beq q.zero.cells.size q.size&&(cellsOf (H2 q.zero)).all AV.one)=true)
  (hk:∀ b s',E6 st ((b,⟨el,e,n,fun _=>H2 q.zero⟩)::L) s'→k (.own e b 0 n) s'):xMk T t (.int kk (n:Int)) (.int kk' (n:Int)) s k:=by
 subst he
 exact mkO hr hd hq hb hn hz fun b hb'=>hk b _ (h.new hb' _)
theorem E6.up {st s s':St} {L:List (Nat×K7)} (h:E6 st L s) (hS:E8 s s'):E6 st L s':=h.frame (h.sup.trans hS) fun j p hp=>(h.get hp).imp id fun ⟨_,g,hg,_⟩=>(hS _ _ hg).trans hg.symm
theorem E6.got {st s s':St} {L:List (Nat×K7)} {b:Nat} {y:K7} (h:E6 st L s) (hb:s b=none) (hS:E8 s s') (hH:Has s' b y):E6 st ((b,y)::L) s':=⟨.inr ⟨h.sup.none hb,hH,h.other hb⟩,h.up hS⟩
theorem At.of_append {α : Type}:∀ {L M:List α} {j:Nat} {p : α},At (L++M) j p→(∃ i,At L i p)∨∃ i,At M i p
 | [],_,_,_,h=>.inr ⟨_,h⟩
 | _::_,_,_,_,.z=>.inl ⟨_,.z⟩
 | _::_,_,_,_,.s h=>(At.of_append h).imp (fun ⟨_,h⟩=>⟨_,.s h⟩) id
theorem E6.trans {st s s':St} {L:List (Nat×K7)} (h:E6 st L s):∀ {M:List (Nat×K7)},E6 s M s'→E6 st (M++L) s'
 | [],k=>h.up k
 | x::M,k=>by
  refine ⟨k.1.imp id fun ⟨h1,h2,h3⟩=>⟨h.sup.none h1,h2,fun j p hp=>?_⟩,h.trans k.2⟩
  rcases At.of_append hp with ⟨i,hi⟩ | ⟨i,hi⟩
  ·exact h3 i p hi
  ·exact h.other h1 i p hi
theorem B4x (st:St):E6 st [] st:=E8.refl st
theorem E6.has {st s:St} {L:List (Nat×K7)} {j b:Nat} {y:K7} (h:E6 st L s) (hj:At L j (b,y)) (hn:0<y.n):Has s b y:=((h.get hj).resolve_left (by show ¬ y.n=0;omega)).2
theorem quT {v:AV} {s:St} {Q:AV→St→Prop} {K:AV→(St→Prop)→Prop} (hQ:∀ s',Q v s') (hk:K v fun _=>True):∃ (v:AV) (C:St→Prop),C s∧(∀ s',C s'→Q v s')∧K v C:=⟨v,_,trivial,fun s' _=>hQ s',hk⟩
theorem quL {v:AV} {s:St} {Q:AV→St→Prop} {K:AV→(St→Prop)→Prop} {b:Nat} {y:K7} (hC:Has s b y) (hQ:∀ s',Has s' b y→Q v s') (hk:K v fun u=>Has u b y):∃ (v:AV) (C:St→Prop),C s∧(∀ s',C s'→Q v s')∧K v C:=⟨v,_,hC,hQ,hk⟩
theorem S4 {T:G5} {t:TypeId} {e b i o ty n:Nat} {s:St} {k:KK} {r:C3} {f:Nat→AV} {x:AV} (h:Has s b ⟨ty,e,n,f⟩) (hr:T t=some r) (hi:i<n) (hv:f i=x) (hk:A8N r (cellsOf x) o (fun y=>k y s)):C2e T t e b i o s k:=by
 obtain ⟨g,hg,hh⟩:=h
 exact ldV hg hr hi ((hh i hi).trans hv) hk
end Go.Ab
namespace Go.Proofs.YtaapofnkmpiknaaGreat
open Go Go.Ab
attribute [local irreducible] upd del
def B9m (v:B7k):AV:=.agg [B0 v.goods,B0 v.taxes,eI v.ship,eI v.shipTax]
def A0e (nets taxes:List Int) (j k:Nat):Int:=if k<j then gI nets k - gI taxes k else gI nets k
set_option maxHeartbeats 8000000 in
theorem C6p {t:Tax} {z:K5} {s:C8} {cats:List C8} {nets:List Int} {ship:Int} (h:A2z t z cats nets ship) (hsm:B2V t) (hz:Z6 t.zones s=some z) (exempt:Bool) (st:St) :
  S P 117 [S8 t,eS s,eB exempt,C9 cats,B0 nets,eI ship] st fun v st' =>
   v=.tuple [B9m (L5 t z exempt cats nets ship),eI 0]∧st'=st:=by
 obtain ⟨hr1,hr2⟩:=A3x h
 obtain ⟨t1,t2⟩:=A6s (t:=t) h.nets hr1 hr2
 obtain ⟨l1,l2⟩:=B3L h.tax
 have hzm:z∈t.zones:=D8c hz
 have hzr:=l2 z hzm
 have hn:=h.nets.len
 have hns:=h.nets.sum
 have hnp:=h.nets.pos
 have hcl:=h.cats
 have hq:=(A4F h.zone).2.1
 have hm:=A2V (t:=t) h.ship.1 hq
 have hs:=h.ship
 have hT:∀ s,S P 135 [S8 t] s fun v st'=>v=.bool true∧st'=s:=fun s=>by
  have:=C4a t hsm s
  rw [h.tax] at this;exact this
 have hZ:∀ st,S P 166 [S8 t,eS s] st fun v st'=>v=.tuple [T4 z,.bool true]∧st'=st:=fun st=>by
  have:=C1r t s (by omega) st
  rw [hz] at this;exact this
 have hR':=fun c st=>C1q z c (by omega) st
 have hU:=fun st=>B4O t ship z.ship hq st
 have hL:L5 t z exempt cats nets ship=⟨(List.range nets.length).map (Z0 t (K9 t (cats.map (F0 z)) nets) nets),if exempt=true then List.replicate nets.length 0 else K9 t (cats.map (F0 z)) nets,if t.incl=true then ship - N8 t ship z.ship else ship,if exempt=true then 0 else N8 t ship z.ship⟩:=rfl
 rw [hL]
 have hnx:∀ i,i<nets.length→0≤gI nets i∧gI nets i≤10000000000000:=fun i hi=>by
  have h1:=h.nets.pos _ (show gI nets i∈nets from A6 hi)
  have h2:=J3 h.nets.pos (show gI nets i∈nets from A6 hi)
  exact ⟨h1,by omega⟩
 have htx:∀ i,i<nets.length→0≤gI (K9 t (cats.map (F0 z)) nets) i∧gI (K9 t (cats.map (F0 z)) nets) i≤10000000000000:=fun i hi=>t2 _ (A6 (by omega))
 obtain ⟨MS,hMS⟩:∃ MS,MS=N8 t ship z.ship:=⟨_,rfl⟩
 obtain ⟨TX,hTX⟩:∃ TX,TX=K9 t (cats.map (F0 z)) nets:=⟨_,rfl⟩
 rw [←hMS] at hm hU ⊢
 rw [←hTX] at t1 htx ⊢
 obtain ⟨SH,hSH⟩:∃ SH,SH=if t.incl=true then ship - MS else ship:=⟨_,rfl⟩
 rw [←hSH]
 clear t2 hL
 refine S.post (post:=fun v s=>∃ gv tv bg bt,v=.tuple [.agg [gv,tv,eI SH,eI (if exempt=true then 0 else MS)],eI 0]∧LV 1 bg nets.length gv∧LV 1 bt nets.length tv ∧
   E6 st [(bt,⟨2,1,nets.length,fun k=>eI (gI (if exempt=true then List.replicate nets.length 0 else TX) k)⟩),(bg,⟨2,1,nets.length,fun k=>eI (gI ((List.range nets.length).map (Z0 t TX nets)) k)⟩)] s) ?_
  (fun v s ⟨gv,tv,bg,bt,h1,h2,h3,h4⟩=>by
   obtain ⟨s1,h5,h6⟩:=h4.frzL (.s .z) h2
   obtain ⟨s2,h7,h8⟩:=h5.frzL .z h3
   rw [show AV.arr 1 nets.length _=B0 ((List.range nets.length).map (Z0 t TX nets)) by unfold B0 A8;rw [D5H,D6c]] at h6
   rw [show AV.arr 1 nets.length _=B0 (if exempt=true then List.replicate nets.length 0 else TX) by unfold B0 A8;rw [show (if exempt=true then List.replicate nets.length 0 else TX).length=nets.length by cases exempt<;>simp [t1]]] at h8
   refine ⟨_,st,⟨rfl,rfl⟩,?_⟩
   rw [h1]
   exact (A7.tuple (A7.cons (A7.agg (A7.cons h6 (A7.cons h8 (A7.keep _ _)))) (A7.keep _ _)) rfl).trans (h7.fin _))
 refine A8Q [6] B4k mixed Tryz.func117 (by rfl) rfl rfl rfl ?_;conv=>whnf
 intro b12 hb12
 generalize hs:(upd st b12 _:St)=w
 have h9:=E6.new' hs (B4x st) hb12
 clear hs hb12
 have d1:((nets.length:Int) != (nets.length:Int))=false:=bne_self_eq_false _
 have d2:decide ((nets.length:Int)>1000)=false:=D5J (by omega)
 have d3:decide (ship<0)=false:=D5J (by omega)
 have d4:decide (ship>10000000000000)=false:=D5J (by omega)
 repeat' ((conv=>whnf);first | refine B3 (hT _) ?_ | rw [hcl,d1] | rw [d2] | rw [d3] | rw [d4] | fail)
 conv=>whnf
 refine lp nets.length [1,2,3,4,5,6,12,14,15] (fun i vs u=>vs=[eS s,eB exempt,C9 cats,B0 nets,eI ship,.fptr (S8 t) 0,.optr 4 b12 0 0,eI (A2 (nets.take i)),eI i]∧u=w) ?_ ?_
 ·conv=>whnf
  exact ⟨rfl,rfl⟩
 rintro i vs u hi ⟨rfl,rfl⟩
 conv=>whnf
 cases h1:decide ((i:Int)<(nets.length:Int))
 case true =>
  have hi':=D8 h1
  have hx:0≤gI nets (i:Int).toNat:=hnp _ (A6 hi')
  have hs1:=N1 hnp (i+1)
  have hs2:0≤A2 (nets.take i):=C1 fun x hx=>hnp x (D8B hx)
  have hst:A2 (nets.take (i+1))=A2 (nets.take i)+gI nets (i:Int).toNat:=L1 hi'
  have d5:decide (gI nets (i:Int).toNat<0)=false:=D5J (by omega)
  have hw1:IntKind.i64.wrap (10000000000000 - A2 (nets.take i))=10000000000000 - A2 (nets.take i):=A5 (by omega) (by omega)
  have d6:decide (gI nets (i:Int).toNat>10000000000000 - A2 (nets.take i))=false:=D5J (by omega)
  have hw2:IntKind.i64.wrap (A2 (nets.take i)+gI nets (i:Int).toNat)=A2 (nets.take (i+1)):=(A5 (by omega) (by omega)).trans hst.symm
  change decide (nets.getD (i:Int).toNat default<0)=false at d5
  change decide (nets.getD (i:Int).toNat default>10000000000000 - A2 (nets.take i))=false at d6
  repeat' ((conv=>whnf);first | refine ⟨rfl,⟨by omega,by omega⟩,?_⟩ | rw [d5] | rw [hw1,d6] | rw [hw2] | fail)
  refine F7 ?_
  exact nx hi' ⟨by rw [B4 (by omega)],rfl⟩
 obtain rfl:=C4 h1 hi
 conv=>whnf
 refine I5 (hZ _) ?_
 intro b16 hb16;conv=>whnf
 generalize hs:(upd u b16 _:St)=w
 have h9:=E6.new' hs h9 hb16
 clear hs hb16
 refine A1H h9 .z rfl rfl (by rfl) ?_;conv=>whnf
 intro w h9
 have h9:=h9.soft 0 2 1 (fun k=>eI (A0e nets TX 0 k))
 conv=>whnf
 refine .inr ⟨[2,10,11],.qui 0 (.qui 1 (.qui 3 (.qui 4 (.qui 5 (.qui 6 (.qui 7 (.two 2 10 [4,7] [0,4,7] (.qui 8 (.qui 9 (.eff 10 [0,4,7,8] (.eff 11 [] (.done))))) (.eff 2 [4,7] (.qui 8 (.qui 9 (.eff 11 [] (.done)))))))))))),by kernel_rfl,?_⟩
 have hb:=h9.has1 (.s .z)
 repeat' ((conv=>whnf);first | refine quT (fun _=>⟨rfl,rfl⟩) ?_ | refine quL hb (fun _ hs=>S4 hs rfl Nat.one_pos rfl ⟨rfl,rfl⟩) ?_ | fail)
 refine ⟨?A,?B⟩
 case' A =>
  conv=>whnf
  refine B6c (q:=r2) (m:=nets.length) (g:=fun k=>eI (gI nets k)) h9 (OV.nil 1 0) .z rfl rfl rfl rfl (by rfl) (A2K ..) (f':=fun k=>eI (A0e nets TX 0 k)) (by show (0+nets.length) * 8≤140737488355328;omega) (fun i _=>by unfold A0e;rw [if_neg (by omega),if_neg (by omega)];rfl) (fun gv bg hg=>?_);conv=>whnf
  intro w h9
  rw [D5R nets.length] at hg h9
  have hb:=h9.has1 (.s .z)
  have e1:=A1Z hg.one
  have e2:=B0t hg.one
  repeat' ((conv=>whnf);first | refine ⟨fun _=>trivial,?_⟩ | refine ⟨fun _=>hb,?_⟩ | refine quT (fun s=>H0 (hU s)) ?_ | rw [e1] | rw [e2] | fail)
  conv=>whnf
  intro b18 hb18
  generalize hs:(upd w b18 _:St)=w2
  have h9:=E6.new' hs h9 hb18
  clear hs hb18
  have hb:=h9.has1 (.s (.s .z))
  repeat' ((conv=>whnf);first | refine ⟨fun _=>trivial,?_⟩ | refine ⟨fun _=>hb,?_⟩ | fail)
 case' B =>
  conv=>whnf
  intro b18 hb18
  generalize hs:(upd w b18 _:St)=w2
  have h9:=E6.new' hs h9 hb18
  clear hs hb18
  have hb:=h9.has1 (.s (.s .z))
  repeat' ((conv=>whnf);first | refine ⟨fun _=>trivial,?_⟩ | refine ⟨fun _=>hb,?_⟩ | fail)
  conv=>whnf
  refine B6c (q:=r2) (m:=nets.length) (g:=fun k=>eI (gI nets k)) h9 (OV.nil 1 0) (.s .z) rfl rfl rfl rfl (by rfl) (A2K ..) (f':=fun k=>eI (A0e nets TX 0 k)) (by show (0+nets.length) * 8≤140737488355328;omega) (fun i _=>by unfold A0e;rw [if_neg (by omega),if_neg (by omega)];rfl) (fun gv bg hg=>?_);conv=>whnf
  intro w2 h9
  rw [D5R nets.length] at hg h9
  have hb:=h9.has1 (.s (.s .z))
  have e1:=A1Z hg.one
  have e2:=B0t hg.one
  repeat' ((conv=>whnf);first | refine ⟨fun _=>trivial,?_⟩ | refine ⟨fun _=>hb,?_⟩ | refine quT (fun s=>H0 (hU s)) ?_ | rw [e1] | rw [e2] | fail)
 all_goals
  conv=>whnf
  refine A1H h9 .z rfl rfl (by show (_&&_&&(gv.one&&_)&&_)=true;rw [hg.one];rfl) ?_;conv=>whnf
  intro w3 h9;conv=>whnf
  clear hb e1 e2
  refine lp nets.length [2,3,4,5,6,12,16,18,19,20] (fun i vs u=>∃ sv bs tv bt,vs=[eB exempt,C9 cats,B0 nets,eI ship,.fptr (S8 t) 0,.optr 4 b12 0 0,.optr 4 b16 0 0,.optr 4 b18 0 0,sv,eI i]∧OV 1 bs i sv∧OV 1 bt i tv ∧
   E6 st [(bs,⟨2,1,i,fun k=>eI (gI (cats.map (F0 z)) k)⟩),(bt,⟨2,1,i,fun k=>eI (gI (X1 t (cats.map (F0 z)) nets) k)⟩),(b18,⟨175,4,1,fun _=>.agg [gv,tv,eI ship,eI MS]⟩),(bg,⟨2,1,nets.length,fun k=>eI (A0e nets TX 0 k)⟩),(b16,⟨103,4,1,fun _=>T4 z⟩),(b12,⟨175,4,1,fun _=>H2 C6j.zero⟩)] u) ?_ ?_
  ·conv=>whnf
   exact ⟨_,0,_,0,rfl,OV.nil ..,OV.nil ..,(h9.soft ..).soft ..⟩
  clear h9
  rintro i vs u hi ⟨sv,bs,tv,bt,rfl,hsv,htv,h9⟩
  have hb16:=h9.has1 (.s (.s (.s (.s .z))))
  conv=>whnf
  cases h1:decide ((i:Int)<(nets.length:Int))
  case true =>
   have hi':=D8 h1
   have hRi:=fun st=>hR' (cats.getD (i:Int).toNat default) st
   have hgR:gI (cats.map (F0 z)) i=F0 z (cats.getD (i:Int).toNat default):=D4 (F0 z) cats (by omega)
   have hgL:gI (X1 t (cats.map (F0 z)) nets) i=N8 t (gI nets i) (gI (cats.map (F0 z)) i):=by
    unfold X1;unfold gI
    rw [D5C,D6B,D7h hi'];rfl
   have hrt:0≤F0 z (cats.getD (i:Int).toNat default)∧F0 z (cats.getD (i:Int).toNat default)≤10000:=B6y h.zone _
   have hU2:=fun st=>B4O t (gI nets (i:Int).toNat) (F0 z (cats.getD (i:Int).toNat default)) hrt st
   rw [hgR] at hgL
   generalize F0 z (cats.getD (i:Int).toNat default)=RT at hRi hgR hgL hU2
   conv=>whnf
   refine .inl ⟨[7,8],[],List.range 10,by kernel_rfl,?_⟩
   repeat' ((conv=>whnf);first | refine S4 hb16 rfl Nat.one_pos rfl ?_ | refine ⟨rfl,⟨by omega,by omega⟩,?_⟩ | refine ⟨_,H0 (hRi _),?_⟩ | fail)
   conv=>whnf
   refine B6c (q:=r2) (m:=1) (g:=fun j=>[eI RT].getD j AV.junk) h9 hsv .z rfl rfl rfl rfl (by rfl) rfl (f':=fun k=>eI (gI (cats.map (F0 z)) k)) (by show (i+1) * 8≤140737488355328;omega) (fun k hk=>?_) (fun sv bs hsv=>?_)
   ·split
    ·rfl
    ·rw [show k=i by omega,Nat.sub_self,hgR];rfl
   conv=>whnf
   intro w h9;conv=>whnf
   obtain rfl:=hsv.own (Nat.succ_pos i)
   have hb18:=h9.has1 (.s (.s .z))
   have hbs:=h9.has .z (Nat.succ_pos i)
   refine .inr ⟨[12,13,15],.qui 0 (.qui 1 (.qui 2 (.qui 3 (.qui 4 (.qui 5 (.qui 6 (.qui 7 (.qui 8 (.qui 9 (.qui 10 (.qui 11 (.eff 12 [1] (.eff 13 [] (.qui 14 (.eff 15 [] (.done)))))))))))))))),by kernel_rfl,?_⟩
   repeat' ((conv=>whnf);first | refine quT (fun _=>⟨rfl,rfl⟩) ?_ | refine quL hb18 (fun _ hs=>S4 hs rfl Nat.one_pos rfl ⟨rfl,rfl⟩) ?_ | refine ⟨rfl,⟨by omega,by omega⟩,?_⟩ | refine quL hbs (fun _ hs=>S4 hs rfl (show 0+(i:Int).toNat<i+1 by omega) (x:=eI RT) (by show eI (gI _ (0+(i:Int).toNat))=_;rw [show 0+(i:Int).toNat=i by omega,hgR]) ⟨rfl,rfl⟩) ?_ | refine quT (fun s=>H0 (hU2 s)) ?_ | refine ⟨fun h=>h,?_⟩ | fail)
   conv=>whnf
   refine B6c (q:=r2) (m:=1) (g:=fun j=>[eI (N8 t (gI nets i) RT)].getD j AV.junk) h9 htv (.s .z) rfl rfl rfl rfl (by rfl) rfl (f':=fun k=>eI (gI (X1 t (cats.map (F0 z)) nets) k)) (by show (i+1) * 8≤140737488355328;omega) (fun k hk=>?_) (fun tv bt htv=>?_)
   ·split
    ·rfl
    ·rw [show k=i by omega,Nat.sub_self,hgL];rfl
   conv=>whnf
   intro w h9;conv=>whnf
   refine C8k h9 (.s (.s .z)) rfl rfl rfl htv.one (by decide) ?_;conv=>whnf
   intro w h9;conv=>whnf
   refine F7 ?_
   exact nx hi' ⟨_,_,_,_,by rw [B4 (by omega)],hsv,htv,h9⟩
  obtain rfl:=C4 h1 hi
  clear hb16
  conv=>whnf
  cases hbo:t.byOrder
  case' false =>
   have e0:TX=X1 t (cats.map (F0 z)) nets:=by rw [hTX];exact if_neg (by rw [hbo];simp)
   rw [←e0] at h9
   replace htv:=htv.lv
   replace h9:=h9.drop 0
  case' true =>
   have e0:TX=G6 t (cats.map (F0 z)) nets:=by rw [hTX];exact if_pos hbo
   obtain ⟨w,h9,hsh⟩:=h9.frz .z hsv
   rw [show AV.arr 1 nets.length _=B0 (cats.map (F0 z)) by unfold B0 A8;rw [hr1]] at hsh;conv=>whnf
   refine F3 (args':=[S8 t,B0 (cats.map (F0 z)),B0 nets]) (A7.cons (A7.keep _ _) (A7.cons hsh (A7.keep _ _))) (call (B6z t _ nets h.nets hr1 hr2 _) (fun v w2 hv=>?_))
   obtain ⟨bt,rfl,hbt0,⟨y,⟨f,rfl,hf⟩,hbt1⟩,hsup⟩:=hv
   rw [←e0,t1] at hbt1 hf
   replace h9:=h9.got (y:=⟨2,1,nets.length,fun k=>eI (gI TX k)⟩) hbt0 hsup ⟨f,hbt1,hf⟩
   conv=>whnf
   refine A1H h9 (.s (.s .z)) rfl rfl (by rfl) ?_;conv=>whnf
   intro w h9
   replace h9:=h9.drop 1
   replace htv:=LV.of 1 bt nets.length
   generalize AV.own 1 bt 0 nets.length=tv at *
  all_goals
   dsimp only [List.eraseIdx] at h9
   conv=>whnf
   refine lp nets.length [2,4,5,6,12,18,21] (fun j vs u=>vs=[eB exempt,B0 nets,eI ship,.fptr (S8 t) 0,.optr 4 b12 0 0,.optr 4 b18 0 0,eI j]∧(t.incl=false→j=0) ∧
    E6 st [(bt,⟨2,1,nets.length,fun k=>eI (gI TX k)⟩),(b18,⟨175,4,1,fun _=>.agg [gv,tv,eI ship,eI MS]⟩),(bg,⟨2,1,nets.length,fun k=>eI (A0e nets TX j k)⟩),(b16,⟨103,4,1,fun _=>T4 z⟩),(b12,⟨175,4,1,fun _=>H2 C6j.zero⟩)] u) ?_ ?_
   ·conv=>whnf
    exact ⟨rfl,fun _=>rfl,h9⟩
   clear h9
   rintro j vs u hj ⟨rfl,hj0,h9⟩
   conv=>whnf
   cases h5:decide ((j:Int)<(nets.length:Int))<;>cases hin:t.incl
   case' true.true =>
    have hj5:=D8 h5
    obtain rfl:=hg.own (by omega)
    obtain rfl:=htv.own (by omega)
    have hb18:=h9.has1 (.s .z)
    have hbt:=h9.has .z (show 0<nets.length by omega)
    have hbg:=h9.has (.s (.s .z)) (show 0<nets.length by omega)
    have hx1:=hnx j hj5
    have hx2:=htx j hj5
    have hw:IntKind.i64.wrap (gI nets (j:Int).toNat - gI TX (j:Int).toNat)=gI nets j - gI TX j:=A5 (by show _≤gI nets j - gI TX j;omega) (by show gI nets j - gI TX j≤_;omega)
    conv=>whnf
    rw [hin];conv=>whnf
    refine .inl ⟨[14],[],List.range 15,by kernel_rfl,?_⟩
    repeat' ((conv=>whnf);first | refine S4 hb18 rfl Nat.one_pos rfl ?_ | refine ⟨rfl,⟨by omega,by omega⟩,?_⟩ | refine S4 hbt rfl (show 0+(j:Int).toNat<nets.length by omega) (x:=eI (gI TX (j:Int).toNat)) (by show eI (gI TX (0+(j:Int).toNat))=_;rw [D5R]) ?_ | rw [hw] | fail)
    conv=>whnf
    refine C9o h9 (.s (.s .z)) rfl (show 0+(j:Int).toNat<nets.length by omega) rfl (by rfl) ?_;conv=>whnf
    intro w h9;conv=>whnf
    refine F7 ?_
    refine nx hj5 ⟨by rw [B4 (by omega)],fun e=>(by cases e),h9.as (fun k=>eI (A0e nets TX (j+1) k)) (.s (.s .z)) fun k hk=>?_⟩
    show I3 (fun k=>eI (A0e nets TX j k)) (0+(j:Int).toNat) (eI (gI nets j - gI TX j)) k=eI (A0e nets TX (j+1) k)
    rw [show 0+(j:Int).toNat=j by omega]
    by_cases e:k=j
    ·subst e;rw [A4];unfold A0e;rw [if_pos (by omega)]
    ·rw [H1 e];unfold A0e
     by_cases hh:k<j
     ·rw [if_pos hh,if_pos (by omega)]
     ·rw [if_neg hh,if_neg (by omega)]
   all_goals
    have hx:∀ k,k<nets.length→eI (A0e nets TX j k)=eI (gI ((List.range nets.length).map (Z0 t TX nets)) k):=fun k hk=>by
     rw [show gI ((List.range nets.length).map (Z0 t TX nets)) k=Z0 t TX nets k by unfold gI;simp [D5C,hk]]
     unfold A0e Z0
     rcases (by first | exact .inl ⟨hin,C4 h5 hj⟩ | exact .inr ⟨hin,hj0 hin⟩:(t.incl=true∧j=nets.length)∨(t.incl=false∧j=0)) with ⟨e,rfl⟩ | ⟨e,rfl⟩
     ·rw [if_pos hk,if_pos e]
     ·rw [if_neg (by omega),if_neg (by rw [e];simp)]
    replace h9:=h9.as (fun k=>eI (gI ((List.range nets.length).map (Z0 t TX nets)) k)) (.s (.s .z)) hx
    dsimp only [List.set] at h9
   case' false.true =>
    have hwS:IntKind.i64.wrap (ship - MS)=SH:=by rw [hSH,if_pos hin];exact A5 (by omega) (by omega)
    repeat' ((conv=>whnf);first | rw [hin] | refine B4w h9 (.s .z) rfl Nat.one_pos rfl ?_ | fail)
    conv=>whnf
    rw [hwS]
    refine A1H h9 (.s .z) rfl rfl (by rfl) ?_;conv=>whnf
    intro w h9
   case' false.false=>obtain rfl:SH=ship:=by rw [hSH,if_neg (by rw [hin];simp)]
   case' true.false=>obtain rfl:SH=ship:=by rw [hSH,if_neg (by rw [hin];simp)]
   all_goals
    repeat' ((conv=>whnf);first | rw [hin] | fail)
    conv=>whnf
    cases exempt
    case' true =>
     conv=>whnf
     refine D3a (e:=1) h9 rfl rfl rfl rfl (by show 8 * nets.length≤_;omega) (by omega) (by rfl) (fun bz w h9=>?_)
     replace h9:=h9.as (fun k=>eI (gI (List.replicate nets.length 0) k)) .z fun k _=>by unfold gI;rw [B7h];rfl
     conv=>whnf
     refine A1H h9 (.s (.s .z)) rfl rfl (by rfl) ?_;conv=>whnf
     intro w h9;conv=>whnf
     refine A1H h9 (.s (.s .z)) rfl rfl (by rfl) ?_;conv=>whnf
     intro w h9
     replace h9:=h9.drop 1
     replace htv:=LV.of 1 bz nets.length
     generalize AV.own 1 bz 0 nets.length=tv at *
     dsimp only [List.eraseIdx] at h9
    all_goals
     conv=>whnf
     refine B4w h9 (.s .z) rfl Nat.one_pos rfl ?_;conv=>whnf
     refine A1H h9 (.s (.s (.s (.s .z)))) rfl rfl (by show (_&&_&&(gv.one&&(tv.one&&_))&&_)=true;rw [hg.one,htv.one];rfl) ?_;conv=>whnf
     intro w h9;conv=>whnf
     refine B4w h9 (.s (.s (.s (.s .z)))) rfl Nat.one_pos rfl ?_;conv=>whnf
     exact ⟨gv,tv,bg,_,rfl,hg.lv,htv,((h9.drop 4).drop 3).drop 1⟩
theorem B0v (l:List Int) (h:K2 l) (st:St):S P 118 [B0 l] st fun v st'=>v=eI (A2 l)∧st'=st:=by
 have hn:=h.len
 refine F2 [] Tryz.func118 ?_
 refine lp l.length [0,3,4] (fun i vs t=>vs=[B0 l,eI (A2 (l.take i)),eI i]∧t=st) ?_ ?_
 ·conv=>whnf
  exact ⟨rfl,rfl⟩
 ·rintro i vs t hi ⟨rfl,rfl⟩
  conv=>whnf
  cases h1:decide ((i:Int)<(l.length:Int))
  ·obtain rfl:=C4 h1 hi
   rw [D5N];conv=>whnf
   exact ⟨rfl,rfl⟩
  ·have hi':=D8 h1
   have hs:IntKind.i64.wrap (A2 (l.take i)+gI l (i:Int).toNat)=A2 (l.take (i+1)):=h.step hi'
   conv=>whnf
   refine E7 ?_
   rw [hs]
   refine F7 ?_
   exact nx hi' ⟨by rw [B4 (by omega)],rfl⟩
theorem C6t (q:Z1) (h1:K2 q.goods) (h2:K2 q.taxes) (st:St):S P 82 [A0a q] st fun v st'=>v=A5q (U6 q)∧st'=st:=by
 have c1:=fun s=>B0v q.goods h1 s
 have c2:=fun s=>B0v q.taxes h2 s
 have hB:U6 q=⟨A2 q.goods,A2 q.taxes,q.ship,q.shipTax,0⟩:=rfl
 rw [hB]
 generalize A2 q.goods=G at c1 ⊢
 generalize A2 q.taxes=T' at c2 ⊢
 refine A1S ?_
 refine F2 [1] Tryz.func82 ?_
 intro b2 hb;conv=>whnf
 refine ⟨[11],[],List.range 12,by kernel_rfl,?_⟩;conv=>whnf
 refine cqW (c1 _) ?_
 refine cqW (c2 _) ?_
 refine Y9 (A0 ..) rfl ?_
 refine J0 (A0 ..) (A4 ..) ?_
 exact ⟨rfl,((E8.refl st).upd hb).over hb⟩
theorem So.book (b:A4H):So (A5q b) (A5q b):=So.agg (.cons (So.int _ _) (.cons (So.int _ _) (.cons (So.int _ _) (.cons (So.int _ _) (.cons (So.int _ _) .nil)))))
set_option maxHeartbeats 8000000 in
theorem C3Y {r:G7} {codes:List C8} {l:List E4} {Pr:A3R} {z:K5} {zone:C8} (exempt:Bool)
  (hP:∀ st,S P 115 [H3 r,C9 codes,A8 3 H6 l] st fun v s=>v=.tuple [A1c Pr,eI 0]∧s=st)
  (hI:∀ st,S P 116 [A8 4 E5 r.items,A8 3 H6 l] st fun v s=>v=A8 4 E5 (C2 r.items l)∧s=st)
  (hln:l.length≤1000) (hV:A2z r.tax z (N2 r l) Pr.nets Pr.ship) (hsm:B2V r.tax) (hz:Z6 r.tax.zones zone=some z) (st:St) :
  S P 56 [H3 r,eS zone,eB exempt,C9 codes,A8 3 H6 l] st fun v st'=>v=.tuple [A0a (A9v r z exempt l Pr),eI 0]∧st'=st:=by
 have hQ:=B0r hV exempt Pr.deals
 have hlv:=fun s=>C6p hV hsm hz exempt s
 have hq:A9v r z exempt l Pr=⟨(L5 r.tax z exempt (N2 r l) Pr.nets Pr.ship).goods,(L5 r.tax z exempt (N2 r l) Pr.nets Pr.ship).taxes,(L5 r.tax z exempt (N2 r l) Pr.nets Pr.ship).ship,(L5 r.tax z exempt (N2 r l) Pr.nets Pr.ship).shipTax,A2 (L5 r.tax z exempt (N2 r l) Pr.nets Pr.ship).goods+A2 (L5 r.tax z exempt (N2 r l) Pr.nets Pr.ship).taxes+(L5 r.tax z exempt (N2 r l) Pr.nets Pr.ship).ship+(L5 r.tax z exempt (N2 r l) Pr.nets Pr.ship).shipTax,Pr.deals⟩:=rfl
 rw [hq]
 obtain ⟨q1,q2,q3,q4,q5,q6,q7,_⟩:=hQ
 have q1:K2 (L5 r.tax z exempt (N2 r l) Pr.nets Pr.ship).goods:=q1
 have q2:K2 (L5 r.tax z exempt (N2 r l) Pr.nets Pr.ship).taxes:=q2
 have q6:0≤(L5 r.tax z exempt (N2 r l) Pr.nets Pr.ship).ship∧(L5 r.tax z exempt (N2 r l) Pr.nets Pr.ship).ship≤10000000000000:=q6
 have q7:0≤(L5 r.tax z exempt (N2 r l) Pr.nets Pr.ship).shipTax∧(L5 r.tax z exempt (N2 r l) Pr.nets Pr.ship).shipTax≤10000000000000:=q7
 clear hq q3 q4 q5 hV hz
 generalize L5 r.tax z exempt (N2 r l) Pr.nets Pr.ship=V at *
 have s1:=fun s=>B0v V.goods q1 s
 have s2:=fun s=>B0v V.taxes q2 s
 have g1:=q1.sum
 have g2:=q2.sum
 have w1:IntKind.i64.wrap (A2 V.goods+A2 V.taxes)=A2 V.goods+A2 V.taxes:=A5 (by omega) (by omega)
 have w2:IntKind.i64.wrap (A2 V.goods+A2 V.taxes+V.ship)=A2 V.goods+A2 V.taxes+V.ship:=A5 (by omega) (by omega)
 have w3:IntKind.i64.wrap (A2 V.goods+A2 V.taxes+V.ship+V.shipTax)=A2 V.goods+A2 V.taxes+V.ship+V.shipTax:=A5 (by omega) (by omega)
 have hil:(C2 r.items l).length=l.length:=D5H ..
 have hcb:N2 r l=(C2 r.items l).map Ab.Item.cat:=rfl
 rw [hcb] at hlv
 generalize C2 r.items l=IT at hI hil hlv
 clear hcb
 refine A1S ?_
 refine F2 [5] Tryz.func56 ?_
 intro b10 hb10;conv=>whnf
 refine I5 (hP _) ?_
 intro b12 hb12
 have h02:b10≠b12:=fun e=>by subst e;rw [A0] at hb12;cases hb12
 conv=>whnf
 refine stU (A0 ..) rfl ?_
 rw [C0];conv=>whnf
 refine I5 (hI _) ?_
 generalize hst:(upd (upd st b10 _) b12 _:St)=S0
 obtain ⟨f12,at12,hf12⟩:∃ f12:Nat→AV,S0 b12=some ⟨170,4,1,f12⟩∧f12 0=A1c Pr:=by rw [←hst];exact ⟨_,A0 ..,by rw [A4];rfl⟩
 obtain ⟨f10,at10,hf10⟩:∃ f10:Nat→AV,S0 b10=some ⟨113,6,1,f10⟩∧f10 0=H2 C6i.zero:=by rw [←hst,A9 h02];exact ⟨_,A0 ..,rfl⟩
 have hs0:E8 st S0:=by rw [←hst];exact ((E8.refl st).upd hb10).upd hb12
 have n12:st b12=none:=by rw [A9 h02.symm] at hb12;exact hb12
 clear hst
 refine lp IT.length [1,2,5,10,12,14,15,16] (fun i vs u=>∃ sv,vs=[eS zone,eB exempt,.fptr (H3 r) 0,.optr 6 b10 0 0,.optr 4 b12 0 0,A8 4 E5 IT,sv,eI i]∧E0 9 1 eS ((IT.take i).map Ab.Item.cat) S0 sv u) ?_ ?_
 ·conv=>whnf
  exact ⟨.emp,rfl,E0.start _ _ _ _⟩
 rintro i vs u hi ⟨sv,rfl,hc⟩
 have hcs:=hc.sup
 conv=>whnf
 cases h1:decide ((i:Int)<(IT.length:Int))
 case true =>
  have hi':=D8 h1
  have hln2:((IT.take i).map Ab.Item.cat).length=i:=by rw [D5H,D5M];omega
  have htk:(IT.take (i+1)).map Ab.Item.cat=(IT.take i).map Ab.Item.cat++[(IT.getD (i:Int).toNat default).cat]:=by rw [K4 hi',D6g];rfl
  conv=>whnf
  refine E7 ?_
  refine E0.app (y:=(IT.getD (i:Int).toNat default).cat) (q:=r9) rfl rfl rfl rfl rfl (by rfl) (by rw [hln2];show (i+1) * 16≤140737488355328;omega) hc (fun sv' t' hc'=>?_);conv=>whnf
  refine F7 ?_
  exact nx hi' ⟨sv',by rw [B4 (by omega)],by rw [htk];exact hc'⟩
 obtain rfl:=C4 h1 hi
 rw [D5N] at hc;conv=>whnf
 refine J0 (hcs b12 _ at12) hf12 ?_
 refine J0 (hcs b12 _ at12) hf12 ?_
 have hTS:A7 [S8 r.tax,eS zone,eB exempt,sv,B0 Pr.nets,eI Pr.ship] u [S8 r.tax,eS zone,eB exempt,C9 (IT.map Ab.Item.cat),B0 Pr.nets,eI Pr.ship] S0 :=
  A7.cons (A7.keep [S8 r.tax] _) (A7.cons (A7.keep [eS zone] _) (A7.cons (A7.keep [eB exempt] _) (A7.cons hc.shift (A7.keep _ _))))
 refine F3 hTS (B3 (hlv _) ?_);conv=>whnf
 intro b17 hb17
 have h12n:b12≠b17:=fun e=>by subst e;rw [at12] at hb17;cases hb17
 have h10n:b10≠b17:=fun e=>by subst e;rw [at10] at hb17;cases hb17
 conv=>whnf
 refine stU (A0 ..) rfl ?_
 rw [C0];conv=>whnf
 generalize hst:(upd S0 b17 _:St)=S1
 obtain ⟨f17,at17,hf17⟩:∃ f17:Nat→AV,S1 b17=some ⟨175,4,1,f17⟩∧f17 0=B9m V:=by rw [←hst];exact ⟨_,A0 ..,by rw [A4];rfl⟩
 have at12':S1 b12=some ⟨170,4,1,f12⟩:=by rw [←hst,A9 h12n];exact at12
 have at10':S1 b10=some ⟨113,6,1,f10⟩:=by rw [←hst,A9 h10n];exact at10
 have hs1:E8 st S1:=by rw [←hst];exact hs0.upd hb17
 clear hst
 refine ⟨[24],[],List.range 26,by kernel_rfl,?_⟩
 repeat' ((conv=>whnf);first | refine ldV at17 rfl (by omega) hf17 ?_ | refine ldV at12' rfl (by omega) hf12 ?_ | refine ⟨_,H0 (s1 _),?_⟩ | refine ⟨_,H0 (s2 _),?_⟩)
 all_goals
  conv=>whnf
  rw [w1,w2,w3]
  refine Y9 at10' hf10 ?_
  refine J0 (A0 ..) (A4 ..) ?_
  exact ⟨rfl,hs1.over hb10⟩
end Go.Proofs.YtaapofnkmpiknaaGreat
namespace Go.Proofs.YtaapofnkmpiknaaGreat
open Go Go.Ab
theorem C7W (f:Nat→Int) {n i:Nat} (hi:i<n):gI ((List.range n).map f) i=f i:=by
 unfold gI;simp [D5C,hi]
theorem C0Q {t:Tax} {z:K5} {cats:List C8} {nets:List Int} {ship:Int} (h:A2z t z cats nets ship) (hn:∀ i,i<nets.length→0≤gI nets i∧gI nets i≤1000000000000) (hs:ship≤1000000000000) (exempt:Bool) (deals:List A1Q) :
  A7p (B4J (L5 t z exempt cats nets ship) deals) nets.length:=by
 have hq:=B0r h exempt deals
 obtain ⟨r1,r2⟩:=A3x h
 obtain ⟨t1,t2⟩:=A6s (t:=t) h.nets r1 r2
 have hm:=A2V (t:=t) h.ship.1 (A4F h.zone).2.1
 have tl:=fun i (hi:i<nets.length)=>B6Y (t:=t) h.nets r1 r2 hi
 have tp:∀ i,i<nets.length→0≤gI (K9 t (cats.map (F0 z)) nets) i:=fun i hi=>(t2 _ (A6 (by omega))).1
 refine ⟨fun i hi=>?_,fun i hi=>?_,hq.ngoods,hq.ntaxes,⟨hq.ship.1,?_⟩,⟨hq.shipTax.1,?_⟩,hq.total⟩
 ·show 0≤gI (A2D _ _ _) i∧gI (A2D _ _ _) i≤_
  unfold A2D
  rw [C7W _ hi]
  have h1:=hn i hi
  have h2:=tl i hi
  have h3:=tp i hi
  split<;>omega
 ·show 0≤gI (if exempt=true then List.replicate nets.length 0 else _) i∧gI (if exempt=true then List.replicate nets.length 0 else _) i≤_
  have h1:=hn i hi
  have h2:=tl i hi
  have h3:=tp i hi
  split
  ·have:gI (List.replicate nets.length 0) i=0:=by unfold gI;simp [D5C,hi]
   rw [this];omega
  ·omega
 ·show (if t.incl=true then ship - N8 t ship z.ship else ship)≤_
  split<;>omega
 ·show (if exempt=true then 0 else N8 t ship z.ship)≤_
  split<;>omega
theorem Q8.sold {R:G7} {C:List C8} {L:List E4} (h:Q8 R C L) {z:K5} {s:C8} (hz:Z6 R.tax.zones s=some z) (exempt:Bool):A7p (B1K R C L z exempt) L.length:=by
 have hN:=h.nets
 have hf:=h.fee
 have hsh:=hN.ship
 have:=C0Q (h.levy hz) (fun i hi=>by
  have hi:i<L.length:=by rw [←hN.len];exact hi
  have h1:=hN.at' i hi
  have h2:=h.lines.line _ (A6 hi)
  have h9:(L.getD i default).qty * (L.getD i default).price≤9 * 4000:=D8b h2.1.2 (by omega) h2.2.1 (by omega)
  omega) (by omega) exempt (A3w R C L).deals
 rw [hN.len] at this;exact this
theorem Q8.rquote_S {R:G7} {C:List C8} {L:List E4} (h:Q8 R C L) {z:K5} {s:C8} (hz:Z6 R.tax.zones s=some z) (exempt:Bool) (st:St) :
  S P 56 [H3 R,eS s,eB exempt,C9 C,A8 3 H6 L] st fun v st'=>v=.tuple [A0a (B1K R C L z exempt),eI 0]∧st'=st:=by
 have hk:=(A6F h.check).lines.known
 have hi:=h.items
 have hl:=h.lines.len
 have hRI:=fun st=>B6t R.items L (by show R.items.length≤_;omega) (by omega) hk st
 exact C3Y exempt (fun st=>h.ref_S st) hRI (by omega) (h.levy hz) h.sm.tax hz st
theorem A7p.total_in {Q:Z1} {n:Nat} (h:A7p Q n) (hn:n≤8):0≤Q.total∧Q.total≤100000000000000:=by
 have g1:=A6W h.ngoods h.goods
 have g2:=A6W h.ntaxes h.taxes
 have g3:=h.ship
 have g4:=h.shipTax
 have g5:=h.total
 have hn':(n:Int)≤8:=by omega
 omega
theorem B8Y (n:Int):D0 (Q2 (B6 n 3))=true:=by
 have:=C7 n (n:=3) (by decide)
 obtain ⟨k,hk⟩:∃ k:Nat,B6 n 3=k:=⟨(B6 n 3).toNat,by omega⟩
 rw [hk]
 have hk3:k<3:=by omega
 exact D5Y.1 A7O k (D5S.2 hk3)
structure B7l (R:G7) (Z:C8) (exempt:Bool) (C:List C8) (A:List Add) (L:List E4) (Q:Z1) (pays:List Pay):Prop where
 lines:X2 R.items A=(L,0)
 len:1≤L.length∧L.length≤8
 same:L=A.map (K0 R.items)
 sold:A7p Q L.length
 paid:A5u pays Q.total=true
 npays:pays.length≤3
 zone:D0 Z=true
 codes:S7 C=true
 ncodes:C.length≤3
 scodes:∀ s∈C,s.size≤12
 line:∀ x∈L,D0 x.sku=true∧(0≤x.price∧x.price≤1000000000)∧1≤x.qty∧x.qty≤100000
 right:V8 R=true
 fit:A0S R
 items:R.items.length≤8
 amounts:K2 Q.goods∧K2 Q.taxes
 prog:∀ st,S P 60 [H3 R,eS Z,eB exempt,C9 C,A8 3 H6 L] st fun v st'=>v=.tuple [A0a Q,eI 0]∧st'=st
 ref:∀ st,S P 56 [H3 R,eS Z,eB exempt,C9 C,A8 3 H6 L] st fun v st'=>v=.tuple [A0a Q,eI 0]∧st'=st
theorem C8t (s:B2y):∃ L Q,B7l (H5 s.rules) (P6 s) s.exempt (H4 s.codes) (J2 s.adds) L Q (O4 Q.total s.pays):=by
 have hb:=B5s s.rules.items s.adds
 have h:=(C8n s.rules s.codes []).relines hb
 obtain ⟨z,hz⟩:=B2H s.rules s.zone
 have hq:=h.quoteIn hz s.exempt
 have hs:=h.sold hz s.exempt
 obtain ⟨⟨a1,a2⟩,a3⟩:=A6e s.adds
 have hln:((J2 s.adds).map (K0 (F9 s.rules.items))).length≤8:=hb.len
 have hT:=hs.total_in hln
 have hp:=B2E hT.1 hT.2 s.pays
 refine ⟨_,B1K (H5 s.rules) (H4 s.codes) ((J2 s.adds).map (K0 (F9 s.rules.items))) z s.exempt,B6f s.rules.items s.adds,?_,rfl,hs,hp.1,hp.2,B8Y s.zone,h.codes,h.ncodes,h.scodes,fun x hx=>?_,h.right,h.fit,h.items,⟨hq.goods,hq.taxes⟩,fun st=>h.quote_S hz s.exempt st,fun st=>h.rquote_S hz s.exempt st⟩
 ·show 1≤((J2 s.adds).map (K0 (F9 s.rules.items))).length∧((J2 s.adds).map (K0 (F9 s.rules.items))).length≤8
  rw [D5H];omega
 ·have hx:x∈(J2 s.adds).map (K0 (F9 s.rules.items)):=hx
  have l1:=hb.line x hx
  obtain ⟨n,hn⟩:=hb.sku x hx
  obtain ⟨y,hy,rfl⟩:=D5X.1 hx
  have l2:=(a3 y hy).1
  refine ⟨by rw [hn];exact A9x n,by omega,?_⟩
  show 1≤y.qty∧y.qty≤100000
  omega
end Go.Proofs.YtaapofnkmpiknaaGreat
namespace Go.Proofs.YtaapofnkmpiknaaGreat
open Go Go.Ab
attribute [local irreducible] upd del
set_option maxHeartbeats 4000000 in
theorem C6q (R:G7) (set day:Int) (id key zone:C8) (exempt:Bool) (codes:List C8) (adds:List Add) (pays:List Pay) (L:List E4) (Q:Z1) (B:A4H) (st:St)
  (hs:1≤set∧set≤40) (hc:codes.length≤100000) (hl:L.length≤1000) (hg:Q.goods.length=L.length) (ht:Q.taxes.length=L.length) (hp:A5u pays Q.total=true) (hpl:pays.length≤6)
  (n1:∀ s,S P 76 [eI day,eI 100000] s fun v st'=>v=.bool true∧st'=s)
  (n2:∀ s,S P 74 [eS id] s fun v st'=>v=.bool true∧st'=s)
  (n3:∀ s,S P 74 [eS zone] s fun v st'=>v=.bool true∧st'=s)
  (n4:∀ s,S P 81 [H3 R] s fun v st'=>v=.bool true∧st'=s)
  (n5:∀ s,S P 75 [C9 codes] s fun v st'=>v=.bool true∧st'=s)
  (nL:∀ s,S P 55 [A8 4 E5 R.items,A8 2 A4U adds] s fun v st'=>v=.tuple [A8 3 H6 L,eI 0]∧st'=s)
  (nQ:∀ s,S P 56 [H3 R,eS zone,eB exempt,C9 codes,A8 3 H6 L] s fun v st'=>v=.tuple [A0a Q,eI 0]∧st'=s)
  (nB:∀ s,S P 82 [A0a Q] s fun v st'=>v=A5q B∧st'=s) :
  S P 27 [H3 R,eI set,B3l id key zone exempt codes adds pays,eI day] st fun v st'=>∃ cv lv tv bc bl bt,E6 st [(bl,⟨55,6,L.length,fun k=>Q7 ((U2 L Q).getD k default)⟩),(bt,⟨70,3,pays.length,fun k=>A0d ((pays.map A1M).getD k default)⟩),(bc,⟨9,1,codes.length,fun k=>eS (codes.getD k default)⟩)] st' ∧
   OV 1 bc codes.length cv∧OV 6 bl L.length lv∧OV 3 bt pays.length tv ∧
   v=.tuple [.agg [eS id,eI set,eS zone,eB exempt,cv,eI day,lv,eI Q.ship,eI Q.shipTax,eI 0,eI Q.total,eI B.goods,eI B.tax,eI B.ship,eI B.shipTax,eI B.fee,tv],eI 0]:=by
 have d1:decide (set<1)=false:=D5J (by omega)
 have d2:decide (set>40)=false:=D5J (by omega)
 have hpay:(∀ x∈pays,A3t x=true)∧O0 pays=Q.total:=by
  unfold A5u at hp
  simp only [D5I,D5E,D6z] at hp
  exact ⟨D5Y.1 hp.1.2,hp.2⟩
 have hpi:∀ i,i<pays.length→(1≤(pays.getD i default).kind∧(pays.getD i default).kind≤9)∧1≤(pays.getD i default).amount∧(pays.getD i default).amount≤100000000000000:=fun i hi=>by
  have:=hpay.1 _ (A6 hi)
  unfold A3t K6 at this
  simp only [D5I,E3,D5E] at this
  omega
 have hpn:∀ i,i<pays.length→O0 (pays.take (i+1))=O0 (pays.take i)+(pays.getD i default).amount:=fun i hi=>I0 hi _ _
 have hpk:∀ j i,i+j=pays.length→0≤O0 (pays.take i)∧O0 (pays.take i)≤Q.total∧Q.total≤O0 (pays.take i)+100000000000000 * (j:Int):=fun j=>by
  induction j with
  | zero=>intro i hi;rw [D7w (by omega),hpay.2];exact ⟨by rw [←hpay.2];have:=(B4A pays.length (D5L _) fun k hk=>hpay.1 _ (A6 hk)).1;rwa [D5N] at this,D6i _,by omega⟩
  | succ j ih =>
   intro i hi
   have h1:=ih (i+1) (by omega)
   have h2:=hpn i (by omega)
   have h3:=hpi i (by omega)
   have h4:=(B4A i (by omega) fun k hk=>hpay.1 _ (A6 (by omega))).1
   exact ⟨h4,by omega,by rw [show ((j+1:Nat):Int)=(j:Int)+1 from rfl];omega⟩
 refine A8Q [4,6,17] B4k mixed Tryz.func27 (by rfl) rfl rfl rfl ?_;conv=>whnf
 intro b8 hb8
 generalize hs:(upd st b8 _:St)=w
 have h:=E6.new' hs (B4x st) hb8
 clear hs hb8
 repeat' ((conv=>whnf);first | refine B3 (n1 _) ?_ | refine B3 (n2 _) ?_ | refine B3 (n3 _) ?_ | refine B3 (n4 _) ?_ | refine B3 (n5 _) ?_ | refine B3 (nL _) ?_ | refine B3 (nQ _) ?_ | rw [d1] | rw [d2] | fail)
 conv=>whnf
 intro b12 hb12;conv=>whnf
 generalize hs:(upd w b12 _:St)=w2
 have h:=E6.new' hs h hb12
 clear hs hb12
 refine A1H h .z rfl rfl (by rfl) ?_;conv=>whnf
 intro w h
 have h:=h.soft 0 9 1 (fun k=>eS (codes.getD k default))
 have hb:=h.has1 (.s .z)
 conv=>whnf
 refine .inr ⟨[9,20,21],.qui 0 (.qui 1 (.qui 2 (.qui 3 (.qui 4 (.qui 5 (.qui 6 (.qui 7 (.qui 8 (.qui 10 (.qui 11 (.qui 12 (.qui 13 (.qui 14 (.qui 15 (.qui 16 (.qui 17 (.two 9 20 [1,4,6,12,14,16,17] [1,4,6,8,12,14,16,17] (.qui 18 (.qui 19 (.eff 20 [1,4,6,8,12,14,16,17,18] (.eff 21 [] (.done))))) (.eff 9 [1,4,6,12,14,16,17] (.qui 18 (.qui 19 (.eff 21 [] (.done)))))))))))))))))))))),by kernel_rfl,?_⟩
 repeat' ((conv=>whnf);first | refine quT (fun _=>⟨rfl,rfl⟩) ?_ | refine quT (fun s=>H0 (nB s)) ?_ | refine quL hb (fun _ hs=>S4 hs rfl Nat.one_pos rfl ⟨rfl,rfl⟩) ?_ | fail)
 refine ⟨?A,?B⟩
 case' A =>
  conv=>whnf
  refine B6c (q:=r9) (m:=codes.length) (g:=fun k=>eS (codes.getD k default)) h (OV.nil 1 0) .z rfl rfl rfl rfl (by rfl) (A2K ..) (f':=fun k=>eS (codes.getD k default)) (by show (0+codes.length) * 16≤140737488355328;omega) (fun i _=>by rw [if_neg (by omega)];rfl) (fun cv bc hcv=>?_);conv=>whnf
  intro w h
  rw [D5R codes.length] at hcv h
  have hb:=h.has1 (.s .z)
  have e1:=A1Z hcv.one
  have e2:=B0t hcv.one
  repeat' ((conv=>whnf);first | refine ⟨fun _=>trivial,?_⟩ | refine ⟨fun _=>hb,?_⟩ | refine quT (fun _=>⟨rfl,rfl⟩) ?_ | refine quT (fun s=>H0 (nB s)) ?_ | refine quL hb (fun _ hs=>S4 hs rfl Nat.one_pos rfl ⟨rfl,rfl⟩) ?_ | rw [e1] | rw [e2] | fail)
  conv=>whnf
  intro b14 hb14
  generalize hs:(upd w b14 _:St)=w2
  have h:=E6.new' hs h hb14
  clear hs hb14
  have hb:=h.has1 (.s (.s .z))
  repeat' ((conv=>whnf);first | refine ⟨fun _=>trivial,?_⟩ | refine ⟨fun _=>hb,?_⟩ | fail)
 case' B =>
  conv=>whnf
  intro b14 hb14
  generalize hs:(upd w b14 _:St)=w2
  have h:=E6.new' hs h hb14
  clear hs hb14
  have hb:=h.has1 (.s (.s .z))
  repeat' ((conv=>whnf);first | refine ⟨fun _=>trivial,?_⟩ | refine ⟨fun _=>hb,?_⟩ | fail)
  conv=>whnf
  refine B6c (q:=r9) (m:=codes.length) (g:=fun k=>eS (codes.getD k default)) h (OV.nil 1 0) (.s .z) rfl rfl rfl rfl (by rfl) (A2K ..) (f':=fun k=>eS (codes.getD k default)) (by show (0+codes.length) * 16≤140737488355328;omega) (fun i _=>by rw [if_neg (by omega)];rfl) (fun cv bc hcv=>?_);conv=>whnf
  intro w h
  rw [D5R codes.length] at hcv h
  have hb:=h.has1 (.s (.s .z))
  have e1:=A1Z hcv.one
  have e2:=B0t hcv.one
  repeat' ((conv=>whnf);first | refine ⟨fun _=>trivial,?_⟩ | refine ⟨fun _=>hb,?_⟩ | refine quT (fun _=>⟨rfl,rfl⟩) ?_ | refine quT (fun s=>H0 (nB s)) ?_ | refine quL hb (fun _ hs=>S4 hs rfl Nat.one_pos rfl ⟨rfl,rfl⟩) ?_ | rw [e1] | rw [e2] | fail)
 all_goals
  conv=>whnf
  refine A1H h .z rfl rfl (C0t (by rfl) (by simp only [cellsOf,List.all_cons,hcv.one];rfl)) ?_;conv=>whnf
  intro w h
  clear hb e1 e2
  conv=>whnf
  refine B4w h (.s (.s .z)) rfl Nat.one_pos rfl ?_;conv=>whnf
  refine lp pays.length [6,8,10,12,14,15,16] (fun i vs u=>∃ tv bt,vs=[(B3l id key zone exempt codes adds pays).fptr 0,.optr 17 b8 0 0,A8 3 H6 L,.optr 6 b12 0 0,.optr 17 b14 0 0,eI (Q.total - O0 (pays.take i)),eI i]∧OV 3 bt i tv ∧
   E6 st [(bt,⟨70,3,i,fun k=>A0d ((pays.map A1M).getD k default)⟩),(b14,⟨50,17,1,fun _=>.agg [eS id,eI set,eS zone,eB exempt,cv,eI day,.emp,eI Q.ship,eI Q.shipTax,eI 0,eI Q.total,eI B.goods,eI B.tax,eI B.ship,eI B.shipTax,eI B.fee,tv]⟩),(bc,⟨9,1,codes.length,fun k=>eS (codes.getD k default)⟩),(b12,⟨113,6,1,fun _=>A0a Q⟩),(b8,⟨50,17,1,fun _=>H2 r50.zero⟩)] u) ?_ ?_
  ·conv=>whnf
   exact ⟨_,0,by rw [show O0 (pays.take 0)=0 by rw [D7p];rfl,Int.sub_zero];rfl,OV.nil ..,h.soft ..⟩
  clear h
  rintro i vs u hi ⟨tv,bt,rfl,htv,h⟩
  conv=>whnf
  cases h1:decide ((i:Int)<(pays.length:Int))
  case true =>
   have hi':=D8 h1
   have q1:=hpi i hi'
   have q2:=hpn i hi'
   have q3:=hpk (pays.length - (i+1)) (i+1) (by omega)
   have q4:=hpk (pays.length - i) i (by omega)
   rw [show pays.getD i default=pays.getD (i:Int).toNat default from rfl] at q1 q2
   have g0:decide ((i:Int)≥6)=false:=D5J (by omega)
   have g1:decide ((pays.getD (i:Int).toNat default).kind<1)=false:=D5J (by omega)
   have g2:decide ((pays.getD (i:Int).toNat default).kind>9)=false:=D5J (by omega)
   have g3:decide ((pays.getD (i:Int).toNat default).amount<1)=false:=D5J (by omega)
   have g4:decide ((pays.getD (i:Int).toNat default).amount>Q.total - O0 (pays.take i))=false:=D5J (by omega)
   repeat' ((conv=>whnf);first | refine ⟨rfl,⟨by omega,by omega⟩,?_⟩ | rw [g0] | rw [g1] | rw [g2] | rw [g3] | rw [g4] | refine B4w h (.s .z) rfl Nat.one_pos rfl ?_ | fail)
   conv=>whnf
   refine B6c (q:=r70) (m:=1) (g:=fun j=>[A0d (A1M (pays.getD (i:Int).toNat default))].getD j AV.junk) h htv .z rfl rfl rfl rfl (by rfl) rfl (f':=fun k=>A0d ((pays.map A1M).getD k default)) (by show (i+1) * 24≤140737488355328;omega) (fun k hk=>?_) (fun tv bt htv=>?_)
   ·split
    ·rfl
    ·rw [show k=i by omega,Nat.sub_self,D4 A1M pays hi'];rfl
   conv=>whnf
   intro w h;conv=>whnf
   refine C8k h (.s .z) rfl rfl rfl htv.one (by decide) ?_;conv=>whnf
   intro w h;conv=>whnf
   refine F7 ?_
   exact nx hi' ⟨_,_,by rw [B4 (by omega),A5 (by omega) (by omega),show Q.total - O0 (pays.take i) - (pays.getD (i:Int).toNat default).amount=Q.total - O0 (pays.take (i+1)) by omega],htv,h⟩
  obtain rfl:=C4 h1 hi
  rw [show Q.total - O0 (pays.take pays.length)=0 by rw [D5N,hpay.2];omega];conv=>whnf
  refine lp L.length [8,10,12,14,18] (fun i vs u=>∃ lv bl,vs=[.optr 17 b8 0 0,A8 3 H6 L,.optr 6 b12 0 0,.optr 17 b14 0 0,eI i]∧OV 6 bl i lv ∧
   E6 st [(bl,⟨55,6,i,fun k=>Q7 ((U2 L Q).getD k default)⟩),(bt,⟨70,3,pays.length,fun k=>A0d ((pays.map A1M).getD k default)⟩),(b14,⟨50,17,1,fun _=>.agg [eS id,eI set,eS zone,eB exempt,cv,eI day,lv,eI Q.ship,eI Q.shipTax,eI 0,eI Q.total,eI B.goods,eI B.tax,eI B.ship,eI B.shipTax,eI B.fee,tv]⟩),(bc,⟨9,1,codes.length,fun k=>eS (codes.getD k default)⟩),(b12,⟨113,6,1,fun _=>A0a Q⟩),(b8,⟨50,17,1,fun _=>H2 r50.zero⟩)] u) ?_ ?_
  ·conv=>whnf
   exact ⟨_,0,rfl,OV.nil ..,h.soft ..⟩
  clear h
  rintro i vs u hi ⟨lv,bl,rfl,hlv,h⟩
  conv=>whnf
  cases h2:decide ((i:Int)<(L.length:Int))
  case false =>
   obtain rfl:=C4 h2 hi
   conv=>whnf
   refine B4w h (.s (.s .z)) rfl Nat.one_pos rfl ?_;conv=>whnf
   refine A1H h (.s (.s (.s (.s (.s .z))))) rfl rfl (C0t (by rfl) (by simp only [cellsOf,List.all_cons,hcv.one,hlv.one,htv.one];rfl)) ?_;conv=>whnf
   intro w h;conv=>whnf
   refine B4w h (.s (.s (.s (.s (.s .z))))) rfl Nat.one_pos rfl ?_;conv=>whnf
   exact ⟨cv,lv,tv,bc,bl,bt,((h.drop 5).drop 4).drop 2,hcv,hlv,htv,rfl⟩
  have hi':=D8 h2
  have hb14:=h.has1 (.s (.s .z))
  have hb12:=h.has1 (.s (.s (.s (.s .z))))
  conv=>whnf
  refine .inr ⟨[34,36],.qui 0 (.qui 1 (.qui 2 (.qui 3 (.qui 4 (.qui 5 (.qui 6 (.qui 7 (.qui 8 (.qui 9 (.qui 10 (.qui 11 (.qui 12 (.qui 13 (.qui 14 (.qui 15 (.qui 16 (.qui 17 (.qui 18 (.qui 19 (.qui 20 (.qui 21 (.qui 22 (.qui 23 (.qui 24 (.qui 25 (.qui 26 (.qui 27 (.qui 28 (.qui 29 (.qui 30 (.qui 31 (.qui 32 (.qui 33 (.eff 34 [] (.qui 35 (.eff 36 [] (.done))))))))))))))))))))))))))))))))))))),by kernel_rfl,?_⟩
  repeat' ((conv=>whnf);first | refine quT (fun _=>⟨rfl,rfl⟩) ?_ | refine quL hb14 (fun _ hs=>S4 hs rfl Nat.one_pos rfl ⟨rfl,rfl⟩) ?_ | refine quL hb12 (fun _ hs=>S4 hs rfl Nat.one_pos rfl ⟨rfl,rfl⟩) ?_ | refine ⟨rfl,⟨by omega,by omega⟩,?_⟩ | fail)
  conv=>whnf
  refine B6c (q:=r55) (m:=1) (g:=fun j=>[Q7 (R1 L Q i)].getD j AV.junk) h hlv .z rfl rfl rfl rfl (by rfl) rfl (f':=fun k=>Q7 ((U2 L Q).getD k default)) (by show (i+1) * 56≤140737488355328;omega) (fun k hk=>?_) (fun lv bl hlv=>?_)
  ·split
   ·rfl
   ·rw [show k=i by omega,Nat.sub_self]
    unfold U2
    rw [D4 (R1 L Q) (List.range L.length) (by rw [D6c];omega)]
    show Q7 (R1 L Q i)=_
    congr 2
    simp [D5C,hi']
  conv=>whnf
  intro w h;conv=>whnf
  refine C8k h (.s (.s .z)) rfl rfl rfl hlv.one (by decide) ?_;conv=>whnf
  intro w h;conv=>whnf
  refine F7 ?_
  exact nx hi' ⟨_,_,by rw [B4 (by omega)],hlv,h⟩
end Go.Proofs.YtaapofnkmpiknaaGreat
namespace Go.Ab
open Go
theorem At.mem {α : Type} {L:List α} {j:Nat} {p : α} (h:At L j p):p∈L:=by
 induction h with
 | z=>exact D6f ..
 | s _ ih=>exact D6d _ ih
theorem At.of_mem {α : Type} {p : α}:∀ {L:List α},p∈L→∃ j,At L j p
 | a::L,h=>by
  rcases D7f.1 h with rfl | h
  ·exact ⟨_,.z⟩
  ·obtain ⟨j,hj⟩:=At.of_mem h;exact ⟨_,.s hj⟩
theorem E6.perm {st s:St} {L M:List (Nat×K7)} (hp:L.Perm M) (h:E6 st L s):E6 st M s:=by
 induction hp with
 | nil=>exact h
 | cons x hp ih=>exact ⟨h.1.imp id fun ⟨h1,h2,h3⟩=>⟨h1,h2,fun j p hj=>by
   obtain ⟨i,hi⟩:=At.of_mem (hp.mem_iff.2 hj.mem)
   exact h3 i p hi⟩,ih h.2⟩
 | swap x y L =>
  obtain ⟨hy,hx,hL⟩:=h
  refine ⟨?_,?_,hL⟩
  ·rcases D7b x.2.n with hn | hn
   ·exact .inl hn
   ·obtain ⟨h1,h2,h3⟩:=hx.resolve_left (by omega)
    refine .inr ⟨h1,h2,fun j p hj=>?_⟩
    cases hj with
    | z=>exact hy.imp id fun ⟨_,_,h4⟩=>((h4 0 x .z).resolve_left (by omega)).symm
    | s hj=>exact h3 _ p hj
  ·exact hy.imp id fun ⟨h1,h2,h3⟩=>⟨h1,h2,fun j p hj=>h3 _ p (.s hj)⟩
 | trans _ _ ih1 ih2=>exact ih2 (ih1 h)
theorem E6.mid {st s:St} (l1:List (Nat×K7)) {a:Nat×K7} {l2:List (Nat×K7)} (h:E6 st (l1++a::l2) s):E6 st (a::(l1++l2)) s:=h.perm List.perm_middle
end Go.Ab
namespace Go.Proofs.YtaapofnkmpiknaaGreat
open Go Go.Ab
attribute [local irreducible] upd del
theorem B2K (s:B2y) {L:List E4} {Q:Z1} (hO:B7l (H5 s.rules) (P6 s) s.exempt (H4 s.codes) (J2 s.adds) L Q (O4 Q.total s.pays)) (hF:A6H s=true) (id key:C8) (u:St) :
  S P 16 [B0W s,eS id,eS key] u fun v st'=>v=.tuple [H3 (H5 s.rules),B3l id key (P6 s) s.exempt (H4 s.codes) (J2 s.adds) (O4 Q.total s.pays)]∧st'=u:=by
 have hi:=hO.items
 refine C0x s _ _ Q 0 (by show _≤_;omega) ?_ (hO.sold.total_in hO.len.2) (fun w=>?_) u
 ·unfold A6H at hF
  simp only [D5I,D5E] at hF
  omega
 ·have:=hO.ref w
  rw [hO.lines];exact this
def C2n (st:St) (id zone:C8) (set:Int) (exempt:Bool) (codes:List C8) (day:Int) (L:List E4) (Q:Z1) (pays:List Pay) (v:AV) (st':St):Prop :=
 ∃ cv lv tv bc bl bt,E6 st [(bl,⟨55,6,L.length,fun k=>Q7 ((U2 L Q).getD k default)⟩),(bt,⟨70,3,pays.length,fun k=>A0d ((pays.map A1M).getD k default)⟩),(bc,⟨9,1,codes.length,fun k=>eS (codes.getD k default)⟩)] st' ∧
  OV 1 bc codes.length cv∧OV 6 bl L.length lv∧OV 3 bt pays.length tv ∧
  v=.agg [eS id,eI set,eS zone,eB exempt,cv,eI day,lv,eI Q.ship,eI Q.shipTax,eI 0,eI Q.total,eI (U6 Q).goods,eI (U6 Q).tax,eI (U6 Q).ship,eI (U6 Q).shipTax,eI (U6 Q).fee,tv]
set_option maxHeartbeats 4000000 in
theorem C3F (s:B2y) {L:List E4} {Q:Z1} (hO:B7l (H5 s.rules) (P6 s) s.exempt (H4 s.codes) (J2 s.adds) L Q (O4 Q.total s.pays)) (hF:A6H s=true) (st:St) :
  S P 21 [B0W s] st fun v st'=>∃ o,v=.tuple [H3 (H5 s.rules),o]∧C2n st ⟨#[111]⟩ (P6 s) 1 s.exempt (H4 s.codes) (10+B6 s.day 20) L Q (O4 Q.total s.pays) o st':=by
 have cC:=fun u=>B2K s hO hF ⟨#[111]⟩ ⟨#[107]⟩ u
 have cM:=fun u=>A0f s.day 20 (by decide) (by decide) u
 have hm:=C7 s.day (n:=20) (by decide)
 have hid:D0 ⟨#[111]⟩=true:=by kernel_rfl
 have hz:=U3 hO.zone
 have hw:IntKind.i64.wrap (10+B6 s.day 20)=10+B6 s.day 20:=A5 (by omega) (by omega)
 have cS:∀ u,S P 27 [H3 (H5 s.rules),eI 1,B3l ⟨#[111]⟩ ⟨#[107]⟩ (P6 s) s.exempt (H4 s.codes) (J2 s.adds) (O4 Q.total s.pays),eI (10+B6 s.day 20)] u fun v st'=>∃ o,v=.tuple [o,eI 0]∧C2n u ⟨#[111]⟩ (P6 s) 1 s.exempt (H4 s.codes) (10+B6 s.day 20) L Q (O4 Q.total s.pays) o st':=fun u=>by
  refine (C6q (H5 s.rules) 1 (10+B6 s.day 20) ⟨#[111]⟩ ⟨#[107]⟩ (P6 s) s.exempt (H4 s.codes) (J2 s.adds) (O4 Q.total s.pays) L Q (U6 Q) u ⟨by decide,by decide⟩ (by have:=hO.ncodes;omega) (by have:=hO.len;omega) hO.sold.ngoods hO.sold.ntaxes hO.paid (by have:=hO.npays;omega)
   (fun u=>?_) (fun u=>?_) (fun u=>?_) (fun u=>B1M _ (A8w s.rules) hO.right u) (fun u=>?_) (fun u=>?_) hO.ref (fun u=>C6t Q hO.amounts.1 hO.amounts.2 u)).mono fun v st' ⟨cv,lv,tv,bc,bl,bt,h1,h2,h3,h4,h5⟩=>⟨_,h5,cv,lv,tv,bc,bl,bt,h1,h2,h3,h4,rfl⟩
  ·have:=C6v (10+B6 s.day 20) 100000 u
   rwa [show O7 0 100000 (10+B6 s.day 20)=true by rw [E3];omega] at this
  ·have:=A2i ⟨#[111]⟩ (by decide) u
   rwa [hid] at this
  ·have:=A2i (P6 s) (by show _≤_;omega) u
   rwa [hO.zone] at this
  ·have:=B6s (H4 s.codes) (by have:=hO.ncodes;show _≤_;omega) (fun c hc=>by have:=hO.scodes c hc;show _≤_;omega) u
   rwa [hO.codes] at this
  ·have:=B1S (H5 s.rules).items (J2 s.adds) (by have:=hO.items;show _≤_;omega) u
   rw [hO.lines] at this;exact this
 generalize H5 s.rules=R at *
 generalize P6 s=Z at *
 generalize H4 s.codes=C at *
 generalize J2 s.adds=A at *
 generalize O4 Q.total s.pays=PP at *
 obtain ⟨D,hD⟩:∃ D,D=10+B6 s.day 20:=⟨_,rfl⟩
 rw [←hD] at hw cS ⊢
 refine A8Q [1] B4k mixed Tryz.func21 (by rfl) rfl rfl rfl ?_;conv=>whnf
 intro b2 hb2
 generalize hs:(upd st b2 _:St)=w
 have h:=E6.new' hs (B4x st) hb2
 clear hs hb2
 conv=>whnf
 intro b3 hb3
 generalize hs:(upd w b3 _:St)=w2
 have h:=E6.new' hs h hb3
 clear hs hb3
 conv=>whnf
 refine I5 (cC _) ?_
 intro b4 hb4
 generalize hs:(upd w2 b4 _:St)=w
 have h:=E6.new' hs h hb4
 clear hs hb4
 conv=>whnf
 intro b5 hb5
 generalize hs:(upd w b5 _:St)=w2
 have h:=E6.new' hs h hb5
 clear hs hb5
 conv=>whnf
 refine A1H h (.s .z) rfl rfl (by rfl) ?_;conv=>whnf
 intro w h;conv=>whnf
 refine A1H h .z rfl rfl (by rfl) ?_;conv=>whnf
 intro w h
 have hb4:=h.has1 (.s .z)
 have hb5:=h.has1 .z
 conv=>whnf
 refine .inr ⟨[6,10,11],.qui 0 (.qui 1 (.qui 2 (.qui 3 (.qui 4 (.qui 5 (.two 6 10 [] [0,1,3,4] (.qui 7 (.qui 8 (.qui 9 (.eff 10 [0,1,3,4] (.eff 11 [] (.qui 12 (.done))))))) (.eff 6 [] (.qui 7 (.qui 8 (.qui 9 (.eff 11 [] (.qui 12 (.done))))))))))))),by kernel_rfl,?_⟩
 repeat' ((conv=>whnf);first | refine quT (fun _=>⟨rfl,rfl⟩) ?_ | refine quT (fun s=>H0 (cM s)) ?_ | refine quL hb4 (fun _ hs=>S4 hs rfl Nat.one_pos rfl ⟨rfl,rfl⟩) ?_ | refine quL hb5 (fun _ hs=>S4 hs rfl Nat.one_pos rfl ⟨rfl,rfl⟩) ?_ | rw [←hD,hw] | refine ⟨fun _=>trivial,?_⟩ | refine ⟨fun _=>hb4,?_⟩ | refine ⟨fun _=>hb5,?_⟩ | fail)
 refine ⟨?A,?B⟩
 case' A =>
  conv=>whnf
  refine call (cS _) (fun v w2 hv=>?_)
  obtain ⟨o,rfl,cv,lv,tv,bc,bl,bt,k,hcv,hlv,htv,rfl⟩:=hv
  have h:=h.trans k
  have hb4:=h.has1 (.s (.s (.s (.s .z))))
  have hb5:=h.has1 (.s (.s (.s .z)))
  repeat' ((conv=>whnf);first | refine quT (fun _=>⟨rfl,rfl⟩) ?_ | refine quT (fun s=>H0 (cM s)) ?_ | refine quL hb4 (fun _ hs=>S4 hs rfl Nat.one_pos rfl ⟨rfl,rfl⟩) ?_ | refine quL hb5 (fun _ hs=>S4 hs rfl Nat.one_pos rfl ⟨rfl,rfl⟩) ?_ | rw [←hD,hw] | refine ⟨fun _=>trivial,?_⟩ | refine ⟨fun _=>hb4,?_⟩ | refine ⟨fun _=>hb5,?_⟩ | fail)
  conv=>whnf
  intro b6 hb6
  generalize hs:(upd w2 b6 _:St)=w3
  have h:=E6.new' hs h hb6
  clear hs hb6
  have hb4:=h.has1 (.s (.s (.s (.s (.s .z)))))
  have hb5:=h.has1 (.s (.s (.s (.s .z))))
  repeat' ((conv=>whnf);first | refine quT (fun _=>⟨rfl,rfl⟩) ?_ | refine quT (fun s=>H0 (cM s)) ?_ | refine quL hb4 (fun _ hs=>S4 hs rfl Nat.one_pos rfl ⟨rfl,rfl⟩) ?_ | refine quL hb5 (fun _ hs=>S4 hs rfl Nat.one_pos rfl ⟨rfl,rfl⟩) ?_ | rw [←hD,hw] | refine ⟨fun _=>trivial,?_⟩ | refine ⟨fun _=>hb4,?_⟩ | refine ⟨fun _=>hb5,?_⟩ | fail)
  conv=>whnf
  refine A1H h .z rfl rfl (C0t (by rfl) (by simp only [cellsOf,List.all_cons,hcv.one,hlv.one,htv.one];rfl)) ?_;conv=>whnf
  intro w4 h
 case' B =>
  conv=>whnf
  intro b6 hb6
  generalize hs:(upd w b6 _:St)=w3
  have h:=E6.new' hs h hb6
  clear hs hb6
  have hb4:=h.has1 (.s (.s .z))
  have hb5:=h.has1 (.s .z)
  repeat' ((conv=>whnf);first | refine quT (fun _=>⟨rfl,rfl⟩) ?_ | refine quT (fun s=>H0 (cM s)) ?_ | refine quL hb4 (fun _ hs=>S4 hs rfl Nat.one_pos rfl ⟨rfl,rfl⟩) ?_ | refine quL hb5 (fun _ hs=>S4 hs rfl Nat.one_pos rfl ⟨rfl,rfl⟩) ?_ | rw [←hD,hw] | refine ⟨fun _=>trivial,?_⟩ | refine ⟨fun _=>hb4,?_⟩ | refine ⟨fun _=>hb5,?_⟩ | fail)
  conv=>whnf
  refine call (cS _) (fun v w2 hv=>?_)
  obtain ⟨o,rfl,cv,lv,tv,bc,bl,bt,k,hcv,hlv,htv,rfl⟩:=hv
  have h:=(h.trans k).mid [_,_,_]
  have hb4:=h.has1 (.s (.s (.s (.s (.s .z)))))
  have hb5:=h.has1 (.s (.s (.s (.s .z))))
  repeat' ((conv=>whnf);first | refine quT (fun _=>⟨rfl,rfl⟩) ?_ | refine quT (fun s=>H0 (cM s)) ?_ | refine quL hb4 (fun _ hs=>S4 hs rfl Nat.one_pos rfl ⟨rfl,rfl⟩) ?_ | refine quL hb5 (fun _ hs=>S4 hs rfl Nat.one_pos rfl ⟨rfl,rfl⟩) ?_ | rw [←hD,hw] | refine ⟨fun _=>trivial,?_⟩ | refine ⟨fun _=>hb4,?_⟩ | refine ⟨fun _=>hb5,?_⟩ | fail)
  conv=>whnf
  refine A1H h .z rfl rfl (C0t (by rfl) (by simp only [cellsOf,List.all_cons,hcv.one,hlv.one,htv.one];rfl)) ?_;conv=>whnf
  intro w4 h
 all_goals
  have hb4:=h.has1 (.s (.s (.s (.s (.s .z)))))
  have hb6:=h.has1 .z
  conv=>whnf
  refine .inr ⟨[2,3],.qui 0 (.qui 1 (.eff 2 [1] (.eff 3 [] (.done)))),by kernel_rfl,?_⟩
  repeat' ((conv=>whnf);first | refine quL hb4 (fun _ hs=>S4 hs rfl Nat.one_pos rfl ⟨rfl,rfl⟩) ?_ | refine quL hb6 (fun _ hs=>S4 hs rfl Nat.one_pos rfl ⟨rfl,rfl⟩) ?_ | fail)
  conv=>whnf
  refine A1H h (.s (.s (.s (.s (.s (.s (.s .z))))))) rfl rfl (by rfl) ?_;conv=>whnf
  intro w5 h
  have hb6:=h.has1 .z
  conv=>whnf
  refine ⟨fun _=>hb6,?_⟩;conv=>whnf
  refine A1H h (.s (.s (.s (.s (.s (.s .z)))))) rfl rfl (C0t (by rfl) (by simp only [cellsOf,List.all_cons,hcv.one,hlv.one,htv.one];rfl)) ?_;conv=>whnf
  intro w6 h;conv=>whnf
  refine B4w h (.s (.s (.s (.s (.s (.s (.s .z))))))) rfl Nat.one_pos rfl ?_;conv=>whnf
  refine B4w h (.s (.s (.s (.s (.s (.s .z)))))) rfl Nat.one_pos rfl ?_;conv=>whnf
  exact ⟨_,rfl,cv,lv,tv,bc,bl,bt,((((h.drop 7).drop 6).drop 5).drop 4).drop 0,hcv,hlv,htv,rfl⟩
theorem C2B:B2U aqO:=⟨by decide,by decide,by decide,fun s hs=>(by cases hs),by decide,fun x hx=>by rw [D6h.1 hx];decide,by decide⟩
set_option maxHeartbeats 2000000 in
theorem C0m (st:St):S P 15 [] st fun v st'=>v=.bool true∧st'=st:=by
 have n1:=fun s=>B6w aqO C2B s
 rw [show A0R aqO=true by kernel_rfl] at n1
 have n2:=fun s=>B3C aqO C2B s
 rw [show A3N aqO=⟨100,10,0,0,0⟩ by kernel_rfl] at n2
 have n3:=fun s=>B9S ⟨100,10,0,0,0⟩ s
 rw [show A0h ⟨100,10,0,0,0⟩=110 by kernel_rfl] at n3
 have n4:=fun s=>C4e aqO (by decide) s
 refine A1S ?_
 refine F2 [1] Tryz.func15 ?_
 refine F3 ?_ (B3 (C2C st) ?_)
 ·refine A7.cons (Le.shift (Le.agg ?_) _) (A7.cons (A7.keep [eI 1] _) (A7.cons (Le.shift (Le.agg ?_) _) (A7.keep _ _)))
  all_goals repeat' first | exact F1.nil | refine F1.cons ?_ ?_ | exact Le.refl _ | exact Le.emp _ _ | refine Le.arr1 ?_ rfl
 conv=>whnf
 intro b hb;conv=>whnf
 refine stU (A0 ..) rfl ?_
 rw [C0]
 repeat' ((conv=>whnf);first | refine ldV (A0 ..) rfl (by omega) (A4 ..) ?_ | refine B3 (n1 _) ?_ | refine B3 (n2 _) ?_ | refine B3 (n3 _) ?_ | refine B3 (n4 _) ?_)
 exact ⟨rfl,(E8.refl st).upd hb⟩
end Go.Proofs.YtaapofnkmpiknaaGreat
