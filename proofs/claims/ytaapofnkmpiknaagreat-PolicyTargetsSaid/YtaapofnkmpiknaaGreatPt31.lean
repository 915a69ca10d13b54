/- Part 31 of the proof: contracts -/
import Derived.Test.YtaapofnkmpiknaaGreatPt30
set_option maxRecDepth 100000
set_option linter.unusedVariables false
set_option linter.unusedSimpArgs false
namespace Go.Proofs.YtaapofnkmpiknaaGreat
open Go Go.Ab
attribute [local irreducible] upd del
def IsF (n:Nat) (F:Nat→Bool) (y:L7):Prop:=∃ f,y=⟨4,1,n,f⟩∧∀ k,k<n→f k=eB (F k)
theorem IsF.set {n i:Nat} {F F':Nat→Bool} {f:Nat→AV} (h:∀ k,k<n→f k=eB (F k)) (h1:F' i=true) (h2:∀ k,k≠i→F' k=F k):IsF n F' ⟨4,1,n,I6 f i (eB true)⟩:=by
 refine ⟨_,rfl,fun k hk=>?_⟩
 by_cases e:k=i
 ·subst e;rw [A6,h1]
 ·rw [H7 e,h k hk,h2 k e]
def OD (bo bd:Nat) (L:List Int) (n:Nat) (F:Nat→Bool):St→St→Prop:=Z9 bo (IsL L) (Z9 bd (IsF n F) F8)
theorem A6f (bo bd:Nat) (L:List Int) (n:Nat) (F:Nat→Bool):K7 (OD bo bd L n F):=A0M (A0M Q1)
section
variable {bo bd n:Nat} {L L':List Int} {F F':Nat→Bool} {s t:St} {y:L7}
theorem OD.setL (h:OD bo bd L n F s t) (hy:IsL L' y):OD bo bd L' n F s (upd t bo y):=Z9.set (A0M Q1) h hy
theorem OD.setD (h:OD bo bd L n F s t) (hy:IsF n F' y):OD bo bd L n F' s (upd t bd y):=Z9.map h fun s h=>Z9.set Q1 h hy
theorem OD.atL (h:OD bo bd L n F s t):∃ y,IsL L y∧t bo=some y:=Z9.at (A0M Q1) h
theorem OD.atD (h:OD bo bd L n F s t):∃ y,IsF n F y∧t bd=some y:=by
 obtain ⟨_,y,_,h⟩:=h
 exact Z9.at Q1 h
theorem OD.congr (h:OD bo bd L n F s t) (hF:∀ k,k<n→F k=F' k):OD bo bd L n F' s t :=
 Z9.map h fun s h=>Z9.weak h fun y ⟨f,h1,h2⟩=>⟨f,h1,fun k hk=>by rw [h2 k hk,hF k hk]⟩
end
theorem C1v {t:Tax} {rates nets:List Int} {D:Int→Bool} {L:List Int} (h:B3X t rates nets D L) (hD:∀ i,i<nets.length→D (-(gI rates i))=true):L=H6 t rates nets:=by
 have hl:(H6 t rates nets).length=nets.length:=by unfold H6;rw [D7i,D7F]
 refine C4e (by rw [h.1,hl]) fun i h1=>?_
 have hi:i<nets.length:=by rw [←h.1];exact h1
 have h3:=h.2 i hi
 rw [if_pos (hD i hi)] at h3
 rw [h3]
 unfold H6 gI
 rw [D7c,D8a,D8C hi];rfl
def A8w (rates:List Int) (k:Int) (m:Nat):Nat:=((List.range m).filter fun i=>-(gI rates i)==k).length
theorem C3Q (rates:List Int) (k:Int) (m:Nat):A8w rates k (m+1)=A8w rates k m+(if (-(gI rates m)==k)=true then 1 else 0):=by
 unfold A8w
 rw [D8G,D8Z,D7p]
 congr 1
 by_cases h:(-(gI rates m)==k)=true
 ·rw [if_pos h,D8f (p:=fun i=>-(gI rates i)==k) h];rfl
 ·rw [if_neg h,D8l (p:=fun i=>-(gI rates i)==k) h];rfl
theorem C6A (rates:List Int) (k:Int):A8w rates k rates.length=(L0 rates k).length:=rfl
theorem C9b {rates:List Int} {k:Int} {m:Nat} (hm:m≤rates.length):A8w rates k m≤(L0 rates k).length:=by
 unfold A8w L0
 exact (((List.range_sublist.2 hm).filter _).length_le)
theorem C9a {rates:List Int} {k:Int} {m:Nat} (hm:m<rates.length) (h:(-(gI rates m)==k)=true):A8w rates k m<(L0 rates k).length∧gN (L0 rates k) (A8w rates k m)=m:=by
 have hk : -(gI rates m)=k:=by simpa using h
 have hg:m∈L0 rates k:=D8d.2 ⟨D7t.2 hm,h⟩
 have e1:=A8J hm
 rw [(A0P hg).2.2] at e1
 have e2:A0R rates m=A8w rates k m:=by
  unfold A0R A8w
  congr 1
  refine List.filter_congr fun j _=>?_
  rw [E0g,D7Z,D7Z];omega
 rw [e2] at e1
 obtain ⟨e3,e4⟩:=D7w.1 e1
 refine ⟨e3,?_⟩
 show (((L0 rates k).getD (A8w rates k m) 0:Nat):Int)=m
 rw [D7c,e1];rfl
set_option maxHeartbeats 8000000 in
theorem B7w (t:Tax) (rates nets:List Int) (hn:A4Y nets) (hr:rates.length=nets.length) (hq:∀ x∈rates,0≤x∧x≤10000) (st:St) :
  S P 169 [T7 t,A9 rates,A9 nets] st fun v s=>∃ bo,v=.own 1 bo 0 nets.length∧st bo=none∧(∃ y,IsL (H6 t rates nets) y∧s bo=some y)∧F8 st s:=by
 have hnl:=hn.len
 have hns:=hn.sum
 have hol:(H6 t rates nets).length=nets.length:=by unfold H6;rw [D7i,D7F]
 refine F7 [3] Tryz.func169 ?_
 refine mkO rfl rfl rfl (by show 8 * nets.length≤_;omega) (by omega) (by rfl) (fun bo hbo=>?_);conv=>whnf
 refine mkO rfl rfl rfl (by show 1 * nets.length≤_;omega) (by omega) (by rfl) (fun bd hbd=>?_);conv=>whnf
 refine lp nets.length [1,2,3,7,8,9] (fun i vs u=>∃ (D:Int→Bool) (L:List Int),vs=[A9 rates,A9 nets,.fptr (T7 t) 0,.own 1 bo 0 nets.length,.own 1 bd 0 nets.length,eI i]∧B3X t rates nets D L∧(∀ j,j<i→D (-(gI rates j))=true)∧OD bo bd L nets.length (fun k=>D (-(gI rates k))) st u) ?_ ?_
 ·conv=>whnf
  exact ⟨fun _=>false,List.replicate nets.length 0,rfl,⟨D8i,fun i hi=>by
   rw [if_neg (by simp)];unfold gI
   rw [D7c,D9t];split<;>rfl⟩,fun j hj=>absurd hj (by omega),hbo,_,⟨fun _=>I1 r2.zero,by rw [D8i];rfl,fun i hi=>by
   unfold gI;rw [D7c,D9t];split<;>rfl⟩,hbd,_,⟨fun _=>I1 r4.zero,rfl,fun k hk=>rfl⟩,F8.refl _⟩
 rintro i vs u hi ⟨D,L,rfl,hdone,hall,hR⟩
 conv=>whnf
 cases h1:decide ((i:Int)<(nets.length:Int))
 case false =>
  obtain rfl:=B9 h1 hi
  have hL:=C1v hdone hall
  conv=>whnf
  obtain ⟨y,hy,hb⟩:=hR.atL
  have hsup:=(A6f ..).sup hR
  exact ⟨bo,rfl,hbo,⟨y,by rw [←hL];exact hy,hb⟩,hsup⟩
 have hi':=D6 h1
 obtain ⟨yd,⟨fd,rfl,hfd⟩,hbd2⟩:=hR.atD
 conv=>whnf
 refine E9 ?_
 refine ldV hbd2 rfl (by omega) (v:=eB (D (-(gI rates i)))) (by rw [show 0+((i:Nat):Int).toNat=i by omega];exact hfd i hi') ?_;conv=>whnf
 cases hD:D (-(gI rates i))
 case true =>
  conv=>whnf
  refine G3 ?_
  exact nx hi' ⟨D,L,by rw [B4 (by omega)],hdone,fun j hj=>by
   by_cases e:j=i
   ·rw [e];exact hD
   ·exact hall j (by omega),hR⟩
 clear hbd2 hfd
 obtain ⟨key,hkey⟩:∃ key,key = -(gI rates i):=⟨_,rfl⟩
 have hil:i<rates.length:=by omega
 have hrate:0≤gI rates i∧gI rates i≤10000:=hq (gI rates i) (A5 hil)
 have him:i∈L0 rates key:=D8d.2 ⟨D7t.2 hil,by rw [hkey];exact D9m _⟩
 have hnext:=B3Y (k:=key) hdone hr
 have hcl:=fun m (hm:m≤rates.length)=>C9b (k:=key) hm
 have hca:=fun m (hm:m<rates.length) h=>C9a (k:=key) hm h
 have hcn:=C3Q rates key
 have hce:=C6A rates key
 have hc0:A8w rates key i=0:=by
  unfold A8w
  rw [List.length_eq_zero_iff,List.filter_eq_nil_iff]
  intro j hj hk
  have hj:=D7t.1 hj
  have h2:=hall j hj
  rw [show -(gI rates j) = -(gI rates i) by rw [←hkey];simpa using hk,hD] at h2
  cases h2
 have hparts:(A2Z t rates nets key).length=(L0 rates key).length∧(∀ st,S P 220 [eI (O3 t (A2 ((L0 rates key).map (gI nets))) (gI rates i)),A9 ((L0 rates key).map (gI nets))] st fun v st'=>v=.tuple [A9 (A2Z t rates nets key),eI 0]∧st'=st):=by
  have hw:=A3m (t:=t) hn hr (i:=i) hrate
  have e:J1 rates nets i=(L0 rates key).map (gI nets):=by unfold J1;rw [(A0P him).2.2]
  rw [e] at hw
  have h3:=(U3 hw).2.1
  have e2:A2Z t rates nets key=D1 (O3 t (A2 ((L0 rates key).map (gI nets))) (gI rates i)) ((L0 rates key).map (gI nets)):=by unfold A2Z;rw [hkey,show - -(gI rates i)=gI rates i by omega]
  rw [e2]
  refine ⟨by rw [h3,D7i],fun st=>?_⟩
  exact A8a _ _ hw st
 have hGok:=fun j=>C8t (rates:=rates) (k:=key) (j:=j)
 have hsub:((L0 rates key).map (gI nets)).Sublist nets:=by
  have h1:((L0 rates key).map (gI nets)).Sublist ((List.range nets.length).map (gI nets)):=by
   refine List.Sublist.map _ ?_
   unfold L0;rw [hr];exact D9f
  rw [A6C] at h1;exact h1
 have hw0:∀ v∈(L0 rates key).map (gI nets),0≤v:=fun v hv=>hn.pos v (hsub.subset hv)
 have hws:A2 ((L0 rates key).map (gI nets))≤10000000000000:=by have:=B2X hsub hn.pos;omega
 have hGl:(L0 rates key).length≤nets.length:=by have:=hsub.length_le;rwa [D7i] at this
 have hGp:0<(L0 rates key).length:=List.length_pos_of_mem him
 have hgm:∀ j,j<(L0 rates key).length→gI ((L0 rates key).map (gI nets)) j=gI nets (gN (L0 rates key) j).toNat:=fun j hj=>by
  show gI ((L0 rates key).map (gI nets)) j=gI nets ((((L0 rates key).getD j 0:Nat):Int)).toNat
  rw [D7q]
  unfold gI
  rw [D7c,D8a,D7c (l:=L0 rates key),D7k hj];rfl
 generalize L0 rates key=G at *
 generalize A2Z t rates nets key=X at *
 generalize hCnt:A8w rates key=cnt at *
 conv=>whnf
 refine lp (nets.length - i) [1,2,3,7,8,9,10,11,12] (fun j vs u=>∃ (lv wv:AV),vs=[A9 rates,A9 nets,.fptr (T7 t) 0,.own 1 bo 0 nets.length,.own 1 bd 0 nets.length,eI i,lv,wv,eI ((i+j:Nat):Int)]∧ROut (fun s t=>ROut (OD bo bd L nets.length (fun m=>D (-(gI rates m))||(decide (m<i+j)&&(-(gI rates m)==key)))) 3 1 (fun x=>eI (gN G x)) (cnt (i+j)) s lv t) 2 1 (fun x=>eI (gI (G.map (gI nets)) x)) (cnt (i+j)) st wv u) ?_ ?_
 ·conv=>whnf
  refine ⟨.emp,.emp,rfl,?_⟩
  rw [D9v,hc0]
  refine ROut.start (show ROut _ _ _ _ 0 st .emp u from ROut.start (show OD _ _ _ _ _ st u from hR.congr fun m hm=>?_) _ _ _) _ _ _
  by_cases e:m<i
  ·rw [hall m e,D7X]
  ·rw [D7j e,D7z,D7V]
 clear hR
 rintro j vs w hj ⟨lv,wv,rfl,hR⟩
 conv=>whnf
 cases h2:decide ((((i+j:Nat)):Int)<(nets.length:Int))
 case true =>
  have hj':i+j<nets.length:=by have:=D7h h2;omega
  have hcj:=hcn (i+j)
  conv=>whnf
  refine ⟨[],[],List.range 9,by kernel_rfl,?_⟩;conv=>whnf
  refine E9 ?_
  refine E9 ?_
  have hk3:(rates.getD (((i+j:Nat):Int)).toNat default==rates.getD ((i:Nat):Int).toNat default)=(-(gI rates (i+j))==key):=by
   rw [D7q,D7q,hkey,E0g,D7Z,D7Z]
   show gI rates (i+j)=gI rates i↔-(gI rates (i+j)) = -(gI rates i)
   omega
  rw [hk3]
  cases h3:(-(gI rates (i+j))==key)
  case false =>
   rw [h3,if_neg (by simp)] at hcj;conv=>whnf
   refine G3 ?_
   refine nx (n:=nets.length - i) (by omega) ⟨lv,wv,by rw [B4 (by omega)];rfl,?_⟩
   rw [show i+(j+1)=i+j+1 from rfl,hcj]
   refine ROut.map hR fun s h=>ROut.map h fun s h=>OD.congr h fun m hm=>?_
   by_cases e:m=i+j
   ·subst e;rw [h3,D7H,D7H]
   ·rw [show decide (m<i+j+1)=decide (m<i+j) from D8P.2 (by omega)]
  rw [h3,if_pos rfl] at hcj
  obtain ⟨hc1,hc2⟩:=hca (i+j) (by omega) h3
  obtain ⟨s0,hw0,s1,hl0,hOD⟩:=hR
  obtain ⟨yd,⟨fd,rfl,hfd⟩,hbd2⟩:=hOD.atD
  conv=>whnf
  refine E9 ?_
  refine stU hbd2 (hfd (0+((i+j:Nat):Int).toNat) (by omega)) ?_
  have hOD2:OD bo bd L nets.length (fun m=>D (-(gI rates m))||(decide (m<i+j+1)&&(-(gI rates m)==key))) s1 _:=hOD.setD (IsF.set (i:=0+((i+j:Nat):Int).toNat) hfd (by rw [show 0+((i+j:Nat):Int).toNat=i+j by omega,h3,D7D (by omega),D7Q,D7U]) (fun k hk=>by
   rw [show decide (k<i+j+1)=decide (k<i+j) from D8P.2 (by omega)]))
  have hB1:=A6f bo bd L nets.length (fun m=>D (-(gI rates m))||(decide (m<i+j+1)&&(-(gI rates m)==key)))
  have hin:ROut (OD bo bd L nets.length (fun m=>D (-(gI rates m))||(decide (m<i+j+1)&&(-(gI rates m)==key)))) 3 1 (fun x=>eI (gN G x)) (cnt (i+j)) s0 lv _:=⟨s1,hl0,hOD2⟩
  have hout:ROut (fun s t=>ROut (OD bo bd L nets.length (fun m=>D (-(gI rates m))||(decide (m<i+j+1)&&(-(gI rates m)==key)))) 3 1 (fun x=>eI (gN G x)) (cnt (i+j)) s lv t) 2 1 (fun x=>eI (gI (G.map (gI nets)) x)) (cnt (i+j)) st wv _:=⟨s0,hw0,hin⟩
  have hwv:=ROut.head hout
  have hlv:=ROut.head hin
  have hgc:=hgm _ hc1
  rw [hc2] at hgc
  have hcl2:=hcl (i+j) (by omega)
  rcases hlv with rfl | ⟨bl,rfl⟩<;>rcases hwv with rfl | ⟨bw,rfl⟩
  all_goals
   conv=>whnf
   refine ⟨[2,3,8,9,10],[],[],.qui 0 (.qui 1 (.qui 4 (.qui 5 (.qui 6 (.qui 7 (.two 2 8 (.two 3 8 (.gen 8 (.gen 9 (.gen 10 (.qui 11 (.qui 12 .done))))) (.two 3 9 (.gen 9 (.gen 10 (.qui 11 (.qui 12 .done)))) (.gen 3 (.gen 10 (.qui 11 (.qui 12 .done)))))) (.two 2 9 (.two 3 9 (.gen 9 (.gen 10 (.qui 11 (.qui 12 .done)))) (.gen 3 (.gen 10 (.qui 11 (.qui 12 .done))))) (.gen 2 (.gen 3 (.gen 10 (.qui 11 (.qui 12 .done)))))))))))),by kernel_rfl,?_⟩;conv=>whnf
   refine E9 ?_
   repeat' (refine And.intro ?_ ?_<;>(conv=>whnf))
   all_goals
    refine ROut.app (q:=r3) hB1 rfl rfl rfl rfl rfl (f:=fun x=>eI (gN G x)) (by show _=eI _;rw [hc2];rfl) (by show (cnt (i+j)+1) * 8≤140737488355328;omega) hin (fun lv' w2 hin2=>?_)
    have hout2:ROut (fun s t=>ROut (OD bo bd L nets.length (fun m=>D (-(gI rates m))||(decide (m<i+j+1)&&(-(gI rates m)==key)))) 3 1 (fun x=>eI (gN G x)) (cnt (i+j)+1) s lv' t) 2 1 (fun x=>eI (gI (G.map (gI nets)) x)) (cnt (i+j)) st _ w2:=⟨s0,hw0,hin2⟩
    conv=>whnf
    refine ROut.app (q:=r2) (W0 hB1 _ _ _ _ _) rfl rfl rfl rfl rfl (f:=fun x=>eI (gI (G.map (gI nets)) x)) (by show _=eI _;rw [hgc];rfl) (by show (cnt (i+j)+1) * 8≤140737488355328;omega) hout2 (fun wv' w3 hout3=>?_);conv=>whnf
    refine G3 ?_
    refine nx (n:=nets.length - i) (by omega) ⟨lv',wv',by rw [B4 (by omega)];rfl,?_⟩
    rw [show i+(j+1)=i+j+1 from rfl,hcj]
    exact hout3
 have hije:i+j=rates.length:=by have:=D7g h2;omega
 rw [hije,hce] at hR
 obtain ⟨w2,hsh,hR2⟩:=ROut.shift (W0 (A6f ..) _ _ _ _ _) hR
 have e0:AV.arr 1 G.length (fun x=>eI (gI (G.map (gI nets)) x))=A9 (G.map (gI nets)):=by unfold A9 A8;rw [D7i]
 rw [e0] at hsh
 have hsm:S P 118 [wv] w fun v s=>v=eI (A2 (G.map (gI nets)))∧s=w :=
  S.lends (B0c (G.map (gI nets)) (by rw [D7i];omega) hw0 (by omega) st0) (hsh.trans ((C7Z _).shift _)) fun v hv=>⟨_,rfl,by rw [hv];exact So.int _ _⟩
 have hpt:=fun s=>B5D t (A2 (G.map (gI nets))) (gI rates i) hrate s
 generalize A2 (G.map (gI nets))=W at hsm hpt hparts
 generalize O3 t W (gI rates i)=M at hpt hparts
 obtain ⟨bw,rfl⟩:∃ b,wv=.own 1 b 0 G.length:=by
  rcases ROut.head hR with rfl | h
  ·obtain ⟨s0,⟨h0,_⟩ | ⟨_,b,_,_,h1,_⟩,_⟩:=hR
   ·omega
   ·cases h1
  ·exact h
 conv=>whnf
 refine ⟨[9],[],List.range 15,by kernel_rfl,?_⟩;conv=>whnf
 refine cqW hsm ?_
 refine E9 ?_
 refine cqW (hpt _) ?_
 refine E2 (args':=[eI M,A9 (G.map (gI nets))]) (A7.cons (A7.keep _ _) hsh) (B2 (hparts.2 _) ?_);conv=>whnf
 obtain ⟨bl,rfl⟩:∃ b,lv=.own 1 b 0 G.length:=by
  rcases ROut.head hR2 with rfl | h
  ·obtain ⟨s0,⟨h0,_⟩ | ⟨_,b,_,_,h1,_⟩,_⟩:=hR2
   ·omega
   ·cases h1
  ·exact h
 refine lp G.length [1,2,3,7,8,9,10,13,15] (fun j vs u=>vs=[A9 rates,A9 nets,.fptr (T7 t) 0,.own 1 bo 0 nets.length,.own 1 bd 0 nets.length,eI i,.own 1 bl 0 G.length,A9 X,eI j]∧ROut (OD bo bd (A4K L G X j) nets.length (fun m=>D (-(gI rates m))||(decide (m<rates.length)&&(-(gI rates m)==key)))) 3 1 (fun x=>eI (gN G x)) G.length st (.own 1 bl 0 G.length) u) ?_ ?_
 ·conv=>whnf
  exact ⟨rfl,hR2⟩
 clear hR hR2 hsm hsh
 rintro j vs v hjx ⟨rfl,hR3⟩
 have hPl:=A8V L G X j
 have hdl:=hdone.1
 have hXl:=hparts.1
 conv=>whnf
 cases h5:decide ((j:Int)<(G.length:Int))
 case true =>
  have hj5:=D6 h5
  have hGj:=hGok j (by omega)
  obtain ⟨s0,hcl,hOD⟩:=hR3
  obtain ⟨g,hb3,h4⟩:∃ g,v bl=some ⟨3,1,G.length,g⟩∧∀ k,k<G.length→g k=eI (gN G k):=by
   rcases hcl with ⟨h0,_⟩ | ⟨_,b,g,h3,h4,h5,h6⟩
   ·omega
   ·injection h4 with _ h4 _ _
    subst h4
    exact ⟨g,(A6f ..).sup hOD bl _ (by rw [h5];exact A0 ..),h6⟩
  obtain ⟨yo,⟨fo,rfl,hfo⟩,hbo3⟩:=hOD.atL
  conv=>whnf
  refine ⟨[10],[],List.range 11,by kernel_rfl,?_⟩;conv=>whnf
  refine E9 ?_
  refine ldV hb3 rfl (by show 0+((j:Nat):Int).toNat<G.length;omega) (v:=eI (gN G j)) (by show g (0+((j:Nat):Int).toNat)=_;rw [show 0+((j:Nat):Int).toNat=j by omega];exact h4 j (by omega)) ?_;conv=>whnf
  refine E9 ?_
  refine E9 ?_
  refine stV hbo3 rfl (by show 0+(gN G j).toNat<(A4K L G X j).length;omega) (hfo (0+(gN G j).toNat) (by omega)) (by rfl) ?_;conv=>whnf
  refine G3 ?_
  have hset:IsL (A4K L G X (j+1)) ⟨2,1,(A4K L G X j).length,I6 fo (0+(gN G j).toNat) (eI (gI X (j:Int).toNat))⟩:=by
   have:=IsL.set (i:=(gN G j).toNat) (v:=gI X j) hfo
   rw [show 0+(gN G j).toNat=(gN G j).toNat by omega,show (j:Int).toNat=j by omega]
   exact this
  exact nx hj5 ⟨by rw [B4 (by omega)],⟨_,hcl,hOD.setL hset⟩⟩
 obtain rfl:=B9 h5 hjx
 have hfin:=ROut.dropped (A6f ..) hR3
 conv=>whnf
 refine G3 ?_
 refine nx hi' ⟨fun y=>D y||y==key,A4K L G X G.length,by rw [B4 (by omega)],hnext,fun j hj=>?_,hfin.congr fun m hm=>?_⟩
 ·show (D (-(gI rates j))||(-(gI rates j)==key))=true
  by_cases e:j=i
  ·subst e;rw [hkey,D9m,D7U]
  ·rw [hall j (by omega),D7X]
 ·rw [D7D (by omega),D7u]
def C0m (v:B8i):AV:=.agg [A9 v.goods,A9 v.taxes,eI v.ship,eI v.shipTax]
def A0s (nets taxes:List Int) (j k:Nat):Int:=if k<j then gI nets k - gI taxes k else gI nets k
set_option maxHeartbeats 8000000 in
theorem C7F {t:Tax} {z:K9} {s:C8} {cats:List C8} {nets:List Int} {ship:Int} (h:A2R t z cats nets ship) (hsm:B3M t) (hz:Z3 t.zones s=some z) (exempt:Bool) (st:St) :
  S P 117 [T7 t,eS s,eB exempt,D5 cats,A9 nets,eI ship] st fun v st' =>
   v=.tuple [C0m (M8 t z exempt cats nets ship),eI 0]∧st'=st:=by
 obtain ⟨hr1,hr2⟩:=A3M h
 obtain ⟨t1,t2⟩:=A6L (t:=t) h.nets hr1 hr2
 obtain ⟨l1,l2⟩:=B4E h.tax
 have hzm:z∈t.zones:=D9A hz
 have hzr:=l2 z hzm
 have hn:=h.nets.len
 have hns:=h.nets.sum
 have hnp:=h.nets.pos
 have hcl:=h.cats
 have hq:=(A4U h.zone).2.1
 have hm:=A3n (t:=t) h.ship.1 hq
 have hs:=h.ship
 have hT:∀ s,S P 135 [T7 t] s fun v st'=>v=.bool true∧st'=s:=fun s=>by
  have:=C5i t hsm s
  rw [h.tax] at this;exact this
 have hZ:∀ st,S P 166 [T7 t,eS s] st fun v st'=>v=.tuple [S9 z,.bool true]∧st'=st:=fun st=>by
  have:=C2q t s (by omega) st
  rw [hz] at this;exact this
 have hR':=fun c st=>C2o z c (by omega) st
 have hU:=fun st=>B5D t ship z.ship hq st
 have hL:M8 t z exempt cats nets ship=⟨(List.range nets.length).map (A0f t (L2 t (cats.map (F5 z)) nets) nets),if exempt=true then List.replicate nets.length 0 else L2 t (cats.map (F5 z)) nets,if t.incl=true then ship - O3 t ship z.ship else ship,if exempt=true then 0 else O3 t ship z.ship⟩:=rfl
 rw [hL]
 have hnx:∀ i,i<nets.length→0≤gI nets i∧gI nets i≤10000000000000:=fun i hi=>by
  have h1:=h.nets.pos _ (show gI nets i∈nets from A5 hi)
  have h2:=J7 h.nets.pos (show gI nets i∈nets from A5 hi)
  exact ⟨h1,by omega⟩
 have htx:∀ i,i<nets.length→0≤gI (L2 t (cats.map (F5 z)) nets) i∧gI (L2 t (cats.map (F5 z)) nets) i≤10000000000000:=fun i hi=>t2 _ (A5 (by omega))
 obtain ⟨MS,hMS⟩:∃ MS,MS=O3 t ship z.ship:=⟨_,rfl⟩
 obtain ⟨TX,hTX⟩:∃ TX,TX=L2 t (cats.map (F5 z)) nets:=⟨_,rfl⟩
 rw [←hMS] at hm hU ⊢
 rw [←hTX] at t1 htx ⊢
 obtain ⟨SH,hSH⟩:∃ SH,SH=if t.incl=true then ship - MS else ship:=⟨_,rfl⟩
 rw [←hSH]
 clear t2 hL
 refine S.post (post:=fun v s=>∃ gv tv bg bt,v=.tuple [.agg [gv,tv,eI SH,eI (if exempt=true then 0 else MS)],eI 0]∧LV 1 bg nets.length gv∧LV 1 bt nets.length tv ∧
   C9 st [(bt,⟨2,1,nets.length,fun k=>eI (gI (if exempt=true then List.replicate nets.length 0 else TX) k)⟩),(bg,⟨2,1,nets.length,fun k=>eI (gI ((List.range nets.length).map (A0f t TX nets)) k)⟩)] s) ?_
  (fun v s ⟨gv,tv,bg,bt,h1,h2,h3,h4⟩=>by
   obtain ⟨s1,h5,h6⟩:=h4.frzL (.s .z) h2
   obtain ⟨s2,h7,h8⟩:=h5.frzL .z h3
   rw [show AV.arr 1 nets.length _=A9 ((List.range nets.length).map (A0f t TX nets)) by unfold A9 A8;rw [D7i,D7F]] at h6
   rw [show AV.arr 1 nets.length _=A9 (if exempt=true then List.replicate nets.length 0 else TX) by unfold A9 A8;rw [show (if exempt=true then List.replicate nets.length 0 else TX).length=nets.length by cases exempt<;>simp [t1]]] at h8
   refine ⟨_,st,⟨rfl,rfl⟩,?_⟩
   rw [h1]
   exact (A7.tuple (A7.cons (A7.agg (A7.cons h6 (A7.cons h8 (A7.keep _ _)))) (A7.keep _ _)) rfl).trans (h7.fin _))
 refine A0o [6] A4i mixed Tryz.func117 (by rfl) rfl rfl rfl ?_;conv=>whnf
 intro b12 hb12
 generalize hs:(upd st b12 _:St)=w
 have h9:=C9.new' hs (A0u st) hb12
 clear hs hb12
 have d1:((nets.length:Int) != (nets.length:Int))=false:=bne_self_eq_false _
 have d2:decide ((nets.length:Int)>1000)=false:=D7j (by omega)
 have d3:decide (ship<0)=false:=D7j (by omega)
 have d4:decide (ship>10000000000000)=false:=D7j (by omega)
 repeat' ((conv=>whnf);first | refine B2 (hT _) ?_ | rw [hcl,d1] | rw [d2] | rw [d3] | rw [d4] | fail)
 conv=>whnf
 refine lp nets.length [1,2,3,4,5,6,12,14,15] (fun i vs u=>vs=[eS s,eB exempt,D5 cats,A9 nets,eI ship,.fptr (T7 t) 0,.optr 4 b12 0 0,eI (A2 (nets.take i)),eI i]∧u=w) ?_ ?_
 ·conv=>whnf
  exact ⟨rfl,rfl⟩
 rintro i vs u hi ⟨rfl,rfl⟩
 conv=>whnf
 cases h1:decide ((i:Int)<(nets.length:Int))
 case true =>
  have hi':=D6 h1
  have hx:0≤gI nets (i:Int).toNat:=hnp _ (A5 hi')
  have hs1:=N5 hnp (i+1)
  have hs2:0≤A2 (nets.take i):=C1 fun x hx=>hnp x (E0a hx)
  have hst:A2 (nets.take (i+1))=A2 (nets.take i)+gI nets (i:Int).toNat:=K4 hi'
  have d5:decide (gI nets (i:Int).toNat<0)=false:=D7j (by omega)
  have hw1:IntKind.i64.wrap (10000000000000 - A2 (nets.take i))=10000000000000 - A2 (nets.take i):=A4 (by omega) (by omega)
  have d6:decide (gI nets (i:Int).toNat>10000000000000 - A2 (nets.take i))=false:=D7j (by omega)
  have hw2:IntKind.i64.wrap (A2 (nets.take i)+gI nets (i:Int).toNat)=A2 (nets.take (i+1)):=(A4 (by omega) (by omega)).trans hst.symm
  change decide (nets.getD (i:Int).toNat default<0)=false at d5
  change decide (nets.getD (i:Int).toNat default>10000000000000 - A2 (nets.take i))=false at d6
  repeat' ((conv=>whnf);first | refine ⟨rfl,⟨by omega,by omega⟩,?_⟩ | rw [d5] | rw [hw1,d6] | rw [hw2] | fail)
  refine G3 ?_
  exact nx hi' ⟨by rw [B4 (by omega)],rfl⟩
 obtain rfl:=B9 h1 hi
 conv=>whnf
 refine I3 (hZ _) ?_
 intro b16 hb16;conv=>whnf
 generalize hs:(upd u b16 _:St)=w
 have h9:=C9.new' hs h9 hb16
 clear hs hb16
 refine F1 h9 .z rfl rfl (by rfl) ?_;conv=>whnf
 intro w h9
 have h9:=h9.soft 0 2 1 (fun k=>eI (A0s nets TX 0 k))
 conv=>whnf
 refine .inr ⟨[2,10,11],.qui 0 (.qui 1 (.qui 3 (.qui 4 (.qui 5 (.qui 6 (.qui 7 (.two 2 10 [4,7] [0,4,7] (.qui 8 (.qui 9 (.eff 10 [0,4,7,8] (.eff 11 [] (.done))))) (.eff 2 [4,7] (.qui 8 (.qui 9 (.eff 11 [] (.done)))))))))))),by kernel_rfl,?_⟩
 have hb:=h9.has1 (.s .z)
 repeat' ((conv=>whnf);first | refine quT (fun _=>⟨rfl,rfl⟩) ?_ | refine quL hb (fun _ hs=>X4 hs rfl Nat.one_pos rfl ⟨rfl,rfl⟩) ?_ | fail)
 refine ⟨?A,?B⟩
 case' A =>
  conv=>whnf
  refine B5m (q:=r2) (m:=nets.length) (g:=fun k=>eI (gI nets k)) h9 (OV.nil 1 0) .z rfl rfl rfl rfl (by rfl) (A3P ..) (f':=fun k=>eI (A0s nets TX 0 k)) (by show (0+nets.length) * 8≤140737488355328;omega) (fun i _=>by unfold A0s;rw [if_neg (by omega),if_neg (by omega)];rfl) (fun gv bg hg=>?_);conv=>whnf
  intro w h9
  rw [D7o nets.length] at hg h9
  have hb:=h9.has1 (.s .z)
  have e1:=A2w hg.one
  have e2:=B1g hg.one
  repeat' ((conv=>whnf);first | refine ⟨fun _=>trivial,?_⟩ | refine ⟨fun _=>hb,?_⟩ | refine quT (fun s=>F3 (hU s)) ?_ | rw [e1] | rw [e2] | fail)
  conv=>whnf
  intro b18 hb18
  generalize hs:(upd w b18 _:St)=w2
  have h9:=C9.new' hs h9 hb18
  clear hs hb18
  have hb:=h9.has1 (.s (.s .z))
  repeat' ((conv=>whnf);first | refine ⟨fun _=>trivial,?_⟩ | refine ⟨fun _=>hb,?_⟩ | fail)
 case' B =>
  conv=>whnf
  intro b18 hb18
  generalize hs:(upd w b18 _:St)=w2
  have h9:=C9.new' hs h9 hb18
  clear hs hb18
  have hb:=h9.has1 (.s (.s .z))
  repeat' ((conv=>whnf);first | refine ⟨fun _=>trivial,?_⟩ | refine ⟨fun _=>hb,?_⟩ | fail)
  conv=>whnf
  refine B5m (q:=r2) (m:=nets.length) (g:=fun k=>eI (gI nets k)) h9 (OV.nil 1 0) (.s .z) rfl rfl rfl rfl (by rfl) (A3P ..) (f':=fun k=>eI (A0s nets TX 0 k)) (by show (0+nets.length) * 8≤140737488355328;omega) (fun i _=>by unfold A0s;rw [if_neg (by omega),if_neg (by omega)];rfl) (fun gv bg hg=>?_);conv=>whnf
  intro w2 h9
  rw [D7o nets.length] at hg h9
  have hb:=h9.has1 (.s (.s .z))
  have e1:=A2w hg.one
  have e2:=B1g hg.one
  repeat' ((conv=>whnf);first | refine ⟨fun _=>trivial,?_⟩ | refine ⟨fun _=>hb,?_⟩ | refine quT (fun s=>F3 (hU s)) ?_ | rw [e1] | rw [e2] | fail)
 all_goals
  conv=>whnf
  refine F1 h9 .z rfl rfl (by show (_&&_&&(gv.one&&_)&&_)=true;rw [hg.one];rfl) ?_;conv=>whnf
  intro w3 h9;conv=>whnf
  clear hb e1 e2
  refine lp nets.length [2,3,4,5,6,12,16,18,19,20] (fun i vs u=>∃ sv bs tv bt,vs=[eB exempt,D5 cats,A9 nets,eI ship,.fptr (T7 t) 0,.optr 4 b12 0 0,.optr 4 b16 0 0,.optr 4 b18 0 0,sv,eI i]∧OV 1 bs i sv∧OV 1 bt i tv ∧
   C9 st [(bs,⟨2,1,i,fun k=>eI (gI (cats.map (F5 z)) k)⟩),(bt,⟨2,1,i,fun k=>eI (gI (Y6 t (cats.map (F5 z)) nets) k)⟩),(b18,⟨175,4,1,fun _=>.agg [gv,tv,eI ship,eI MS]⟩),(bg,⟨2,1,nets.length,fun k=>eI (A0s nets TX 0 k)⟩),(b16,⟨103,4,1,fun _=>S9 z⟩),(b12,⟨175,4,1,fun _=>I1 C7y.zero⟩)] u) ?_ ?_
  ·conv=>whnf
   exact ⟨_,0,_,0,rfl,OV.nil ..,OV.nil ..,(h9.soft ..).soft ..⟩
  clear h9
  rintro i vs u hi ⟨sv,bs,tv,bt,rfl,hsv,htv,h9⟩
  have hb16:=h9.has1 (.s (.s (.s (.s .z))))
  conv=>whnf
  cases h1:decide ((i:Int)<(nets.length:Int))
  case true =>
   have hi':=D6 h1
   have hRi:=fun st=>hR' (cats.getD (i:Int).toNat default) st
   have hgR:gI (cats.map (F5 z)) i=F5 z (cats.getD (i:Int).toNat default):=D4 (F5 z) cats (by omega)
   have hgL:gI (Y6 t (cats.map (F5 z)) nets) i=O3 t (gI nets i) (gI (cats.map (F5 z)) i):=by
    unfold Y6;unfold gI
    rw [D7c,D8a,D8C hi'];rfl
   have hrt:0≤F5 z (cats.getD (i:Int).toNat default)∧F5 z (cats.getD (i:Int).toNat default)≤10000:=B7v h.zone _
   have hU2:=fun st=>B5D t (gI nets (i:Int).toNat) (F5 z (cats.getD (i:Int).toNat default)) hrt st
   rw [hgR] at hgL
   generalize F5 z (cats.getD (i:Int).toNat default)=RT at hRi hgR hgL hU2
   conv=>whnf
   refine .inl ⟨[7,8],[],List.range 10,by kernel_rfl,?_⟩
   repeat' ((conv=>whnf);first | refine X4 hb16 rfl Nat.one_pos rfl ?_ | refine ⟨rfl,⟨by omega,by omega⟩,?_⟩ | refine ⟨_,F3 (hRi _),?_⟩ | fail)
   conv=>whnf
   refine B5m (q:=r2) (m:=1) (g:=fun j=>[eI RT].getD j AV.junk) h9 hsv .z rfl rfl rfl rfl (by rfl) rfl (f':=fun k=>eI (gI (cats.map (F5 z)) k)) (by show (i+1) * 8≤140737488355328;omega) (fun k hk=>?_) (fun sv bs hsv=>?_)
   ·split
    ·rfl
    ·rw [show k=i by omega,Nat.sub_self,hgR];rfl
   conv=>whnf
   intro w h9;conv=>whnf
   obtain rfl:=hsv.own (Nat.succ_pos i)
   have hb18:=h9.has1 (.s (.s .z))
   have hbs:=h9.has .z (Nat.succ_pos i)
   refine .inr ⟨[12,13,15],.qui 0 (.qui 1 (.qui 2 (.qui 3 (.qui 4 (.qui 5 (.qui 6 (.qui 7 (.qui 8 (.qui 9 (.qui 10 (.qui 11 (.eff 12 [1] (.eff 13 [] (.qui 14 (.eff 15 [] (.done)))))))))))))))),by kernel_rfl,?_⟩
   repeat' ((conv=>whnf);first | refine quT (fun _=>⟨rfl,rfl⟩) ?_ | refine quL hb18 (fun _ hs=>X4 hs rfl Nat.one_pos rfl ⟨rfl,rfl⟩) ?_ | refine ⟨rfl,⟨by omega,by omega⟩,?_⟩ | refine quL hbs (fun _ hs=>X4 hs rfl (show 0+(i:Int).toNat<i+1 by omega) (x:=eI RT) (by show eI (gI _ (0+(i:Int).toNat))=_;rw [show 0+(i:Int).toNat=i by omega,hgR]) ⟨rfl,rfl⟩) ?_ | refine quT (fun s=>F3 (hU2 s)) ?_ | refine ⟨fun h=>h,?_⟩ | fail)
   conv=>whnf
   refine B5m (q:=r2) (m:=1) (g:=fun j=>[eI (O3 t (gI nets i) RT)].getD j AV.junk) h9 htv (.s .z) rfl rfl rfl rfl (by rfl) rfl (f':=fun k=>eI (gI (Y6 t (cats.map (F5 z)) nets) k)) (by show (i+1) * 8≤140737488355328;omega) (fun k hk=>?_) (fun tv bt htv=>?_)
   ·split
    ·rfl
    ·rw [show k=i by omega,Nat.sub_self,hgL];rfl
   conv=>whnf
   intro w h9;conv=>whnf
   refine C4K h9 (.s (.s .z)) rfl rfl rfl htv.one (by decide) ?_;conv=>whnf
   intro w h9;conv=>whnf
   refine G3 ?_
   exact nx hi' ⟨_,_,_,_,by rw [B4 (by omega)],hsv,htv,h9⟩
  obtain rfl:=B9 h1 hi
  clear hb16
  conv=>whnf
  cases hbo:t.byOrder
  case' false =>
   have e0:TX=Y6 t (cats.map (F5 z)) nets:=by rw [hTX];exact if_neg (by rw [hbo];simp)
   rw [←e0] at h9
   replace htv:=htv.lv
   replace h9:=h9.drop 0
  case' true =>
   have e0:TX=H6 t (cats.map (F5 z)) nets:=by rw [hTX];exact if_pos hbo
   obtain ⟨w,h9,hsh⟩:=h9.frz .z hsv
   rw [show AV.arr 1 nets.length _=A9 (cats.map (F5 z)) by unfold A9 A8;rw [hr1]] at hsh;conv=>whnf
   refine E2 (args':=[T7 t,A9 (cats.map (F5 z)),A9 nets]) (A7.cons (A7.keep _ _) (A7.cons hsh (A7.keep _ _))) (call (B7w t _ nets h.nets hr1 hr2 _) (fun v w2 hv=>?_))
   obtain ⟨bt,rfl,hbt0,⟨y,⟨f,rfl,hf⟩,hbt1⟩,hsup⟩:=hv
   rw [←e0,t1] at hbt1 hf
   replace h9:=h9.got (y:=⟨2,1,nets.length,fun k=>eI (gI TX k)⟩) hbt0 hsup ⟨f,hbt1,hf⟩
   conv=>whnf
   refine F1 h9 (.s (.s .z)) rfl rfl (by rfl) ?_;conv=>whnf
   intro w h9
   replace h9:=h9.drop 1
   replace htv:=LV.of 1 bt nets.length
   generalize AV.own 1 bt 0 nets.length=tv at *
  all_goals
   dsimp only [List.eraseIdx] at h9
   conv=>whnf
   refine lp nets.length [2,4,5,6,12,18,21] (fun j vs u=>vs=[eB exempt,A9 nets,eI ship,.fptr (T7 t) 0,.optr 4 b12 0 0,.optr 4 b18 0 0,eI j]∧(t.incl=false→j=0) ∧
    C9 st [(bt,⟨2,1,nets.length,fun k=>eI (gI TX k)⟩),(b18,⟨175,4,1,fun _=>.agg [gv,tv,eI ship,eI MS]⟩),(bg,⟨2,1,nets.length,fun k=>eI (A0s nets TX j k)⟩),(b16,⟨103,4,1,fun _=>S9 z⟩),(b12,⟨175,4,1,fun _=>I1 C7y.zero⟩)] u) ?_ ?_
   ·conv=>whnf
    exact ⟨rfl,fun _=>rfl,h9⟩
   clear h9
   rintro j vs u hj ⟨rfl,hj0,h9⟩
   conv=>whnf
   cases h5:decide ((j:Int)<(nets.length:Int))<;>cases hin:t.incl
   case' true.true =>
    have hj5:=D6 h5
    obtain rfl:=hg.own (by omega)
    obtain rfl:=htv.own (by omega)
    have hb18:=h9.has1 (.s .z)
    have hbt:=h9.has .z (show 0<nets.length by omega)
    have hbg:=h9.has (.s (.s .z)) (show 0<nets.length by omega)
    have hx1:=hnx j hj5
    have hx2:=htx j hj5
    have hw:IntKind.i64.wrap (gI nets (j:Int).toNat - gI TX (j:Int).toNat)=gI nets j - gI TX j:=A4 (by show _≤gI nets j - gI TX j;omega) (by show gI nets j - gI TX j≤_;omega)
    conv=>whnf
    rw [hin];conv=>whnf
    refine .inl ⟨[14],[],List.range 15,by kernel_rfl,?_⟩
    repeat' ((conv=>whnf);first | refine X4 hb18 rfl Nat.one_pos rfl ?_ | refine ⟨rfl,⟨by omega,by omega⟩,?_⟩ | refine X4 hbt rfl (show 0+(j:Int).toNat<nets.length by omega) (x:=eI (gI TX (j:Int).toNat)) (by show eI (gI TX (0+(j:Int).toNat))=_;rw [D7o]) ?_ | rw [hw] | fail)
    conv=>whnf
    refine C9x h9 (.s (.s .z)) rfl (show 0+(j:Int).toNat<nets.length by omega) rfl (by rfl) ?_;conv=>whnf
    intro w h9;conv=>whnf
    refine G3 ?_
    refine nx hj5 ⟨by rw [B4 (by omega)],fun e=>(by cases e),h9.as (fun k=>eI (A0s nets TX (j+1) k)) (.s (.s .z)) fun k hk=>?_⟩
    show I6 (fun k=>eI (A0s nets TX j k)) (0+(j:Int).toNat) (eI (gI nets j - gI TX j)) k=eI (A0s nets TX (j+1) k)
    rw [show 0+(j:Int).toNat=j by omega]
    by_cases e:k=j
    ·subst e;rw [A6];unfold A0s;rw [if_pos (by omega)]
    ·rw [H7 e];unfold A0s
     by_cases hh:k<j
     ·rw [if_pos hh,if_pos (by omega)]
     ·rw [if_neg hh,if_neg (by omega)]
   all_goals
    have hx:∀ k,k<nets.length→eI (A0s nets TX j k)=eI (gI ((List.range nets.length).map (A0f t TX nets)) k):=fun k hk=>by
     rw [show gI ((List.range nets.length).map (A0f t TX nets)) k=A0f t TX nets k by unfold gI;simp [D7c,hk]]
     unfold A0s A0f
     rcases (by first | exact .inl ⟨hin,B9 h5 hj⟩ | exact .inr ⟨hin,hj0 hin⟩:(t.incl=true∧j=nets.length)∨(t.incl=false∧j=0)) with ⟨e,rfl⟩ | ⟨e,rfl⟩
     ·rw [if_pos hk,if_pos e]
     ·rw [if_neg (by omega),if_neg (by rw [e];simp)]
    replace h9:=h9.as (fun k=>eI (gI ((List.range nets.length).map (A0f t TX nets)) k)) (.s (.s .z)) hx
    dsimp only [List.set] at h9
   case' false.true =>
    have hwS:IntKind.i64.wrap (ship - MS)=SH:=by rw [hSH,if_pos hin];exact A4 (by omega) (by omega)
    repeat' ((conv=>whnf);first | rw [hin] | refine L8 h9 (.s .z) rfl Nat.one_pos rfl ?_ | fail)
    conv=>whnf
    rw [hwS]
    refine F1 h9 (.s .z) rfl rfl (by rfl) ?_;conv=>whnf
    intro w h9
   case' false.false=>obtain rfl:SH=ship:=by rw [hSH,if_neg (by rw [hin];simp)]
   case' true.false=>obtain rfl:SH=ship:=by rw [hSH,if_neg (by rw [hin];simp)]
   all_goals
    repeat' ((conv=>whnf);first | rw [hin] | fail)
    conv=>whnf
    cases exempt
    case' true =>
     conv=>whnf
     refine D4B (e:=1) h9 rfl rfl rfl rfl (by show 8 * nets.length≤_;omega) (by omega) (by rfl) (fun bz w h9=>?_)
     replace h9:=h9.as (fun k=>eI (gI (List.replicate nets.length 0) k)) .z fun k _=>by unfold gI;rw [B8e];rfl
     conv=>whnf
     refine F1 h9 (.s (.s .z)) rfl rfl (by rfl) ?_;conv=>whnf
     intro w h9;conv=>whnf
     refine F1 h9 (.s (.s .z)) rfl rfl (by rfl) ?_;conv=>whnf
     intro w h9
     replace h9:=h9.drop 1
     replace htv:=LV.of 1 bz nets.length
     generalize AV.own 1 bz 0 nets.length=tv at *
     dsimp only [List.eraseIdx] at h9
    all_goals
     conv=>whnf
     refine L8 h9 (.s .z) rfl Nat.one_pos rfl ?_;conv=>whnf
     refine F1 h9 (.s (.s (.s (.s .z)))) rfl rfl (by show (_&&_&&(gv.one&&(tv.one&&_))&&_)=true;rw [hg.one,htv.one];rfl) ?_;conv=>whnf
     intro w h9;conv=>whnf
     refine L8 h9 (.s (.s (.s (.s .z)))) rfl Nat.one_pos rfl ?_;conv=>whnf
     exact ⟨gv,tv,bg,_,rfl,hg.lv,htv,((h9.drop 4).drop 3).drop 1⟩
theorem B1i (l:List Int) (h:I9 l) (st:St):S P 118 [A9 l] st fun v st'=>v=eI (A2 l)∧st'=st:=by
 have hn:=h.len
 refine F7 [] Tryz.func118 ?_
 refine lp l.length [0,3,4] (fun i vs t=>vs=[A9 l,eI (A2 (l.take i)),eI i]∧t=st) ?_ ?_
 ·conv=>whnf
  exact ⟨rfl,rfl⟩
 ·rintro i vs t hi ⟨rfl,rfl⟩
  conv=>whnf
  cases h1:decide ((i:Int)<(l.length:Int))
  ·obtain rfl:=B9 h1 hi
   rw [D7m];conv=>whnf
   exact ⟨rfl,rfl⟩
  ·have hi':=D6 h1
   have hs:IntKind.i64.wrap (A2 (l.take i)+gI l (i:Int).toNat)=A2 (l.take (i+1)):=h.step hi'
   conv=>whnf
   refine E9 ?_
   rw [hs]
   refine G3 ?_
   exact nx hi' ⟨by rw [B4 (by omega)],rfl⟩
theorem C0I (q:O5) (h1:I9 q.goods) (h2:I9 q.taxes) (st:St):S P 82 [A1x q] st fun v st'=>v=A0B (O2 q)∧st'=st:=by
 have c1:=fun s=>B1i q.goods h1 s
 have c2:=fun s=>B1i q.taxes h2 s
 have hB:O2 q=⟨A2 q.goods,A2 q.taxes,q.ship,q.shipTax,0⟩:=rfl
 rw [hB]
 generalize A2 q.goods=G at c1 ⊢
 generalize A2 q.taxes=T' at c2 ⊢
 refine A0g ?_
 refine F7 [1] Tryz.func82 ?_
 intro b2 hb;conv=>whnf
 refine ⟨[11],[],List.range 12,by kernel_rfl,?_⟩;conv=>whnf
 refine cqW (c1 _) ?_
 refine cqW (c2 _) ?_
 refine stW (A0 ..) rfl ?_
 refine L1 (A0 ..) (A6 ..) ?_
 exact ⟨rfl,((F8.refl st).upd hb).over hb⟩
theorem So.book (b:A2n):So (A0B b) (A0B b):=So.agg (.cons (So.int _ _) (.cons (So.int _ _) (.cons (So.int _ _) (.cons (So.int _ _) (.cons (So.int _ _) .nil)))))
set_option maxHeartbeats 8000000 in
theorem C5g {r:E0} {codes:List C8} {l:List E6} {Pr:A6c} {z:K9} {zone:C8} (exempt:Bool)
  (hP:∀ st,S P 115 [F4 r,D5 codes,A8 3 I7 l] st fun v s=>v=.tuple [A1t Pr,eI 0]∧s=st)
  (hI:∀ st,S P 116 [A8 4 F2 r.items,A8 3 I7 l] st fun v s=>v=A8 4 F2 (C2 r.items l)∧s=st)
  (hln:l.length≤1000) (hV:A2R r.tax z (N6 r l) Pr.nets Pr.ship) (hsm:B3M r.tax) (hz:Z3 r.tax.zones zone=some z) (st:St) :
  S P 56 [F4 r,eS zone,eB exempt,D5 codes,A8 3 I7 l] st fun v st'=>v=.tuple [A1x (A9Z r z exempt l Pr),eI 0]∧st'=st:=by
 have hQ:=B1e hV exempt Pr.deals
 have hlv:=fun s=>C7F hV hsm hz exempt s
 have hq:A9Z r z exempt l Pr=⟨(M8 r.tax z exempt (N6 r l) Pr.nets Pr.ship).goods,(M8 r.tax z exempt (N6 r l) Pr.nets Pr.ship).taxes,(M8 r.tax z exempt (N6 r l) Pr.nets Pr.ship).ship,(M8 r.tax z exempt (N6 r l) Pr.nets Pr.ship).shipTax,A2 (M8 r.tax z exempt (N6 r l) Pr.nets Pr.ship).goods+A2 (M8 r.tax z exempt (N6 r l) Pr.nets Pr.ship).taxes+(M8 r.tax z exempt (N6 r l) Pr.nets Pr.ship).ship+(M8 r.tax z exempt (N6 r l) Pr.nets Pr.ship).shipTax,Pr.deals⟩:=rfl
 rw [hq]
 obtain ⟨q1,q2,q3,q4,q5,q6,q7,_⟩:=hQ
 have q1:I9 (M8 r.tax z exempt (N6 r l) Pr.nets Pr.ship).goods:=q1
 have q2:I9 (M8 r.tax z exempt (N6 r l) Pr.nets Pr.ship).taxes:=q2
 have q6:0≤(M8 r.tax z exempt (N6 r l) Pr.nets Pr.ship).ship∧(M8 r.tax z exempt (N6 r l) Pr.nets Pr.ship).ship≤10000000000000:=q6
 have q7:0≤(M8 r.tax z exempt (N6 r l) Pr.nets Pr.ship).shipTax∧(M8 r.tax z exempt (N6 r l) Pr.nets Pr.ship).shipTax≤10000000000000:=q7
 clear hq q3 q4 q5 hV hz
 generalize M8 r.tax z exempt (N6 r l) Pr.nets Pr.ship=V at *
 have s1:=fun s=>B1i V.goods q1 s
 have s2:=fun s=>B1i V.taxes q2 s
 have g1:=q1.sum
 have g2:=q2.sum
 have w1:IntKind.i64.wrap (A2 V.goods+A2 V.taxes)=A2 V.goods+A2 V.taxes:=A4 (by omega) (by omega)
 have w2:IntKind.i64.wrap (A2 V.goods+A2 V.taxes+V.ship)=A2 V.goods+A2 V.taxes+V.ship:=A4 (by omega) (by omega)
 have w3:IntKind.i64.wrap (A2 V.goods+A2 V.taxes+V.ship+V.shipTax)=A2 V.goods+A2 V.taxes+V.ship+V.shipTax:=A4 (by omega) (by omega)
 have hil:(C2 r.items l).length=l.length:=D7i ..
 have hcb:N6 r l=(C2 r.items l).map Ab.Item.cat:=rfl
 rw [hcb] at hlv
 generalize C2 r.items l=IT at hI hil hlv
 clear hcb
 refine A0g ?_
 refine F7 [5] Tryz.func56 ?_
 intro b10 hb10;conv=>whnf
 refine I3 (hP _) ?_
 intro b12 hb12
 have h02:b10≠b12:=fun e=>by subst e;rw [A0] at hb12;cases hb12
 conv=>whnf
 refine stU (A0 ..) rfl ?_
 rw [C5];conv=>whnf
 refine I3 (hI _) ?_
 generalize hst:(upd (upd st b10 _) b12 _:St)=S0
 obtain ⟨f12,at12,hf12⟩:∃ f12:Nat→AV,S0 b12=some ⟨170,4,1,f12⟩∧f12 0=A1t Pr:=by rw [←hst];exact ⟨_,A0 ..,by rw [A6];rfl⟩
 obtain ⟨f10,at10,hf10⟩:∃ f10:Nat→AV,S0 b10=some ⟨113,6,1,f10⟩∧f10 0=I1 C7x.zero:=by rw [←hst,B0 h02];exact ⟨_,A0 ..,rfl⟩
 have hs0:F8 st S0:=by rw [←hst];exact ((F8.refl st).upd hb10).upd hb12
 have n12:st b12=none:=by rw [B0 h02.symm] at hb12;exact hb12
 clear hst
 refine lp IT.length [1,2,5,10,12,14,15,16] (fun i vs u=>∃ sv,vs=[eS zone,eB exempt,.fptr (F4 r) 0,.optr 6 b10 0 0,.optr 4 b12 0 0,A8 4 F2 IT,sv,eI i]∧E8 9 1 eS ((IT.take i).map Ab.Item.cat) S0 sv u) ?_ ?_
 ·conv=>whnf
  exact ⟨.emp,rfl,E8.start _ _ _ _⟩
 rintro i vs u hi ⟨sv,rfl,hc⟩
 have hcs:=hc.sup
 conv=>whnf
 cases h1:decide ((i:Int)<(IT.length:Int))
 case true =>
  have hi':=D6 h1
  have hln2:((IT.take i).map Ab.Item.cat).length=i:=by rw [D7i,D7n];omega
  have htk:(IT.take (i+1)).map Ab.Item.cat=(IT.take i).map Ab.Item.cat++[(IT.getD (i:Int).toNat default).cat]:=by rw [L6 hi',D7M];rfl
  conv=>whnf
  refine E9 ?_
  refine E8.app (y:=(IT.getD (i:Int).toNat default).cat) (q:=r9) rfl rfl rfl rfl rfl (by rfl) (by rw [hln2];show (i+1) * 16≤140737488355328;omega) hc (fun sv' t' hc'=>?_);conv=>whnf
  refine G3 ?_
  exact nx hi' ⟨sv',by rw [B4 (by omega)],by rw [htk];exact hc'⟩
 obtain rfl:=B9 h1 hi
 rw [D7m] at hc;conv=>whnf
 refine L1 (hcs b12 _ at12) hf12 ?_
 refine L1 (hcs b12 _ at12) hf12 ?_
 have hTS:A7 [T7 r.tax,eS zone,eB exempt,sv,A9 Pr.nets,eI Pr.ship] u [T7 r.tax,eS zone,eB exempt,D5 (IT.map Ab.Item.cat),A9 Pr.nets,eI Pr.ship] S0 :=
  A7.cons (A7.keep [T7 r.tax] _) (A7.cons (A7.keep [eS zone] _) (A7.cons (A7.keep [eB exempt] _) (A7.cons hc.shift (A7.keep _ _))))
 refine E2 hTS (B2 (hlv _) ?_);conv=>whnf
 intro b17 hb17
 have h12n:b12≠b17:=fun e=>by subst e;rw [at12] at hb17;cases hb17
 have h10n:b10≠b17:=fun e=>by subst e;rw [at10] at hb17;cases hb17
 conv=>whnf
 refine stU (A0 ..) rfl ?_
 rw [C5];conv=>whnf
 generalize hst:(upd S0 b17 _:St)=S1
 obtain ⟨f17,at17,hf17⟩:∃ f17:Nat→AV,S1 b17=some ⟨175,4,1,f17⟩∧f17 0=C0m V:=by rw [←hst];exact ⟨_,A0 ..,by rw [A6];rfl⟩
 have at12':S1 b12=some ⟨170,4,1,f12⟩:=by rw [←hst,B0 h12n];exact at12
 have at10':S1 b10=some ⟨113,6,1,f10⟩:=by rw [←hst,B0 h10n];exact at10
 have hs1:F8 st S1:=by rw [←hst];exact hs0.upd hb17
 clear hst
 refine ⟨[24],[],List.range 26,by kernel_rfl,?_⟩
 repeat' ((conv=>whnf);first | refine ldV at17 rfl (by omega) hf17 ?_ | refine ldV at12' rfl (by omega) hf12 ?_ | refine ⟨_,F3 (s1 _),?_⟩ | refine ⟨_,F3 (s2 _),?_⟩)
 all_goals
  conv=>whnf
  rw [w1,w2,w3]
  refine stW at10' hf10 ?_
  refine L1 (A0 ..) (A6 ..) ?_
  exact ⟨rfl,hs1.over hb10⟩
end Go.Proofs.YtaapofnkmpiknaaGreat
namespace Go.Proofs.YtaapofnkmpiknaaGreat
open Go Go.Ab
theorem C9k (f:Nat→Int) {n i:Nat} (hi:i<n):gI ((List.range n).map f) i=f i:=by
 unfold gI;simp [D7c,hi]
theorem C1O {t:Tax} {z:K9} {cats:List C8} {nets:List Int} {ship:Int} (h:A2R t z cats nets ship) (hn:∀ i,i<nets.length→0≤gI nets i∧gI nets i≤1000000000000) (hs:ship≤1000000000000) (exempt:Bool) (deals:List A2o) :
  A5c (B5x (M8 t z exempt cats nets ship) deals) nets.length:=by
 have hq:=B1e h exempt deals
 obtain ⟨r1,r2⟩:=A3M h
 obtain ⟨t1,t2⟩:=A6L (t:=t) h.nets r1 r2
 have hm:=A3n (t:=t) h.ship.1 (A4U h.zone).2.1
 have tl:=fun i (hi:i<nets.length)=>B7V (t:=t) h.nets r1 r2 hi
 have tp:∀ i,i<nets.length→0≤gI (L2 t (cats.map (F5 z)) nets) i:=fun i hi=>(t2 _ (A5 (by omega))).1
 refine ⟨fun i hi=>?_,fun i hi=>?_,hq.ngoods,hq.ntaxes,⟨hq.ship.1,?_⟩,⟨hq.shipTax.1,?_⟩,hq.total⟩
 ·show 0≤gI (A2V _ _ _) i∧gI (A2V _ _ _) i≤_
  unfold A2V
  rw [C9k _ hi]
  have h1:=hn i hi
  have h2:=tl i hi
  have h3:=tp i hi
  split<;>omega
 ·show 0≤gI (if exempt=true then List.replicate nets.length 0 else _) i∧gI (if exempt=true then List.replicate nets.length 0 else _) i≤_
  have h1:=hn i hi
  have h2:=tl i hi
  have h3:=tp i hi
  split
  ·have:gI (List.replicate nets.length 0) i=0:=by unfold gI;simp [D7c,hi]
   rw [this];omega
  ·omega
 ·show (if t.incl=true then ship - O3 t ship z.ship else ship)≤_
  split<;>omega
 ·show (if exempt=true then 0 else O3 t ship z.ship)≤_
  split<;>omega
theorem P4.sold {R:E0} {C:List C8} {L:List E6} (h:P4 R C L) {z:K9} {s:C8} (hz:Z3 R.tax.zones s=some z) (exempt:Bool):A5c (B0a R C L z exempt) L.length:=by
 have hN:=h.nets
 have hf:=h.fee
 have hsh:=hN.ship
 have:=C1O (h.levy hz) (fun i hi=>by
  have hi:i<L.length:=by rw [←hN.len];exact hi
  have h1:=hN.at' i hi
  have h2:=h.lines.line _ (A5 hi)
  have h9:(L.getD i default).qty * (L.getD i default).price≤9 * 4000:=D9z h2.1.2 (by omega) h2.2.1 (by omega)
  omega) (by omega) exempt (A3L R C L).deals
 rw [hN.len] at this;exact this
theorem P4.rquote_S {R:E0} {C:List C8} {L:List E6} (h:P4 R C L) {z:K9} {s:C8} (hz:Z3 R.tax.zones s=some z) (exempt:Bool) (st:St) :
  S P 56 [F4 R,eS s,eB exempt,D5 C,A8 3 I7 L] st fun v st'=>v=.tuple [A1x (B0a R C L z exempt),eI 0]∧st'=st:=by
 have hk:=(A6Y h.check).lines.known
 have hi:=h.items
 have hl:=h.lines.len
 have hRI:=fun st=>B7q R.items L (by show R.items.length≤_;omega) (by omega) hk st
 exact C5g exempt (fun st=>h.ref_S st) hRI (by omega) (h.levy hz) h.sm.tax hz st
theorem A5c.total_in {Q:O5} {n:Nat} (h:A5c Q n) (hn:n≤8):0≤Q.total∧Q.total≤100000000000000:=by
 have g1:=A7o h.ngoods h.goods
 have g2:=A7o h.ntaxes h.taxes
 have g3:=h.ship
 have g4:=h.shipTax
 have g5:=h.total
 have hn':(n:Int)≤8:=by omega
 omega
theorem B3o (n:Int):C6 (Q9 (B5 n 3))=true:=by
 have:=C7 n (n:=3) (by decide)
 obtain ⟨k,hk⟩:∃ k:Nat,B5 n 3=k:=⟨(B5 n 3).toNat,by omega⟩
 rw [hk]
 have hk3:k<3:=by omega
 exact D7s.1 A8j k (D7t.2 hk3)
structure B8j (R:E0) (Z:C8) (exempt:Bool) (C:List C8) (A:List Add) (L:List E6) (Q:O5) (pays:List Pay):Prop where
 lines:A2X R.items A=(L,0)
 len:1≤L.length∧L.length≤8
 same:L=A.map (S4 R.items)
 sold:A5c Q L.length
 paid:A8Q pays Q.total=true
 npays:pays.length≤3
 zone:C6 Z=true
 codes:R6 C=true
 ncodes:C.length≤3
 scodes:∀ s∈C,s.size≤12
 line:∀ x∈L,C6 x.sku=true∧(0≤x.price∧x.price≤1000000000)∧1≤x.qty∧x.qty≤100000
 right:K1 R=true
 fit:X9 R
 items:R.items.length≤8
 amounts:I9 Q.goods∧I9 Q.taxes
 prog:∀ st,S P 60 [F4 R,eS Z,eB exempt,D5 C,A8 3 I7 L] st fun v st'=>v=.tuple [A1x Q,eI 0]∧st'=st
 ref:∀ st,S P 56 [F4 R,eS Z,eB exempt,D5 C,A8 3 I7 L] st fun v st'=>v=.tuple [A1x Q,eI 0]∧st'=st
end Go.Proofs.YtaapofnkmpiknaaGreat
namespace Go.Proofs.YtaapofnkmpiknaaGreat
open Go Go.Ab
attribute [local irreducible] upd del
def B6A (r:E0) (o:G5):AV:=.agg [A8 4 F2 r.items,A8 15 B8 r.promos,eB r.tax.incl,eB r.tax.byOrder,eI r.tax.round,A8 4 S9 r.tax.zones,eI r.ship.fee,eI r.ship.free,eI r.policy.window,eI r.policy.grace,eI r.policy.mode,eI r.policy.restock,A9 r.policy.order,A9 r.policy.credit,
 eS o.id,eI o.rules,eS o.zone,eB o.exempt,D5 o.codes,eI o.day,A8 6 Q2 o.lines,eI o.ship,eI o.shipTax,eI o.fee,eI o.net,eI o.book.goods,eI o.book.tax,eI o.book.ship,eI o.book.shipTax,eI o.book.fee,A8 3 Q5 o.tenders]
def X2:A2n:=⟨0,0,0,0,0⟩
def B3f (q:O5) (e:Int):A2n×Int:=if e≠0 then (X2,e) else (O2 q,0)
def P3 (b:A2n) (f:Int):A2n:=⟨b.goods,b.tax,b.ship,b.shipTax,f⟩
def P8 (r:E0) (o:G5) (q:O5) (e:Int):A2n×Int:=if r.policy.mode=3 then (Q6 o,0) else B3f q e
def A2F (r:E0) (o:G5) (q:O5) (e:Int):A2n×Int :=
 if K1 r=false then (X2,10) else if H0 o=false then (X2,2) else if (P8 r o q e).2≠0 then (X2,(P8 r o q e).2)
  else if Q4 (P3 (P8 r o q e).1 o.fee)=false then (X2,5) else (P3 (P8 r o q e).1 o.fee,0)
structure A5a (f:FuncId) (r:E0) (o:G5) (q:O5) (e:Int):Prop where
 call:∀ s,S P f [F4 r,eS o.zone,eB o.exempt,D5 o.codes,A8 3 I7 (A9M o)] s fun v s'=>v=.tuple [A1x q,eI e]∧s'=s
 goods:I9 q.goods
 taxes:I9 q.taxes
theorem C2u (r:E0) (o:G5) (q:O5) (e:Int) (hq:A5a 60 r o q e) (hl:o.lines.length≤100000) (st:St):S P 93 [B6A r o] st fun v st'=>v=.tuple [A0B (B3f q e).1,eI (B3f q e).2]∧st'=st:=by
 have n1:=fun s=>C5m o hl s
 have n2:=hq.call
 have n3:=fun s=>C8W q hq.goods hq.taxes s
 rw [show B3f q e=if e≠0 then (X2,e) else (O2 q,0) from rfl]
 refine A0g ?_
 refine A0o [1] A4i mixed Tryz.func93 (by rfl) rfl rfl rfl ?_;conv=>whnf
 intro b hb
 generalize hs:(upd st b _:St)=w
 have h:=C9.new' hs (A0u st) hb
 clear hs hb
 conv=>whnf
 refine .inl ⟨[18,19],[1,4,7,10,12,13,14],List.range 21,by kernel_rfl,?_⟩
 repeat' ((conv=>whnf);first | refine ⟨_,fun s _=>⟨rfl,rfl⟩,?_⟩ | refine ⟨_,fun s _=>F3 (n1 s),?_⟩ | refine ⟨_,fun s _=>F3 (n2 s),?_⟩ | fail)
 conv=>whnf
 intro b4 hb4
 generalize hs:(upd w b4 _:St)=w4
 have h:=C9.new' hs h hb4
 clear hs hb4
 conv=>whnf
 refine F1 h .z rfl rfl (by rfl) ?_;conv=>whnf
 intro w h;conv=>whnf
 cases he:(e != 0)
 case true =>
  have he:e≠0:=by simpa using he
  rw [if_pos he];conv=>whnf
  refine F1 h (.s .z) rfl rfl (by rfl) ?_;conv=>whnf
  intro w h;conv=>whnf
  refine L8 h (.s .z) rfl Nat.one_pos rfl ?_;conv=>whnf
  exact ⟨rfl,h.sup⟩
 rw [if_neg (by simpa using he)];conv=>whnf
 refine L8 h .z rfl Nat.one_pos rfl ?_;conv=>whnf
 refine I3 (n3 _) ?_
 refine F1 h (.s .z) rfl rfl (by rfl) ?_;conv=>whnf
 intro w h;conv=>whnf
 refine L8 h (.s .z) rfl Nat.one_pos rfl ?_;conv=>whnf
 exact ⟨rfl,h.sup⟩
theorem C2i (r:E0) (o:G5) (hs:A2q o) (st:St):S P 94 [B6A r o] st fun v st'=>v=.tuple [A0B (Q6 o),eI 0]∧st'=st:=by
 have n1:=fun s=>C2B o hs s
 refine A0g ?_
 refine A0o [1] A4i mixed Tryz.func94 (by rfl) rfl rfl rfl ?_;conv=>whnf
 intro b hb
 generalize hs:(upd st b _:St)=w
 have h:=C9.new' hs (A0u st) hb
 clear hs hb
 conv=>whnf
 refine I3 (n1 _) ?_
 refine F1 h .z rfl rfl (by rfl) ?_;conv=>whnf
 intro w h;conv=>whnf
 refine L8 h .z rfl Nat.one_pos rfl ?_;conv=>whnf
 exact ⟨rfl,h.sup⟩
theorem C6R {cells:List AV} {i:Nat} {v:AV} {k:AV→Prop} (h:cells[i]?=some v) (hk:k v):C4h cells i k:=by
 induction cells generalizing i with
 | nil=>simp at h
 | cons a l ih =>
  cases i with
  | zero=>obtain rfl:a=v:=by simpa using h
          exact hk
  | succ i=>exact ih (by simpa using h)
theorem C6S {cells:List AV} {i:Nat} {v:AV} {k:AV→Prop} (h:cells[i]?=some v) (hk:k v):B0M cells i k:=by
 induction cells generalizing i with
 | nil=>simp at h
 | cons a l ih =>
  cases i with
  | zero=>obtain rfl:a=v:=by simpa using h
          exact hk
  | succ i=>exact ih (by simpa using h)
set_option maxHeartbeats 2000000 in
theorem B4p (r:E0) (o:G5) (q:O5) (e:Int) (hf:X9 r) (hs:A2q o) (hq:K1 r=true→H0 o=true→r.policy.mode≠3→A5a 60 r o q e) (st:St) :
  S P 34 [F4 r,J4 o] st fun v st'=>v=.tuple [A0B (A2F r o q e).1,eI (A2F r o q e).2]∧st'=st:=by
 have n1:=fun s=>B5F r hf s
 have n2:=fun s=>A8Y o hs s
 have n3:=fun x s=>A5u x s
 have hm:K1 r=true→r.policy.mode=1∨r.policy.mode=2∨r.policy.mode=3:=fun h=>by
  unfold K1 A2D at h
  simp only [D7f,D7d] at h
  omega
 have hE:A2F r o q e=if K1 r=false then (X2,10) else if H0 o=false then (X2,2) else if (P8 r o q e).2≠0 then (X2,(P8 r o q e).2)
  else if Q4 (P3 (P8 r o q e).1 o.fee)=false then (X2,5) else (P3 (P8 r o q e).1 o.fee,0):=rfl
 rw [hE]
 clear hE
 generalize K1 r=b1 at *
 generalize H0 o=b2 at *
 refine A0g ?_
 refine A0o [2,3,6,7] A4i mixed Tryz.func34 (by rfl) rfl rfl rfl ?_;conv=>whnf
 intro b hb
 generalize hs:(upd st b _:St)=w
 have h:=C9.new' hs (A0u st) hb
 clear hs hb
 conv=>whnf
 refine B2 (n1 _) ?_
 cases b1
 ·conv=>whnf
  refine F1 h .z rfl rfl (by rfl) ?_;conv=>whnf
  intro w h;conv=>whnf
  refine L8 h .z rfl Nat.one_pos rfl ?_;conv=>whnf
  exact ⟨rfl,h.sup⟩
 rw [if_neg (by simp)];conv=>whnf
 refine B2 (n2 _) ?_
 cases b2
 ·conv=>whnf
  refine F1 h .z rfl rfl (by rfl) ?_;conv=>whnf
  intro w h;conv=>whnf
  refine L8 h .z rfl Nat.one_pos rfl ?_;conv=>whnf
  exact ⟨rfl,h.sup⟩
 rw [if_neg (by simp)]
 obtain ⟨g,W,hW,hg,hS⟩:∃ g,∃ W:A2n×Int,P8 r o q e=W∧((r.policy.mode=3∧g=94)∨(r.policy.mode≠3∧g=93))∧∀ s,S P g [B6A r o] s fun v s'=>v=.tuple [A0B W.1,eI W.2]∧s'=s:=by
  by_cases h:r.policy.mode=3
  ·exact ⟨_,_,by rw [P8,if_pos h],.inl ⟨h,rfl⟩,fun s=>C2i r o hs s⟩
  ·exact ⟨_,_,by rw [P8,if_neg h],.inr ⟨h,rfl⟩,fun s=>C2u r o q e (hq rfl rfl h) hs.lines s⟩
 have hm:=hm rfl
 rw [hW]
 clear hW hq
 obtain ⟨⟨w1,w2,w3,w4,w5⟩,w6⟩:=W
 conv=>whnf
 refine ⟨⟨by omega,by omega⟩,?_⟩
 refine C6R (v:=.fn (.func g) [B6A r o] []) (by unfold B6A;rcases hg with ⟨h,rfl⟩ | ⟨h,rfl⟩<;>rcases hm with hm | hm | hm<;>rw [hm] at h ⊢<;>first | exact absurd h (by decide) | exact absurd rfl h | rfl) ?_;conv=>whnf
 refine I3 (hS _) ?_
 intro b8 hb8
 generalize hs:(upd w b8 _:St)=w8
 have h:=C9.new' hs h hb8
 clear hs hb8
 conv=>whnf
 refine F1 h .z rfl rfl (by rfl) ?_;conv=>whnf
 intro w h;conv=>whnf
 cases h6:(w6 != 0)
 case true =>
  rw [if_pos (show w6≠0 by simpa using h6)];conv=>whnf
  refine F1 h (.s .z) rfl rfl (by rfl) ?_;conv=>whnf
  intro w h;conv=>whnf
  refine L8 h (.s .z) rfl Nat.one_pos rfl ?_;conv=>whnf
  exact ⟨rfl,h.sup⟩
 obtain rfl:w6=0:=by simpa using h6
 rw [if_neg (fun h=>h rfl)];conv=>whnf
 refine F1 h .z rfl rfl (by rfl) ?_;conv=>whnf
 intro w h
 iterate 5 ((conv=>whnf);refine L8 h .z rfl Nat.one_pos rfl ?_)
 conv=>whnf
 have hB:Q4 (P3 ((⟨w1,w2,w3,w4,w5⟩:A2n),(0:Int)).1 o.fee)=[w1,w2,w3,w4,o.fee].all E3:=rfl
 rw [hB]
 refine lp 5 [4,8,58,59] (fun i vs u=>vs=[.optr 5 b 0 0,.optr 5 b8 0 0,.agg [eI w1,eI w2,eI w3,eI w4,eI o.fee],eI i]∧u=w∧∀ k,k<i→E3 ([w1,w2,w3,w4,o.fee].getD k default)=true) ?_ ?_
 ·conv=>whnf
  exact ⟨rfl,rfl,fun k hk=>absurd hk (by omega)⟩
 rintro i vs u hi ⟨rfl,rfl,hok⟩
 conv=>whnf
 cases h1:decide ((i:Int)<5)
 ·obtain rfl:i=5:=by have:=D7g h1;omega
  rw [show [w1,w2,w3,w4,o.fee].all E3=true from by
   have e0:=hok 0 (by omega);have e1:=hok 1 (by omega);have e2:=hok 2 (by omega);have e3:=hok 3 (by omega);have e4:=hok 4 (by omega)
   show (E3 w1&&(E3 w2&&(E3 w3&&(E3 w4&&(E3 o.fee&&true)))))=true
   rw [show E3 w1=true from e0,show E3 w2=true from e1,show E3 w3=true from e2,show E3 w4=true from e3,show E3 o.fee=true from e4];rfl]
  rw [if_neg (by simp)];conv=>whnf
  refine L8 h .z rfl Nat.one_pos rfl ?_;conv=>whnf
  refine F1 h (.s .z) rfl rfl (by rfl) ?_;conv=>whnf
  intro w h;conv=>whnf
  refine L8 h (.s .z) rfl Nat.one_pos rfl ?_;conv=>whnf
  exact ⟨rfl,h.sup⟩
 have hi':i<5:=by have:=D7h h1;omega
 conv=>whnf
 refine ⟨⟨rfl,by show (i:Int).toNat * 1<5;omega,by omega,by show (i:Int)<5;omega⟩,?_⟩
 refine C6S (v:=eI ([w1,w2,w3,w4,o.fee].getD i default)) (by
  rcases (show i=0∨i=1∨i=2∨i=3∨i=4 by omega) with rfl | rfl | rfl | rfl | rfl<;>rfl) ?_
 conv=>whnf
 refine I3 (n3 _ _) ?_
 cases hx:E3 ([w1,w2,w3,w4,o.fee].getD i default)
 case false =>
  rw [if_pos (List.all_eq_false.2 ⟨_,A5 (l:=[w1,w2,w3,w4,o.fee]) hi',by rw [hx];simp⟩)];conv=>whnf
  refine F1 h (.s .z) rfl rfl (by rfl) ?_;conv=>whnf
  intro w h;conv=>whnf
  refine L8 h (.s .z) rfl Nat.one_pos rfl ?_;conv=>whnf
  exact ⟨rfl,h.sup⟩
 conv=>whnf
 refine G3 ?_
 exact nx hi' ⟨by rw [B4 (by omega)],rfl,G9 hok hx⟩
def A4z (o:G5):G5:=⟨o.id,o.rules,o.zone,o.exempt,o.codes,o.day,o.lines,o.ship,o.shipTax,o.fee,0,⟨0,0,0,0,0⟩,[]⟩
theorem B6n {o:G5} (h:H0 o=true):Q6 (A4z o)=Q6 o:=by
 have h1:H0 (A4z o)=true:=by
  unfold H0 U6 at h
  simp only [D7f] at h
  unfold H0
  rw [show A5M (A4z o)=true from h.1.1.1.1.2,show A1Y (A4z o)=true from h.1.1.1.2,show A5J (A4z o)=true by rfl,show A0k (A4z o)=true by rfl,
   show U6 (A4z o)=true by
    unfold U6
    rw [show A1d (A4z o).ship=true from h.1.1.2.1.1.1,show A1d (A4z o).shipTax=true from h.1.1.2.1.1.2,show E3 (A4z o).fee=true from h.1.1.2.1.2,show E3 (A4z o).net=true by rfl];rfl]
  rfl
 unfold Q6
 rw [h1,h]
 rfl
theorem C7J (o:G5) (hs:A2q o) (ho:H0 o=true) (st:St):S P 151 [J4 o] st fun v st'=>v=A0B (Q6 o)∧st'=st:=by
 have n1:=fun s=>B7B (A4z o) ⟨hs.id,hs.zone,hs.codes,hs.scodes,hs.lines,hs.slines,D7C _⟩ s
 rw [B6n ho] at n1
 refine A0g ?_
 refine A0o [] A4i mixed Tryz.func151 (by rfl) rfl rfl rfl ?_;conv=>whnf
 intro b1 hb1
 generalize hs:(upd st b1 _:St)=w
 have h:=C9.new' hs (A0u st) hb1
 clear hs hb1
 conv=>whnf
 intro b2 hb2
 generalize hs:(upd w b2 _:St)=w2
 have h:=C9.new' hs h hb2
 clear hs hb2
 conv=>whnf
 refine F1 h (.s .z) rfl rfl (by rfl) ?_;conv=>whnf
 intro w h;conv=>whnf
 refine F1 h (.s .z) rfl rfl (by rfl) ?_;conv=>whnf
 intro w h;conv=>whnf
 refine F1 h (.s .z) rfl rfl (by rfl) ?_;conv=>whnf
 intro w h;conv=>whnf
 refine L8 h (.s .z) rfl Nat.one_pos rfl ?_;conv=>whnf
 refine E2 (args':=[J4 (A4z o)]) (st':=w) ?_ (B2 (n1 _) ?_)
 ·refine A7.agg ?_
  iterate 16 refine A7.cons (A7.keep [_] _) ?_
  exact I5 3 _
 conv=>whnf
 refine F1 h .z rfl rfl (by rfl) ?_;conv=>whnf
 intro w h;conv=>whnf
 refine L8 h .z rfl Nat.one_pos rfl ?_;conv=>whnf
 exact ⟨rfl,h.sup⟩
set_option maxHeartbeats 2000000 in
theorem B9s (r:E0) (o:G5) (q:O5) (e:Int) (hs:A2q o) (ho:H0 o=true) (hq:r.policy.mode≠3→A5a 56 r o q e) (st:St) :
  S P 97 [F4 r,J4 o] st fun v st'=>v=.tuple [A0B (if (P8 r o q e).2≠0 then (X2,(P8 r o q e).2) else if Q4 (P3 (P8 r o q e).1 o.fee)=false then (X2,5) else (P3 (P8 r o q e).1 o.fee,0)).1,
   eI (if (P8 r o q e).2≠0 then (X2,(P8 r o q e).2) else if Q4 (P3 (P8 r o q e).1 o.fee)=false then (X2,5) else (P3 (P8 r o q e).1 o.fee,0)).2]∧st'=st:=by
 have n1:=fun s=>C7J o hs ho s
 have n2:=fun b s=>B4r b s
 have n3:=fun s=>B9q o hs.lines s
 have hV:P8 r o q e=if r.policy.mode=3 then (Q6 o,0) else if e≠0 then (X2,e) else (O2 q,0):=rfl
 rw [hV]
 clear hV
 refine A0g ?_
 refine A0o [2,3] A4i mixed Tryz.func97 (by rfl) rfl rfl rfl ?_;conv=>whnf
 intro b4 hb4
 generalize hs1:(upd st b4 _:St)=w
 have h:=C9.new' hs1 (A0u st) hb4
 clear hs1 hb4
 conv=>whnf
 intro b6 hb6
 generalize hs1:(upd w b6 _:St)=w2
 have h:=C9.new' hs1 h hb6
 clear hs1 hb6
 conv=>whnf
 refine F1 h .z rfl rfl (by rfl) ?_;conv=>whnf
 intro w h;conv=>whnf
 cases hm:(r.policy.mode==3)
 case true =>
  rw [if_pos (show r.policy.mode=3 by simpa using hm),if_neg (by simp)];conv=>whnf
  refine I3 (n1 _) ?_
  refine F1 h .z rfl rfl (by rfl) ?_;conv=>whnf
  intro w h;conv=>whnf
  refine F1 h .z rfl rfl (by rfl) ?_;conv=>whnf
  intro w h;conv=>whnf
  refine L8 h .z rfl Nat.one_pos rfl ?_;conv=>whnf
  refine I3 (n2 (P3 (Q6 o) o.fee) _) ?_
  cases hb:Q4 (P3 (Q6 o) o.fee)
  ·rw [if_pos rfl];conv=>whnf
   refine F1 h (.s .z) rfl rfl (by rfl) ?_;conv=>whnf
   intro w h;conv=>whnf
   refine L8 h (.s .z) rfl Nat.one_pos rfl ?_;conv=>whnf
   exact ⟨rfl,h.sup⟩
  ·rw [if_neg (by simp)];conv=>whnf
   refine L8 h .z rfl Nat.one_pos rfl ?_;conv=>whnf
   refine F1 h (.s .z) rfl rfl (by rfl) ?_;conv=>whnf
   intro w h;conv=>whnf
   refine L8 h (.s .z) rfl Nat.one_pos rfl ?_;conv=>whnf
   exact ⟨rfl,h.sup⟩
 have hm:r.policy.mode≠3:=by simpa using hm
 rw [if_neg hm]
 have n4:=(hq hm).call
 have n5:=fun s=>C0I q (hq hm).goods (hq hm).taxes s
 conv=>whnf
 refine .inl ⟨[13,14],[0,2,4,6,7,8,9],List.range 16,by kernel_rfl,?_⟩
 repeat' ((conv=>whnf);first | refine ⟨_,fun s _=>⟨rfl,rfl⟩,?_⟩ | refine ⟨_,fun s _=>F3 (n3 s),?_⟩ | refine ⟨_,fun s _=>F3 (n4 s),?_⟩ | fail)
 conv=>whnf
 intro b7 hb7
 generalize hs1:(upd w b7 _:St)=w7
 have h:=C9.new' hs1 h hb7
 clear hs1 hb7
 conv=>whnf
 refine F1 h .z rfl rfl (by rfl) ?_;conv=>whnf
 intro w h;conv=>whnf
 cases he:(e != 0)
 case true =>
  rw [if_pos (show e≠0 by simpa using he),if_pos (show e≠0 by simpa using he)];conv=>whnf
  refine F1 h (.s (.s .z)) rfl rfl (by rfl) ?_;conv=>whnf
  intro w h;conv=>whnf
  refine L8 h (.s (.s .z)) rfl Nat.one_pos rfl ?_;conv=>whnf
  exact ⟨rfl,h.sup⟩
 rw [if_neg (show ¬ e≠0 by simpa using he),if_neg (by simp)];conv=>whnf
 refine L8 h .z rfl Nat.one_pos rfl ?_;conv=>whnf
 refine I3 (n5 _) ?_
 refine F1 h (.s .z) rfl rfl (by rfl) ?_;conv=>whnf
 intro w h;conv=>whnf
 refine F1 h (.s .z) rfl rfl (by rfl) ?_;conv=>whnf
 intro w h;conv=>whnf
 refine L8 h (.s .z) rfl Nat.one_pos rfl ?_;conv=>whnf
 refine I3 (n2 (P3 (O2 q) o.fee) _) ?_
 cases hb:Q4 (P3 (O2 q) o.fee)
 ·rw [if_pos rfl];conv=>whnf
  refine F1 h (.s (.s .z)) rfl rfl (by rfl) ?_;conv=>whnf
  intro w h;conv=>whnf
  refine L8 h (.s (.s .z)) rfl Nat.one_pos rfl ?_;conv=>whnf
  exact ⟨rfl,h.sup⟩
 ·rw [if_neg (by simp)];conv=>whnf
  refine L8 h (.s .z) rfl Nat.one_pos rfl ?_;conv=>whnf
  refine F1 h (.s (.s .z)) rfl rfl (by rfl) ?_;conv=>whnf
  intro w h;conv=>whnf
  refine L8 h (.s (.s .z)) rfl Nat.one_pos rfl ?_;conv=>whnf
  exact ⟨rfl,h.sup⟩
set_option maxHeartbeats 1000000 in
theorem C2p (r:E0) (o:G5) (q:O5) (e:Int) (hn:r.promos.length<9223372036854775807) (hr:A5b r) (hs:A2q o) (hq:K1 r=true→H0 o=true→r.policy.mode≠3→A5a 56 r o q e) (st:St) :
  S P 38 [F4 r,J4 o] st fun v st'=>v=.tuple [A0B (A2F r o q e).1,eI (A2F r o q e).2]∧st'=st:=by
 have n1:=fun s=>B7t r hn hr s
 have n2:=fun s=>B2C o hs s
 have n3:=fun h1 h2 s=>B9s r o q e hs h2 (hq h1 h2) s
 have hE:A2F r o q e=if K1 r=false then (X2,10) else if H0 o=false then (X2,2) else if (P8 r o q e).2≠0 then (X2,(P8 r o q e).2)
  else if Q4 (P3 (P8 r o q e).1 o.fee)=false then (X2,5) else (P3 (P8 r o q e).1 o.fee,0):=rfl
 rw [hE]
 clear hE hq
 generalize (if (P8 r o q e).2≠0 then (X2,(P8 r o q e).2) else if Q4 (P3 (P8 r o q e).1 o.fee)=false then (X2,5) else (P3 (P8 r o q e).1 o.fee,0))=W at *
 generalize K1 r=b1 at *
 generalize H0 o=b2 at *
 obtain ⟨W1,W2⟩:=W
 refine A0g ?_
 refine A0o [2,3] A4i mixed Tryz.func38 (by rfl) rfl rfl rfl ?_;conv=>whnf
 intro b hb
 generalize hs:(upd st b _:St)=w
 have h:=C9.new' hs (A0u st) hb
 clear hs hb
 conv=>whnf
 refine B2 (n1 _) ?_
 cases b1
 ·conv=>whnf
  refine F1 h .z rfl rfl (by rfl) ?_;conv=>whnf
  intro w h;conv=>whnf
  refine L8 h .z rfl Nat.one_pos rfl ?_;conv=>whnf
  exact ⟨rfl,h.sup⟩
 rw [if_neg (by simp)];conv=>whnf
 refine B2 (n2 _) ?_
 cases b2
 ·conv=>whnf
  refine F1 h .z rfl rfl (by rfl) ?_;conv=>whnf
  intro w h;conv=>whnf
  refine L8 h .z rfl Nat.one_pos rfl ?_;conv=>whnf
  exact ⟨rfl,h.sup⟩
 rw [if_neg (by simp)];conv=>whnf
 refine I3 (n3 rfl rfl _) ?_
 refine F1 h .z rfl rfl (by rfl) ?_;conv=>whnf
 intro w h;conv=>whnf
 refine L8 h .z rfl Nat.one_pos rfl ?_;conv=>whnf
 exact ⟨rfl,h.sup⟩
def A3e (R:E0) (m:Int):E0:=⟨R.items,R.promos,R.tax,R.ship,⟨R.policy.window,R.policy.grace,m,R.policy.restock,R.policy.order,R.policy.credit⟩⟩
theorem B2b {R:E0} (h:K1 R=true) {m:Int} (hm:1≤m∧m≤3):K1 (A3e R m)=true:=by
 unfold K1 A2D at h ⊢
 simp only [D7f,D7d] at h ⊢
 exact ⟨h.1,⟨⟨⟨⟨⟨h.2.1.1.1.1.1,hm.1⟩,hm.2⟩,h.2.1.1.2⟩,h.2.1.2⟩,h.2.2⟩⟩
theorem P4.mode {R:E0} {C:List C8} {L:List E6} (h:P4 R C L) {m:Int} (hm:1≤m∧m≤3):P4 (A3e R m) C L:=by
 have hr:=B2b h.right hm
 refine ⟨hr,⟨h.fit.promos,h.fit.fit,h.fit.order,h.fit.credit⟩,⟨h.sm.n,h.sm.items,h.sm.promos,h.sm.tax,h.sm.order,h.sm.credit⟩,h.codes,h.ncodes,h.scodes,h.lines,?_,h.few,h.items,h.known,h.fee⟩
 have hc:=h.check
 unfold D8 at hc ⊢
 rw [if_neg (by rw [h.right];simp)] at hc
 rw [if_neg (by rw [hr];simp)]
 exact hc
set_option maxHeartbeats 4000000 in
theorem C7G (R:E0) (set day:Int) (id key zone:C8) (exempt:Bool) (codes:List C8) (adds:List Add) (pays:List Pay) (L:List E6) (Q:O5) (B:A2n) (st:St)
  (hs:1≤set∧set≤40) (hc:codes.length≤100000) (hl:L.length≤1000) (hg:Q.goods.length=L.length) (ht:Q.taxes.length=L.length) (hp:A8Q pays Q.total=true) (hpl:pays.length≤6)
  (n1:∀ s,S P 76 [eI day,eI 100000] s fun v st'=>v=.bool true∧st'=s)
  (n2:∀ s,S P 74 [eS id] s fun v st'=>v=.bool true∧st'=s)
  (n3:∀ s,S P 74 [eS zone] s fun v st'=>v=.bool true∧st'=s)
  (n4:∀ s,S P 81 [F4 R] s fun v st'=>v=.bool true∧st'=s)
  (n5:∀ s,S P 75 [D5 codes] s fun v st'=>v=.bool true∧st'=s)
  (nL:∀ s,S P 55 [A8 4 F2 R.items,A8 2 A8z adds] s fun v st'=>v=.tuple [A8 3 I7 L,eI 0]∧st'=s)
  (nQ:∀ s,S P 56 [F4 R,eS zone,eB exempt,D5 codes,A8 3 I7 L] s fun v st'=>v=.tuple [A1x Q,eI 0]∧st'=s)
  (nB:∀ s,S P 82 [A1x Q] s fun v st'=>v=A0B B∧st'=s) :
  S P 27 [F4 R,eI set,B3Z id key zone exempt codes adds pays,eI day] st fun v st'=>∃ cv lv tv bc bl bt,C9 st [(bl,⟨55,6,L.length,fun k=>Q2 ((X1 L Q).getD k default)⟩),(bt,⟨70,3,pays.length,fun k=>Q5 ((pays.map A2k).getD k default)⟩),(bc,⟨9,1,codes.length,fun k=>eS (codes.getD k default)⟩)] st' ∧
   OV 1 bc codes.length cv∧OV 6 bl L.length lv∧OV 3 bt pays.length tv ∧
   v=.tuple [.agg [eS id,eI set,eS zone,eB exempt,cv,eI day,lv,eI Q.ship,eI Q.shipTax,eI 0,eI Q.total,eI B.goods,eI B.tax,eI B.ship,eI B.shipTax,eI B.fee,tv],eI 0]:=by
 have d1:decide (set<1)=false:=D7j (by omega)
 have d2:decide (set>40)=false:=D7j (by omega)
 have hpay:(∀ x∈pays,B2l x=true)∧V8 pays=Q.total:=by
  unfold A8Q at hp
  simp only [D7f,D7d,D7Z] at hp
  exact ⟨D7s.1 hp.1.2,hp.2⟩
 have hpi:∀ i,i<pays.length→(1≤(pays.getD i default).kind∧(pays.getD i default).kind≤9)∧1≤(pays.getD i default).amount∧(pays.getD i default).amount≤100000000000000:=fun i hi=>by
  have:=hpay.1 _ (A5 hi)
  unfold B2l E3 at this
  simp only [D7f,D3,D7d] at this
  omega
 have hpn:∀ i,i<pays.length→V8 (pays.take (i+1))=V8 (pays.take i)+(pays.getD i default).amount:=fun i hi=>G8 hi _ _
 have hpk:∀ j i,i+j=pays.length→0≤V8 (pays.take i)∧V8 (pays.take i)≤Q.total∧Q.total≤V8 (pays.take i)+100000000000000 * (j:Int):=fun j=>by
  induction j with
  | zero=>intro i hi;rw [D8T (by omega),hpay.2];exact ⟨by rw [←hpay.2];have:=(B9e pays.length (D7l _) fun k hk=>hpay.1 _ (A5 hk)).1;rwa [D7m] at this,D7L _,by omega⟩
  | succ j ih =>
   intro i hi
   have h1:=ih (i+1) (by omega)
   have h2:=hpn i (by omega)
   have h3:=hpi i (by omega)
   have h4:=(B9e i (by omega) fun k hk=>hpay.1 _ (A5 (by omega))).1
   exact ⟨h4,by omega,by rw [show ((j+1:Nat):Int)=(j:Int)+1 from rfl];omega⟩
 refine A0o [4,6,17] A4i mixed Tryz.func27 (by rfl) rfl rfl rfl ?_;conv=>whnf
 intro b8 hb8
 generalize hs:(upd st b8 _:St)=w
 have h:=C9.new' hs (A0u st) hb8
 clear hs hb8
 repeat' ((conv=>whnf);first | refine B2 (n1 _) ?_ | refine B2 (n2 _) ?_ | refine B2 (n3 _) ?_ | refine B2 (n4 _) ?_ | refine B2 (n5 _) ?_ | refine B2 (nL _) ?_ | refine B2 (nQ _) ?_ | rw [d1] | rw [d2] | fail)
 conv=>whnf
 intro b12 hb12;conv=>whnf
 generalize hs:(upd w b12 _:St)=w2
 have h:=C9.new' hs h hb12
 clear hs hb12
 refine F1 h .z rfl rfl (by rfl) ?_;conv=>whnf
 intro w h
 have h:=h.soft 0 9 1 (fun k=>eS (codes.getD k default))
 have hb:=h.has1 (.s .z)
 conv=>whnf
 refine .inr ⟨[9,20,21],.qui 0 (.qui 1 (.qui 2 (.qui 3 (.qui 4 (.qui 5 (.qui 6 (.qui 7 (.qui 8 (.qui 10 (.qui 11 (.qui 12 (.qui 13 (.qui 14 (.qui 15 (.qui 16 (.qui 17 (.two 9 20 [1,4,6,12,14,16,17] [1,4,6,8,12,14,16,17] (.qui 18 (.qui 19 (.eff 20 [1,4,6,8,12,14,16,17,18] (.eff 21 [] (.done))))) (.eff 9 [1,4,6,12,14,16,17] (.qui 18 (.qui 19 (.eff 21 [] (.done)))))))))))))))))))))),by kernel_rfl,?_⟩
 repeat' ((conv=>whnf);first | refine quT (fun _=>⟨rfl,rfl⟩) ?_ | refine quT (fun s=>F3 (nB s)) ?_ | refine quL hb (fun _ hs=>X4 hs rfl Nat.one_pos rfl ⟨rfl,rfl⟩) ?_ | fail)
 refine ⟨?A,?B⟩
 case' A =>
  conv=>whnf
  refine B5m (q:=r9) (m:=codes.length) (g:=fun k=>eS (codes.getD k default)) h (OV.nil 1 0) .z rfl rfl rfl rfl (by rfl) (A3P ..) (f':=fun k=>eS (codes.getD k default)) (by show (0+codes.length) * 16≤140737488355328;omega) (fun i _=>by rw [if_neg (by omega)];rfl) (fun cv bc hcv=>?_);conv=>whnf
  intro w h
  rw [D7o codes.length] at hcv h
  have hb:=h.has1 (.s .z)
  have e1:=A2w hcv.one
  have e2:=B1g hcv.one
  repeat' ((conv=>whnf);first | refine ⟨fun _=>trivial,?_⟩ | refine ⟨fun _=>hb,?_⟩ | refine quT (fun _=>⟨rfl,rfl⟩) ?_ | refine quT (fun s=>F3 (nB s)) ?_ | refine quL hb (fun _ hs=>X4 hs rfl Nat.one_pos rfl ⟨rfl,rfl⟩) ?_ | rw [e1] | rw [e2] | fail)
  conv=>whnf
  intro b14 hb14
  generalize hs:(upd w b14 _:St)=w2
  have h:=C9.new' hs h hb14
  clear hs hb14
  have hb:=h.has1 (.s (.s .z))
  repeat' ((conv=>whnf);first | refine ⟨fun _=>trivial,?_⟩ | refine ⟨fun _=>hb,?_⟩ | fail)
 case' B =>
  conv=>whnf
  intro b14 hb14
  generalize hs:(upd w b14 _:St)=w2
  have h:=C9.new' hs h hb14
  clear hs hb14
  have hb:=h.has1 (.s (.s .z))
  repeat' ((conv=>whnf);first | refine ⟨fun _=>trivial,?_⟩ | refine ⟨fun _=>hb,?_⟩ | fail)
  conv=>whnf
  refine B5m (q:=r9) (m:=codes.length) (g:=fun k=>eS (codes.getD k default)) h (OV.nil 1 0) (.s .z) rfl rfl rfl rfl (by rfl) (A3P ..) (f':=fun k=>eS (codes.getD k default)) (by show (0+codes.length) * 16≤140737488355328;omega) (fun i _=>by rw [if_neg (by omega)];rfl) (fun cv bc hcv=>?_);conv=>whnf
  intro w h
  rw [D7o codes.length] at hcv h
  have hb:=h.has1 (.s (.s .z))
  have e1:=A2w hcv.one
  have e2:=B1g hcv.one
  repeat' ((conv=>whnf);first | refine ⟨fun _=>trivial,?_⟩ | refine ⟨fun _=>hb,?_⟩ | refine quT (fun _=>⟨rfl,rfl⟩) ?_ | refine quT (fun s=>F3 (nB s)) ?_ | refine quL hb (fun _ hs=>X4 hs rfl Nat.one_pos rfl ⟨rfl,rfl⟩) ?_ | rw [e1] | rw [e2] | fail)
 all_goals
  conv=>whnf
  refine F1 h .z rfl rfl (B8q (by rfl) (by simp only [cellsOf,List.all_cons,hcv.one];rfl)) ?_;conv=>whnf
  intro w h
  clear hb e1 e2
  conv=>whnf
  refine L8 h (.s (.s .z)) rfl Nat.one_pos rfl ?_;conv=>whnf
  refine lp pays.length [6,8,10,12,14,15,16] (fun i vs u=>∃ tv bt,vs=[(B3Z id key zone exempt codes adds pays).fptr 0,.optr 17 b8 0 0,A8 3 I7 L,.optr 6 b12 0 0,.optr 17 b14 0 0,eI (Q.total - V8 (pays.take i)),eI i]∧OV 3 bt i tv ∧
   C9 st [(bt,⟨70,3,i,fun k=>Q5 ((pays.map A2k).getD k default)⟩),(b14,⟨50,17,1,fun _=>.agg [eS id,eI set,eS zone,eB exempt,cv,eI day,.emp,eI Q.ship,eI Q.shipTax,eI 0,eI Q.total,eI B.goods,eI B.tax,eI B.ship,eI B.shipTax,eI B.fee,tv]⟩),(bc,⟨9,1,codes.length,fun k=>eS (codes.getD k default)⟩),(b12,⟨113,6,1,fun _=>A1x Q⟩),(b8,⟨50,17,1,fun _=>I1 r50.zero⟩)] u) ?_ ?_
  ·conv=>whnf
   exact ⟨_,0,by rw [show V8 (pays.take 0)=0 by rw [D8B];rfl,Int.sub_zero];rfl,OV.nil ..,h.soft ..⟩
  clear h
  rintro i vs u hi ⟨tv,bt,rfl,htv,h⟩
  conv=>whnf
  cases h1:decide ((i:Int)<(pays.length:Int))
  case true =>
   have hi':=D6 h1
   have q1:=hpi i hi'
   have q2:=hpn i hi'
   have q3:=hpk (pays.length - (i+1)) (i+1) (by omega)
   have q4:=hpk (pays.length - i) i (by omega)
   rw [show pays.getD i default=pays.getD (i:Int).toNat default from rfl] at q1 q2
   have g0:decide ((i:Int)≥6)=false:=D7j (by omega)
   have g1:decide ((pays.getD (i:Int).toNat default).kind<1)=false:=D7j (by omega)
   have g2:decide ((pays.getD (i:Int).toNat default).kind>9)=false:=D7j (by omega)
   have g3:decide ((pays.getD (i:Int).toNat default).amount<1)=false:=D7j (by omega)
   have g4:decide ((pays.getD (i:Int).toNat default).amount>Q.total - V8 (pays.take i))=false:=D7j (by omega)
   repeat' ((conv=>whnf);first | refine ⟨rfl,⟨by omega,by omega⟩,?_⟩ | rw [g0] | rw [g1] | rw [g2] | rw [g3] | rw [g4] | refine L8 h (.s .z) rfl Nat.one_pos rfl ?_ | fail)
   conv=>whnf
   refine B5m (q:=r70) (m:=1) (g:=fun j=>[Q5 (A2k (pays.getD (i:Int).toNat default))].getD j AV.junk) h htv .z rfl rfl rfl rfl (by rfl) rfl (f':=fun k=>Q5 ((pays.map A2k).getD k default)) (by show (i+1) * 24≤140737488355328;omega) (fun k hk=>?_) (fun tv bt htv=>?_)
   ·split
    ·rfl
    ·rw [show k=i by omega,Nat.sub_self,D4 A2k pays hi'];rfl
   conv=>whnf
   intro w h;conv=>whnf
   refine C4K h (.s .z) rfl rfl rfl htv.one (by decide) ?_;conv=>whnf
   intro w h;conv=>whnf
   refine G3 ?_
   exact nx hi' ⟨_,_,by rw [B4 (by omega),A4 (by omega) (by omega),show Q.total - V8 (pays.take i) - (pays.getD (i:Int).toNat default).amount=Q.total - V8 (pays.take (i+1)) by omega],htv,h⟩
  obtain rfl:=B9 h1 hi
  rw [show Q.total - V8 (pays.take pays.length)=0 by rw [D7m,hpay.2];omega];conv=>whnf
  refine lp L.length [8,10,12,14,18] (fun i vs u=>∃ lv bl,vs=[.optr 17 b8 0 0,A8 3 I7 L,.optr 6 b12 0 0,.optr 17 b14 0 0,eI i]∧OV 6 bl i lv ∧
   C9 st [(bl,⟨55,6,i,fun k=>Q2 ((X1 L Q).getD k default)⟩),(bt,⟨70,3,pays.length,fun k=>Q5 ((pays.map A2k).getD k default)⟩),(b14,⟨50,17,1,fun _=>.agg [eS id,eI set,eS zone,eB exempt,cv,eI day,lv,eI Q.ship,eI Q.shipTax,eI 0,eI Q.total,eI B.goods,eI B.tax,eI B.ship,eI B.shipTax,eI B.fee,tv]⟩),(bc,⟨9,1,codes.length,fun k=>eS (codes.getD k default)⟩),(b12,⟨113,6,1,fun _=>A1x Q⟩),(b8,⟨50,17,1,fun _=>I1 r50.zero⟩)] u) ?_ ?_
  ·conv=>whnf
   exact ⟨_,0,rfl,OV.nil ..,h.soft ..⟩
  clear h
  rintro i vs u hi ⟨lv,bl,rfl,hlv,h⟩
  conv=>whnf
  cases h2:decide ((i:Int)<(L.length:Int))
  case false =>
   obtain rfl:=B9 h2 hi
   conv=>whnf
   refine L8 h (.s (.s .z)) rfl Nat.one_pos rfl ?_;conv=>whnf
   refine F1 h (.s (.s (.s (.s (.s .z))))) rfl rfl (B8q (by rfl) (by simp only [cellsOf,List.all_cons,hcv.one,hlv.one,htv.one];rfl)) ?_;conv=>whnf
   intro w h;conv=>whnf
   refine L8 h (.s (.s (.s (.s (.s .z))))) rfl Nat.one_pos rfl ?_;conv=>whnf
   exact ⟨cv,lv,tv,bc,bl,bt,((h.drop 5).drop 4).drop 2,hcv,hlv,htv,rfl⟩
  have hi':=D6 h2
  have hb14:=h.has1 (.s (.s .z))
  have hb12:=h.has1 (.s (.s (.s (.s .z))))
  conv=>whnf
  refine .inr ⟨[34,36],.qui 0 (.qui 1 (.qui 2 (.qui 3 (.qui 4 (.qui 5 (.qui 6 (.qui 7 (.qui 8 (.qui 9 (.qui 10 (.qui 11 (.qui 12 (.qui 13 (.qui 14 (.qui 15 (.qui 16 (.qui 17 (.qui 18 (.qui 19 (.qui 20 (.qui 21 (.qui 22 (.qui 23 (.qui 24 (.qui 25 (.qui 26 (.qui 27 (.qui 28 (.qui 29 (.qui 30 (.qui 31 (.qui 32 (.qui 33 (.eff 34 [] (.qui 35 (.eff 36 [] (.done))))))))))))))))))))))))))))))))))))),by kernel_rfl,?_⟩
  repeat' ((conv=>whnf);first | refine quT (fun _=>⟨rfl,rfl⟩) ?_ | refine quL hb14 (fun _ hs=>X4 hs rfl Nat.one_pos rfl ⟨rfl,rfl⟩) ?_ | refine quL hb12 (fun _ hs=>X4 hs rfl Nat.one_pos rfl ⟨rfl,rfl⟩) ?_ | refine ⟨rfl,⟨by omega,by omega⟩,?_⟩ | fail)
  conv=>whnf
  refine B5m (q:=r55) (m:=1) (g:=fun j=>[Q2 (Y4 L Q i)].getD j AV.junk) h hlv .z rfl rfl rfl rfl (by rfl) rfl (f':=fun k=>Q2 ((X1 L Q).getD k default)) (by show (i+1) * 56≤140737488355328;omega) (fun k hk=>?_) (fun lv bl hlv=>?_)
  ·split
   ·rfl
   ·rw [show k=i by omega,Nat.sub_self]
    unfold X1
    rw [D4 (Y4 L Q) (List.range L.length) (by rw [D7F];omega)]
    show Q2 (Y4 L Q i)=_
    congr 2
    simp [D7c,hi']
  conv=>whnf
  intro w h;conv=>whnf
  refine C4K h (.s (.s .z)) rfl rfl rfl hlv.one (by decide) ?_;conv=>whnf
  intro w h;conv=>whnf
  refine G3 ?_
  exact nx hi' ⟨_,_,by rw [B4 (by omega)],hlv,h⟩
end Go.Proofs.YtaapofnkmpiknaaGreat
namespace Go.Ab
open Go
theorem At.mem {α : Type} {L:List α} {j:Nat} {p : α} (h:At L j p):p∈L:=by
 induction h with
 | z=>exact D7G ..
 | s _ ih=>exact D7E _ ih
theorem At.of_mem {α : Type} {p : α}:∀ {L:List α},p∈L→∃ j,At L j p
 | a::L,h=>by
  rcases D8A.1 h with rfl | h
  ·exact ⟨_,.z⟩
  ·obtain ⟨j,hj⟩:=At.of_mem h;exact ⟨_,.s hj⟩
theorem C9.perm {st s:St} {L M:List (Nat×L7)} (hp:L.Perm M) (h:C9 st L s):C9 st M s:=by
 induction hp with
 | nil=>exact h
 | cons x hp ih=>exact ⟨h.1.imp id fun ⟨h1,h2,h3⟩=>⟨h1,h2,fun j p hj=>by
   obtain ⟨i,hi⟩:=At.of_mem (hp.mem_iff.2 hj.mem)
   exact h3 i p hi⟩,ih h.2⟩
 | swap x y L =>
  obtain ⟨hy,hx,hL⟩:=h
  refine ⟨?_,?_,hL⟩
  ·rcases D8w x.2.n with hn | hn
   ·exact .inl hn
   ·obtain ⟨h1,h2,h3⟩:=hx.resolve_left (by omega)
    refine .inr ⟨h1,h2,fun j p hj=>?_⟩
    cases hj with
    | z=>exact hy.imp id fun ⟨_,_,h4⟩=>((h4 0 x .z).resolve_left (by omega)).symm
    | s hj=>exact h3 _ p hj
  ·exact hy.imp id fun ⟨h1,h2,h3⟩=>⟨h1,h2,fun j p hj=>h3 _ p (.s hj)⟩
 | trans _ _ ih1 ih2=>exact ih2 (ih1 h)
theorem C9.mid {st s:St} (l1:List (Nat×L7)) {a:Nat×L7} {l2:List (Nat×L7)} (h:C9 st (l1++a::l2) s):C9 st (a::(l1++l2)) s:=h.perm List.perm_middle
end Go.Ab
namespace Go.Proofs.YtaapofnkmpiknaaGreat
open Go Go.Ab
attribute [local irreducible] upd del
theorem B3E (s:B3s) {L:List E6} {Q:O5} (hO:B8j (F0 s.rules) (P0 s) s.exempt (H3 s.codes) (J6 s.adds) L Q (N8 Q.total s.pays)) (hF:A7a s=true) (id key:C8) (u:St) :
  S P 16 [B1L s,eS id,eS key] u fun v st'=>v=.tuple [F4 (F0 s.rules),B3Z id key (P0 s) s.exempt (H3 s.codes) (J6 s.adds) (N8 Q.total s.pays)]∧st'=u:=by
 have hi:=hO.items
 refine C1t s _ _ Q 0 (by show _≤_;omega) ?_ (hO.sold.total_in hO.len.2) (fun w=>?_) u
 ·unfold A7a at hF
  simp only [D7f,D7d] at hF
  omega
 ·have:=hO.ref w
  rw [hO.lines];exact this
def C3r (st:St) (id zone:C8) (set:Int) (exempt:Bool) (codes:List C8) (day:Int) (L:List E6) (Q:O5) (pays:List Pay) (v:AV) (st':St):Prop :=
 ∃ cv lv tv bc bl bt,C9 st [(bl,⟨55,6,L.length,fun k=>Q2 ((X1 L Q).getD k default)⟩),(bt,⟨70,3,pays.length,fun k=>Q5 ((pays.map A2k).getD k default)⟩),(bc,⟨9,1,codes.length,fun k=>eS (codes.getD k default)⟩)] st' ∧
  OV 1 bc codes.length cv∧OV 6 bl L.length lv∧OV 3 bt pays.length tv ∧
  v=.agg [eS id,eI set,eS zone,eB exempt,cv,eI day,lv,eI Q.ship,eI Q.shipTax,eI 0,eI Q.total,eI (O2 Q).goods,eI (O2 Q).tax,eI (O2 Q).ship,eI (O2 Q).shipTax,eI (O2 Q).fee,tv]
set_option maxHeartbeats 4000000 in
theorem C4J (s:B3s) {L:List E6} {Q:O5} (hO:B8j (F0 s.rules) (P0 s) s.exempt (H3 s.codes) (J6 s.adds) L Q (N8 Q.total s.pays)) (hF:A7a s=true) (st:St) :
  S P 21 [B1L s] st fun v st'=>∃ o,v=.tuple [F4 (F0 s.rules),o]∧C3r st ⟨#[111]⟩ (P0 s) 1 s.exempt (H3 s.codes) (10+B5 s.day 20) L Q (N8 Q.total s.pays) o st':=by
 have cC:=fun u=>B3E s hO hF ⟨#[111]⟩ ⟨#[107]⟩ u
 have cM:=fun u=>A1l s.day 20 (by decide) (by decide) u
 have hm:=C7 s.day (n:=20) (by decide)
 have hid:C6 ⟨#[111]⟩=true:=by kernel_rfl
 have hz:=U9 hO.zone
 have hw:IntKind.i64.wrap (10+B5 s.day 20)=10+B5 s.day 20:=A4 (by omega) (by omega)
 have cS:∀ u,S P 27 [F4 (F0 s.rules),eI 1,B3Z ⟨#[111]⟩ ⟨#[107]⟩ (P0 s) s.exempt (H3 s.codes) (J6 s.adds) (N8 Q.total s.pays),eI (10+B5 s.day 20)] u fun v st'=>∃ o,v=.tuple [o,eI 0]∧C3r u ⟨#[111]⟩ (P0 s) 1 s.exempt (H3 s.codes) (10+B5 s.day 20) L Q (N8 Q.total s.pays) o st':=fun u=>by
  refine (C7G (F0 s.rules) 1 (10+B5 s.day 20) ⟨#[111]⟩ ⟨#[107]⟩ (P0 s) s.exempt (H3 s.codes) (J6 s.adds) (N8 Q.total s.pays) L Q (O2 Q) u ⟨by decide,by decide⟩ (by have:=hO.ncodes;omega) (by have:=hO.len;omega) hO.sold.ngoods hO.sold.ntaxes hO.paid (by have:=hO.npays;omega)
   (fun u=>?_) (fun u=>?_) (fun u=>?_) (fun u=>B2D _ (A8U s.rules) hO.right u) (fun u=>?_) (fun u=>?_) hO.ref (fun u=>C0I Q hO.amounts.1 hO.amounts.2 u)).mono fun v st' ⟨cv,lv,tv,bc,bl,bt,h1,h2,h3,h4,h5⟩=>⟨_,h5,cv,lv,tv,bc,bl,bt,h1,h2,h3,h4,rfl⟩
  ·have:=W9 (10+B5 s.day 20) 100000 u
   rwa [show J8 0 100000 (10+B5 s.day 20)=true by rw [D3];omega] at this
  ·have:=A0X ⟨#[111]⟩ (by decide) u
   rwa [hid] at this
  ·have:=A0X (P0 s) (by show _≤_;omega) u
   rwa [hO.zone] at this
  ·have:=B2A (H3 s.codes) (by have:=hO.ncodes;show _≤_;omega) (fun c hc=>by have:=hO.scodes c hc;show _≤_;omega) u
   rwa [hO.codes] at this
  ·have:=B2K (F0 s.rules).items (J6 s.adds) (by have:=hO.items;show _≤_;omega) u
   rw [hO.lines] at this;exact this
 generalize F0 s.rules=R at *
 generalize P0 s=Z at *
 generalize H3 s.codes=C at *
 generalize J6 s.adds=A at *
 generalize N8 Q.total s.pays=PP at *
 obtain ⟨D,hD⟩:∃ D,D=10+B5 s.day 20:=⟨_,rfl⟩
 rw [←hD] at hw cS ⊢
 refine A0o [1] A4i mixed Tryz.func21 (by rfl) rfl rfl rfl ?_;conv=>whnf
 intro b2 hb2
 generalize hs:(upd st b2 _:St)=w
 have h:=C9.new' hs (A0u st) hb2
 clear hs hb2
 conv=>whnf
 intro b3 hb3
 generalize hs:(upd w b3 _:St)=w2
 have h:=C9.new' hs h hb3
 clear hs hb3
 conv=>whnf
 refine I3 (cC _) ?_
 intro b4 hb4
 generalize hs:(upd w2 b4 _:St)=w
 have h:=C9.new' hs h hb4
 clear hs hb4
 conv=>whnf
 intro b5 hb5
 generalize hs:(upd w b5 _:St)=w2
 have h:=C9.new' hs h hb5
 clear hs hb5
 conv=>whnf
 refine F1 h (.s .z) rfl rfl (by rfl) ?_;conv=>whnf
 intro w h;conv=>whnf
 refine F1 h .z rfl rfl (by rfl) ?_;conv=>whnf
 intro w h
 have hb4:=h.has1 (.s .z)
 have hb5:=h.has1 .z
 conv=>whnf
 refine .inr ⟨[6,10,11],.qui 0 (.qui 1 (.qui 2 (.qui 3 (.qui 4 (.qui 5 (.two 6 10 [] [0,1,3,4] (.qui 7 (.qui 8 (.qui 9 (.eff 10 [0,1,3,4] (.eff 11 [] (.qui 12 (.done))))))) (.eff 6 [] (.qui 7 (.qui 8 (.qui 9 (.eff 11 [] (.qui 12 (.done))))))))))))),by kernel_rfl,?_⟩
 repeat' ((conv=>whnf);first | refine quT (fun _=>⟨rfl,rfl⟩) ?_ | refine quT (fun s=>F3 (cM s)) ?_ | refine quL hb4 (fun _ hs=>X4 hs rfl Nat.one_pos rfl ⟨rfl,rfl⟩) ?_ | refine quL hb5 (fun _ hs=>X4 hs rfl Nat.one_pos rfl ⟨rfl,rfl⟩) ?_ | rw [←hD,hw] | refine ⟨fun _=>trivial,?_⟩ | refine ⟨fun _=>hb4,?_⟩ | refine ⟨fun _=>hb5,?_⟩ | fail)
 refine ⟨?A,?B⟩
 case' A =>
  conv=>whnf
  refine call (cS _) (fun v w2 hv=>?_)
  obtain ⟨o,rfl,cv,lv,tv,bc,bl,bt,k,hcv,hlv,htv,rfl⟩:=hv
  have h:=h.trans k
  have hb4:=h.has1 (.s (.s (.s (.s .z))))
  have hb5:=h.has1 (.s (.s (.s .z)))
  repeat' ((conv=>whnf);first | refine quT (fun _=>⟨rfl,rfl⟩) ?_ | refine quT (fun s=>F3 (cM s)) ?_ | refine quL hb4 (fun _ hs=>X4 hs rfl Nat.one_pos rfl ⟨rfl,rfl⟩) ?_ | refine quL hb5 (fun _ hs=>X4 hs rfl Nat.one_pos rfl ⟨rfl,rfl⟩) ?_ | rw [←hD,hw] | refine ⟨fun _=>trivial,?_⟩ | refine ⟨fun _=>hb4,?_⟩ | refine ⟨fun _=>hb5,?_⟩ | fail)
  conv=>whnf
  intro b6 hb6
  generalize hs:(upd w2 b6 _:St)=w3
  have h:=C9.new' hs h hb6
  clear hs hb6
  have hb4:=h.has1 (.s (.s (.s (.s (.s .z)))))
  have hb5:=h.has1 (.s (.s (.s (.s .z))))
  repeat' ((conv=>whnf);first | refine quT (fun _=>⟨rfl,rfl⟩) ?_ | refine quT (fun s=>F3 (cM s)) ?_ | refine quL hb4 (fun _ hs=>X4 hs rfl Nat.one_pos rfl ⟨rfl,rfl⟩) ?_ | refine quL hb5 (fun _ hs=>X4 hs rfl Nat.one_pos rfl ⟨rfl,rfl⟩) ?_ | rw [←hD,hw] | refine ⟨fun _=>trivial,?_⟩ | refine ⟨fun _=>hb4,?_⟩ | refine ⟨fun _=>hb5,?_⟩ | fail)
  conv=>whnf
  refine F1 h .z rfl rfl (B8q (by rfl) (by simp only [cellsOf,List.all_cons,hcv.one,hlv.one,htv.one];rfl)) ?_;conv=>whnf
  intro w4 h
 case' B =>
  conv=>whnf
  intro b6 hb6
  generalize hs:(upd w b6 _:St)=w3
  have h:=C9.new' hs h hb6
  clear hs hb6
  have hb4:=h.has1 (.s (.s .z))
  have hb5:=h.has1 (.s .z)
  repeat' ((conv=>whnf);first | refine quT (fun _=>⟨rfl,rfl⟩) ?_ | refine quT (fun s=>F3 (cM s)) ?_ | refine quL hb4 (fun _ hs=>X4 hs rfl Nat.one_pos rfl ⟨rfl,rfl⟩) ?_ | refine quL hb5 (fun _ hs=>X4 hs rfl Nat.one_pos rfl ⟨rfl,rfl⟩) ?_ | rw [←hD,hw] | refine ⟨fun _=>trivial,?_⟩ | refine ⟨fun _=>hb4,?_⟩ | refine ⟨fun _=>hb5,?_⟩ | fail)
  conv=>whnf
  refine call (cS _) (fun v w2 hv=>?_)
  obtain ⟨o,rfl,cv,lv,tv,bc,bl,bt,k,hcv,hlv,htv,rfl⟩:=hv
  have h:=(h.trans k).mid [_,_,_]
  have hb4:=h.has1 (.s (.s (.s (.s (.s .z)))))
  have hb5:=h.has1 (.s (.s (.s (.s .z))))
  repeat' ((conv=>whnf);first | refine quT (fun _=>⟨rfl,rfl⟩) ?_ | refine quT (fun s=>F3 (cM s)) ?_ | refine quL hb4 (fun _ hs=>X4 hs rfl Nat.one_pos rfl ⟨rfl,rfl⟩) ?_ | refine quL hb5 (fun _ hs=>X4 hs rfl Nat.one_pos rfl ⟨rfl,rfl⟩) ?_ | rw [←hD,hw] | refine ⟨fun _=>trivial,?_⟩ | refine ⟨fun _=>hb4,?_⟩ | refine ⟨fun _=>hb5,?_⟩ | fail)
  conv=>whnf
  refine F1 h .z rfl rfl (B8q (by rfl) (by simp only [cellsOf,List.all_cons,hcv.one,hlv.one,htv.one];rfl)) ?_;conv=>whnf
  intro w4 h
 all_goals
  have hb4:=h.has1 (.s (.s (.s (.s (.s .z)))))
  have hb6:=h.has1 .z
  conv=>whnf
  refine .inr ⟨[2,3],.qui 0 (.qui 1 (.eff 2 [1] (.eff 3 [] (.done)))),by kernel_rfl,?_⟩
  repeat' ((conv=>whnf);first | refine quL hb4 (fun _ hs=>X4 hs rfl Nat.one_pos rfl ⟨rfl,rfl⟩) ?_ | refine quL hb6 (fun _ hs=>X4 hs rfl Nat.one_pos rfl ⟨rfl,rfl⟩) ?_ | fail)
  conv=>whnf
  refine F1 h (.s (.s (.s (.s (.s (.s (.s .z))))))) rfl rfl (by rfl) ?_;conv=>whnf
  intro w5 h
  have hb6:=h.has1 .z
  conv=>whnf
  refine ⟨fun _=>hb6,?_⟩;conv=>whnf
  refine F1 h (.s (.s (.s (.s (.s (.s .z)))))) rfl rfl (B8q (by rfl) (by simp only [cellsOf,List.all_cons,hcv.one,hlv.one,htv.one];rfl)) ?_;conv=>whnf
  intro w6 h;conv=>whnf
  refine L8 h (.s (.s (.s (.s (.s (.s (.s .z))))))) rfl Nat.one_pos rfl ?_;conv=>whnf
  refine L8 h (.s (.s (.s (.s (.s (.s .z)))))) rfl Nat.one_pos rfl ?_;conv=>whnf
  exact ⟨_,rfl,cv,lv,tv,bc,bl,bt,((((h.drop 7).drop 6).drop 5).drop 4).drop 0,hcv,hlv,htv,rfl⟩
end Go.Proofs.YtaapofnkmpiknaaGreat
