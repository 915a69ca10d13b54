/- Part 31 of the proof: contracts of the functions that the law reaches -/
import Derived.Test.YtaapofnkmpiknaaGreatPl30
set_option maxRecDepth 100000
set_option linter.unusedVariables false
set_option linter.unusedSimpArgs false
namespace Go.Proofs.YtaapofnkmpiknaaGreat
open Go Go.Ab
attribute [local irreducible] upd del
set_option maxHeartbeats 8000000 in
theorem B6X (t:Tax) (rates nets:List Int) (hn:A4Q nets) (hr:rates.length=nets.length) (hq:∀ x∈rates,0≤x∧x≤10000) (st:St) :
  S P 169 [S7 t,B0 rates,B0 nets] st fun v s=>∃ bo,v=.own 1 bo 0 nets.length∧st bo=none∧(∃ y,IsL (H0 t rates nets) y∧s bo=some y)∧F1 st s:=by
 have hnl:=hn.len
 have hns:=hn.sum
 have hol:(H0 t rates nets).length=nets.length:=by unfold H0;rw [D6J,D7g]
 refine F4 [3] Tryz.func169 ?_
 refine mkO rfl rfl rfl (by show 8 * nets.length≤_;omega) (by omega) (by rfl) (fun bo hbo=>?_);conv=>whnf
 refine mkO rfl rfl rfl (by show 1 * nets.length≤_;omega) (by omega) (by rfl) (fun bd hbd=>?_);conv=>whnf
 refine lp nets.length [1,2,3,7,8,9] (fun i vs u=>∃ (D:Int→Bool) (L:List Int),vs=[B0 rates,B0 nets,.fptr (S7 t) 0,.own 1 bo 0 nets.length,.own 1 bd 0 nets.length,eI i]∧B3D t rates nets D L∧(∀ j,j<i→D (-(gI rates j))=true)∧OD bo bd L nets.length (fun k=>D (-(gI rates k))) st u) ?_ ?_
 ·conv=>whnf
  exact ⟨fun _=>false,List.replicate nets.length 0,rfl,⟨D7L,fun i hi=>by
   rw [if_neg (by simp)];unfold gI
   rw [D6D,D8V];split<;>rfl⟩,fun j hj=>absurd hj (by omega),hbo,_,⟨fun _=>H7 r2.zero,by rw [D7L];rfl,fun i hi=>by
   unfold gI;rw [D6D,D8V];split<;>rfl⟩,hbd,_,⟨fun _=>H7 r4.zero,rfl,fun k hk=>rfl⟩,F1.refl _⟩
 rintro i vs u hi ⟨D,L,rfl,hdone,hall,hR⟩
 conv=>whnf
 cases h1:decide ((i:Int)<(nets.length:Int))
 case false =>
  obtain rfl:=C5 h1 hi
  have hL:=C0X hdone hall
  conv=>whnf
  obtain ⟨y,hy,hb⟩:=hR.atL
  have hsup:=(A5W ..).sup hR
  exact ⟨bo,rfl,hbo,⟨y,by rw [←hL];exact hy,hb⟩,hsup⟩
 have hi':=E2 h1
 obtain ⟨yd,⟨fd,rfl,hfd⟩,hbd2⟩:=hR.atD
 conv=>whnf
 refine E7 ?_
 refine ldV hbd2 rfl (by omega) (v:=eB (D (-(gI rates i)))) (by rw [show 0+((i:Nat):Int).toNat=i by omega];exact hfd i hi') ?_;conv=>whnf
 cases hD:D (-(gI rates i))
 case true =>
  conv=>whnf
  refine G2 ?_
  exact nx hi' ⟨D,L,by rw [B4 (by omega)],hdone,fun j hj=>by
   by_cases e:j=i
   ·rw [e];exact hD
   ·exact hall j (by omega),hR⟩
 clear hbd2 hfd
 obtain ⟨key,hkey⟩:∃ key,key = -(gI rates i):=⟨_,rfl⟩
 have hil:i<rates.length:=by omega
 have hrate:0≤gI rates i∧gI rates i≤10000:=hq (gI rates i) (A7 hil)
 have him:i∈K5 rates key:=D7F.2 ⟨D6T.2 hil,by rw [hkey];exact D8S _⟩
 have hnext:=B3E (k:=key) hdone hr
 have hcl:=fun m (hm:m≤rates.length)=>C8D (k:=key) hm
 have hca:=fun m (hm:m<rates.length) h=>C8C (k:=key) hm h
 have hcn:=C3s rates key
 have hce:=C5Y rates key
 have hc0:A8o rates key i=0:=by
  unfold A8o
  rw [List.length_eq_zero_iff,List.filter_eq_nil_iff]
  intro j hj hk
  have hj:=D6T.1 hj
  have h2:=hall j hj
  rw [show -(gI rates j) = -(gI rates i) by rw [←hkey];simpa using hk,hD] at h2
  cases h2
 have hparts:(A2L t rates nets key).length=(K5 rates key).length∧(∀ st,S P 220 [eI (N6 t (A2 ((K5 rates key).map (gI nets))) (gI rates i)),B0 ((K5 rates key).map (gI nets))] st fun v st'=>v=.tuple [B0 (A2L t rates nets key),eI 0]∧st'=st):=by
  have hw:=A2Y (t:=t) hn hr (i:=i) hrate
  have e:I8 rates nets i=(K5 rates key).map (gI nets):=by unfold I8;rw [(A0z him).2.2]
  rw [e] at hw
  have h3:=(T2 hw).2.1
  have e2:A2L t rates nets key=D2 (N6 t (A2 ((K5 rates key).map (gI nets))) (gI rates i)) ((K5 rates key).map (gI nets)):=by unfold A2L;rw [hkey,show - -(gI rates i)=gI rates i by omega]
  rw [e2]
  refine ⟨by rw [h3,D6J],fun st=>?_⟩
  exact A7U _ _ hw st
 have hGok:=fun j=>C7U (rates:=rates) (k:=key) (j:=j)
 have hsub:((K5 rates key).map (gI nets)).Sublist nets:=by
  have h1:((K5 rates key).map (gI nets)).Sublist ((List.range nets.length).map (gI nets)):=by
   refine List.Sublist.map _ ?_
   unfold K5;rw [hr];exact D8F
  rw [A6u] at h1;exact h1
 have hw0:∀ v∈(K5 rates key).map (gI nets),0≤v:=fun v hv=>hn.pos v (hsub.subset hv)
 have hws:A2 ((K5 rates key).map (gI nets))≤10000000000000:=by have:=B2C hsub hn.pos;omega
 have hGl:(K5 rates key).length≤nets.length:=by have:=hsub.length_le;rwa [D6J] at this
 have hGp:0<(K5 rates key).length:=List.length_pos_of_mem him
 have hgm:∀ j,j<(K5 rates key).length→gI ((K5 rates key).map (gI nets)) j=gI nets (gN (K5 rates key) j).toNat:=fun j hj=>by
  show gI ((K5 rates key).map (gI nets)) j=gI nets ((((K5 rates key).getD j 0:Nat):Int)).toNat
  rw [D6R]
  unfold gI
  rw [D6D,D7C,D6D (l:=K5 rates key),D6K hj];rfl
 generalize K5 rates key=G at *
 generalize A2L t rates nets key=X at *
 generalize hCnt:A8o rates key=cnt at *
 conv=>whnf
 refine lp (nets.length - i) [1,2,3,7,8,9,10,11,12] (fun j vs u=>∃ (lv wv:AV),vs=[B0 rates,B0 nets,.fptr (S7 t) 0,.own 1 bo 0 nets.length,.own 1 bd 0 nets.length,eI i,lv,wv,eI ((i+j:Nat):Int)]∧ROut (fun s t=>ROut (OD bo bd L nets.length (fun m=>D (-(gI rates m))||(decide (m<i+j)&&(-(gI rates m)==key)))) 3 1 (fun x=>eI (gN G x)) (cnt (i+j)) s lv t) 2 1 (fun x=>eI (gI (G.map (gI nets)) x)) (cnt (i+j)) st wv u) ?_ ?_
 ·conv=>whnf
  refine ⟨.emp,.emp,rfl,?_⟩
  rw [D8X,hc0]
  refine ROut.start (show ROut _ _ _ _ 0 st .emp u from ROut.start (show OD _ _ _ _ _ st u from hR.congr fun m hm=>?_) _ _ _) _ _ _
  by_cases e:m<i
  ·rw [hall m e,D7z]
  ·rw [D6L e,D7c,D7w]
 clear hR
 rintro j vs w hj ⟨lv,wv,rfl,hR⟩
 conv=>whnf
 cases h2:decide ((((i+j:Nat)):Int)<(nets.length:Int))
 case true =>
  have hj':i+j<nets.length:=by have:=D6H h2;omega
  have hcj:=hcn (i+j)
  conv=>whnf
  refine ⟨[],[],List.range 9,by kernel_rfl,?_⟩;conv=>whnf
  refine E7 ?_
  refine E7 ?_
  have hk3:(rates.getD (((i+j:Nat):Int)).toNat default==rates.getD ((i:Nat):Int).toNat default)=(-(gI rates (i+j))==key):=by
   rw [D6R,D6R,hkey,D9J,D7B,D7B]
   show gI rates (i+j)=gI rates i↔-(gI rates (i+j)) = -(gI rates i)
   omega
  rw [hk3]
  cases h3:(-(gI rates (i+j))==key)
  case false =>
   rw [h3,if_neg (by simp)] at hcj;conv=>whnf
   refine G2 ?_
   refine nx (n:=nets.length - i) (by omega) ⟨lv,wv,by rw [B4 (by omega)];rfl,?_⟩
   rw [show i+(j+1)=i+j+1 from rfl,hcj]
   refine ROut.map hR fun s h=>ROut.map h fun s h=>OD.congr h fun m hm=>?_
   by_cases e:m=i+j
   ·subst e;rw [h3,D7h,D7h]
   ·rw [show decide (m<i+j+1)=decide (m<i+j) from D8s.2 (by omega)]
  rw [h3,if_pos rfl] at hcj
  obtain ⟨hc1,hc2⟩:=hca (i+j) (by omega) h3
  obtain ⟨s0,hw0,s1,hl0,hOD⟩:=hR
  obtain ⟨yd,⟨fd,rfl,hfd⟩,hbd2⟩:=hOD.atD
  conv=>whnf
  refine E7 ?_
  refine stU hbd2 (hfd (0+((i+j:Nat):Int).toNat) (by omega)) ?_
  have hOD2:OD bo bd L nets.length (fun m=>D (-(gI rates m))||(decide (m<i+j+1)&&(-(gI rates m)==key))) s1 _:=hOD.setD (IsF.set (i:=0+((i+j:Nat):Int).toNat) hfd (by rw [show 0+((i+j:Nat):Int).toNat=i+j by omega,h3,D7m (by omega),D7u,D7v]) (fun k hk=>by
   rw [show decide (k<i+j+1)=decide (k<i+j) from D8s.2 (by omega)]))
  have hB1:=A5W bo bd L nets.length (fun m=>D (-(gI rates m))||(decide (m<i+j+1)&&(-(gI rates m)==key)))
  have hin:ROut (OD bo bd L nets.length (fun m=>D (-(gI rates m))||(decide (m<i+j+1)&&(-(gI rates m)==key)))) 3 1 (fun x=>eI (gN G x)) (cnt (i+j)) s0 lv _:=⟨s1,hl0,hOD2⟩
  have hout:ROut (fun s t=>ROut (OD bo bd L nets.length (fun m=>D (-(gI rates m))||(decide (m<i+j+1)&&(-(gI rates m)==key)))) 3 1 (fun x=>eI (gN G x)) (cnt (i+j)) s lv t) 2 1 (fun x=>eI (gI (G.map (gI nets)) x)) (cnt (i+j)) st wv _:=⟨s0,hw0,hin⟩
  have hwv:=ROut.head hout
  have hlv:=ROut.head hin
  have hgc:=hgm _ hc1
  rw [hc2] at hgc
  have hcl2:=hcl (i+j) (by omega)
  rcases hlv with rfl | ⟨bl,rfl⟩<;>rcases hwv with rfl | ⟨bw,rfl⟩
  all_goals
   conv=>whnf
   refine ⟨[2,3,8,9,10],[],[],.qui 0 (.qui 1 (.qui 4 (.qui 5 (.qui 6 (.qui 7 (.two 2 8 (.two 3 8 (.gen 8 (.gen 9 (.gen 10 (.qui 11 (.qui 12 .done))))) (.two 3 9 (.gen 9 (.gen 10 (.qui 11 (.qui 12 .done)))) (.gen 3 (.gen 10 (.qui 11 (.qui 12 .done)))))) (.two 2 9 (.two 3 9 (.gen 9 (.gen 10 (.qui 11 (.qui 12 .done)))) (.gen 3 (.gen 10 (.qui 11 (.qui 12 .done))))) (.gen 2 (.gen 3 (.gen 10 (.qui 11 (.qui 12 .done)))))))))))),by kernel_rfl,?_⟩;conv=>whnf
   refine E7 ?_
   repeat' (refine And.intro ?_ ?_<;>(conv=>whnf))
   all_goals
    refine ROut.app (q:=r3) hB1 rfl rfl rfl rfl rfl (f:=fun x=>eI (gN G x)) (by show _=eI _;rw [hc2];rfl) (by show (cnt (i+j)+1) * 8≤140737488355328;omega) hin (fun lv' w2 hin2=>?_)
    have hout2:ROut (fun s t=>ROut (OD bo bd L nets.length (fun m=>D (-(gI rates m))||(decide (m<i+j+1)&&(-(gI rates m)==key)))) 3 1 (fun x=>eI (gN G x)) (cnt (i+j)+1) s lv' t) 2 1 (fun x=>eI (gI (G.map (gI nets)) x)) (cnt (i+j)) st _ w2:=⟨s0,hw0,hin2⟩
    conv=>whnf
    refine ROut.app (q:=r2) (U9 hB1 _ _ _ _ _) rfl rfl rfl rfl rfl (f:=fun x=>eI (gI (G.map (gI nets)) x)) (by show _=eI _;rw [hgc];rfl) (by show (cnt (i+j)+1) * 8≤140737488355328;omega) hout2 (fun wv' w3 hout3=>?_);conv=>whnf
    refine G2 ?_
    refine nx (n:=nets.length - i) (by omega) ⟨lv',wv',by rw [B4 (by omega)];rfl,?_⟩
    rw [show i+(j+1)=i+j+1 from rfl,hcj]
    exact hout3
 have hije:i+j=rates.length:=by have:=D6G h2;omega
 rw [hije,hce] at hR
 obtain ⟨w2,hsh,hR2⟩:=ROut.shift (U9 (A5W ..) _ _ _ _ _) hR
 have e0:AV.arr 1 G.length (fun x=>eI (gI (G.map (gI nets)) x))=B0 (G.map (gI nets)):=by unfold B0 A8;rw [D6J]
 rw [e0] at hsh
 have hsm:S P 118 [wv] w fun v s=>v=eI (A2 (G.map (gI nets)))∧s=w :=
  S.lends (A9O (G.map (gI nets)) (by rw [D6J];omega) hw0 (by omega) st0) (hsh.trans ((C7A _).shift _)) fun v hv=>⟨_,rfl,by rw [hv];exact So.int _ _⟩
 have hpt:=fun s=>B5i t (A2 (G.map (gI nets))) (gI rates i) hrate s
 generalize A2 (G.map (gI nets))=W at hsm hpt hparts
 generalize N6 t W (gI rates i)=M at hpt hparts
 obtain ⟨bw,rfl⟩:∃ b,wv=.own 1 b 0 G.length:=by
  rcases ROut.head hR with rfl | h
  ·obtain ⟨s0,⟨h0,_⟩ | ⟨_,b,_,_,h1,_⟩,_⟩:=hR
   ·omega
   ·cases h1
  ·exact h
 conv=>whnf
 refine ⟨[9],[],List.range 15,by kernel_rfl,?_⟩;conv=>whnf
 refine cqW hsm ?_
 refine E7 ?_
 refine cqW (hpt _) ?_
 refine E5 (args':=[eI M,B0 (G.map (gI nets))]) (A6.cons (A6.keep _ _) hsh) (B3 (hparts.2 _) ?_);conv=>whnf
 obtain ⟨bl,rfl⟩:∃ b,lv=.own 1 b 0 G.length:=by
  rcases ROut.head hR2 with rfl | h
  ·obtain ⟨s0,⟨h0,_⟩ | ⟨_,b,_,_,h1,_⟩,_⟩:=hR2
   ·omega
   ·cases h1
  ·exact h
 refine lp G.length [1,2,3,7,8,9,10,13,15] (fun j vs u=>vs=[B0 rates,B0 nets,.fptr (S7 t) 0,.own 1 bo 0 nets.length,.own 1 bd 0 nets.length,eI i,.own 1 bl 0 G.length,B0 X,eI j]∧ROut (OD bo bd (A4C L G X j) nets.length (fun m=>D (-(gI rates m))||(decide (m<rates.length)&&(-(gI rates m)==key)))) 3 1 (fun x=>eI (gN G x)) G.length st (.own 1 bl 0 G.length) u) ?_ ?_
 ·conv=>whnf
  exact ⟨rfl,hR2⟩
 clear hR hR2 hsm hsh
 rintro j vs v hjx ⟨rfl,hR3⟩
 have hPl:=A8N L G X j
 have hdl:=hdone.1
 have hXl:=hparts.1
 conv=>whnf
 cases h5:decide ((j:Int)<(G.length:Int))
 case true =>
  have hj5:=E2 h5
  have hGj:=hGok j (by omega)
  obtain ⟨s0,hcl,hOD⟩:=hR3
  obtain ⟨g,hb3,h4⟩:∃ g,v bl=some ⟨3,1,G.length,g⟩∧∀ k,k<G.length→g k=eI (gN G k):=by
   rcases hcl with ⟨h0,_⟩ | ⟨_,b,g,h3,h4,h5,h6⟩
   ·omega
   ·injection h4 with _ h4 _ _
    subst h4
    exact ⟨g,(A5W ..).sup hOD bl _ (by rw [h5];exact A0 ..),h6⟩
  obtain ⟨yo,⟨fo,rfl,hfo⟩,hbo3⟩:=hOD.atL
  conv=>whnf
  refine ⟨[10],[],List.range 11,by kernel_rfl,?_⟩;conv=>whnf
  refine E7 ?_
  refine ldV hb3 rfl (by show 0+((j:Nat):Int).toNat<G.length;omega) (v:=eI (gN G j)) (by show g (0+((j:Nat):Int).toNat)=_;rw [show 0+((j:Nat):Int).toNat=j by omega];exact h4 j (by omega)) ?_;conv=>whnf
  refine E7 ?_
  refine E7 ?_
  refine stV hbo3 rfl (by show 0+(gN G j).toNat<(A4C L G X j).length;omega) (hfo (0+(gN G j).toNat) (by omega)) (by rfl) ?_;conv=>whnf
  refine G2 ?_
  have hset:IsL (A4C L G X (j+1)) ⟨2,1,(A4C L G X j).length,I4 fo (0+(gN G j).toNat) (eI (gI X (j:Int).toNat))⟩:=by
   have:=IsL.set (i:=(gN G j).toNat) (v:=gI X j) hfo
   rw [show 0+(gN G j).toNat=(gN G j).toNat by omega,show (j:Int).toNat=j by omega]
   exact this
  exact nx hj5 ⟨by rw [B4 (by omega)],⟨_,hcl,hOD.setL hset⟩⟩
 obtain rfl:=C5 h5 hjx
 have hfin:=ROut.dropped (A5W ..) hR3
 conv=>whnf
 refine G2 ?_
 refine nx hi' ⟨fun y=>D y||y==key,A4C L G X G.length,by rw [B4 (by omega)],hnext,fun j hj=>?_,hfin.congr fun m hm=>?_⟩
 ·show (D (-(gI rates j))||(-(gI rates j)==key))=true
  by_cases e:j=i
  ·subst e;rw [hkey,D8S,D7v]
  ·rw [hall j (by omega),D7z]
 ·rw [D7m (by omega),D6Y]
end Go.Proofs.YtaapofnkmpiknaaGreat
namespace Go.Ab
open Go
inductive At {α : Type}:List α→Nat→α→Prop
 | z {a : α} {l:List α}:At (a::l) 0 a
 | s {a b : α} {l:List α} {n:Nat} (h:At l n a):At (b::l) (n+1) a
def Has (s:St) (b:Nat) (y:K4):Prop:=∃ g,s b=some ⟨y.ty,y.e,y.n,g⟩∧∀ k,k<y.n→g k=y.f k
def D3 (st:St):List (Nat×K4)→St→Prop
 | [],s=>F1 st s
 | x::L,s=>(x.2.n=0∨(st x.1=none∧Has s x.1 x.2∧∀ j p,At L j p→p.2.n=0∨p.1≠x.1))∧D3 st L s
theorem D3.sup {st:St}:∀ {L:List (Nat×K4)} {s:St},D3 st L s→F1 st s
 | [],_,h=>h
 | _::_,_,h=>D3.sup h.2
theorem D3.get {st s:St}:∀ {L:List (Nat×K4)} {j:Nat} {p:Nat×K4},D3 st L s→At L j p→p.2.n=0∨(st p.1=none∧Has s p.1 p.2)
 | _,_,_,h,.z=>h.1.imp id fun h=>⟨h.1,h.2.1⟩
 | _,_,_,h,.s k=>D3.get h.2 k
theorem D3.other {st s:St} {L:List (Nat×K4)} (h:D3 st L s) {b:Nat} (hb:s b=none) (j:Nat) (p:Nat×K4) (hp:At L j p):p.2.n=0∨p.1≠b :=
 (h.get hp).imp id fun ⟨_,g,hg,_⟩ e=>by subst e;rw [hb] at hg;cases hg
theorem D3.frame {st s s':St}:∀ {L:List (Nat×K4)},D3 st L s→F1 st s'→(∀ j p,At L j p→p.2.n=0∨s' p.1=s p.1)→D3 st L s'
 | [],_,hs,_=>hs
 | x::L,h,hs,hf=>⟨h.1.elim .inl fun ⟨h1,⟨g,h2,h3⟩,h4⟩=>(hf 0 x .z).imp id fun e=>⟨h1,⟨g,e.trans h2,h3⟩,h4⟩,D3.frame h.2 hs fun j p hp=>hf (j+1) p (.s hp)⟩
theorem D3.new {st s:St} {L:List (Nat×K4)} (h:D3 st L s) {b:Nat} (hb:s b=none) (y:K4):D3 st ((b,y)::L) (upd s b y) :=
 ⟨.inr ⟨h.sup.none hb,⟨y.f,A0 ..,fun _ _=>rfl⟩,h.other hb⟩,h.frame (h.sup.upd hb) fun j p hp=>(h.other hb j p hp).imp id A9⟩
theorem D3.new' {st s s':St} {L:List (Nat×K4)} {b:Nat} {y:K4} (hs:upd s b y=s') (h:D3 st L s) (hb:s b=none):D3 st ((b,y)::L) s':=hs▸h.new hb y
theorem D3.soft {st s:St} {L:List (Nat×K4)} (h:D3 st L s) (b ty e:Nat) (f:Nat→AV):D3 st ((b,⟨ty,e,0,f⟩)::L) s:=⟨.inl rfl,h⟩
theorem At.of_set {α : Type}:∀ {L:List α} {j i:Nat} {p q : α},At (L.set j q) i p→p=q∨∃ i,At L i p
 | _::_,0,_,_,_,.z=>.inl rfl
 | _::_,0,_,_,_,.s k=>.inr ⟨_,.s k⟩
 | _::_,_+1,_,_,_,.z=>.inr ⟨_,.z⟩
 | _::_,_+1,_,_,_,.s k=>(At.of_set k).imp id fun ⟨_,h⟩=>⟨_,.s h⟩
theorem D3.chg {st s s':St} {b b':Nat} {y y':K4} (hS:F1 st s') (hst:st b'=none) (hH:Has s' b' y') (ho:∀ c x,(y.n=0∨c≠b)→s c=some x→s' c=some x∧c≠b') :
  ∀ {L:List (Nat×K4)} {j:Nat},D3 st L s→At L j (b,y)→D3 st (L.set j (b',y')) s'
 | _::L,_,h,.z=>by
  have ho':∀ j p,At L j p→p.2.n=0∨(s' p.1=s p.1∧p.1≠b'):=fun j p hp=>by
   rcases h.2.get hp with h0 | ⟨_,g,hg,_⟩
   ·exact .inl h0
   ·rcases h.1 with h1 | h1
    ·obtain ⟨e1,e2⟩:=ho _ _ (.inl h1) hg
     exact .inr ⟨e1.trans hg.symm,e2⟩
    ·rcases h1.2.2 j p hp with h0 | h0
     ·exact .inl h0
     ·obtain ⟨e1,e2⟩:=ho _ _ (.inr h0) hg
      exact .inr ⟨e1.trans hg.symm,e2⟩
  exact ⟨.inr ⟨hst,hH,fun j p hp=>(ho' j p hp).imp id And.right⟩,h.2.frame hS fun j p hp=>(ho' j p hp).imp id And.left⟩
 | x::L,_,h,.s k=>by
  refine ⟨?_,D3.chg hS hst hH ho h.2 k⟩
  rcases h.1 with h0 | ⟨h1,⟨g,h2,h3⟩,h4⟩
  ·exact .inl h0
  ·obtain ⟨e1,e2⟩:=ho _ _ ((h4 _ _ k).imp id Ne.symm) h2
   refine .inr ⟨h1,⟨g,e1,h3⟩,fun j p hp=>?_⟩
   rcases At.of_set hp with rfl | ⟨i,hi⟩
   ·exact .inr (Ne.symm e2)
   ·exact h4 i p hi
theorem D3.put {st s:St} {L:List (Nat×K4)} {j b:Nat} {y y':K4} (h:D3 st L s) (k:At L j (b,y)) (hn:0<y.n) {g:Nat→AV} (hg:∀ k,k<y'.n→g k=y'.f k):D3 st (L.set j (b,y')) (upd s b ⟨y'.ty,y'.e,y'.n,g⟩):=by
 have h1:=((h.get k).resolve_left (by show ¬ y.n=0;omega)).1
 exact D3.chg (h.sup.over h1) h1 ⟨g,A0 ..,hg⟩ (fun c x hc hx=>by
  have hc:=hc.resolve_left (by omega)
  exact ⟨(A9 hc).trans hx,hc⟩) h k
theorem At.of_erase {α : Type}:∀ {L:List α} {j i:Nat} {p : α},At (L.eraseIdx j) i p→∃ i,At L i p
 | _::_,0,_,_,k=>⟨_,.s k⟩
 | _::_,_+1,_,_,.z=>⟨_,.z⟩
 | _::_,_+1,_,_,.s k=>let ⟨_,h⟩:=At.of_erase k;⟨_,.s h⟩
theorem D3.drop {st s:St}:∀ {L:List (Nat×K4)} (j:Nat),D3 st L s→D3 st (L.eraseIdx j) s
 | [],_,h=>h
 | _::_,0,h=>h.2
 | _::_,j+1,h=>⟨h.1.imp id fun h=>⟨h.1,h.2.1,fun i p hp=>let ⟨_,hq⟩:=At.of_erase hp;h.2.2 _ p hq⟩,D3.drop j h.2⟩
theorem D3.apart {st s:St} {b:Nat} {y:K4} (hn:0<y.n):∀ {L:List (Nat×K4)} {j:Nat},D3 st L s→At L j (b,y)→∀ i p,At (L.eraseIdx j) i p→p.2.n=0∨p.1≠b
 | _::_,_,h,.z,i,p,hp=>(h.1.resolve_left (by show ¬ y.n=0;omega)).2.2 i p hp
 | _::_,_,h,.s k,_,_,.z=>h.1.imp id fun h=>((h.2.2 _ _ k).resolve_left (by show ¬ y.n=0;omega)).symm
 | _::_,_,h,.s k,_,_,.s hp=>D3.apart hn h.2 k _ _ hp
theorem D3.zero {st s:St} {b b':Nat} {y y':K4} (hy:y'.n=0):∀ {L:List (Nat×K4)} {j:Nat},D3 st L s→At L j (b,y)→D3 st (L.set j (b',y')) s
 | _::_,_,h,.z=>⟨.inl hy,h.2⟩
 | _::_,_,h,.s k=>⟨h.1.imp id fun h=>⟨h.1,h.2.1,fun i p hp=>by
   rcases At.of_set hp with rfl | ⟨i,hi⟩
   ·exact .inl hy
   ·exact h.2.2 i p hi⟩,D3.zero hy h.2 k⟩
theorem D3.as {st s:St} {L:List (Nat×K4)} {j b ty e n:Nat} {f:Nat→AV} (f':Nat→AV) (h:D3 st L s) (k:At L j (b,⟨ty,e,n,f⟩)) (hf:∀ k,k<n→f k=f' k):D3 st (L.set j (b,⟨ty,e,n,f'⟩)) s:=by
 rcases D8b n with h0 | h0
 ·exact D3.zero h0 h k
 ·obtain ⟨h1,g,hg,hh⟩:=(h.get k).resolve_left (by show ¬ n=0;omega)
  have:=h.put (y':=⟨ty,e,n,f'⟩) k h0 (g:=g) fun i hi=>(hh i hi).trans (hf i hi)
  rwa [upd_self' hg] at this
where
 upd_self' {st:St} {a:Nat} {x:K4} (h:st a=some x):upd st a x=st:=funext fun c=>by
  unfold upd;split
  ·rename_i e;subst e;exact h.symm
  ·rfl
def OV (e b n:Nat) (v:AV):Prop:=(n=0∧v=.emp)∨(0<n∧v=.own e b 0 n)
theorem OV.nil (e b:Nat):OV e b 0 .emp:=.inl ⟨rfl,rfl⟩
theorem OV.one {e b n:Nat} {v:AV} (h:OV e b n v):v.one=true:=by rcases h with ⟨_,rfl⟩ | ⟨_,rfl⟩<;>rfl
theorem OV.own {e b n:Nat} {v:AV} (h:OV e b n v) (hn:0<n):v=.own e b 0 n:=h.elim (fun h=>by omega) And.right
theorem own0 {rd:Addr→Option Value} {sz:Nat→Nat} {e b off:Nat} {c:Value} (f:Nat→AV) (h:Rep rd sz (.own e b off 0) c):Rep rd sz (.arr e 0 f) c:=by
 cases h with
 | own e b off n c hc hs=>exact .arr e 0 f _ c (fun _ _=>undef) (D7e _) (fun h=>absurd h (by omega)) (fun i hi=>absurd hi (by omega)) (fun i hi=>absurd hi (by omega)) (fun _ _ i j hi=>absurd hi (by omega)) (fun i j y hi=>absurd hi (by omega))
theorem D3.frzO {st s:St} {L:List (Nat×K4)} {j b ty e n:Nat} {f:Nat→AV} (h:D3 st L s) (k:At L j (b,⟨ty,e,n,f⟩)):∃ s',D3 st (L.eraseIdx j) s'∧A6 [.own e b 0 n] s [.arr e n f] s':=by
 rcases D8b n with h0 | h0
 ·subst h0
  exact ⟨s,h.drop j,Le.shift (fun rd sz c hr=>own0 f hr) s⟩
 ·obtain ⟨h1,g,hg,hh⟩:=(h.get k).resolve_left (by show ¬ n=0;omega)
  refine ⟨del s b,(h.drop j).frame (h.sup.del h1) fun i p hp=>(h.apart h0 k i p hp).imp id fun hne=>?_,O4 hg rfl (D6M _) hh⟩
  unfold del;rw [if_neg hne]
theorem D3.frz {st s:St} {L:List (Nat×K4)} {j b ty e n:Nat} {f:Nat→AV} {v:AV} (h:D3 st L s) (k:At L j (b,⟨ty,e,n,f⟩)) (hv:OV e b n v):∃ s',D3 st (L.eraseIdx j) s'∧A6 [v] s [.arr e n f] s':=by
 rcases hv with ⟨rfl,rfl⟩ | ⟨hn,rfl⟩
 ·exact ⟨s,h.drop j,I9 e f⟩
 ·exact h.frzO k
def LV (e b n:Nat) (v:AV):Prop:=(n=0∧(v=.emp∨v=.own e b 0 0))∨(0<n∧v=.own e b 0 n)
theorem LV.own {e b n:Nat} {v:AV} (h:LV e b n v) (hn:0<n):v=.own e b 0 n:=h.elim (fun h=>by omega) And.right
theorem LV.one {e b n:Nat} {v:AV} (h:LV e b n v):v.one=true:=by rcases h with ⟨_,rfl | rfl⟩ | ⟨_,rfl⟩<;>rfl
theorem LV.of (e b n:Nat):LV e b n (.own e b 0 n):=by
 rcases D8b n with rfl | h
 ·exact .inl ⟨rfl,.inr rfl⟩
 ·exact .inr ⟨h,rfl⟩
theorem OV.lv {e b n:Nat} {v:AV} (h:OV e b n v):LV e b n v:=h.imp (fun h=>⟨h.1,.inl h.2⟩) id
theorem D3.frzL {st s:St} {L:List (Nat×K4)} {j b ty e n:Nat} {f:Nat→AV} {v:AV} (h:D3 st L s) (k:At L j (b,⟨ty,e,n,f⟩)) (hv:LV e b n v):∃ s',D3 st (L.eraseIdx j) s'∧A6 [v] s [.arr e n f] s':=by
 rcases hv with ⟨rfl,rfl | rfl⟩ | ⟨hn,rfl⟩
 ·exact ⟨s,h.drop j,I9 e f⟩
 ·exact h.frzO k
 ·exact h.frzO k
theorem D3.fin {st s:St} {L:List (Nat×K4)} (h:D3 st L s) (vs:List AV):A6 vs s vs st:=h.sup.shift vs
def setL:List (Nat×K4)→Nat→Nat×K4→(List (Nat×K4)→Prop)→Prop
 | [],_,_,k=>k []
 | _::l,0,x,k=>k (x::l)
 | a::l,n+1,x,k=>setL l n x fun l'=>k (a::l')
theorem B0P:∀ (l:List (Nat×K4)) (n:Nat) (x:Nat×K4) (k:List (Nat×K4)→Prop),setL l n x k=k (l.set n x)
 | [],_,_,_=>rfl
 | _::_,0,_,_=>rfl
 | _::l,n+1,x,_=>B0P l n x _
def C4z (v:AV) (o:Nat) (us:List AV) (k:AV→Prop):Prop :=
 match v with
 | .agg cs=>(match Nat.ble (o+us.length) cs.length with | true=>A7g cs o us fun r=>k (.agg r) | false=>False)
 | _=>(match us with | []=>False | u::_=>k u)
theorem C0l {v:AV} {o:Nat} {us:List AV} {k:AV→Prop} (h:C4z v o us k):k (Q2 v o us):=by
 unfold C4z at h
 split at h
 ·split at h
  ·rename_i hb
   rw [A7W _ _ _ _ (by simpa using hb)] at h;exact h
  ·exact h.elim
 ·rename_i hv
  split at h
  ·exact h.elim
  ·unfold Q2
   split
   ·rename_i ds;exact absurd rfl (hv ds)
   ·exact h
theorem D3.has1 {st s:St} {L:List (Nat×K4)} {j b ty e:Nat} {f:Nat→AV} (h:D3 st L s) (hj:At L j (b,⟨ty,e,1,f⟩)):Has s b ⟨ty,e,1,f⟩:=((h.get hj).resolve_left (by show ¬ 1=0;omega)).2
theorem U6 {T:G9} {t:TypeId} {e b i o ty n j:Nat} {st s:St} {L:List (Nat×K4)} {k:KK} {r:C2} {f:Nat→AV} {v:AV} (h:D3 st L s) (hj:At L j (b,⟨ty,e,n,f⟩)) (hr:T t=some r) (hi:i<n) (hv:f i=v)
  (hk:A9d r (cellsOf v) o (fun y=>k y s)):C2J T t e b i o s k:=by
 obtain ⟨_,g,hg,hh⟩:=(h.get hj).resolve_left (by show ¬ n=0;omega)
 exact ldV hg hr hi ((hh i hi).trans hv) hk
theorem D0g {T:G9} {t:TypeId} {e b i o ty n j:Nat} {st s:St} {L:List (Nat×K4)} {k:KK} {r:C2} {f:Nat→AV} {u v:AV} (h:D3 st L s) (hj:At L j (b,⟨ty,e,n,f⟩)) (hr:T t=some r) (hi:i<n) (hv:f i=v)
  (hc:(Nat.blt 0 r.size&&Nat.beq (cellsOf u).length r.size&&(cellsOf u).all AV.one&&Nat.ble (o+r.size) e)=true)
  (hk:C4z v o (cellsOf u) fun w=>setL L j (b,⟨ty,e,n,I4 f i w⟩) fun L'=>∀ s',D3 st L' s'→k (.tuple []) s'):B7E T t e b i o u s k:=by
 obtain ⟨_,g,hg,hh⟩:=(h.get hj).resolve_left (by show ¬ n=0;omega)
 have hk:=C0l hk
 rw [B0P] at hk
 refine stV hg hr hi ((hh i hi).trans hv) hc (hk _ (h.put (y':=⟨ty,e,n,I4 f i _⟩) hj (by show 0<n;omega) fun m hm=>?_))
 by_cases hm':m=i
 ·subst hm';rw [A4];exact (A4 ..).symm
 ·rw [H4 hm',hh m hm];exact (H4 hm').symm
theorem L5 {T:G9} {t:TypeId} {e b o ty j:Nat} {st s:St} {L:List (Nat×K4)} {k:KK} {r:C2} {f:Nat→AV} {u v:AV} (h:D3 st L s) (hj:At L j (b,⟨ty,e,1,f⟩)) (hr:T t=some r) (hv:f 0=v)
  (hc:(Nat.blt 0 r.size&&Nat.beq (cellsOf u).length r.size&&(cellsOf u).all AV.one&&Nat.ble (o+r.size) e)=true)
  (hk:C4z v o (cellsOf u) fun w=>setL L j (b,⟨ty,e,1,fun _=>w⟩) fun L'=>∀ s',D3 st L' s'→k (.tuple []) s'):B7E T t e b 0 o u s k:=by
 obtain ⟨_,g,hg,hh⟩:=(h.get hj).resolve_left (by show ¬ 1=0;omega)
 have hk:=C0l hk
 rw [B0P] at hk
 refine stV hg hr (by show 0<1;omega) ((hh 0 (by show 0<1;omega)).trans hv) hc (hk _ (h.put (y':=⟨ty,e,1,fun _=>_⟩) hj (by show 0<1;omega) fun m hm=>?_))
 obtain rfl:m=0:=by have:m<1:=hm;omega
 exact A4 ..
theorem A2a {u:AV} (hu:u.one=true):cellsOf u=[u]:=by cases u<;>first | rfl | cases hu
theorem B0M {u:AV} (hu:u.one=true):[u].all AV.one=true:=by simp [hu]
theorem C6M {u:AV} (hu:u.one=true) {r:C2} {o e:Nat} (h1:r.size=1) (ho:o+1≤e):(Nat.blt 0 r.size&&Nat.beq (cellsOf u).length r.size&&(cellsOf u).all AV.one&&Nat.ble (o+r.size) e)=true:=by
 rw [A2a hu,h1]
 simp [hu,ho,Nat.blt]
theorem B7R {u:AV} {r:C2} {o e:Nat} (h1:(Nat.blt 0 r.size&&Nat.beq (cellsOf u).length r.size&&Nat.ble (o+r.size) e)=true) (h2:(cellsOf u).all AV.one=true):(Nat.blt 0 r.size&&Nat.beq (cellsOf u).length r.size&&(cellsOf u).all AV.one&&Nat.ble (o+r.size) e)=true:=by
 rw [h2,D7u];exact h1
theorem C6R {T:G9} {t:TypeId} {e b o ty j:Nat} {st s:St} {L:List (Nat×K4)} {k:KK} {r:C2} {f:Nat→AV} {u v:AV} (h:D3 st L s) (hj:At L j (b,⟨ty,e,1,f⟩)) (hr:T t=some r) (hv:f 0=v) (h1:r.size=1) (hu:u.one=true) (ho:o+1≤e)
  (hk:C4z v o [u] fun w=>setL L j (b,⟨ty,e,1,fun _=>w⟩) fun L'=>∀ s',D3 st L' s'→k (.tuple []) s'):B7E T t e b 0 o u s k :=
 L5 h hj hr hv (C6M hu h1 ho) (by rw [A2a hu];exact hk)
theorem B6B {T:G9} {t:TypeId} {st s:St} {L:List (Nat×K4)} {k:KK} {r q:C2} {el e j b n m:Nat} {f g f':Nat→AV} {sv x:AV} (h:D3 st L s) (hv:OV e b n sv) (hj:At L j (b,⟨el,e,n,f⟩)) (hr:T t=some r) (hd:r.desc=.slice el) (hq:T el=some q) (he:q.size=e)
  (hz:(Nat.blt 0 q.size&&Nat.blt 0 q.bytes&&Nat.beq q.zero.cells.size q.size)=true) (hs:A0g e s x=some (m,g)) (hb:(n+m) * q.bytes≤140737488355328) (hf:∀ k,k<n+m→(if k<n then f k else g (k - n))=f' k)
  (hk:∀ sv' b',OV e b' (n+m) sv'→setL L j (b',⟨el,e,n+m,f'⟩) fun L'=>∀ s',D3 st L' s'→k sv' s'):A5L T t sv x s k:=by
 subst he
 have hk:∀ sv' b' s',OV q.size b' (n+m) sv'→D3 st (L.set j (b',⟨el,q.size,n+m,f'⟩)) s'→k sv' s':=fun sv' b' s' h1 h2=>by have:=hk sv' b' h1;rw [B0P] at this;exact this s' h2
 have h0:m=0→k sv s:=fun hm=>by
  subst hm
  exact hk sv b s hv (h.as f' hj fun i hi=>by have:=hf i hi;rwa [if_pos (show i<n from hi)] at this)
 rcases hv with ⟨rfl,rfl⟩ | ⟨hn,rfl⟩
 ·refine apE hr hd hq hz hs (by simpa using hb) h0 fun hm b' hb'=>?_
  refine hk _ b' _ (.inr ⟨by omega,by rw [D6Q]⟩) (D3.chg (h.sup.upd hb') (h.sup.none hb') ⟨g,by rw [A0,D6Q],fun i hi=>?_⟩ (fun c z _ hc=>?_) h hj)
  ·have:=hf i hi;rw [if_neg (by omega)] at this;simpa using this
  ·have hne:c≠b':=fun e=>by subst e;rw [hb'] at hc;cases hc
   exact ⟨(A9 hne).trans hc,hne⟩
 ·obtain ⟨hst,y,hy,hh⟩:=(h.get hj).resolve_left (by show ¬ n=0;omega)
  refine apO hr hd hq hz hs hy rfl rfl rfl hb h0 fun hm b' hb'=>?_
  have hst':st b'=none:=hb'.elim (fun e=>e▸hst) h.sup.none
  refine hk _ b' _ (.inr ⟨by omega,rfl⟩) (D3.chg ((h.sup.del hst).over hst') hst' ⟨_,A0 ..,fun i hi=>?_⟩ (fun c z hc hcz=>?_) h hj)
  ·show (if i<n then y i else _)=f' i
   rw [←hf i hi]
   split
   ·rename_i hin;exact hh i hin
   ·rfl
  ·have hcb:c≠b:=hc.resolve_left (by show ¬ n=0;omega)
   have hne:c≠b':=fun e=>by
    subst e
    rcases hb' with e | e
    ·exact hcb e
    ·rw [e] at hcz;cases hcz
   exact ⟨(A9 hne).trans (by unfold del;rw [if_neg hcb];exact hcz),hne⟩
theorem D4c {T:G9} {t:TypeId} {kk kk':IntKind} {n:Nat} {st s:St} {L:List (Nat×K4)} {k:KK} {r q:C2} {el e:Nat} (h:D3 st L s) (hr:T t=some r) (hd:r.desc=.slice el) (hq:T el=some q) (he:q.size=e)
  (hb:q.bytes * n≤281474976710656) (hn:n≤281474976710656) (hz:(Nat.beq q.zero.cells.size q.size&&(cellsOf (H7 q.zero)).all AV.one)=true)
  (hk:∀ b s',D3 st ((b,⟨el,e,n,fun _=>H7 q.zero⟩)::L) s'→k (.own e b 0 n) s'):xMk T t (.int kk (n:Int)) (.int kk' (n:Int)) s k:=by
 subst he
 exact mkO hr hd hq hb hn hz fun b hb'=>hk b _ (h.new hb' _)
theorem D3.up {st s s':St} {L:List (Nat×K4)} (h:D3 st L s) (hS:F1 s s'):D3 st L s':=h.frame (h.sup.trans hS) fun j p hp=>(h.get hp).imp id fun ⟨_,g,hg,_⟩=>(hS _ _ hg).trans hg.symm
theorem D3.got {st s s':St} {L:List (Nat×K4)} {b:Nat} {y:K4} (h:D3 st L s) (hb:s b=none) (hS:F1 s s') (hH:Has s' b y):D3 st ((b,y)::L) s':=⟨.inr ⟨h.sup.none hb,hH,h.other hb⟩,h.up hS⟩
theorem At.of_append {α : Type}:∀ {L M:List α} {j:Nat} {p : α},At (L++M) j p→(∃ i,At L i p)∨∃ i,At M i p
 | [],_,_,_,h=>.inr ⟨_,h⟩
 | _::_,_,_,_,.z=>.inl ⟨_,.z⟩
 | _::_,_,_,_,.s h=>(At.of_append h).imp (fun ⟨_,h⟩=>⟨_,.s h⟩) id
theorem D3.trans {st s s':St} {L:List (Nat×K4)} (h:D3 st L s):∀ {M:List (Nat×K4)},D3 s M s'→D3 st (M++L) s'
 | [],k=>h.up k
 | x::M,k=>by
  refine ⟨k.1.imp id fun ⟨h1,h2,h3⟩=>⟨h.sup.none h1,h2,fun j p hp=>?_⟩,h.trans k.2⟩
  rcases At.of_append hp with ⟨i,hi⟩ | ⟨i,hi⟩
  ·exact h3 i p hi
  ·exact h.other h1 i p hi
theorem A2j (st:St):D3 st [] st:=F1.refl st
theorem D3.has {st s:St} {L:List (Nat×K4)} {j b:Nat} {y:K4} (h:D3 st L s) (hj:At L j (b,y)) (hn:0<y.n):Has s b y:=((h.get hj).resolve_left (by show ¬ y.n=0;omega)).2
theorem quT {v:AV} {s:St} {Q:AV→St→Prop} {K:AV→(St→Prop)→Prop} (hQ:∀ s',Q v s') (hk:K v fun _=>True):∃ (v:AV) (C:St→Prop),C s∧(∀ s',C s'→Q v s')∧K v C:=⟨v,_,trivial,fun s' _=>hQ s',hk⟩
theorem quL {v:AV} {s:St} {Q:AV→St→Prop} {K:AV→(St→Prop)→Prop} {b:Nat} {y:K4} (hC:Has s b y) (hQ:∀ s',Has s' b y→Q v s') (hk:K v fun u=>Has u b y):∃ (v:AV) (C:St→Prop),C s∧(∀ s',C s'→Q v s')∧K v C:=⟨v,_,hC,hQ,hk⟩
theorem Y4 {T:G9} {t:TypeId} {e b i o ty n:Nat} {s:St} {k:KK} {r:C2} {f:Nat→AV} {x:AV} (h:Has s b ⟨ty,e,n,f⟩) (hr:T t=some r) (hi:i<n) (hv:f i=x) (hk:A9d r (cellsOf x) o (fun y=>k y s)):C2J T t e b i o s k:=by
 obtain ⟨g,hg,hh⟩:=h
 exact ldV hg hr hi ((hh i hi).trans hv) hk
end Go.Ab
namespace Go.Proofs.YtaapofnkmpiknaaGreat
open Go Go.Ab
attribute [local irreducible] upd del
def B9P (v:B7J):AV:=.agg [B0 v.goods,B0 v.taxes,eI v.ship,eI v.shipTax]
def A0e (nets taxes:List Int) (j k:Nat):Int:=if k<j then gI nets k - gI taxes k else gI nets k
set_option maxHeartbeats 8000000 in
theorem C7e {t:Tax} {z:K3} {s:C8} {cats:List C8} {nets:List Int} {ship:Int} (h:A2C t z cats nets ship) (hsm:B3q t) (hz:Z8 t.zones s=some z) (exempt:Bool) (st:St) :
  S P 117 [S7 t,eS s,eB exempt,C7 cats,B0 nets,eI ship] st fun v st' =>
   v=.tuple [B9P (L4 t z exempt cats nets ship),eI 0]∧st'=st:=by
 obtain ⟨hr1,hr2⟩:=A3C h
 obtain ⟨t1,t2⟩:=A6D (t:=t) h.nets hr1 hr2
 obtain ⟨l1,l2⟩:=B4h h.tax
 have hzm:z∈t.zones:=D9e hz
 have hzr:=l2 z hzm
 have hn:=h.nets.len
 have hns:=h.nets.sum
 have hnp:=h.nets.pos
 have hcl:=h.cats
 have hq:=(A4M h.zone).2.1
 have hm:=A2Z (t:=t) h.ship.1 hq
 have hs:=h.ship
 have hT:∀ s,S P 135 [S7 t] s fun v st'=>v=.bool true∧st'=s:=fun s=>by
  have:=C4I t hsm s
  rw [h.tax] at this;exact this
 have hZ:∀ st,S P 166 [S7 t,eS s] st fun v st'=>v=.tuple [S3 z,.bool true]∧st'=st:=fun st=>by
  have:=C1Q t s (by omega) st
  rw [hz] at this;exact this
 have hR':=fun c st=>C1P z c (by omega) st
 have hU:=fun st=>B5i t ship z.ship hq st
 have hL:L4 t z exempt cats nets ship=⟨(List.range nets.length).map (Z2 t (K7 t (cats.map (F3 z)) nets) nets),if exempt=true then List.replicate nets.length 0 else K7 t (cats.map (F3 z)) nets,if t.incl=true then ship - N6 t ship z.ship else ship,if exempt=true then 0 else N6 t ship z.ship⟩:=rfl
 rw [hL]
 have hnx:∀ i,i<nets.length→0≤gI nets i∧gI nets i≤10000000000000:=fun i hi=>by
  have h1:=h.nets.pos _ (show gI nets i∈nets from A7 hi)
  have h2:=J4 h.nets.pos (show gI nets i∈nets from A7 hi)
  exact ⟨h1,by omega⟩
 have htx:∀ i,i<nets.length→0≤gI (K7 t (cats.map (F3 z)) nets) i∧gI (K7 t (cats.map (F3 z)) nets) i≤10000000000000:=fun i hi=>t2 _ (A7 (by omega))
 obtain ⟨MS,hMS⟩:∃ MS,MS=N6 t ship z.ship:=⟨_,rfl⟩
 obtain ⟨TX,hTX⟩:∃ TX,TX=K7 t (cats.map (F3 z)) nets:=⟨_,rfl⟩
 rw [←hMS] at hm hU ⊢
 rw [←hTX] at t1 htx ⊢
 obtain ⟨SH,hSH⟩:∃ SH,SH=if t.incl=true then ship - MS else ship:=⟨_,rfl⟩
 rw [←hSH]
 clear t2 hL
 refine S.post (post:=fun v s=>∃ gv tv bg bt,v=.tuple [.agg [gv,tv,eI SH,eI (if exempt=true then 0 else MS)],eI 0]∧LV 1 bg nets.length gv∧LV 1 bt nets.length tv ∧
   D3 st [(bt,⟨2,1,nets.length,fun k=>eI (gI (if exempt=true then List.replicate nets.length 0 else TX) k)⟩),(bg,⟨2,1,nets.length,fun k=>eI (gI ((List.range nets.length).map (Z2 t TX nets)) k)⟩)] s) ?_
  (fun v s ⟨gv,tv,bg,bt,h1,h2,h3,h4⟩=>by
   obtain ⟨s1,h5,h6⟩:=h4.frzL (.s .z) h2
   obtain ⟨s2,h7,h8⟩:=h5.frzL .z h3
   rw [show AV.arr 1 nets.length _=B0 ((List.range nets.length).map (Z2 t TX nets)) by unfold B0 A8;rw [D6J,D7g]] at h6
   rw [show AV.arr 1 nets.length _=B0 (if exempt=true then List.replicate nets.length 0 else TX) by unfold B0 A8;rw [show (if exempt=true then List.replicate nets.length 0 else TX).length=nets.length by cases exempt<;>simp [t1]]] at h8
   refine ⟨_,st,⟨rfl,rfl⟩,?_⟩
   rw [h1]
   exact (A6.tuple (A6.cons (A6.agg (A6.cons h6 (A6.cons h8 (A6.keep _ _)))) (A6.keep _ _)) rfl).trans (h7.fin _))
 refine A1S [6] A7o mixed Tryz.func117 (by rfl) rfl rfl rfl ?_;conv=>whnf
 intro b12 hb12
 generalize hs:(upd st b12 _:St)=w
 have h9:=D3.new' hs (A2j st) hb12
 clear hs hb12
 have d1:((nets.length:Int) != (nets.length:Int))=false:=bne_self_eq_false _
 have d2:decide ((nets.length:Int)>1000)=false:=D6L (by omega)
 have d3:decide (ship<0)=false:=D6L (by omega)
 have d4:decide (ship>10000000000000)=false:=D6L (by omega)
 repeat' ((conv=>whnf);first | refine B3 (hT _) ?_ | rw [hcl,d1] | rw [d2] | rw [d3] | rw [d4] | fail)
 conv=>whnf
 refine lp nets.length [1,2,3,4,5,6,12,14,15] (fun i vs u=>vs=[eS s,eB exempt,C7 cats,B0 nets,eI ship,.fptr (S7 t) 0,.optr 4 b12 0 0,eI (A2 (nets.take i)),eI i]∧u=w) ?_ ?_
 ·conv=>whnf
  exact ⟨rfl,rfl⟩
 rintro i vs u hi ⟨rfl,rfl⟩
 conv=>whnf
 cases h1:decide ((i:Int)<(nets.length:Int))
 case true =>
  have hi':=E2 h1
  have hx:0≤gI nets (i:Int).toNat:=hnp _ (A7 hi')
  have hs1:=N0 hnp (i+1)
  have hs2:0≤A2 (nets.take i):=C1 fun x hx=>hnp x (D9C hx)
  have hst:A2 (nets.take (i+1))=A2 (nets.take i)+gI nets (i:Int).toNat:=K9 hi'
  have d5:decide (gI nets (i:Int).toNat<0)=false:=D6L (by omega)
  have hw1:IntKind.i64.wrap (10000000000000 - A2 (nets.take i))=10000000000000 - A2 (nets.take i):=A5 (by omega) (by omega)
  have d6:decide (gI nets (i:Int).toNat>10000000000000 - A2 (nets.take i))=false:=D6L (by omega)
  have hw2:IntKind.i64.wrap (A2 (nets.take i)+gI nets (i:Int).toNat)=A2 (nets.take (i+1)):=(A5 (by omega) (by omega)).trans hst.symm
  change decide (nets.getD (i:Int).toNat default<0)=false at d5
  change decide (nets.getD (i:Int).toNat default>10000000000000 - A2 (nets.take i))=false at d6
  repeat' ((conv=>whnf);first | refine ⟨rfl,⟨by omega,by omega⟩,?_⟩ | rw [d5] | rw [hw1,d6] | rw [hw2] | fail)
  refine G2 ?_
  exact nx hi' ⟨by rw [B4 (by omega)],rfl⟩
 obtain rfl:=C5 h1 hi
 conv=>whnf
 refine I2 (hZ _) ?_
 intro b16 hb16;conv=>whnf
 generalize hs:(upd u b16 _:St)=w
 have h9:=D3.new' hs h9 hb16
 clear hs hb16
 refine L5 h9 .z rfl rfl (by rfl) ?_;conv=>whnf
 intro w h9
 have h9:=h9.soft 0 2 1 (fun k=>eI (A0e nets TX 0 k))
 conv=>whnf
 refine .inr ⟨[2,10,11],.qui 0 (.qui 1 (.qui 3 (.qui 4 (.qui 5 (.qui 6 (.qui 7 (.two 2 10 [4,7] [0,4,7] (.qui 8 (.qui 9 (.eff 10 [0,4,7,8] (.eff 11 [] (.done))))) (.eff 2 [4,7] (.qui 8 (.qui 9 (.eff 11 [] (.done)))))))))))),by kernel_rfl,?_⟩
 have hb:=h9.has1 (.s .z)
 repeat' ((conv=>whnf);first | refine quT (fun _=>⟨rfl,rfl⟩) ?_ | refine quL hb (fun _ hs=>Y4 hs rfl Nat.one_pos rfl ⟨rfl,rfl⟩) ?_ | fail)
 refine ⟨?A,?B⟩
 case' A =>
  conv=>whnf
  refine B6B (q:=r2) (m:=nets.length) (g:=fun k=>eI (gI nets k)) h9 (OV.nil 1 0) .z rfl rfl rfl rfl (by rfl) (A3F ..) (f':=fun k=>eI (A0e nets TX 0 k)) (by show (0+nets.length) * 8≤140737488355328;omega) (fun i _=>by unfold A0e;rw [if_neg (by omega),if_neg (by omega)];rfl) (fun gv bg hg=>?_);conv=>whnf
  intro w h9
  rw [D6Q nets.length] at hg h9
  have hb:=h9.has1 (.s .z)
  have e1:=A2a hg.one
  have e2:=B0M hg.one
  repeat' ((conv=>whnf);first | refine ⟨fun _=>trivial,?_⟩ | refine ⟨fun _=>hb,?_⟩ | refine quT (fun s=>H8 (hU s)) ?_ | rw [e1] | rw [e2] | fail)
  conv=>whnf
  intro b18 hb18
  generalize hs:(upd w b18 _:St)=w2
  have h9:=D3.new' hs h9 hb18
  clear hs hb18
  have hb:=h9.has1 (.s (.s .z))
  repeat' ((conv=>whnf);first | refine ⟨fun _=>trivial,?_⟩ | refine ⟨fun _=>hb,?_⟩ | fail)
 case' B =>
  conv=>whnf
  intro b18 hb18
  generalize hs:(upd w b18 _:St)=w2
  have h9:=D3.new' hs h9 hb18
  clear hs hb18
  have hb:=h9.has1 (.s (.s .z))
  repeat' ((conv=>whnf);first | refine ⟨fun _=>trivial,?_⟩ | refine ⟨fun _=>hb,?_⟩ | fail)
  conv=>whnf
  refine B6B (q:=r2) (m:=nets.length) (g:=fun k=>eI (gI nets k)) h9 (OV.nil 1 0) (.s .z) rfl rfl rfl rfl (by rfl) (A3F ..) (f':=fun k=>eI (A0e nets TX 0 k)) (by show (0+nets.length) * 8≤140737488355328;omega) (fun i _=>by unfold A0e;rw [if_neg (by omega),if_neg (by omega)];rfl) (fun gv bg hg=>?_);conv=>whnf
  intro w2 h9
  rw [D6Q nets.length] at hg h9
  have hb:=h9.has1 (.s (.s .z))
  have e1:=A2a hg.one
  have e2:=B0M hg.one
  repeat' ((conv=>whnf);first | refine ⟨fun _=>trivial,?_⟩ | refine ⟨fun _=>hb,?_⟩ | refine quT (fun s=>H8 (hU s)) ?_ | rw [e1] | rw [e2] | fail)
 all_goals
  conv=>whnf
  refine L5 h9 .z rfl rfl (by show (_&&_&&(gv.one&&_)&&_)=true;rw [hg.one];rfl) ?_;conv=>whnf
  intro w3 h9;conv=>whnf
  clear hb e1 e2
  refine lp nets.length [2,3,4,5,6,12,16,18,19,20] (fun i vs u=>∃ sv bs tv bt,vs=[eB exempt,C7 cats,B0 nets,eI ship,.fptr (S7 t) 0,.optr 4 b12 0 0,.optr 4 b16 0 0,.optr 4 b18 0 0,sv,eI i]∧OV 1 bs i sv∧OV 1 bt i tv ∧
   D3 st [(bs,⟨2,1,i,fun k=>eI (gI (cats.map (F3 z)) k)⟩),(bt,⟨2,1,i,fun k=>eI (gI (X5 t (cats.map (F3 z)) nets) k)⟩),(b18,⟨175,4,1,fun _=>.agg [gv,tv,eI ship,eI MS]⟩),(bg,⟨2,1,nets.length,fun k=>eI (A0e nets TX 0 k)⟩),(b16,⟨103,4,1,fun _=>S3 z⟩),(b12,⟨175,4,1,fun _=>H7 C6Y.zero⟩)] u) ?_ ?_
  ·conv=>whnf
   exact ⟨_,0,_,0,rfl,OV.nil ..,OV.nil ..,(h9.soft ..).soft ..⟩
  clear h9
  rintro i vs u hi ⟨sv,bs,tv,bt,rfl,hsv,htv,h9⟩
  have hb16:=h9.has1 (.s (.s (.s (.s .z))))
  conv=>whnf
  cases h1:decide ((i:Int)<(nets.length:Int))
  case true =>
   have hi':=E2 h1
   have hRi:=fun st=>hR' (cats.getD (i:Int).toNat default) st
   have hgR:gI (cats.map (F3 z)) i=F3 z (cats.getD (i:Int).toNat default):=D4 (F3 z) cats (by omega)
   have hgL:gI (X5 t (cats.map (F3 z)) nets) i=N6 t (gI nets i) (gI (cats.map (F3 z)) i):=by
    unfold X5;unfold gI
    rw [D6D,D7C,D8i hi'];rfl
   have hrt:0≤F3 z (cats.getD (i:Int).toNat default)∧F3 z (cats.getD (i:Int).toNat default)≤10000:=B6W h.zone _
   have hU2:=fun st=>B5i t (gI nets (i:Int).toNat) (F3 z (cats.getD (i:Int).toNat default)) hrt st
   rw [hgR] at hgL
   generalize F3 z (cats.getD (i:Int).toNat default)=RT at hRi hgR hgL hU2
   conv=>whnf
   refine .inl ⟨[7,8],[],List.range 10,by kernel_rfl,?_⟩
   repeat' ((conv=>whnf);first | refine Y4 hb16 rfl Nat.one_pos rfl ?_ | refine ⟨rfl,⟨by omega,by omega⟩,?_⟩ | refine ⟨_,H8 (hRi _),?_⟩ | fail)
   conv=>whnf
   refine B6B (q:=r2) (m:=1) (g:=fun j=>[eI RT].getD j AV.junk) h9 hsv .z rfl rfl rfl rfl (by rfl) rfl (f':=fun k=>eI (gI (cats.map (F3 z)) k)) (by show (i+1) * 8≤140737488355328;omega) (fun k hk=>?_) (fun sv bs hsv=>?_)
   ·split
    ·rfl
    ·rw [show k=i by omega,Nat.sub_self,hgR];rfl
   conv=>whnf
   intro w h9;conv=>whnf
   obtain rfl:=hsv.own (Nat.succ_pos i)
   have hb18:=h9.has1 (.s (.s .z))
   have hbs:=h9.has .z (Nat.succ_pos i)
   refine .inr ⟨[12,13,15],.qui 0 (.qui 1 (.qui 2 (.qui 3 (.qui 4 (.qui 5 (.qui 6 (.qui 7 (.qui 8 (.qui 9 (.qui 10 (.qui 11 (.eff 12 [1] (.eff 13 [] (.qui 14 (.eff 15 [] (.done)))))))))))))))),by kernel_rfl,?_⟩
   repeat' ((conv=>whnf);first | refine quT (fun _=>⟨rfl,rfl⟩) ?_ | refine quL hb18 (fun _ hs=>Y4 hs rfl Nat.one_pos rfl ⟨rfl,rfl⟩) ?_ | refine ⟨rfl,⟨by omega,by omega⟩,?_⟩ | refine quL hbs (fun _ hs=>Y4 hs rfl (show 0+(i:Int).toNat<i+1 by omega) (x:=eI RT) (by show eI (gI _ (0+(i:Int).toNat))=_;rw [show 0+(i:Int).toNat=i by omega,hgR]) ⟨rfl,rfl⟩) ?_ | refine quT (fun s=>H8 (hU2 s)) ?_ | refine ⟨fun h=>h,?_⟩ | fail)
   conv=>whnf
   refine B6B (q:=r2) (m:=1) (g:=fun j=>[eI (N6 t (gI nets i) RT)].getD j AV.junk) h9 htv (.s .z) rfl rfl rfl rfl (by rfl) rfl (f':=fun k=>eI (gI (X5 t (cats.map (F3 z)) nets) k)) (by show (i+1) * 8≤140737488355328;omega) (fun k hk=>?_) (fun tv bt htv=>?_)
   ·split
    ·rfl
    ·rw [show k=i by omega,Nat.sub_self,hgL];rfl
   conv=>whnf
   intro w h9;conv=>whnf
   refine C6R h9 (.s (.s .z)) rfl rfl rfl htv.one (by decide) ?_;conv=>whnf
   intro w h9;conv=>whnf
   refine G2 ?_
   exact nx hi' ⟨_,_,_,_,by rw [B4 (by omega)],hsv,htv,h9⟩
  obtain rfl:=C5 h1 hi
  clear hb16
  conv=>whnf
  cases hbo:t.byOrder
  case' false =>
   have e0:TX=X5 t (cats.map (F3 z)) nets:=by rw [hTX];exact if_neg (by rw [hbo];simp)
   rw [←e0] at h9
   replace htv:=htv.lv
   replace h9:=h9.drop 0
  case' true =>
   have e0:TX=H0 t (cats.map (F3 z)) nets:=by rw [hTX];exact if_pos hbo
   obtain ⟨w,h9,hsh⟩:=h9.frz .z hsv
   rw [show AV.arr 1 nets.length _=B0 (cats.map (F3 z)) by unfold B0 A8;rw [hr1]] at hsh;conv=>whnf
   refine E5 (args':=[S7 t,B0 (cats.map (F3 z)),B0 nets]) (A6.cons (A6.keep _ _) (A6.cons hsh (A6.keep _ _))) (call (B6X t _ nets h.nets hr1 hr2 _) (fun v w2 hv=>?_))
   obtain ⟨bt,rfl,hbt0,⟨y,⟨f,rfl,hf⟩,hbt1⟩,hsup⟩:=hv
   rw [←e0,t1] at hbt1 hf
   replace h9:=h9.got (y:=⟨2,1,nets.length,fun k=>eI (gI TX k)⟩) hbt0 hsup ⟨f,hbt1,hf⟩
   conv=>whnf
   refine L5 h9 (.s (.s .z)) rfl rfl (by rfl) ?_;conv=>whnf
   intro w h9
   replace h9:=h9.drop 1
   replace htv:=LV.of 1 bt nets.length
   generalize AV.own 1 bt 0 nets.length=tv at *
  all_goals
   dsimp only [List.eraseIdx] at h9
   conv=>whnf
   refine lp nets.length [2,4,5,6,12,18,21] (fun j vs u=>vs=[eB exempt,B0 nets,eI ship,.fptr (S7 t) 0,.optr 4 b12 0 0,.optr 4 b18 0 0,eI j]∧(t.incl=false→j=0) ∧
    D3 st [(bt,⟨2,1,nets.length,fun k=>eI (gI TX k)⟩),(b18,⟨175,4,1,fun _=>.agg [gv,tv,eI ship,eI MS]⟩),(bg,⟨2,1,nets.length,fun k=>eI (A0e nets TX j k)⟩),(b16,⟨103,4,1,fun _=>S3 z⟩),(b12,⟨175,4,1,fun _=>H7 C6Y.zero⟩)] u) ?_ ?_
   ·conv=>whnf
    exact ⟨rfl,fun _=>rfl,h9⟩
   clear h9
   rintro j vs u hj ⟨rfl,hj0,h9⟩
   conv=>whnf
   cases h5:decide ((j:Int)<(nets.length:Int))<;>cases hin:t.incl
   case' true.true =>
    have hj5:=E2 h5
    obtain rfl:=hg.own (by omega)
    obtain rfl:=htv.own (by omega)
    have hb18:=h9.has1 (.s .z)
    have hbt:=h9.has .z (show 0<nets.length by omega)
    have hbg:=h9.has (.s (.s .z)) (show 0<nets.length by omega)
    have hx1:=hnx j hj5
    have hx2:=htx j hj5
    have hw:IntKind.i64.wrap (gI nets (j:Int).toNat - gI TX (j:Int).toNat)=gI nets j - gI TX j:=A5 (by show _≤gI nets j - gI TX j;omega) (by show gI nets j - gI TX j≤_;omega)
    conv=>whnf
    rw [hin];conv=>whnf
    refine .inl ⟨[14],[],List.range 15,by kernel_rfl,?_⟩
    repeat' ((conv=>whnf);first | refine Y4 hb18 rfl Nat.one_pos rfl ?_ | refine ⟨rfl,⟨by omega,by omega⟩,?_⟩ | refine Y4 hbt rfl (show 0+(j:Int).toNat<nets.length by omega) (x:=eI (gI TX (j:Int).toNat)) (by show eI (gI TX (0+(j:Int).toNat))=_;rw [D6Q]) ?_ | rw [hw] | fail)
    conv=>whnf
    refine D0g h9 (.s (.s .z)) rfl (show 0+(j:Int).toNat<nets.length by omega) rfl (by rfl) ?_;conv=>whnf
    intro w h9;conv=>whnf
    refine G2 ?_
    refine nx hj5 ⟨by rw [B4 (by omega)],fun e=>(by cases e),h9.as (fun k=>eI (A0e nets TX (j+1) k)) (.s (.s .z)) fun k hk=>?_⟩
    show I4 (fun k=>eI (A0e nets TX j k)) (0+(j:Int).toNat) (eI (gI nets j - gI TX j)) k=eI (A0e nets TX (j+1) k)
    rw [show 0+(j:Int).toNat=j by omega]
    by_cases e:k=j
    ·subst e;rw [A4];unfold A0e;rw [if_pos (by omega)]
    ·rw [H4 e];unfold A0e
     by_cases hh:k<j
     ·rw [if_pos hh,if_pos (by omega)]
     ·rw [if_neg hh,if_neg (by omega)]
   all_goals
    have hx:∀ k,k<nets.length→eI (A0e nets TX j k)=eI (gI ((List.range nets.length).map (Z2 t TX nets)) k):=fun k hk=>by
     rw [show gI ((List.range nets.length).map (Z2 t TX nets)) k=Z2 t TX nets k by unfold gI;simp [D6D,hk]]
     unfold A0e Z2
     rcases (by first | exact .inl ⟨hin,C5 h5 hj⟩ | exact .inr ⟨hin,hj0 hin⟩:(t.incl=true∧j=nets.length)∨(t.incl=false∧j=0)) with ⟨e,rfl⟩ | ⟨e,rfl⟩
     ·rw [if_pos hk,if_pos e]
     ·rw [if_neg (by omega),if_neg (by rw [e];simp)]
    replace h9:=h9.as (fun k=>eI (gI ((List.range nets.length).map (Z2 t TX nets)) k)) (.s (.s .z)) hx
    dsimp only [List.set] at h9
   case' false.true =>
    have hwS:IntKind.i64.wrap (ship - MS)=SH:=by rw [hSH,if_pos hin];exact A5 (by omega) (by omega)
    repeat' ((conv=>whnf);first | rw [hin] | refine U6 h9 (.s .z) rfl Nat.one_pos rfl ?_ | fail)
    conv=>whnf
    rw [hwS]
    refine L5 h9 (.s .z) rfl rfl (by rfl) ?_;conv=>whnf
    intro w h9
   case' false.false=>obtain rfl:SH=ship:=by rw [hSH,if_neg (by rw [hin];simp)]
   case' true.false=>obtain rfl:SH=ship:=by rw [hSH,if_neg (by rw [hin];simp)]
   all_goals
    repeat' ((conv=>whnf);first | rw [hin] | fail)
    conv=>whnf
    cases exempt
    case' true =>
     conv=>whnf
     refine D4c (e:=1) h9 rfl rfl rfl rfl (by show 8 * nets.length≤_;omega) (by omega) (by rfl) (fun bz w h9=>?_)
     replace h9:=h9.as (fun k=>eI (gI (List.replicate nets.length 0) k)) .z fun k _=>by unfold gI;rw [B7F];rfl
     conv=>whnf
     refine L5 h9 (.s (.s .z)) rfl rfl (by rfl) ?_;conv=>whnf
     intro w h9;conv=>whnf
     refine L5 h9 (.s (.s .z)) rfl rfl (by rfl) ?_;conv=>whnf
     intro w h9
     replace h9:=h9.drop 1
     replace htv:=LV.of 1 bz nets.length
     generalize AV.own 1 bz 0 nets.length=tv at *
     dsimp only [List.eraseIdx] at h9
    all_goals
     conv=>whnf
     refine U6 h9 (.s .z) rfl Nat.one_pos rfl ?_;conv=>whnf
     refine L5 h9 (.s (.s (.s (.s .z)))) rfl rfl (by show (_&&_&&(gv.one&&(tv.one&&_))&&_)=true;rw [hg.one,htv.one];rfl) ?_;conv=>whnf
     intro w h9;conv=>whnf
     refine U6 h9 (.s (.s (.s (.s .z)))) rfl Nat.one_pos rfl ?_;conv=>whnf
     exact ⟨gv,tv,bg,_,rfl,hg.lv,htv,((h9.drop 4).drop 3).drop 1⟩
theorem B0O (l:List Int) (h:I6 l) (st:St):S P 118 [B0 l] st fun v st'=>v=eI (A2 l)∧st'=st:=by
 have hn:=h.len
 refine F4 [] Tryz.func118 ?_
 refine lp l.length [0,3,4] (fun i vs t=>vs=[B0 l,eI (A2 (l.take i)),eI i]∧t=st) ?_ ?_
 ·conv=>whnf
  exact ⟨rfl,rfl⟩
 ·rintro i vs t hi ⟨rfl,rfl⟩
  conv=>whnf
  cases h1:decide ((i:Int)<(l.length:Int))
  ·obtain rfl:=C5 h1 hi
   rw [D6O];conv=>whnf
   exact ⟨rfl,rfl⟩
  ·have hi':=E2 h1
   have hs:IntKind.i64.wrap (A2 (l.take i)+gI l (i:Int).toNat)=A2 (l.take (i+1)):=h.step hi'
   conv=>whnf
   refine E7 ?_
   rw [hs]
   refine G2 ?_
   exact nx hi' ⟨by rw [B4 (by omega)],rfl⟩
theorem C7i (q:U5) (h1:I6 q.goods) (h2:I6 q.taxes) (st:St):S P 82 [A1e q] st fun v st'=>v=A2O (T4 q)∧st'=st:=by
 have c1:=fun s=>B0O q.goods h1 s
 have c2:=fun s=>B0O q.taxes h2 s
 have hB:T4 q=⟨A2 q.goods,A2 q.taxes,q.ship,q.shipTax,0⟩:=rfl
 rw [hB]
 generalize A2 q.goods=G at c1 ⊢
 generalize A2 q.taxes=T' at c2 ⊢
 refine A0Q ?_
 refine F4 [1] Tryz.func82 ?_
 intro b2 hb;conv=>whnf
 refine ⟨[11],[],List.range 12,by kernel_rfl,?_⟩;conv=>whnf
 refine cqW (c1 _) ?_
 refine cqW (c2 _) ?_
 refine Z7 (A0 ..) rfl ?_
 refine J6 (A0 ..) (A4 ..) ?_
 exact ⟨rfl,((F1.refl st).upd hb).over hb⟩
theorem So.book (b:A1v):So (A2O b) (A2O b):=So.agg (.cons (So.int _ _) (.cons (So.int _ _) (.cons (So.int _ _) (.cons (So.int _ _) (.cons (So.int _ _) .nil)))))
set_option maxHeartbeats 8000000 in
theorem C4G {r:D6} {codes:List C8} {l:List E8} {Pr:A3V} {z:K3} {zone:C8} (exempt:Bool)
  (hP:∀ st,S P 115 [F7 r,C7 codes,A8 3 J1 l] st fun v s=>v=.tuple [A1a Pr,eI 0]∧s=st)
  (hI:∀ st,S P 116 [A8 4 E9 r.items,A8 3 J1 l] st fun v s=>v=A8 4 E9 (C3 r.items l)∧s=st)
  (hln:l.length≤1000) (hV:A2C r.tax z (N1 r l) Pr.nets Pr.ship) (hsm:B3q r.tax) (hz:Z8 r.tax.zones zone=some z) (st:St) :
  S P 56 [F7 r,eS zone,eB exempt,C7 codes,A8 3 J1 l] st fun v st'=>v=.tuple [A1e (A9M r z exempt l Pr),eI 0]∧st'=st:=by
 have hQ:=B0K hV exempt Pr.deals
 have hlv:=fun s=>C7e hV hsm hz exempt s
 have hq:A9M r z exempt l Pr=⟨(L4 r.tax z exempt (N1 r l) Pr.nets Pr.ship).goods,(L4 r.tax z exempt (N1 r l) Pr.nets Pr.ship).taxes,(L4 r.tax z exempt (N1 r l) Pr.nets Pr.ship).ship,(L4 r.tax z exempt (N1 r l) Pr.nets Pr.ship).shipTax,A2 (L4 r.tax z exempt (N1 r l) Pr.nets Pr.ship).goods+A2 (L4 r.tax z exempt (N1 r l) Pr.nets Pr.ship).taxes+(L4 r.tax z exempt (N1 r l) Pr.nets Pr.ship).ship+(L4 r.tax z exempt (N1 r l) Pr.nets Pr.ship).shipTax,Pr.deals⟩:=rfl
 rw [hq]
 obtain ⟨q1,q2,q3,q4,q5,q6,q7,_⟩:=hQ
 have q1:I6 (L4 r.tax z exempt (N1 r l) Pr.nets Pr.ship).goods:=q1
 have q2:I6 (L4 r.tax z exempt (N1 r l) Pr.nets Pr.ship).taxes:=q2
 have q6:0≤(L4 r.tax z exempt (N1 r l) Pr.nets Pr.ship).ship∧(L4 r.tax z exempt (N1 r l) Pr.nets Pr.ship).ship≤10000000000000:=q6
 have q7:0≤(L4 r.tax z exempt (N1 r l) Pr.nets Pr.ship).shipTax∧(L4 r.tax z exempt (N1 r l) Pr.nets Pr.ship).shipTax≤10000000000000:=q7
 clear hq q3 q4 q5 hV hz
 generalize L4 r.tax z exempt (N1 r l) Pr.nets Pr.ship=V at *
 have s1:=fun s=>B0O V.goods q1 s
 have s2:=fun s=>B0O V.taxes q2 s
 have g1:=q1.sum
 have g2:=q2.sum
 have w1:IntKind.i64.wrap (A2 V.goods+A2 V.taxes)=A2 V.goods+A2 V.taxes:=A5 (by omega) (by omega)
 have w2:IntKind.i64.wrap (A2 V.goods+A2 V.taxes+V.ship)=A2 V.goods+A2 V.taxes+V.ship:=A5 (by omega) (by omega)
 have w3:IntKind.i64.wrap (A2 V.goods+A2 V.taxes+V.ship+V.shipTax)=A2 V.goods+A2 V.taxes+V.ship+V.shipTax:=A5 (by omega) (by omega)
 have hil:(C3 r.items l).length=l.length:=D6J ..
 have hcb:N1 r l=(C3 r.items l).map Ab.Item.cat:=rfl
 rw [hcb] at hlv
 generalize C3 r.items l=IT at hI hil hlv
 clear hcb
 refine A0Q ?_
 refine F4 [5] Tryz.func56 ?_
 intro b10 hb10;conv=>whnf
 refine I2 (hP _) ?_
 intro b12 hb12
 have h02:b10≠b12:=fun e=>by subst e;rw [A0] at hb12;cases hb12
 conv=>whnf
 refine stU (A0 ..) rfl ?_
 rw [C0];conv=>whnf
 refine I2 (hI _) ?_
 generalize hst:(upd (upd st b10 _) b12 _:St)=S0
 obtain ⟨f12,at12,hf12⟩:∃ f12:Nat→AV,S0 b12=some ⟨170,4,1,f12⟩∧f12 0=A1a Pr:=by rw [←hst];exact ⟨_,A0 ..,by rw [A4];rfl⟩
 obtain ⟨f10,at10,hf10⟩:∃ f10:Nat→AV,S0 b10=some ⟨113,6,1,f10⟩∧f10 0=H7 C6W.zero:=by rw [←hst,A9 h02];exact ⟨_,A0 ..,rfl⟩
 have hs0:F1 st S0:=by rw [←hst];exact ((F1.refl st).upd hb10).upd hb12
 have n12:st b12=none:=by rw [A9 h02.symm] at hb12;exact hb12
 clear hst
 refine lp IT.length [1,2,5,10,12,14,15,16] (fun i vs u=>∃ sv,vs=[eS zone,eB exempt,.fptr (F7 r) 0,.optr 6 b10 0 0,.optr 4 b12 0 0,A8 4 E9 IT,sv,eI i]∧E6 9 1 eS ((IT.take i).map Ab.Item.cat) S0 sv u) ?_ ?_
 ·conv=>whnf
  exact ⟨.emp,rfl,E6.start _ _ _ _⟩
 rintro i vs u hi ⟨sv,rfl,hc⟩
 have hcs:=hc.sup
 conv=>whnf
 cases h1:decide ((i:Int)<(IT.length:Int))
 case true =>
  have hi':=E2 h1
  have hln2:((IT.take i).map Ab.Item.cat).length=i:=by rw [D6J,D6N];omega
  have htk:(IT.take (i+1)).map Ab.Item.cat=(IT.take i).map Ab.Item.cat++[(IT.getD (i:Int).toNat default).cat]:=by rw [L0 hi',D7k];rfl
  conv=>whnf
  refine E7 ?_
  refine E6.app (y:=(IT.getD (i:Int).toNat default).cat) (q:=r9) rfl rfl rfl rfl rfl (by rfl) (by rw [hln2];show (i+1) * 16≤140737488355328;omega) hc (fun sv' t' hc'=>?_);conv=>whnf
  refine G2 ?_
  exact nx hi' ⟨sv',by rw [B4 (by omega)],by rw [htk];exact hc'⟩
 obtain rfl:=C5 h1 hi
 rw [D6O] at hc;conv=>whnf
 refine J6 (hcs b12 _ at12) hf12 ?_
 refine J6 (hcs b12 _ at12) hf12 ?_
 have hTS:A6 [S7 r.tax,eS zone,eB exempt,sv,B0 Pr.nets,eI Pr.ship] u [S7 r.tax,eS zone,eB exempt,C7 (IT.map Ab.Item.cat),B0 Pr.nets,eI Pr.ship] S0 :=
  A6.cons (A6.keep [S7 r.tax] _) (A6.cons (A6.keep [eS zone] _) (A6.cons (A6.keep [eB exempt] _) (A6.cons hc.shift (A6.keep _ _))))
 refine E5 hTS (B3 (hlv _) ?_);conv=>whnf
 intro b17 hb17
 have h12n:b12≠b17:=fun e=>by subst e;rw [at12] at hb17;cases hb17
 have h10n:b10≠b17:=fun e=>by subst e;rw [at10] at hb17;cases hb17
 conv=>whnf
 refine stU (A0 ..) rfl ?_
 rw [C0];conv=>whnf
 generalize hst:(upd S0 b17 _:St)=S1
 obtain ⟨f17,at17,hf17⟩:∃ f17:Nat→AV,S1 b17=some ⟨175,4,1,f17⟩∧f17 0=B9P V:=by rw [←hst];exact ⟨_,A0 ..,by rw [A4];rfl⟩
 have at12':S1 b12=some ⟨170,4,1,f12⟩:=by rw [←hst,A9 h12n];exact at12
 have at10':S1 b10=some ⟨113,6,1,f10⟩:=by rw [←hst,A9 h10n];exact at10
 have hs1:F1 st S1:=by rw [←hst];exact hs0.upd hb17
 clear hst
 refine ⟨[24],[],List.range 26,by kernel_rfl,?_⟩
 repeat' ((conv=>whnf);first | refine ldV at17 rfl (by omega) hf17 ?_ | refine ldV at12' rfl (by omega) hf12 ?_ | refine ⟨_,H8 (s1 _),?_⟩ | refine ⟨_,H8 (s2 _),?_⟩)
 all_goals
  conv=>whnf
  rw [w1,w2,w3]
  refine Z7 at10' hf10 ?_
  refine J6 (A0 ..) (A4 ..) ?_
  exact ⟨rfl,hs1.over hb10⟩
end Go.Proofs.YtaapofnkmpiknaaGreat
namespace Go.Proofs.YtaapofnkmpiknaaGreat
open Go Go.Ab
theorem C8M (f:Nat→Int) {n i:Nat} (hi:i<n):gI ((List.range n).map f) i=f i:=by
 unfold gI;simp [D6D,hi]
theorem C1o {t:Tax} {z:K3} {cats:List C8} {nets:List Int} {ship:Int} (h:A2C t z cats nets ship) (hn:∀ i,i<nets.length→0≤gI nets i∧gI nets i≤1000000000000) (hs:ship≤1000000000000) (exempt:Bool) (deals:List A1O) :
  A7B (B5c (L4 t z exempt cats nets ship) deals) nets.length:=by
 have hq:=B0K h exempt deals
 obtain ⟨r1,r2⟩:=A3C h
 obtain ⟨t1,t2⟩:=A6D (t:=t) h.nets r1 r2
 have hm:=A2Z (t:=t) h.ship.1 (A4M h.zone).2.1
 have tl:=fun i (hi:i<nets.length)=>B7v (t:=t) h.nets r1 r2 hi
 have tp:∀ i,i<nets.length→0≤gI (K7 t (cats.map (F3 z)) nets) i:=fun i hi=>(t2 _ (A7 (by omega))).1
 refine ⟨fun i hi=>?_,fun i hi=>?_,hq.ngoods,hq.ntaxes,⟨hq.ship.1,?_⟩,⟨hq.shipTax.1,?_⟩,hq.total⟩
 ·show 0≤gI (A2G _ _ _) i∧gI (A2G _ _ _) i≤_
  unfold A2G
  rw [C8M _ hi]
  have h1:=hn i hi
  have h2:=tl i hi
  have h3:=tp i hi
  split<;>omega
 ·show 0≤gI (if exempt=true then List.replicate nets.length 0 else _) i∧gI (if exempt=true then List.replicate nets.length 0 else _) i≤_
  have h1:=hn i hi
  have h2:=tl i hi
  have h3:=tp i hi
  split
  ·have:gI (List.replicate nets.length 0) i=0:=by unfold gI;simp [D6D,hi]
   rw [this];omega
  ·omega
 ·show (if t.incl=true then ship - N6 t ship z.ship else ship)≤_
  split<;>omega
 ·show (if exempt=true then 0 else N6 t ship z.ship)≤_
  split<;>omega
theorem P1.sold {R:D6} {C:List C8} {L:List E8} (h:P1 R C L) {z:K3} {s:C8} (hz:Z8 R.tax.zones s=some z) (exempt:Bool):A7B (B2h R C L z exempt) L.length:=by
 have hN:=h.nets
 have hf:=h.fee
 have hsh:=hN.ship
 have:=C1o (h.levy hz) (fun i hi=>by
  have hi:i<L.length:=by rw [←hN.len];exact hi
  have h1:=hN.at' i hi
  have h2:=h.lines.line _ (A7 hi)
  have h9:(L.getD i default).qty * (L.getD i default).price≤9 * 4000:=D9d h2.1.2 (by omega) h2.2.1 (by omega)
  omega) (by omega) exempt (A3B R C L).deals
 rw [hN.len] at this;exact this
theorem P1.rquote_S {R:D6} {C:List C8} {L:List E8} (h:P1 R C L) {z:K3} {s:C8} (hz:Z8 R.tax.zones s=some z) (exempt:Bool) (st:St) :
  S P 56 [F7 R,eS s,eB exempt,C7 C,A8 3 J1 L] st fun v st'=>v=.tuple [A1e (B2h R C L z exempt),eI 0]∧st'=st:=by
 have hk:=(A6R h.check).lines.known
 have hi:=h.items
 have hl:=h.lines.len
 have hRI:=fun st=>B6S R.items L (by show R.items.length≤_;omega) (by omega) hk st
 exact C4G exempt (fun st=>h.ref_S st) hRI (by omega) (h.levy hz) h.sm.tax hz st
theorem A7B.total_in {Q:U5} {n:Nat} (h:A7B Q n) (hn:n≤8):0≤Q.total∧Q.total≤100000000000000:=by
 have g1:=B0R h.ngoods h.goods
 have g2:=B0R h.ntaxes h.taxes
 have g3:=h.ship
 have g4:=h.shipTax
 have g5:=h.total
 have hn':(n:Int)≤8:=by omega
 omega
theorem B9A (n:Int):D1 (Q3 (B5 n 3))=true:=by
 have:=C9 n (n:=3) (by decide)
 obtain ⟨k,hk⟩:∃ k:Nat,B5 n 3=k:=⟨(B5 n 3).toNat,by omega⟩
 rw [hk]
 have hk3:k<3:=by omega
 exact D6W.1 A8c k (D6T.2 hk3)
structure B7K (R:D6) (Z:C8) (exempt:Bool) (C:List C8) (A:List Add) (L:List E8) (Q:U5) (pays:List Pay):Prop where
 lines:A2J R.items A=(L,0)
 len:1≤L.length∧L.length≤8
 same:L=A.map (R4 R.items)
 sold:A7B Q L.length
 paid:B0e pays Q.total=true
 npays:pays.length≤3
 zone:D1 Z=true
 codes:S6 C=true
 ncodes:C.length≤3
 scodes:∀ s∈C,s.size≤12
 line:∀ x∈L,D1 x.sku=true∧(0≤x.price∧x.price≤1000000000)∧1≤x.qty∧x.qty≤100000
 right:K6 R=true
 fit:X1 R
 items:R.items.length≤8
 amounts:I6 Q.goods∧I6 Q.taxes
 prog:∀ st,S P 60 [F7 R,eS Z,eB exempt,C7 C,A8 3 J1 L] st fun v st'=>v=.tuple [A1e Q,eI 0]∧st'=st
 ref:∀ st,S P 56 [F7 R,eS Z,eB exempt,C7 C,A8 3 J1 L] st fun v st'=>v=.tuple [A1e Q,eI 0]∧st'=st
end Go.Proofs.YtaapofnkmpiknaaGreat
namespace Go.Proofs.YtaapofnkmpiknaaGreat
open Go Go.Ab
attribute [local irreducible] upd del
def B6c (r:D6) (o:H3):AV:=.agg [A8 4 E9 r.items,A8 15 B7 r.promos,eB r.tax.incl,eB r.tax.byOrder,eI r.tax.round,A8 4 S3 r.tax.zones,eI r.ship.fee,eI r.ship.free,eI r.policy.window,eI r.policy.grace,eI r.policy.mode,eI r.policy.restock,B0 r.policy.order,B0 r.policy.credit,
 eS o.id,eI o.rules,eS o.zone,eB o.exempt,C7 o.codes,eI o.day,A8 6 V7 o.lines,eI o.ship,eI o.shipTax,eI o.fee,eI o.net,eI o.book.goods,eI o.book.tax,eI o.book.ship,eI o.book.shipTax,eI o.book.fee,A8 3 V8 o.tenders]
def A4b:A1v:=⟨0,0,0,0,0⟩
def B2K (q:U5) (e:Int):A1v×Int:=if e≠0 then (A4b,e) else (T4 q,0)
def A9b (b:A1v) (f:Int):A1v:=⟨b.goods,b.tax,b.ship,b.shipTax,f⟩
def A2g (r:D6) (o:H3) (q:U5) (e:Int):A1v×Int:=if r.policy.mode=3 then (A5q o,0) else B2K q e
def A7i (r:D6) (o:H3) (q:U5) (e:Int):A1v×Int :=
 if K6 r=false then (A4b,10) else if N8 o=false then (A4b,2) else if (A2g r o q e).2≠0 then (A4b,(A2g r o q e).2)
  else if A1U (A9b (A2g r o q e).1 o.fee)=false then (A4b,5) else (A9b (A2g r o q e).1 o.fee,0)
structure B4m (f:FuncId) (r:D6) (o:H3) (q:U5) (e:Int):Prop where
 call:∀ s,S P f [F7 r,eS o.zone,eB o.exempt,C7 o.codes,A8 3 J1 (A9z o)] s fun v s'=>v=.tuple [A1e q,eI e]∧s'=s
 goods:I6 q.goods
 taxes:I6 q.taxes
theorem C1U (r:D6) (o:H3) (q:U5) (e:Int) (hq:B4m 60 r o q e) (hl:o.lines.length≤100000) (st:St):S P 93 [B6c r o] st fun v st'=>v=.tuple [A2O (B2K q e).1,eI (B2K q e).2]∧st'=st:=by
 have n1:=fun s=>C4M o hl s
 have n2:=hq.call
 have n3:=fun s=>C8y q hq.goods hq.taxes s
 rw [show B2K q e=if e≠0 then (A4b,e) else (T4 q,0) from rfl]
 refine A0Q ?_
 refine A1S [1] A7o mixed Tryz.func93 (by rfl) rfl rfl rfl ?_;conv=>whnf
 intro b hb
 generalize hs:(upd st b _:St)=w
 have h:=D3.new' hs (A2j st) hb
 clear hs hb
 conv=>whnf
 refine .inl ⟨[18,19],[1,4,7,10,12,13,14],List.range 21,by kernel_rfl,?_⟩
 repeat' ((conv=>whnf);first | refine ⟨_,fun s _=>⟨rfl,rfl⟩,?_⟩ | refine ⟨_,fun s _=>H8 (n1 s),?_⟩ | refine ⟨_,fun s _=>H8 (n2 s),?_⟩ | fail)
 conv=>whnf
 intro b4 hb4
 generalize hs:(upd w b4 _:St)=w4
 have h:=D3.new' hs h hb4
 clear hs hb4
 conv=>whnf
 refine L5 h .z rfl rfl (by rfl) ?_;conv=>whnf
 intro w h;conv=>whnf
 cases he:(e != 0)
 case true =>
  have he:e≠0:=by simpa using he
  rw [if_pos he];conv=>whnf
  refine L5 h (.s .z) rfl rfl (by rfl) ?_;conv=>whnf
  intro w h;conv=>whnf
  refine U6 h (.s .z) rfl Nat.one_pos rfl ?_;conv=>whnf
  exact ⟨rfl,h.sup⟩
 rw [if_neg (by simpa using he)];conv=>whnf
 refine U6 h .z rfl Nat.one_pos rfl ?_;conv=>whnf
 refine I2 (n3 _) ?_
 refine L5 h (.s .z) rfl rfl (by rfl) ?_;conv=>whnf
 intro w h;conv=>whnf
 refine U6 h (.s .z) rfl Nat.one_pos rfl ?_;conv=>whnf
 exact ⟨rfl,h.sup⟩
theorem C1J (r:D6) (o:H3) (hs:A5R o) (st:St):S P 94 [B6c r o] st fun v st'=>v=.tuple [A2O (A5q o),eI 0]∧st'=st:=by
 have n1:=fun s=>C2b o hs s
 refine A0Q ?_
 refine A1S [1] A7o mixed Tryz.func94 (by rfl) rfl rfl rfl ?_;conv=>whnf
 intro b hb
 generalize hs:(upd st b _:St)=w
 have h:=D3.new' hs (A2j st) hb
 clear hs hb
 conv=>whnf
 refine I2 (n1 _) ?_
 refine L5 h .z rfl rfl (by rfl) ?_;conv=>whnf
 intro w h;conv=>whnf
 refine U6 h .z rfl Nat.one_pos rfl ?_;conv=>whnf
 exact ⟨rfl,h.sup⟩
theorem C6p {cells:List AV} {i:Nat} {v:AV} {k:AV→Prop} (h:cells[i]?=some v) (hk:k v):C3K cells i k:=by
 induction cells generalizing i with
 | nil=>simp at h
 | cons a l ih =>
  cases i with
  | zero=>obtain rfl:a=v:=by simpa using h
          exact hk
  | succ i=>exact ih (by simpa using h)
theorem C6q {cells:List AV} {i:Nat} {v:AV} {k:AV→Prop} (h:cells[i]?=some v) (hk:k v):B0u cells i k:=by
 induction cells generalizing i with
 | nil=>simp at h
 | cons a l ih =>
  cases i with
  | zero=>obtain rfl:a=v:=by simpa using h
          exact hk
  | succ i=>exact ih (by simpa using h)
set_option maxHeartbeats 2000000 in
theorem B3V (r:D6) (o:H3) (q:U5) (e:Int) (hf:X1 r) (hs:A5R o) (hq:K6 r=true→N8 o=true→r.policy.mode≠3→B4m 60 r o q e) (st:St) :
  S P 34 [F7 r,O7 o] st fun v st'=>v=.tuple [A2O (A7i r o q e).1,eI (A7i r o q e).2]∧st'=st:=by
 have n1:=fun s=>B5k r hf s
 have n2:=fun s=>A8P o hs s
 have n3:=fun x s=>A5i x s
 have hm:K6 r=true→r.policy.mode=1∨r.policy.mode=2∨r.policy.mode=3:=fun h=>by
  unfold K6 A2l at h
  simp only [D6I,D6F] at h
  omega
 have hE:A7i r o q e=if K6 r=false then (A4b,10) else if N8 o=false then (A4b,2) else if (A2g r o q e).2≠0 then (A4b,(A2g r o q e).2)
  else if A1U (A9b (A2g r o q e).1 o.fee)=false then (A4b,5) else (A9b (A2g r o q e).1 o.fee,0):=rfl
 rw [hE]
 clear hE
 generalize K6 r=b1 at *
 generalize N8 o=b2 at *
 refine A0Q ?_
 refine A1S [2,3,6,7] A7o mixed Tryz.func34 (by rfl) rfl rfl rfl ?_;conv=>whnf
 intro b hb
 generalize hs:(upd st b _:St)=w
 have h:=D3.new' hs (A2j st) hb
 clear hs hb
 conv=>whnf
 refine B3 (n1 _) ?_
 cases b1
 ·conv=>whnf
  refine L5 h .z rfl rfl (by rfl) ?_;conv=>whnf
  intro w h;conv=>whnf
  refine U6 h .z rfl Nat.one_pos rfl ?_;conv=>whnf
  exact ⟨rfl,h.sup⟩
 rw [if_neg (by simp)];conv=>whnf
 refine B3 (n2 _) ?_
 cases b2
 ·conv=>whnf
  refine L5 h .z rfl rfl (by rfl) ?_;conv=>whnf
  intro w h;conv=>whnf
  refine U6 h .z rfl Nat.one_pos rfl ?_;conv=>whnf
  exact ⟨rfl,h.sup⟩
 rw [if_neg (by simp)]
 obtain ⟨g,W,hW,hg,hS⟩:∃ g,∃ W:A1v×Int,A2g r o q e=W∧((r.policy.mode=3∧g=94)∨(r.policy.mode≠3∧g=93))∧∀ s,S P g [B6c r o] s fun v s'=>v=.tuple [A2O W.1,eI W.2]∧s'=s:=by
  by_cases h:r.policy.mode=3
  ·exact ⟨_,_,by rw [A2g,if_pos h],.inl ⟨h,rfl⟩,fun s=>C1J r o hs s⟩
  ·exact ⟨_,_,by rw [A2g,if_neg h],.inr ⟨h,rfl⟩,fun s=>C1U r o q e (hq rfl rfl h) hs.lines s⟩
 have hm:=hm rfl
 rw [hW]
 clear hW hq
 obtain ⟨⟨w1,w2,w3,w4,w5⟩,w6⟩:=W
 conv=>whnf
 refine ⟨⟨by omega,by omega⟩,?_⟩
 refine C6p (v:=.fn (.func g) [B6c r o] []) (by unfold B6c;rcases hg with ⟨h,rfl⟩ | ⟨h,rfl⟩<;>rcases hm with hm | hm | hm<;>rw [hm] at h ⊢<;>first | exact absurd h (by decide) | exact absurd rfl h | rfl) ?_;conv=>whnf
 refine I2 (hS _) ?_
 intro b8 hb8
 generalize hs:(upd w b8 _:St)=w8
 have h:=D3.new' hs h hb8
 clear hs hb8
 conv=>whnf
 refine L5 h .z rfl rfl (by rfl) ?_;conv=>whnf
 intro w h;conv=>whnf
 cases h6:(w6 != 0)
 case true =>
  rw [if_pos (show w6≠0 by simpa using h6)];conv=>whnf
  refine L5 h (.s .z) rfl rfl (by rfl) ?_;conv=>whnf
  intro w h;conv=>whnf
  refine U6 h (.s .z) rfl Nat.one_pos rfl ?_;conv=>whnf
  exact ⟨rfl,h.sup⟩
 obtain rfl:w6=0:=by simpa using h6
 rw [if_neg (fun h=>h rfl)];conv=>whnf
 refine L5 h .z rfl rfl (by rfl) ?_;conv=>whnf
 intro w h
 iterate 5 ((conv=>whnf);refine U6 h .z rfl Nat.one_pos rfl ?_)
 conv=>whnf
 have hB:A1U (A9b ((⟨w1,w2,w3,w4,w5⟩:A1v),(0:Int)).1 o.fee)=[w1,w2,w3,w4,o.fee].all G7:=rfl
 rw [hB]
 refine lp 5 [4,8,58,59] (fun i vs u=>vs=[.optr 5 b 0 0,.optr 5 b8 0 0,.agg [eI w1,eI w2,eI w3,eI w4,eI o.fee],eI i]∧u=w∧∀ k,k<i→G7 ([w1,w2,w3,w4,o.fee].getD k default)=true) ?_ ?_
 ·conv=>whnf
  exact ⟨rfl,rfl,fun k hk=>absurd hk (by omega)⟩
 rintro i vs u hi ⟨rfl,rfl,hok⟩
 conv=>whnf
 cases h1:decide ((i:Int)<5)
 ·obtain rfl:i=5:=by have:=D6G h1;omega
  rw [show [w1,w2,w3,w4,o.fee].all G7=true from by
   have e0:=hok 0 (by omega);have e1:=hok 1 (by omega);have e2:=hok 2 (by omega);have e3:=hok 3 (by omega);have e4:=hok 4 (by omega)
   show (G7 w1&&(G7 w2&&(G7 w3&&(G7 w4&&(G7 o.fee&&true)))))=true
   rw [show G7 w1=true from e0,show G7 w2=true from e1,show G7 w3=true from e2,show G7 w4=true from e3,show G7 o.fee=true from e4];rfl]
  rw [if_neg (by simp)];conv=>whnf
  refine U6 h .z rfl Nat.one_pos rfl ?_;conv=>whnf
  refine L5 h (.s .z) rfl rfl (by rfl) ?_;conv=>whnf
  intro w h;conv=>whnf
  refine U6 h (.s .z) rfl Nat.one_pos rfl ?_;conv=>whnf
  exact ⟨rfl,h.sup⟩
 have hi':i<5:=by have:=D6H h1;omega
 conv=>whnf
 refine ⟨⟨rfl,by show (i:Int).toNat * 1<5;omega,by omega,by show (i:Int)<5;omega⟩,?_⟩
 refine C6q (v:=eI ([w1,w2,w3,w4,o.fee].getD i default)) (by
  rcases (show i=0∨i=1∨i=2∨i=3∨i=4 by omega) with rfl | rfl | rfl | rfl | rfl<;>rfl) ?_
 conv=>whnf
 refine I2 (n3 _ _) ?_
 cases hx:G7 ([w1,w2,w3,w4,o.fee].getD i default)
 case false =>
  rw [if_pos (List.all_eq_false.2 ⟨_,A7 (l:=[w1,w2,w3,w4,o.fee]) hi',by rw [hx];simp⟩)];conv=>whnf
  refine L5 h (.s .z) rfl rfl (by rfl) ?_;conv=>whnf
  intro w h;conv=>whnf
  refine U6 h (.s .z) rfl Nat.one_pos rfl ?_;conv=>whnf
  exact ⟨rfl,h.sup⟩
 conv=>whnf
 refine G2 ?_
 exact nx hi' ⟨by rw [B4 (by omega)],rfl,H5 hok hx⟩
def B1G (R:D6) (m:Int):D6:=⟨R.items,R.promos,R.tax,R.ship,⟨R.policy.window,R.policy.grace,m,R.policy.restock,R.policy.order,R.policy.credit⟩⟩
theorem B1H {R:D6} (h:K6 R=true) {m:Int} (hm:1≤m∧m≤3):K6 (B1G R m)=true:=by
 unfold K6 A2l at h ⊢
 simp only [D6I,D6F] at h ⊢
 exact ⟨h.1,⟨⟨⟨⟨⟨h.2.1.1.1.1.1,hm.1⟩,hm.2⟩,h.2.1.1.2⟩,h.2.1.2⟩,h.2.2⟩⟩
theorem P1.mode {R:D6} {C:List C8} {L:List E8} (h:P1 R C L) {m:Int} (hm:1≤m∧m≤3):P1 (B1G R m) C L:=by
 have hr:=B1H h.right hm
 refine ⟨hr,⟨h.fit.promos,h.fit.fit,h.fit.order,h.fit.credit⟩,⟨h.sm.n,h.sm.items,h.sm.promos,h.sm.tax,h.sm.order,h.sm.credit⟩,h.codes,h.ncodes,h.scodes,h.lines,?_,h.few,h.items,h.known,h.fee⟩
 have hc:=h.check
 unfold D8 at hc ⊢
 rw [if_neg (by rw [h.right];simp)] at hc
 rw [if_neg (by rw [hr];simp)]
 exact hc
theorem C1m (id zone:C8) (set:Int) (exempt:Bool) (C:List C8) (day:Int) (L:List E8) (Q:U5) (b:A1v) (pays:List Pay):A9z (A5F id zone set exempt C day L Q b pays)=L:=by
 show (P3 L Q).map _=L
 unfold P3
 rw [D8Y]
 refine D9a (by simp) fun i h1 h2=>?_
 simp [A3s,D6D,h2]
theorem C2d (s:B2W):∃ L Q,B7K (G4 s.rules) (Q1 s) s.exempt (I1 s.codes) (J3 s.adds) L Q (Q0 Q.total s.pays)∧A6M (G4 s.rules) ∧
  ∀ m,1≤m∧m≤3→∀ id set day pays,B4m 60 (B1G (G4 s.rules) m) (A5F id (Q1 s) set s.exempt (I1 s.codes) day L Q (T4 Q) pays) Q 0:=by
 have hb:=B5P s.rules.items s.adds
 have h:=(C9c s.rules s.codes []).relines hb
 obtain ⟨z,hz⟩:=B3f s.rules s.zone
 have hq:=h.quoteIn hz s.exempt
 have hs:=h.sold hz s.exempt
 obtain ⟨⟨a1,a2⟩,a3⟩:=A6p s.adds
 have hln:((J3 s.adds).map (R4 (G3 s.rules.items))).length≤8:=hb.len
 have hT:=hs.total_in hln
 have hp:=B3c hT.1 hT.2 s.pays
 refine ⟨_,B2h (G4 s.rules) (I1 s.codes) ((J3 s.adds).map (R4 (G3 s.rules.items))) z s.exempt,⟨B6E s.rules.items s.adds,?_,rfl,hs,hp.1,hp.2,B9A s.zone,h.codes,h.ncodes,h.scodes,fun x hx=>?_,h.right,h.fit,h.items,⟨hq.goods,hq.taxes⟩,fun st=>h.quote_S hz s.exempt st,fun st=>h.rquote_S hz s.exempt st⟩,h.sm,fun m hm id set day pays=>⟨fun st=>?_,hq.goods,hq.taxes⟩⟩
 ·show 1≤((J3 s.adds).map (R4 (G3 s.rules.items))).length∧((J3 s.adds).map (R4 (G3 s.rules.items))).length≤8
  rw [D6J];omega
 ·have hx:x∈(J3 s.adds).map (R4 (G3 s.rules.items)):=hx
  have l1:=hb.line x hx
  obtain ⟨n,hn⟩:=hb.sku x hx
  obtain ⟨y,hy,rfl⟩:=D6Z.1 hx
  have l2:=(a3 y hy).1
  refine ⟨by rw [hn];exact A9P n,by omega,?_⟩
  show 1≤y.qty∧y.qty≤100000
  omega
 ·rw [C1m]
  exact (h.mode hm).quote_S (z:=z) hz s.exempt st
theorem B7k {R:D6} {L:List E8} {Q:U5} {m:Int} (hR:K6 R=true) (hm:1≤m∧m≤3) (h:A7B Q L.length) (h1:1≤L.length∧L.length≤8) (hL:∀ x∈L,D1 x.sku=true∧(0≤x.price∧x.price≤1000000000)∧1≤x.qty∧x.qty≤100000)
  {id zone:C8} {set day:Int} {C:List C8} {pays:List Pay} (exempt:Bool) (hi:D1 id=true) (hz:D1 zone=true) (hs:1≤set∧set≤40) (hd:0≤day∧day≤100000) (hc:S6 C=true) (hp:B0e pays Q.total=true) :
  A7i (B1G R m) (A5F id zone set exempt C day L Q (T4 Q) pays) Q 0=(T4 Q,0):=by
 obtain ⟨o1,o2,o3⟩:=B9f h h1 hL exempt hi hz hs hd hc hp
 have hv:A2g (B1G R m) (A5F id zone set exempt C day L Q (T4 Q) pays) Q 0=(T4 Q,0):=by
  unfold A2g B2K
  rw [o2,if_neg (show ¬(0:Int)≠0 by decide)]
  split<;>rfl
 have hb:A1U (T4 Q)=true:=by
  unfold N8 A5z at o1
  simp only [D6I] at o1
  exact o1.1.2.1
 unfold A7i
 rw [B1H hR hm,o1,hv,if_neg (by simp),if_neg (by simp),if_neg (by simp),if_neg (by show ¬ A1U (T4 Q)=false;rw [hb];simp)]
 rfl
def spZ:K3:=⟨⟨#[122]⟩,[],1000,0⟩
def spI:List Ab.Item:=[⟨⟨#[97]⟩,⟨#[120]⟩,50,false⟩]
def spR (w g c:Int):D6:=⟨spI,[],⟨false,false,0,[spZ]⟩,⟨0,0⟩,⟨w,g,1,c,[],[]⟩⟩
def spO (n:Int):H3:=⟨⟨#[111]⟩,1,⟨#[122]⟩,false,[],5,[⟨⟨#[97]⟩,50,2,n,100,10⟩],0,0,0,110,⟨100,10,0,0,0⟩,[⟨1,110,0⟩]⟩
theorem C9l (st:St):S P 29 [] st fun v st'=>v=.tuple [F7 (spR 30 0 1000),O7 (spO 2)]∧st'=st:=by
 refine S.post (post:=fun v w=>F1 st w∧A6 [v] w [.tuple [F7 (spR 30 0 1000),O7 (spO 2)]] w) ?_ (fun v w hv=>⟨_,st,⟨rfl,rfl⟩,hv.2.trans (hv.1.shift _)⟩)
 refine A1S [2,3] A7o mixed Tryz.func29 (by rfl) rfl rfl rfl ?_;conv=>whnf
 intro b0 hb0
 generalize hs:(upd st b0 _:St)=w
 have h:=D3.new' hs (A2j st) hb0
 clear hs hb0
 conv=>whnf
 intro b1 hb1
 generalize hs:(upd w b1 _:St)=w2
 have h:=D3.new' hs h hb1
 clear hs hb1
 conv=>whnf
 refine .inr ⟨[2,3],.qui 0 (.qui 1 (.eff 2 [1] (.eff 3 [] (.done)))),by kernel_rfl,?_⟩
 repeat' ((conv=>whnf);first | refine quT (fun _=>⟨rfl,rfl⟩) ?_ | fail)
 conv=>whnf
 refine L5 h (.s .z) rfl rfl (by rfl) ?_;conv=>whnf
 intro w h
 repeat' ((conv=>whnf);first | refine ⟨fun _=>⟨rfl,rfl⟩,?_⟩ | refine ⟨fun _=>trivial,?_⟩ | fail)
 conv=>whnf
 refine L5 h .z rfl rfl (by rfl) ?_;conv=>whnf
 intro w h;conv=>whnf
 refine U6 h (.s .z) rfl Nat.one_pos rfl ?_;conv=>whnf
 refine U6 h .z rfl Nat.one_pos rfl ?_;conv=>whnf
 refine ⟨h.sup,A6.tuple (A6.cons (Le.shift (Le.agg ?_) _) (Le.shift (Le.agg ?_) _)) rfl⟩
 all_goals repeat' first | exact F0.nil | refine F0.cons ?_ ?_ | exact Le.refl _ | exact Le.emp _ _ | refine Le.arr1 ?_ rfl
structure W8 where
 line:Int
 qty:Int
 deriving Inhabited
def A8t (x:W8):AV:=.agg [eI x.line,eI x.qty]
def B3L (l:List W8) (i:Nat):Int:=if i=0 then -1 else (l.getD (i - 1) default).line
def A3G (l:List W8) (i:Nat):Bool:=decide (B3L l i<(l.getD i default).line)&&decide (1≤(l.getD i default).qty)
def U8 (l:List W8):Bool:=decide ((l.length:Int)≤1000)&&(List.range l.length).all (A3G l)
theorem B4g {l:List W8} {i:Nat} (hi:i<l.length) (h:A3G l i=false):U8 l=false:=by
 unfold U8
 rw [show (List.range l.length).all (A3G l)=false from List.all_eq_false.2 ⟨i,D6T.2 hi,by rw [h];simp⟩,D7h]
theorem B9o {l:List W8} (h:∀ k,k<l.length→A3G l k=true):U8 l=decide ((l.length:Int)≤1000):=by
 unfold U8;rw [B1d h,D7u]
theorem C3S {l:List W8} {i:Nat} (h:∀ k,k<i→A3G l k=true) : -1≤B3L l i:=by
 induction i with
 | zero=>exact D7l _
 | succ i ih =>
  have h1:=ih fun k hk=>h k (by omega)
  have h2:=h i (by omega)
  unfold A3G at h2
  simp only [D6I,D6F] at h2
  show -1≤(l.getD (i+1 - 1) default).line
  rw [Nat.add_sub_cancel];omega
theorem C0y (l:List W8) (hl:l.length≤9223372036854775806) (st:St):S P 88 [A8 2 A8t l] st fun v st'=>v=.bool (U8 l)∧st'=st:=by
 refine F4 [5] Tryz.func88 ?_
 cases h0:decide ((l.length:Int)>1000)
 case true =>
  conv=>whnf
  exact ⟨by unfold U8;rw [D6L (by have:=D6H h0;omega)];rfl,rfl⟩
 have h0:=D6G h0
 conv=>whnf
 refine lp l.length [3,9,10,11] (fun i vs s=>(∀ k,k<i→A3G l k=true)∧vs=[eI (B3L l i),A8 2 A8t l,eI l.length,eI i]∧s=st) ?_ ?_
 ·conv=>whnf
  exact ⟨fun k hk=>absurd hk (by omega),rfl,rfl⟩
 rintro i vs s hi ⟨hok,rfl,rfl⟩
 conv=>whnf
 cases h:decide ((i:Int)<(l.length:Int))
 ·obtain rfl:=C5 h hi
  conv=>whnf
  exact ⟨by rw [B9o hok,D7m (by omega)];rfl,rfl⟩
 have hi':=E2 h
 have hx:A3G l i=(decide (B3L l i<(l.getD (i:Int).toNat default).line)&&decide (1≤(l.getD (i:Int).toNat default).qty)):=rfl
 conv=>whnf
 refine E7 ?_
 cases h1:decide ((l.getD (i:Int).toNat default).line≤B3L l i)
 ·conv=>whnf
  cases h2:decide ((l.getD (i:Int).toNat default).qty<1)
  ·conv=>whnf
   have h1:=D6G h1
   have h2:=D6G h2
   refine G2 ?_
   exact nx hi' ⟨H5 hok (by rw [hx,D7m (by omega),D7m (by omega)];rfl),by rw [B4 (by omega)];rfl,rfl⟩
  ·conv=>whnf
   have h2:=D6H h2
   exact ⟨by rw [B4g hi' (by rw [hx,D6L (p:=1≤_) (by omega),D7h])];rfl,rfl⟩
 ·conv=>whnf
  have h1:=D6H h1
  exact ⟨by rw [B4g hi' (by rw [hx,D6L (p:=_<_) (by omega),D7c])];rfl,rfl⟩
def A5G (items:List Ab.Item) (o:H3) (x:W8):Int :=
 if x.line≥o.lines.length then 7 else if P9 items (o.lines.getD x.line.toNat default).sku<0 then 7 else if x.qty>(o.lines.getD x.line.toNat default).left then 12
  else if (items.getD (P9 items (o.lines.getD x.line.toNat default).sku).toNat default).final=true then 14 else 0
def A1z (f:W8→Int):List W8→Int
 | []=>0
 | x::l=>if f x=0 then A1z f l else f x
theorem A7I {f:W8→Int}:∀ {l:List W8},(∀ k,k<l.length→f (l.getD k default)=0)→A1z f l=0
 | [],_=>rfl
 | x::l,h=>by
  unfold A1z
  rw [if_pos (show f x=0 from h 0 (Nat.zero_lt_succ _))]
  exact A7I fun k hk=>h (k+1) (Nat.succ_lt_succ hk)
theorem A9q {f:W8→Int}:∀ {l:List W8} {i:Nat},i<l.length→(∀ k,k<i→f (l.getD k default)=0)→f (l.getD i default)≠0→A1z f l=f (l.getD i default)
 | x::l,0,_,_,h=>by unfold A1z;rw [if_neg (show ¬ f x=0 from h)];rfl
 | x::l,i+1,hi,h0,h=>by
  unfold A1z
  rw [if_pos (show f x=0 from h0 0 (Nat.zero_lt_succ _))]
  exact A9q (Nat.lt_of_succ_lt_succ hi) (fun k hk=>h0 (k+1) (Nat.succ_lt_succ hk)) h
def B1D (r:D6) (o:H3) (day:Int) (l:List W8):Int :=
 if K6 r=false then 10 else if N8 o=false then 2 else if day<o.day then 2 else if N9 0 100000 day=false then 2 else if U8 l=false then 2 else if day - o.day>r.policy.window then 13 else A1z (A5G r.items o) l
theorem A4K {l:List W8} (h:U8 l=true) {i:Nat} (hi:i<l.length):0≤(l.getD i default).line∧1≤(l.getD i default).qty:=by
 unfold U8 at h
 rw [D6I,D6W] at h
 have h1:=C3S (l:=l) (i:=i) fun k hk=>h.2 k (D6T.2 (by omega))
 have h2:=h.2 i (D6T.2 hi)
 unfold A3G at h2
 simp only [D6I,D6F] at h2
 omega
theorem C6U (r:D6) (o:H3) (x:W8) (hr:r.items.length≤9223372036854775807) (h0:0≤x.line) (st:St):S P 89 [F7 r,O7 o,A8t x] st fun v st'=>v=eI (A5G r.items o x)∧st'=st:=by
 have n1:=B8g r.items (o.lines.getD x.line.toNat default).sku hr st
 have hf:P9 r.items (o.lines.getD x.line.toNat default).sku<r.items.length:=(A9u _ _).2
 have hE:A5G r.items o x=if x.line≥o.lines.length then 7 else if P9 r.items (o.lines.getD x.line.toNat default).sku<0 then 7 else if x.qty>(o.lines.getD x.line.toNat default).left then 12
  else if (r.items.getD (P9 r.items (o.lines.getD x.line.toNat default).sku).toNat default).final=true then 14 else 0:=rfl
 rw [hE]
 clear hE
 generalize P9 r.items (o.lines.getD x.line.toNat default).sku=F at *
 refine F4 [3,4,5,7] Tryz.func89 ?_
 cases h1:decide (x.line≥(o.lines.length:Int))
 case true =>
  rw [if_pos (D6H h1)];conv=>whnf
  exact ⟨rfl,rfl⟩
 rw [if_neg (D6G h1)]
 have h1:=D6G h1
 conv=>whnf
 refine E7 ?_
 refine I2 n1 ?_
 cases h2:decide (F<0)
 case true =>
  rw [if_pos (D6H h2)];conv=>whnf
  exact ⟨rfl,rfl⟩
 rw [if_neg (D6G h2)]
 have h2:=D6G h2
 conv=>whnf
 cases h3:decide (x.qty>(o.lines.getD x.line.toNat default).left)
 case true =>
  rw [if_pos (D6H h3)];conv=>whnf
  exact ⟨rfl,rfl⟩
 rw [if_neg (D6G h3)];conv=>whnf
 refine E7 ?_
 cases h4:(r.items.getD F.toNat default).final
 all_goals
  conv=>whnf
  exact ⟨rfl,rfl⟩
set_option maxHeartbeats 1000000 in
theorem C4u (r:D6) (o:H3) (day:Int) (l:List W8) (hf:X1 r) (hr:r.items.length≤9223372036854775807) (hs:A5R o) (hl:l.length≤9223372036854775806) (st:St) :
  S P 30 [F7 r,O7 o,eI day,A8 2 A8t l] st fun v st'=>v=eI (B1D r o day l)∧st'=st:=by
 have n1:=fun s=>B5k r hf s
 have n2:=fun s=>A8P o hs s
 have n3:=fun s=>C3u day s
 have n4:=fun s=>C0y l hl s
 have hE:B1D r o day l=if K6 r=false then 10 else if N8 o=false then 2 else if day<o.day then 2 else if N9 0 100000 day=false then 2 else if U8 l=false then 2 else if day - o.day>r.policy.window then 13 else A1z (A5G r.items o) l:=rfl
 have hod:N8 o=true→0≤o.day∧o.day≤100000:=fun h=>by
  unfold N8 A6d at h
  simp only [D6I,E0] at h
  exact h.1.1.1.1.2.2
 have hta:=fun (h:U8 l=true) i (hi:i<l.length)=>A4K h hi
 have hub:N9 0 100000 day=true→0≤day∧day≤100000:=fun h=>(E0 ..).1 h
 rw [hE]
 clear hE
 generalize K6 r=b1 at *
 generalize N8 o=b2 at *
 generalize N9 0 100000 day=b3 at *
 generalize U8 l=b4 at *
 refine F4 [4,5,10] Tryz.func30 ?_
 refine B3 (n1 _) ?_
 cases b1
 ·conv=>whnf
  exact ⟨rfl,rfl⟩
 rw [if_neg (by simp)];conv=>whnf
 refine B3 (n2 _) ?_
 cases b2
 ·conv=>whnf
  exact ⟨rfl,rfl⟩
 rw [if_neg (by simp)];conv=>whnf
 cases h3:decide (day<o.day)
 case true =>
  rw [if_pos (D6H h3)];conv=>whnf
  exact ⟨rfl,rfl⟩
 rw [if_neg (D6G h3)];conv=>whnf
 refine B3 (n3 _) ?_
 cases b3
 ·conv=>whnf
  exact ⟨rfl,rfl⟩
 rw [if_neg (by simp)];conv=>whnf
 refine B3 (n4 _) ?_
 cases b4
 ·conv=>whnf
  exact ⟨rfl,rfl⟩
 rw [if_neg (by simp)]
 have h5:=hod rfl
 have h6:=hub rfl
 have hw:IntKind.i64.wrap (day - o.day)=day - o.day:=A5 (by omega) (by omega)
 conv=>whnf
 rw [hw]
 cases h7:decide (day - o.day>r.policy.window)
 case true =>
  rw [if_pos (D6H h7)];conv=>whnf
  exact ⟨rfl,rfl⟩
 rw [if_neg (D6G h7)];conv=>whnf
 refine lp l.length [4,5,45,46,47] (fun i vs s=>(∀ k,k<i→A5G r.items o (l.getD k default)=0)∧vs=[.fptr (F7 r) 0,.fptr (O7 o) 0,A8 2 A8t l,eI l.length,eI i]∧s=st) ?_ ?_
 ·conv=>whnf
  exact ⟨fun k hk=>absurd hk (by omega),rfl,rfl⟩
 rintro i vs s hi ⟨hok,rfl,rfl⟩
 conv=>whnf
 cases h:decide ((i:Int)<(l.length:Int))
 ·obtain rfl:=C5 h hi
  rw [A7I hok];conv=>whnf
  exact ⟨rfl,rfl⟩
 have hi':=E2 h
 have n5:=fun s=>C6U r o (l.getD (i:Int).toNat default) hr (hta rfl i hi').1 s
 have hat:A5G r.items o (l.getD (i:Int).toNat default)≠0→A1z (A5G r.items o) l=A5G r.items o (l.getD (i:Int).toNat default):=fun h=>A9q hi' hok h
 have hnx:A5G r.items o (l.getD (i:Int).toNat default)=0→∀ k,k<i+1→A5G r.items o (l.getD k default)=0:=fun h=>H5 hok h
 conv=>whnf
 refine E7 ?_
 refine B3 (n5 _) ?_
 generalize A5G r.items o (l.getD (i:Int).toNat default)=E at *
 conv=>whnf
 cases h8:(E != 0)
 ·conv=>whnf
  refine G2 ?_
  exact nx hi' ⟨hnx (by simpa using h8),by rw [B4 (by omega)],rfl⟩
 ·rw [hat (by simpa using h8)];conv=>whnf
  exact ⟨rfl,rfl⟩
end Go.Proofs.YtaapofnkmpiknaaGreat
