/- Part 30 of the proof: contracts -/
import Derived.Test.YtaapofnkmpiknaaGreatPt29
set_option maxRecDepth 100000
set_option linter.unusedVariables false
set_option linter.unusedSimpArgs false
namespace Go.Proofs.YtaapofnkmpiknaaGreat
open Go Go.Ab
attribute [local irreducible] upd del
theorem B9f (es:List QE):∃ c1 c2 is,C4R es=.tuple [eI c1,eI c2,.bool is]:=by
 cases es with
 | nil=>exact ⟨0,0,false,rfl⟩
 | cons y es=>exact ⟨y.1,y.2,true,rfl⟩
theorem A9T {c1 c2 d1 d2:Int} {is js:Bool} (h:AV.tuple [eI c1,eI c2,.bool is]=.tuple [eI d1,eI d2,.bool js]):c1=d1∧c2=d2∧is=js:=by
 injection h with h;injection h with h1 h;injection h with h2 h;injection h with h3 h
 injection h1 with _ h1;injection h2 with _ h2;injection h3 with h3
 exact ⟨h1,h2,h3⟩
set_option maxHeartbeats 8000000 in
theorem C1l (t:Tax) (rates nets:List Int) (hn:A4Y nets) (hr:rates.length=nets.length) (hq:∀ x∈rates,0≤x∧x≤10000) (st:St) :
  S P 191 [T7 t,A9 rates,A9 nets] st fun v st'=>v=A9 (H6 t rates nets)∧st'=st:=by
 have hnl:=hn.len
 have hol:(H6 t rates nets).length=nets.length:=by unfold H6;rw [D7i,D7F]
 refine S.post (post:=fun v s=>∃ bo,v=.own 1 bo 0 nets.length∧st bo=none∧(∃ y,IsL (H6 t rates nets) y∧s bo=some y)∧F8 st s) ?_ (fun v s ⟨bo,h1,h2,⟨y,⟨f,hy,hf⟩,hb⟩,h4⟩=>⟨_,st,⟨rfl,rfl⟩,by
  subst hy;rw [h1]
  have e:A9 (H6 t rates nets)=.arr 1 nets.length (fun i=>eI (gI (H6 t rates nets) i)):=by unfold A9 A8;rw [hol]
  rw [e]
  exact (P1 hb rfl (by show nets.length≤(H6 t rates nets).length;omega) (fun i hi=>hf i (by omega))).trans ((F8.del h4 h2).shift _)⟩)
 refine F7 [3] Tryz.func191 ?_
 refine mkO rfl rfl rfl (by show 8 * nets.length≤_;omega) (by omega) (by rfl) (fun bo hbo=>?_);conv=>whnf
 refine call (B2y _) (fun v s hv=>?_)
 obtain ⟨q,rfl,hQ⟩:=hv
 conv=>whnf
 refine lp rates.length [2,3,7,8,28,29,30] (fun i vs s=>vs=[A9 nets,.fptr (T7 t) 0,.own 1 bo 0 nets.length,.optr 1 q 0 0,A9 rates,eI rates.length,eI i]∧QSt (upd st bo ⟨2,1,nets.length,fun _=>I1 r2.zero⟩) q true ((List.range i).map (C3X rates)) s) ?_ ?_
 ·conv=>whnf
  exact ⟨rfl,hQ⟩
 clear hQ s
 rintro i vs s hi ⟨rfl,hQ⟩
 conv=>whnf
 cases h1:decide ((i:Int)<(rates.length:Int))
 case true =>
  have hi':=D6 h1
  have hx:=hq (gI rates (i:Int).toNat) (A5 hi')
  have hw:IntKind.i64.wrap (0 - rates.getD (i:Int).toNat default) = -(gI rates (i:Int).toNat):=(A4 (show _≤0 - gI rates (i:Int).toNat by omega) (show 0 - gI rates (i:Int).toNat≤_ by omega)).trans (by show 0 - gI rates (i:Int).toNat=_;omega)
  conv=>whnf
  refine E9 ?_
  rw [hw]
  refine call (A8W _ q _ _ _ _ hQ (by rw [D7i,D7F];omega)) (fun v s' hv=>?_)
  obtain ⟨rfl,hQ2⟩:=hv
  conv=>whnf
  refine G3 ?_
  exact nx hi' ⟨by rw [B4 (by omega)],by rw [D8G,D7M];exact hQ2⟩
 obtain rfl:=B9 h1 hi
 have hQ2:=QSt.perm hQ (A5E rates).symm
 clear hQ
 conv=>whnf
 refine ⟨[2,3,7,8],fun m vs u=>∃ (D:Int→Bool) (fl:Bool) (L:List Int),m=(A2a rates D).length∧vs=[A9 nets,.fptr (T7 t) 0,.own 1 bo 0 nets.length,.optr 1 q 0 0]∧B3X t rates nets D L∧OQ bo q L fl (A2a rates D) st u,?_,?_⟩
 ·conv=>whnf
  exact ⟨_,fun _=>false,true,List.replicate nets.length 0,rfl,rfl,⟨D8i,fun i hi=>by
   rw [if_neg (by simp)];unfold gI
   rw [D7c,D9t];split<;>rfl⟩,hbo,_,⟨fun _=>I1 r2.zero,by rw [D8i],fun i hi=>by
   unfold gI;rw [D7c,D9t];split<;>rfl⟩,by rw [B6L];exact hQ2⟩
 clear hQ2
 rintro m vs u ⟨D,fl,L,rfl,rfl,hdone,hb0,y,hy,hQ3⟩
 conv=>whnf
 refine B2 (A9X _ q fl _ _ hQ3) ?_
 cases hE:A2a rates D with
 | nil =>
  conv=>whnf
  have hL:=C3V hdone hr hE
  rw [hE] at hQ3
  exact ⟨bo,rfl,hb0,⟨y,by rw [←hL];exact hy,hQ3.sup bo _ (A0 ..)⟩,F8.drop hQ3.sup hb0⟩
 | cons x E =>
  obtain ⟨hD,hEq⟩:=B8N hE
  obtain ⟨i0,hi0,hi0m,hi0r⟩:=C1M hE
  have hsort:=A8G rates D
  have hkey:∀ y∈A2a rates (fun z=>D z||z==x.1),(y.1==x.1)=false:=B5f
  have hmeas:(A2a rates (fun z=>D z||z==x.1)).length<E.length+1:=by
   have h1:=D9e List.length hEq
   rw [D7p,D7i,D7N] at h1
   have h2:0<(L0 rates x.1).length:=List.length_pos_of_mem hi0m
   omega
  have hnext:=B3Y (k:=x.1) hdone hr
  have hparts:(A2Z t rates nets x.1).length=(L0 rates x.1).length∧∀ st,S P 238 [eI (O3 t (A2 ((L0 rates x.1).map (gI nets))) (-x.1)),A9 ((L0 rates x.1).map (gI nets))] st fun v st'=>v=.tuple [A9 (A2Z t rates nets x.1),eI 0]∧st'=st:=by
   have hw:=A3m (t:=t) hn hr (i:=i0) (hq (gI rates i0) (A5 hi0))
   have e:J1 rates nets i0=(L0 rates x.1).map (gI nets):=by unfold J1;rw [(A0P hi0m).2.2]
   rw [e,hi0r] at hw
   have h3:=(U3 hw).2.1
   refine ⟨by unfold A2Z;rw [h3,D7i],fun st=>?_⟩
   exact A9L _ _ hw st
  have hGok:=fun j=>C8t (rates:=rates) (k:=x.1) (j:=j)
  have hrate:0≤-x.1∧-x.1≤10000:=by rw [←hi0r];exact hq (gI rates i0) (A5 hi0)
  have hGl:(L0 rates x.1).length≤1000:=by
   have:(L0 rates x.1).length≤(List.range rates.length).length:=D9D _ _
   rw [D7F] at this;omega
  have hgsum:0≤A2 ((L0 rates x.1).map (gI nets)):=C1 fun v hv=>by
   obtain ⟨j,hj,rfl⟩:=D7y.1 hv
   exact hn.pos _ (A5 (by have:=(A0P hj).2.1;omega))
  have hgs:∀ j,j≤(L0 rates x.1).length→0≤A2 (((L0 rates x.1).take j).map (gI nets))∧A2 (((L0 rates x.1).take j).map (gI nets))≤10000000000000:=fun j hj=>by
   have hsub:(((L0 rates x.1).take j).map (gI nets)).Sublist nets:=by
    have h1:(((L0 rates x.1).take j).map (gI nets)).Sublist ((List.range nets.length).map (gI nets)):=by
     refine List.Sublist.map _ ((List.take_sublist _ _).trans ?_)
     unfold L0;rw [hr];exact D9f
    rw [A6C] at h1;exact h1
   have h2:=B2X hsub hn.pos
   have h3:=hn.sum
   exact ⟨C1 fun v hv=>hn.pos v (hsub.subset hv),by omega⟩
  rw [hE] at hQ3 hsort
  have hQ0:x::E=QJ (L0 rates x.1) x.1 (A2a rates (fun z=>D z||z==x.1)) 0:=hEq
  generalize L0 rates x.1=G at *
  generalize hRest:A2a rates (fun z=>D z||z==x.1)=Rest at *
  generalize A2Z t rates nets x.1=X at *
  clear hEq
  conv=>whnf
  rw [show decide ((((x::E).length:Nat):Int)>0)=true by rw [D7d,D7N];omega];conv=>whnf
  refine I3 (B5w _ q fl x E _ hQ3 (D8K.1 hsort).1) ?_
  refine I3 (B5w _ q fl x E _ hQ3 (D8K.1 hsort).1) ?_
  have hsortQ:∀ j,j≤G.length→(QJ G x.1 Rest j).Pairwise fun a b=>H2 b a=false:=fun j hj=>by
   rw [hQ0] at hsort
   refine D9Y ?_ hsort
   unfold QJ
   rw [List.drop_zero]
   exact List.Sublist.append ((D9P j G).map _) (List.Sublist.refl _)
  refine lp G.length [2,3,7,8,11,14,15,16,17,18,19] (fun j vs u=>∃ (fl:Bool) (lv wv:AV) (c1 c2:Int) (is:Bool),vs=[A9 nets,.fptr (T7 t) 0,.own 1 bo 0 nets.length,.optr 1 q 0 0,eI x.1,lv,wv,eI (A2 ((G.take j).map (gI nets))),eI c1,eI c2,.bool is]∧C4R (QJ G x.1 Rest j)=.tuple [eI c1,eI c2,.bool is]∧ROut (fun s t=>ROut (OQ bo q L fl (QJ G x.1 Rest j)) 3 1 (fun i=>eI (gN G i)) j s lv t) 2 1 (fun i=>eI (gI (G.map (gI nets)) i)) j st wv u) ?_ ?_
  ·conv=>whnf
   exact ⟨fl,.emp,.emp,x.1,x.2,true,rfl,by rw [←hQ0];rfl,ROut.start (show ROut _ _ _ _ 0 st .emp u from ROut.start (show OQ bo q L fl (QJ G x.1 Rest 0) st u from ⟨hb0,y,hy,by rw [←hQ0];exact hQ3⟩) _ _ _) _ _ _⟩
  rintro j vs w hj ⟨fl2,lv,wv,c1,c2,is,rfl,hpk,hR⟩
  by_cases hjl:j<G.length
  ·have hQn:=C6t (G:=G) (k:=x.1) (Rest:=Rest) hjl
   rw [hQn] at hpk
   obtain ⟨rfl,rfl,rfl⟩:=A9T hpk
   have hGj:=hGok j hjl
   have hxn:0≤gI nets (gN G j).toNat∧gI nets (gN G j).toNat≤A2 nets:=⟨hn.pos _ (A5 (by omega)),J7 hn.pos (A5 (by omega))⟩
   have hns:=hn.sum
   have hg1:=hgs j hj
   have hg2:=hgs (j+1) hjl
   have hgt:((G.take (j+1)).map (gI nets))=((G.take j).map (gI nets))++[gI nets (gN G j).toNat]:=by
    rw [D9i hjl,D7M]
    have:(gN G j).toNat=G[j]:=by show (((G.getD j 0:Nat):Int)).toNat=_;rw [D7c,D7k hjl];rfl
    rw [this];rfl
   have hgm:gI (G.map (gI nets)) j=nets.getD (gN G j).toNat default:=by
    unfold gI
    rw [D7c,D8a,D7k hjl]
    have:(gN G j).toNat=G[j]:=by show (((G.getD j 0:Nat):Int)).toNat=_;rw [D7c,D7k hjl];rfl
    rw [this];rfl
   have hsum:IntKind.i64.wrap (A2 ((G.take j).map (gI nets))+nets.getD (gN G j).toNat default)=A2 ((G.take (j+1)).map (gI nets)):=by
    rw [hgt,G2] at hg2 ⊢
    have e1:A2 [gI nets (gN G j).toNat]=gI nets (gN G j).toNat:=by rw [L5];exact D9s _
    rw [e1] at hg2 ⊢
    exact A4 (show _≤A2 ((G.take j).map (gI nets))+gI nets (gN G j).toNat by omega) (show A2 ((G.take j).map (gI nets))+gI nets (gN G j).toNat≤_ by omega)
   conv=>whnf
   rw [show (x.1==x.1)=true from D9m _];conv=>whnf
   obtain ⟨s0,hw0,s1,hl0,hb1,y1,hy1,hq1⟩:=hR
   rw [hQn] at hq1
   have hsj:=hsortQ j hj
   rw [hQn] at hsj
   refine call (A9Y _ q fl2 (x.1,gN G j) (QJ G x.1 Rest (j+1)) _ hq1 (D8K.1 hsj).1) (fun v w' hv=>?_)
   obtain ⟨rfl,hq2⟩:=hv
   have hin:ROut (OQ bo q L false (QJ G x.1 Rest (j+1))) 3 1 (fun i=>eI (gN G i)) j s0 lv w':=⟨s1,hl0,hb1,y1,hy1,hq2⟩
   have hwv:wv=.emp∨∃ b,wv=.own 1 b 0 j:=ROut.head (show ROut (fun s t=>ROut (OQ bo q L false (QJ G x.1 Rest (j+1))) 3 1 (fun i=>eI (gN G i)) j s lv t) 2 1 (fun i=>eI (gI (G.map (gI nets)) i)) j st wv w' from ⟨s0,hw0,hin⟩)
   have hlv:=ROut.head hin
   obtain ⟨d1,d2,js,hpk2⟩:=B9f (QJ G x.1 Rest (j+1))
   have hB1:=B1z bo q L false (QJ G x.1 Rest (j+1))
   rcases hlv with rfl | ⟨bl,rfl⟩<;>rcases hwv with rfl | ⟨bw,rfl⟩
   all_goals
    conv=>whnf
    refine ⟨[2,3,8,9,10],[],[],.qui 0 (.qui 1 (.qui 4 (.qui 5 (.qui 6 (.qui 7 (.two 2 8 (.two 3 8 (.gen 8 (.gen 9 (.gen 10 (.qui 11 (.qui 12 .done))))) (.two 3 9 (.gen 9 (.gen 10 (.qui 11 (.qui 12 .done)))) (.gen 3 (.gen 10 (.qui 11 (.qui 12 .done)))))) (.two 2 9 (.two 3 9 (.gen 9 (.gen 10 (.qui 11 (.qui 12 .done)))) (.gen 3 (.gen 10 (.qui 11 (.qui 12 .done))))) (.gen 2 (.gen 3 (.gen 10 (.qui 11 (.qui 12 .done)))))))))))),by kernel_rfl,?_⟩;conv=>whnf
    refine E9 ?_
    repeat' (refine And.intro ?_ ?_<;>(conv=>whnf))
    all_goals
     refine ROut.app (q:=r3) hB1 rfl rfl rfl rfl rfl (f:=fun i=>eI (gN G i)) (by rfl) (by show (j+1) * 8≤140737488355328;omega) hin (fun lv' w2 hin2=>?_)
     have hout2:ROut (fun s t=>ROut (OQ bo q L false (QJ G x.1 Rest (j+1))) 3 1 (fun i=>eI (gN G i)) (j+1) s lv' t) 2 1 (fun i=>eI (gI (G.map (gI nets)) i)) j st _ w2:=⟨s0,hw0,hin2⟩
     conv=>whnf
     refine ROut.app (q:=r2) (W0 hB1 _ _ _ _ _) rfl rfl rfl rfl rfl (f:=fun i=>eI (gI (G.map (gI nets)) i)) (by show _=eI _;rw [hgm];rfl) (by show (j+1) * 8≤140737488355328;omega) hout2 (fun wv' w3 hout3=>?_);conv=>whnf
     refine E9 ?_
     rw [hsum]
     obtain ⟨s2,hw2,s3,hl3,hb3,y3,hy3,hq3⟩:=hout3
     have hpc:=C4Z _ q false _ _ hq3 (hsortQ (j+1) hjl)
     rw [hpk2] at hpc
     refine I3 hpc ?_
     refine G3 ?_
     exact nx hjl ⟨false,lv',wv',d1,d2,js,rfl,hpk2,⟨s2,hw2,s3,hl3,hb3,y3,hy3,hq3⟩⟩
  ·obtain rfl:j=G.length:=by omega
   rw [C3s] at hpk
   have hexit:(is&&(c1==x.1))=false:=by
    cases Rest with
    | nil=>obtain ⟨rfl,rfl,rfl⟩:=A9T hpk;rfl
    | cons r Rest=>obtain ⟨rfl,rfl,rfl⟩:=A9T hpk;exact hkey r (D7G ..)
   rw [D7m]
   have hM:=fun u=>B8V t (A2 (G.map (gI nets))) (-x.1) hrate u
   have hwn:IntKind.i64.wrap (0 - x.1) = -x.1:=(A4 (by omega) (by omega)).trans (by omega)
   case' neg=>cases is
   case' neg.true=>have hne:(c1==x.1)=false:=hexit
   case' neg.true=>conv=>whnf
   case' neg.true=>rw [hne]
   all_goals
    conv=>whnf
    rw [hwn]
    refine B2 (hM _) ?_
    generalize O3 t (A2 (G.map (gI nets))) (-x.1)=M at hparts
    conv=>whnf
    obtain ⟨w2,hsh,hR2⟩:=ROut.shift (W0 (B1z bo q L fl2 Rest) _ _ _ _ _) (show ROut (fun s t=>ROut (OQ bo q L fl2 Rest) 3 1 (fun i=>eI (gN G i)) G.length s lv t) 2 1 (fun i=>eI (gI (G.map (gI nets)) i)) G.length st wv w by rw [C3s] at hR;exact hR)
    have e0:AV.arr 1 G.length (fun i=>eI (gI (G.map (gI nets)) i))=A9 (G.map (gI nets)):=by unfold A9 A8;rw [D7i]
    rw [e0] at hsh
    refine E2 (args':=[eI M,A9 (G.map (gI nets))]) (A7.cons (A7.keep _ _) hsh) (B2 (hparts.2 _) ?_);conv=>whnf
    refine lp X.length [2,3,7,8,14,97,98,99] (fun j vs u=>vs=[A9 nets,.fptr (T7 t) 0,.own 1 bo 0 nets.length,.optr 1 q 0 0,lv,A9 X,eI X.length,eI j]∧ROut (OQ bo q (A4K L G X j) fl2 Rest) 3 1 (fun i=>eI (gN G i)) G.length st lv u) ?_ ?_
    ·conv=>whnf
     exact ⟨rfl,hR2⟩
    rintro j vs v hjx ⟨rfl,hR3⟩
    have hPl:=A8V L G X j
    have hdl:=hdone.1
    conv=>whnf
    cases h5:decide ((j:Int)<(X.length:Int))
    case' true =>
     have hj5:=D6 h5
     have hGj:=hGok j (by omega)
     obtain ⟨s0,hcl,h1o,yo,⟨fo,rfl,hfo⟩,h2o⟩:=hR3
     obtain ⟨b,g,h3,rfl,rfl,h4⟩:∃ b g,st b=none∧lv=.own 1 b 0 G.length∧s0=upd st b ⟨3,1,G.length,g⟩∧∀ k,k<G.length→g k=eI (gN G k):=by
      rcases hcl with ⟨h0,_⟩ | ⟨_,b,g,h3,h4,h5,h6⟩
      ·omega
      ·exact ⟨b,g,h3,h4,h5,h6⟩
     have hbb:b≠bo:=fun e=>by subst e;rw [A0] at h1o;cases h1o
     conv=>whnf
     refine E9 ?_
     refine E9 ?_
     refine ldV (h2o.sup b _ (by rw [B0 hbb];exact A0 ..)) rfl (by show 0+((j:Nat):Int).toNat<G.length;omega) (v:=eI (gN G j)) (by show g (0+((j:Nat):Int).toNat)=_;rw [show 0+((j:Nat):Int).toNat=j by omega];exact h4 j (by omega)) ?_;conv=>whnf
     refine E9 ?_
     refine stV (h2o.sup bo _ (A0 ..)) rfl (by show 0+(gN G j).toNat<(A4K L G X j).length;omega) (hfo (0+(gN G j).toNat) (by omega)) (by rfl) ?_;conv=>whnf
     refine G3 ?_
     have hset:IsL (A4K L G X (j+1)) ⟨2,1,(A4K L G X j).length,I6 fo (0+(gN G j).toNat) (eI (gI X (j:Int).toNat))⟩:=by
      have:=IsL.set (i:=(gN G j).toNat) (v:=gI X j) hfo
      rw [show 0+(gN G j).toNat=(gN G j).toNat by omega,show (j:Int).toNat=j by omega]
      exact this
     have hw2:=(C0d q fl2 Rest).write (y':=⟨2,1,(A4K L G X j).length,I6 fo (0+(gN G j).toNat) (eI (gI X (j:Int).toNat))⟩) h2o (A0 ..)
     rw [C5] at hw2
     exact nx hj5 ⟨by rw [B4 (by omega)],⟨_,hcl,h1o,_,hset,hw2⟩⟩
    obtain rfl:=B9 h5 hjx
    conv=>whnf
    refine G3 ?_
    have hfin:=ROut.dropped (B1z bo q (A4K L G X X.length) fl2 Rest) hR3
    rw [hparts.1] at hfin
    exact ⟨Rest.length,hmeas,_,fl2,A4K L G X G.length,by rw [hRest],rfl,hnext,by rw [hRest];exact hfin⟩
end Go.Proofs.YtaapofnkmpiknaaGreat
namespace Go.Proofs.YtaapofnkmpiknaaGreat
open Go Go.Ab
theorem B3z (p:B1) (id K:Int):A3l (X3 p id K):=by
 have hs:=(A3o p.scope).2
 have hp:=A5y p.parts
 have ht5:=(A3p p.tiers 5000 (.inl rfl)).2
 have ht6:=(A3p p.tiers 5 (.inr rfl)).2
 refine ⟨?_,?_,?_,?_,?_,?_,?_⟩
 ·have:=U9 (B6F id);show (idN id).size≤_;omega
 ·have:=(B0t p).2;show (A0V p).size≤_;omega
 ·have:=(B1F p).2;show (A2f p).size≤_;omega
 ·show A2A (if K=4∨K=7 then ⟨[],[]⟩ else Y8 p.scope)
  split
  ·exact A6j.2
  ·exact hs
 ·show (if K=4 then S6 p.parts else []).length≤_
  split
  ·omega
  ·exact D7C _
 ·show ∀ x∈(if K=4 then S6 p.parts else []),_
  split
  ·exact fun x hx=>(hp.2 x hx).2
  ·exact fun x hx=>absurd hx D8D
 ·show (if K=5 then S7 p.tiers 5000 else if K=6 then S7 p.tiers 5 else []).length≤_
  split
  ·omega
  ·split
   ·omega
   ·exact D7C _
theorem B7m (l:List K9) (k:Nat) (hk:k<3):B8l (D7 l k):=by
 have hn:=D7s.1 A8j k (D7t.2 hk)
 have hz:=U9 hn
 unfold D7
 split
 ·obtain ⟨h1,h2,h3⟩:=A8T (l.getD k default).rates
  generalize U4 (l.getD k default).rates=R at h1 h2 h3 ⊢
  exact ⟨by show R.length≤_;omega,by show (Q9 k).size≤_;omega,fun x hx=>by have:=(h2 x hx).2;show x.cat.size≤_;omega⟩
 ·exact ⟨by show 0≤_;decide,by show (Q9 k).size≤_;omega,fun x hx=>absurd hx D8D⟩
theorem B9j (t:Tax):B3M (L9 t):=by
 refine ⟨by show ((List.range 3).map _).length≤_;rw [D7i,D7F];decide,fun z hz=>?_⟩
 obtain ⟨k,hk,rfl⟩:=D7y.1 hz
 exact B7m _ k (D7t.1 hk)
theorem A8U (r:E0):A5b (F0 r):=by
 have h0:=A2C r.items
 have h2:=(A0W r.policy.order).2
 have h3:=(A0W r.policy.credit).2
 refine ⟨by show (G7 r.items).length≤_;omega,fun x hx=>?_,fun p hp=>?_,B9j r.tax,by show (O8 r.policy.order).length≤_;omega,by show (O8 r.policy.credit).length≤_;omega⟩
 ·have:=A7z hx
  exact ⟨by have:=this.2.1;show x.sku.size≤_;omega,by have:=this.2.2;show x.cat.size≤_;omega⟩
 ·obtain ⟨q,id,K,_,rfl⟩:=A6B hp
  exact B3z q id K
end Go.Proofs.YtaapofnkmpiknaaGreat
namespace Go.Proofs.YtaapofnkmpiknaaGreat
open Go Go.Ab
attribute [local irreducible] upd del
theorem ROut.own {R:St→St→Prop} {ty e n:Nat} {fo:Nat→AV} {s t:St} {sv:AV} (h:ROut R ty e fo (n+1) s sv t):∃ b,sv=.own e b 0 (n+1):=by
 obtain ⟨s0,⟨h1,_⟩ | ⟨_,b,_,_,h1,_⟩,h2⟩:=h
 ·cases h1
 ·exact ⟨b,h1⟩
theorem RD.wr {dl:List A2o} {gr:List C8} {dv gv:AV} {s t:St} {b:Nat} {y y':L7} (h:RD dl gr dv gv s t) (hb:s b=some y):RD dl gr dv gv (upd s b y') (upd t b y'):=(A3V dl gr dv gv).write h hb
theorem RD.sup {dl:List A2o} {gr:List C8} {dv gv:AV} {s t:St} (h:RD dl gr dv gv s t):F8 s t:=(A3V dl gr dv gv).sup h
theorem RD.start (s:St):RD [] [] .emp .emp s s:=ROut.start (ROut.start (F8.refl s) _ _ _) _ _ _
theorem RD.appG {dl:List A2o} {gr:List C8} {dv gv:AV} {s t:St} {y:C8} {x:AV} {k:KK} {g:Nat→AV} (h:RD dl gr dv gv s t) (hs:A0v 1 t x=some (1,g)) (hg:g 0=eS y) (hb:gr.length≤1000)
  (hk:∀ gv' t',RD dl (gr++[y]) dv gv' s t'→k gv' t'):A5V T 34 gv x t k:=by
 obtain ⟨s0,hc,h⟩:=h
 refine ROut.app (q:=r9) (f:=A7w (gr++[y])) Q1 rfl rfl rfl rfl hs (by rw [hg];simp only [A7w,A8D]) (by show (gr.length+1) * 16≤140737488355328;omega) (ROut.congr h fun k hk=>by simp only [A7w];rw [A4D hk]) (fun sv' t' h'=>hk sv' t' ⟨s0,hc,?_⟩)
 show ROut _ _ _ _ (gr++[y]).length _ _ _
 rw [D7p];exact h'
theorem RD.appD {dl:List A2o} {gr:List C8} {dv gv:AV} {s t:St} {y:A2o} {x:AV} {k:KK} {g:Nat→AV} (h:RD dl gr dv gv s t) (hs:A0v 2 t x=some (1,g)) (hg:g 0=C0l y) (hb:dl.length≤1000)
  (hk:∀ b t',RD (dl++[y]) gr (.own 2 b 0 (dl.length+1)) gv s t'→k (.own 2 b 0 (dl.length+1)) t'):A5V T 111 dv x t k:=by
 refine ROut.app (q:=C7A) (f:=A1S (dl++[y])) (A8v _ _) rfl rfl rfl rfl hs (by rw [hg];simp only [A1S,A8D]) (by show (dl.length+1) * 24≤140737488355328;omega) (ROut.congr h fun k hk=>by simp only [A1S];rw [A4D hk]) (fun sv' t' h'=>?_)
 obtain ⟨b,rfl⟩:=ROut.own h'
 exact hk b t' (RD.of h')
theorem RD.deals {dl:List A2o} {gr:List C8} {dv gv:AV} {s t:St} (h:RD dl gr dv gv s t):(dl=[]∧dv=.emp)∨∃ bd g,dv=.own 2 bd 0 dl.length∧s bd=none∧t bd=some ⟨221,2,dl.length,g⟩∧∀ k,k<dl.length→g k=A1S dl k:=by
 obtain ⟨s0,hc,hg0⟩:=h
 rcases hc with ⟨h0,h1,rfl⟩ | ⟨h0,b,g0,hb,h1,rfl,hgg⟩
 ·exact .inl ⟨D7O h0,h1⟩
 ·exact .inr ⟨b,g0,h1,hb,(A8v _ _).sup hg0 b _ (A0 ..),hgg⟩
theorem RD.groups {dl:List A2o} {gr:List C8} {dv gv:AV} {s t:St} (h:RD dl gr dv gv s t):(gv=.emp∧gr=[])∨∃ b g,gv=.own 1 b 0 gr.length∧t b=some ⟨9,1,gr.length,g⟩∧∀ k,k<gr.length→g k=eS (gr.getD k default):=by
 obtain ⟨s0,hc,s1,hc2,hs⟩:=h
 rcases hc2 with ⟨h0,h1,rfl⟩ | ⟨h0,b,g0,hb,h1,rfl,hgg⟩
 ·exact .inl ⟨h1,D7O h0⟩
 ·exact .inr ⟨b,g0,h1,hs b _ (A0 ..),hgg⟩
theorem B1M {σ : Type} (px : σ→PSt) (step : σ→B1→σ) (sm:B1→Bool) (l:List B1) (a : σ) (o:List Int) (x:Int):A0j px step sm l a (o++[x])=if sm (F6 l x)=true then goB px step (A0j px step sm l a o) (F6 l x) else A0j px step sm l a o:=by
 unfold A0j
 rw [D8Z,D9g]
 by_cases h:sm (F6 l x)=true
 ·rw [if_pos h,D8f (p:=fun x=>sm (F6 l x)) h];rfl
 ·rw [if_neg h,D8l (p:=fun x=>sm (F6 l x)) h];rfl
def named (l:List C8):List C8:=l.filter fun g=>!N7 g
theorem B2e (l:List C8) (g:C8):named (l++[g])=named l++(if N7 g=true then [] else [g]):=by
 unfold named
 rw [D8Z]
 congr 1
 cases h:N7 g
 ·rw [D8f (p:=fun g=>!N7 g) (by rw [h];rfl)];rfl
 ·rw [D8l (p:=fun g=>!N7 g) (by rw [h];simp)];rfl
theorem C5R (l:List C8) (g:C8):(!N7 g&&l.any fun y=>y.toList==g.toList)=!(N7 g||!inB (named l) g):=by
 cases hn:N7 g
 ·rw [D7K,D7u,D7R,D8v]
  unfold inB named
  rw [←D9l,D8N,D8N]
  constructor
  ·rintro ⟨y,h1,h2⟩
   refine ⟨y,D8d.2 ⟨h1,?_⟩,by rw [E0k];exact h2⟩
   unfold N7 at hn ⊢
   rw [eq_of_beq h2,hn];rfl
  ·rintro ⟨y,h1,h2⟩
   exact ⟨y,(D8d.1 h1).1,by rw [E0k];exact h2⟩
 ·rfl
theorem C8u {σ : Type} {px : σ→PSt} {step : σ→B1→σ} {a : σ} {pr:B1} {G:List C8} (hG:named G=(px a).groups) :
  goB px step a pr=if (!N7 pr.group&&G.any fun y=>y.toList==pr.group.toList)=true then a else step a pr:=by
 unfold goB
 rw [C5R,hG]
 cases (N7 pr.group||!inB (px a).groups pr.group)<;>rfl
theorem C6z {items:List Ab.Item} {p:PSt} {pr:B1} (hk:V0 pr=true) {G:List C8} (hG:named G=p.groups) :
  goB (fun p=>p) (A5i items) p pr=if (!N7 pr.group&&G.any fun y=>y.toList==pr.group.toList)=true then p else A5i items p pr:=C8u (px:=fun p=>p) hG
theorem C1R (l:List C8):(named l).length≤l.length:=D9D _ _
set_option maxHeartbeats 8000000 in
theorem C5f (r:E0) (codes:List C8) (l:List E6) (hf:X9 r) (hsm:A5b r) (hR:K1 r=true) (hcn:Sm codes.length) (hcs:∀ s∈codes,Sm s.size) (hln:Sm l.length) (st:St) :
  S P 115 [F4 r,D5 codes,A8 3 I7 l] st fun v st' =>
   v=(if D8 r codes l=0 then .tuple [A1t (A0q r l (W7 r.promos codes) (W7 r.promos codes)),eI 0] else .tuple [A1t ⟨[],0,0,[]⟩,eI (D8 r codes l)])∧st'=st:=by
 obtain ⟨X,hX⟩:∃ X,X=A0q r l (W7 r.promos codes) (W7 r.promos codes):=⟨_,rfl⟩
 refine S.post (post:=fun v st'=>(D8 r codes l≠0∧v=.tuple [.agg [.emp,eI 0,eI 0,.emp],eI (D8 r codes l)]∧F8 st st') ∨
   (D8 r codes l=0∧∃ bn fn dv,v=.tuple [.agg [.own 1 bn 0 l.length,eI X.net,eI X.ship,dv],eI 0] ∧
    st bn=none∧st' bn=some ⟨2,1,l.length,fn⟩∧(∀ k,k<l.length→fn k=eI (gI X.nets k))∧F8 st st' ∧
    ((X.deals=[]∧dv=.emp)∨∃ bd g,dv=.own 2 bd 0 X.deals.length∧st bd=none∧bd≠bn∧st' bd=some ⟨221,2,X.deals.length,g⟩∧∀ k,k<X.deals.length→g k=A1S X.deals k))) ?_
  (fun v st' hv=>by
   rcases hv with ⟨h1,rfl,hs⟩ | ⟨h1,bn,fn,dv,rfl,h4,h5,h6,hs,h7⟩
   ·refine ⟨_,st,⟨rfl,rfl⟩,?_⟩
    rw [if_neg h1]
    refine (hs.shift _).trans (A7.tuple (A7.cons (A7.agg ?_) (A7.keep _ _)) rfl)
    exact A7.cons (I5 1 _) (A7.cons (A7.keep [eI 0] _) (A7.cons (A7.keep [eI 0] _) (I5 2 _)))
   ·refine ⟨_,st,⟨rfl,rfl⟩,?_⟩
    rw [if_pos h1,←hX]
    refine A7.tuple (A7.cons (A7.agg ?_) (A7.keep _ _)) rfl
    have hnl:X.nets.length=l.length:=by rw [hX];show (Y5 _ _).length=_;unfold Y5;rw [D7i,D7F]
    clear hX
    have e1:A9 X.nets=.arr 1 l.length (fun k=>eI (gI X.nets k)):=by unfold A9 A8;rw [hnl]
    refine A7.cons (t:=del st' bn) ?_ (A7.cons (A7.keep [eI X.net] _) (A7.cons (A7.keep [eI X.ship] _) ?_))
    ·rw [e1];exact P1 h5 rfl (D7l _) h6
    ·rcases h7 with ⟨h8,rfl⟩ | ⟨bd,g,rfl,h8,h9,h10,h11⟩
     ·rw [h8]
      exact ((F8.del hs h4).shift _).trans (I5 2 _)
     ·refine (P1 (b:=bd) (y:=⟨221,2,X.deals.length,g⟩) (f:=A1S X.deals) (by rw [A2U h9];exact h10) rfl (D7l _) h11).trans ?_
      exact (F8.del (F8.del hs h4) h8).shift _)
 have hC:=hR
 unfold K1 B0A at hC
 simp only [D7f] at hC
 obtain ⟨⟨⟨⟨_,hpc⟩,_⟩,hfee,hfree⟩,_⟩:=hC
 rw [D3] at hfee hfree
 have hpk:D8 r codes l=if R6 codes=false then 2 else P5 (known r.items) l:=by unfold D8;rw [if_neg (by rw [hR];simp)]
 refine F7 [3,15,20] Tryz.func115 ?_
 intro b6 hb6;conv=>whnf
 refine I3 (B2D r hsm hR _) ?_
 refine B2 (B2A codes hcn hcs _) ?_
 have h6s:∀ x:L7,F8 st (upd st b6 x):=fun x=>(F8.refl st).upd hb6
 cases hcc:R6 codes
 ·rw [if_pos hcc] at hpk
  have hk0:D8 r codes l≠0:=by rw [hpk];decide
  conv=>whnf
  refine stW (A0 ..) rfl ?_
  refine L1 (A0 ..) (A6 ..) ?_
  exact .inl ⟨hk0,by rw [hpk];rfl,(h6s _).over hb6⟩
 rw [if_neg (by rw [hcc];simp)] at hpk;conv=>whnf
 refine B2 (C5d r.items l hsm.n hln _) ?_
 rw [←hpk];conv=>whnf
 cases h1:(D8 r codes l != 0)
 case true =>
  have hk0:D8 r codes l≠0:=by simpa using h1
  conv=>whnf
  refine stW (A0 ..) rfl ?_
  refine L1 (A0 ..) (A6 ..) ?_
  exact .inl ⟨hk0,rfl,(h6s _).over hb6⟩
 have hk0:D8 r codes l=0:=by simpa using h1
 have hck:=A6Y hk0
 have hli:=hck.lines
 have hlen:=hli.len
 have hus0:=B5Y hli
 have hitl:(C2 r.items l).length=l.length:=D7i ..
 obtain ⟨u1,u2,u3⟩:=A2P l hli.line l.length (D7l _)
 conv=>whnf
 refine ⟨[],[],List.range 13,by kernel_rfl,?_⟩;conv=>whnf
 refine cqW (C5j l hlen hli.line (eq_of_beq hli.may) hus0.ok.len _) ?_
 refine cqW (B7q r.items l hsm.n hlen hli.known _) ?_
 refine cqW (C2w r.promos codes hpc hcn _) ?_
 have hol:(W7 r.promos codes).length≤60:=by
  rw [(A4H _ _).length_eq]
  have:=A1C r.promos codes r.promos.length
  have:=hck.few;omega
 have hom:∀ x∈W7 r.promos codes,0≤x∧x.toNat<r.promos.length:=fun x hx=>A0U ((A4H _ _).mem_iff.1 hx)
 have hXd:X=⟨Y5 l.length (p1B r l (W7 r.promos codes)).us,O6 (p1B r l (W7 r.promos codes)),(p2B r l (p1B r l (W7 r.promos codes)) (W7 r.promos codes)).2,(p2B r l (p1B r l (W7 r.promos codes)) (W7 r.promos codes)).1.deals⟩:=hX
 clear hX
 generalize W7 r.promos codes=o at *
 generalize hs6:(upd st b6 _)=s6 at *
 have h6:s6 b6=some ⟨170,4,1,fun _=>I1 B9m.zero⟩:=by rw [←hs6];exact A0 ..
 have hst6:F8 st s6:=by rw [←hs6];exact h6s _
 clear hs6
 refine mkO rfl rfl rfl (by show 8 * l.length≤_;omega) (by omega) (by rfl) (fun bn hbn=>?_);conv=>whnf
 intro bp hbp
 have hnb:bn≠bp:=fun e=>by subst e;rw [A0] at hbp;cases hbp
 have hbp6:s6 bp=none:=by rw [B0 hnb.symm] at hbp;exact hbp
 have hb6p:b6≠bp:=fun e=>by subst e;rw [h6] at hbp6;cases hbp6
 have hb6n:b6≠bn:=fun e=>by subst e;rw [h6] at hbn;cases hbn
 have hstn:st bn=none:=hst6.none hbn
 have hstp:st bp=none:=hst6.none hbp6
 conv=>whnf
 refine stU (A0 ..) rfl ?_
 rw [C5];conv=>whnf
 have hat:∀ {dl:List A2o} {gr:List C8} {dv gv:AV} {Y Z:L7} {t:St},RD dl gr dv gv (upd (upd s6 bn Y) bp Z) t→t bn=some Y∧t bp=some Z:=fun h=>⟨h.sup bn _ (by rw [B0 hnb,A0]),h.sup bp _ (A0 ..)⟩
 have hwn:∀ {dl:List A2o} {gr:List C8} {dv gv:AV} {Y Z Y':L7} {t:St},RD dl gr dv gv (upd (upd s6 bn Y) bp Z) t→RD dl gr dv gv (upd (upd s6 bn Y') bp Z) (upd t bn Y'):=fun {_ _ _ _ Y Z Y' t} h=>by
  have:=h.wr (b:=bn) (y':=Y') (by rw [B0 hnb,A0])
  rw [R9 hnb.symm,C5] at this;exact this
 have hwp:∀ {dl:List A2o} {gr:List C8} {dv gv:AV} {Y Z Z':L7} {t:St},RD dl gr dv gv (upd (upd s6 bn Y) bp Z) t→RD dl gr dv gv (upd (upd s6 bn Y) bp Z') (upd t bp Z'):=fun {_ _ _ _ Y Z Z' t} h=>by
  have:=h.wr (b:=bp) (y':=Z') (A0 ..)
  rw [C5] at this;exact this
 have htk:∀ {i:Nat},i<o.length→o.take (i+1)=o.take i++[gI o i]:=fun h=>L6 h
 refine lp o.length [3,6,9,10,11,12,13,14] (fun i vs t=>∃ (p:PSt) (dv gv:AV) (G:List C8) (fp:Nat→AV),p=A0j (fun p=>p) (A5i (C2 r.items l)) V0 r.promos ⟨X6 l,[],[]⟩ (o.take i) ∧
   vs=[.fptr (F4 r) 0,.optr 4 b6 0 0,C4 p.us,A8 4 F2 (C2 r.items l),A9 o,.optr 4 bp 0 0,gv,eI i] ∧
   RD p.deals G dv gv (upd (upd s6 bn ⟨2,1,l.length,fun _=>I1 r2.zero⟩) bp ⟨170,4,1,fp⟩) t∧fp 0=.agg [.own 1 bn 0 l.length,eI 0,eI 0,dv] ∧
   named G=p.groups∧G.length≤i∧p.deals.length≤i∧A7t (C2 r.items l) p.us∧∃ x,Off (X6 l) p.us x) ?_ ?_
 ·conv=>whnf
  exact ⟨⟨X6 l,[],[]⟩,.emp,.emp,[],_,rfl,rfl,RD.start _,A6 ..,rfl,D7l _,D7l _,hus0,0,Off.refl hus0.ok⟩
 ·rintro i vs t hi ⟨p,dv,gv,G,fp,hp,rfl,hR,hfp,hG,hGn,hDn,hus,x,hoff⟩
  conv=>whnf
  cases hd:decide ((i:Int)<(o.length:Int))
  case true =>
   have hi':=D6 hd
   have hx:=hom _ (A5 hi')
   have hx0:0≤gI o (i:Int).toNat:=hx.1
   have hx1:(gI o (i:Int).toNat).toNat<r.promos.length:=hx.2
   have hpm:F6 r.promos (gI o i)∈r.promos:=A5 hx.2
   have hpr:F6 r.promos (gI o i)=r.promos.getD (gI o (i:Int).toNat).toNat default:=rfl
   have hps:PSm (F6 r.promos (gI o i)):=⟨hsm.promos _ hpm,hck.promo _ hpm,hf.fit _ hpm⟩
   have hnext:=B1M (fun p=>p) (A5i (C2 r.items l)) V0 r.promos ⟨X6 l,[],[]⟩ (o.take i) (gI o i)
   rw [←htk hi',←hp,hpr] at hnext
   rw [hpr] at hps;conv=>whnf
   refine ⟨[8,9],[1,5,7],List.range 10,by kernel_rfl,?_⟩;conv=>whnf
   refine ⟨_,fun s _=>⟨rfl,rfl⟩,?_⟩;conv=>whnf
   refine E9 ?_
   refine ⟨_,fun s _=>⟨rfl,rfl⟩,?_⟩;conv=>whnf
   refine ⟨rfl,⟨by show 0≤gI o (i:Int).toNat;omega,by show gI o (i:Int).toNat<(r.promos.length:Int);omega⟩,?_⟩;conv=>whnf
   refine ⟨_,fun s _=>⟨rfl,rfl⟩,?_⟩;conv=>whnf
   generalize r.promos.getD (gI o (i:Int).toNat).toNat default=pr at *
   have hend:∀ {q:PSt} {dv' gv':AV} {G':List C8} {fp':Nat→AV} {t':St},q=A0j (fun p=>p) (A5i (C2 r.items l)) V0 r.promos ⟨X6 l,[],[]⟩ (o.take (i+1))→RD q.deals G' dv' gv' (upd (upd s6 bn ⟨2,1,l.length,fun _=>I1 r2.zero⟩) bp ⟨170,4,1,fp'⟩) t'→fp' 0=.agg [.own 1 bn 0 l.length,eI 0,eI 0,dv'] →
     named G'=q.groups→G'.length≤i+1→q.deals.length≤i+1→A7t (C2 r.items l) q.us→(∃ x,Off (X6 l) q.us x)→∃ (p:PSt) (dv gv:AV) (G:List C8) (fp:Nat→AV),p=A0j (fun p=>p) (A5i (C2 r.items l)) V0 r.promos ⟨X6 l,[],[]⟩ (o.take (i+1)) ∧
     [.fptr (F4 r) 0,.optr 4 b6 0 0,C4 q.us,A8 4 F2 (C2 r.items l),A9 o,.optr 4 bp 0 0,gv',eI (IntKind.i64.wrap ((i:Int)+1))]=[.fptr (F4 r) 0,.optr 4 b6 0 0,C4 p.us,A8 4 F2 (C2 r.items l),A9 o,.optr 4 bp 0 0,gv,eI ((i+1:Nat):Int)] ∧
     RD p.deals G dv gv (upd (upd s6 bn ⟨2,1,l.length,fun _=>I1 r2.zero⟩) bp ⟨170,4,1,fp⟩) t'∧fp 0=.agg [.own 1 bn 0 l.length,eI 0,eI 0,dv] ∧
     named G=p.groups∧G.length≤i+1∧p.deals.length≤i+1∧A7t (C2 r.items l) p.us∧∃ x,Off (X6 l) p.us x:=fun {q dv' gv' G' fp' t'} h1 h2 h3 h4 h5 h6 h7 h8=>⟨q,dv',gv',G',fp',h1,by rw [B4 (by omega)],h2,h3,h4,h5,h6,h7,h8⟩
   cases h7:(pr.kind==7)
   case true =>
    rw [if_neg (by unfold V0;rw [h7];simp)] at hnext;conv=>whnf
    refine G3 ?_
    exact nx hi' (hend hnext.symm hR hfp hG (by omega) (by omega) hus ⟨x,hoff⟩)
   case false =>
    have hns:V0 pr=true:=by unfold V0;rw [h7];rfl
    rw [if_pos hns,C6z hns hG] at hnext;conv=>whnf
    refine B2 (B7C G pr.group (by omega) gv _ hR.groups) ?_
    cases htk:(!N7 pr.group&&G.any fun y=>y.toList==pr.group.toList)
    case true =>
     rw [if_pos htk] at hnext;conv=>whnf
     refine G3 ?_
     exact nx hi' (hend hnext.symm hR hfp hG (by omega) (by omega) hus ⟨x,hoff⟩)
    case false =>
     rw [if_neg (by rw [htk];simp)] at hnext
     have hk7:pr.kind≠7:=by simpa using h7
     obtain ⟨y,hoy⟩:=B6m hus hps.fit hps.right hk7
     have hus2:=hus.off hoy
     have hof2:=hoff.trans hoy
     rw [←hnext] at hus2 hof2
     have hAs:A5i (C2 r.items l) p pr=if (A0x (C2 r.items l) p.us pr).2>0 then A2c ⟨(A0x (C2 r.items l) p.us pr).1,p.deals,p.groups⟩ pr (A0x (C2 r.items l) p.us pr).2 else p:=rfl
     conv=>whnf
     refine call (D0d (C2 r.items l) p.us pr hps hk7 hus _) (fun v t' hv=>?_)
     obtain ⟨⟨z,rfl,hz⟩,rfl⟩:=hv
     conv=>whnf
     cases hgt:decide ((A0x (C2 r.items l) p.us pr).2>0)
     case false =>
      rw [if_neg (D7g hgt)] at hAs
      rw [hAs] at hnext;conv=>whnf
      refine G3 ?_
      exact nx hi' (hend hnext.symm hR hfp hG (by omega) (by omega) hus ⟨x,hoff⟩)
     case true =>
      have hgt':=D7h hgt
      rw [if_pos hgt'] at hAs
      rw [hAs] at hnext
      obtain rfl:=hz hgt'
      conv=>whnf
      refine RD.appG (y:=pr.group) hR rfl rfl (by omega) (fun gv' t1 hR1=>?_);conv=>whnf
      have hdv:=ROut.head hR1
      rcases hdv with rfl | ⟨bo,rfl⟩
      all_goals
       refine L1 (hat hR1).2 hfp ?_
       refine RD.appD (y:=⟨pr.id,(A0x (C2 r.items l) p.us pr).2⟩) hR1 rfl (by rfl) (by omega) (fun bd t2 hR2=>?_);conv=>whnf
       refine stW (hat hR2).2 hfp ?_
       refine G3 ?_
       refine nx hi' ?_
       have hD:(A2c ⟨(A0x (C2 r.items l) p.us pr).1,p.deals,p.groups⟩ pr (A0x (C2 r.items l) p.us pr).2).deals=p.deals++[⟨pr.id,(A0x (C2 r.items l) p.us pr).2⟩]:=rfl
       have hGr:(A2c ⟨(A0x (C2 r.items l) p.us pr).1,p.deals,p.groups⟩ pr (A0x (C2 r.items l) p.us pr).2).groups=p.groups++(if N7 pr.group=true then [] else [pr.group]):=rfl
       have hUs:(A2c ⟨(A0x (C2 r.items l) p.us pr).1,p.deals,p.groups⟩ pr (A0x (C2 r.items l) p.us pr).2).us=(A0x (C2 r.items l) p.us pr).1:=rfl
       rw [hnext] at hus2 hof2
       exact hend (G':=G++[pr.group]) hnext.symm (hwp hR2) (A6 ..) (by rw [B2e,hG];rfl) (by rw [D7p];show G.length+1≤_;omega) (by rw [hD,D7p];show p.deals.length+1≤_;omega) hus2 ⟨_,hof2⟩
  case false =>
   obtain rfl:=B9 hd hi
   rw [D7m] at hp
   have hp1:p1B r l o=p:=hp.symm
   rw [hp1] at hXd
   clear hp1 hp
   have hu1:=hus.ok
   have hul:=hu1.len
   have hus1:=hu1.sum
   have hnet0:=C1 hu1.nets0
   have hline:∀ k,k<p.us.length→0≤(gU p.us k).line∧(gU p.us k).line.toNat<l.length:=fun k hk=>by
    have:=hus.line _ (A5 hk)
    rw [hitl] at this;exact this
   have hul1:p.us.length=(X6 l).length:=hoff.len
   conv=>whnf
   refine lp p.us.length [3,6,9,11,12,13,18] (fun k vs t=>∃ (fn fp:Nat→AV),vs=[.fptr (F4 r) 0,.optr 4 b6 0 0,C4 p.us,A9 o,.optr 4 bp 0 0,gv,eI k] ∧
    RD p.deals G dv gv (upd (upd s6 bn ⟨2,1,l.length,fn⟩) bp ⟨170,4,1,fp⟩) t∧fp 0=.agg [.own 1 bn 0 l.length,eI (A2 ((D9 p.us).take k)),eI 0,dv]∧∀ j,j<l.length→fn j=eI (G4 (p.us.take k) j)) ?_ ?_
   ·conv=>whnf
    exact ⟨_,fp,rfl,hR,hfp,fun j _=>rfl⟩
   ·clear hR hfp fp
    rintro k vs t hk ⟨fn,fp,rfl,hR,hfp,hfn⟩
    obtain ⟨htn,htp⟩:=hat hR
    conv=>whnf
    cases hd2:decide ((k:Int)<(p.us.length:Int))
    case true =>
     have hk':=D6 hd2
     have hlk:0≤(gU p.us (k:Int).toNat).line∧(gU p.us (k:Int).toNat).line.toNat<l.length:=hline k hk'
     have hn0:0≤(gU p.us k).net:=hu1.at0 k
     have hn1:(gU p.us k).net≤10000000000000:=hu1.le (A5 hk')
     have e1:=K4 (l:=D9 p.us) (i:=k) (by rw [D7i];exact hk')
     have e4:gI (D9 p.us) k=(gU p.us k).net:=D4 B3.net p.us hk'
     have e2:=N5 hu1.nets0 (k+1)
     have e3:=C1 (l:=(D9 p.us).take k) (fun x hx=>hu1.nets0 x (D8e _ _ hx))
     have hlb:=A1k hu1 k (gU p.us (k:Int).toNat).line.toNat
     have hlb2:=A1k hu1 (k+1) (gU p.us (k:Int).toNat).line.toNat
     have hln1:G4 (p.us.take (k+1)) (gU p.us (k:Int).toNat).line.toNat=G4 (p.us.take k) (gU p.us (k:Int).toNat).line.toNat+(gU p.us (k:Int).toNat).net:=(A0c hk' (gU p.us k).line.toNat).trans (if_pos rfl)
     have hfl:fn (0+(gU p.us (k:Int).toNat).line.toNat)=eI (G4 (p.us.take k) (gU p.us (k:Int).toNat).line.toNat):=by rw [D7o];exact hfn _ hlk.2
     have w1:IntKind.i64.wrap (G4 (p.us.take k) (gU p.us (k:Int).toNat).line.toNat+(gU p.us (k:Int).toNat).net)=G4 (p.us.take (k+1)) (gU p.us (k:Int).toNat).line.toNat:=by rw [hln1];exact A4 (by omega) (by omega)
     have w2:IntKind.i64.wrap (A2 ((D9 p.us).take k)+(gU p.us (k:Int).toNat).net)=A2 ((D9 p.us).take (k+1)):=by rw [e1,e4];exact A4 (by omega) (by omega)
     conv=>whnf
     refine ⟨[23],[],List.range 24,by kernel_rfl,?_⟩;conv=>whnf
     refine L1 htp hfp ?_
     refine E9 ?_
     refine L1 htp hfp ?_
     refine E9 ?_
     refine ⟨rfl,⟨by show 0≤(gU p.us (k:Int).toNat).line;exact hlk.1,by show (gU p.us (k:Int).toNat).line<(l.length:Int);have:=hlk.2;have:=hlk.1;omega⟩,?_⟩;conv=>whnf
     refine ldV htn rfl (by show 0+(gU p.us (k:Int).toNat).line.toNat<_;have:=hlk.2;omega) hfl ?_;conv=>whnf
     refine E9 ?_
     refine ⟨rfl,⟨by show 0≤(gU p.us (k:Int).toNat).line;exact hlk.1,by show (gU p.us (k:Int).toNat).line<(l.length:Int);have:=hlk.2;have:=hlk.1;omega⟩,?_⟩;conv=>whnf
     refine stV htn rfl (by show 0+(gU p.us (k:Int).toNat).line.toNat<_;have:=hlk.2;omega) hfl (by rfl) ?_
     have hP5:=hwn (Y':=⟨2,1,l.length,I6 fn (0+(gU p.us (k:Int).toNat).line.toNat) (eI (G4 (p.us.take (k+1)) (gU p.us (k:Int).toNat).line.toNat))⟩) hR
     rw [←w1] at hP5
     obtain ⟨_,htp2⟩:=hat hP5
     conv=>whnf
     refine ⟨[9],[],List.range 10,by kernel_rfl,?_⟩;conv=>whnf
     refine L1 htp2 hfp ?_
     refine E9 ?_
     refine stW htp2 hfp ?_
     refine G3 ?_
     refine nx hk' ⟨_,_,by rw [B4 (by omega)],hwp hP5,?_,fun j hj=>?_⟩
     ·rw [A6,←w2];rfl
     ·show I6 fn (0+(gU p.us (k:Int).toNat).line.toNat) _ j=_
      rw [D7o]
      by_cases hj2:j=(gU p.us (k:Int).toNat).line.toNat
      ·subst hj2
       rw [A6,w1]
      ·rw [H7 hj2,A0c hk' j,if_neg (fun e=>hj2 e.symm)];exact hfn j hj
    case false =>
     obtain rfl:=B9 hd2 hk
     rw [D7m] at hfn
     have htk2:(D9 p.us).take p.us.length=D9 p.us:=by rw [←D7i (f:=B3.net),D7m]
     rw [htk2] at hfp
     change fp 0=.agg [.own 1 bn 0 l.length,eI (O6 p),eI 0,dv] at hfp
     have hF:A1y r.ship (X6 l).length (O6 p)=if ((p.us.length:Int)=0∨(r.ship.free>0∧O6 p≥r.ship.free)) then 0 else r.ship.fee:=by unfold A1y;rw [hul1]
     have hnb0:0≤O6 p:=hnet0
     conv=>whnf
     refine B7 (fun g1=>?_) (fun g1=>?_)<;>rw [g1]<;>simp only [D7d,D7e] at g1
     case' refine_1 =>
      conv=>whnf
      refine B7 (fun g2=>?_) (fun g2=>?_)<;>rw [g2]<;>simp only [D7Z,D7P,ne_eq] at g2
     case' refine_1.refine_1 =>
      conv=>whnf
      refine stU htp hfp ?_
      have hR3:=hwp (Z':=⟨170,4,1,I6 fp 0 (.agg [.own 1 bn 0 l.length,eI (O6 p),eI r.ship.fee,dv])⟩) hR
      have hfp3:I6 fp 0 (.agg [.own 1 bn 0 l.length,eI (O6 p),eI r.ship.fee,dv]) 0=.agg [.own 1 bn 0 l.length,eI (O6 p),eI (A1y r.ship (X6 l).length (O6 p)),dv]:=by rw [A6,hF,if_neg (by omega)]
     case' refine_1.refine_2 =>
      conv=>whnf
      refine L1 htp hfp ?_
      refine B7 (fun g3=>?_) (fun g3=>?_)<;>rw [g3]<;>simp only [D7d,D7e] at g3
     case' refine_1.refine_2.refine_1 =>
      conv=>whnf
      refine stU htp hfp ?_
      have hR3:=hwp (Z':=⟨170,4,1,I6 fp 0 (.agg [.own 1 bn 0 l.length,eI (O6 p),eI r.ship.fee,dv])⟩) hR
      have hfp3:I6 fp 0 (.agg [.own 1 bn 0 l.length,eI (O6 p),eI r.ship.fee,dv]) 0=.agg [.own 1 bn 0 l.length,eI (O6 p),eI (A1y r.ship (X6 l).length (O6 p)),dv]:=by rw [A6,hF,if_neg (by omega)]
     case' refine_1.refine_2.refine_2 =>
      have hR3:=hR
      have hfp3:fp 0=.agg [.own 1 bn 0 l.length,eI (O6 p),eI (A1y r.ship (X6 l).length (O6 p)),dv]:=by rw [hfp,hF,if_pos (by omega)]
     case' refine_2 =>
      have hR3:=hR
      have hfp3:fp 0=.agg [.own 1 bn 0 l.length,eI (O6 p),eI (A1y r.ship (X6 l).length (O6 p)),dv]:=by rw [hfp,hF,if_pos (by omega)]
     all_goals
      conv=>whnf
      clear hR hfp hF
      have hfeB:0≤A1y r.ship (X6 l).length (O6 p)∧A1y r.ship (X6 l).length (O6 p)≤10000000000000:=by
       unfold A1y;split<;>omega
      refine lp o.length [3,6,11,12,13,19] (fun i vs t=>∃ (a:PSt×Int) (dv gv:AV) (G:List C8) (fp:Nat→AV),a=A0j (fun a=>a.1) (X0 (O6 p)) A0D r.promos (p,A1y r.ship (X6 l).length (O6 p)) (o.take i) ∧
       vs=[.fptr (F4 r) 0,.optr 4 b6 0 0,A9 o,.optr 4 bp 0 0,gv,eI i] ∧
       RD a.1.deals G dv gv (upd (upd s6 bn ⟨2,1,l.length,fn⟩) bp ⟨170,4,1,fp⟩) t∧fp 0=.agg [.own 1 bn 0 l.length,eI (O6 p),eI a.2,dv] ∧
       named G=a.1.groups∧G.length≤60+i∧a.1.deals.length≤60+i∧0≤a.2∧a.2≤10000000000000) ?_ ?_
      ·conv=>whnf
       exact ⟨(p,A1y r.ship (X6 l).length (O6 p)),dv,gv,G,_,rfl,rfl,hR3,hfp3,hG,by omega,by show p.deals.length≤_;omega,hfeB⟩
      clear hR3 hfp3 hG hGn hDn htp htn hd hd2 hk hi
      rintro i vs t hi ⟨a,dv,gv,G,fp,ha,rfl,hR,hfp,hG,hGn,hDn,ha0,ha1⟩
      obtain ⟨htn,htp⟩:=hat hR
      conv=>whnf
      cases hd:decide ((i:Int)<(o.length:Int))
      case false =>
       obtain rfl:=B9 hd hi
       rw [D7m] at ha
       have hp2:p2B r l p o=a:=ha.symm
       rw [hp2] at hXd
       have h6b:t b6=some ⟨170,4,1,fun _=>I1 B9m.zero⟩:=hR.sup b6 _ (by rw [B0 hb6p,B0 hb6n];exact h6)
       have h76:F8 s6 t:=fun c x hc=>hR.sup c x (by
        have e1:c≠bp:=fun e=>by subst e;rw [hbp6] at hc;cases hc
        have e2:c≠bn:=fun e=>by subst e;rw [hbn] at hc;cases hc
        rw [B0 e1,B0 e2];exact hc)
       have hS2:F8 st t:=hst6.trans h76
       have hnets:∀ k,k<l.length→fn k=eI (gI X.nets k):=fun k hk=>by
        rw [hXd,hfn k hk]
        show eI _=eI (gI (Y5 l.length p.us) k)
        unfold Y5
        rw [N3 _ hk]
       conv=>whnf
       rcases hR.deals with ⟨hd0,rfl⟩ | ⟨bd,gd,rfl,hbd,hbt,hgd⟩
       ·refine L1 htp hfp ?_
        refine stW h6b rfl ?_
        refine L1 (A0 ..) (A6 ..) ?_
        exact .inr ⟨hk0,bn,fn,.emp,by rw [hXd];rfl,hstn,by rw [B0 hb6n.symm];exact htn,hnets,hS2.over hb6,.inl ⟨by rw [hXd];exact hd0,rfl⟩⟩
       ·have hbdp:bd≠bp:=fun e=>by subst e;rw [A0] at hbd;cases hbd
        rw [B0 hbdp] at hbd
        have hbdn:bd≠bn:=fun e=>by subst e;rw [A0] at hbd;cases hbd
        rw [B0 hbdn] at hbd
        have hbd6:bd≠b6:=fun e=>by subst e;rw [h6] at hbd;cases hbd
        refine L1 htp hfp ?_
        refine stW h6b rfl ?_
        refine L1 (A0 ..) (A6 ..) ?_
        exact .inr ⟨hk0,bn,fn,.own 2 bd 0 a.1.deals.length,by rw [hXd];rfl,hstn,by rw [B0 hb6n.symm];exact htn,hnets,hS2.over hb6,.inr ⟨bd,gd,by rw [hXd],hst6.none hbd,hbdn,by rw [B0 hbd6,hXd];exact hbt,by rw [hXd];exact hgd⟩⟩
      case true =>
       have hi':=D6 hd
       have hx:=hom _ (A5 hi')
       have hx0:0≤gI o (i:Int).toNat:=hx.1
       have hx1:(gI o (i:Int).toNat).toNat<r.promos.length:=hx.2
       have hpm:(r.promos.getD (gI o (i:Int).toNat).toNat default)∈r.promos:=A5 hx.2
       have hpc1:I0 (r.promos.getD (gI o (i:Int).toNat).toNat default)=true:=hck.promo _ hpm
       have hnext:A0j (fun a=>a.1) (X0 (O6 p)) A0D r.promos (p,A1y r.ship (X6 l).length (O6 p)) (o.take (i+1))=if A0D (r.promos.getD (gI o (i:Int).toNat).toNat default)=true then goB (fun a=>a.1) (X0 (O6 p)) a (r.promos.getD (gI o (i:Int).toNat).toNat default) else a:=by
        rw [htk hi',B1M,←ha];rfl
       have hend:∀ {q:PSt×Int} {dv' gv':AV} {G':List C8} {fp':Nat→AV} {t':St},q=A0j (fun a=>a.1) (X0 (O6 p)) A0D r.promos (p,A1y r.ship (X6 l).length (O6 p)) (o.take (i+1))→RD q.1.deals G' dv' gv' (upd (upd s6 bn ⟨2,1,l.length,fn⟩) bp ⟨170,4,1,fp'⟩) t'→fp' 0=.agg [.own 1 bn 0 l.length,eI (O6 p),eI q.2,dv'] →
         named G'=q.1.groups→G'.length≤60+(i+1)→q.1.deals.length≤60+(i+1)→0≤q.2∧q.2≤10000000000000→∃ (a:PSt×Int) (dv gv:AV) (G:List C8) (fp:Nat→AV),a=A0j (fun a=>a.1) (X0 (O6 p)) A0D r.promos (p,A1y r.ship (X6 l).length (O6 p)) (o.take (i+1)) ∧
         [.fptr (F4 r) 0,.optr 4 b6 0 0,A9 o,.optr 4 bp 0 0,gv',eI (IntKind.i64.wrap ((i:Int)+1))]=[.fptr (F4 r) 0,.optr 4 b6 0 0,A9 o,.optr 4 bp 0 0,gv,eI ((i+1:Nat):Int)] ∧
         RD a.1.deals G dv gv (upd (upd s6 bn ⟨2,1,l.length,fn⟩) bp ⟨170,4,1,fp⟩) t'∧fp 0=.agg [.own 1 bn 0 l.length,eI (O6 p),eI a.2,dv] ∧
         named G=a.1.groups∧G.length≤60+(i+1)∧a.1.deals.length≤60+(i+1)∧0≤a.2∧a.2≤10000000000000:=fun {q dv' gv' G' fp' t'} h1 h2 h3 h4 h5 h6 h7=>⟨q,dv',gv',G',fp',h1,by rw [B4 (by omega)],h2,h3,h4,h5,h6,h7⟩
       conv=>whnf
       refine ⟨[8,9],[1,5,7],List.range 10,by kernel_rfl,?_⟩;conv=>whnf
       refine ⟨_,fun s _=>⟨rfl,rfl⟩,?_⟩;conv=>whnf
       refine E9 ?_
       refine ⟨_,fun s _=>⟨rfl,rfl⟩,?_⟩;conv=>whnf
       refine ⟨rfl,⟨by show 0≤gI o (i:Int).toNat;omega,by show gI o (i:Int).toNat<(r.promos.length:Int);omega⟩,?_⟩;conv=>whnf
       refine ⟨_,fun s _=>⟨rfl,rfl⟩,?_⟩;conv=>whnf
       generalize r.promos.getD (gI o (i:Int).toNat).toNat default=pr at *
       rw [show (pr.kind != 7)=!(pr.kind==7) from rfl]
       cases h7:(pr.kind==7)
       case false =>
        rw [if_neg (by unfold A0D;rw [h7];simp)] at hnext;conv=>whnf
        refine G3 ?_
        exact nx hi' (hend hnext.symm hR hfp hG (by omega) (by omega) ⟨ha0,ha1⟩)
       case true =>
        have hns:A0D pr=true:=by unfold A0D;rw [h7]
        rw [if_pos hns,C8u hG] at hnext;conv=>whnf
        refine B2 (B7C G pr.group (by omega) gv _ hR.groups) ?_
        cases htk2:(!N7 pr.group&&G.any fun y=>y.toList==pr.group.toList)
        case true =>
         rw [if_pos htk2] at hnext;conv=>whnf
         refine G3 ?_
         exact nx hi' (hend hnext.symm hR hfp hG (by omega) (by omega) ⟨ha0,ha1⟩)
        case false =>
         rw [if_neg (by rw [htk2];simp)] at hnext
         have hgl:=C1R G
         rw [hG] at hgl
         have hinv:=B4e (net:=O6 p) (n:=0) hpc1 hns (a:=a) ⟨by omega,by omega,ha0,ha1⟩
         have hS0:X0 (O6 p) a pr=((A7B a.1 pr (O6 p) a.2).2,(A7B a.1 pr (O6 p) a.2).1):=rfl
         have hSB:A7B a.1 pr (O6 p) a.2=if O6 p<pr.least then (a.2,a.1) else (a.2 - J9 a.2 pr.rate,if J9 a.2 pr.rate>0 then A2c a.1 pr (J9 a.2 pr.rate) else a.1):=rfl
         rw [hS0] at hnext hinv;conv=>whnf
         refine L1 htp hfp ?_
         cases hgt:decide (pr.least>O6 p)
         case true =>
          have hgt':=D7h hgt
          rw [hSB,if_pos hgt'] at hnext;conv=>whnf
          refine G3 ?_
          exact nx hi' (hend (q:=a) hnext.symm hR hfp hG (by omega) (by omega) ⟨ha0,ha1⟩)
         case false =>
          have hgt':=D7g hgt
          rw [if_neg (by omega)] at hSB
          have hb:=U7 a.2 pr.rate
          have hr0:=(A4b hpc1).ship (by simpa using h7)
          have hle:=A5B ha0 (show 0≤pr.rate by omega) hr0.2
          have hw:IntKind.i64.wrap (a.2 - J9 a.2 pr.rate)=a.2 - J9 a.2 pr.rate:=A4 (by omega) (by omega)
          conv=>whnf
          refine L1 htp hfp ?_
          refine I3 (A9b a.2 pr.rate _) ?_
          cases hgh:decide (J9 a.2 pr.rate>0)
          case false =>
           have hgh':=D7g hgh
           rw [if_neg hgh'] at hSB
           rw [hSB,show a.2 - J9 a.2 pr.rate=a.2 by omega] at hnext;conv=>whnf
           refine G3 ?_
           exact nx hi' (hend (q:=a) hnext.symm hR hfp hG (by omega) (by omega) ⟨ha0,ha1⟩)
          case true =>
           have hgh':=D7h hgh
           rw [if_pos hgh'] at hSB
           rw [hSB] at hnext hinv;conv=>whnf
           refine ⟨[1,6,7,8,10],[],[],.qui 0 (.qui 2 (.qui 4 (.qui 5 (.two 1 6 (.qui 3 (.qui 9 (.gen 6 (.gen 7 (.gen 8 (.gen 10 (.qui 11 .done))))))) (.two 1 7 (.qui 3 (.qui 9 (.gen 7 (.gen 8 (.gen 10 (.qui 11 .done)))))) (.two 1 8 (.qui 3 (.qui 9 (.gen 8 (.gen 10 (.qui 11 .done))))) (.gen 1 (.qui 3 (.qui 9 (.gen 10 (.qui 11 .done))))))))))),by kernel_rfl,?_⟩;conv=>whnf
           repeat' (refine And.intro ?_ ?_<;>(conv=>whnf))
           all_goals first
            | (refine ldV htp rfl (by omega) hfp ?_
               conv=>whnf
               refine RD.appG (y:=pr.group) hR rfl rfl (by omega) (fun gv' t1 hR1=>?_))
            | (refine RD.appG (y:=pr.group) hR rfl rfl (by omega) (fun gv' t1 hR1=>?_)
               conv=>whnf
               refine ldV (hat hR1).2 rfl (by omega) hfp ?_)
           all_goals
            conv=>whnf
            refine stU (hat hR1).2 hfp ?_
            have hR2:=hwp (Z':=⟨170,4,1,I6 fp 0 (.agg [.own 1 bn 0 l.length,eI (O6 p),eI (IntKind.i64.wrap (a.2 - J9 a.2 pr.rate)),dv])⟩) hR1
            rcases ROut.head hR2 with rfl | ⟨bo,rfl⟩
            all_goals
             conv=>whnf
             refine L1 (hat hR2).2 (A6 ..) ?_
             refine RD.appD (y:=⟨pr.id,J9 a.2 pr.rate⟩) hR2 rfl (by rfl) (by omega) (fun bd t2 hR3=>?_);conv=>whnf
             refine stW (hat hR3).2 (A6 ..) ?_
             refine G3 ?_
             refine nx hi' ?_
             exact hend (q:=(A2c a.1 pr (J9 a.2 pr.rate),a.2 - J9 a.2 pr.rate)) (G':=G++[pr.group]) hnext.symm (hwp hR3) (by rw [A6,hw];rfl) (by rw [B2e,hG];rfl) (by rw [D7p];show G.length+1≤_;omega) (by show (a.1.deals++[_]).length≤_;rw [D7p];show a.1.deals.length+1≤_;omega) ⟨by show 0≤a.2 - J9 a.2 pr.rate;omega,by show a.2 - J9 a.2 pr.rate≤_;omega⟩
end Go.Proofs.YtaapofnkmpiknaaGreat
namespace Go.Proofs.YtaapofnkmpiknaaGreat
open Go Go.Ab
abbrev C4D (l:List B1) (xs:List (Int×Int)):List A2o:=xs.map fun a=>(⟨(F6 l a.1).id,a.2⟩:A2o)
abbrev B1P (l:List B1) (xs:List (Int×Int)):List C8:=(xs.map fun a=>(F6 l a.1).group).filter fun g=>!N7 g
structure Tr (l:List B1) (p:PSt) (xs:List (Int×Int)):Prop where
 deals:p.deals=C4D l xs
 groups:p.groups=B1P l xs
 pos:∀ a∈xs,1≤a.2
 apart:p.groups.Pairwise fun x y=>(y.toList==x.toList)=false
theorem Tr.start (l:List B1) (us:List B3):Tr l ⟨us,[],[]⟩ []:=⟨rfl,rfl,fun a h=>absurd h D8D,.nil⟩
def B4J {σ : Type} (px : σ→PSt) (step : σ→B1→σ) (sm:B1→Bool) (l:List B1) (Q : σ→Int→Prop):Prop :=
 ∀ (a : σ) (s:Int) (pr:B1),pr∈l→sm pr=true→Q a s →
  ((px (step a pr)).deals=(px a).deals∧(px (step a pr)).groups=(px a).groups∧Q (step a pr) s) ∨
  ∃ off,1≤off∧(px (step a pr)).deals=(px a).deals++[⟨pr.id,off⟩]∧(px (step a pr)).groups=(px a).groups++(if N7 pr.group=true then [] else [pr.group])∧Q (step a pr) (s+off)
theorem C8e {σ : Type} {px : σ→PSt} {step : σ→B1→σ} {sm:B1→Bool} {l:List B1} {Q : σ→Int→Prop} (hstep:B4J px step sm l Q) :
  ∀ (f:List Int) (a : σ) (xs:List (Int×Int)) (s:Int),(∀ x∈f,x.toNat<l.length∧sm (F6 l x)=true)→Tr l (px a) xs→Q a s →
   ∃ ys,Tr l (px (f.foldl (fun a x=>goB px step a (F6 l x)) a)) (xs++ys)∧(ys.map Prod.fst).Sublist f∧Q (f.foldl (fun a x=>goB px step a (F6 l x)) a) (s+A2 (ys.map Prod.snd)):=by
 intro f
 induction f with
 | nil=>intro a xs s _ ht hq;exact ⟨[],by rw [D8X];exact ht,List.Sublist.slnil,by rw [show s+A2 (([]:List (Int×Int)).map Prod.snd)=s from D9s s];exact hq⟩
 | cons x f ih =>
  intro a xs s hm ht hq
  have hm':∀ y∈f,y.toNat<l.length∧sm (F6 l y)=true:=fun y hy=>hm y (D7E _ hy)
  have hx:=hm x (D7G ..)
  have hmem:F6 l x∈l:=A5 hx.1
  rw [D8o]
  unfold goB
  by_cases hg:(N7 (F6 l x).group||!inB (px a).groups (F6 l x).group)=true
  ·rw [if_pos hg]
   rcases hstep a s (F6 l x) hmem hx.2 hq with ⟨h1,h2,h3⟩ | ⟨off,h0,h1,h2,h3⟩
   ·obtain ⟨ys,k1,k2,k3⟩:=ih _ xs s hm' ⟨h1.trans ht.deals,h2.trans ht.groups,ht.pos,by rw [h2];exact ht.apart⟩ h3
    exact ⟨ys,k1,k2.cons _,k3⟩
   ·have ht':Tr l (px (step a (F6 l x))) (xs++[(x,off)]):=by
     refine ⟨?_,?_,fun b hb=>?_,?_⟩
     ·rw [h1,ht.deals];unfold C4D;rw [D7M];rfl
     ·rw [h2,ht.groups];unfold B1P
      rw [D7M,D8Z]
      congr 1
      cases hn:N7 (F6 l x).group
      ·rw [if_neg (by simp)]
       show [(F6 l x).group]=List.filter (fun g=>!N7 g) [(F6 l x).group]
       rw [D8f (p:=fun g=>!N7 g) (by rw [hn];rfl)];rfl
      ·rw [if_pos rfl]
       show []=List.filter (fun g=>!N7 g) [(F6 l x).group]
       rw [D8l (p:=fun g=>!N7 g) (by rw [hn];simp)];rfl
     ·rcases D8s.1 hb with hb | hb
      ·exact ht.pos b hb
      ·rw [D7I.1 hb];exact h0
     ·rw [h2]
      refine List.pairwise_append.2 ⟨ht.apart,?_,fun y hy z hz=>?_⟩
      ·split
       ·exact .nil
       ·exact List.pairwise_singleton _ _
      ·split at hz
       ·exact absurd hz D8D
       ·rename_i hn
        rw [D7I.1 hz]
        rw [D8O.2 hn,D7R,D7v] at hg
        unfold inB at hg
        rw [D8q] at hg
        exact D8O.2 (hg y hy)
    obtain ⟨ys,k1,k2,k3⟩:=ih _ (xs++[(x,off)]) (s+off) hm' ht' h3
    refine ⟨(x,off)::ys,by rw [D8z] at k1;exact k1,k2.cons_cons x,?_⟩
    rw [D8k,L5,←Int.add_assoc];exact k3
  ·rw [if_neg hg]
   obtain ⟨ys,k1,k2,k3⟩:=ih _ xs s hm' ht hq
   exact ⟨ys,k1,k2.cons _,k3⟩
theorem C0Z {σ : Type} {px : σ→PSt} {step : σ→B1→σ} {sm:B1→Bool} {l:List B1} {Q : σ→Int→Prop} (hstep:B4J px step sm l Q) {o:List Int} (ho:∀ x∈o,x.toNat<l.length) {a : σ} {xs:List (Int×Int)} {s:Int} (ht:Tr l (px a) xs) (hq:Q a s) :
  ∃ ys,Tr l (px (A0j px step sm l a o)) (xs++ys)∧(ys.map Prod.fst).Sublist (o.filter fun x=>sm (F6 l x))∧Q (A0j px step sm l a o) (s+A2 (ys.map Prod.snd)) :=
 C8e hstep _ a xs s (fun x hx=>⟨ho x (D8d.1 hx).1,(D8d.1 hx).2⟩) ht hq
theorem C3F {items:List Ab.Item} {us0:List B3} {l:List B1} (hf:∀ p∈l,R5 p) (hr:∀ p∈l,I0 p=true):B4J (fun p:PSt=>p) (A5i items) V0 l (fun p s=>A7t items p.us∧Off us0 p.us s):=by
 intro a s pr hm hs hq
 have hk:pr.kind≠7:=by simpa [V0] using hs
 unfold A5i
 by_cases h:(A0x items a.us pr).2>0
 ·rw [if_pos h]
  rcases C1c hq.1 (hf _ hm) (hr _ hm) hk with e | e
  ·rw [e] at h;exact absurd h (by decide)
  ·exact .inr ⟨_,by omega,rfl,rfl,hq.1.off e,hq.2.trans e⟩
 ·rw [if_neg h]
  exact .inl ⟨rfl,rfl,hq⟩
theorem C2D {net fee fee0:Int} {l:List B1} (hr:∀ p∈l,I0 p=true):B4J (fun a:PSt×Int=>a.1) (X0 net) A0D l (fun a s=>0≤a.2∧a.2≤fee∧a.2+s=fee0):=by
 intro a s pr hm hs hq
 have hk:pr.kind=7:=by simpa [A0D] using hs
 have h7:=(A4b (hr _ hm)).ship hk
 have hb:=U7 a.2 pr.rate
 have hle:=A5B hq.1 (show 0≤pr.rate by omega) h7.2
 unfold X0 A7B
 by_cases h:net<pr.least
 ·rw [if_pos h];exact .inl ⟨rfl,rfl,hq⟩
 ·rw [if_neg h]
  by_cases h2:J9 a.2 pr.rate>0
  ·rw [if_pos h2]
   exact .inr ⟨J9 a.2 pr.rate,by omega,rfl,rfl,by show 0≤a.2 - J9 a.2 pr.rate;omega,by show a.2 - J9 a.2 pr.rate≤_;omega,by show a.2 - J9 a.2 pr.rate+(s+J9 a.2 pr.rate)=_;omega⟩
  ·rw [if_neg h2]
   exact .inl ⟨rfl,rfl,by show 0≤a.2 - J9 a.2 pr.rate;omega,by show a.2 - J9 a.2 pr.rate≤_;omega,by show a.2 - J9 a.2 pr.rate+s=_;omega⟩
theorem A6p (a b:List B3) (j:Nat):G4 (a++b) j=G4 a j+G4 b j:=by
 unfold G4;rw [D8Z,D7M,G2]
theorem B6P (l:List E6) (i j n:Nat):G4 (List.replicate n (lnU l i)) j=if i=j then n * (l.getD i default).price else 0:=by
 induction n with
 | zero=>show (0:Int)=_;split<;>simp
 | succ n ih =>
  rw [show List.replicate (n+1) (lnU l i)=[lnU l i]++List.replicate n (lnU l i) from rfl,A6p,ih]
  by_cases h:i=j
  ·rw [if_pos h,if_pos h]
   have:G4 [lnU l i] j=(l.getD i default).price:=by
    unfold G4
    rw [D8f (by show (((i:Int)).toNat==j)=true;rw [D7q,h];simp)]
    show A2 [(l.getD i default).price]=_
    rw [L5];exact D9s _
   rw [this,show ((n+1:Nat):Int) * (l.getD i default).price=n * (l.getD i default).price+(l.getD i default).price by rw [Int.natCast_add,D9H];simp]
   omega
  ·rw [if_neg h,if_neg h]
   have:G4 [lnU l i] j=0:=by
    unfold G4
    rw [D8l (by show ¬(((i:Int)).toNat==j)=true;rw [D7q];simpa using h)];rfl
   rw [this];rfl
theorem B8Q (l:List E6) (hl:∀ x∈l,0≤x.qty) (j k:Nat) (hk:k≤l.length):G4 (H1 l k) j=if j<k then (l.getD j default).qty * (l.getD j default).price else 0:=by
 induction k with
 | zero=>rfl
 | succ k ih =>
  show G4 (H1 l k++List.replicate (l.getD k default).qty.toNat (lnU l k)) j=_
  rw [A6p,ih (by omega),B6P]
  have hq:=hl _ (A5 (show k<l.length by omega))
  by_cases e:k=j
  ·subst e
   rw [if_neg (by omega),if_pos rfl,if_pos (by omega),D8S hq,Int.zero_add]
  ·rw [if_neg e]
   by_cases h:j<k
   ·rw [if_pos h,if_pos (by omega),D9s]
   ·rw [if_neg h,if_neg (by omega)];rfl
theorem B1U {us us':List B3} {x:Int} (h:Off us us' x) (j:Nat):∀ k,k≤us.length→G4 (us'.take k) j≤G4 (us.take k) j
 | 0,_=>D7L _
 | k+1,hk=>by
  have ih:=B1U h j k (by omega)
  have hl:=h.len
  rw [A0c (by omega),A0c (by omega),h.line k]
  have:=(h.net k).2
  split<;>omega
theorem B7T (f:Nat→Int) (t:Nat) (x:Int):∀ n,A2 ((List.range n).map fun j=>if t=j then f j+x else f j)=A2 ((List.range n).map f)+if t<n then x else 0
 | 0=>by rw [if_neg (by omega)];rfl
 | n+1=>by
  rw [N0,N0,B7T f t x n]
  by_cases e:t=n
  ·rw [if_pos e,if_neg (by omega),if_pos (by omega)];omega
  ·rw [if_neg e]
   by_cases h:t<n
   ·rw [if_pos h,if_pos (by omega)];omega
   ·rw [if_neg h,if_neg (by omega)];omega
theorem B2Y:∀ n,A2 ((List.range n).map fun _=>(0:Int))=0
 | 0=>rfl
 | n+1=>by rw [N0,B2Y n];rfl
theorem A8H {us:List B3} {n:Nat} (h:∀ k,k<us.length→(gU us k).line.toNat<n):∀ k,k≤us.length→A2 ((List.range n).map (G4 (us.take k)))=A2 (D9 (us.take k))
 | 0,_=>B2Y n
 | k+1,hk=>by
  have ih:=A8H h k (by omega)
  have e1:(G4 (us.take (k+1)))=fun j=>if (gU us k).line.toNat=j then G4 (us.take k) j+(gU us k).net else G4 (us.take k) j:=funext fun j=>A0c (by omega) j
  rw [e1,B7T,ih,if_pos (h k (by omega)),L6 (by omega)]
  unfold D9
  rw [D7M,G2]
  show _+(gU us k).net=_+A2 [(gU us k).net]
  rw [L5];show _=_+((gU us k).net+0);omega
structure B6f (r:E0) (codes:List C8) (l:List E6) (Pr:A6c) (xs ys:List (Int×Int)):Prop where
 deals:Pr.deals=C4D r.promos (xs++ys)
 mem:∀ a∈xs++ys,(0≤a.1∧a.1.toNat<r.promos.length)∧A0z codes (F6 r.promos a.1)=true∧1≤a.2
 sx:(xs.map Prod.fst).Sublist (W7 r.promos codes)
 sy:(ys.map Prod.fst).Sublist (W7 r.promos codes)
 kx:∀ a∈xs,(F6 r.promos a.1).kind≠7
 ky:∀ a∈ys,(F6 r.promos a.1).kind=7
 apart:(B1P r.promos (xs++ys)).Pairwise fun x y=>(y.toList==x.toList)=false
 sum:Pr.net+A2 (xs.map Prod.snd)=K5 l
 len:Pr.nets.length=l.length
 nets:A2 Pr.nets=Pr.net
 each:∀ i,i<l.length→0≤gI Pr.nets i∧gI Pr.nets i≤(l.getD i default).qty * (l.getD i default).price
 ship:0≤Pr.ship∧Pr.ship≤r.ship.fee
 shipSum:Pr.ship+A2 (ys.map Prod.snd)=A1y r.ship (X6 l).length Pr.net
theorem B5q {l:List B1} {codes:List C8} {i:Nat} {x:Int} (h:x∈places l codes i):A0z codes (F6 l x)=true:=by
 unfold places at h
 obtain ⟨k,hk,rfl⟩:=D7y.1 h
 exact (D8d.1 hk).2
theorem C2f {r:E0} {codes:List C8} {l:List E6} (hf:X9 r) (hck:D8 r codes l=0):∃ xs ys,B6f r codes l (A0q r l (W7 r.promos codes) (W7 r.promos codes)) xs ys:=by
 have ck:=A6Y hck
 have hok:=ck.lines
 have hu:=B5Y hok
 obtain ⟨u1,u2,u3⟩:=A2P l hok.line l.length (D7l _)
 rw [D7m] at u1 u2
 have hitl:(C2 r.items l).length=l.length:=D7i ..
 have hpl:∀ x∈W7 r.promos codes,(0≤x∧x.toNat<r.promos.length)∧A0z codes (F6 r.promos x)=true:=fun x hx=>by
  have:=(A4H r.promos codes).mem_iff.1 hx
  exact ⟨A0U this,B5q this⟩
 have hlt:∀ x∈W7 r.promos codes,x.toNat<r.promos.length:=fun x hx=>(hpl x hx).1.2
 obtain ⟨xs,a1,a2,a3,a4⟩:=C0Z (C3F (items:=C2 r.items l) (us0:=X6 l) hf.fit ck.promo) hlt (a:=⟨X6 l,[],[]⟩) (Tr.start r.promos (X6 l)) ⟨hu,Off.refl hu.ok⟩
 rw [E0f] at a1
 rw [Int.zero_add] at a4
 have hfee:0≤A1y r.ship (X6 l).length (O6 (p1B r l (W7 r.promos codes)))∧A1y r.ship (X6 l).length (O6 (p1B r l (W7 r.promos codes)))≤r.ship.fee:=by
  unfold A1y;have:=ck.fee;split<;>omega
 obtain ⟨ys,b1,b2,b3⟩:=C0Z (C2D (net:=O6 (p1B r l (W7 r.promos codes))) (fee:=r.ship.fee) (fee0:=A1y r.ship (X6 l).length (O6 (p1B r l (W7 r.promos codes)))) ck.promo) hlt (a:=(p1B r l (W7 r.promos codes),A1y r.ship (X6 l).length (O6 (p1B r l (W7 r.promos codes))))) (s:=0) a1 ⟨hfee.1,hfee.2,D9s _⟩
 rw [Int.zero_add] at b3
 have a2':∀ a∈xs,a.1∈W7 r.promos codes∧V0 (F6 r.promos a.1)=true:=fun a ha=>D8d.1 (a2.subset (D7y.2 ⟨a,ha,rfl⟩))
 have b2':∀ a∈ys,a.1∈W7 r.promos codes∧A0D (F6 r.promos a.1)=true:=fun a ha=>D8d.1 (b2.subset (D7y.2 ⟨a,ha,rfl⟩))
 have hus:A7t (C2 r.items l) (p1B r l (W7 r.promos codes)).us:=a3
 have hlen:=a4.len
 have hln:∀ k,k<(p1B r l (W7 r.promos codes)).us.length→(gU (p1B r l (W7 r.promos codes)).us k).line.toNat<l.length:=fun k hk=>by
  have:=(hus.line _ (A5 hk)).2
  rw [hitl] at this;exact this
 have hsm:=A8H hln _ (D7l _)
 rw [D7m] at hsm
 refine ⟨xs,ys,b1.deals,fun a ha=>?_,a2.trans D9f,b2.trans D9f,fun a ha=>by simpa [V0] using (a2' a ha).2,fun a ha=>by simpa [A0D] using (b2' a ha).2,by rw [←b1.groups];exact b1.apart,?_,?_,hsm,fun i hi=>?_,⟨b3.1,b3.2.1⟩,b3.2.2⟩
 ·have hp:=b1.pos a ha
  rcases D8s.1 ha with h | h
  ·exact ⟨(hpl _ (a2' a h).1).1,(hpl _ (a2' a h).1).2,hp⟩
  ·exact ⟨(hpl _ (b2' a h).1).1,(hpl _ (b2' a h).1).2,hp⟩
 ·have:=a4.sum
  show A2 (D9 (p1B r l (W7 r.promos codes)).us)+_=_
  exact this.trans u2
 ·show ((List.range l.length).map _).length=_
  rw [D7i,D7F]
 ·have e:gI (A0q r l (W7 r.promos codes) (W7 r.promos codes)).nets i=G4 (p1B r l (W7 r.promos codes)).us i:=by
   show gI ((List.range l.length).map (G4 (p1B r l (W7 r.promos codes)).us)) i=_
   unfold gI
   rw [D7c,D8a,D8C hi];rfl
  rw [e]
  have h1:=(A1k hus.ok (p1B r l (W7 r.promos codes)).us.length i).1
  rw [D7m] at h1
  have h2:=B1U a4 i _ (D7l _)
  rw [D7m,D8T (Nat.le_of_eq hlen)] at h2
  have h3:=B8Q l (fun x hx=>((A0Q _).1 (hok.line x hx)).1.1) i l.length (D7l _)
  rw [if_pos hi] at h3
  have h2':G4 (p1B r l (W7 r.promos codes)).us i≤G4 (H1 l l.length) i:=h2
  exact ⟨h1,by omega⟩
end Go.Proofs.YtaapofnkmpiknaaGreat
namespace Go.Proofs.YtaapofnkmpiknaaGreat
open Go Go.Ab
attribute [local irreducible] upd del
structure P4 (R:E0) (C:List C8) (L:List E6):Prop where
 right:K1 R=true
 fit:X9 R
 sm:A5b R
 codes:R6 C=true
 ncodes:C.length≤3
 scodes:∀ s∈C,s.size≤12
 lines:A1f L
 check:D8 R C L=0
 few:R.promos.length≤6
 items:R.items.length≤8
 known:∀ n,known R.items (A1o n)=true
 fee:0≤R.ship.fee∧R.ship.fee≤1000000000
theorem C9A (r:E0) (codes:List C8) (l:List E6):P4 (F0 r) (H3 codes) (A7g l):=by
 have hc:=B5s codes
 have hl:=B5t l
 have hr:=B0R r
 have hn:=A2g r.promos
 have hck:D8 (F0 r) (H3 codes) (A7g l)=0:=by
  unfold D8
  rw [if_neg (by rw [hr];simp),if_neg (by rw [hc.1];simp)]
  exact hl.check (A7S r.items)
 exact ⟨hr,B3A r,A8U r,hc.1,hc.2.1,hc.2.2,hl,hck,by show (N9 r.promos).length≤6;omega,by show (G7 r.items).length≤8;rw [A2C];omega,A7S r.items,(A6Y hck).fee⟩
theorem P4.relines {R:E0} {C:List C8} {L L':List E6} (h:P4 R C L) (hl:A1f L'):P4 R C L' :=
 { h with
  lines:=hl
  check:=by
   unfold D8
   rw [if_neg (by rw [h.right];simp),if_neg (by rw [h.codes];simp)]
   exact hl.check h.known }
theorem P4.promosC {R:E0} {C:List C8} {L:List E6} (h:P4 R C L):promosC R.promos=true:=by
 have:=h.right
 unfold K1 at this
 simp only [D7f] at this
 exact this.1.1.1.2
def A3L (R:E0) (C:List C8) (L:List E6):A6c:=A0q R L (W7 R.promos C) (W7 R.promos C)
theorem C4U {R:E0} {C:List C8} {L:List E6} (hck:D8 R C L=0) (hf:X9 R) (hC:Go.Proofs.YtaapofnkmpiknaaGreat.promosC R.promos=true) (hn:R.promos.length≤6) (hi:R.items.length≤8) (hc:C.length≤3) (st:St) :
  S P 122 [F4 R,D5 C,A8 3 I7 L] st fun v s=>v=.tuple [A1t (A3L R C L),eI 0]∧s=st :=
 (price_S B7O R C L hf (by show C.length≤9223372036854775807;omega) (by omega) (by have:=A1C R.promos C R.promos.length;omega) st).mono fun v s ⟨hv,hs⟩=>by
  refine ⟨?_,hs⟩
  rcases hv with ⟨h1,_⟩ | ⟨_,o1,o2,h1,h2,h3⟩
  ·exact absurd hck h1
  ·rw [B7y hC h1,B7y hC h2] at h3;exact h3
theorem P4.price_S {R:E0} {C:List C8} {L:List E6} (h:P4 R C L) (st:St) :
  S P 122 [F4 R,D5 C,A8 3 I7 L] st fun v s=>v=.tuple [A1t (A3L R C L),eI 0]∧s=st :=
 C4U h.check h.fit h.promosC h.few h.items h.ncodes st
theorem P4.ref_S {R:E0} {C:List C8} {L:List E6} (h:P4 R C L) (st:St) :
  S P 115 [F4 R,D5 C,A8 3 I7 L] st fun v s=>v=.tuple [A1t (A3L R C L),eI 0]∧s=st :=
 (C5f R C L h.fit h.sm h.right (by have:=h.ncodes;show C.length≤9223372036854775807;omega) (fun s hs=>by have:=h.scodes s hs;show s.size≤9223372036854775807;omega) (by have:=h.lines.len;show L.length≤9223372036854775807;omega) st).mono fun v s ⟨hv,hs⟩=>by
  rw [if_pos h.check] at hv
  exact ⟨hv,hs⟩
theorem P4.law {R:E0} {C:List C8} {L:List E6} (h:P4 R C L):∃ xs ys,B6f R C L (A3L R C L) xs ys:=C2f h.fit h.check
structure C8O (L:List E6) (Pr:A6c) (g fee:Int):Prop where
 len:Pr.nets.length=L.length
 at':∀ i,i<L.length→0≤gI Pr.nets i∧gI Pr.nets i≤(L.getD i default).qty * (L.getD i default).price
 sum:A2 Pr.nets=Pr.net
 net:0≤Pr.net∧Pr.net≤g
 ship:0≤Pr.ship∧Pr.ship≤fee
theorem P4.nets {R:E0} {C:List C8} {L:List E6} (h:P4 R C L):C8O L (A3L R C L) (K5 L) R.ship.fee:=by
 obtain ⟨xs,ys,hl⟩:=h.law
 have h0:∀ x∈(A3L R C L).nets,0≤x:=fun x hx=>by
  obtain ⟨i,hi,rfl⟩:=D2 hx
  exact (hl.each i (by rw [←hl.len];exact hi)).1
 have hx:0≤A2 (xs.map Prod.snd):=C1 fun x hx=>by
  obtain ⟨a,ha,rfl⟩:=D7y.1 hx
  have:=(hl.mem a (List.mem_append_left _ ha)).2.2
  omega
 have hs:=hl.sum
 have hn:=hl.nets
 have:=C1 h0
 exact ⟨hl.len,hl.each,hl.nets,by omega,hl.ship⟩
theorem B9X (n:Int) (st:St):S P 52 [eI n] st fun r st'=>r=eS (Q9 (B5 n 3))∧st'=st:=by
 refine F7 [] Tryz.func52 ?_
 refine I3 (A1l n 3 (by decide) (by decide) _) ?_
 refine ⟨?_,rfl⟩
 show AV.str ((⟨#[122]⟩:C8)++B2W [IntKind.u8.wrap (48+IntKind.u8.wrap (B5 n 3))])=_
 rw [B3g];rfl
theorem D4g {t:Tax} {z:K9} {cats:List C8} {nets:List Int} {ship:Int} (h:A2R t z cats nets ship) (st:St) :
  S P (C5W t) [T7 t,A9 (cats.map (F5 z)),A9 nets] st fun v st'=>v=A9 (L2 t (cats.map (F5 z)) nets)∧st'=st:=by
 obtain ⟨r1,r2⟩:=A3M h
 unfold C5W L2
 split
 ·exact C1l t _ _ h.nets r1 r2 st
 ·exact B6r t _ _ h.nets.len r1 r2 st
theorem P4.taxC {R:E0} {C:List C8} {L:List E6} (h:P4 R C L):taxC R.tax=true:=by
 have:=h.right
 unfold K1 at this
 simp only [D7f] at this
 exact this.1.1.2
theorem P4.levy {R:E0} {C:List C8} {L:List E6} (h:P4 R C L) {z:K9} {s:C8} (hz:Z3 R.tax.zones s=some z):A2R R.tax z (N6 R L) (A3L R C L).nets (A3L R C L).ship:=by
 have hN:=h.nets
 have hg:=C0U h.lines.line
 have hl:=h.lines.len
 have hf:=h.fee
 have hsh:=hN.ship
 refine ⟨h.taxC,B8H h.taxC hz,by rw [C1n,hN.len],⟨by rw [hN.len];omega,fun x hx=>?_,by rw [hN.sum];have:=hN.net;omega⟩,by omega⟩
 obtain ⟨i,hi,rfl⟩:=D2 hx
 exact (hN.at' i (by rw [←hN.len];exact hi)).1
def B0a (R:E0) (C:List C8) (L:List E6) (z:K9) (exempt:Bool):O5:=A9Z R z exempt L (A3L R C L)
theorem P4.quote_S {R:E0} {C:List C8} {L:List E6} (h:P4 R C L) {z:K9} {s:C8} (hz:Z3 R.tax.zones s=some z) (exempt:Bool) (st:St) :
  S P 60 [F4 R,eS s,eB exempt,D5 C,A8 3 I7 L] st fun v st'=>v=.tuple [A1x (B0a R C L z exempt),eI 0]∧st'=st:=by
 have hv:=h.levy hz
 have hk:=(A6Y h.check).lines.known
 have hi:=h.items
 have hl:=h.lines.len
 exact Go.Proofs.YtaapofnkmpiknaaGreat.quote_S exempt (fun st=>h.price_S st) (fun st=>A9I _ _ (by omega) (by omega) hk st) (by omega) hv hz (fun st=>D4g hv st) (B4g hv exempt) st
theorem P4.quoteIn {R:E0} {C:List C8} {L:List E6} (h:P4 R C L) {z:K9} {s:C8} (hz:Z3 R.tax.zones s=some z) (exempt:Bool):B9Z (B0a R C L z exempt) L.length:=by
 have:=B1e (h.levy hz) exempt (A3L R C L).deals
 rw [h.nets.len] at this;exact this
theorem B3B (r:E0) (n:Int):∃ z,Z3 (F0 r).tax.zones (Q9 (B5 n 3))=some z:=by
 have:=C7 n (n:=3) (by decide)
 obtain ⟨k,hk⟩:∃ k:Nat,B5 n 3=k:=⟨(B5 n 3).toNat,by omega⟩
 rw [hk]
 exact ⟨_,C3j r.tax (by omega)⟩
structure B3s where
 rules:E0
 zone:Int
 exempt:Bool
 codes:List C8
 adds:List Add
 pays:List Pay
 day:Int
def B1L (s:B3s):AV:=.agg [A8 4 F2 s.rules.items,A8 15 B8 s.rules.promos,eB s.rules.tax.incl,eB s.rules.tax.byOrder,eI s.rules.tax.round,A8 4 S9 s.rules.tax.zones,eI s.rules.ship.fee,eI s.rules.ship.free,eI s.rules.policy.window,eI s.rules.policy.grace,eI s.rules.policy.mode,eI s.rules.policy.restock,A9 s.rules.policy.order,A9 s.rules.policy.credit,eI s.zone,eB s.exempt,D5 s.codes,A8 2 A8z s.adds,A8 2 B8A s.pays,eI s.day]
def A7a (s:B3s):Bool:=C4b s.rules&&decide ((s.codes.length:Int)<30)&&decide ((s.adds.length:Int)<60)&&decide ((s.pays.length:Int)<30)
theorem C2C (s:B3s) (st:St):S P 14 [B1L s] st fun v st'=>v=.bool (A7a s)∧st'=st:=by
 have n1:=D0Q s.rules st
 have e:A7a s=(C4b s.rules&&decide ((s.codes.length:Int)<30)&&decide ((s.adds.length:Int)<60)&&decide ((s.pays.length:Int)<30)):=rfl
 rw [e]
 clear e
 generalize C4b s.rules=b1 at *
 refine SyW [1] Tryz.func14 ?_
 repeat' ((conv=>whnf);first | refine B2 n1 ?_ | (refine B7 (fun h=>?_) (fun h=>?_)<;>rw [h]) | fail)
 all_goals (conv=>whnf)
 all_goals exact ⟨rfl,rfl⟩
def B3Z (id key zone:C8) (exempt:Bool) (codes:List C8) (adds:List Add) (pays:List Pay):AV :=
 .agg [eI 3,eS key,.emp,.emp,eB false,eB false,eI 0,.emp,eI 0,eI 0,eI 0,eI 0,eI 0,eI 0,.emp,.emp,eI 0,eS id,eS zone,eB exempt,D5 codes,A8 2 A8z adds,A8 2 B8A pays,.emp,eI 0,eI 0,eI 0]
def P0 (s:B3s):C8:=Q9 (B5 s.zone 3)
set_option maxHeartbeats 4000000 in
theorem C1t (s:B3s) (id key:C8) (Q:O5) (e:Int) (hi:Sm (F0 s.rules).items.length) (hp:s.pays.length≤100000) (hT:0≤Q.total∧Q.total≤100000000000000)
  (hQ:∀ st,S P 56 [F4 (F0 s.rules),eS (P0 s),eB s.exempt,D5 (H3 s.codes),A8 3 I7 (A2X (F0 s.rules).items (J6 s.adds)).1] st fun v st'=>v=.tuple [A1x Q,eI e]∧st'=st) (st:St) :
  S P 16 [B1L s,eS id,eS key] st fun v st'=>v=.tuple [F4 (F0 s.rules),B3Z id key (P0 s) s.exempt (H3 s.codes) (J6 s.adds) (N8 Q.total s.pays)]∧st'=st:=by
 have cR:=fun u=>B7j s.rules u
 have cZ:∀ u,S P 52 [eI s.zone] u fun r st'=>r=eS (P0 s)∧st'=u:=fun u=>B9X s.zone u
 have cC:=fun u=>B7e s.codes u
 have cA:=fun u=>B9g s.adds u
 have cL:=fun u=>B2K (F0 s.rules).items (J6 s.adds) hi u
 have cP:=fun u=>B9h Q.total s.pays hT.1 hT.2 hp u
 generalize F0 s.rules=R at *
 generalize P0 s=Z at *
 generalize H3 s.codes=C at *
 generalize J6 s.adds=A at *
 generalize A2X R.items A=LL at *
 generalize N8 Q.total s.pays=PP at *
 refine A0g ?_
 refine A0o [3,8] A4i mixed Tryz.func16 (by rfl) rfl rfl rfl ?_;conv=>whnf
 intro b6 hb6;conv=>whnf
 intro b7 hb7
 have h67:b6≠b7:=fun e=>by subst e;rw [A0] at hb7;cases hb7
 conv=>whnf
 refine I3 (cR _) ?_
 generalize hst:(upd (upd st b6 _) b7 _:St)=S0
 obtain ⟨f6,at6,hf6⟩:∃ f6:Nat→AV,S0 b6=some ⟨33,14,1,f6⟩∧f6 0=I1 r33.zero:=by rw [←hst,B0 h67];exact ⟨_,A0 ..,rfl⟩
 obtain ⟨f7,at7,hf7⟩:∃ f7:Nat→AV,S0 b7=some ⟨42,27,1,f7⟩∧f7 0=I1 r42.zero:=by rw [←hst];exact ⟨_,A0 ..,rfl⟩
 have hs0:F8 st S0:=by rw [←hst];exact ((F8.refl st).upd hb6).upd hb7
 have hn7:st b7=none:=(show F8 st (upd st b6 _) from (F8.refl st).upd hb6).none hb7
 clear hst hb7
 refine .inl ⟨[14,15],[3,4,6,8,9,11,12],List.range 16,by kernel_rfl,?_⟩
 repeat' ((conv=>whnf);first | refine ⟨_,fun s _=>⟨rfl,rfl⟩,?_⟩ | refine ⟨_,fun s _=>F3 (cZ s),?_⟩ | refine ⟨_,fun s _=>F3 (cC s),?_⟩ | refine ⟨_,fun s _=>F3 (cA s),?_⟩ | fail)
 intro b9 hb9
 have h69:b6≠b9:=fun e=>by subst e;rw [at6] at hb9;cases hb9
 have h79:b7≠b9:=fun e=>by subst e;rw [at7] at hb9;cases hb9
 conv=>whnf
 refine stU (A0 ..) rfl ?_
 rw [C5];conv=>whnf
 refine L1 (A0 ..) (A6 ..) ?_
 refine I3 (cL _) ?_
 refine L1 (A0 ..) (A6 ..) ?_
 refine L1 (A0 ..) (A6 ..) ?_
 refine L1 (A0 ..) (A6 ..) ?_
 refine I3 (hQ _) ?_
 generalize hst:(upd S0 b9 _:St)=S1
 obtain ⟨f9,at9,hf9⟩:∃ f9:Nat→AV,S1 b9=some ⟨42,27,1,f9⟩∧f9 0=.agg [eI 3,eS key,.emp,.emp,eB false,eB false,eI 0,.emp,eI 0,eI 0,eI 0,eI 0,eI 0,eI 0,.emp,.emp,eI 0,eS id,eS Z,eB s.exempt,D5 C,A8 2 A8z A,.emp,.emp,eI 0,eI 0,eI 0]:=by rw [←hst];exact ⟨_,A0 ..,by rw [A6];rfl⟩
 have hs1:F8 S0 S1:=by rw [←hst];exact (F8.refl S0).upd hb9
 have hn9:st b9=none:=hs0.none hb9
 clear hst hb9
 intro b12 hb12
 have h912:b9≠b12:=fun e=>by subst e;rw [at9] at hb12;cases hb12
 have h612:b6≠b12:=fun e=>by subst e;rw [hs1 _ _ at6] at hb12;cases hb12
 have h712:b7≠b12:=fun e=>by subst e;rw [hs1 _ _ at7] at hb12;cases hb12
 conv=>whnf
 refine stU (A0 ..) rfl ?_
 rw [C5];conv=>whnf
 refine L1 (A0 ..) (A6 ..) ?_
 refine I3 (cP _) ?_
 refine stW ((B0 h912).trans at9) hf9 ?_
 refine .inr ⟨[2,3],.qui 0 (.qui 1 (.eff 2 [1] (.eff 3 [] (.done)))),by kernel_rfl,?_⟩
 generalize hst:(upd (upd S1 b12 _) b9 _:St)=S2
 obtain ⟨g9,bt9,hg9⟩:∃ g9:Nat→AV,S2 b9=some ⟨42,27,1,g9⟩∧g9 0=B3Z id key Z s.exempt C A PP:=by rw [←hst];exact ⟨_,A0 ..,by rw [A6];rfl⟩
 have bt6:S2 b6=some ⟨33,14,1,f6⟩:=by rw [←hst,B0 h69,B0 h612];exact hs1 _ _ at6
 have bt7:S2 b7=some ⟨42,27,1,f7⟩:=by rw [←hst,B0 h79,B0 h712];exact hs1 _ _ at7
 have hs2:F8 st S2:=by rw [←hst];exact ((hs0.trans hs1).upd hb12).over hn9
 clear hst
 conv=>whnf
 refine ⟨_,fun _=>True,trivial,fun s _=>⟨rfl,rfl⟩,?_⟩;conv=>whnf
 refine ⟨_,fun u=>u b9=some ⟨42,27,1,g9⟩,bt9,fun u hu=>ldV hu rfl (by omega) hg9 ⟨rfl,rfl⟩,?_⟩;conv=>whnf
 refine stW bt6 hf6 ?_
 refine ⟨fun h=>(B0 h69.symm).trans h,?_⟩;conv=>whnf
 refine stW ((B0 h67.symm).trans bt7) hf7 ?_
 refine L1 ((B0 h67).trans (A0 ..)) (A6 ..) ?_
 refine L1 (A0 ..) (A6 ..) ?_
 exact ⟨rfl,(hs2.over hb6).over hn7⟩
theorem ROut.cell {R:St→St→Prop} (hR:K7 R) {ty e n b:Nat} {fo:Nat→AV} {s t:St} (h:ROut R ty e fo n s (.own e b 0 n) t) (hn:0<n) :
  ∃ g,t b=some ⟨ty,e,n,g⟩∧(∀ k,k<n→g k=fo k)∧∀ (g' fo':Nat→AV),(∀ k,k<n→g' k=fo' k)→ROut R ty e fo' n s (.own e b 0 n) (upd t b ⟨ty,e,n,g'⟩):=by
 obtain ⟨s0,hc,hr⟩:=h
 rcases hc with ⟨h0,_⟩ | ⟨_,b',g,h1,h2,rfl,h3⟩
 ·omega
 ·injection h2 with _ h2 _ _
  subst h2
  refine ⟨g,hR.sup hr b _ (A0 ..),h3,fun g' fo' hg=>⟨upd s b ⟨ty,e,n,g'⟩,.inr ⟨hn,b,g',h1,rfl,rfl,hg⟩,?_⟩⟩
  have:=hR.write (y':=⟨ty,e,n,g'⟩) hr (A0 ..)
  rwa [C5] at this
theorem ROut.one {R:St→St→Prop} {ty e n:Nat} {fo:Nat→AV} {s t:St} {sv:AV} (h:ROut R ty e fo n s sv t):sv.one=true:=by rcases h.head with rfl | ⟨b,rfl⟩<;>rfl
section
variable {R0:St→St→Prop} {ty e:Nat} {F:Nat→Nat→AV} {len:Nat→Nat}
end
theorem _root_.Go.Ab.Col.over {ty e:Nat} {f:Nat→AV} {st:St} {n:Nat} {sv:AV} {st':St} (h:Col ty e f st n sv st') {b:Nat} {y y':L7} (hb:st b=some y):Col ty e f (upd st b y') n sv (upd st' b y'):=by
 rcases h with ⟨rfl,rfl,rfl⟩ | ⟨h0,c,g,hc,rfl,rfl,hg⟩
 ·exact .inl ⟨rfl,rfl,rfl⟩
 ·have hne:c≠b:=fun e=>by subst e;rw [hb] at hc;cases hc
  exact .inr ⟨h0,c,g,(B0 hne).trans hc,rfl,R9 hne,hg⟩
def A2k (p:Pay):A1R:=⟨p.kind,p.amount,0⟩
def C0Q (id zone:C8) (set:Int) (exempt:Bool) (codes:List C8) (day:Int) (l:List E6) (q:O5) (b:A2n) (pays:List Pay):G5 :=
 ⟨id,set,zone,exempt,codes,day,X1 l q,q.ship,q.shipTax,0,q.total,b,pays.map A2k⟩
end Go.Proofs.YtaapofnkmpiknaaGreat
namespace Go.Proofs.YtaapofnkmpiknaaGreat
open Go Go.Ab
theorem A6x (l:List Add):(1≤(J6 l).length∧(J6 l).length≤6)∧∀ x∈J6 l,(1≤x.qty∧x.qty≤9)∧∃ n,x.sku=A1o n:=by
 unfold J6
 split
 ·exact ⟨⟨by decide,by decide⟩,fun x hx=>by rw [D7I.1 hx];exact ⟨⟨by decide,by decide⟩,0,by kernel_rfl⟩⟩
 ·rename_i h
  refine ⟨by rw [D7i,D7n];omega,fun x hx=>?_⟩
  obtain ⟨y,_,rfl⟩:=D7y.1 hx
  have:=C7 y.qty (n:=9) (by decide)
  exact ⟨by show 1≤1+B5 y.qty 9∧1+B5 y.qty 9≤9;omega,_,rfl⟩
theorem B7d (items:List Ab.Item) (l:List Add):A2X (G7 items) (J6 l)=((J6 l).map (S4 (G7 items)),0):=by
 obtain ⟨⟨h1,h2⟩,h3⟩:=A6x l
 unfold A2X
 rw [if_neg (by omega),if_neg (by
  rw [D8h,D8q]
  intro x hx
  have:=(h3 x hx).1
  unfold A5k
  rw [D7j (by omega),D7j (by omega)];simp),if_neg (by
  rw [D8h,D8q]
  intro x hx
  obtain ⟨n,hn⟩:=(h3 x hx).2
  have:=A7S items n
  unfold known at this
  rw [hn]
  simp only [D7d] at this ⊢
  omega)]
theorem B0P (l:List Ab.Item) (j:Nat):0≤((G7 l).getD j default).price∧((G7 l).getD j default).price<4000:=by
 by_cases h:j<8
 ·unfold G7
  rw [D4 (O7 l) (List.range 8) (by rw [D7F];exact h)]
  rw [show (List.range 8).getD j default=j by simp [D7c,h]]
  have:=C7 (l.getD j default).price (n:=4000) (by decide)
  unfold O7
  split
  ·exact ⟨by show 0≤B5 _ 4000;omega,by show B5 _ 4000<4000;omega⟩
  ·exact ⟨by show (0:Int)≤100+37 * (j:Int);omega,by show (100:Int)+37 * (j:Int)<4000;omega⟩
 ·rw [D7c,D9C (by rw [A2C];omega)]
  exact ⟨by decide,by decide⟩
theorem B6l (items:List Ab.Item) (l:List Add):A1f ((J6 l).map (S4 (G7 items))):=by
 obtain ⟨⟨h1,h2⟩,h3⟩:=A6x l
 refine ⟨by rw [D7i];omega,fun x hx=>?_,fun x hx=>?_⟩<;>obtain ⟨y,hy,rfl⟩:=D7y.1 hx
 ·have:=(h3 y hy).1
  have:=B0P items (Q7 (G7 items) y.sku).toNat
  unfold S4
  exact ⟨⟨by show 0≤y.qty;omega,by show y.qty≤9;omega⟩,this⟩
 ·exact (h3 y hy).2
structure A5c (Q:O5) (n:Nat):Prop where
 goods:∀ i,i<n→0≤gI Q.goods i∧gI Q.goods i≤1000000000000
 taxes:∀ i,i<n→0≤gI Q.taxes i∧gI Q.taxes i≤1000000000000
 ngoods:Q.goods.length=n
 ntaxes:Q.taxes.length=n
 ship:0≤Q.ship∧Q.ship≤1000000000000
 shipTax:0≤Q.shipTax∧Q.shipTax≤1000000000000
 total:Q.total=A2 Q.goods+A2 Q.taxes+Q.ship+Q.shipTax
theorem C5w (f:Nat→U5) (n:Nat) (g:Nat→Int) (v:U5→Int) (h:∀ i,i<n→J3 (v (f i)) (f i).sold (f i).left=g i):((List.range n).map f).foldl (fun a x=>a+J3 (v x) x.sold x.left) 0=A2 ((List.range n).map g):=by
 induction n with
 | zero=>rfl
 | succ n ih =>
  rw [D8G,D7M,D7M,D9g,ih fun i hi=>h i (by omega)]
  show A2 _+J3 (v (f n)) (f n).sold (f n).left=A2 (_++[g n])
  rw [h n (by omega)]
  unfold A2;rw [D9g];rfl
theorem B8T (l:List Int):(List.range l.length).map (gI l)=l:=by
 refine D9K (by rw [D7i,D7F]) fun i h1 h2=>?_
 rw [List.getElem_map,List.getElem_range]
 unfold gI
 simp [D7c,h2]
theorem A7o {l:List Int} {n:Nat} (hn:l.length=n) {M:Int} (h:∀ i,i<n→0≤gI l i∧gI l i≤M):0≤A2 l∧A2 l≤M * n:=by
 subst hn
 have:∀ k,k≤l.length→0≤A2 ((List.range k).map (gI l))∧A2 ((List.range k).map (gI l))≤M * k:=by
  intro k
  induction k with
  | zero=>intro _;exact ⟨D7L 0,by show (0:Int)≤M * ((0:Nat):Int);simp⟩
  | succ k ih =>
   intro hk
   have h1:=ih (by omega)
   have h2:=h k (by omega)
   have e:A2 ((List.range (k+1)).map (gI l))=A2 ((List.range k).map (gI l))+gI l k:=by
    rw [D8G,D7M];unfold A2;rw [D9g];rfl
   have e2:M * ((k+1:Nat):Int)=M * (k:Int)+M:=by rw [show ((k+1:Nat):Int)=(k:Int)+1 from rfl,D9p,D9Z]
   rw [e,e2]
   omega
 have:=this l.length (D7l _)
 rwa [B8T] at this
theorem B1R:∀ (l:List Pay) (a:Int),(l.map A2k).foldl (fun a x=>a+(x.taken - x.given)) a=l.foldl (fun a x=>a+x.amount) a
 | [],a=>rfl
 | x::l,a=>by
  simp only [D8k,D8o]
  rw [show a+((A2k x).taken - (A2k x).given)=a+x.amount by show a+(x.amount - 0)=_;omega]
  exact B1R l _
theorem B9D {L:List E6} {Q:O5} (h:A5c Q L.length) (h1:1≤L.length∧L.length≤8) (hL:∀ x∈L,C6 x.sku=true∧(0≤x.price∧x.price≤1000000000)∧1≤x.qty∧x.qty≤100000)
  {id zone:C8} {set day:Int} {C:List C8} {pays:List Pay} (exempt:Bool) (hi:C6 id=true) (hz:C6 zone=true) (hs:1≤set∧set≤40) (hd:0≤day∧day≤100000) (hc:R6 C=true) (hp:A8Q pays Q.total=true) :
  H0 (C0Q id zone set exempt C day L Q (O2 Q) pays)=true∧Q6 (C0Q id zone set exempt C day L Q (O2 Q) pays)=O2 Q∧U0 (O2 Q)=Q.total:=by
 have g1:=A7o h.ngoods h.goods
 have g2:=A7o h.ntaxes h.taxes
 have g3:=h.ship
 have g4:=h.shipTax
 have g5:=h.total
 have hn:(L.length:Int)≤8:=by omega
 have hbk:Q4 (O2 Q)=true:=by
  unfold Q4 L4 O2 E3
  simp only [List.all_cons,List.all_nil,D7Q,D7f,D3]
  omega
 have hsum:U0 (O2 Q)=Q.total:=by
  unfold U0
  rw [if_pos hbk]
  show 0+A2 Q.goods+A2 Q.taxes+Q.ship+Q.shipTax+0=Q.total
  omega
 have hkept:∀ x∈X1 L Q,U2 x=true∧x.left=x.sold∧1≤x.sold:=by
  intro x hx
  unfold X1 at hx
  obtain ⟨i,hi,rfl⟩:=D7y.1 hx
  have hi:=D7t.1 hi
  have hl:=hL _ (A5 hi)
  have hg:=h.goods i hi
  have ht:=h.taxes i hi
  refine ⟨?_,rfl,hl.2.2.1⟩
  unfold U2 A1d Y4
  simp only [D7f,D3]
  exact ⟨⟨⟨⟨⟨hl.1,hl.2.1⟩,hl.2.2⟩,by omega⟩,by omega⟩,by omega⟩
 have hten:(pays.map A2k).all Go.Proofs.YtaapofnkmpiknaaGreat.tenderB=true∧pays.length≤6∧A0t (pays.map A2k)=Q.total:=by
  unfold A8Q at hp
  simp only [D7f,D7d,D7Z] at hp
  obtain ⟨⟨p1,p2⟩,p3⟩:=hp
  refine ⟨?_,by omega,?_⟩
  ·rw [D7s] at p2 ⊢
   intro x hx
   obtain ⟨y,hy,rfl⟩:=D7y.1 hx
   have:=p2 y hy
   unfold B2l E3 at this
   simp only [D7f,D3,D7d] at this
   unfold Go.Proofs.YtaapofnkmpiknaaGreat.tenderB A2k E3
   simp only [D7f,D3]
   omega
  ·rw [←p3];exact B1R pays 0
 have hlen:(X1 L Q).length=L.length:=by unfold X1;rw [D7i,D7F]
 have hright:H0 (C0Q id zone set exempt C day L Q (O2 Q) pays)=true:=by
  unfold H0 A5M A1Y U6 A5J A0k C0Q A1d E3
  simp only [D7f,D7d,D3,D7Z,D7i,hlen]
  exact ⟨⟨⟨⟨⟨by omega,⟨⟨⟨hi,hz⟩,hs⟩,hc⟩,hd⟩,⟨by omega,by omega⟩,D7s.2 fun x hx=>(hkept x hx).1⟩,⟨⟨by omega,by omega⟩,by omega⟩,by omega⟩,hbk,hsum⟩,hten.1,by omega,hten.2.2⟩
 refine ⟨hright,?_,hsum⟩
 unfold Q6
 rw [if_pos hright]
 have e1:shG (X1 L Q)=A2 Q.goods:=by
  show ((List.range L.length).map (Y4 L Q)).foldl (fun a x=>a+J3 x.goods x.sold x.left) 0=_
  rw [C5w (Y4 L Q) L.length (gI Q.goods) (fun x=>x.goods) fun i hi=>by
   have hq:=(hL _ (A5 hi)).2.2.1
   show gI Q.goods i * (L.getD i default).qty / (L.getD i default).qty=_
   rw [Int.mul_ediv_cancel _ (by omega)]]
  rw [←h.ngoods,B8T]
 have e2:shT (X1 L Q)=A2 Q.taxes:=by
  show ((List.range L.length).map (Y4 L Q)).foldl (fun a x=>a+J3 x.tax x.sold x.left) 0=_
  rw [C5w (Y4 L Q) L.length (gI Q.taxes) (fun x=>x.tax) fun i hi=>by
   have hq:=(hL _ (A5 hi)).2.2.1
   show gI Q.taxes i * (L.getD i default).qty / (L.getD i default).qty=_
   rw [Int.mul_ediv_cancel _ (by omega)]]
  rw [←h.ntaxes,B8T]
 have e3:K6 (X1 L Q)=true:=by
  unfold K6
  rw [D8N]
  have hm:(X1 L Q).getD 0 default∈X1 L Q:=A5 (by omega)
  have:=hkept _ hm
  exact ⟨_,hm,D7D (by omega)⟩
 show (⟨shG (X1 L Q),shT (X1 L Q),if K6 (X1 L Q)=true then Q.ship else 0,if K6 (X1 L Q)=true then Q.shipTax else 0,0⟩:A2n)=_
 rw [e1,e2,e3];rfl
end Go.Proofs.YtaapofnkmpiknaaGreat
namespace Go.Proofs.YtaapofnkmpiknaaGreat
open Go Go.Ab
attribute [local irreducible] upd del
theorem B5D (t:Tax) (x rate:Int) (hr:0≤rate∧rate≤10000) (st:St):S P 167 [T7 t,eI x,eI rate] st fun v st'=>v=eI (O3 t x rate)∧st'=st:=by
 have hM:O3 t x rate=(V7 x rate (A9z t rate) t.round).1:=rfl
 have hw:IntKind.i64.wrap (10000+rate)=10000+rate:=A4 (by omega) (by omega)
 refine F7 [3] Tryz.func167 ?_
 cases hi:t.incl
 ·have hd:A9z t rate=10000:=by unfold A9z;rw [if_neg (by rw [hi];simp)];rfl
  conv=>whnf
  refine B2 (A9d x rate 10000 t.round st) ?_
  rw [hM,hd]
  generalize V7 x rate 10000 t.round=Y
  conv=>whnf
  exact ⟨rfl,rfl⟩
 ·have hd:A9z t rate=10000+rate:=by unfold A9z;rw [if_pos hi]
  conv=>whnf
  rw [hw]
  refine B2 (A9d x rate (10000+rate) t.round st) ?_
  rw [hM,hd]
  generalize V7 x rate (10000+rate) t.round=Y
  conv=>whnf
  exact ⟨rfl,rfl⟩
theorem C2o (z:K9) (c:C8) (hl:z.rates.length≤100000) (st:St):S P 168 [S9 z,eS c] st fun v st'=>v=eI (F5 z c)∧st'=st:=by
 refine F7 [2] Tryz.func168 ?_
 refine lp z.rates.length [1,2,5] (fun i vs t=>(∀ j,j<i→((z.rates.getD j default).cat.toList==c.toList)=false)∧vs=[eS c,.fptr (S9 z) 0,eI i]∧t=st) ?_ ?_
 ·conv=>whnf
  exact ⟨fun j hj=>absurd hj (by omega),rfl,rfl⟩
 ·rintro i vs t hi ⟨hno,rfl,rfl⟩
  conv=>whnf
  cases h1:decide ((i:Int)<(z.rates.length:Int))
  ·obtain rfl:=B9 h1 hi
   have hf:F5 z c=z.rest:=by unfold F5;rw [B1b hno]
   rw [hf];conv=>whnf
   exact ⟨rfl,rfl⟩
  ·have hi':=D6 h1
   conv=>whnf
   refine E9 ?_
   refine B7 (fun h2=>?_) (fun h2=>?_)<;>rw [h2]
   ·have hf:F5 z c=(z.rates.getD (i:Int).toNat default).rate:=by unfold F5;rw [B1a (p:=fun x:H4=>x.cat.toList==c.toList) hi' h2 hno];rfl
    rw [hf];conv=>whnf
    refine E9 ?_
    exact ⟨rfl,rfl⟩
   ·conv=>whnf
    refine G3 ?_
    exact nx hi' ⟨G9 hno h2,by rw [B4 (by omega)],rfl⟩
theorem C2q (t:Tax) (s:C8) (hl:t.zones.length≤100000) (st:St) :
  S P 166 [T7 t,eS s] st fun v st'=>v=.tuple [S9 ((Z3 t.zones s).getD C8J),.bool (Z3 t.zones s).isSome]∧st'=st:=by
 refine S.post (post:=fun v s'=>F8 st s'∧((∃ z,Z3 t.zones s=some z∧v=.tuple [S9 z,.bool true])∨(Z3 t.zones s=none∧v=.tuple [.agg [eS ⟨#[]⟩,.emp,eI 0,eI 0],.bool false]))) ?_ (fun v s' ⟨hs,h⟩=>⟨_,st,⟨rfl,rfl⟩,by
  rcases h with ⟨z,h1,rfl⟩ | ⟨h1,rfl⟩
  ·rw [h1];exact hs.shift _
  ·rw [h1]
   exact (A7.tuple (A7.cons (Le.shift (Le.agg (T3.cons (Le.refl _) (T3.cons (Le.emp _ _) (T3.refl _)))) _) (A7.keep _ _)) rfl).trans (hs.shift _)⟩)
 refine F7 [2] Tryz.func166 ?_
 intro b4 hb4;conv=>whnf
 refine lp t.zones.length [1,2,4,6] (fun i vs u=>(∀ j,j<i→((t.zones.getD j default).name.toList==s.toList)=false)∧vs=[eS s,.fptr (T7 t) 0,.optr 4 b4 0 0,eI i]∧u=upd st b4 ⟨103,4,1,fun _=>I1 C2j.zero⟩) ?_ ?_
 ·conv=>whnf
  exact ⟨fun j hj=>absurd hj (by omega),rfl,rfl⟩
 ·rintro i vs u hi ⟨hno,rfl,rfl⟩
  conv=>whnf
  cases h1:decide ((i:Int)<(t.zones.length:Int))
  ·obtain rfl:=B9 h1 hi
   have hf:Z3 t.zones s=none:=B1b hno
   conv=>whnf
   refine stW (A0 ..) rfl ?_
   refine L1 (A0 ..) (A6 ..) ?_
   exact ⟨((F8.refl st).upd hb4).over hb4,.inr ⟨hf,rfl⟩⟩
  ·have hi':=D6 h1
   conv=>whnf
   refine E9 ?_
   refine B7 (fun h2=>?_) (fun h2=>?_)<;>rw [h2]
   ·have hf:Z3 t.zones s=some (t.zones.getD (i:Int).toNat default):=B1a (p:=fun z:K9=>z.name.toList==s.toList) hi' h2 hno
    conv=>whnf
    refine E9 ?_
    refine stW (A0 ..) rfl ?_
    refine L1 (A0 ..) (A6 ..) ?_
    exact ⟨((F8.refl st).upd hb4).over hb4,.inl ⟨_,hf,rfl⟩⟩
   ·conv=>whnf
    refine G3 ?_
    exact nx hi' ⟨G9 hno h2,by rw [B4 (by omega)],rfl⟩
end Go.Proofs.YtaapofnkmpiknaaGreat
