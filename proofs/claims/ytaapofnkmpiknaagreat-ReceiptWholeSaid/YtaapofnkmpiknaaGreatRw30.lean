/- Part 30 of the proof: contracts of the functions that the law reaches -/
import Derived.Test.YtaapofnkmpiknaaGreatRw29
set_option maxRecDepth 100000
set_option linter.unusedVariables false
set_option linter.unusedSimpArgs false
namespace Go.Proofs.YtaapofnkmpiknaaGreat
open Go Go.Ab
attribute [local irreducible] upd del
theorem B7H (es:List QE):∃ c1 c2 is,C3o es=.tuple [eI c1,eI c2,.bool is]:=by
 cases es with
 | nil=>exact ⟨0,0,false,rfl⟩
 | cons y es=>exact ⟨y.1,y.2,true,rfl⟩
theorem A9d {c1 c2 d1 d2:Int} {is js:Bool} (h:AV.tuple [eI c1,eI c2,.bool is]=.tuple [eI d1,eI d2,.bool js]):c1=d1∧c2=d2∧is=js:=by
 injection h with h;injection h with h1 h;injection h with h2 h;injection h with h3 h
 injection h1 with _ h1;injection h2 with _ h2;injection h3 with h3
 exact ⟨h1,h2,h3⟩
set_option maxHeartbeats 8000000 in
theorem B9R (t:Tax) (rates nets:List Int) (hn:A4y nets) (hr:rates.length=nets.length) (hq:∀ x∈rates,0≤x∧x≤10000) (st:St) :
  S P 191 [R5 t,B0 rates,B0 nets] st fun v st'=>v=B0 (G7 t rates nets)∧st'=st:=by
 have hnl:=hn.len
 have hol:(G7 t rates nets).length=nets.length:=by unfold G7;rw [D5p,D5O]
 refine S.post (post:=fun v s=>∃ bo,v=.own 1 bo 0 nets.length∧st bo=none∧(∃ y,IsL (G7 t rates nets) y∧s bo=some y)∧E5 st s) ?_ (fun v s ⟨bo,h1,h2,⟨y,⟨f,hy,hf⟩,hb⟩,h4⟩=>⟨_,st,⟨rfl,rfl⟩,by
  subst hy;rw [h1]
  have e:B0 (G7 t rates nets)=.arr 1 nets.length (fun i=>eI (gI (G7 t rates nets) i)):=by unfold B0 A6;rw [hol]
  rw [e]
  exact (N4 hb rfl (by show nets.length≤(G7 t rates nets).length;omega) (fun i hi=>hf i (by omega))).trans ((E5.del h4 h2).shift _)⟩)
 refine F1 [3] Tryz.func191 ?_
 refine mkO rfl rfl rfl (by show 8 * nets.length≤_;omega) (by omega) (by rfl) (fun bo hbo=>?_);conv=>whnf
 refine call (B1x _) (fun v s hv=>?_)
 obtain ⟨q,rfl,hQ⟩:=hv
 conv=>whnf
 refine lp rates.length [2,3,7,8,28,29,30] (fun i vs s=>vs=[B0 nets,.fptr (R5 t) 0,.own 1 bo 0 nets.length,.optr 1 q 0 0,B0 rates,eI rates.length,eI i]∧QSt (upd st bo ⟨2,1,nets.length,fun _=>H1 r2.zero⟩) q true ((List.range i).map (C2B rates)) s) ?_ ?_
 ·conv=>whnf
  exact ⟨rfl,hQ⟩
 clear hQ s
 rintro i vs s hi ⟨rfl,hQ⟩
 conv=>whnf
 cases h1:decide ((i:Int)<(rates.length:Int))
 case true =>
  have hi':=D9 h1
  have hx:=hq (gI rates (i:Int).toNat) (A7 hi')
  have hw:IntKind.i64.wrap (0 - rates.getD (i:Int).toNat default) = -(gI rates (i:Int).toNat):=(A5 (show _≤0 - gI rates (i:Int).toNat by omega) (show 0 - gI rates (i:Int).toNat≤_ by omega)).trans (by show 0 - gI rates (i:Int).toNat=_;omega)
  conv=>whnf
  refine E4 ?_
  rw [hw]
  refine call (A8n _ q _ _ _ _ hQ (by rw [D5p,D5O];omega)) (fun v s' hv=>?_)
  obtain ⟨rfl,hQ2⟩:=hv
  conv=>whnf
  refine F8 ?_
  exact nx hi' ⟨by rw [B3 (by omega)],by rw [D6L,D5P];exact hQ2⟩
 obtain rfl:=C5 h1 hi
 have hQ2:=QSt.perm hQ (A4Z rates).symm
 clear hQ
 conv=>whnf
 refine ⟨[2,3,7,8],fun m vs u=>∃ (D:Int→Bool) (fl:Bool) (L:List Int),m=(A1u rates D).length∧vs=[B0 nets,.fptr (R5 t) 0,.own 1 bo 0 nets.length,.optr 1 q 0 0]∧B2R t rates nets D L∧OQ bo q L fl (A1u rates D) st u,?_,?_⟩
 ·conv=>whnf
  exact ⟨_,fun _=>false,true,List.replicate nets.length 0,rfl,rfl,⟨D6u,fun i hi=>by
   rw [if_neg (by simp)];unfold gI
   rw [D5l,D7D];split<;>rfl⟩,hbo,_,⟨fun _=>H1 r2.zero,by rw [D6u],fun i hi=>by
   unfold gI;rw [D5l,D7D];split<;>rfl⟩,by rw [B5t];exact hQ2⟩
 clear hQ2
 rintro m vs u ⟨D,fl,L,rfl,rfl,hdone,hb0,y,hy,hQ3⟩
 conv=>whnf
 refine B4 (A9h _ q fl _ _ hQ3) ?_
 cases hE:A1u rates D with
 | nil =>
  conv=>whnf
  have hL:=C2z hdone hr hE
  rw [hE] at hQ3
  exact ⟨bo,rfl,hb0,⟨y,by rw [←hL];exact hy,hQ3.sup bo _ (A0 ..)⟩,E5.drop hQ3.sup hb0⟩
 | cons x E =>
  obtain ⟨hD,hEq⟩:=B7r hE
  obtain ⟨i0,hi0,hi0m,hi0r⟩:=C0r hE
  have hsort:=A8a rates D
  have hkey:∀ y∈A1u rates (fun z=>D z||z==x.1),(y.1==x.1)=false:=B3U
  have hmeas:(A1u rates (fun z=>D z||z==x.1)).length<E.length+1:=by
   have h1:=D7l List.length hEq
   rw [D5x,D5p,D5Y] at h1
   have h2:0<(K3 rates x.1).length:=List.length_pos_of_mem hi0m
   omega
  have hnext:=B2S (k:=x.1) hdone hr
  have hparts:(A2w t rates nets x.1).length=(K3 rates x.1).length∧∀ st,S P 238 [eI (N5 t (A2 ((K3 rates x.1).map (gI nets))) (-x.1)),B0 ((K3 rates x.1).map (gI nets))] st fun v st'=>v=.tuple [B0 (A2w t rates nets x.1),eI 0]∧st'=st:=by
   have hw:=A2M (t:=t) hn hr (i:=i0) (hq (gI rates i0) (A7 hi0))
   have e:I7 rates nets i0=(K3 rates x.1).map (gI nets):=by unfold I7;rw [(A0q hi0m).2.2]
   rw [e,hi0r] at hw
   have h3:=(R9 hw).2.1
   refine ⟨by unfold A2w;rw [h3,D5p],fun st=>?_⟩
   exact A8X _ _ hw st
  have hGok:=fun j=>C6J (rates:=rates) (k:=x.1) (j:=j)
  have hrate:0≤-x.1∧-x.1≤10000:=by rw [←hi0r];exact hq (gI rates i0) (A7 hi0)
  have hGl:(K3 rates x.1).length≤1000:=by
   have:(K3 rates x.1).length≤(List.range rates.length).length:=D7N _ _
   rw [D5O] at this;omega
  have hgsum:0≤A2 ((K3 rates x.1).map (gI nets)):=C1 fun v hv=>by
   obtain ⟨j,hj,rfl⟩:=D5G.1 hv
   exact hn.pos _ (A7 (by have:=(A0q hj).2.1;omega))
  have hgs:∀ j,j≤(K3 rates x.1).length→0≤A2 (((K3 rates x.1).take j).map (gI nets))∧A2 (((K3 rates x.1).take j).map (gI nets))≤10000000000000:=fun j hj=>by
   have hsub:(((K3 rates x.1).take j).map (gI nets)).Sublist nets:=by
    have h1:(((K3 rates x.1).take j).map (gI nets)).Sublist ((List.range nets.length).map (gI nets)):=by
     refine List.Sublist.map _ ((List.take_sublist _ _).trans ?_)
     unfold K3;rw [hr];exact D7m
    rw [A5Z] at h1;exact h1
   have h2:=B1U hsub hn.pos
   have h3:=hn.sum
   exact ⟨C1 fun v hv=>hn.pos v (hsub.subset hv),by omega⟩
  rw [hE] at hQ3 hsort
  have hQ0:x::E=QJ (K3 rates x.1) x.1 (A1u rates (fun z=>D z||z==x.1)) 0:=hEq
  generalize K3 rates x.1=G at *
  generalize hRest:A1u rates (fun z=>D z||z==x.1)=Rest at *
  generalize A2w t rates nets x.1=X at *
  clear hEq
  conv=>whnf
  rw [show decide ((((x::E).length:Nat):Int)>0)=true by rw [D5n,D5Y];omega];conv=>whnf
  refine H8 (B4l _ q fl x E _ hQ3 (D6X.1 hsort).1) ?_
  refine H8 (B4l _ q fl x E _ hQ3 (D6X.1 hsort).1) ?_
  have hsortQ:∀ j,j≤G.length→(QJ G x.1 Rest j).Pairwise fun a b=>G3 b a=false:=fun j hj=>by
   rw [hQ0] at hsort
   refine D8i ?_ hsort
   unfold QJ
   rw [List.drop_zero]
   exact List.Sublist.append ((D7Y j G).map _) (List.Sublist.refl _)
  refine lp G.length [2,3,7,8,11,14,15,16,17,18,19] (fun j vs u=>∃ (fl:Bool) (lv wv:AV) (c1 c2:Int) (is:Bool),vs=[B0 nets,.fptr (R5 t) 0,.own 1 bo 0 nets.length,.optr 1 q 0 0,eI x.1,lv,wv,eI (A2 ((G.take j).map (gI nets))),eI c1,eI c2,.bool is]∧C3o (QJ G x.1 Rest j)=.tuple [eI c1,eI c2,.bool is]∧ROut (fun s t=>ROut (OQ bo q L fl (QJ G x.1 Rest j)) 3 1 (fun i=>eI (gN G i)) j s lv t) 2 1 (fun i=>eI (gI (G.map (gI nets)) i)) j st wv u) ?_ ?_
  ·conv=>whnf
   exact ⟨fl,.emp,.emp,x.1,x.2,true,rfl,by rw [←hQ0];rfl,ROut.start (show ROut _ _ _ _ 0 st .emp u from ROut.start (show OQ bo q L fl (QJ G x.1 Rest 0) st u from ⟨hb0,y,hy,by rw [←hQ0];exact hQ3⟩) _ _ _) _ _ _⟩
  rintro j vs w hj ⟨fl2,lv,wv,c1,c2,is,rfl,hpk,hR⟩
  by_cases hjl:j<G.length
  ·have hQn:=C4M (G:=G) (k:=x.1) (Rest:=Rest) hjl
   rw [hQn] at hpk
   obtain ⟨rfl,rfl,rfl⟩:=A9d hpk
   have hGj:=hGok j hjl
   have hxn:0≤gI nets (gN G j).toNat∧gI nets (gN G j).toNat≤A2 nets:=⟨hn.pos _ (A7 (by omega)),J0 hn.pos (A7 (by omega))⟩
   have hns:=hn.sum
   have hg1:=hgs j hj
   have hg2:=hgs (j+1) hjl
   have hgt:((G.take (j+1)).map (gI nets))=((G.take j).map (gI nets))++[gI nets (gN G j).toNat]:=by
    rw [D7q hjl,D5P]
    have:(gN G j).toNat=G[j]:=by show (((G.getD j 0:Nat):Int)).toNat=_;rw [D5l,D5s hjl];rfl
    rw [this];rfl
   have hgm:gI (G.map (gI nets)) j=nets.getD (gN G j).toNat default:=by
    unfold gI
    rw [D5l,D6j,D5s hjl]
    have:(gN G j).toNat=G[j]:=by show (((G.getD j 0:Nat):Int)).toNat=_;rw [D5l,D5s hjl];rfl
    rw [this];rfl
   have hsum:IntKind.i64.wrap (A2 ((G.take j).map (gI nets))+nets.getD (gN G j).toNat default)=A2 ((G.take (j+1)).map (gI nets)):=by
    rw [hgt,F2] at hg2 ⊢
    have e1:A2 [gI nets (gN G j).toNat]=gI nets (gN G j).toNat:=by rw [J3];exact D7A _
    rw [e1] at hg2 ⊢
    exact A5 (show _≤A2 ((G.take j).map (gI nets))+gI nets (gN G j).toNat by omega) (show A2 ((G.take j).map (gI nets))+gI nets (gN G j).toNat≤_ by omega)
   conv=>whnf
   rw [show (x.1==x.1)=true from D7v _];conv=>whnf
   obtain ⟨s0,hw0,s1,hl0,hb1,y1,hy1,hq1⟩:=hR
   rw [hQn] at hq1
   have hsj:=hsortQ j hj
   rw [hQn] at hsj
   refine call (A9i _ q fl2 (x.1,gN G j) (QJ G x.1 Rest (j+1)) _ hq1 (D6X.1 hsj).1) (fun v w' hv=>?_)
   obtain ⟨rfl,hq2⟩:=hv
   have hin:ROut (OQ bo q L false (QJ G x.1 Rest (j+1))) 3 1 (fun i=>eI (gN G i)) j s0 lv w':=⟨s1,hl0,hb1,y1,hy1,hq2⟩
   have hwv:wv=.emp∨∃ b,wv=.own 1 b 0 j:=ROut.head (show ROut (fun s t=>ROut (OQ bo q L false (QJ G x.1 Rest (j+1))) 3 1 (fun i=>eI (gN G i)) j s lv t) 2 1 (fun i=>eI (gI (G.map (gI nets)) i)) j st wv w' from ⟨s0,hw0,hin⟩)
   have hlv:=ROut.head hin
   obtain ⟨d1,d2,js,hpk2⟩:=B7H (QJ G x.1 Rest (j+1))
   have hB1:=B0D bo q L false (QJ G x.1 Rest (j+1))
   rcases hlv with rfl | ⟨bl,rfl⟩<;>rcases hwv with rfl | ⟨bw,rfl⟩
   all_goals
    conv=>whnf
    refine ⟨[2,3,8,9,10],[],[],.qui 0 (.qui 1 (.qui 4 (.qui 5 (.qui 6 (.qui 7 (.two 2 8 (.two 3 8 (.gen 8 (.gen 9 (.gen 10 (.qui 11 (.qui 12 .done))))) (.two 3 9 (.gen 9 (.gen 10 (.qui 11 (.qui 12 .done)))) (.gen 3 (.gen 10 (.qui 11 (.qui 12 .done)))))) (.two 2 9 (.two 3 9 (.gen 9 (.gen 10 (.qui 11 (.qui 12 .done)))) (.gen 3 (.gen 10 (.qui 11 (.qui 12 .done))))) (.gen 2 (.gen 3 (.gen 10 (.qui 11 (.qui 12 .done)))))))))))),by kernel_rfl,?_⟩;conv=>whnf
    refine E4 ?_
    repeat' (refine And.intro ?_ ?_<;>(conv=>whnf))
    all_goals
     refine ROut.app (q:=r3) hB1 rfl rfl rfl rfl rfl (f:=fun i=>eI (gN G i)) (by rfl) (by show (j+1) * 8≤140737488355328;omega) hin (fun lv' w2 hin2=>?_)
     have hout2:ROut (fun s t=>ROut (OQ bo q L false (QJ G x.1 Rest (j+1))) 3 1 (fun i=>eI (gN G i)) (j+1) s lv' t) 2 1 (fun i=>eI (gI (G.map (gI nets)) i)) j st _ w2:=⟨s0,hw0,hin2⟩
     conv=>whnf
     refine ROut.app (q:=r2) (T7 hB1 _ _ _ _ _) rfl rfl rfl rfl rfl (f:=fun i=>eI (gI (G.map (gI nets)) i)) (by show _=eI _;rw [hgm];rfl) (by show (j+1) * 8≤140737488355328;omega) hout2 (fun wv' w3 hout3=>?_);conv=>whnf
     refine E4 ?_
     rw [hsum]
     obtain ⟨s2,hw2,s3,hl3,hb3,y3,hy3,hq3⟩:=hout3
     have hpc:=C3v _ q false _ _ hq3 (hsortQ (j+1) hjl)
     rw [hpk2] at hpc
     refine H8 hpc ?_
     refine F8 ?_
     exact nx hjl ⟨false,lv',wv',d1,d2,js,rfl,hpk2,⟨s2,hw2,s3,hl3,hb3,y3,hy3,hq3⟩⟩
  ·obtain rfl:j=G.length:=by omega
   rw [C1P] at hpk
   have hexit:(is&&(c1==x.1))=false:=by
    cases Rest with
    | nil=>obtain ⟨rfl,rfl,rfl⟩:=A9d hpk;rfl
    | cons r Rest=>obtain ⟨rfl,rfl,rfl⟩:=A9d hpk;exact hkey r (D5N ..)
   rw [D5w]
   have hM:=fun u=>B7y t (A2 (G.map (gI nets))) (-x.1) hrate u
   have hwn:IntKind.i64.wrap (0 - x.1) = -x.1:=(A5 (by omega) (by omega)).trans (by omega)
   case' neg=>cases is
   case' neg.true=>have hne:(c1==x.1)=false:=hexit
   case' neg.true=>conv=>whnf
   case' neg.true=>rw [hne]
   all_goals
    conv=>whnf
    rw [hwn]
    refine B4 (hM _) ?_
    generalize N5 t (A2 (G.map (gI nets))) (-x.1)=M at hparts
    conv=>whnf
    obtain ⟨w2,hsh,hR2⟩:=ROut.shift (T7 (B0D bo q L fl2 Rest) _ _ _ _ _) (show ROut (fun s t=>ROut (OQ bo q L fl2 Rest) 3 1 (fun i=>eI (gN G i)) G.length s lv t) 2 1 (fun i=>eI (gI (G.map (gI nets)) i)) G.length st wv w by rw [C1P] at hR;exact hR)
    have e0:AV.arr 1 G.length (fun i=>eI (gI (G.map (gI nets)) i))=B0 (G.map (gI nets)):=by unfold B0 A6;rw [D5p]
    rw [e0] at hsh
    refine F4 (args':=[eI M,B0 (G.map (gI nets))]) (A8.cons (A8.keep _ _) hsh) (B4 (hparts.2 _) ?_);conv=>whnf
    refine lp X.length [2,3,7,8,14,97,98,99] (fun j vs u=>vs=[B0 nets,.fptr (R5 t) 0,.own 1 bo 0 nets.length,.optr 1 q 0 0,lv,B0 X,eI X.length,eI j]∧ROut (OQ bo q (A4l L G X j) fl2 Rest) 3 1 (fun i=>eI (gN G i)) G.length st lv u) ?_ ?_
    ·conv=>whnf
     exact ⟨rfl,hR2⟩
    rintro j vs v hjx ⟨rfl,hR3⟩
    have hPl:=A8m L G X j
    have hdl:=hdone.1
    conv=>whnf
    cases h5:decide ((j:Int)<(X.length:Int))
    case' true =>
     have hj5:=D9 h5
     have hGj:=hGok j (by omega)
     obtain ⟨s0,hcl,h1o,yo,⟨fo,rfl,hfo⟩,h2o⟩:=hR3
     obtain ⟨b,g,h3,rfl,rfl,h4⟩:∃ b g,st b=none∧lv=.own 1 b 0 G.length∧s0=upd st b ⟨3,1,G.length,g⟩∧∀ k,k<G.length→g k=eI (gN G k):=by
      rcases hcl with ⟨h0,_⟩ | ⟨_,b,g,h3,h4,h5,h6⟩
      ·omega
      ·exact ⟨b,g,h3,h4,h5,h6⟩
     have hbb:b≠bo:=fun e=>by subst e;rw [A0] at h1o;cases h1o
     conv=>whnf
     refine E4 ?_
     refine E4 ?_
     refine ldV (h2o.sup b _ (by rw [A9 hbb];exact A0 ..)) rfl (by show 0+((j:Nat):Int).toNat<G.length;omega) (v:=eI (gN G j)) (by show g (0+((j:Nat):Int).toNat)=_;rw [show 0+((j:Nat):Int).toNat=j by omega];exact h4 j (by omega)) ?_;conv=>whnf
     refine E4 ?_
     refine stV (h2o.sup bo _ (A0 ..)) rfl (by show 0+(gN G j).toNat<(A4l L G X j).length;omega) (hfo (0+(gN G j).toNat) (by omega)) (by rfl) ?_;conv=>whnf
     refine F8 ?_
     have hset:IsL (A4l L G X (j+1)) ⟨2,1,(A4l L G X j).length,H7 fo (0+(gN G j).toNat) (eI (gI X (j:Int).toNat))⟩:=by
      have:=IsL.set (i:=(gN G j).toNat) (v:=gI X j) hfo
      rw [show 0+(gN G j).toNat=(gN G j).toNat by omega,show (j:Int).toNat=j by omega]
      exact this
     have hw2:=(B8J q fl2 Rest).write (y':=⟨2,1,(A4l L G X j).length,H7 fo (0+(gN G j).toNat) (eI (gI X (j:Int).toNat))⟩) h2o (A0 ..)
     rw [B6] at hw2
     exact nx hj5 ⟨by rw [B3 (by omega)],⟨_,hcl,h1o,_,hset,hw2⟩⟩
    obtain rfl:=C5 h5 hjx
    conv=>whnf
    refine F8 ?_
    have hfin:=ROut.dropped (B0D bo q (A4l L G X X.length) fl2 Rest) hR3
    rw [hparts.1] at hfin
    exact ⟨Rest.length,hmeas,_,fl2,A4l L G X G.length,by rw [hRest],rfl,hnext,by rw [hRest];exact hfin⟩
end Go.Proofs.YtaapofnkmpiknaaGreat
namespace Go.Proofs.YtaapofnkmpiknaaGreat
open Go Go.Ab
theorem B2r (p:B1) (id K:Int):A2L (P1 p id K):=by
 have hs:=(A2O p.scope).2
 have hp:=A4T p.parts
 have ht5:=(A2P p.tiers 5000 (.inl rfl)).2
 have ht6:=(A2P p.tiers 5 (.inr rfl)).2
 refine ⟨?_,?_,?_,?_,?_,?_,?_⟩
 ·have:=U5 (B5n id);show (idN id).size≤_;omega
 ·have:=(A9z p).2;show (A1Q p).size≤_;omega
 ·have:=(B0I p).2;show (A3l p).size≤_;omega
 ·show A1U (if K=4∨K=7 then ⟨[],[]⟩ else P9 p.scope)
  split
  ·exact A5G.2
  ·exact hs
 ·show (if K=4 then P4 p.parts else []).length≤_
  split
  ·omega
  ·exact D5L _
 ·show ∀ x∈(if K=4 then P4 p.parts else []),_
  split
  ·exact fun x hx=>(hp.2 x hx).2
  ·exact fun x hx=>absurd hx D6R
 ·show (if K=5 then P5 p.tiers 5000 else if K=6 then P5 p.tiers 5 else []).length≤_
  split
  ·omega
  ·split
   ·omega
   ·exact D5L _
theorem B5S (l:List K2) (k:Nat) (hk:k<3):B6P (D5 l k):=by
 have hn:=D5I.1 A7D k (D5B.2 hk)
 have hz:=U5 hn
 unfold D5
 split
 ·obtain ⟨h1,h2,h3⟩:=A8l (l.getD k default).rates
  generalize S3 (l.getD k default).rates=R at h1 h2 h3 ⊢
  exact ⟨by show R.length≤_;omega,by show (P7 k).size≤_;omega,fun x hx=>by have:=(h2 x hx).2;show x.cat.size≤_;omega⟩
 ·exact ⟨by show 0≤_;decide,by show (P7 k).size≤_;omega,fun x hx=>absurd hx D6R⟩
theorem B7L (t:Tax):B2D (K8 t):=by
 refine ⟨by show ((List.range 3).map _).length≤_;rw [D5p,D5O];decide,fun z hz=>?_⟩
 obtain ⟨k,hk,rfl⟩:=D5G.1 hz
 exact B5S _ k (D5B.1 hk)
theorem B4j (r:G6):A7I (J2 r):=by
 have h0:=A1X r.items
 have h2:=(A0w r.policy.order).2
 have h3:=(A0w r.policy.credit).2
 refine ⟨by show (F9 r.items).length≤_;omega,fun x hx=>?_,fun p hp=>?_,B7L r.tax,by show (N9 r.policy.order).length≤_;omega,by show (N9 r.policy.credit).length≤_;omega⟩
 ·have:=A6Y hx
  exact ⟨by have:=this.2.1;show x.sku.size≤_;omega,by have:=this.2.2;show x.cat.size≤_;omega⟩
 ·obtain ⟨q,id,K,_,rfl⟩:=A5Y hp
  exact B2r q id K
end Go.Proofs.YtaapofnkmpiknaaGreat
namespace Go.Proofs.YtaapofnkmpiknaaGreat
open Go Go.Ab
attribute [local irreducible] upd del
theorem ROut.own {R:St→St→Prop} {ty e n:Nat} {fo:Nat→AV} {s t:St} {sv:AV} (h:ROut R ty e fo (n+1) s sv t):∃ b,sv=.own e b 0 (n+1):=by
 obtain ⟨s0,⟨h1,_⟩ | ⟨_,b,_,_,h1,_⟩,h2⟩:=h
 ·cases h1
 ·exact ⟨b,h1⟩
theorem RD.wr {dl:List A1G} {gr:List C8} {dv gv:AV} {s t:St} {b:Nat} {y y':L6} (h:RD dl gr dv gv s t) (hb:s b=some y):RD dl gr dv gv (upd s b y') (upd t b y'):=(A3u dl gr dv gv).write h hb
theorem RD.sup {dl:List A1G} {gr:List C8} {dv gv:AV} {s t:St} (h:RD dl gr dv gv s t):E5 s t:=(A3u dl gr dv gv).sup h
theorem RD.start (s:St):RD [] [] .emp .emp s s:=ROut.start (ROut.start (E5.refl s) _ _ _) _ _ _
theorem RD.appG {dl:List A1G} {gr:List C8} {dv gv:AV} {s t:St} {y:C8} {x:AV} {k:KK} {g:Nat→AV} (h:RD dl gr dv gv s t) (hs:Z5 1 t x=some (1,g)) (hg:g 0=eS y) (hb:gr.length≤1000)
  (hk:∀ gv' t',RD dl (gr++[y]) dv gv' s t'→k gv' t'):A5p T 34 gv x t k:=by
 obtain ⟨s0,hc,h⟩:=h
 refine ROut.app (q:=r9) (f:=A6U (gr++[y])) J1 rfl rfl rfl rfl hs (by rw [hg];simp only [A6U,A7X]) (by show (gr.length+1) * 16≤140737488355328;omega) (ROut.congr h fun k hk=>by simp only [A6U];rw [A4e hk]) (fun sv' t' h'=>hk sv' t' ⟨s0,hc,?_⟩)
 show ROut _ _ _ _ (gr++[y]).length _ _ _
 rw [D5x];exact h'
theorem RD.appD {dl:List A1G} {gr:List C8} {dv gv:AV} {s t:St} {y:A1G} {x:AV} {k:KK} {g:Nat→AV} (h:RD dl gr dv gv s t) (hs:Z5 2 t x=some (1,g)) (hg:g 0=B8R y) (hb:dl.length≤1000)
  (hk:∀ b t',RD (dl++[y]) gr (.own 2 b 0 (dl.length+1)) gv s t'→k (.own 2 b 0 (dl.length+1)) t'):A5p T 111 dv x t k:=by
 refine ROut.app (q:=C5T) (f:=A1q (dl++[y])) (A7P _ _) rfl rfl rfl rfl hs (by rw [hg];simp only [A1q,A7X]) (by show (dl.length+1) * 24≤140737488355328;omega) (ROut.congr h fun k hk=>by simp only [A1q];rw [A4e hk]) (fun sv' t' h'=>?_)
 obtain ⟨b,rfl⟩:=ROut.own h'
 exact hk b t' (RD.of h')
theorem RD.deals {dl:List A1G} {gr:List C8} {dv gv:AV} {s t:St} (h:RD dl gr dv gv s t):(dl=[]∧dv=.emp)∨∃ bd g,dv=.own 2 bd 0 dl.length∧s bd=none∧t bd=some ⟨221,2,dl.length,g⟩∧∀ k,k<dl.length→g k=A1q dl k:=by
 obtain ⟨s0,hc,hg0⟩:=h
 rcases hc with ⟨h0,h1,rfl⟩ | ⟨h0,b,g0,hb,h1,rfl,hgg⟩
 ·exact .inl ⟨D5V h0,h1⟩
 ·exact .inr ⟨b,g0,h1,hb,(A7P _ _).sup hg0 b _ (A0 ..),hgg⟩
theorem RD.groups {dl:List A1G} {gr:List C8} {dv gv:AV} {s t:St} (h:RD dl gr dv gv s t):(gv=.emp∧gr=[])∨∃ b g,gv=.own 1 b 0 gr.length∧t b=some ⟨9,1,gr.length,g⟩∧∀ k,k<gr.length→g k=eS (gr.getD k default):=by
 obtain ⟨s0,hc,s1,hc2,hs⟩:=h
 rcases hc2 with ⟨h0,h1,rfl⟩ | ⟨h0,b,g0,hb,h1,rfl,hgg⟩
 ·exact .inl ⟨h1,D5V h0⟩
 ·exact .inr ⟨b,g0,h1,hs b _ (A0 ..),hgg⟩
theorem B0N {σ : Type} (px : σ→PSt) (step : σ→B1→σ) (sm:B1→Bool) (l:List B1) (a : σ) (o:List Int) (x:Int):Y5 px step sm l a (o++[x])=if sm (E7 l x)=true then goB px step (Y5 px step sm l a o) (E7 l x) else Y5 px step sm l a o:=by
 unfold Y5
 rw [D7h,D7n]
 by_cases h:sm (E7 l x)=true
 ·rw [if_pos h,D6s (p:=fun x=>sm (E7 l x)) h];rfl
 ·rw [if_neg h,D6x (p:=fun x=>sm (E7 l x)) h];rfl
def named (l:List C8):List C8:=l.filter fun g=>!N0 g
theorem B1e (l:List C8) (g:C8):named (l++[g])=named l++(if N0 g=true then [] else [g]):=by
 unfold named
 rw [D7h]
 congr 1
 cases h:N0 g
 ·rw [D6s (p:=fun g=>!N0 g) (by rw [h];rfl)];rfl
 ·rw [D6x (p:=fun g=>!N0 g) (by rw [h];simp)];rfl
theorem C4l (l:List C8) (g:C8):(!N0 g&&l.any fun y=>y.toList==g.toList)=!(N0 g||!inB (named l) g):=by
 cases hn:N0 g
 ·rw [D5S,D5C,D5Z,D6F]
  unfold inB named
  rw [←D7u,D6Q,D6Q]
  constructor
  ·rintro ⟨y,h1,h2⟩
   refine ⟨y,D6o.2 ⟨h1,?_⟩,by rw [D8t];exact h2⟩
   unfold N0 at hn ⊢
   rw [eq_of_beq h2,hn];rfl
  ·rintro ⟨y,h1,h2⟩
   exact ⟨y,(D6o.1 h1).1,by rw [D8t];exact h2⟩
 ·rfl
theorem C6K {σ : Type} {px : σ→PSt} {step : σ→B1→σ} {a : σ} {pr:B1} {G:List C8} (hG:named G=(px a).groups) :
  goB px step a pr=if (!N0 pr.group&&G.any fun y=>y.toList==pr.group.toList)=true then a else step a pr:=by
 unfold goB
 rw [C4l,hG]
 cases (N0 pr.group||!inB (px a).groups pr.group)<;>rfl
theorem C4S {items:List Ab.Item} {p:PSt} {pr:B1} (hk:T3 pr=true) {G:List C8} (hG:named G=p.groups) :
  goB (fun p=>p) (A4D items) p pr=if (!N0 pr.group&&G.any fun y=>y.toList==pr.group.toList)=true then p else A4D items p pr:=C6K (px:=fun p=>p) hG
theorem C0w (l:List C8):(named l).length≤l.length:=D7N _ _
set_option maxHeartbeats 8000000 in
theorem C3B (r:G6) (codes:List C8) (l:List E8) (hf:A0J r) (hsm:A7I r) (hR:U6 r=true) (hcn:Sm codes.length) (hcs:∀ s∈codes,Sm s.size) (hln:Sm l.length) (st:St) :
  S P 115 [G9 r,C7 codes,A6 3 I0 l] st fun v st' =>
   v=(if D7 r codes l=0 then .tuple [A0T (Z1 r l (U1 r.promos codes) (U1 r.promos codes)),eI 0] else .tuple [A0T ⟨[],0,0,[]⟩,eI (D7 r codes l)])∧st'=st:=by
 obtain ⟨X,hX⟩:∃ X,X=Z1 r l (U1 r.promos codes) (U1 r.promos codes):=⟨_,rfl⟩
 refine S.post (post:=fun v st'=>(D7 r codes l≠0∧v=.tuple [.agg [.emp,eI 0,eI 0,.emp],eI (D7 r codes l)]∧E5 st st') ∨
   (D7 r codes l=0∧∃ bn fn dv,v=.tuple [.agg [.own 1 bn 0 l.length,eI X.net,eI X.ship,dv],eI 0] ∧
    st bn=none∧st' bn=some ⟨2,1,l.length,fn⟩∧(∀ k,k<l.length→fn k=eI (gI X.nets k))∧E5 st st' ∧
    ((X.deals=[]∧dv=.emp)∨∃ bd g,dv=.own 2 bd 0 X.deals.length∧st bd=none∧bd≠bn∧st' bd=some ⟨221,2,X.deals.length,g⟩∧∀ k,k<X.deals.length→g k=A1q X.deals k))) ?_
  (fun v st' hv=>by
   rcases hv with ⟨h1,rfl,hs⟩ | ⟨h1,bn,fn,dv,rfl,h4,h5,h6,hs,h7⟩
   ·refine ⟨_,st,⟨rfl,rfl⟩,?_⟩
    rw [if_neg h1]
    refine (hs.shift _).trans (A8.tuple (A8.cons (A8.agg ?_) (A8.keep _ _)) rfl)
    exact A8.cons (H9 1 _) (A8.cons (A8.keep [eI 0] _) (A8.cons (A8.keep [eI 0] _) (H9 2 _)))
   ·refine ⟨_,st,⟨rfl,rfl⟩,?_⟩
    rw [if_pos h1,←hX]
    refine A8.tuple (A8.cons (A8.agg ?_) (A8.keep _ _)) rfl
    have hnl:X.nets.length=l.length:=by rw [hX];show (V9 _ _).length=_;unfold V9;rw [D5p,D5O]
    clear hX
    have e1:B0 X.nets=.arr 1 l.length (fun k=>eI (gI X.nets k)):=by unfold B0 A6;rw [hnl]
    refine A8.cons (t:=del st' bn) ?_ (A8.cons (A8.keep [eI X.net] _) (A8.cons (A8.keep [eI X.ship] _) ?_))
    ·rw [e1];exact N4 h5 rfl (D5u _) h6
    ·rcases h7 with ⟨h8,rfl⟩ | ⟨bd,g,rfl,h8,h9,h10,h11⟩
     ·rw [h8]
      exact ((E5.del hs h4).shift _).trans (H9 2 _)
     ·refine (N4 (b:=bd) (y:=⟨221,2,X.deals.length,g⟩) (f:=A1q X.deals) (by rw [A2r h9];exact h10) rfl (D5u _) h11).trans ?_
      exact (E5.del (E5.del hs h4) h8).shift _)
 have hC:=hR
 unfold U6 A9G at hC
 simp only [D5r] at hC
 obtain ⟨⟨⟨⟨_,hpc⟩,_⟩,hfee,hfree⟩,_⟩:=hC
 rw [E6] at hfee hfree
 have hpk:D7 r codes l=if S4 codes=false then 2 else O2 (known r.items) l:=by unfold D7;rw [if_neg (by rw [hR];simp)]
 refine F1 [3,15,20] Tryz.func115 ?_
 intro b6 hb6;conv=>whnf
 refine H8 (B7R r hsm hR _) ?_
 refine B4 (C3z codes hcn hcs _) ?_
 have h6s:∀ x:L6,E5 st (upd st b6 x):=fun x=>(E5.refl st).upd hb6
 cases hcc:S4 codes
 ·rw [if_pos hcc] at hpk
  have hk0:D7 r codes l≠0:=by rw [hpk];decide
  conv=>whnf
  refine X1 (A0 ..) rfl ?_
  refine I1 (A0 ..) (A4 ..) ?_
  exact .inl ⟨hk0,by rw [hpk];rfl,(h6s _).over hb6⟩
 rw [if_neg (by rw [hcc];simp)] at hpk;conv=>whnf
 refine B4 (C3y r.items l hsm.n hln _) ?_
 rw [←hpk];conv=>whnf
 cases h1:(D7 r codes l != 0)
 case true =>
  have hk0:D7 r codes l≠0:=by simpa using h1
  conv=>whnf
  refine X1 (A0 ..) rfl ?_
  refine I1 (A0 ..) (A4 ..) ?_
  exact .inl ⟨hk0,rfl,(h6s _).over hb6⟩
 have hk0:D7 r codes l=0:=by simpa using h1
 have hck:=A6v hk0
 have hli:=hck.lines
 have hlen:=hli.len
 have hus0:=B4K hli
 have hitl:(C2 r.items l).length=l.length:=D5p ..
 obtain ⟨u1,u2,u3⟩:=A2m l hli.line l.length (D5u _)
 conv=>whnf
 refine ⟨[],[],List.range 13,by kernel_rfl,?_⟩;conv=>whnf
 refine cqW (C3F l hlen hli.line (eq_of_beq hli.may) hus0.ok.len _) ?_
 refine cqW (B5X r.items l hsm.n hlen hli.known _) ?_
 refine cqW (C0Z r.promos codes hpc hcn _) ?_
 have hol:(U1 r.promos codes).length≤60:=by
  rw [(A4i _ _).length_eq]
  have:=A1b r.promos codes r.promos.length
  have:=hck.few;omega
 have hom:∀ x∈U1 r.promos codes,0≤x∧x.toNat<r.promos.length:=fun x hx=>A0v ((A4i _ _).mem_iff.1 hx)
 have hXd:X=⟨V9 l.length (p1B r l (U1 r.promos codes)).us,N7 (p1B r l (U1 r.promos codes)),(p2B r l (p1B r l (U1 r.promos codes)) (U1 r.promos codes)).2,(p2B r l (p1B r l (U1 r.promos codes)) (U1 r.promos codes)).1.deals⟩:=hX
 clear hX
 generalize U1 r.promos codes=o at *
 generalize hs6:(upd st b6 _)=s6 at *
 have h6:s6 b6=some ⟨170,4,1,fun _=>H1 B7O.zero⟩:=by rw [←hs6];exact A0 ..
 have hst6:E5 st s6:=by rw [←hs6];exact h6s _
 clear hs6
 refine mkO rfl rfl rfl (by show 8 * l.length≤_;omega) (by omega) (by rfl) (fun bn hbn=>?_);conv=>whnf
 intro bp hbp
 have hnb:bn≠bp:=fun e=>by subst e;rw [A0] at hbp;cases hbp
 have hbp6:s6 bp=none:=by rw [A9 hnb.symm] at hbp;exact hbp
 have hb6p:b6≠bp:=fun e=>by subst e;rw [h6] at hbp6;cases hbp6
 have hb6n:b6≠bn:=fun e=>by subst e;rw [h6] at hbn;cases hbn
 have hstn:st bn=none:=hst6.none hbn
 have hstp:st bp=none:=hst6.none hbp6
 conv=>whnf
 refine stU (A0 ..) rfl ?_
 rw [B6];conv=>whnf
 have hat:∀ {dl:List A1G} {gr:List C8} {dv gv:AV} {Y Z:L6} {t:St},RD dl gr dv gv (upd (upd s6 bn Y) bp Z) t→t bn=some Y∧t bp=some Z:=fun h=>⟨h.sup bn _ (by rw [A9 hnb,A0]),h.sup bp _ (A0 ..)⟩
 have hwn:∀ {dl:List A1G} {gr:List C8} {dv gv:AV} {Y Z Y':L6} {t:St},RD dl gr dv gv (upd (upd s6 bn Y) bp Z) t→RD dl gr dv gv (upd (upd s6 bn Y') bp Z) (upd t bn Y'):=fun {_ _ _ _ Y Z Y' t} h=>by
  have:=h.wr (b:=bn) (y':=Y') (by rw [A9 hnb,A0])
  rw [Q5 hnb.symm,B6] at this;exact this
 have hwp:∀ {dl:List A1G} {gr:List C8} {dv gv:AV} {Y Z Z':L6} {t:St},RD dl gr dv gv (upd (upd s6 bn Y) bp Z) t→RD dl gr dv gv (upd (upd s6 bn Y) bp Z') (upd t bp Z'):=fun {_ _ _ _ Y Z Z' t} h=>by
  have:=h.wr (b:=bp) (y':=Z') (A0 ..)
  rw [B6] at this;exact this
 have htk:∀ {i:Nat},i<o.length→o.take (i+1)=o.take i++[gI o i]:=fun h=>K1 h
 refine lp o.length [3,6,9,10,11,12,13,14] (fun i vs t=>∃ (p:PSt) (dv gv:AV) (G:List C8) (fp:Nat→AV),p=Y5 (fun p=>p) (A4D (C2 r.items l)) T3 r.promos ⟨U3 l,[],[]⟩ (o.take i) ∧
   vs=[.fptr (G9 r) 0,.optr 4 b6 0 0,C6 p.us,A6 4 E3 (C2 r.items l),B0 o,.optr 4 bp 0 0,gv,eI i] ∧
   RD p.deals G dv gv (upd (upd s6 bn ⟨2,1,l.length,fun _=>H1 r2.zero⟩) bp ⟨170,4,1,fp⟩) t∧fp 0=.agg [.own 1 bn 0 l.length,eI 0,eI 0,dv] ∧
   named G=p.groups∧G.length≤i∧p.deals.length≤i∧A6Q (C2 r.items l) p.us∧∃ x,Off (U3 l) p.us x) ?_ ?_
 ·conv=>whnf
  exact ⟨⟨U3 l,[],[]⟩,.emp,.emp,[],_,rfl,rfl,RD.start _,A4 ..,rfl,D5u _,D5u _,hus0,0,Off.refl hus0.ok⟩
 ·rintro i vs t hi ⟨p,dv,gv,G,fp,hp,rfl,hR,hfp,hG,hGn,hDn,hus,x,hoff⟩
  conv=>whnf
  cases hd:decide ((i:Int)<(o.length:Int))
  case true =>
   have hi':=D9 hd
   have hx:=hom _ (A7 hi')
   have hx0:0≤gI o (i:Int).toNat:=hx.1
   have hx1:(gI o (i:Int).toNat).toNat<r.promos.length:=hx.2
   have hpm:E7 r.promos (gI o i)∈r.promos:=A7 hx.2
   have hpr:E7 r.promos (gI o i)=r.promos.getD (gI o (i:Int).toNat).toNat default:=rfl
   have hps:PSm (E7 r.promos (gI o i)):=⟨hsm.promos _ hpm,hck.promo _ hpm,hf.fit _ hpm⟩
   have hnext:=B0N (fun p=>p) (A4D (C2 r.items l)) T3 r.promos ⟨U3 l,[],[]⟩ (o.take i) (gI o i)
   rw [←htk hi',←hp,hpr] at hnext
   rw [hpr] at hps;conv=>whnf
   refine ⟨[8,9],[1,5,7],List.range 10,by kernel_rfl,?_⟩;conv=>whnf
   refine ⟨_,fun s _=>⟨rfl,rfl⟩,?_⟩;conv=>whnf
   refine E4 ?_
   refine ⟨_,fun s _=>⟨rfl,rfl⟩,?_⟩;conv=>whnf
   refine ⟨rfl,⟨by show 0≤gI o (i:Int).toNat;omega,by show gI o (i:Int).toNat<(r.promos.length:Int);omega⟩,?_⟩;conv=>whnf
   refine ⟨_,fun s _=>⟨rfl,rfl⟩,?_⟩;conv=>whnf
   have hend:∀ {q:PSt} {dv' gv':AV} {G':List C8} {fp':Nat→AV} {t':St},q=Y5 (fun p=>p) (A4D (C2 r.items l)) T3 r.promos ⟨U3 l,[],[]⟩ (o.take (i+1))→RD q.deals G' dv' gv' (upd (upd s6 bn ⟨2,1,l.length,fun _=>H1 r2.zero⟩) bp ⟨170,4,1,fp'⟩) t'→fp' 0=.agg [.own 1 bn 0 l.length,eI 0,eI 0,dv'] →
     named G'=q.groups→G'.length≤i+1→q.deals.length≤i+1→A6Q (C2 r.items l) q.us→(∃ x,Off (U3 l) q.us x)→∃ (p:PSt) (dv gv:AV) (G:List C8) (fp:Nat→AV),p=Y5 (fun p=>p) (A4D (C2 r.items l)) T3 r.promos ⟨U3 l,[],[]⟩ (o.take (i+1)) ∧
     [.fptr (G9 r) 0,.optr 4 b6 0 0,C6 q.us,A6 4 E3 (C2 r.items l),B0 o,.optr 4 bp 0 0,gv',eI (IntKind.i64.wrap ((i:Int)+1))]=[.fptr (G9 r) 0,.optr 4 b6 0 0,C6 p.us,A6 4 E3 (C2 r.items l),B0 o,.optr 4 bp 0 0,gv,eI ((i+1:Nat):Int)] ∧
     RD p.deals G dv gv (upd (upd s6 bn ⟨2,1,l.length,fun _=>H1 r2.zero⟩) bp ⟨170,4,1,fp⟩) t'∧fp 0=.agg [.own 1 bn 0 l.length,eI 0,eI 0,dv] ∧
     named G=p.groups∧G.length≤i+1∧p.deals.length≤i+1∧A6Q (C2 r.items l) p.us∧∃ x,Off (U3 l) p.us x:=fun {q dv' gv' G' fp' t'} h1 h2 h3 h4 h5 h6 h7 h8=>⟨q,dv',gv',G',fp',h1,by rw [B3 (by omega)],h2,h3,h4,h5,h6,h7,h8⟩
   cases h7:((r.promos.getD (gI o (i:Int).toNat).toNat default).kind==7)
   case true =>
    rw [if_neg (by unfold T3;rw [h7];simp)] at hnext;conv=>whnf
    refine F8 ?_
    exact nx hi' (hend hnext.symm hR hfp hG (by omega) (by omega) hus ⟨x,hoff⟩)
   case false =>
    have hns:T3 (r.promos.getD (gI o (i:Int).toNat).toNat default)=true:=by unfold T3;rw [h7];rfl
    rw [if_pos hns,C4S hns hG] at hnext;conv=>whnf
    refine B4 (B6i G (r.promos.getD (gI o (i:Int).toNat).toNat default).group (by omega) gv _ hR.groups) ?_
    cases htk:(!N0 (r.promos.getD (gI o (i:Int).toNat).toNat default).group&&G.any fun y=>y.toList==(r.promos.getD (gI o (i:Int).toNat).toNat default).group.toList)
    case true =>
     rw [if_pos htk] at hnext;conv=>whnf
     refine F8 ?_
     exact nx hi' (hend hnext.symm hR hfp hG (by omega) (by omega) hus ⟨x,hoff⟩)
    case false =>
     rw [if_neg (by rw [htk];simp)] at hnext
     have hk7:(r.promos.getD (gI o (i:Int).toNat).toNat default).kind≠7:=by simpa using h7
     obtain ⟨y,hoy⟩:=B4Z hus hps.fit hps.right hk7
     have hus2:=hus.off hoy
     have hof2:=hoff.trans hoy
     rw [←hnext] at hus2 hof2
     have hAs:A4D (C2 r.items l) p (r.promos.getD (gI o (i:Int).toNat).toNat default)=if (Z7 (C2 r.items l) p.us (r.promos.getD (gI o (i:Int).toNat).toNat default)).2>0 then A1x ⟨(Z7 (C2 r.items l) p.us (r.promos.getD (gI o (i:Int).toNat).toNat default)).1,p.deals,p.groups⟩ (r.promos.getD (gI o (i:Int).toNat).toNat default) (Z7 (C2 r.items l) p.us (r.promos.getD (gI o (i:Int).toNat).toNat default)).2 else p:=rfl
     conv=>whnf
     refine call (C7V (C2 r.items l) p.us (r.promos.getD (gI o (i:Int).toNat).toNat default) hps hk7 hus _) (fun v t' hv=>?_)
     obtain ⟨⟨z,rfl,hz⟩,rfl⟩:=hv
     conv=>whnf
     cases hgt:decide ((Z7 (C2 r.items l) p.us (r.promos.getD (gI o (i:Int).toNat).toNat default)).2>0)
     case false =>
      rw [if_neg (D5q hgt)] at hAs
      rw [hAs] at hnext;conv=>whnf
      refine F8 ?_
      exact nx hi' (hend hnext.symm hR hfp hG (by omega) (by omega) hus ⟨x,hoff⟩)
     case true =>
      have hgt':=D5o hgt
      rw [if_pos hgt'] at hAs
      rw [hAs] at hnext
      obtain rfl:=hz hgt'
      conv=>whnf
      refine RD.appG (y:=(r.promos.getD (gI o (i:Int).toNat).toNat default).group) hR rfl rfl (by omega) (fun gv' t1 hR1=>?_);conv=>whnf
      have hdv:=ROut.head hR1
      rcases hdv with rfl | ⟨bo,rfl⟩
      all_goals
       refine I1 (hat hR1).2 hfp ?_
       refine RD.appD (y:=⟨(r.promos.getD (gI o (i:Int).toNat).toNat default).id,(Z7 (C2 r.items l) p.us (r.promos.getD (gI o (i:Int).toNat).toNat default)).2⟩) hR1 rfl (by rfl) (by omega) (fun bd t2 hR2=>?_);conv=>whnf
       refine X1 (hat hR2).2 hfp ?_
       refine F8 ?_
       refine nx hi' ?_
       have hD:(A1x ⟨(Z7 (C2 r.items l) p.us (r.promos.getD (gI o (i:Int).toNat).toNat default)).1,p.deals,p.groups⟩ (r.promos.getD (gI o (i:Int).toNat).toNat default) (Z7 (C2 r.items l) p.us (r.promos.getD (gI o (i:Int).toNat).toNat default)).2).deals=p.deals++[⟨(r.promos.getD (gI o (i:Int).toNat).toNat default).id,(Z7 (C2 r.items l) p.us (r.promos.getD (gI o (i:Int).toNat).toNat default)).2⟩]:=rfl
       have hGr:(A1x ⟨(Z7 (C2 r.items l) p.us (r.promos.getD (gI o (i:Int).toNat).toNat default)).1,p.deals,p.groups⟩ (r.promos.getD (gI o (i:Int).toNat).toNat default) (Z7 (C2 r.items l) p.us (r.promos.getD (gI o (i:Int).toNat).toNat default)).2).groups=p.groups++(if N0 (r.promos.getD (gI o (i:Int).toNat).toNat default).group=true then [] else [(r.promos.getD (gI o (i:Int).toNat).toNat default).group]):=rfl
       have hUs:(A1x ⟨(Z7 (C2 r.items l) p.us (r.promos.getD (gI o (i:Int).toNat).toNat default)).1,p.deals,p.groups⟩ (r.promos.getD (gI o (i:Int).toNat).toNat default) (Z7 (C2 r.items l) p.us (r.promos.getD (gI o (i:Int).toNat).toNat default)).2).us=(Z7 (C2 r.items l) p.us (r.promos.getD (gI o (i:Int).toNat).toNat default)).1:=rfl
       rw [hnext] at hus2 hof2
       exact hend (G':=G++[(r.promos.getD (gI o (i:Int).toNat).toNat default).group]) hnext.symm (hwp hR2) (A4 ..) (by rw [B1e,hG];rfl) (by rw [D5x];show G.length+1≤_;omega) (by rw [hD,D5x];show p.deals.length+1≤_;omega) hus2 ⟨_,hof2⟩
  case false =>
   obtain rfl:=C5 hd hi
   rw [D5w] at hp
   have hp1:p1B r l o=p:=hp.symm
   rw [hp1] at hXd
   clear hp1 hp
   have hu1:=hus.ok
   have hul:=hu1.len
   have hus1:=hu1.sum
   have hnet0:=C1 hu1.nets0
   have hline:∀ k,k<p.us.length→0≤(gU p.us k).line∧(gU p.us k).line.toNat<l.length:=fun k hk=>by
    have:=hus.line _ (A7 hk)
    rw [hitl] at this;exact this
   have hul1:p.us.length=(U3 l).length:=hoff.len
   conv=>whnf
   refine lp p.us.length [3,6,9,11,12,13,18] (fun k vs t=>∃ (fn fp:Nat→AV),vs=[.fptr (G9 r) 0,.optr 4 b6 0 0,C6 p.us,B0 o,.optr 4 bp 0 0,gv,eI k] ∧
    RD p.deals G dv gv (upd (upd s6 bn ⟨2,1,l.length,fn⟩) bp ⟨170,4,1,fp⟩) t∧fp 0=.agg [.own 1 bn 0 l.length,eI (A2 ((D6 p.us).take k)),eI 0,dv]∧∀ j,j<l.length→fn j=eI (F5 (p.us.take k) j)) ?_ ?_
   ·conv=>whnf
    exact ⟨_,fp,rfl,hR,hfp,fun j _=>rfl⟩
   ·clear hR hfp fp
    rintro k vs t hk ⟨fn,fp,rfl,hR,hfp,hfn⟩
    obtain ⟨htn,htp⟩:=hat hR
    conv=>whnf
    cases hd2:decide ((k:Int)<(p.us.length:Int))
    case true =>
     have hk':=D9 hd2
     have hlk:0≤(gU p.us (k:Int).toNat).line∧(gU p.us (k:Int).toNat).line.toNat<l.length:=hline k hk'
     have hn0:0≤(gU p.us k).net:=hu1.at0 k
     have hn1:(gU p.us k).net≤10000000000000:=hu1.le (A7 hk')
     have e1:=K7 (l:=D6 p.us) (i:=k) (by rw [D5p];exact hk')
     have e4:gI (D6 p.us) k=(gU p.us k).net:=D4 B2.net p.us hk'
     have e2:=M8 hu1.nets0 (k+1)
     have e3:=C1 (l:=(D6 p.us).take k) (fun x hx=>hu1.nets0 x (D6p _ _ hx))
     have hlb:=A0O hu1 k (gU p.us (k:Int).toNat).line.toNat
     have hlb2:=A0O hu1 (k+1) (gU p.us (k:Int).toNat).line.toNat
     have hln1:F5 (p.us.take (k+1)) (gU p.us (k:Int).toNat).line.toNat=F5 (p.us.take k) (gU p.us (k:Int).toNat).line.toNat+(gU p.us (k:Int).toNat).net:=(X7 hk' (gU p.us k).line.toNat).trans (if_pos rfl)
     have hfl:fn (0+(gU p.us (k:Int).toNat).line.toNat)=eI (F5 (p.us.take k) (gU p.us (k:Int).toNat).line.toNat):=by rw [D5A];exact hfn _ hlk.2
     have w1:IntKind.i64.wrap (F5 (p.us.take k) (gU p.us (k:Int).toNat).line.toNat+(gU p.us (k:Int).toNat).net)=F5 (p.us.take (k+1)) (gU p.us (k:Int).toNat).line.toNat:=by rw [hln1];exact A5 (by omega) (by omega)
     have w2:IntKind.i64.wrap (A2 ((D6 p.us).take k)+(gU p.us (k:Int).toNat).net)=A2 ((D6 p.us).take (k+1)):=by rw [e1,e4];exact A5 (by omega) (by omega)
     conv=>whnf
     refine ⟨[23],[],List.range 24,by kernel_rfl,?_⟩;conv=>whnf
     refine I1 htp hfp ?_
     refine E4 ?_
     refine I1 htp hfp ?_
     refine E4 ?_
     refine ⟨rfl,⟨by show 0≤(gU p.us (k:Int).toNat).line;exact hlk.1,by show (gU p.us (k:Int).toNat).line<(l.length:Int);have:=hlk.2;have:=hlk.1;omega⟩,?_⟩;conv=>whnf
     refine ldV htn rfl (by show 0+(gU p.us (k:Int).toNat).line.toNat<_;have:=hlk.2;omega) hfl ?_;conv=>whnf
     refine E4 ?_
     refine ⟨rfl,⟨by show 0≤(gU p.us (k:Int).toNat).line;exact hlk.1,by show (gU p.us (k:Int).toNat).line<(l.length:Int);have:=hlk.2;have:=hlk.1;omega⟩,?_⟩;conv=>whnf
     refine stV htn rfl (by show 0+(gU p.us (k:Int).toNat).line.toNat<_;have:=hlk.2;omega) hfl (by rfl) ?_
     have hP5:=hwn (Y':=⟨2,1,l.length,H7 fn (0+(gU p.us (k:Int).toNat).line.toNat) (eI (F5 (p.us.take (k+1)) (gU p.us (k:Int).toNat).line.toNat))⟩) hR
     rw [←w1] at hP5
     obtain ⟨_,htp2⟩:=hat hP5
     conv=>whnf
     refine ⟨[9],[],List.range 10,by kernel_rfl,?_⟩;conv=>whnf
     refine I1 htp2 hfp ?_
     refine E4 ?_
     refine X1 htp2 hfp ?_
     refine F8 ?_
     refine nx hk' ⟨_,_,by rw [B3 (by omega)],hwp hP5,?_,fun j hj=>?_⟩
     ·rw [A4,←w2];rfl
     ·show H7 fn (0+(gU p.us (k:Int).toNat).line.toNat) _ j=_
      rw [D5A]
      by_cases hj2:j=(gU p.us (k:Int).toNat).line.toNat
      ·subst hj2
       rw [A4,w1]
      ·rw [H3 hj2,X7 hk' j,if_neg (fun e=>hj2 e.symm)];exact hfn j hj
    case false =>
     obtain rfl:=C5 hd2 hk
     rw [D5w] at hfn
     have htk2:(D6 p.us).take p.us.length=D6 p.us:=by rw [←D5p (f:=B2.net),D5w]
     rw [htk2] at hfp
     change fp 0=.agg [.own 1 bn 0 l.length,eI (N7 p),eI 0,dv] at hfp
     have hF:A0F r.ship (U3 l).length (N7 p)=if ((p.us.length:Int)=0∨(r.ship.free>0∧N7 p≥r.ship.free)) then 0 else r.ship.fee:=by unfold A0F;rw [hul1]
     have hnb0:0≤N7 p:=hnet0
     conv=>whnf
     refine B8 (fun g1=>?_) (fun g1=>?_)<;>rw [g1]<;>simp only [D5n,D5m] at g1
     case' refine_1 =>
      conv=>whnf
      refine B8 (fun g2=>?_) (fun g2=>?_)<;>rw [g2]<;>simp only [D6k,D5X,ne_eq] at g2
     case' refine_1.refine_1 =>
      conv=>whnf
      refine stU htp hfp ?_
      have hR3:=hwp (Z':=⟨170,4,1,H7 fp 0 (.agg [.own 1 bn 0 l.length,eI (N7 p),eI r.ship.fee,dv])⟩) hR
      have hfp3:H7 fp 0 (.agg [.own 1 bn 0 l.length,eI (N7 p),eI r.ship.fee,dv]) 0=.agg [.own 1 bn 0 l.length,eI (N7 p),eI (A0F r.ship (U3 l).length (N7 p)),dv]:=by rw [A4,hF,if_neg (by omega)]
     case' refine_1.refine_2 =>
      conv=>whnf
      refine I1 htp hfp ?_
      refine B8 (fun g3=>?_) (fun g3=>?_)<;>rw [g3]<;>simp only [D5n,D5m] at g3
     case' refine_1.refine_2.refine_1 =>
      conv=>whnf
      refine stU htp hfp ?_
      have hR3:=hwp (Z':=⟨170,4,1,H7 fp 0 (.agg [.own 1 bn 0 l.length,eI (N7 p),eI r.ship.fee,dv])⟩) hR
      have hfp3:H7 fp 0 (.agg [.own 1 bn 0 l.length,eI (N7 p),eI r.ship.fee,dv]) 0=.agg [.own 1 bn 0 l.length,eI (N7 p),eI (A0F r.ship (U3 l).length (N7 p)),dv]:=by rw [A4,hF,if_neg (by omega)]
     case' refine_1.refine_2.refine_2 =>
      have hR3:=hR
      have hfp3:fp 0=.agg [.own 1 bn 0 l.length,eI (N7 p),eI (A0F r.ship (U3 l).length (N7 p)),dv]:=by rw [hfp,hF,if_pos (by omega)]
     case' refine_2 =>
      have hR3:=hR
      have hfp3:fp 0=.agg [.own 1 bn 0 l.length,eI (N7 p),eI (A0F r.ship (U3 l).length (N7 p)),dv]:=by rw [hfp,hF,if_pos (by omega)]
     all_goals
      conv=>whnf
      clear hR hfp hF
      have hfeB:0≤A0F r.ship (U3 l).length (N7 p)∧A0F r.ship (U3 l).length (N7 p)≤10000000000000:=by
       unfold A0F;split<;>omega
      refine lp o.length [3,6,11,12,13,19] (fun i vs t=>∃ (a:PSt×Int) (dv gv:AV) (G:List C8) (fp:Nat→AV),a=Y5 (fun a=>a.1) (U2 (N7 p)) A0b r.promos (p,A0F r.ship (U3 l).length (N7 p)) (o.take i) ∧
       vs=[.fptr (G9 r) 0,.optr 4 b6 0 0,B0 o,.optr 4 bp 0 0,gv,eI i] ∧
       RD a.1.deals G dv gv (upd (upd s6 bn ⟨2,1,l.length,fn⟩) bp ⟨170,4,1,fp⟩) t∧fp 0=.agg [.own 1 bn 0 l.length,eI (N7 p),eI a.2,dv] ∧
       named G=a.1.groups∧G.length≤60+i∧a.1.deals.length≤60+i∧0≤a.2∧a.2≤10000000000000) ?_ ?_
      ·conv=>whnf
       exact ⟨(p,A0F r.ship (U3 l).length (N7 p)),dv,gv,G,_,rfl,rfl,hR3,hfp3,hG,by omega,by show p.deals.length≤_;omega,hfeB⟩
      clear hR3 hfp3 hG hGn hDn htp htn hd hd2 hk hi
      rintro i vs t hi ⟨a,dv,gv,G,fp,ha,rfl,hR,hfp,hG,hGn,hDn,ha0,ha1⟩
      obtain ⟨htn,htp⟩:=hat hR
      conv=>whnf
      cases hd:decide ((i:Int)<(o.length:Int))
      case false =>
       obtain rfl:=C5 hd hi
       rw [D5w] at ha
       have hp2:p2B r l p o=a:=ha.symm
       rw [hp2] at hXd
       have h6b:t b6=some ⟨170,4,1,fun _=>H1 B7O.zero⟩:=hR.sup b6 _ (by rw [A9 hb6p,A9 hb6n];exact h6)
       have h76:E5 s6 t:=fun c x hc=>hR.sup c x (by
        have e1:c≠bp:=fun e=>by subst e;rw [hbp6] at hc;cases hc
        have e2:c≠bn:=fun e=>by subst e;rw [hbn] at hc;cases hc
        rw [A9 e1,A9 e2];exact hc)
       have hS2:E5 st t:=hst6.trans h76
       have hnets:∀ k,k<l.length→fn k=eI (gI X.nets k):=fun k hk=>by
        rw [hXd,hfn k hk]
        show eI _=eI (gI (V9 l.length p.us) k)
        unfold V9
        rw [L9 _ hk]
       conv=>whnf
       rcases hR.deals with ⟨hd0,rfl⟩ | ⟨bd,gd,rfl,hbd,hbt,hgd⟩
       ·refine I1 htp hfp ?_
        refine X1 h6b rfl ?_
        refine I1 (A0 ..) (A4 ..) ?_
        exact .inr ⟨hk0,bn,fn,.emp,by rw [hXd];rfl,hstn,by rw [A9 hb6n.symm];exact htn,hnets,hS2.over hb6,.inl ⟨by rw [hXd];exact hd0,rfl⟩⟩
       ·have hbdp:bd≠bp:=fun e=>by subst e;rw [A0] at hbd;cases hbd
        rw [A9 hbdp] at hbd
        have hbdn:bd≠bn:=fun e=>by subst e;rw [A0] at hbd;cases hbd
        rw [A9 hbdn] at hbd
        have hbd6:bd≠b6:=fun e=>by subst e;rw [h6] at hbd;cases hbd
        refine I1 htp hfp ?_
        refine X1 h6b rfl ?_
        refine I1 (A0 ..) (A4 ..) ?_
        exact .inr ⟨hk0,bn,fn,.own 2 bd 0 a.1.deals.length,by rw [hXd];rfl,hstn,by rw [A9 hb6n.symm];exact htn,hnets,hS2.over hb6,.inr ⟨bd,gd,by rw [hXd],hst6.none hbd,hbdn,by rw [A9 hbd6,hXd];exact hbt,by rw [hXd];exact hgd⟩⟩
      case true =>
       have hi':=D9 hd
       have hx:=hom _ (A7 hi')
       have hx0:0≤gI o (i:Int).toNat:=hx.1
       have hx1:(gI o (i:Int).toNat).toNat<r.promos.length:=hx.2
       have hpm:(r.promos.getD (gI o (i:Int).toNat).toNat default)∈r.promos:=A7 hx.2
       have hpc1:H0 (r.promos.getD (gI o (i:Int).toNat).toNat default)=true:=hck.promo _ hpm
       have hnext:Y5 (fun a=>a.1) (U2 (N7 p)) A0b r.promos (p,A0F r.ship (U3 l).length (N7 p)) (o.take (i+1))=if A0b (r.promos.getD (gI o (i:Int).toNat).toNat default)=true then goB (fun a=>a.1) (U2 (N7 p)) a (r.promos.getD (gI o (i:Int).toNat).toNat default) else a:=by
        rw [htk hi',B0N,←ha];rfl
       have hend:∀ {q:PSt×Int} {dv' gv':AV} {G':List C8} {fp':Nat→AV} {t':St},q=Y5 (fun a=>a.1) (U2 (N7 p)) A0b r.promos (p,A0F r.ship (U3 l).length (N7 p)) (o.take (i+1))→RD q.1.deals G' dv' gv' (upd (upd s6 bn ⟨2,1,l.length,fn⟩) bp ⟨170,4,1,fp'⟩) t'→fp' 0=.agg [.own 1 bn 0 l.length,eI (N7 p),eI q.2,dv'] →
         named G'=q.1.groups→G'.length≤60+(i+1)→q.1.deals.length≤60+(i+1)→0≤q.2∧q.2≤10000000000000→∃ (a:PSt×Int) (dv gv:AV) (G:List C8) (fp:Nat→AV),a=Y5 (fun a=>a.1) (U2 (N7 p)) A0b r.promos (p,A0F r.ship (U3 l).length (N7 p)) (o.take (i+1)) ∧
         [.fptr (G9 r) 0,.optr 4 b6 0 0,B0 o,.optr 4 bp 0 0,gv',eI (IntKind.i64.wrap ((i:Int)+1))]=[.fptr (G9 r) 0,.optr 4 b6 0 0,B0 o,.optr 4 bp 0 0,gv,eI ((i+1:Nat):Int)] ∧
         RD a.1.deals G dv gv (upd (upd s6 bn ⟨2,1,l.length,fn⟩) bp ⟨170,4,1,fp⟩) t'∧fp 0=.agg [.own 1 bn 0 l.length,eI (N7 p),eI a.2,dv] ∧
         named G=a.1.groups∧G.length≤60+(i+1)∧a.1.deals.length≤60+(i+1)∧0≤a.2∧a.2≤10000000000000:=fun {q dv' gv' G' fp' t'} h1 h2 h3 h4 h5 h6 h7=>⟨q,dv',gv',G',fp',h1,by rw [B3 (by omega)],h2,h3,h4,h5,h6,h7⟩
       conv=>whnf
       refine ⟨[8,9],[1,5,7],List.range 10,by kernel_rfl,?_⟩;conv=>whnf
       refine ⟨_,fun s _=>⟨rfl,rfl⟩,?_⟩;conv=>whnf
       refine E4 ?_
       refine ⟨_,fun s _=>⟨rfl,rfl⟩,?_⟩;conv=>whnf
       refine ⟨rfl,⟨by show 0≤gI o (i:Int).toNat;omega,by show gI o (i:Int).toNat<(r.promos.length:Int);omega⟩,?_⟩;conv=>whnf
       refine ⟨_,fun s _=>⟨rfl,rfl⟩,?_⟩;conv=>whnf
       rw [show ((r.promos.getD (gI o (i:Int).toNat).toNat default).kind != 7)=!((r.promos.getD (gI o (i:Int).toNat).toNat default).kind==7) from rfl]
       cases h7:((r.promos.getD (gI o (i:Int).toNat).toNat default).kind==7)
       case false =>
        rw [if_neg (by unfold A0b;rw [h7];simp)] at hnext;conv=>whnf
        refine F8 ?_
        exact nx hi' (hend hnext.symm hR hfp hG (by omega) (by omega) ⟨ha0,ha1⟩)
       case true =>
        have hns:A0b (r.promos.getD (gI o (i:Int).toNat).toNat default)=true:=by unfold A0b;rw [h7]
        rw [if_pos hns,C6K hG] at hnext;conv=>whnf
        refine B4 (B6i G (r.promos.getD (gI o (i:Int).toNat).toNat default).group (by omega) gv _ hR.groups) ?_
        cases htk2:(!N0 (r.promos.getD (gI o (i:Int).toNat).toNat default).group&&G.any fun y=>y.toList==(r.promos.getD (gI o (i:Int).toNat).toNat default).group.toList)
        case true =>
         rw [if_pos htk2] at hnext;conv=>whnf
         refine F8 ?_
         exact nx hi' (hend hnext.symm hR hfp hG (by omega) (by omega) ⟨ha0,ha1⟩)
        case false =>
         rw [if_neg (by rw [htk2];simp)] at hnext
         have hgl:=C0w G
         rw [hG] at hgl
         have hinv:=B2X (net:=N7 p) (n:=0) hpc1 hns (a:=a) ⟨by omega,by omega,ha0,ha1⟩
         have hS0:U2 (N7 p) a (r.promos.getD (gI o (i:Int).toNat).toNat default)=((A7a a.1 (r.promos.getD (gI o (i:Int).toNat).toNat default) (N7 p) a.2).2,(A7a a.1 (r.promos.getD (gI o (i:Int).toNat).toNat default) (N7 p) a.2).1):=rfl
         have hSB:A7a a.1 (r.promos.getD (gI o (i:Int).toNat).toNat default) (N7 p) a.2=if N7 p<(r.promos.getD (gI o (i:Int).toNat).toNat default).least then (a.2,a.1) else (a.2 - J6 a.2 (r.promos.getD (gI o (i:Int).toNat).toNat default).rate,if J6 a.2 (r.promos.getD (gI o (i:Int).toNat).toNat default).rate>0 then A1x a.1 (r.promos.getD (gI o (i:Int).toNat).toNat default) (J6 a.2 (r.promos.getD (gI o (i:Int).toNat).toNat default).rate) else a.1):=rfl
         rw [hS0] at hnext hinv;conv=>whnf
         refine I1 htp hfp ?_
         cases hgt:decide ((r.promos.getD (gI o (i:Int).toNat).toNat default).least>N7 p)
         case true =>
          have hgt':=D5o hgt
          rw [hSB,if_pos hgt'] at hnext;conv=>whnf
          refine F8 ?_
          exact nx hi' (hend (q:=a) hnext.symm hR hfp hG (by omega) (by omega) ⟨ha0,ha1⟩)
         case false =>
          have hgt':=D5q hgt
          rw [if_neg (by omega)] at hSB
          have hb:=S5 a.2 (r.promos.getD (gI o (i:Int).toNat).toNat default).rate
          have hr0:=(A3B hpc1).ship (by simpa using h7)
          have hle:=A4W ha0 (show 0≤(r.promos.getD (gI o (i:Int).toNat).toNat default).rate by omega) hr0.2
          have hw:IntKind.i64.wrap (a.2 - J6 a.2 (r.promos.getD (gI o (i:Int).toNat).toNat default).rate)=a.2 - J6 a.2 (r.promos.getD (gI o (i:Int).toNat).toNat default).rate:=A5 (by omega) (by omega)
          conv=>whnf
          refine I1 htp hfp ?_
          refine H8 (A8q a.2 (r.promos.getD (gI o (i:Int).toNat).toNat default).rate _) ?_
          cases hgh:decide (J6 a.2 (r.promos.getD (gI o (i:Int).toNat).toNat default).rate>0)
          case false =>
           have hgh':=D5q hgh
           rw [if_neg hgh'] at hSB
           rw [hSB,show a.2 - J6 a.2 (r.promos.getD (gI o (i:Int).toNat).toNat default).rate=a.2 by omega] at hnext;conv=>whnf
           refine F8 ?_
           exact nx hi' (hend (q:=a) hnext.symm hR hfp hG (by omega) (by omega) ⟨ha0,ha1⟩)
          case true =>
           have hgh':=D5o hgh
           rw [if_pos hgh'] at hSB
           rw [hSB] at hnext hinv;conv=>whnf
           refine ⟨[1,6,7,8,10],[],[],.qui 0 (.qui 2 (.qui 4 (.qui 5 (.two 1 6 (.qui 3 (.qui 9 (.gen 6 (.gen 7 (.gen 8 (.gen 10 (.qui 11 .done))))))) (.two 1 7 (.qui 3 (.qui 9 (.gen 7 (.gen 8 (.gen 10 (.qui 11 .done)))))) (.two 1 8 (.qui 3 (.qui 9 (.gen 8 (.gen 10 (.qui 11 .done))))) (.gen 1 (.qui 3 (.qui 9 (.gen 10 (.qui 11 .done))))))))))),by kernel_rfl,?_⟩;conv=>whnf
           repeat' (refine And.intro ?_ ?_<;>(conv=>whnf))
           all_goals first
            | (refine ldV htp rfl (by omega) hfp ?_
               conv=>whnf
               refine RD.appG (y:=(r.promos.getD (gI o (i:Int).toNat).toNat default).group) hR rfl rfl (by omega) (fun gv' t1 hR1=>?_))
            | (refine RD.appG (y:=(r.promos.getD (gI o (i:Int).toNat).toNat default).group) hR rfl rfl (by omega) (fun gv' t1 hR1=>?_)
               conv=>whnf
               refine ldV (hat hR1).2 rfl (by omega) hfp ?_)
           all_goals
            conv=>whnf
            refine stU (hat hR1).2 hfp ?_
            have hR2:=hwp (Z':=⟨170,4,1,H7 fp 0 (.agg [.own 1 bn 0 l.length,eI (N7 p),eI (IntKind.i64.wrap (a.2 - J6 a.2 (r.promos.getD (gI o (i:Int).toNat).toNat default).rate)),dv])⟩) hR1
            rcases ROut.head hR2 with rfl | ⟨bo,rfl⟩
            all_goals
             conv=>whnf
             refine I1 (hat hR2).2 (A4 ..) ?_
             refine RD.appD (y:=⟨(r.promos.getD (gI o (i:Int).toNat).toNat default).id,J6 a.2 (r.promos.getD (gI o (i:Int).toNat).toNat default).rate⟩) hR2 rfl (by rfl) (by omega) (fun bd t2 hR3=>?_);conv=>whnf
             refine X1 (hat hR3).2 (A4 ..) ?_
             refine F8 ?_
             refine nx hi' ?_
             exact hend (q:=(A1x a.1 (r.promos.getD (gI o (i:Int).toNat).toNat default) (J6 a.2 (r.promos.getD (gI o (i:Int).toNat).toNat default).rate),a.2 - J6 a.2 (r.promos.getD (gI o (i:Int).toNat).toNat default).rate)) (G':=G++[(r.promos.getD (gI o (i:Int).toNat).toNat default).group]) hnext.symm (hwp hR3) (by rw [A4,hw];rfl) (by rw [B1e,hG];rfl) (by rw [D5x];show G.length+1≤_;omega) (by show (a.1.deals++[_]).length≤_;rw [D5x];show a.1.deals.length+1≤_;omega) ⟨by show 0≤a.2 - J6 a.2 (r.promos.getD (gI o (i:Int).toNat).toNat default).rate;omega,by show a.2 - J6 a.2 (r.promos.getD (gI o (i:Int).toNat).toNat default).rate≤_;omega⟩
end Go.Proofs.YtaapofnkmpiknaaGreat
namespace Go.Proofs.YtaapofnkmpiknaaGreat
open Go Go.Ab
abbrev C3d (l:List B1) (xs:List (Int×Int)):List A1G:=xs.map fun a=>(⟨(E7 l a.1).id,a.2⟩:A1G)
abbrev B0Q (l:List B1) (xs:List (Int×Int)):List C8:=(xs.map fun a=>(E7 l a.1).group).filter fun g=>!N0 g
structure Tr (l:List B1) (p:PSt) (xs:List (Int×Int)):Prop where
 deals:p.deals=C3d l xs
 groups:p.groups=B0Q l xs
 pos:∀ a∈xs,1≤a.2
 apart:p.groups.Pairwise fun x y=>(y.toList==x.toList)=false
theorem Tr.start (l:List B1) (us:List B2):Tr l ⟨us,[],[]⟩ []:=⟨rfl,rfl,fun a h=>absurd h D6R,.nil⟩
def B3z {σ : Type} (px : σ→PSt) (step : σ→B1→σ) (sm:B1→Bool) (l:List B1) (Q : σ→Int→Prop):Prop :=
 ∀ (a : σ) (s:Int) (pr:B1),pr∈l→sm pr=true→Q a s →
  ((px (step a pr)).deals=(px a).deals∧(px (step a pr)).groups=(px a).groups∧Q (step a pr) s) ∨
  ∃ off,1≤off∧(px (step a pr)).deals=(px a).deals++[⟨pr.id,off⟩]∧(px (step a pr)).groups=(px a).groups++(if N0 pr.group=true then [] else [pr.group])∧Q (step a pr) (s+off)
theorem C6s {σ : Type} {px : σ→PSt} {step : σ→B1→σ} {sm:B1→Bool} {l:List B1} {Q : σ→Int→Prop} (hstep:B3z px step sm l Q) :
  ∀ (f:List Int) (a : σ) (xs:List (Int×Int)) (s:Int),(∀ x∈f,x.toNat<l.length∧sm (E7 l x)=true)→Tr l (px a) xs→Q a s →
   ∃ ys,Tr l (px (f.foldl (fun a x=>goB px step a (E7 l x)) a)) (xs++ys)∧(ys.map Prod.fst).Sublist f∧Q (f.foldl (fun a x=>goB px step a (E7 l x)) a) (s+A2 (ys.map Prod.snd)):=by
 intro f
 induction f with
 | nil=>intro a xs s _ ht hq;exact ⟨[],by rw [D7f];exact ht,List.Sublist.slnil,by rw [show s+A2 (([]:List (Int×Int)).map Prod.snd)=s from D7A s];exact hq⟩
 | cons x f ih =>
  intro a xs s hm ht hq
  have hm':∀ y∈f,y.toNat<l.length∧sm (E7 l y)=true:=fun y hy=>hm y (D5M _ hy)
  have hx:=hm x (D5N ..)
  have hmem:E7 l x∈l:=A7 hx.1
  rw [D6C]
  unfold goB
  by_cases hg:(N0 (E7 l x).group||!inB (px a).groups (E7 l x).group)=true
  ·rw [if_pos hg]
   rcases hstep a s (E7 l x) hmem hx.2 hq with ⟨h1,h2,h3⟩ | ⟨off,h0,h1,h2,h3⟩
   ·obtain ⟨ys,k1,k2,k3⟩:=ih _ xs s hm' ⟨h1.trans ht.deals,h2.trans ht.groups,ht.pos,by rw [h2];exact ht.apart⟩ h3
    exact ⟨ys,k1,k2.cons _,k3⟩
   ·have ht':Tr l (px (step a (E7 l x))) (xs++[(x,off)]):=by
     refine ⟨?_,?_,fun b hb=>?_,?_⟩
     ·rw [h1,ht.deals];unfold C3d;rw [D5P];rfl
     ·rw [h2,ht.groups];unfold B0Q
      rw [D5P,D7h]
      congr 1
      cases hn:N0 (E7 l x).group
      ·rw [if_neg (by simp)]
       show [(E7 l x).group]=List.filter (fun g=>!N0 g) [(E7 l x).group]
       rw [D6s (p:=fun g=>!N0 g) (by rw [hn];rfl)];rfl
      ·rw [if_pos rfl]
       show []=List.filter (fun g=>!N0 g) [(E7 l x).group]
       rw [D6x (p:=fun g=>!N0 g) (by rw [hn];simp)];rfl
     ·rcases D6B.1 hb with hb | hb
      ·exact ht.pos b hb
      ·rw [D5Q.1 hb];exact h0
     ·rw [h2]
      refine List.pairwise_append.2 ⟨ht.apart,?_,fun y hy z hz=>?_⟩
      ·split
       ·exact .nil
       ·exact List.pairwise_singleton _ _
      ·split at hz
       ·exact absurd hz D6R
       ·rename_i hn
        rw [D5Q.1 hz]
        rw [D6Z.2 hn,D5Z,D5F] at hg
        unfold inB at hg
        rw [D6r] at hg
        exact D6Z.2 (hg y hy)
    obtain ⟨ys,k1,k2,k3⟩:=ih _ (xs++[(x,off)]) (s+off) hm' ht' h3
    refine ⟨(x,off)::ys,by rw [D6M] at k1;exact k1,k2.cons_cons x,?_⟩
    rw [D6q,J3,←Int.add_assoc];exact k3
  ·rw [if_neg hg]
   obtain ⟨ys,k1,k2,k3⟩:=ih _ xs s hm' ht hq
   exact ⟨ys,k1,k2.cons _,k3⟩
theorem B9C {σ : Type} {px : σ→PSt} {step : σ→B1→σ} {sm:B1→Bool} {l:List B1} {Q : σ→Int→Prop} (hstep:B3z px step sm l Q) {o:List Int} (ho:∀ x∈o,x.toNat<l.length) {a : σ} {xs:List (Int×Int)} {s:Int} (ht:Tr l (px a) xs) (hq:Q a s) :
  ∃ ys,Tr l (px (Y5 px step sm l a o)) (xs++ys)∧(ys.map Prod.fst).Sublist (o.filter fun x=>sm (E7 l x))∧Q (Y5 px step sm l a o) (s+A2 (ys.map Prod.snd)) :=
 C6s hstep _ a xs s (fun x hx=>⟨ho x (D6o.1 hx).1,(D6o.1 hx).2⟩) ht hq
theorem C2i {items:List Ab.Item} {us0:List B2} {l:List B1} (hf:∀ p∈l,Q2 p) (hr:∀ p∈l,H0 p=true):B3z (fun p:PSt=>p) (A4D items) T3 l (fun p s=>A6Q items p.us∧Off us0 p.us s):=by
 intro a s pr hm hs hq
 have hk:pr.kind≠7:=by simpa [T3] using hs
 unfold A4D
 by_cases h:(Z7 items a.us pr).2>0
 ·rw [if_pos h]
  rcases B9F hq.1 (hf _ hm) (hr _ hm) hk with e | e
  ·rw [e] at h;exact absurd h (by decide)
  ·exact .inr ⟨_,by omega,rfl,rfl,hq.1.off e,hq.2.trans e⟩
 ·rw [if_neg h]
  exact .inl ⟨rfl,rfl,hq⟩
theorem C1g {net fee fee0:Int} {l:List B1} (hr:∀ p∈l,H0 p=true):B3z (fun a:PSt×Int=>a.1) (U2 net) A0b l (fun a s=>0≤a.2∧a.2≤fee∧a.2+s=fee0):=by
 intro a s pr hm hs hq
 have hk:pr.kind=7:=by simpa [A0b] using hs
 have h7:=(A3B (hr _ hm)).ship hk
 have hb:=S5 a.2 pr.rate
 have hle:=A4W hq.1 (show 0≤pr.rate by omega) h7.2
 unfold U2 A7a
 by_cases h:net<pr.least
 ·rw [if_pos h];exact .inl ⟨rfl,rfl,hq⟩
 ·rw [if_neg h]
  by_cases h2:J6 a.2 pr.rate>0
  ·rw [if_pos h2]
   exact .inr ⟨J6 a.2 pr.rate,by omega,rfl,rfl,by show 0≤a.2 - J6 a.2 pr.rate;omega,by show a.2 - J6 a.2 pr.rate≤_;omega,by show a.2 - J6 a.2 pr.rate+(s+J6 a.2 pr.rate)=_;omega⟩
  ·rw [if_neg h2]
   exact .inl ⟨rfl,rfl,by show 0≤a.2 - J6 a.2 pr.rate;omega,by show a.2 - J6 a.2 pr.rate≤_;omega,by show a.2 - J6 a.2 pr.rate+s=_;omega⟩
theorem A5M (a b:List B2) (j:Nat):F5 (a++b) j=F5 a j+F5 b j:=by
 unfold F5;rw [D7h,D5P,F2]
theorem B5v (l:List E8) (i j n:Nat):F5 (List.replicate n (lnU l i)) j=if i=j then n * (l.getD i default).price else 0:=by
 induction n with
 | zero=>show (0:Int)=_;split<;>simp
 | succ n ih =>
  rw [show List.replicate (n+1) (lnU l i)=[lnU l i]++List.replicate n (lnU l i) from rfl,A5M,ih]
  by_cases h:i=j
  ·rw [if_pos h,if_pos h]
   have:F5 [lnU l i] j=(l.getD i default).price:=by
    unfold F5
    rw [D6s (by show (((i:Int)).toNat==j)=true;rw [D5y,h];simp)]
    show A2 [(l.getD i default).price]=_
    rw [J3];exact D7A _
   rw [this,show ((n+1:Nat):Int) * (l.getD i default).price=n * (l.getD i default).price+(l.getD i default).price by rw [Int.natCast_add,D7Q];simp]
   omega
  ·rw [if_neg h,if_neg h]
   have:F5 [lnU l i] j=0:=by
    unfold F5
    rw [D6x (by show ¬(((i:Int)).toNat==j)=true;rw [D5y];simpa using h)];rfl
   rw [this];rfl
theorem B7t (l:List E8) (hl:∀ x∈l,0≤x.qty) (j k:Nat) (hk:k≤l.length):F5 (G2 l k) j=if j<k then (l.getD j default).qty * (l.getD j default).price else 0:=by
 induction k with
 | zero=>rfl
 | succ k ih =>
  show F5 (G2 l k++List.replicate (l.getD k default).qty.toNat (lnU l k)) j=_
  rw [A5M,ih (by omega),B5v]
  have hq:=hl _ (A7 (show k<l.length by omega))
  by_cases e:k=j
  ·subst e
   rw [if_neg (by omega),if_pos rfl,if_pos (by omega),D7c hq,Int.zero_add]
  ·rw [if_neg e]
   by_cases h:j<k
   ·rw [if_pos h,if_pos (by omega),D7A]
   ·rw [if_neg h,if_neg (by omega)];rfl
theorem B0W {us us':List B2} {x:Int} (h:Off us us' x) (j:Nat):∀ k,k≤us.length→F5 (us'.take k) j≤F5 (us.take k) j
 | 0,_=>D5W _
 | k+1,hk=>by
  have ih:=B0W h j k (by omega)
  have hl:=h.len
  rw [X7 (by omega),X7 (by omega),h.line k]
  have:=(h.net k).2
  split<;>omega
theorem B6y (f:Nat→Int) (t:Nat) (x:Int):∀ n,A2 ((List.range n).map fun j=>if t=j then f j+x else f j)=A2 ((List.range n).map f)+if t<n then x else 0
 | 0=>by rw [if_neg (by omega)];rfl
 | n+1=>by
  rw [L3,L3,B6y f t x n]
  by_cases e:t=n
  ·rw [if_pos e,if_neg (by omega),if_pos (by omega)];omega
  ·rw [if_neg e]
   by_cases h:t<n
   ·rw [if_pos h,if_pos (by omega)];omega
   ·rw [if_neg h,if_neg (by omega)];omega
theorem B1V:∀ n,A2 ((List.range n).map fun _=>(0:Int))=0
 | 0=>rfl
 | n+1=>by rw [L3,B1V n];rfl
theorem A8b {us:List B2} {n:Nat} (h:∀ k,k<us.length→(gU us k).line.toNat<n):∀ k,k≤us.length→A2 ((List.range n).map (F5 (us.take k)))=A2 (D6 (us.take k))
 | 0,_=>B1V n
 | k+1,hk=>by
  have ih:=A8b h k (by omega)
  have e1:(F5 (us.take (k+1)))=fun j=>if (gU us k).line.toNat=j then F5 (us.take k) j+(gU us k).net else F5 (us.take k) j:=funext fun j=>X7 (by omega) j
  rw [e1,B6y,ih,if_pos (h k (by omega)),K1 (by omega)]
  unfold D6
  rw [D5P,F2]
  show _+(gU us k).net=_+A2 [(gU us k).net]
  rw [J3];show _=_+((gU us k).net+0);omega
structure A3X (r:G6) (codes:List C8) (l:List E8) (Pr:A3G) (xs ys:List (Int×Int)):Prop where
 deals:Pr.deals=C3d r.promos (xs++ys)
 mem:∀ a∈xs++ys,(0≤a.1∧a.1.toNat<r.promos.length)∧Z8 codes (E7 r.promos a.1)=true∧1≤a.2
 sx:(xs.map Prod.fst).Sublist (U1 r.promos codes)
 sy:(ys.map Prod.fst).Sublist (U1 r.promos codes)
 kx:∀ a∈xs,(E7 r.promos a.1).kind≠7
 ky:∀ a∈ys,(E7 r.promos a.1).kind=7
 apart:(B0Q r.promos (xs++ys)).Pairwise fun x y=>(y.toList==x.toList)=false
 sum:Pr.net+A2 (xs.map Prod.snd)=J5 l
 len:Pr.nets.length=l.length
 nets:A2 Pr.nets=Pr.net
 each:∀ i,i<l.length→0≤gI Pr.nets i∧gI Pr.nets i≤(l.getD i default).qty * (l.getD i default).price
 ship:0≤Pr.ship∧Pr.ship≤r.ship.fee
 shipSum:Pr.ship+A2 (ys.map Prod.snd)=A0F r.ship (U3 l).length Pr.net
theorem B4e {l:List B1} {codes:List C8} {i:Nat} {x:Int} (h:x∈places l codes i):Z8 codes (E7 l x)=true:=by
 unfold places at h
 obtain ⟨k,hk,rfl⟩:=D5G.1 h
 exact (D6o.1 hk).2
theorem C0L {r:G6} {codes:List C8} {l:List E8} (hf:A0J r) (hck:D7 r codes l=0):∃ xs ys,A3X r codes l (Z1 r l (U1 r.promos codes) (U1 r.promos codes)) xs ys:=by
 have ck:=A6v hck
 have hok:=ck.lines
 have hu:=B4K hok
 obtain ⟨u1,u2,u3⟩:=A2m l hok.line l.length (D5u _)
 rw [D5w] at u1 u2
 have hitl:(C2 r.items l).length=l.length:=D5p ..
 have hpl:∀ x∈U1 r.promos codes,(0≤x∧x.toNat<r.promos.length)∧Z8 codes (E7 r.promos x)=true:=fun x hx=>by
  have:=(A4i r.promos codes).mem_iff.1 hx
  exact ⟨A0v this,B4e this⟩
 have hlt:∀ x∈U1 r.promos codes,x.toNat<r.promos.length:=fun x hx=>(hpl x hx).1.2
 obtain ⟨xs,a1,a2,a3,a4⟩:=B9C (C2i (items:=C2 r.items l) (us0:=U3 l) hf.fit ck.promo) hlt (a:=⟨U3 l,[],[]⟩) (Tr.start r.promos (U3 l)) ⟨hu,Off.refl hu.ok⟩
 rw [D8q] at a1
 rw [Int.zero_add] at a4
 have hfee:0≤A0F r.ship (U3 l).length (N7 (p1B r l (U1 r.promos codes)))∧A0F r.ship (U3 l).length (N7 (p1B r l (U1 r.promos codes)))≤r.ship.fee:=by
  unfold A0F;have:=ck.fee;split<;>omega
 obtain ⟨ys,b1,b2,b3⟩:=B9C (C1g (net:=N7 (p1B r l (U1 r.promos codes))) (fee:=r.ship.fee) (fee0:=A0F r.ship (U3 l).length (N7 (p1B r l (U1 r.promos codes)))) ck.promo) hlt (a:=(p1B r l (U1 r.promos codes),A0F r.ship (U3 l).length (N7 (p1B r l (U1 r.promos codes))))) (s:=0) a1 ⟨hfee.1,hfee.2,D7A _⟩
 rw [Int.zero_add] at b3
 have a2':∀ a∈xs,a.1∈U1 r.promos codes∧T3 (E7 r.promos a.1)=true:=fun a ha=>D6o.1 (a2.subset (D5G.2 ⟨a,ha,rfl⟩))
 have b2':∀ a∈ys,a.1∈U1 r.promos codes∧A0b (E7 r.promos a.1)=true:=fun a ha=>D6o.1 (b2.subset (D5G.2 ⟨a,ha,rfl⟩))
 have hus:A6Q (C2 r.items l) (p1B r l (U1 r.promos codes)).us:=a3
 have hlen:=a4.len
 have hln:∀ k,k<(p1B r l (U1 r.promos codes)).us.length→(gU (p1B r l (U1 r.promos codes)).us k).line.toNat<l.length:=fun k hk=>by
  have:=(hus.line _ (A7 hk)).2
  rw [hitl] at this;exact this
 have hsm:=A8b hln _ (D5u _)
 rw [D5w] at hsm
 refine ⟨xs,ys,b1.deals,fun a ha=>?_,a2.trans D7m,b2.trans D7m,fun a ha=>by simpa [T3] using (a2' a ha).2,fun a ha=>by simpa [A0b] using (b2' a ha).2,by rw [←b1.groups];exact b1.apart,?_,?_,hsm,fun i hi=>?_,⟨b3.1,b3.2.1⟩,b3.2.2⟩
 ·have hp:=b1.pos a ha
  rcases D6B.1 ha with h | h
  ·exact ⟨(hpl _ (a2' a h).1).1,(hpl _ (a2' a h).1).2,hp⟩
  ·exact ⟨(hpl _ (b2' a h).1).1,(hpl _ (b2' a h).1).2,hp⟩
 ·have:=a4.sum
  show A2 (D6 (p1B r l (U1 r.promos codes)).us)+_=_
  exact this.trans u2
 ·show ((List.range l.length).map _).length=_
  rw [D5p,D5O]
 ·have e:gI (Z1 r l (U1 r.promos codes) (U1 r.promos codes)).nets i=F5 (p1B r l (U1 r.promos codes)).us i:=by
   show gI ((List.range l.length).map (F5 (p1B r l (U1 r.promos codes)).us)) i=_
   unfold gI
   rw [D5l,D6j,D6P hi];rfl
  rw [e]
  have h1:=(A0O hus.ok (p1B r l (U1 r.promos codes)).us.length i).1
  rw [D5w] at h1
  have h2:=B0W a4 i _ (D5u _)
  rw [D5w,D7p (Nat.le_of_eq hlen)] at h2
  have h3:=B7t l (fun x hx=>((A0r _).1 (hok.line x hx)).1.1) i l.length (D5u _)
  rw [if_pos hi] at h3
  have h2':F5 (p1B r l (U1 r.promos codes)).us i≤F5 (G2 l l.length) i:=h2
  exact ⟨h1,by omega⟩
def B9j (l:List B1) (a:Int×Int):Int:=if (E7 l a.1).kind=7 then 0 else a.2
theorem A3X.off {r:G6} {codes:List C8} {l:List E8} {Pr:A3G} {xs ys:List (Int×Int)} (h:A3X r codes l Pr xs ys):Pr.net+A2 ((xs++ys).map (B9j r.promos))=J5 l:=by
 have e1:xs.map (B9j r.promos)=xs.map Prod.snd:=D6D fun a ha=>if_neg (h.kx a ha)
 have e2:∀ zs:List (Int×Int),(∀ a∈zs,(E7 r.promos a.1).kind=7)→A2 (zs.map (B9j r.promos))=0:=fun zs=>by
  induction zs with
  | nil=>intro _;rfl
  | cons a zs ih =>
   intro hz
   rw [D6q,J3,ih fun b hb=>hz b (D5M _ hb),show B9j r.promos a=0 from if_pos (hz a (D5N ..))];rfl
 rw [D5P,F2,e1,e2 ys h.ky,D7A];exact h.sum
theorem A9J {xs:List (Int×Int)} (h:∀ a∈xs,1≤a.2) (hs:A2 (xs.map Prod.snd)≤0):xs=[]:=by
 cases xs with
 | nil=>rfl
 | cons a xs =>
  have h1:=h a (D5N ..)
  have h2:0≤A2 (xs.map Prod.snd):=C1 fun x hx=>by
   obtain ⟨b,hb,rfl⟩:=D5G.1 hx
   have:=h b (D5M _ hb);omega
  rw [D6q,J3] at hs;omega
theorem A3X.nothing {r:G6} {codes:List C8} {l:List E8} {Pr:A3G} {xs ys:List (Int×Int)} (h:A3X r codes l Pr xs ys) (hq:∀ x∈l,x.qty=0) (hu:(U3 l).length=0) (hg:J5 l=0) :
  Pr.deals=[]∧Pr.ship=0∧(∀ x∈Pr.nets,x=0):=by
 have h0:∀ x∈Pr.nets,x=0:=fun x hx=>by
  obtain ⟨i,hi,rfl⟩:=D3 hx
  have hi':i<l.length:=by rw [←h.len];exact hi
  have h1:=h.each i hi'
  rw [hq _ (A7 hi'),D8l] at h1
  show gI Pr.nets i=0
  omega
 have hn:0≤Pr.net:=by rw [←h.nets];exact C1 fun x hx=>by rw [h0 x hx];exact D5W _
 have hx:xs=[]:=A9J (fun a ha=>(h.mem a (List.mem_append_left _ ha)).2.2) (by have:=h.sum;omega)
 have hsh:=h.shipSum
 have hfee:A0F r.ship (U3 l).length Pr.net=0:=by unfold A0F;rw [if_pos (.inl (by omega))]
 have hy:ys=[]:=A9J (fun a ha=>(h.mem a (List.mem_append_right _ ha)).2.2) (by have:=h.ship;omega)
 subst hx hy
 refine ⟨by rw [h.deals];rfl,?_,h0⟩
 rw [hfee] at hsh
 have:Pr.ship+0=0:=hsh
 omega
end Go.Proofs.YtaapofnkmpiknaaGreat
namespace Go.Proofs.YtaapofnkmpiknaaGreat
open Go Go.Ab
attribute [local irreducible] upd del
structure Q1 (R:G6) (C:List C8) (L:List E8):Prop where
 right:U6 R=true
 fit:A0J R
 sm:A7I R
 codes:S4 C=true
 ncodes:C.length≤3
 scodes:∀ s∈C,s.size≤12
 lines:A1Z L
 check:D7 R C L=0
 few:R.promos.length≤6
 items:R.items.length≤8
 known:∀ n,known R.items (A1e n)=true
 fee:0≤R.ship.fee∧R.ship.fee≤1000000000
theorem C7R (r:G6) (codes:List C8) (l:List E8):Q1 (J2 r) (J9 codes) (A6C l):=by
 have hc:=B4g codes
 have hl:=B4h l
 have hr:=A9X r
 have hn:=A1A r.promos
 have hck:D7 (J2 r) (J9 codes) (A6C l)=0:=by
  unfold D7
  rw [if_neg (by rw [hr];simp),if_neg (by rw [hc.1];simp)]
  exact hl.check (A7m r.items)
 exact ⟨hr,B2s r,B4j r,hc.1,hc.2.1,hc.2.2,hl,hck,by show (N1 r.promos).length≤6;omega,by show (F9 r.items).length≤8;rw [A1X];omega,A7m r.items,(A6v hck).fee⟩
theorem Q1.relines {R:G6} {C:List C8} {L L':List E8} (h:Q1 R C L) (hl:A1Z L'):Q1 R C L' :=
 { h with
  lines:=hl
  check:=by
   unfold D7
   rw [if_neg (by rw [h.right];simp),if_neg (by rw [h.codes];simp)]
   exact hl.check h.known }
theorem Q1.promosC {R:G6} {C:List C8} {L:List E8} (h:Q1 R C L):promosC R.promos=true:=by
 have:=h.right
 unfold U6 at this
 simp only [D5r] at this
 exact this.1.1.1.2
def A3n (R:G6) (C:List C8) (L:List E8):A3G:=Z1 R L (U1 R.promos C) (U1 R.promos C)
theorem C3q {R:G6} {C:List C8} {L:List E8} (hck:D7 R C L=0) (hf:A0J R) (hC:Go.Proofs.YtaapofnkmpiknaaGreat.promosC R.promos=true) (hn:R.promos.length≤6) (hi:R.items.length≤8) (hc:C.length≤3) (st:St) :
  S P 122 [G9 R,C7 C,A6 3 I0 L] st fun v s=>v=.tuple [A0T (A3n R C L),eI 0]∧s=st :=
 (price_S B6t R C L hf (by show C.length≤9223372036854775807;omega) (by omega) (by have:=A1b R.promos C R.promos.length;omega) st).mono fun v s ⟨hv,hs⟩=>by
  refine ⟨?_,hs⟩
  rcases hv with ⟨h1,_⟩ | ⟨_,o1,o2,h1,h2,h3⟩
  ·exact absurd hck h1
  ·rw [B6f hC h1,B6f hC h2] at h3;exact h3
theorem Q1.price_S {R:G6} {C:List C8} {L:List E8} (h:Q1 R C L) (st:St) :
  S P 122 [G9 R,C7 C,A6 3 I0 L] st fun v s=>v=.tuple [A0T (A3n R C L),eI 0]∧s=st :=
 C3q h.check h.fit h.promosC h.few h.items h.ncodes st
theorem Q1.ref_S {R:G6} {C:List C8} {L:List E8} (h:Q1 R C L) (st:St) :
  S P 115 [G9 R,C7 C,A6 3 I0 L] st fun v s=>v=.tuple [A0T (A3n R C L),eI 0]∧s=st :=
 (C3B R C L h.fit h.sm h.right (by have:=h.ncodes;show C.length≤9223372036854775807;omega) (fun s hs=>by have:=h.scodes s hs;show s.size≤9223372036854775807;omega) (by have:=h.lines.len;show L.length≤9223372036854775807;omega) st).mono fun v s ⟨hv,hs⟩=>by
  rw [if_pos h.check] at hv
  exact ⟨hv,hs⟩
theorem Q1.law {R:G6} {C:List C8} {L:List E8} (h:Q1 R C L):∃ xs ys,A3X R C L (A3n R C L) xs ys:=C0L h.fit h.check
structure C7f (L:List E8) (Pr:A3G) (g fee:Int):Prop where
 len:Pr.nets.length=L.length
 at':∀ i,i<L.length→0≤gI Pr.nets i∧gI Pr.nets i≤(L.getD i default).qty * (L.getD i default).price
 sum:A2 Pr.nets=Pr.net
 net:0≤Pr.net∧Pr.net≤g
 ship:0≤Pr.ship∧Pr.ship≤fee
theorem Q1.nets {R:G6} {C:List C8} {L:List E8} (h:Q1 R C L):C7f L (A3n R C L) (J5 L) R.ship.fee:=by
 obtain ⟨xs,ys,hl⟩:=h.law
 have h0:∀ x∈(A3n R C L).nets,0≤x:=fun x hx=>by
  obtain ⟨i,hi,rfl⟩:=D3 hx
  exact (hl.each i (by rw [←hl.len];exact hi)).1
 have hx:0≤A2 (xs.map Prod.snd):=C1 fun x hx=>by
  obtain ⟨a,ha,rfl⟩:=D5G.1 hx
  have:=(hl.mem a (List.mem_append_left _ ha)).2.2
  omega
 have hs:=hl.sum
 have hn:=hl.nets
 have:=C1 h0
 exact ⟨hl.len,hl.each,hl.nets,by omega,hl.ship⟩
theorem B8B (n:Int) (st:St):S P 52 [eI n] st fun r st'=>r=eS (P7 (B9 n 3))∧st'=st:=by
 refine F1 [] Tryz.func52 ?_
 refine H8 (A0x n 3 (by decide) (by decide) _) ?_
 refine ⟨?_,rfl⟩
 show AV.str ((⟨#[122]⟩:C8)++B1T [IntKind.u8.wrap (48+IntKind.u8.wrap (B9 n 3))])=_
 rw [B2c];rfl
theorem D2i {t:Tax} {z:K2} {cats:List C8} {nets:List Int} {ship:Int} (h:A2o t z cats nets ship) (st:St) :
  S P (C4r t) [R5 t,B0 (cats.map (E9 z)),B0 nets] st fun v st'=>v=B0 (K5 t (cats.map (E9 z)) nets)∧st'=st:=by
 obtain ⟨r1,r2⟩:=A3o h
 unfold C4r K5
 split
 ·exact B9R t _ _ h.nets r1 r2 st
 ·exact B5d t _ _ h.nets.len r1 r2 st
theorem Q1.taxC {R:G6} {C:List C8} {L:List E8} (h:Q1 R C L):taxC R.tax=true:=by
 have:=h.right
 unfold U6 at this
 simp only [D5r] at this
 exact this.1.1.2
theorem Q1.levy {R:G6} {C:List C8} {L:List E8} (h:Q1 R C L) {z:K2} {s:C8} (hz:Y7 R.tax.zones s=some z):A2o R.tax z (M9 R L) (A3n R C L).nets (A3n R C L).ship:=by
 have hN:=h.nets
 have hg:=B9y h.lines.line
 have hl:=h.lines.len
 have hf:=h.fee
 have hsh:=hN.ship
 refine ⟨h.taxC,B7j h.taxC hz,by rw [B9T,hN.len],⟨by rw [hN.len];omega,fun x hx=>?_,by rw [hN.sum];have:=hN.net;omega⟩,by omega⟩
 obtain ⟨i,hi,rfl⟩:=D3 hx
 exact (hN.at' i (by rw [←hN.len];exact hi)).1
def B1z (R:G6) (C:List C8) (L:List E8) (z:K2) (exempt:Bool):A1I:=A9j R z exempt L (A3n R C L)
theorem Q1.quote_S {R:G6} {C:List C8} {L:List E8} (h:Q1 R C L) {z:K2} {s:C8} (hz:Y7 R.tax.zones s=some z) (exempt:Bool) (st:St) :
  S P 60 [G9 R,eS s,eB exempt,C7 C,A6 3 I0 L] st fun v st'=>v=.tuple [A0E (B1z R C L z exempt),eI 0]∧st'=st:=by
 have hv:=h.levy hz
 have hk:=(A6v h.check).lines.known
 have hi:=h.items
 have hl:=h.lines.len
 exact Go.Proofs.YtaapofnkmpiknaaGreat.quote_S exempt (fun st=>h.price_S st) (fun st=>A8V _ _ (by omega) (by omega) hk st) (by omega) hv hz (fun st=>D2i hv st) (B2Z hv exempt) st
theorem Q1.quoteIn {R:G6} {C:List C8} {L:List E8} (h:Q1 R C L) {z:K2} {s:C8} (hz:Y7 R.tax.zones s=some z) (exempt:Bool):B8F (B1z R C L z exempt) L.length:=by
 have:=B0j (h.levy hz) exempt (A3n R C L).deals
 rw [h.nets.len] at this;exact this
theorem B2t (r:G6) (n:Int):∃ z,Y7 (J2 r).tax.zones (P7 (B9 n 3))=some z:=by
 have:=D0 n (n:=3) (by decide)
 obtain ⟨k,hk⟩:∃ k:Nat,B9 n 3=k:=⟨(B9 n 3).toNat,by omega⟩
 rw [hk]
 exact ⟨_,C1I r.tax (by omega)⟩
structure B4T where
 rules:G6
 zone:Int
 exempt:Bool
 codes:List C8
 adds:List Add
 pays:List Pay
 day:Int
def B2T (s:B4T):AV:=.agg [A6 4 E3 s.rules.items,A6 15 B7 s.rules.promos,eB s.rules.tax.incl,eB s.rules.tax.byOrder,eI s.rules.tax.round,A6 4 R8 s.rules.tax.zones,eI s.rules.ship.fee,eI s.rules.ship.free,eI s.rules.policy.window,eI s.rules.policy.grace,eI s.rules.policy.mode,eI s.rules.policy.restock,B0 s.rules.policy.order,B0 s.rules.policy.credit,eI s.zone,eB s.exempt,C7 s.codes,A6 2 A4I s.adds,A6 2 A9S s.pays,eI s.day]
def A7U (s:B4T):Bool:=C2D s.rules&&decide ((s.codes.length:Int)<30)&&decide ((s.adds.length:Int)<60)&&decide ((s.pays.length:Int)<30)
theorem C1e (s:B4T) (st:St):S P 14 [B2T s] st fun v st'=>v=.bool (A7U s)∧st'=st:=by
 have n1:=C8H s.rules st
 have e:A7U s=(C2D s.rules&&decide ((s.codes.length:Int)<30)&&decide ((s.adds.length:Int)<60)&&decide ((s.pays.length:Int)<30)):=rfl
 rw [e]
 clear e
 generalize C2D s.rules=b1 at *
 refine SyW [1] Tryz.func14 ?_
 repeat' ((conv=>whnf);first | refine B4 n1 ?_ | (refine B8 (fun h=>?_) (fun h=>?_)<;>rw [h]) | fail)
 all_goals (conv=>whnf)
 all_goals exact ⟨rfl,rfl⟩
def A9w (id key zone:C8) (exempt:Bool) (codes:List C8) (adds:List Add) (pays:List Pay):AV :=
 .agg [eI 3,eS key,.emp,.emp,eB false,eB false,eI 0,.emp,eI 0,eI 0,eI 0,eI 0,eI 0,eI 0,.emp,.emp,eI 0,eS id,eS zone,eB exempt,C7 codes,A6 2 A4I adds,A6 2 A9S pays,.emp,eI 0,eI 0,eI 0]
def S9 (s:B4T):C8:=P7 (B9 s.zone 3)
set_option maxHeartbeats 4000000 in
theorem B9Z (s:B4T) (id key:C8) (Q:A1I) (e:Int) (hi:Sm (J2 s.rules).items.length) (hp:s.pays.length≤100000) (hT:0≤Q.total∧Q.total≤100000000000000)
  (hQ:∀ st,S P 56 [G9 (J2 s.rules),eS (S9 s),eB s.exempt,C7 (J9 s.codes),A6 3 I0 (W1 (J2 s.rules).items (F6 s.adds)).1] st fun v st'=>v=.tuple [A0E Q,eI e]∧st'=st) (st:St) :
  S P 16 [B2T s,eS id,eS key] st fun v st'=>v=.tuple [G9 (J2 s.rules),A9w id key (S9 s) s.exempt (J9 s.codes) (F6 s.adds) (P0 Q.total s.pays)]∧st'=st:=by
 have cR:=fun u=>B5P s.rules u
 have cZ:∀ u,S P 52 [eI s.zone] u fun r st'=>r=eS (S9 s)∧st'=u:=fun u=>B8B s.zone u
 have cC:=fun u=>B5K s.codes u
 have cA:=fun u=>B7I s.adds u
 have cL:=fun u=>B7V (J2 s.rules).items (F6 s.adds) hi u
 have cP:=fun u=>B7J Q.total s.pays hT.1 hT.2 hp u
 generalize J2 s.rules=R at *
 generalize S9 s=Z at *
 generalize J9 s.codes=C at *
 generalize F6 s.adds=A at *
 generalize W1 R.items A=LL at *
 generalize P0 Q.total s.pays=PP at *
 refine A2c ?_
 refine B6N [3,8] C0k mixed Tryz.func16 (by rfl) rfl rfl rfl ?_;conv=>whnf
 intro b6 hb6;conv=>whnf
 intro b7 hb7
 have h67:b6≠b7:=fun e=>by subst e;rw [A0] at hb7;cases hb7
 conv=>whnf
 refine H8 (cR _) ?_
 generalize hst:(upd (upd st b6 _) b7 _:St)=S0
 obtain ⟨f6,at6,hf6⟩:∃ f6:Nat→AV,S0 b6=some ⟨33,14,1,f6⟩∧f6 0=H1 r33.zero:=by rw [←hst,A9 h67];exact ⟨_,A0 ..,rfl⟩
 obtain ⟨f7,at7,hf7⟩:∃ f7:Nat→AV,S0 b7=some ⟨42,27,1,f7⟩∧f7 0=H1 r42.zero:=by rw [←hst];exact ⟨_,A0 ..,rfl⟩
 have hs0:E5 st S0:=by rw [←hst];exact ((E5.refl st).upd hb6).upd hb7
 have hn7:st b7=none:=(show E5 st (upd st b6 _) from (E5.refl st).upd hb6).none hb7
 clear hst hb7
 refine .inl ⟨[14,15],[3,4,6,8,9,11,12],List.range 16,by kernel_rfl,?_⟩
 repeat' ((conv=>whnf);first | refine ⟨_,fun s _=>⟨rfl,rfl⟩,?_⟩ | refine ⟨_,fun s _=>I5 (cZ s),?_⟩ | refine ⟨_,fun s _=>I5 (cC s),?_⟩ | refine ⟨_,fun s _=>I5 (cA s),?_⟩ | fail)
 intro b9 hb9
 have h69:b6≠b9:=fun e=>by subst e;rw [at6] at hb9;cases hb9
 have h79:b7≠b9:=fun e=>by subst e;rw [at7] at hb9;cases hb9
 conv=>whnf
 refine stU (A0 ..) rfl ?_
 rw [B6];conv=>whnf
 refine I1 (A0 ..) (A4 ..) ?_
 refine H8 (cL _) ?_
 refine I1 (A0 ..) (A4 ..) ?_
 refine I1 (A0 ..) (A4 ..) ?_
 refine I1 (A0 ..) (A4 ..) ?_
 refine H8 (hQ _) ?_
 generalize hst:(upd S0 b9 _:St)=S1
 obtain ⟨f9,at9,hf9⟩:∃ f9:Nat→AV,S1 b9=some ⟨42,27,1,f9⟩∧f9 0=.agg [eI 3,eS key,.emp,.emp,eB false,eB false,eI 0,.emp,eI 0,eI 0,eI 0,eI 0,eI 0,eI 0,.emp,.emp,eI 0,eS id,eS Z,eB s.exempt,C7 C,A6 2 A4I A,.emp,.emp,eI 0,eI 0,eI 0]:=by rw [←hst];exact ⟨_,A0 ..,by rw [A4];rfl⟩
 have hs1:E5 S0 S1:=by rw [←hst];exact (E5.refl S0).upd hb9
 have hn9:st b9=none:=hs0.none hb9
 clear hst hb9
 intro b12 hb12
 have h912:b9≠b12:=fun e=>by subst e;rw [at9] at hb12;cases hb12
 have h612:b6≠b12:=fun e=>by subst e;rw [hs1 _ _ at6] at hb12;cases hb12
 have h712:b7≠b12:=fun e=>by subst e;rw [hs1 _ _ at7] at hb12;cases hb12
 conv=>whnf
 refine stU (A0 ..) rfl ?_
 rw [B6];conv=>whnf
 refine I1 (A0 ..) (A4 ..) ?_
 refine H8 (cP _) ?_
 refine X1 ((A9 h912).trans at9) hf9 ?_
 refine .inr ⟨[2,3],.qui 0 (.qui 1 (.eff 2 [1] (.eff 3 [] (.done)))),by kernel_rfl,?_⟩
 generalize hst:(upd (upd S1 b12 _) b9 _:St)=S2
 obtain ⟨g9,bt9,hg9⟩:∃ g9:Nat→AV,S2 b9=some ⟨42,27,1,g9⟩∧g9 0=A9w id key Z s.exempt C A PP:=by rw [←hst];exact ⟨_,A0 ..,by rw [A4];rfl⟩
 have bt6:S2 b6=some ⟨33,14,1,f6⟩:=by rw [←hst,A9 h69,A9 h612];exact hs1 _ _ at6
 have bt7:S2 b7=some ⟨42,27,1,f7⟩:=by rw [←hst,A9 h79,A9 h712];exact hs1 _ _ at7
 have hs2:E5 st S2:=by rw [←hst];exact ((hs0.trans hs1).upd hb12).over hn9
 clear hst
 conv=>whnf
 refine ⟨_,fun _=>True,trivial,fun s _=>⟨rfl,rfl⟩,?_⟩;conv=>whnf
 refine ⟨_,fun u=>u b9=some ⟨42,27,1,g9⟩,bt9,fun u hu=>ldV hu rfl (by omega) hg9 ⟨rfl,rfl⟩,?_⟩;conv=>whnf
 refine X1 bt6 hf6 ?_
 refine ⟨fun h=>(A9 h69.symm).trans h,?_⟩;conv=>whnf
 refine X1 ((A9 h67.symm).trans bt7) hf7 ?_
 refine I1 ((A9 h67).trans (A0 ..)) (A4 ..) ?_
 refine I1 (A0 ..) (A4 ..) ?_
 exact ⟨rfl,(hs2.over hb6).over hn7⟩
theorem ROut.own0 {R:St→St→Prop} {ty e n:Nat} {fo:Nat→AV} {s t:St} {sv:AV} (h:ROut R ty e fo n s sv t) (hn:0<n):∃ b,sv=.own e b 0 n:=by
 obtain ⟨s0,⟨h0,_⟩ | ⟨_,b,_,_,h1,_⟩,h2⟩:=h
 ·omega
 ·exact ⟨b,h1⟩
theorem ROut.one {R:St→St→Prop} {ty e n:Nat} {fo:Nat→AV} {s t:St} {sv:AV} (h:ROut R ty e fo n s sv t):sv.one=true:=by rcases h.head with rfl | ⟨b,rfl⟩<;>rfl
theorem D2O {T:G5} {t:TypeId} {e b i o ty n:Nat} {u v:AV} {st:St} {k:KK} {r:C3} {f:Nat→AV} (h:st b=some ⟨ty,e,n,f⟩) (hr:T t=some r) (h1:r.size=1) (hi:i<n) (hv:f i=v) (hu:u.one=true) (ho:o+1≤e)
  (hk:k (.tuple []) (upd st b ⟨ty,e,n,H7 f i (P3 v o [u])⟩)):B4O T t e b i o u st k:=by
 have hc:cellsOf u=[u]:=by cases u<;>first | rfl | cases hu
 refine stV h hr hi hv ?_ (by rw [hc];exact hk)
 rw [hc,h1]
 show (true&&true&&(u.one&&true)&&Nat.ble (o+1) e)=true
 rw [hu,show Nat.ble (o+1) e=true by rw [Nat.ble_eq];exact ho];rfl
section
variable {R0:St→St→Prop} {ty e:Nat} {F:Nat→Nat→AV} {len:Nat→Nat}
end
theorem _root_.Go.Ab.Col.over {ty e:Nat} {f:Nat→AV} {st:St} {n:Nat} {sv:AV} {st':St} (h:Col ty e f st n sv st') {b:Nat} {y y':L6} (hb:st b=some y):Col ty e f (upd st b y') n sv (upd st' b y'):=by
 rcases h with ⟨rfl,rfl,rfl⟩ | ⟨h0,c,g,hc,rfl,rfl,hg⟩
 ·exact .inl ⟨rfl,rfl,rfl⟩
 ·have hne:c≠b:=fun e=>by subst e;rw [hb] at hc;cases hc
  exact .inr ⟨h0,c,g,(A9 hne).trans hc,rfl,Q5 hne,hg⟩
theorem _root_.Go.Ab.Col.pick {ty e:Nat} {f:Nat→AV} {st:St} {n:Nat} {sv:AV} {st':St} (h:Col ty e f st n sv st'):sv=.emp∨∃ b,sv=.own e b 0 n:=by
 rcases h with ⟨_,h,_⟩ | ⟨_,c,g,_,h,_⟩
 ·exact .inl h
 ·exact .inr ⟨c,h⟩
theorem C4T (R:G6) (set day:Int) (id key zone:C8) (exempt:Bool) (codes:List C8) (adds:List Add) (pays:List Pay) (hs:1≤set∧set≤40) (st:St)
  (n1:S P 87 [eI day] st fun v st'=>v=.bool true∧st'=st) (n2:S P 119 [eS id] st fun v st'=>v=.bool true∧st'=st)
  (n3:S P 119 [eS zone] st fun v st'=>v=.bool true∧st'=st) (n4:S P 86 [G9 R] st fun v st'=>v=.bool true∧st'=st)
  (n5:S P 120 [C7 codes] st fun v st'=>v=.bool true∧st'=st) :
  S P 58 [G9 R,eI set,A9w id key zone exempt codes adds pays,eI day] st fun v st'=>v=eI 0∧st'=st:=by
 have d1:decide (set<1)=false:=D5t (by omega)
 have d2:decide (set>40)=false:=D5t (by omega)
 refine SyW [4,6] Tryz.func58 ?_
 repeat' ((conv=>whnf);first | refine B4 n1 ?_ | refine B4 n2 ?_ | refine B4 n3 ?_ | refine B4 n4 ?_ | refine B4 n5 ?_ | rw [d1] | rw [d2] | fail)
 exact ⟨rfl,rfl⟩
def A2H (p:Pay):A2p:=⟨p.kind,p.amount,0⟩
def A9H (id zone:C8) (set:Int) (exempt:Bool) (codes:List C8) (day:Int) (l:List E8) (q:A1I) (b:A5k) (pays:List Pay):U0 :=
 ⟨id,set,zone,exempt,codes,day,O3 l q,q.ship,q.shipTax,0,q.total,b,pays.map A2H⟩
set_option maxHeartbeats 4000000 in
theorem C7Z (R:G6) (set day:Int) (id key zone:C8) (exempt:Bool) (codes:List C8) (adds:List Add) (pays:List Pay) (l:List E8) (Q:A1I) (B:A5k) (st:St)
  (hc:codes.length≤100000) (hl:l.length≤1000) (hg:Q.goods.length=l.length) (ht:Q.taxes.length=l.length) (hp:A6X pays Q.total=true) (hpl:pays.length≤6)
  (n1:∀ s,S P 58 [G9 R,eI set,A9w id key zone exempt codes adds pays,eI day] s fun v st'=>v=eI 0∧st'=s)
  (n2:∀ s,S P 59 [A6 4 E3 R.items,A6 2 A4I adds] s fun v st'=>v=.tuple [A6 3 I0 l,eI 0]∧st'=s)
  (n3:∀ s,S P 60 [G9 R,eS zone,eB exempt,C7 codes,A6 3 I0 l] s fun v st'=>v=.tuple [A0E Q,eI 0]∧st'=s)
  (n7:∀ s,S P 64 [A0E Q] s fun v st'=>v=A5E B∧st'=s) :
  S P 17 [G9 R,eI set,A9w id key zone exempt codes adds pays,eI day] st fun v st'=>v=.tuple [U4 (A9H id zone set exempt codes day l Q B pays),eI 0]∧st'=st:=by
 have n4:=fun s=>C3j pays Q.total (by omega) s
 rw [hp] at n4
 have n5:=fun s=>A9v codes hc s
 have n6:=fun s=>C2O l Q hl hg ht s
 have hcells:cellsOf (A5E B)=[eI B.goods,eI B.tax,eI B.ship,eI B.shipTax,eI B.fee]:=rfl
 refine S.post (post:=fun v s'=>∃ sv t,Col 70 3 (fun k=>A1W ((pays.map A2H).getD k default)) t (pays.map A2H).length sv s'∧E5 st t ∧
  v=.tuple [.agg [eS id,eI set,eS zone,eB exempt,A6 1 eS codes,eI day,A6 6 Z3 (O3 l Q),eI Q.ship,eI Q.shipTax,eI 0,eI Q.total,eI B.goods,eI B.tax,eI B.ship,eI B.shipTax,eI B.fee,sv],eI 0]) ?_ (fun v s' ⟨sv,t,hcol,hs,hv⟩=>⟨_,st,⟨rfl,rfl⟩,by
   rw [hv]
   have hA:A8 [.tuple [.agg [eS id,eI set,eS zone,eB exempt,A6 1 eS codes,eI day,A6 6 Z3 (O3 l Q),eI Q.ship,eI Q.shipTax,eI 0,eI Q.total,eI B.goods,eI B.tax,eI B.ship,eI B.shipTax,eI B.fee,sv],eI 0]] s' [.tuple [U4 (A9H id zone set exempt codes day l Q B pays),eI 0]] t:=by
    refine A8.tuple (A8.cons (A8.agg ?_) (A8.keep _ _)) rfl
    iterate 16 refine A8.cons (A8.keep [_] _) ?_
    exact hcol.shift
   exact hA.trans (hs.shift _)⟩)
 generalize O3 l Q=KL at *
 refine F1 [4,6,16] Tryz.func17 ?_
 intro b8 hb8;conv=>whnf
 refine H8 (n1 _) ?_
 refine H8 (n2 _) ?_
 refine H8 (n3 _) ?_
 intro b13 hb13
 have h813:b8≠b13:=fun e=>by subst e;rw [A0] at hb13;cases hb13
 conv=>whnf
 refine stU (A0 ..) rfl ?_
 rw [B6];conv=>whnf
 generalize hst:(upd (upd st b8 _) b13 _:St)=S0
 obtain ⟨f13,at13,hf13⟩:∃ f13:Nat→AV,S0 b13=some ⟨113,6,1,f13⟩∧f13 0=A0E Q:=by rw [←hst];exact ⟨_,A0 ..,by rw [A4];rfl⟩
 obtain ⟨f8,at8,hf8⟩:∃ f8:Nat→AV,S0 b8=some ⟨50,17,1,f8⟩∧f8 0=H1 r50.zero:=by rw [←hst,A9 h813];exact ⟨_,A0 ..,rfl⟩
 have hs0:E5 st S0:=by rw [←hst];exact ((E5.refl st).upd hb8).upd hb13
 clear hst hb13
 refine I1 at13 hf13 ?_
 refine H8 (n4 _) ?_
 refine ⟨[23,24],[1,4,6,8,9,12,13,15,17,19,20,21],List.range 25,by kernel_rfl,?_⟩
 repeat' ((conv=>whnf);first | refine ⟨_,fun s _=>⟨rfl,rfl⟩,?_⟩ | refine ⟨_,fun s _=>I5 (n5 s),?_⟩ | refine ⟨_,fun s _=>I5 (n6 s),?_⟩ | refine ⟨_,fun s _=>I5 (n7 s),?_⟩ | refine ⟨_,fun s hs=>ldV (hs _ _ at13) rfl (by omega) hf13 ⟨rfl,rfl⟩,?_⟩ | fail)
 intro b14 hb14
 have h814:b8≠b14:=fun e=>by subst e;rw [at8] at hb14;cases hb14
 conv=>whnf
 refine stU (A0 ..) rfl ?_
 rw [B6];conv=>whnf
 generalize hst:(upd S0 b14 _:St)=S1
 obtain ⟨f14,at14,hf14⟩:∃ f14:Nat→AV,S1 b14=some ⟨50,17,1,f14⟩∧f14 0=.agg [eS id,eI set,eS zone,eB exempt,A6 1 eS codes,eI day,A6 6 Z3 KL,eI Q.ship,eI Q.shipTax,eI 0,eI Q.total,eI B.goods,eI B.tax,eI B.ship,eI B.shipTax,eI B.fee,.emp]:=by rw [←hst];exact ⟨_,A0 ..,by rw [A4];rfl⟩
 have at8:S1 b8=some ⟨50,17,1,f8⟩:=by rw [←hst,A9 h814];exact at8
 have hs1:E5 st S1:=by rw [←hst];exact hs0.upd hb14
 have hn14:st b14=none:=hs0.none hb14
 clear hst hb14 at13
 refine lp pays.length [8,14,85,86,87] (fun i vs s=>vs=[.optr 17 b8 0 0,.optr 17 b14 0 0,A6 2 A9S pays,eI pays.length,eI i]∧∃ sv f,f 0=.agg [eS id,eI set,eS zone,eB exempt,A6 1 eS codes,eI day,A6 6 Z3 KL,eI Q.ship,eI Q.shipTax,eI 0,eI Q.total,eI B.goods,eI B.tax,eI B.ship,eI B.shipTax,eI B.fee,sv] ∧
   Col 70 3 (fun k=>A1W ((pays.map A2H).getD k default)) (upd S1 b14 ⟨50,17,1,f⟩) i sv s) ?_ ?_
 ·conv=>whnf
  exact ⟨rfl,.emp,f14,hf14,by rw [B6D at14];exact Col.start _ _ _ _⟩
 rintro i vs s hi ⟨rfl,sv,f,hf,hcol⟩
 have bt14:s b14=some ⟨50,17,1,f⟩:=hcol.sup _ _ (A0 ..)
 conv=>whnf
 cases h:decide ((i:Int)<(pays.length:Int))
 ·obtain rfl:=C5 h hi
  have bt8:s b8=some ⟨50,17,1,f8⟩:=hcol.sup _ _ ((A9 h814).trans at8)
  conv=>whnf
  refine I1 bt14 hf ?_
  refine stV bt8 rfl (by omega) hf8 (by rcases hcol.pick with rfl | ⟨c,rfl⟩<;>rfl) ?_;conv=>whnf
  refine I1 (A0 ..) (A4 ..) ?_
  have hc2:=hcol.over (y':=⟨50,17,1,H7 f8 0 (.agg [eS id,eI set,eS zone,eB exempt,A6 1 eS codes,eI day,A6 6 Z3 KL,eI Q.ship,eI Q.shipTax,eI 0,eI Q.total,eI B.goods,eI B.tax,eI B.ship,eI B.shipTax,eI B.fee,sv])⟩) ((A9 h814).trans at8)
  exact ⟨sv,_,by rw [D5p];exact hc2,(hs1.over hn14).over hb8,rfl⟩
 have hi':=D9 h
 rcases hcol.pick with rfl | ⟨c,rfl⟩
 all_goals
  conv=>whnf
  refine E4 ?_
  refine I1 bt14 hf ?_
  refine Col.app (q:=r70) rfl rfl rfl rfl rfl ?_ (by show (i+1) * 24≤140737488355328;omega) hcol (fun sv' s' hc'=>?_)
  ·show _=A1W ((pays.map A2H).getD i default)
   rw [D4 A2H pays hi'];rfl
  have bt14:s' b14=some ⟨50,17,1,f⟩:=hc'.sup _ _ (A0 ..)
  conv=>whnf
  refine D2O bt14 rfl rfl (by omega) hf (by rcases hc'.pick with rfl | ⟨c,rfl⟩<;>rfl) (by decide) ?_;conv=>whnf
  refine F8 ?_
  have hc2:=hc'.over (y':=⟨50,17,1,H7 f 0 (.agg [eS id,eI set,eS zone,eB exempt,A6 1 eS codes,eI day,A6 6 Z3 KL,eI Q.ship,eI Q.shipTax,eI 0,eI Q.total,eI B.goods,eI B.tax,eI B.ship,eI B.shipTax,eI B.fee,sv'])⟩) (A0 ..)
  rw [B6] at hc2
  exact nx hi' ⟨by rw [B3 (by omega)],sv',_,A4 ..,hc2⟩
end Go.Proofs.YtaapofnkmpiknaaGreat
namespace Go.Proofs.YtaapofnkmpiknaaGreat
open Go Go.Ab
theorem A5U (l:List Add):(1≤(F6 l).length∧(F6 l).length≤6)∧∀ x∈F6 l,(1≤x.qty∧x.qty≤9)∧∃ n,x.sku=A1e n:=by
 unfold F6
 split
 ·exact ⟨⟨by decide,by decide⟩,fun x hx=>by rw [D5Q.1 hx];exact ⟨⟨by decide,by decide⟩,0,by kernel_rfl⟩⟩
 ·rename_i h
  refine ⟨by rw [D5p,D5v];omega,fun x hx=>?_⟩
  obtain ⟨y,_,rfl⟩:=D5G.1 hx
  have:=D0 y.qty (n:=9) (by decide)
  exact ⟨by show 1≤1+B9 y.qty 9∧1+B9 y.qty 9≤9;omega,_,rfl⟩
theorem B5J (items:List Ab.Item) (l:List Add):W1 (F9 items) (F6 l)=((F6 l).map (J4 (F9 items)),0):=by
 obtain ⟨⟨h1,h2⟩,h3⟩:=A5U l
 unfold W1
 rw [if_neg (by omega),if_neg (by
  rw [D6m,D6r]
  intro x hx
  have:=(h3 x hx).1
  unfold A0D
  rw [D5t (by omega),D5t (by omega)];simp),if_neg (by
  rw [D6m,D6r]
  intro x hx
  obtain ⟨n,hn⟩:=(h3 x hx).2
  have:=A7m items n
  unfold known at this
  rw [hn]
  simp only [D5n] at this ⊢
  omega)]
theorem A9V (l:List Ab.Item) (j:Nat):0≤((F9 l).getD j default).price∧((F9 l).getD j default).price<4000:=by
 by_cases h:j<8
 ·unfold F9
  rw [D4 (N8 l) (List.range 8) (by rw [D5O];exact h)]
  rw [show (List.range 8).getD j default=j by simp [D5l,h]]
  have:=D0 (l.getD j default).price (n:=4000) (by decide)
  unfold N8
  split
  ·exact ⟨by show 0≤B9 _ 4000;omega,by show B9 _ 4000<4000;omega⟩
  ·exact ⟨by show (0:Int)≤100+37 * (j:Int);omega,by show (100:Int)+37 * (j:Int)<4000;omega⟩
 ·rw [D5l,D7M (by rw [A1X];omega)]
  exact ⟨by decide,by decide⟩
theorem B4Y (items:List Ab.Item) (l:List Add):A1Z ((F6 l).map (J4 (F9 items))):=by
 obtain ⟨⟨h1,h2⟩,h3⟩:=A5U l
 refine ⟨by rw [D5p];omega,fun x hx=>?_,fun x hx=>?_⟩<;>obtain ⟨y,hy,rfl⟩:=D5G.1 hx
 ·have:=(h3 y hy).1
  have:=A9V items (O8 (F9 items) y.sku).toNat
  unfold J4
  exact ⟨⟨by show 0≤y.qty;omega,by show y.qty≤9;omega⟩,this⟩
 ·exact (h3 y hy).2
end Go.Proofs.YtaapofnkmpiknaaGreat
