/- Part 30 of the proof: contracts of the functions that the law reaches -/
import Derived.Test.YtaapofnkmpiknaaGreatRs29
set_option maxRecDepth 100000
set_option linter.unusedVariables false
set_option linter.unusedSimpArgs false
namespace Go.Proofs.YtaapofnkmpiknaaGreat
open Go Go.Ab
attribute [local irreducible] upd del
theorem B8g (es:List QE):∃ c1 c2 is,C3K es=.tuple [eI c1,eI c2,.bool is]:=by
 cases es with
 | nil=>exact ⟨0,0,false,rfl⟩
 | cons y es=>exact ⟨y.1,y.2,true,rfl⟩
theorem A9p {c1 c2 d1 d2:Int} {is js:Bool} (h:AV.tuple [eI c1,eI c2,.bool is]=.tuple [eI d1,eI d2,.bool js]):c1=d1∧c2=d2∧is=js:=by
 injection h with h;injection h with h1 h;injection h with h2 h;injection h with h3 h
 injection h1 with _ h1;injection h2 with _ h2;injection h3 with h3
 exact ⟨h1,h2,h3⟩
set_option maxHeartbeats 8000000 in
theorem C0o (t:Tax) (rates nets:List Int) (hn:A4K nets) (hr:rates.length=nets.length) (hq:∀ x∈rates,0≤x∧x≤10000) (st:St) :
  S P 191 [S8 t,B0 rates,B0 nets] st fun v st'=>v=B0 (G6 t rates nets)∧st'=st:=by
 have hnl:=hn.len
 have hol:(G6 t rates nets).length=nets.length:=by unfold G6;rw [D5H,D6c]
 refine S.post (post:=fun v s=>∃ bo,v=.own 1 bo 0 nets.length∧st bo=none∧(∃ y,IsL (G6 t rates nets) y∧s bo=some y)∧E8 st s) ?_ (fun v s ⟨bo,h1,h2,⟨y,⟨f,hy,hf⟩,hb⟩,h4⟩=>⟨_,st,⟨rfl,rfl⟩,by
  subst hy;rw [h1]
  have e:B0 (G6 t rates nets)=.arr 1 nets.length (fun i=>eI (gI (G6 t rates nets) i)):=by unfold B0 A8;rw [hol]
  rw [e]
  exact (N7 hb rfl (by show nets.length≤(G6 t rates nets).length;omega) (fun i hi=>hf i (by omega))).trans ((E8.del h4 h2).shift _)⟩)
 refine F2 [3] Tryz.func191 ?_
 refine mkO rfl rfl rfl (by show 8 * nets.length≤_;omega) (by omega) (by rfl) (fun bo hbo=>?_);conv=>whnf
 refine call (B1I _) (fun v s hv=>?_)
 obtain ⟨q,rfl,hQ⟩:=hv
 conv=>whnf
 refine lp rates.length [2,3,7,8,28,29,30] (fun i vs s=>vs=[B0 nets,.fptr (S8 t) 0,.own 1 bo 0 nets.length,.optr 1 q 0 0,B0 rates,eI rates.length,eI i]∧QSt (upd st bo ⟨2,1,nets.length,fun _=>H2 r2.zero⟩) q true ((List.range i).map (C2Z rates)) s) ?_ ?_
 ·conv=>whnf
  exact ⟨rfl,hQ⟩
 clear hQ s
 rintro i vs s hi ⟨rfl,hQ⟩
 conv=>whnf
 cases h1:decide ((i:Int)<(rates.length:Int))
 case true =>
  have hi':=D8 h1
  have hx:=hq (gI rates (i:Int).toNat) (A6 hi')
  have hw:IntKind.i64.wrap (0 - rates.getD (i:Int).toNat default) = -(gI rates (i:Int).toNat):=(A5 (show _≤0 - gI rates (i:Int).toNat by omega) (show 0 - gI rates (i:Int).toNat≤_ by omega)).trans (by show 0 - gI rates (i:Int).toNat=_;omega)
  conv=>whnf
  refine E7 ?_
  rw [hw]
  refine call (A8y _ q _ _ _ _ hQ (by rw [D5H,D6c];omega)) (fun v s' hv=>?_)
  obtain ⟨rfl,hQ2⟩:=hv
  conv=>whnf
  refine F7 ?_
  exact nx hi' ⟨by rw [B4 (by omega)],by rw [D6R,D6g];exact hQ2⟩
 obtain rfl:=C4 h1 hi
 have hQ2:=QSt.perm hQ (A5j rates).symm
 clear hQ
 conv=>whnf
 refine ⟨[2,3,7,8],fun m vs u=>∃ (D:Int→Bool) (fl:Bool) (L:List Int),m=(A1C rates D).length∧vs=[B0 nets,.fptr (S8 t) 0,.own 1 bo 0 nets.length,.optr 1 q 0 0]∧B3j t rates nets D L∧OQ bo q L fl (A1C rates D) st u,?_,?_⟩
 ·conv=>whnf
  exact ⟨_,fun _=>false,true,List.replicate nets.length 0,rfl,rfl,⟨D6L,fun i hi=>by
   rw [if_neg (by simp)];unfold gI
   rw [D5C,D7U];split<;>rfl⟩,hbo,_,⟨fun _=>H2 r2.zero,by rw [D6L],fun i hi=>by
   unfold gI;rw [D5C,D7U];split<;>rfl⟩,by rw [B5O];exact hQ2⟩
 clear hQ2
 rintro m vs u ⟨D,fl,L,rfl,rfl,hdone,hb0,y,hy,hQ3⟩
 conv=>whnf
 refine B3 (A9t _ q fl _ _ hQ3) ?_
 cases hE:A1C rates D with
 | nil =>
  conv=>whnf
  have hL:=C2X hdone hr hE
  rw [hE] at hQ3
  exact ⟨bo,rfl,hb0,⟨y,by rw [←hL];exact hy,hQ3.sup bo _ (A0 ..)⟩,E8.drop hQ3.sup hb0⟩
 | cons x E =>
  obtain ⟨hD,hEq⟩:=B7P hE
  obtain ⟨i0,hi0,hi0m,hi0r⟩:=C0O hE
  have hsort:=A8k rates D
  have hkey:∀ y∈A1C rates (fun z=>D z||z==x.1),(y.1==x.1)=false:=B4p
  have hmeas:(A1C rates (fun z=>D z||z==x.1)).length<E.length+1:=by
   have h1:=D7E List.length hEq
   rw [D5O,D5H,D6p] at h1
   have h2:0<(K8 rates x.1).length:=List.length_pos_of_mem hi0m
   omega
  have hnext:=B3k (k:=x.1) hdone hr
  have hparts:(A2H t rates nets x.1).length=(K8 rates x.1).length∧∀ st,S P 238 [eI (N8 t (A2 ((K8 rates x.1).map (gI nets))) (-x.1)),B0 ((K8 rates x.1).map (gI nets))] st fun v st'=>v=.tuple [B0 (A2H t rates nets x.1),eI 0]∧st'=st:=by
   have hw:=A2U (t:=t) hn hr (i:=i0) (hq (gI rates i0) (A6 hi0))
   have e:I7 rates nets i0=(K8 rates x.1).map (gI nets):=by unfold I7;rw [(A0A hi0m).2.2]
   rw [e,hi0r] at hw
   have h3:=(T7 hw).2.1
   refine ⟨by unfold A2H;rw [h3,D5H],fun st=>?_⟩
   exact A9j _ _ hw st
  have hGok:=fun j=>C7e (rates:=rates) (k:=x.1) (j:=j)
  have hrate:0≤-x.1∧-x.1≤10000:=by rw [←hi0r];exact hq (gI rates i0) (A6 hi0)
  have hGl:(K8 rates x.1).length≤1000:=by
   have:(K8 rates x.1).length≤(List.range rates.length).length:=D8f _ _
   rw [D6c] at this;omega
  have hgsum:0≤A2 ((K8 rates x.1).map (gI nets)):=C1 fun v hv=>by
   obtain ⟨j,hj,rfl⟩:=D5X.1 hv
   exact hn.pos _ (A6 (by have:=(A0A hj).2.1;omega))
  have hgs:∀ j,j≤(K8 rates x.1).length→0≤A2 (((K8 rates x.1).take j).map (gI nets))∧A2 (((K8 rates x.1).take j).map (gI nets))≤10000000000000:=fun j hj=>by
   have hsub:(((K8 rates x.1).take j).map (gI nets)).Sublist nets:=by
    have h1:(((K8 rates x.1).take j).map (gI nets)).Sublist ((List.range nets.length).map (gI nets)):=by
     refine List.Sublist.map _ ((List.take_sublist _ _).trans ?_)
     unfold K8;rw [hr];exact D7F
    rw [A6j] at h1;exact h1
   have h2:=B2e hsub hn.pos
   have h3:=hn.sum
   exact ⟨C1 fun v hv=>hn.pos v (hsub.subset hv),by omega⟩
  rw [hE] at hQ3 hsort
  have hQ0:x::E=QJ (K8 rates x.1) x.1 (A1C rates (fun z=>D z||z==x.1)) 0:=hEq
  generalize K8 rates x.1=G at *
  generalize hRest:A1C rates (fun z=>D z||z==x.1)=Rest at *
  generalize A2H t rates nets x.1=X at *
  clear hEq
  conv=>whnf
  rw [show decide ((((x::E).length:Nat):Int)>0)=true by rw [D5E,D6p];omega];conv=>whnf
  refine I5 (B4I _ q fl x E _ hQ3 (D7o.1 hsort).1) ?_
  refine I5 (B4I _ q fl x E _ hQ3 (D7o.1 hsort).1) ?_
  have hsortQ:∀ j,j≤G.length→(QJ G x.1 Rest j).Pairwise fun a b=>G3 b a=false:=fun j hj=>by
   rw [hQ0] at hsort
   refine D8A ?_ hsort
   unfold QJ
   rw [List.drop_zero]
   exact List.Sublist.append ((D8q j G).map _) (List.Sublist.refl _)
  refine lp G.length [2,3,7,8,11,14,15,16,17,18,19] (fun j vs u=>∃ (fl:Bool) (lv wv:AV) (c1 c2:Int) (is:Bool),vs=[B0 nets,.fptr (S8 t) 0,.own 1 bo 0 nets.length,.optr 1 q 0 0,eI x.1,lv,wv,eI (A2 ((G.take j).map (gI nets))),eI c1,eI c2,.bool is]∧C3K (QJ G x.1 Rest j)=.tuple [eI c1,eI c2,.bool is]∧ROut (fun s t=>ROut (OQ bo q L fl (QJ G x.1 Rest j)) 3 1 (fun i=>eI (gN G i)) j s lv t) 2 1 (fun i=>eI (gI (G.map (gI nets)) i)) j st wv u) ?_ ?_
  ·conv=>whnf
   exact ⟨fl,.emp,.emp,x.1,x.2,true,rfl,by rw [←hQ0];rfl,ROut.start (show ROut _ _ _ _ 0 st .emp u from ROut.start (show OQ bo q L fl (QJ G x.1 Rest 0) st u from ⟨hb0,y,hy,by rw [←hQ0];exact hQ3⟩) _ _ _) _ _ _⟩
  rintro j vs w hj ⟨fl2,lv,wv,c1,c2,is,rfl,hpk,hR⟩
  by_cases hjl:j<G.length
  ·have hQn:=C5i (G:=G) (k:=x.1) (Rest:=Rest) hjl
   rw [hQn] at hpk
   obtain ⟨rfl,rfl,rfl⟩:=A9p hpk
   have hGj:=hGok j hjl
   have hxn:0≤gI nets (gN G j).toNat∧gI nets (gN G j).toNat≤A2 nets:=⟨hn.pos _ (A6 (by omega)),J3 hn.pos (A6 (by omega))⟩
   have hns:=hn.sum
   have hg1:=hgs j hj
   have hg2:=hgs (j+1) hjl
   have hgt:((G.take (j+1)).map (gI nets))=((G.take j).map (gI nets))++[gI nets (gN G j).toNat]:=by
    rw [D7H hjl,D6g]
    have:(gN G j).toNat=G[j]:=by show (((G.getD j 0:Nat):Int)).toNat=_;rw [D5C,D5K hjl];rfl
    rw [this];rfl
   have hgm:gI (G.map (gI nets)) j=nets.getD (gN G j).toNat default:=by
    unfold gI
    rw [D5C,D6B,D5K hjl]
    have:(gN G j).toNat=G[j]:=by show (((G.getD j 0:Nat):Int)).toNat=_;rw [D5C,D5K hjl];rfl
    rw [this];rfl
   have hsum:IntKind.i64.wrap (A2 ((G.take j).map (gI nets))+nets.getD (gN G j).toNat default)=A2 ((G.take (j+1)).map (gI nets)):=by
    rw [hgt,F4] at hg2 ⊢
    have e1:A2 [gI nets (gN G j).toNat]=gI nets (gN G j).toNat:=by rw [J5];exact D7Q _
    rw [e1] at hg2 ⊢
    exact A5 (show _≤A2 ((G.take j).map (gI nets))+gI nets (gN G j).toNat by omega) (show A2 ((G.take j).map (gI nets))+gI nets (gN G j).toNat≤_ by omega)
   conv=>whnf
   rw [show (x.1==x.1)=true from D7R _];conv=>whnf
   obtain ⟨s0,hw0,s1,hl0,hb1,y1,hy1,hq1⟩:=hR
   rw [hQn] at hq1
   have hsj:=hsortQ j hj
   rw [hQn] at hsj
   refine call (A9u _ q fl2 (x.1,gN G j) (QJ G x.1 Rest (j+1)) _ hq1 (D7o.1 hsj).1) (fun v w' hv=>?_)
   obtain ⟨rfl,hq2⟩:=hv
   have hin:ROut (OQ bo q L false (QJ G x.1 Rest (j+1))) 3 1 (fun i=>eI (gN G i)) j s0 lv w':=⟨s1,hl0,hb1,y1,hy1,hq2⟩
   have hwv:wv=.emp∨∃ b,wv=.own 1 b 0 j:=ROut.head (show ROut (fun s t=>ROut (OQ bo q L false (QJ G x.1 Rest (j+1))) 3 1 (fun i=>eI (gN G i)) j s lv t) 2 1 (fun i=>eI (gI (G.map (gI nets)) i)) j st wv w' from ⟨s0,hw0,hin⟩)
   have hlv:=ROut.head hin
   obtain ⟨d1,d2,js,hpk2⟩:=B8g (QJ G x.1 Rest (j+1))
   have hB1:=B0L bo q L false (QJ G x.1 Rest (j+1))
   rcases hlv with rfl | ⟨bl,rfl⟩<;>rcases hwv with rfl | ⟨bw,rfl⟩
   all_goals
    conv=>whnf
    refine ⟨[2,3,8,9,10],[],[],.qui 0 (.qui 1 (.qui 4 (.qui 5 (.qui 6 (.qui 7 (.two 2 8 (.two 3 8 (.gen 8 (.gen 9 (.gen 10 (.qui 11 (.qui 12 .done))))) (.two 3 9 (.gen 9 (.gen 10 (.qui 11 (.qui 12 .done)))) (.gen 3 (.gen 10 (.qui 11 (.qui 12 .done)))))) (.two 2 9 (.two 3 9 (.gen 9 (.gen 10 (.qui 11 (.qui 12 .done)))) (.gen 3 (.gen 10 (.qui 11 (.qui 12 .done))))) (.gen 2 (.gen 3 (.gen 10 (.qui 11 (.qui 12 .done)))))))))))),by kernel_rfl,?_⟩;conv=>whnf
    refine E7 ?_
    repeat' (refine And.intro ?_ ?_<;>(conv=>whnf))
    all_goals
     refine ROut.app (q:=r3) hB1 rfl rfl rfl rfl rfl (f:=fun i=>eI (gN G i)) (by rfl) (by show (j+1) * 8≤140737488355328;omega) hin (fun lv' w2 hin2=>?_)
     have hout2:ROut (fun s t=>ROut (OQ bo q L false (QJ G x.1 Rest (j+1))) 3 1 (fun i=>eI (gN G i)) (j+1) s lv' t) 2 1 (fun i=>eI (gI (G.map (gI nets)) i)) j st _ w2:=⟨s0,hw0,hin2⟩
     conv=>whnf
     refine ROut.app (q:=r2) (U7 hB1 _ _ _ _ _) rfl rfl rfl rfl rfl (f:=fun i=>eI (gI (G.map (gI nets)) i)) (by show _=eI _;rw [hgm];rfl) (by show (j+1) * 8≤140737488355328;omega) hout2 (fun wv' w3 hout3=>?_);conv=>whnf
     refine E7 ?_
     rw [hsum]
     obtain ⟨s2,hw2,s3,hl3,hb3,y3,hy3,hq3⟩:=hout3
     have hpc:=C3S _ q false _ _ hq3 (hsortQ (j+1) hjl)
     rw [hpk2] at hpc
     refine I5 hpc ?_
     refine F7 ?_
     exact nx hjl ⟨false,lv',wv',d1,d2,js,rfl,hpk2,⟨s2,hw2,s3,hl3,hb3,y3,hy3,hq3⟩⟩
  ·obtain rfl:j=G.length:=by omega
   rw [C2o] at hpk
   have hexit:(is&&(c1==x.1))=false:=by
    cases Rest with
    | nil=>obtain ⟨rfl,rfl,rfl⟩:=A9p hpk;rfl
    | cons r Rest=>obtain ⟨rfl,rfl,rfl⟩:=A9p hpk;exact hkey r (D6f ..)
   rw [D5N]
   have hM:=fun u=>B7V t (A2 (G.map (gI nets))) (-x.1) hrate u
   have hwn:IntKind.i64.wrap (0 - x.1) = -x.1:=(A5 (by omega) (by omega)).trans (by omega)
   case' neg=>cases is
   case' neg.true=>have hne:(c1==x.1)=false:=hexit
   case' neg.true=>conv=>whnf
   case' neg.true=>rw [hne]
   all_goals
    conv=>whnf
    rw [hwn]
    refine B3 (hM _) ?_
    generalize N8 t (A2 (G.map (gI nets))) (-x.1)=M at hparts
    conv=>whnf
    obtain ⟨w2,hsh,hR2⟩:=ROut.shift (U7 (B0L bo q L fl2 Rest) _ _ _ _ _) (show ROut (fun s t=>ROut (OQ bo q L fl2 Rest) 3 1 (fun i=>eI (gN G i)) G.length s lv t) 2 1 (fun i=>eI (gI (G.map (gI nets)) i)) G.length st wv w by rw [C2o] at hR;exact hR)
    have e0:AV.arr 1 G.length (fun i=>eI (gI (G.map (gI nets)) i))=B0 (G.map (gI nets)):=by unfold B0 A8;rw [D5H]
    rw [e0] at hsh
    refine F3 (args':=[eI M,B0 (G.map (gI nets))]) (A7.cons (A7.keep _ _) hsh) (B3 (hparts.2 _) ?_);conv=>whnf
    refine lp X.length [2,3,7,8,14,97,98,99] (fun j vs u=>vs=[B0 nets,.fptr (S8 t) 0,.own 1 bo 0 nets.length,.optr 1 q 0 0,lv,B0 X,eI X.length,eI j]∧ROut (OQ bo q (A4v L G X j) fl2 Rest) 3 1 (fun i=>eI (gN G i)) G.length st lv u) ?_ ?_
    ·conv=>whnf
     exact ⟨rfl,hR2⟩
    rintro j vs v hjx ⟨rfl,hR3⟩
    have hPl:=A8x L G X j
    have hdl:=hdone.1
    conv=>whnf
    cases h5:decide ((j:Int)<(X.length:Int))
    case' true =>
     have hj5:=D8 h5
     have hGj:=hGok j (by omega)
     obtain ⟨s0,hcl,h1o,yo,⟨fo,rfl,hfo⟩,h2o⟩:=hR3
     obtain ⟨b,g,h3,rfl,rfl,h4⟩:∃ b g,st b=none∧lv=.own 1 b 0 G.length∧s0=upd st b ⟨3,1,G.length,g⟩∧∀ k,k<G.length→g k=eI (gN G k):=by
      rcases hcl with ⟨h0,_⟩ | ⟨_,b,g,h3,h4,h5,h6⟩
      ·omega
      ·exact ⟨b,g,h3,h4,h5,h6⟩
     have hbb:b≠bo:=fun e=>by subst e;rw [A0] at h1o;cases h1o
     conv=>whnf
     refine E7 ?_
     refine E7 ?_
     refine ldV (h2o.sup b _ (by rw [A9 hbb];exact A0 ..)) rfl (by show 0+((j:Nat):Int).toNat<G.length;omega) (v:=eI (gN G j)) (by show g (0+((j:Nat):Int).toNat)=_;rw [show 0+((j:Nat):Int).toNat=j by omega];exact h4 j (by omega)) ?_;conv=>whnf
     refine E7 ?_
     refine stV (h2o.sup bo _ (A0 ..)) rfl (by show 0+(gN G j).toNat<(A4v L G X j).length;omega) (hfo (0+(gN G j).toNat) (by omega)) (by rfl) ?_;conv=>whnf
     refine F7 ?_
     have hset:IsL (A4v L G X (j+1)) ⟨2,1,(A4v L G X j).length,I3 fo (0+(gN G j).toNat) (eI (gI X (j:Int).toNat))⟩:=by
      have:=IsL.set (i:=(gN G j).toNat) (v:=gI X j) hfo
      rw [show 0+(gN G j).toNat=(gN G j).toNat by omega,show (j:Int).toNat=j by omega]
      exact this
     have hw2:=(B9e q fl2 Rest).write (y':=⟨2,1,(A4v L G X j).length,I3 fo (0+(gN G j).toNat) (eI (gI X (j:Int).toNat))⟩) h2o (A0 ..)
     rw [C0] at hw2
     exact nx hj5 ⟨by rw [B4 (by omega)],⟨_,hcl,h1o,_,hset,hw2⟩⟩
    obtain rfl:=C4 h5 hjx
    conv=>whnf
    refine F7 ?_
    have hfin:=ROut.dropped (B0L bo q (A4v L G X X.length) fl2 Rest) hR3
    rw [hparts.1] at hfin
    exact ⟨Rest.length,hmeas,_,fl2,A4v L G X G.length,by rw [hRest],rfl,hnext,by rw [hRest];exact hfin⟩
end Go.Proofs.YtaapofnkmpiknaaGreat
namespace Go.Proofs.YtaapofnkmpiknaaGreat
open Go Go.Ab
theorem B2F (p:B1) (id K:Int):A2T (P4 p id K):=by
 have hs:=(A2W p.scope).2
 have hp:=A5d p.parts
 have ht5:=(A2X p.tiers 5000 (.inl rfl)).2
 have ht6:=(A2X p.tiers 5 (.inr rfl)).2
 refine ⟨?_,?_,?_,?_,?_,?_,?_⟩
 ·have:=U3 (B5I id);show (idN id).size≤_;omega
 ·have:=(A9I p).2;show (A2b p).size≤_;omega
 ·have:=(B0Q p).2;show (A3u p).size≤_;omega
 ·show A2f (if K=4∨K=7 then ⟨[],[]⟩ else Q4 p.scope)
  split
  ·exact A5Q.2
  ·exact hs
 ·show (if K=4 then P7 p.parts else []).length≤_
  split
  ·omega
  ·exact D6e _
 ·show ∀ x∈(if K=4 then P7 p.parts else []),_
  split
  ·exact fun x hx=>(hp.2 x hx).2
  ·exact fun x hx=>absurd hx D7j
 ·show (if K=5 then P8 p.tiers 5000 else if K=6 then P8 p.tiers 5 else []).length≤_
  split
  ·omega
  ·split
   ·omega
   ·exact D6e _
theorem B6o (l:List K5) (k:Nat) (hk:k<3):B7n (D5 l k):=by
 have hn:=D5Y.1 A7O k (D5S.2 hk)
 have hz:=U3 hn
 unfold D5
 split
 ·obtain ⟨h1,h2,h3⟩:=A8v (l.getD k default).rates
  generalize T8 (l.getD k default).rates=R at h1 h2 h3 ⊢
  exact ⟨by show R.length≤_;omega,by show (Q2 k).size≤_;omega,fun x hx=>by have:=(h2 x hx).2;show x.cat.size≤_;omega⟩
 ·exact ⟨by show 0≤_;decide,by show (Q2 k).size≤_;omega,fun x hx=>absurd hx D7j⟩
theorem B8k (t:Tax):B2V (L2 t):=by
 refine ⟨by show ((List.range 3).map _).length≤_;rw [D5H,D6c];decide,fun z hz=>?_⟩
 obtain ⟨k,hk,rfl⟩:=D5X.1 hz
 exact B6o _ k (D5S.1 hk)
theorem A8w (r:G7):A7T (H5 r):=by
 have h0:=A2h r.items
 have h2:=(A0G r.policy.order).2
 have h3:=(A0G r.policy.credit).2
 refine ⟨by show (F9 r.items).length≤_;omega,fun x hx=>?_,fun p hp=>?_,B8k r.tax,by show (O3 r.policy.order).length≤_;omega,by show (O3 r.policy.credit).length≤_;omega⟩
 ·have:=A7i hx
  exact ⟨by have:=this.2.1;show x.sku.size≤_;omega,by have:=this.2.2;show x.cat.size≤_;omega⟩
 ·obtain ⟨q,id,K,_,rfl⟩:=A6i hp
  exact B2F q id K
end Go.Proofs.YtaapofnkmpiknaaGreat
namespace Go.Proofs.YtaapofnkmpiknaaGreat
open Go Go.Ab
attribute [local irreducible] upd del
theorem ROut.own {R:St→St→Prop} {ty e n:Nat} {fo:Nat→AV} {s t:St} {sv:AV} (h:ROut R ty e fo (n+1) s sv t):∃ b,sv=.own e b 0 (n+1):=by
 obtain ⟨s0,⟨h1,_⟩ | ⟨_,b,_,_,h1,_⟩,h2⟩:=h
 ·cases h1
 ·exact ⟨b,h1⟩
theorem RD.wr {dl:List A1Q} {gr:List C8} {dv gv:AV} {s t:St} {b:Nat} {y y':K7} (h:RD dl gr dv gv s t) (hb:s b=some y):RD dl gr dv gv (upd s b y') (upd t b y'):=(A3E dl gr dv gv).write h hb
theorem RD.sup {dl:List A1Q} {gr:List C8} {dv gv:AV} {s t:St} (h:RD dl gr dv gv s t):E8 s t:=(A3E dl gr dv gv).sup h
theorem RD.start (s:St):RD [] [] .emp .emp s s:=ROut.start (ROut.start (E8.refl s) _ _ _) _ _ _
theorem RD.appG {dl:List A1Q} {gr:List C8} {dv gv:AV} {s t:St} {y:C8} {x:AV} {k:KK} {g:Nat→AV} (h:RD dl gr dv gv s t) (hs:A0g 1 t x=some (1,g)) (hg:g 0=eS y) (hb:gr.length≤1000)
  (hk:∀ gv' t',RD dl (gr++[y]) dv gv' s t'→k gv' t'):A5A T 34 gv x t k:=by
 obtain ⟨s0,hc,h⟩:=h
 refine ROut.app (q:=r9) (f:=A7f (gr++[y])) J4 rfl rfl rfl rfl hs (by rw [hg];simp only [A7f,A8h]) (by show (gr.length+1) * 16≤140737488355328;omega) (ROut.congr h fun k hk=>by simp only [A7f];rw [A4n hk]) (fun sv' t' h'=>hk sv' t' ⟨s0,hc,?_⟩)
 show ROut _ _ _ _ (gr++[y]).length _ _ _
 rw [D5O];exact h'
theorem RD.appD {dl:List A1Q} {gr:List C8} {dv gv:AV} {s t:St} {y:A1Q} {x:AV} {k:KK} {g:Nat→AV} (h:RD dl gr dv gv s t) (hs:A0g 2 t x=some (1,g)) (hg:g 0=B9l y) (hb:dl.length≤1000)
  (hk:∀ b t',RD (dl++[y]) gr (.own 2 b 0 (dl.length+1)) gv s t'→k (.own 2 b 0 (dl.length+1)) t'):A5A T 111 dv x t k:=by
 refine ROut.app (q:=C6l) (f:=A1x (dl++[y])) (A8a _ _) rfl rfl rfl rfl hs (by rw [hg];simp only [A1x,A8h]) (by show (dl.length+1) * 24≤140737488355328;omega) (ROut.congr h fun k hk=>by simp only [A1x];rw [A4n hk]) (fun sv' t' h'=>?_)
 obtain ⟨b,rfl⟩:=ROut.own h'
 exact hk b t' (RD.of h')
theorem RD.deals {dl:List A1Q} {gr:List C8} {dv gv:AV} {s t:St} (h:RD dl gr dv gv s t):(dl=[]∧dv=.emp)∨∃ bd g,dv=.own 2 bd 0 dl.length∧s bd=none∧t bd=some ⟨221,2,dl.length,g⟩∧∀ k,k<dl.length→g k=A1x dl k:=by
 obtain ⟨s0,hc,hg0⟩:=h
 rcases hc with ⟨h0,h1,rfl⟩ | ⟨h0,b,g0,hb,h1,rfl,hgg⟩
 ·exact .inl ⟨D6n h0,h1⟩
 ·exact .inr ⟨b,g0,h1,hb,(A8a _ _).sup hg0 b _ (A0 ..),hgg⟩
theorem RD.groups {dl:List A1Q} {gr:List C8} {dv gv:AV} {s t:St} (h:RD dl gr dv gv s t):(gv=.emp∧gr=[])∨∃ b g,gv=.own 1 b 0 gr.length∧t b=some ⟨9,1,gr.length,g⟩∧∀ k,k<gr.length→g k=eS (gr.getD k default):=by
 obtain ⟨s0,hc,s1,hc2,hs⟩:=h
 rcases hc2 with ⟨h0,h1,rfl⟩ | ⟨h0,b,g0,hb,h1,rfl,hgg⟩
 ·exact .inl ⟨h1,D6n h0⟩
 ·exact .inr ⟨b,g0,h1,hs b _ (A0 ..),hgg⟩
theorem B0X {σ : Type} (px : σ→PSt) (step : σ→B1→σ) (sm:B1→Bool) (l:List B1) (a : σ) (o:List Int) (x:Int):Z4 px step sm l a (o++[x])=if sm (E9 l x)=true then goB px step (Z4 px step sm l a o) (E9 l x) else Z4 px step sm l a o:=by
 unfold Z4
 rw [D7A,D7r]
 by_cases h:sm (E9 l x)=true
 ·rw [if_pos h,D6J (p:=fun x=>sm (E9 l x)) h];rfl
 ·rw [if_neg h,D6O (p:=fun x=>sm (E9 l x)) h];rfl
def named (l:List C8):List C8:=l.filter fun g=>!N3 g
theorem B1p (l:List C8) (g:C8):named (l++[g])=named l++(if N3 g=true then [] else [g]):=by
 unfold named
 rw [D7A]
 congr 1
 cases h:N3 g
 ·rw [D6J (p:=fun g=>!N3 g) (by rw [h];rfl)];rfl
 ·rw [D6O (p:=fun g=>!N3 g) (by rw [h];simp)];rfl
theorem C4G (l:List C8) (g:C8):(!N3 g&&l.any fun y=>y.toList==g.toList)=!(N3 g||!inB (named l) g):=by
 cases hn:N3 g
 ·rw [D6k,D5T,D6q,D6X]
  unfold inB named
  rw [←D7M,D7i,D7i]
  constructor
  ·rintro ⟨y,h1,h2⟩
   refine ⟨y,D6G.2 ⟨h1,?_⟩,by rw [D8K];exact h2⟩
   unfold N3 at hn ⊢
   rw [eq_of_beq h2,hn];rfl
  ·rintro ⟨y,h1,h2⟩
   exact ⟨y,(D6G.1 h1).1,by rw [D8K];exact h2⟩
 ·rfl
theorem C7f {σ : Type} {px : σ→PSt} {step : σ→B1→σ} {a : σ} {pr:B1} {G:List C8} (hG:named G=(px a).groups) :
  goB px step a pr=if (!N3 pr.group&&G.any fun y=>y.toList==pr.group.toList)=true then a else step a pr:=by
 unfold goB
 rw [C4G,hG]
 cases (N3 pr.group||!inB (px a).groups pr.group)<;>rfl
theorem C5o {items:List Ab.Item} {p:PSt} {pr:B1} (hk:U4 pr=true) {G:List C8} (hG:named G=p.groups) :
  goB (fun p=>p) (A4P items) p pr=if (!N3 pr.group&&G.any fun y=>y.toList==pr.group.toList)=true then p else A4P items p pr:=C7f (px:=fun p=>p) hG
theorem C0T (l:List C8):(named l).length≤l.length:=D8f _ _
set_option maxHeartbeats 8000000 in
theorem C3X (r:G7) (codes:List C8) (l:List E4) (hf:A0S r) (hsm:A7T r) (hR:V8 r=true) (hcn:Sm codes.length) (hcs:∀ s∈codes,Sm s.size) (hln:Sm l.length) (st:St) :
  S P 115 [H3 r,C9 codes,A8 3 H6 l] st fun v st' =>
   v=(if D7 r codes l=0 then .tuple [A1c (A0b r l (V0 r.promos codes) (V0 r.promos codes)),eI 0] else .tuple [A1c ⟨[],0,0,[]⟩,eI (D7 r codes l)])∧st'=st:=by
 obtain ⟨X,hX⟩:∃ X,X=A0b r l (V0 r.promos codes) (V0 r.promos codes):=⟨_,rfl⟩
 refine S.post (post:=fun v st'=>(D7 r codes l≠0∧v=.tuple [.agg [.emp,eI 0,eI 0,.emp],eI (D7 r codes l)]∧E8 st st') ∨
   (D7 r codes l=0∧∃ bn fn dv,v=.tuple [.agg [.own 1 bn 0 l.length,eI X.net,eI X.ship,dv],eI 0] ∧
    st bn=none∧st' bn=some ⟨2,1,l.length,fn⟩∧(∀ k,k<l.length→fn k=eI (gI X.nets k))∧E8 st st' ∧
    ((X.deals=[]∧dv=.emp)∨∃ bd g,dv=.own 2 bd 0 X.deals.length∧st bd=none∧bd≠bn∧st' bd=some ⟨221,2,X.deals.length,g⟩∧∀ k,k<X.deals.length→g k=A1x X.deals k))) ?_
  (fun v st' hv=>by
   rcases hv with ⟨h1,rfl,hs⟩ | ⟨h1,bn,fn,dv,rfl,h4,h5,h6,hs,h7⟩
   ·refine ⟨_,st,⟨rfl,rfl⟩,?_⟩
    rw [if_neg h1]
    refine (hs.shift _).trans (A7.tuple (A7.cons (A7.agg ?_) (A7.keep _ _)) rfl)
    exact A7.cons (I1 1 _) (A7.cons (A7.keep [eI 0] _) (A7.cons (A7.keep [eI 0] _) (I1 2 _)))
   ·refine ⟨_,st,⟨rfl,rfl⟩,?_⟩
    rw [if_pos h1,←hX]
    refine A7.tuple (A7.cons (A7.agg ?_) (A7.keep _ _)) rfl
    have hnl:X.nets.length=l.length:=by rw [hX];show (X0 _ _).length=_;unfold X0;rw [D5H,D6c]
    clear hX
    have e1:B0 X.nets=.arr 1 l.length (fun k=>eI (gI X.nets k)):=by unfold B0 A8;rw [hnl]
    refine A7.cons (t:=del st' bn) ?_ (A7.cons (A7.keep [eI X.net] _) (A7.cons (A7.keep [eI X.ship] _) ?_))
    ·rw [e1];exact N7 h5 rfl (D5L _) h6
    ·rcases h7 with ⟨h8,rfl⟩ | ⟨bd,g,rfl,h8,h9,h10,h11⟩
     ·rw [h8]
      exact ((E8.del hs h4).shift _).trans (I1 2 _)
     ·refine (N7 (b:=bd) (y:=⟨221,2,X.deals.length,g⟩) (f:=A1x X.deals) (by rw [A2C h9];exact h10) rfl (D5L _) h11).trans ?_
      exact (E8.del (E8.del hs h4) h8).shift _)
 have hC:=hR
 unfold V8 A9O at hC
 simp only [D5I] at hC
 obtain ⟨⟨⟨⟨_,hpc⟩,_⟩,hfee,hfree⟩,_⟩:=hC
 rw [E3] at hfee hfree
 have hpk:D7 r codes l=if S7 codes=false then 2 else O8 (known r.items) l:=by unfold D7;rw [if_neg (by rw [hR];simp)]
 refine F2 [3,15,20] Tryz.func115 ?_
 intro b6 hb6;conv=>whnf
 refine I5 (B1M r hsm hR _) ?_
 refine B3 (B6s codes hcn hcs _) ?_
 have h6s:∀ x:K7,E8 st (upd st b6 x):=fun x=>(E8.refl st).upd hb6
 cases hcc:S7 codes
 ·rw [if_pos hcc] at hpk
  have hk0:D7 r codes l≠0:=by rw [hpk];decide
  conv=>whnf
  refine Y9 (A0 ..) rfl ?_
  refine J0 (A0 ..) (A4 ..) ?_
  exact .inl ⟨hk0,by rw [hpk];rfl,(h6s _).over hb6⟩
 rw [if_neg (by rw [hcc];simp)] at hpk;conv=>whnf
 refine B3 (C3V r.items l hsm.n hln _) ?_
 rw [←hpk];conv=>whnf
 cases h1:(D7 r codes l != 0)
 case true =>
  have hk0:D7 r codes l≠0:=by simpa using h1
  conv=>whnf
  refine Y9 (A0 ..) rfl ?_
  refine J0 (A0 ..) (A4 ..) ?_
  exact .inl ⟨hk0,rfl,(h6s _).over hb6⟩
 have hk0:D7 r codes l=0:=by simpa using h1
 have hck:=A6F hk0
 have hli:=hck.lines
 have hlen:=hli.len
 have hus0:=B5g hli
 have hitl:(C2 r.items l).length=l.length:=D5H ..
 obtain ⟨u1,u2,u3⟩:=A2x l hli.line l.length (D5L _)
 conv=>whnf
 refine ⟨[],[],List.range 13,by kernel_rfl,?_⟩;conv=>whnf
 refine cqW (C4b l hlen hli.line (eq_of_beq hli.may) hus0.ok.len _) ?_
 refine cqW (B6t r.items l hsm.n hlen hli.known _) ?_
 refine cqW (C1w r.promos codes hpc hcn _) ?_
 have hol:(V0 r.promos codes).length≤60:=by
  rw [(A4s _ _).length_eq]
  have:=A1j r.promos codes r.promos.length
  have:=hck.few;omega
 have hom:∀ x∈V0 r.promos codes,0≤x∧x.toNat<r.promos.length:=fun x hx=>A0F ((A4s _ _).mem_iff.1 hx)
 have hXd:X=⟨X0 l.length (p1B r l (V0 r.promos codes)).us,O1 (p1B r l (V0 r.promos codes)),(p2B r l (p1B r l (V0 r.promos codes)) (V0 r.promos codes)).2,(p2B r l (p1B r l (V0 r.promos codes)) (V0 r.promos codes)).1.deals⟩:=hX
 clear hX
 generalize V0 r.promos codes=o at *
 generalize hs6:(upd st b6 _)=s6 at *
 have h6:s6 b6=some ⟨170,4,1,fun _=>H2 B8n.zero⟩:=by rw [←hs6];exact A0 ..
 have hst6:E8 st s6:=by rw [←hs6];exact h6s _
 clear hs6
 refine mkO rfl rfl rfl (by show 8 * l.length≤_;omega) (by omega) (by rfl) (fun bn hbn=>?_);conv=>whnf
 intro bp hbp
 have hnb:bn≠bp:=fun e=>by subst e;rw [A0] at hbp;cases hbp
 have hbp6:s6 bp=none:=by rw [A9 hnb.symm] at hbp;exact hbp
 have hb6p:b6≠bp:=fun e=>by subst e;rw [h6] at hbp6;cases hbp6
 have hb6n:b6≠bn:=fun e=>by subst e;rw [h6] at hbn;cases hbn
 have hstn:st bn=none:=hst6.none hbn
 have hstp:st bp=none:=hst6.none hbp6
 conv=>whnf
 refine stU (A0 ..) rfl ?_
 rw [C0];conv=>whnf
 have hat:∀ {dl:List A1Q} {gr:List C8} {dv gv:AV} {Y Z:K7} {t:St},RD dl gr dv gv (upd (upd s6 bn Y) bp Z) t→t bn=some Y∧t bp=some Z:=fun h=>⟨h.sup bn _ (by rw [A9 hnb,A0]),h.sup bp _ (A0 ..)⟩
 have hwn:∀ {dl:List A1Q} {gr:List C8} {dv gv:AV} {Y Z Y':K7} {t:St},RD dl gr dv gv (upd (upd s6 bn Y) bp Z) t→RD dl gr dv gv (upd (upd s6 bn Y') bp Z) (upd t bn Y'):=fun {_ _ _ _ Y Z Y' t} h=>by
  have:=h.wr (b:=bn) (y':=Y') (by rw [A9 hnb,A0])
  rw [R5 hnb.symm,C0] at this;exact this
 have hwp:∀ {dl:List A1Q} {gr:List C8} {dv gv:AV} {Y Z Z':K7} {t:St},RD dl gr dv gv (upd (upd s6 bn Y) bp Z) t→RD dl gr dv gv (upd (upd s6 bn Y) bp Z') (upd t bp Z'):=fun {_ _ _ _ Y Z Z' t} h=>by
  have:=h.wr (b:=bp) (y':=Z') (A0 ..)
  rw [C0] at this;exact this
 have htk:∀ {i:Nat},i<o.length→o.take (i+1)=o.take i++[gI o i]:=fun h=>K4 h
 refine lp o.length [3,6,9,10,11,12,13,14] (fun i vs t=>∃ (p:PSt) (dv gv:AV) (G:List C8) (fp:Nat→AV),p=Z4 (fun p=>p) (A4P (C2 r.items l)) U4 r.promos ⟨V7 l,[],[]⟩ (o.take i) ∧
   vs=[.fptr (H3 r) 0,.optr 4 b6 0 0,C6 p.us,A8 4 E5 (C2 r.items l),B0 o,.optr 4 bp 0 0,gv,eI i] ∧
   RD p.deals G dv gv (upd (upd s6 bn ⟨2,1,l.length,fun _=>H2 r2.zero⟩) bp ⟨170,4,1,fp⟩) t∧fp 0=.agg [.own 1 bn 0 l.length,eI 0,eI 0,dv] ∧
   named G=p.groups∧G.length≤i∧p.deals.length≤i∧A7b (C2 r.items l) p.us∧∃ x,Off (V7 l) p.us x) ?_ ?_
 ·conv=>whnf
  exact ⟨⟨V7 l,[],[]⟩,.emp,.emp,[],_,rfl,rfl,RD.start _,A4 ..,rfl,D5L _,D5L _,hus0,0,Off.refl hus0.ok⟩
 ·rintro i vs t hi ⟨p,dv,gv,G,fp,hp,rfl,hR,hfp,hG,hGn,hDn,hus,x,hoff⟩
  conv=>whnf
  cases hd:decide ((i:Int)<(o.length:Int))
  case true =>
   have hi':=D8 hd
   have hx:=hom _ (A6 hi')
   have hx0:0≤gI o (i:Int).toNat:=hx.1
   have hx1:(gI o (i:Int).toNat).toNat<r.promos.length:=hx.2
   have hpm:E9 r.promos (gI o i)∈r.promos:=A6 hx.2
   have hpr:E9 r.promos (gI o i)=r.promos.getD (gI o (i:Int).toNat).toNat default:=rfl
   have hps:PSm (E9 r.promos (gI o i)):=⟨hsm.promos _ hpm,hck.promo _ hpm,hf.fit _ hpm⟩
   have hnext:=B0X (fun p=>p) (A4P (C2 r.items l)) U4 r.promos ⟨V7 l,[],[]⟩ (o.take i) (gI o i)
   rw [←htk hi',←hp,hpr] at hnext
   rw [hpr] at hps;conv=>whnf
   refine ⟨[8,9],[1,5,7],List.range 10,by kernel_rfl,?_⟩;conv=>whnf
   refine ⟨_,fun s _=>⟨rfl,rfl⟩,?_⟩;conv=>whnf
   refine E7 ?_
   refine ⟨_,fun s _=>⟨rfl,rfl⟩,?_⟩;conv=>whnf
   refine ⟨rfl,⟨by show 0≤gI o (i:Int).toNat;omega,by show gI o (i:Int).toNat<(r.promos.length:Int);omega⟩,?_⟩;conv=>whnf
   refine ⟨_,fun s _=>⟨rfl,rfl⟩,?_⟩;conv=>whnf
   have hend:∀ {q:PSt} {dv' gv':AV} {G':List C8} {fp':Nat→AV} {t':St},q=Z4 (fun p=>p) (A4P (C2 r.items l)) U4 r.promos ⟨V7 l,[],[]⟩ (o.take (i+1))→RD q.deals G' dv' gv' (upd (upd s6 bn ⟨2,1,l.length,fun _=>H2 r2.zero⟩) bp ⟨170,4,1,fp'⟩) t'→fp' 0=.agg [.own 1 bn 0 l.length,eI 0,eI 0,dv'] →
     named G'=q.groups→G'.length≤i+1→q.deals.length≤i+1→A7b (C2 r.items l) q.us→(∃ x,Off (V7 l) q.us x)→∃ (p:PSt) (dv gv:AV) (G:List C8) (fp:Nat→AV),p=Z4 (fun p=>p) (A4P (C2 r.items l)) U4 r.promos ⟨V7 l,[],[]⟩ (o.take (i+1)) ∧
     [.fptr (H3 r) 0,.optr 4 b6 0 0,C6 q.us,A8 4 E5 (C2 r.items l),B0 o,.optr 4 bp 0 0,gv',eI (IntKind.i64.wrap ((i:Int)+1))]=[.fptr (H3 r) 0,.optr 4 b6 0 0,C6 p.us,A8 4 E5 (C2 r.items l),B0 o,.optr 4 bp 0 0,gv,eI ((i+1:Nat):Int)] ∧
     RD p.deals G dv gv (upd (upd s6 bn ⟨2,1,l.length,fun _=>H2 r2.zero⟩) bp ⟨170,4,1,fp⟩) t'∧fp 0=.agg [.own 1 bn 0 l.length,eI 0,eI 0,dv] ∧
     named G=p.groups∧G.length≤i+1∧p.deals.length≤i+1∧A7b (C2 r.items l) p.us∧∃ x,Off (V7 l) p.us x:=fun {q dv' gv' G' fp' t'} h1 h2 h3 h4 h5 h6 h7 h8=>⟨q,dv',gv',G',fp',h1,by rw [B4 (by omega)],h2,h3,h4,h5,h6,h7,h8⟩
   cases h7:((r.promos.getD (gI o (i:Int).toNat).toNat default).kind==7)
   case true =>
    rw [if_neg (by unfold U4;rw [h7];simp)] at hnext;conv=>whnf
    refine F7 ?_
    exact nx hi' (hend hnext.symm hR hfp hG (by omega) (by omega) hus ⟨x,hoff⟩)
   case false =>
    have hns:U4 (r.promos.getD (gI o (i:Int).toNat).toNat default)=true:=by unfold U4;rw [h7];rfl
    rw [if_pos hns,C5o hns hG] at hnext;conv=>whnf
    refine B3 (B6G G (r.promos.getD (gI o (i:Int).toNat).toNat default).group (by omega) gv _ hR.groups) ?_
    cases htk:(!N3 (r.promos.getD (gI o (i:Int).toNat).toNat default).group&&G.any fun y=>y.toList==(r.promos.getD (gI o (i:Int).toNat).toNat default).group.toList)
    case true =>
     rw [if_pos htk] at hnext;conv=>whnf
     refine F7 ?_
     exact nx hi' (hend hnext.symm hR hfp hG (by omega) (by omega) hus ⟨x,hoff⟩)
    case false =>
     rw [if_neg (by rw [htk];simp)] at hnext
     have hk7:(r.promos.getD (gI o (i:Int).toNat).toNat default).kind≠7:=by simpa using h7
     obtain ⟨y,hoy⟩:=B5t hus hps.fit hps.right hk7
     have hus2:=hus.off hoy
     have hof2:=hoff.trans hoy
     rw [←hnext] at hus2 hof2
     have hAs:A4P (C2 r.items l) p (r.promos.getD (gI o (i:Int).toNat).toNat default)=if (A0i (C2 r.items l) p.us (r.promos.getD (gI o (i:Int).toNat).toNat default)).2>0 then A1E ⟨(A0i (C2 r.items l) p.us (r.promos.getD (gI o (i:Int).toNat).toNat default)).1,p.deals,p.groups⟩ (r.promos.getD (gI o (i:Int).toNat).toNat default) (A0i (C2 r.items l) p.us (r.promos.getD (gI o (i:Int).toNat).toNat default)).2 else p:=rfl
     conv=>whnf
     refine call (C8r (C2 r.items l) p.us (r.promos.getD (gI o (i:Int).toNat).toNat default) hps hk7 hus _) (fun v t' hv=>?_)
     obtain ⟨⟨z,rfl,hz⟩,rfl⟩:=hv
     conv=>whnf
     cases hgt:decide ((A0i (C2 r.items l) p.us (r.promos.getD (gI o (i:Int).toNat).toNat default)).2>0)
     case false =>
      rw [if_neg (D5G hgt)] at hAs
      rw [hAs] at hnext;conv=>whnf
      refine F7 ?_
      exact nx hi' (hend hnext.symm hR hfp hG (by omega) (by omega) hus ⟨x,hoff⟩)
     case true =>
      have hgt':=D5F hgt
      rw [if_pos hgt'] at hAs
      rw [hAs] at hnext
      obtain rfl:=hz hgt'
      conv=>whnf
      refine RD.appG (y:=(r.promos.getD (gI o (i:Int).toNat).toNat default).group) hR rfl rfl (by omega) (fun gv' t1 hR1=>?_);conv=>whnf
      have hdv:=ROut.head hR1
      rcases hdv with rfl | ⟨bo,rfl⟩
      all_goals
       refine J0 (hat hR1).2 hfp ?_
       refine RD.appD (y:=⟨(r.promos.getD (gI o (i:Int).toNat).toNat default).id,(A0i (C2 r.items l) p.us (r.promos.getD (gI o (i:Int).toNat).toNat default)).2⟩) hR1 rfl (by rfl) (by omega) (fun bd t2 hR2=>?_);conv=>whnf
       refine Y9 (hat hR2).2 hfp ?_
       refine F7 ?_
       refine nx hi' ?_
       have hD:(A1E ⟨(A0i (C2 r.items l) p.us (r.promos.getD (gI o (i:Int).toNat).toNat default)).1,p.deals,p.groups⟩ (r.promos.getD (gI o (i:Int).toNat).toNat default) (A0i (C2 r.items l) p.us (r.promos.getD (gI o (i:Int).toNat).toNat default)).2).deals=p.deals++[⟨(r.promos.getD (gI o (i:Int).toNat).toNat default).id,(A0i (C2 r.items l) p.us (r.promos.getD (gI o (i:Int).toNat).toNat default)).2⟩]:=rfl
       have hGr:(A1E ⟨(A0i (C2 r.items l) p.us (r.promos.getD (gI o (i:Int).toNat).toNat default)).1,p.deals,p.groups⟩ (r.promos.getD (gI o (i:Int).toNat).toNat default) (A0i (C2 r.items l) p.us (r.promos.getD (gI o (i:Int).toNat).toNat default)).2).groups=p.groups++(if N3 (r.promos.getD (gI o (i:Int).toNat).toNat default).group=true then [] else [(r.promos.getD (gI o (i:Int).toNat).toNat default).group]):=rfl
       have hUs:(A1E ⟨(A0i (C2 r.items l) p.us (r.promos.getD (gI o (i:Int).toNat).toNat default)).1,p.deals,p.groups⟩ (r.promos.getD (gI o (i:Int).toNat).toNat default) (A0i (C2 r.items l) p.us (r.promos.getD (gI o (i:Int).toNat).toNat default)).2).us=(A0i (C2 r.items l) p.us (r.promos.getD (gI o (i:Int).toNat).toNat default)).1:=rfl
       rw [hnext] at hus2 hof2
       exact hend (G':=G++[(r.promos.getD (gI o (i:Int).toNat).toNat default).group]) hnext.symm (hwp hR2) (A4 ..) (by rw [B1p,hG];rfl) (by rw [D5O];show G.length+1≤_;omega) (by rw [hD,D5O];show p.deals.length+1≤_;omega) hus2 ⟨_,hof2⟩
  case false =>
   obtain rfl:=C4 hd hi
   rw [D5N] at hp
   have hp1:p1B r l o=p:=hp.symm
   rw [hp1] at hXd
   clear hp1 hp
   have hu1:=hus.ok
   have hul:=hu1.len
   have hus1:=hu1.sum
   have hnet0:=C1 hu1.nets0
   have hline:∀ k,k<p.us.length→0≤(gU p.us k).line∧(gU p.us k).line.toNat<l.length:=fun k hk=>by
    have:=hus.line _ (A6 hk)
    rw [hitl] at this;exact this
   have hul1:p.us.length=(V7 l).length:=hoff.len
   conv=>whnf
   refine lp p.us.length [3,6,9,11,12,13,18] (fun k vs t=>∃ (fn fp:Nat→AV),vs=[.fptr (H3 r) 0,.optr 4 b6 0 0,C6 p.us,B0 o,.optr 4 bp 0 0,gv,eI k] ∧
    RD p.deals G dv gv (upd (upd s6 bn ⟨2,1,l.length,fn⟩) bp ⟨170,4,1,fp⟩) t∧fp 0=.agg [.own 1 bn 0 l.length,eI (A2 ((D6 p.us).take k)),eI 0,dv]∧∀ j,j<l.length→fn j=eI (F6 (p.us.take k) j)) ?_ ?_
   ·conv=>whnf
    exact ⟨_,fp,rfl,hR,hfp,fun j _=>rfl⟩
   ·clear hR hfp fp
    rintro k vs t hk ⟨fn,fp,rfl,hR,hfp,hfn⟩
    obtain ⟨htn,htp⟩:=hat hR
    conv=>whnf
    cases hd2:decide ((k:Int)<(p.us.length:Int))
    case true =>
     have hk':=D8 hd2
     have hlk:0≤(gU p.us (k:Int).toNat).line∧(gU p.us (k:Int).toNat).line.toNat<l.length:=hline k hk'
     have hn0:0≤(gU p.us k).net:=hu1.at0 k
     have hn1:(gU p.us k).net≤10000000000000:=hu1.le (A6 hk')
     have e1:=L1 (l:=D6 p.us) (i:=k) (by rw [D5H];exact hk')
     have e4:gI (D6 p.us) k=(gU p.us k).net:=D4 B2.net p.us hk'
     have e2:=N1 hu1.nets0 (k+1)
     have e3:=C1 (l:=(D6 p.us).take k) (fun x hx=>hu1.nets0 x (D6H _ _ hx))
     have hlb:=A0X hu1 k (gU p.us (k:Int).toNat).line.toNat
     have hlb2:=A0X hu1 (k+1) (gU p.us (k:Int).toNat).line.toNat
     have hln1:F6 (p.us.take (k+1)) (gU p.us (k:Int).toNat).line.toNat=F6 (p.us.take k) (gU p.us (k:Int).toNat).line.toNat+(gU p.us (k:Int).toNat).net:=(Y6 hk' (gU p.us k).line.toNat).trans (if_pos rfl)
     have hfl:fn (0+(gU p.us (k:Int).toNat).line.toNat)=eI (F6 (p.us.take k) (gU p.us (k:Int).toNat).line.toNat):=by rw [D5R];exact hfn _ hlk.2
     have w1:IntKind.i64.wrap (F6 (p.us.take k) (gU p.us (k:Int).toNat).line.toNat+(gU p.us (k:Int).toNat).net)=F6 (p.us.take (k+1)) (gU p.us (k:Int).toNat).line.toNat:=by rw [hln1];exact A5 (by omega) (by omega)
     have w2:IntKind.i64.wrap (A2 ((D6 p.us).take k)+(gU p.us (k:Int).toNat).net)=A2 ((D6 p.us).take (k+1)):=by rw [e1,e4];exact A5 (by omega) (by omega)
     conv=>whnf
     refine ⟨[23],[],List.range 24,by kernel_rfl,?_⟩;conv=>whnf
     refine J0 htp hfp ?_
     refine E7 ?_
     refine J0 htp hfp ?_
     refine E7 ?_
     refine ⟨rfl,⟨by show 0≤(gU p.us (k:Int).toNat).line;exact hlk.1,by show (gU p.us (k:Int).toNat).line<(l.length:Int);have:=hlk.2;have:=hlk.1;omega⟩,?_⟩;conv=>whnf
     refine ldV htn rfl (by show 0+(gU p.us (k:Int).toNat).line.toNat<_;have:=hlk.2;omega) hfl ?_;conv=>whnf
     refine E7 ?_
     refine ⟨rfl,⟨by show 0≤(gU p.us (k:Int).toNat).line;exact hlk.1,by show (gU p.us (k:Int).toNat).line<(l.length:Int);have:=hlk.2;have:=hlk.1;omega⟩,?_⟩;conv=>whnf
     refine stV htn rfl (by show 0+(gU p.us (k:Int).toNat).line.toNat<_;have:=hlk.2;omega) hfl (by rfl) ?_
     have hP5:=hwn (Y':=⟨2,1,l.length,I3 fn (0+(gU p.us (k:Int).toNat).line.toNat) (eI (F6 (p.us.take (k+1)) (gU p.us (k:Int).toNat).line.toNat))⟩) hR
     rw [←w1] at hP5
     obtain ⟨_,htp2⟩:=hat hP5
     conv=>whnf
     refine ⟨[9],[],List.range 10,by kernel_rfl,?_⟩;conv=>whnf
     refine J0 htp2 hfp ?_
     refine E7 ?_
     refine Y9 htp2 hfp ?_
     refine F7 ?_
     refine nx hk' ⟨_,_,by rw [B4 (by omega)],hwp hP5,?_,fun j hj=>?_⟩
     ·rw [A4,←w2];rfl
     ·show I3 fn (0+(gU p.us (k:Int).toNat).line.toNat) _ j=_
      rw [D5R]
      by_cases hj2:j=(gU p.us (k:Int).toNat).line.toNat
      ·subst hj2
       rw [A4,w1]
      ·rw [H1 hj2,Y6 hk' j,if_neg (fun e=>hj2 e.symm)];exact hfn j hj
    case false =>
     obtain rfl:=C4 hd2 hk
     rw [D5N] at hfn
     have htk2:(D6 p.us).take p.us.length=D6 p.us:=by rw [←D5H (f:=B2.net),D5N]
     rw [htk2] at hfp
     change fp 0=.agg [.own 1 bn 0 l.length,eI (O1 p),eI 0,dv] at hfp
     have hF:A0P r.ship (V7 l).length (O1 p)=if ((p.us.length:Int)=0∨(r.ship.free>0∧O1 p≥r.ship.free)) then 0 else r.ship.fee:=by unfold A0P;rw [hul1]
     have hnb0:0≤O1 p:=hnet0
     conv=>whnf
     refine B8 (fun g1=>?_) (fun g1=>?_)<;>rw [g1]<;>simp only [D5E,D5D] at g1
     case' refine_1 =>
      conv=>whnf
      refine B8 (fun g2=>?_) (fun g2=>?_)<;>rw [g2]<;>simp only [D6z,D6o,ne_eq] at g2
     case' refine_1.refine_1 =>
      conv=>whnf
      refine stU htp hfp ?_
      have hR3:=hwp (Z':=⟨170,4,1,I3 fp 0 (.agg [.own 1 bn 0 l.length,eI (O1 p),eI r.ship.fee,dv])⟩) hR
      have hfp3:I3 fp 0 (.agg [.own 1 bn 0 l.length,eI (O1 p),eI r.ship.fee,dv]) 0=.agg [.own 1 bn 0 l.length,eI (O1 p),eI (A0P r.ship (V7 l).length (O1 p)),dv]:=by rw [A4,hF,if_neg (by omega)]
     case' refine_1.refine_2 =>
      conv=>whnf
      refine J0 htp hfp ?_
      refine B8 (fun g3=>?_) (fun g3=>?_)<;>rw [g3]<;>simp only [D5E,D5D] at g3
     case' refine_1.refine_2.refine_1 =>
      conv=>whnf
      refine stU htp hfp ?_
      have hR3:=hwp (Z':=⟨170,4,1,I3 fp 0 (.agg [.own 1 bn 0 l.length,eI (O1 p),eI r.ship.fee,dv])⟩) hR
      have hfp3:I3 fp 0 (.agg [.own 1 bn 0 l.length,eI (O1 p),eI r.ship.fee,dv]) 0=.agg [.own 1 bn 0 l.length,eI (O1 p),eI (A0P r.ship (V7 l).length (O1 p)),dv]:=by rw [A4,hF,if_neg (by omega)]
     case' refine_1.refine_2.refine_2 =>
      have hR3:=hR
      have hfp3:fp 0=.agg [.own 1 bn 0 l.length,eI (O1 p),eI (A0P r.ship (V7 l).length (O1 p)),dv]:=by rw [hfp,hF,if_pos (by omega)]
     case' refine_2 =>
      have hR3:=hR
      have hfp3:fp 0=.agg [.own 1 bn 0 l.length,eI (O1 p),eI (A0P r.ship (V7 l).length (O1 p)),dv]:=by rw [hfp,hF,if_pos (by omega)]
     all_goals
      conv=>whnf
      clear hR hfp hF
      have hfeB:0≤A0P r.ship (V7 l).length (O1 p)∧A0P r.ship (V7 l).length (O1 p)≤10000000000000:=by
       unfold A0P;split<;>omega
      refine lp o.length [3,6,11,12,13,19] (fun i vs t=>∃ (a:PSt×Int) (dv gv:AV) (G:List C8) (fp:Nat→AV),a=Z4 (fun a=>a.1) (V6 (O1 p)) A0m r.promos (p,A0P r.ship (V7 l).length (O1 p)) (o.take i) ∧
       vs=[.fptr (H3 r) 0,.optr 4 b6 0 0,B0 o,.optr 4 bp 0 0,gv,eI i] ∧
       RD a.1.deals G dv gv (upd (upd s6 bn ⟨2,1,l.length,fn⟩) bp ⟨170,4,1,fp⟩) t∧fp 0=.agg [.own 1 bn 0 l.length,eI (O1 p),eI a.2,dv] ∧
       named G=a.1.groups∧G.length≤60+i∧a.1.deals.length≤60+i∧0≤a.2∧a.2≤10000000000000) ?_ ?_
      ·conv=>whnf
       exact ⟨(p,A0P r.ship (V7 l).length (O1 p)),dv,gv,G,_,rfl,rfl,hR3,hfp3,hG,by omega,by show p.deals.length≤_;omega,hfeB⟩
      clear hR3 hfp3 hG hGn hDn htp htn hd hd2 hk hi
      rintro i vs t hi ⟨a,dv,gv,G,fp,ha,rfl,hR,hfp,hG,hGn,hDn,ha0,ha1⟩
      obtain ⟨htn,htp⟩:=hat hR
      conv=>whnf
      cases hd:decide ((i:Int)<(o.length:Int))
      case false =>
       obtain rfl:=C4 hd hi
       rw [D5N] at ha
       have hp2:p2B r l p o=a:=ha.symm
       rw [hp2] at hXd
       have h6b:t b6=some ⟨170,4,1,fun _=>H2 B8n.zero⟩:=hR.sup b6 _ (by rw [A9 hb6p,A9 hb6n];exact h6)
       have h76:E8 s6 t:=fun c x hc=>hR.sup c x (by
        have e1:c≠bp:=fun e=>by subst e;rw [hbp6] at hc;cases hc
        have e2:c≠bn:=fun e=>by subst e;rw [hbn] at hc;cases hc
        rw [A9 e1,A9 e2];exact hc)
       have hS2:E8 st t:=hst6.trans h76
       have hnets:∀ k,k<l.length→fn k=eI (gI X.nets k):=fun k hk=>by
        rw [hXd,hfn k hk]
        show eI _=eI (gI (X0 l.length p.us) k)
        unfold X0
        rw [M9 _ hk]
       conv=>whnf
       rcases hR.deals with ⟨hd0,rfl⟩ | ⟨bd,gd,rfl,hbd,hbt,hgd⟩
       ·refine J0 htp hfp ?_
        refine Y9 h6b rfl ?_
        refine J0 (A0 ..) (A4 ..) ?_
        exact .inr ⟨hk0,bn,fn,.emp,by rw [hXd];rfl,hstn,by rw [A9 hb6n.symm];exact htn,hnets,hS2.over hb6,.inl ⟨by rw [hXd];exact hd0,rfl⟩⟩
       ·have hbdp:bd≠bp:=fun e=>by subst e;rw [A0] at hbd;cases hbd
        rw [A9 hbdp] at hbd
        have hbdn:bd≠bn:=fun e=>by subst e;rw [A0] at hbd;cases hbd
        rw [A9 hbdn] at hbd
        have hbd6:bd≠b6:=fun e=>by subst e;rw [h6] at hbd;cases hbd
        refine J0 htp hfp ?_
        refine Y9 h6b rfl ?_
        refine J0 (A0 ..) (A4 ..) ?_
        exact .inr ⟨hk0,bn,fn,.own 2 bd 0 a.1.deals.length,by rw [hXd];rfl,hstn,by rw [A9 hb6n.symm];exact htn,hnets,hS2.over hb6,.inr ⟨bd,gd,by rw [hXd],hst6.none hbd,hbdn,by rw [A9 hbd6,hXd];exact hbt,by rw [hXd];exact hgd⟩⟩
      case true =>
       have hi':=D8 hd
       have hx:=hom _ (A6 hi')
       have hx0:0≤gI o (i:Int).toNat:=hx.1
       have hx1:(gI o (i:Int).toNat).toNat<r.promos.length:=hx.2
       have hpm:(r.promos.getD (gI o (i:Int).toNat).toNat default)∈r.promos:=A6 hx.2
       have hpc1:G9 (r.promos.getD (gI o (i:Int).toNat).toNat default)=true:=hck.promo _ hpm
       have hnext:Z4 (fun a=>a.1) (V6 (O1 p)) A0m r.promos (p,A0P r.ship (V7 l).length (O1 p)) (o.take (i+1))=if A0m (r.promos.getD (gI o (i:Int).toNat).toNat default)=true then goB (fun a=>a.1) (V6 (O1 p)) a (r.promos.getD (gI o (i:Int).toNat).toNat default) else a:=by
        rw [htk hi',B0X,←ha];rfl
       have hend:∀ {q:PSt×Int} {dv' gv':AV} {G':List C8} {fp':Nat→AV} {t':St},q=Z4 (fun a=>a.1) (V6 (O1 p)) A0m r.promos (p,A0P r.ship (V7 l).length (O1 p)) (o.take (i+1))→RD q.1.deals G' dv' gv' (upd (upd s6 bn ⟨2,1,l.length,fn⟩) bp ⟨170,4,1,fp'⟩) t'→fp' 0=.agg [.own 1 bn 0 l.length,eI (O1 p),eI q.2,dv'] →
         named G'=q.1.groups→G'.length≤60+(i+1)→q.1.deals.length≤60+(i+1)→0≤q.2∧q.2≤10000000000000→∃ (a:PSt×Int) (dv gv:AV) (G:List C8) (fp:Nat→AV),a=Z4 (fun a=>a.1) (V6 (O1 p)) A0m r.promos (p,A0P r.ship (V7 l).length (O1 p)) (o.take (i+1)) ∧
         [.fptr (H3 r) 0,.optr 4 b6 0 0,B0 o,.optr 4 bp 0 0,gv',eI (IntKind.i64.wrap ((i:Int)+1))]=[.fptr (H3 r) 0,.optr 4 b6 0 0,B0 o,.optr 4 bp 0 0,gv,eI ((i+1:Nat):Int)] ∧
         RD a.1.deals G dv gv (upd (upd s6 bn ⟨2,1,l.length,fn⟩) bp ⟨170,4,1,fp⟩) t'∧fp 0=.agg [.own 1 bn 0 l.length,eI (O1 p),eI a.2,dv] ∧
         named G=a.1.groups∧G.length≤60+(i+1)∧a.1.deals.length≤60+(i+1)∧0≤a.2∧a.2≤10000000000000:=fun {q dv' gv' G' fp' t'} h1 h2 h3 h4 h5 h6 h7=>⟨q,dv',gv',G',fp',h1,by rw [B4 (by omega)],h2,h3,h4,h5,h6,h7⟩
       conv=>whnf
       refine ⟨[8,9],[1,5,7],List.range 10,by kernel_rfl,?_⟩;conv=>whnf
       refine ⟨_,fun s _=>⟨rfl,rfl⟩,?_⟩;conv=>whnf
       refine E7 ?_
       refine ⟨_,fun s _=>⟨rfl,rfl⟩,?_⟩;conv=>whnf
       refine ⟨rfl,⟨by show 0≤gI o (i:Int).toNat;omega,by show gI o (i:Int).toNat<(r.promos.length:Int);omega⟩,?_⟩;conv=>whnf
       refine ⟨_,fun s _=>⟨rfl,rfl⟩,?_⟩;conv=>whnf
       rw [show ((r.promos.getD (gI o (i:Int).toNat).toNat default).kind != 7)=!((r.promos.getD (gI o (i:Int).toNat).toNat default).kind==7) from rfl]
       cases h7:((r.promos.getD (gI o (i:Int).toNat).toNat default).kind==7)
       case false =>
        rw [if_neg (by unfold A0m;rw [h7];simp)] at hnext;conv=>whnf
        refine F7 ?_
        exact nx hi' (hend hnext.symm hR hfp hG (by omega) (by omega) ⟨ha0,ha1⟩)
       case true =>
        have hns:A0m (r.promos.getD (gI o (i:Int).toNat).toNat default)=true:=by unfold A0m;rw [h7]
        rw [if_pos hns,C7f hG] at hnext;conv=>whnf
        refine B3 (B6G G (r.promos.getD (gI o (i:Int).toNat).toNat default).group (by omega) gv _ hR.groups) ?_
        cases htk2:(!N3 (r.promos.getD (gI o (i:Int).toNat).toNat default).group&&G.any fun y=>y.toList==(r.promos.getD (gI o (i:Int).toNat).toNat default).group.toList)
        case true =>
         rw [if_pos htk2] at hnext;conv=>whnf
         refine F7 ?_
         exact nx hi' (hend hnext.symm hR hfp hG (by omega) (by omega) ⟨ha0,ha1⟩)
        case false =>
         rw [if_neg (by rw [htk2];simp)] at hnext
         have hgl:=C0T G
         rw [hG] at hgl
         have hinv:=B3o (net:=O1 p) (n:=0) hpc1 hns (a:=a) ⟨by omega,by omega,ha0,ha1⟩
         have hS0:V6 (O1 p) a (r.promos.getD (gI o (i:Int).toNat).toNat default)=((A7k a.1 (r.promos.getD (gI o (i:Int).toNat).toNat default) (O1 p) a.2).2,(A7k a.1 (r.promos.getD (gI o (i:Int).toNat).toNat default) (O1 p) a.2).1):=rfl
         have hSB:A7k a.1 (r.promos.getD (gI o (i:Int).toNat).toNat default) (O1 p) a.2=if O1 p<(r.promos.getD (gI o (i:Int).toNat).toNat default).least then (a.2,a.1) else (a.2 - J7 a.2 (r.promos.getD (gI o (i:Int).toNat).toNat default).rate,if J7 a.2 (r.promos.getD (gI o (i:Int).toNat).toNat default).rate>0 then A1E a.1 (r.promos.getD (gI o (i:Int).toNat).toNat default) (J7 a.2 (r.promos.getD (gI o (i:Int).toNat).toNat default).rate) else a.1):=rfl
         rw [hS0] at hnext hinv;conv=>whnf
         refine J0 htp hfp ?_
         cases hgt:decide ((r.promos.getD (gI o (i:Int).toNat).toNat default).least>O1 p)
         case true =>
          have hgt':=D5F hgt
          rw [hSB,if_pos hgt'] at hnext;conv=>whnf
          refine F7 ?_
          exact nx hi' (hend (q:=a) hnext.symm hR hfp hG (by omega) (by omega) ⟨ha0,ha1⟩)
         case false =>
          have hgt':=D5G hgt
          rw [if_neg (by omega)] at hSB
          have hb:=U0 a.2 (r.promos.getD (gI o (i:Int).toNat).toNat default).rate
          have hr0:=(A3L hpc1).ship (by simpa using h7)
          have hle:=A5g ha0 (show 0≤(r.promos.getD (gI o (i:Int).toNat).toNat default).rate by omega) hr0.2
          have hw:IntKind.i64.wrap (a.2 - J7 a.2 (r.promos.getD (gI o (i:Int).toNat).toNat default).rate)=a.2 - J7 a.2 (r.promos.getD (gI o (i:Int).toNat).toNat default).rate:=A5 (by omega) (by omega)
          conv=>whnf
          refine J0 htp hfp ?_
          refine I5 (A8B a.2 (r.promos.getD (gI o (i:Int).toNat).toNat default).rate _) ?_
          cases hgh:decide (J7 a.2 (r.promos.getD (gI o (i:Int).toNat).toNat default).rate>0)
          case false =>
           have hgh':=D5G hgh
           rw [if_neg hgh'] at hSB
           rw [hSB,show a.2 - J7 a.2 (r.promos.getD (gI o (i:Int).toNat).toNat default).rate=a.2 by omega] at hnext;conv=>whnf
           refine F7 ?_
           exact nx hi' (hend (q:=a) hnext.symm hR hfp hG (by omega) (by omega) ⟨ha0,ha1⟩)
          case true =>
           have hgh':=D5F hgh
           rw [if_pos hgh'] at hSB
           rw [hSB] at hnext hinv;conv=>whnf
           refine ⟨[1,6,7,8,10],[],[],.qui 0 (.qui 2 (.qui 4 (.qui 5 (.two 1 6 (.qui 3 (.qui 9 (.gen 6 (.gen 7 (.gen 8 (.gen 10 (.qui 11 .done))))))) (.two 1 7 (.qui 3 (.qui 9 (.gen 7 (.gen 8 (.gen 10 (.qui 11 .done)))))) (.two 1 8 (.qui 3 (.qui 9 (.gen 8 (.gen 10 (.qui 11 .done))))) (.gen 1 (.qui 3 (.qui 9 (.gen 10 (.qui 11 .done))))))))))),by kernel_rfl,?_⟩;conv=>whnf
           repeat' (refine And.intro ?_ ?_<;>(conv=>whnf))
           all_goals first
            | (refine ldV htp rfl (by omega) hfp ?_
               conv=>whnf
               refine RD.appG (y:=(r.promos.getD (gI o (i:Int).toNat).toNat default).group) hR rfl rfl (by omega) (fun gv' t1 hR1=>?_))
            | (refine RD.appG (y:=(r.promos.getD (gI o (i:Int).toNat).toNat default).group) hR rfl rfl (by omega) (fun gv' t1 hR1=>?_)
               conv=>whnf
               refine ldV (hat hR1).2 rfl (by omega) hfp ?_)
           all_goals
            conv=>whnf
            refine stU (hat hR1).2 hfp ?_
            have hR2:=hwp (Z':=⟨170,4,1,I3 fp 0 (.agg [.own 1 bn 0 l.length,eI (O1 p),eI (IntKind.i64.wrap (a.2 - J7 a.2 (r.promos.getD (gI o (i:Int).toNat).toNat default).rate)),dv])⟩) hR1
            rcases ROut.head hR2 with rfl | ⟨bo,rfl⟩
            all_goals
             conv=>whnf
             refine J0 (hat hR2).2 (A4 ..) ?_
             refine RD.appD (y:=⟨(r.promos.getD (gI o (i:Int).toNat).toNat default).id,J7 a.2 (r.promos.getD (gI o (i:Int).toNat).toNat default).rate⟩) hR2 rfl (by rfl) (by omega) (fun bd t2 hR3=>?_);conv=>whnf
             refine Y9 (hat hR3).2 (A4 ..) ?_
             refine F7 ?_
             refine nx hi' ?_
             exact hend (q:=(A1E a.1 (r.promos.getD (gI o (i:Int).toNat).toNat default) (J7 a.2 (r.promos.getD (gI o (i:Int).toNat).toNat default).rate),a.2 - J7 a.2 (r.promos.getD (gI o (i:Int).toNat).toNat default).rate)) (G':=G++[(r.promos.getD (gI o (i:Int).toNat).toNat default).group]) hnext.symm (hwp hR3) (by rw [A4,hw];rfl) (by rw [B1p,hG];rfl) (by rw [D5O];show G.length+1≤_;omega) (by show (a.1.deals++[_]).length≤_;rw [D5O];show a.1.deals.length+1≤_;omega) ⟨by show 0≤a.2 - J7 a.2 (r.promos.getD (gI o (i:Int).toNat).toNat default).rate;omega,by show a.2 - J7 a.2 (r.promos.getD (gI o (i:Int).toNat).toNat default).rate≤_;omega⟩
end Go.Proofs.YtaapofnkmpiknaaGreat
namespace Go.Proofs.YtaapofnkmpiknaaGreat
open Go Go.Ab
abbrev C3A (l:List B1) (xs:List (Int×Int)):List A1Q:=xs.map fun a=>(⟨(E9 l a.1).id,a.2⟩:A1Q)
abbrev B1a (l:List B1) (xs:List (Int×Int)):List C8:=(xs.map fun a=>(E9 l a.1).group).filter fun g=>!N3 g
structure Tr (l:List B1) (p:PSt) (xs:List (Int×Int)):Prop where
 deals:p.deals=C3A l xs
 groups:p.groups=B1a l xs
 pos:∀ a∈xs,1≤a.2
 apart:p.groups.Pairwise fun x y=>(y.toList==x.toList)=false
theorem Tr.start (l:List B1) (us:List B2):Tr l ⟨us,[],[]⟩ []:=⟨rfl,rfl,fun a h=>absurd h D7j,.nil⟩
def B3S {σ : Type} (px : σ→PSt) (step : σ→B1→σ) (sm:B1→Bool) (l:List B1) (Q : σ→Int→Prop):Prop :=
 ∀ (a : σ) (s:Int) (pr:B1),pr∈l→sm pr=true→Q a s →
  ((px (step a pr)).deals=(px a).deals∧(px (step a pr)).groups=(px a).groups∧Q (step a pr) s) ∨
  ∃ off,1≤off∧(px (step a pr)).deals=(px a).deals++[⟨pr.id,off⟩]∧(px (step a pr)).groups=(px a).groups++(if N3 pr.group=true then [] else [pr.group])∧Q (step a pr) (s+off)
theorem C6N {σ : Type} {px : σ→PSt} {step : σ→B1→σ} {sm:B1→Bool} {l:List B1} {Q : σ→Int→Prop} (hstep:B3S px step sm l Q) :
  ∀ (f:List Int) (a : σ) (xs:List (Int×Int)) (s:Int),(∀ x∈f,x.toNat<l.length∧sm (E9 l x)=true)→Tr l (px a) xs→Q a s →
   ∃ ys,Tr l (px (f.foldl (fun a x=>goB px step a (E9 l x)) a)) (xs++ys)∧(ys.map Prod.fst).Sublist f∧Q (f.foldl (fun a x=>goB px step a (E9 l x)) a) (s+A2 (ys.map Prod.snd)):=by
 intro f
 induction f with
 | nil=>intro a xs s _ ht hq;exact ⟨[],by rw [D7y];exact ht,List.Sublist.slnil,by rw [show s+A2 (([]:List (Int×Int)).map Prod.snd)=s from D7Q s];exact hq⟩
 | cons x f ih =>
  intro a xs s hm ht hq
  have hm':∀ y∈f,y.toNat<l.length∧sm (E9 l y)=true:=fun y hy=>hm y (D6d _ hy)
  have hx:=hm x (D6f ..)
  have hmem:E9 l x∈l:=A6 hx.1
  rw [D6U]
  unfold goB
  by_cases hg:(N3 (E9 l x).group||!inB (px a).groups (E9 l x).group)=true
  ·rw [if_pos hg]
   rcases hstep a s (E9 l x) hmem hx.2 hq with ⟨h1,h2,h3⟩ | ⟨off,h0,h1,h2,h3⟩
   ·obtain ⟨ys,k1,k2,k3⟩:=ih _ xs s hm' ⟨h1.trans ht.deals,h2.trans ht.groups,ht.pos,by rw [h2];exact ht.apart⟩ h3
    exact ⟨ys,k1,k2.cons _,k3⟩
   ·have ht':Tr l (px (step a (E9 l x))) (xs++[(x,off)]):=by
     refine ⟨?_,?_,fun b hb=>?_,?_⟩
     ·rw [h1,ht.deals];unfold C3A;rw [D6g];rfl
     ·rw [h2,ht.groups];unfold B1a
      rw [D6g,D7A]
      congr 1
      cases hn:N3 (E9 l x).group
      ·rw [if_neg (by simp)]
       show [(E9 l x).group]=List.filter (fun g=>!N3 g) [(E9 l x).group]
       rw [D6J (p:=fun g=>!N3 g) (by rw [hn];rfl)];rfl
      ·rw [if_pos rfl]
       show []=List.filter (fun g=>!N3 g) [(E9 l x).group]
       rw [D6O (p:=fun g=>!N3 g) (by rw [hn];simp)];rfl
     ·rcases D6T.1 hb with hb | hb
      ·exact ht.pos b hb
      ·rw [D6h.1 hb];exact h0
     ·rw [h2]
      refine List.pairwise_append.2 ⟨ht.apart,?_,fun y hy z hz=>?_⟩
      ·split
       ·exact .nil
       ·exact List.pairwise_singleton _ _
      ·split at hz
       ·exact absurd hz D7j
       ·rename_i hn
        rw [D6h.1 hz]
        rw [D7s.2 hn,D6q,D5W] at hg
        unfold inB at hg
        rw [D6E] at hg
        exact D7s.2 (hg y hy)
    obtain ⟨ys,k1,k2,k3⟩:=ih _ (xs++[(x,off)]) (s+off) hm' ht' h3
    refine ⟨(x,off)::ys,by rw [D7e] at k1;exact k1,k2.cons_cons x,?_⟩
    rw [D6I,J5,←Int.add_assoc];exact k3
  ·rw [if_neg hg]
   obtain ⟨ys,k1,k2,k3⟩:=ih _ xs s hm' ht hq
   exact ⟨ys,k1,k2.cons _,k3⟩
theorem B9Y {σ : Type} {px : σ→PSt} {step : σ→B1→σ} {sm:B1→Bool} {l:List B1} {Q : σ→Int→Prop} (hstep:B3S px step sm l Q) {o:List Int} (ho:∀ x∈o,x.toNat<l.length) {a : σ} {xs:List (Int×Int)} {s:Int} (ht:Tr l (px a) xs) (hq:Q a s) :
  ∃ ys,Tr l (px (Z4 px step sm l a o)) (xs++ys)∧(ys.map Prod.fst).Sublist (o.filter fun x=>sm (E9 l x))∧Q (Z4 px step sm l a o) (s+A2 (ys.map Prod.snd)) :=
 C6N hstep _ a xs s (fun x hx=>⟨ho x (D6G.1 hx).1,(D6G.1 hx).2⟩) ht hq
theorem C2H {items:List Ab.Item} {us0:List B2} {l:List B1} (hf:∀ p∈l,Q9 p) (hr:∀ p∈l,G9 p=true):B3S (fun p:PSt=>p) (A4P items) U4 l (fun p s=>A7b items p.us∧Off us0 p.us s):=by
 intro a s pr hm hs hq
 have hk:pr.kind≠7:=by simpa [U4] using hs
 unfold A4P
 by_cases h:(A0i items a.us pr).2>0
 ·rw [if_pos h]
  rcases C0b hq.1 (hf _ hm) (hr _ hm) hk with e | e
  ·rw [e] at h;exact absurd h (by decide)
  ·exact .inr ⟨_,by omega,rfl,rfl,hq.1.off e,hq.2.trans e⟩
 ·rw [if_neg h]
  exact .inl ⟨rfl,rfl,hq⟩
theorem C1D {net fee fee0:Int} {l:List B1} (hr:∀ p∈l,G9 p=true):B3S (fun a:PSt×Int=>a.1) (V6 net) A0m l (fun a s=>0≤a.2∧a.2≤fee∧a.2+s=fee0):=by
 intro a s pr hm hs hq
 have hk:pr.kind=7:=by simpa [A0m] using hs
 have h7:=(A3L (hr _ hm)).ship hk
 have hb:=U0 a.2 pr.rate
 have hle:=A5g hq.1 (show 0≤pr.rate by omega) h7.2
 unfold V6 A7k
 by_cases h:net<pr.least
 ·rw [if_pos h];exact .inl ⟨rfl,rfl,hq⟩
 ·rw [if_neg h]
  by_cases h2:J7 a.2 pr.rate>0
  ·rw [if_pos h2]
   exact .inr ⟨J7 a.2 pr.rate,by omega,rfl,rfl,by show 0≤a.2 - J7 a.2 pr.rate;omega,by show a.2 - J7 a.2 pr.rate≤_;omega,by show a.2 - J7 a.2 pr.rate+(s+J7 a.2 pr.rate)=_;omega⟩
  ·rw [if_neg h2]
   exact .inl ⟨rfl,rfl,by show 0≤a.2 - J7 a.2 pr.rate;omega,by show a.2 - J7 a.2 pr.rate≤_;omega,by show a.2 - J7 a.2 pr.rate+s=_;omega⟩
theorem A5W (a b:List B2) (j:Nat):F6 (a++b) j=F6 a j+F6 b j:=by
 unfold F6;rw [D7A,D6g,F4]
theorem B5Q (l:List E4) (i j n:Nat):F6 (List.replicate n (lnU l i)) j=if i=j then n * (l.getD i default).price else 0:=by
 induction n with
 | zero=>show (0:Int)=_;split<;>simp
 | succ n ih =>
  rw [show List.replicate (n+1) (lnU l i)=[lnU l i]++List.replicate n (lnU l i) from rfl,A5W,ih]
  by_cases h:i=j
  ·rw [if_pos h,if_pos h]
   have:F6 [lnU l i] j=(l.getD i default).price:=by
    unfold F6
    rw [D6J (by show (((i:Int)).toNat==j)=true;rw [D5P,h];simp)]
    show A2 [(l.getD i default).price]=_
    rw [J5];exact D7Q _
   rw [this,show ((n+1:Nat):Int) * (l.getD i default).price=n * (l.getD i default).price+(l.getD i default).price by rw [Int.natCast_add,D8j];simp]
   omega
  ·rw [if_neg h,if_neg h]
   have:F6 [lnU l i] j=0:=by
    unfold F6
    rw [D6O (by show ¬(((i:Int)).toNat==j)=true;rw [D5P];simpa using h)];rfl
   rw [this];rfl
theorem B7R (l:List E4) (hl:∀ x∈l,0≤x.qty) (j k:Nat) (hk:k≤l.length):F6 (G2 l k) j=if j<k then (l.getD j default).qty * (l.getD j default).price else 0:=by
 induction k with
 | zero=>rfl
 | succ k ih =>
  show F6 (G2 l k++List.replicate (l.getD k default).qty.toNat (lnU l k)) j=_
  rw [A5W,ih (by omega),B5Q]
  have hq:=hl _ (A6 (show k<l.length by omega))
  by_cases e:k=j
  ·subst e
   rw [if_neg (by omega),if_pos rfl,if_pos (by omega),D7v hq,Int.zero_add]
  ·rw [if_neg e]
   by_cases h:j<k
   ·rw [if_pos h,if_pos (by omega),D7Q]
   ·rw [if_neg h,if_neg (by omega)];rfl
theorem B1g {us us':List B2} {x:Int} (h:Off us us' x) (j:Nat):∀ k,k≤us.length→F6 (us'.take k) j≤F6 (us.take k) j
 | 0,_=>D6i _
 | k+1,hk=>by
  have ih:=B1g h j k (by omega)
  have hl:=h.len
  rw [Y6 (by omega),Y6 (by omega),h.line k]
  have:=(h.net k).2
  split<;>omega
theorem B6W (f:Nat→Int) (t:Nat) (x:Int):∀ n,A2 ((List.range n).map fun j=>if t=j then f j+x else f j)=A2 ((List.range n).map f)+if t<n then x else 0
 | 0=>by rw [if_neg (by omega)];rfl
 | n+1=>by
  rw [L7,L7,B6W f t x n]
  by_cases e:t=n
  ·rw [if_pos e,if_neg (by omega),if_pos (by omega)];omega
  ·rw [if_neg e]
   by_cases h:t<n
   ·rw [if_pos h,if_pos (by omega)];omega
   ·rw [if_neg h,if_neg (by omega)];omega
theorem B2f:∀ n,A2 ((List.range n).map fun _=>(0:Int))=0
 | 0=>rfl
 | n+1=>by rw [L7,B2f n];rfl
theorem A8l {us:List B2} {n:Nat} (h:∀ k,k<us.length→(gU us k).line.toNat<n):∀ k,k≤us.length→A2 ((List.range n).map (F6 (us.take k)))=A2 (D6 (us.take k))
 | 0,_=>B2f n
 | k+1,hk=>by
  have ih:=A8l h k (by omega)
  have e1:(F6 (us.take (k+1)))=fun j=>if (gU us k).line.toNat=j then F6 (us.take k) j+(gU us k).net else F6 (us.take k) j:=funext fun j=>Y6 (by omega) j
  rw [e1,B6W,ih,if_pos (h k (by omega)),K4 (by omega)]
  unfold D6
  rw [D6g,F4]
  show _+(gU us k).net=_+A2 [(gU us k).net]
  rw [J5];show _=_+((gU us k).net+0);omega
structure A4g (r:G7) (codes:List C8) (l:List E4) (Pr:A3R) (xs ys:List (Int×Int)):Prop where
 deals:Pr.deals=C3A r.promos (xs++ys)
 mem:∀ a∈xs++ys,(0≤a.1∧a.1.toNat<r.promos.length)∧A0j codes (E9 r.promos a.1)=true∧1≤a.2
 sx:(xs.map Prod.fst).Sublist (V0 r.promos codes)
 sy:(ys.map Prod.fst).Sublist (V0 r.promos codes)
 kx:∀ a∈xs,(E9 r.promos a.1).kind≠7
 ky:∀ a∈ys,(E9 r.promos a.1).kind=7
 apart:(B1a r.promos (xs++ys)).Pairwise fun x y=>(y.toList==x.toList)=false
 sum:Pr.net+A2 (xs.map Prod.snd)=J6 l
 len:Pr.nets.length=l.length
 nets:A2 Pr.nets=Pr.net
 each:∀ i,i<l.length→0≤gI Pr.nets i∧gI Pr.nets i≤(l.getD i default).qty * (l.getD i default).price
 ship:0≤Pr.ship∧Pr.ship≤r.ship.fee
 shipSum:Pr.ship+A2 (ys.map Prod.snd)=A0P r.ship (V7 l).length Pr.net
theorem B4C {l:List B1} {codes:List C8} {i:Nat} {x:Int} (h:x∈places l codes i):A0j codes (E9 l x)=true:=by
 unfold places at h
 obtain ⟨k,hk,rfl⟩:=D5X.1 h
 exact (D6G.1 hk).2
theorem C1i {r:G7} {codes:List C8} {l:List E4} (hf:A0S r) (hck:D7 r codes l=0):∃ xs ys,A4g r codes l (A0b r l (V0 r.promos codes) (V0 r.promos codes)) xs ys:=by
 have ck:=A6F hck
 have hok:=ck.lines
 have hu:=B5g hok
 obtain ⟨u1,u2,u3⟩:=A2x l hok.line l.length (D5L _)
 rw [D5N] at u1 u2
 have hitl:(C2 r.items l).length=l.length:=D5H ..
 have hpl:∀ x∈V0 r.promos codes,(0≤x∧x.toNat<r.promos.length)∧A0j codes (E9 r.promos x)=true:=fun x hx=>by
  have:=(A4s r.promos codes).mem_iff.1 hx
  exact ⟨A0F this,B4C this⟩
 have hlt:∀ x∈V0 r.promos codes,x.toNat<r.promos.length:=fun x hx=>(hpl x hx).1.2
 obtain ⟨xs,a1,a2,a3,a4⟩:=B9Y (C2H (items:=C2 r.items l) (us0:=V7 l) hf.fit ck.promo) hlt (a:=⟨V7 l,[],[]⟩) (Tr.start r.promos (V7 l)) ⟨hu,Off.refl hu.ok⟩
 rw [D8H] at a1
 rw [Int.zero_add] at a4
 have hfee:0≤A0P r.ship (V7 l).length (O1 (p1B r l (V0 r.promos codes)))∧A0P r.ship (V7 l).length (O1 (p1B r l (V0 r.promos codes)))≤r.ship.fee:=by
  unfold A0P;have:=ck.fee;split<;>omega
 obtain ⟨ys,b1,b2,b3⟩:=B9Y (C1D (net:=O1 (p1B r l (V0 r.promos codes))) (fee:=r.ship.fee) (fee0:=A0P r.ship (V7 l).length (O1 (p1B r l (V0 r.promos codes)))) ck.promo) hlt (a:=(p1B r l (V0 r.promos codes),A0P r.ship (V7 l).length (O1 (p1B r l (V0 r.promos codes))))) (s:=0) a1 ⟨hfee.1,hfee.2,D7Q _⟩
 rw [Int.zero_add] at b3
 have a2':∀ a∈xs,a.1∈V0 r.promos codes∧U4 (E9 r.promos a.1)=true:=fun a ha=>D6G.1 (a2.subset (D5X.2 ⟨a,ha,rfl⟩))
 have b2':∀ a∈ys,a.1∈V0 r.promos codes∧A0m (E9 r.promos a.1)=true:=fun a ha=>D6G.1 (b2.subset (D5X.2 ⟨a,ha,rfl⟩))
 have hus:A7b (C2 r.items l) (p1B r l (V0 r.promos codes)).us:=a3
 have hlen:=a4.len
 have hln:∀ k,k<(p1B r l (V0 r.promos codes)).us.length→(gU (p1B r l (V0 r.promos codes)).us k).line.toNat<l.length:=fun k hk=>by
  have:=(hus.line _ (A6 hk)).2
  rw [hitl] at this;exact this
 have hsm:=A8l hln _ (D5L _)
 rw [D5N] at hsm
 refine ⟨xs,ys,b1.deals,fun a ha=>?_,a2.trans D7F,b2.trans D7F,fun a ha=>by simpa [U4] using (a2' a ha).2,fun a ha=>by simpa [A0m] using (b2' a ha).2,by rw [←b1.groups];exact b1.apart,?_,?_,hsm,fun i hi=>?_,⟨b3.1,b3.2.1⟩,b3.2.2⟩
 ·have hp:=b1.pos a ha
  rcases D6T.1 ha with h | h
  ·exact ⟨(hpl _ (a2' a h).1).1,(hpl _ (a2' a h).1).2,hp⟩
  ·exact ⟨(hpl _ (b2' a h).1).1,(hpl _ (b2' a h).1).2,hp⟩
 ·have:=a4.sum
  show A2 (D6 (p1B r l (V0 r.promos codes)).us)+_=_
  exact this.trans u2
 ·show ((List.range l.length).map _).length=_
  rw [D5H,D6c]
 ·have e:gI (A0b r l (V0 r.promos codes) (V0 r.promos codes)).nets i=F6 (p1B r l (V0 r.promos codes)).us i:=by
   show gI ((List.range l.length).map (F6 (p1B r l (V0 r.promos codes)).us)) i=_
   unfold gI
   rw [D5C,D6B,D7h hi];rfl
  rw [e]
  have h1:=(A0X hus.ok (p1B r l (V0 r.promos codes)).us.length i).1
  rw [D5N] at h1
  have h2:=B1g a4 i _ (D5L _)
  rw [D5N,D7w (Nat.le_of_eq hlen)] at h2
  have h3:=B7R l (fun x hx=>((A0B _).1 (hok.line x hx)).1.1) i l.length (D5L _)
  rw [if_pos hi] at h3
  have h2':F6 (p1B r l (V0 r.promos codes)).us i≤F6 (G2 l l.length) i:=h2
  exact ⟨h1,by omega⟩
def B9E (l:List B1) (a:Int×Int):Int:=if (E9 l a.1).kind=7 then 0 else a.2
theorem A4g.off {r:G7} {codes:List C8} {l:List E4} {Pr:A3R} {xs ys:List (Int×Int)} (h:A4g r codes l Pr xs ys):Pr.net+A2 ((xs++ys).map (B9E r.promos))=J6 l:=by
 have e1:xs.map (B9E r.promos)=xs.map Prod.snd:=D6V fun a ha=>if_neg (h.kx a ha)
 have e2:∀ zs:List (Int×Int),(∀ a∈zs,(E9 r.promos a.1).kind=7)→A2 (zs.map (B9E r.promos))=0:=fun zs=>by
  induction zs with
  | nil=>intro _;rfl
  | cons a zs ih =>
   intro hz
   rw [D6I,J5,ih fun b hb=>hz b (D6d _ hb),show B9E r.promos a=0 from if_pos (hz a (D6f ..))];rfl
 rw [D6g,F4,e1,e2 ys h.ky,D7Q];exact h.sum
theorem A9R {xs:List (Int×Int)} (h:∀ a∈xs,1≤a.2) (hs:A2 (xs.map Prod.snd)≤0):xs=[]:=by
 cases xs with
 | nil=>rfl
 | cons a xs =>
  have h1:=h a (D6f ..)
  have h2:0≤A2 (xs.map Prod.snd):=C1 fun x hx=>by
   obtain ⟨b,hb,rfl⟩:=D5X.1 hx
   have:=h b (D6d _ hb);omega
  rw [D6I,J5] at hs;omega
theorem A4g.nothing {r:G7} {codes:List C8} {l:List E4} {Pr:A3R} {xs ys:List (Int×Int)} (h:A4g r codes l Pr xs ys) (hq:∀ x∈l,x.qty=0) (hu:(V7 l).length=0) (hg:J6 l=0) :
  Pr.deals=[]∧Pr.ship=0∧(∀ x∈Pr.nets,x=0):=by
 have h0:∀ x∈Pr.nets,x=0:=fun x hx=>by
  obtain ⟨i,hi,rfl⟩:=D3 hx
  have hi':i<l.length:=by rw [←h.len];exact hi
  have h1:=h.each i hi'
  rw [hq _ (A6 hi'),D8C] at h1
  show gI Pr.nets i=0
  omega
 have hn:0≤Pr.net:=by rw [←h.nets];exact C1 fun x hx=>by rw [h0 x hx];exact D6i _
 have hx:xs=[]:=A9R (fun a ha=>(h.mem a (List.mem_append_left _ ha)).2.2) (by have:=h.sum;omega)
 have hsh:=h.shipSum
 have hfee:A0P r.ship (V7 l).length Pr.net=0:=by unfold A0P;rw [if_pos (.inl (by omega))]
 have hy:ys=[]:=A9R (fun a ha=>(h.mem a (List.mem_append_right _ ha)).2.2) (by have:=h.ship;omega)
 subst hx hy
 refine ⟨by rw [h.deals];rfl,?_,h0⟩
 rw [hfee] at hsh
 have:Pr.ship+0=0:=hsh
 omega
end Go.Proofs.YtaapofnkmpiknaaGreat
namespace Go.Proofs.YtaapofnkmpiknaaGreat
open Go Go.Ab
attribute [local irreducible] upd del
structure Q8 (R:G7) (C:List C8) (L:List E4):Prop where
 right:V8 R=true
 fit:A0S R
 sm:A7T R
 codes:S7 C=true
 ncodes:C.length≤3
 scodes:∀ s∈C,s.size≤12
 lines:A2k L
 check:D7 R C L=0
 few:R.promos.length≤6
 items:R.items.length≤8
 known:∀ n,known R.items (A1l n)=true
 fee:0≤R.ship.fee∧R.ship.fee≤1000000000
theorem C8n (r:G7) (codes:List C8) (l:List E4):Q8 (H5 r) (H4 codes) (A6N l):=by
 have hc:=B4E codes
 have hl:=B4F l
 have hr:=B0f r
 have hn:=A1I r.promos
 have hck:D7 (H5 r) (H4 codes) (A6N l)=0:=by
  unfold D7
  rw [if_neg (by rw [hr];simp),if_neg (by rw [hc.1];simp)]
  exact hl.check (A7x r.items)
 exact ⟨hr,B2G r,A8w r,hc.1,hc.2.1,hc.2.2,hl,hck,by show (N4 r.promos).length≤6;omega,by show (F9 r.items).length≤8;rw [A2h];omega,A7x r.items,(A6F hck).fee⟩
theorem Q8.relines {R:G7} {C:List C8} {L L':List E4} (h:Q8 R C L) (hl:A2k L'):Q8 R C L' :=
 { h with
  lines:=hl
  check:=by
   unfold D7
   rw [if_neg (by rw [h.right];simp),if_neg (by rw [h.codes];simp)]
   exact hl.check h.known }
theorem Q8.promosC {R:G7} {C:List C8} {L:List E4} (h:Q8 R C L):promosC R.promos=true:=by
 have:=h.right
 unfold V8 at this
 simp only [D5I] at this
 exact this.1.1.1.2
def A3w (R:G7) (C:List C8) (L:List E4):A3R:=A0b R L (V0 R.promos C) (V0 R.promos C)
theorem C3M {R:G7} {C:List C8} {L:List E4} (hck:D7 R C L=0) (hf:A0S R) (hC:Go.Proofs.YtaapofnkmpiknaaGreat.promosC R.promos=true) (hn:R.promos.length≤6) (hi:R.items.length≤8) (hc:C.length≤3) (st:St) :
  S P 122 [H3 R,C9 C,A8 3 H6 L] st fun v s=>v=.tuple [A1c (A3w R C L),eI 0]∧s=st :=
 (price_S B6R R C L hf (by show C.length≤9223372036854775807;omega) (by omega) (by have:=A1j R.promos C R.promos.length;omega) st).mono fun v s ⟨hv,hs⟩=>by
  refine ⟨?_,hs⟩
  rcases hv with ⟨h1,_⟩ | ⟨_,o1,o2,h1,h2,h3⟩
  ·exact absurd hck h1
  ·rw [B6C hC h1,B6C hC h2] at h3;exact h3
theorem Q8.price_S {R:G7} {C:List C8} {L:List E4} (h:Q8 R C L) (st:St) :
  S P 122 [H3 R,C9 C,A8 3 H6 L] st fun v s=>v=.tuple [A1c (A3w R C L),eI 0]∧s=st :=
 C3M h.check h.fit h.promosC h.few h.items h.ncodes st
theorem Q8.ref_S {R:G7} {C:List C8} {L:List E4} (h:Q8 R C L) (st:St) :
  S P 115 [H3 R,C9 C,A8 3 H6 L] st fun v s=>v=.tuple [A1c (A3w R C L),eI 0]∧s=st :=
 (C3X R C L h.fit h.sm h.right (by have:=h.ncodes;show C.length≤9223372036854775807;omega) (fun s hs=>by have:=h.scodes s hs;show s.size≤9223372036854775807;omega) (by have:=h.lines.len;show L.length≤9223372036854775807;omega) st).mono fun v s ⟨hv,hs⟩=>by
  rw [if_pos h.check] at hv
  exact ⟨hv,hs⟩
theorem Q8.law {R:G7} {C:List C8} {L:List E4} (h:Q8 R C L):∃ xs ys,A4g R C L (A3w R C L) xs ys:=C1i h.fit h.check
structure C7A (L:List E4) (Pr:A3R) (g fee:Int):Prop where
 len:Pr.nets.length=L.length
 at':∀ i,i<L.length→0≤gI Pr.nets i∧gI Pr.nets i≤(L.getD i default).qty * (L.getD i default).price
 sum:A2 Pr.nets=Pr.net
 net:0≤Pr.net∧Pr.net≤g
 ship:0≤Pr.ship∧Pr.ship≤fee
theorem Q8.nets {R:G7} {C:List C8} {L:List E4} (h:Q8 R C L):C7A L (A3w R C L) (J6 L) R.ship.fee:=by
 obtain ⟨xs,ys,hl⟩:=h.law
 have h0:∀ x∈(A3w R C L).nets,0≤x:=fun x hx=>by
  obtain ⟨i,hi,rfl⟩:=D3 hx
  exact (hl.each i (by rw [←hl.len];exact hi)).1
 have hx:0≤A2 (xs.map Prod.snd):=C1 fun x hx=>by
  obtain ⟨a,ha,rfl⟩:=D5X.1 hx
  have:=(hl.mem a (List.mem_append_left _ ha)).2.2
  omega
 have hs:=hl.sum
 have hn:=hl.nets
 have:=C1 h0
 exact ⟨hl.len,hl.each,hl.nets,by omega,hl.ship⟩
theorem B8X (n:Int) (st:St):S P 52 [eI n] st fun r st'=>r=eS (Q2 (B6 n 3))∧st'=st:=by
 refine F2 [] Tryz.func52 ?_
 refine I5 (A0f n 3 (by decide) (by decide) _) ?_
 refine ⟨?_,rfl⟩
 show AV.str ((⟨#[122]⟩:C8)++B2d [IntKind.u8.wrap (48+IntKind.u8.wrap (B6 n 3))])=_
 rw [B2n];rfl
theorem D2E {t:Tax} {z:K5} {cats:List C8} {nets:List Int} {ship:Int} (h:A2z t z cats nets ship) (st:St) :
  S P (C4N t) [S8 t,B0 (cats.map (F0 z)),B0 nets] st fun v st'=>v=B0 (K9 t (cats.map (F0 z)) nets)∧st'=st:=by
 obtain ⟨r1,r2⟩:=A3x h
 unfold C4N K9
 split
 ·exact C0o t _ _ h.nets r1 r2 st
 ·exact B5x t _ _ h.nets.len r1 r2 st
theorem Q8.taxC {R:G7} {C:List C8} {L:List E4} (h:Q8 R C L):taxC R.tax=true:=by
 have:=h.right
 unfold V8 at this
 simp only [D5I] at this
 exact this.1.1.2
theorem Q8.levy {R:G7} {C:List C8} {L:List E4} (h:Q8 R C L) {z:K5} {s:C8} (hz:Z6 R.tax.zones s=some z):A2z R.tax z (N2 R L) (A3w R C L).nets (A3w R C L).ship:=by
 have hN:=h.nets
 have hg:=B9U h.lines.line
 have hl:=h.lines.len
 have hf:=h.fee
 have hsh:=hN.ship
 refine ⟨h.taxC,B7H h.taxC hz,by rw [C0q,hN.len],⟨by rw [hN.len];omega,fun x hx=>?_,by rw [hN.sum];have:=hN.net;omega⟩,by omega⟩
 obtain ⟨i,hi,rfl⟩:=D3 hx
 exact (hN.at' i (by rw [←hN.len];exact hi)).1
def B1K (R:G7) (C:List C8) (L:List E4) (z:K5) (exempt:Bool):Z1:=A9v R z exempt L (A3w R C L)
theorem Q8.quote_S {R:G7} {C:List C8} {L:List E4} (h:Q8 R C L) {z:K5} {s:C8} (hz:Z6 R.tax.zones s=some z) (exempt:Bool) (st:St) :
  S P 60 [H3 R,eS s,eB exempt,C9 C,A8 3 H6 L] st fun v st'=>v=.tuple [A0a (B1K R C L z exempt),eI 0]∧st'=st:=by
 have hv:=h.levy hz
 have hk:=(A6F h.check).lines.known
 have hi:=h.items
 have hl:=h.lines.len
 exact Go.Proofs.YtaapofnkmpiknaaGreat.quote_S exempt (fun st=>h.price_S st) (fun st=>A9h _ _ (by omega) (by omega) hk st) (by omega) hv hz (fun st=>D2E hv st) (B3q hv exempt) st
theorem Q8.quoteIn {R:G7} {C:List C8} {L:List E4} (h:Q8 R C L) {z:K5} {s:C8} (hz:Z6 R.tax.zones s=some z) (exempt:Bool):B9a (B1K R C L z exempt) L.length:=by
 have:=B0r (h.levy hz) exempt (A3w R C L).deals
 rw [h.nets.len] at this;exact this
theorem B2H (r:G7) (n:Int):∃ z,Z6 (H5 r).tax.zones (Q2 (B6 n 3))=some z:=by
 have:=C7 n (n:=3) (by decide)
 obtain ⟨k,hk⟩:∃ k:Nat,B6 n 3=k:=⟨(B6 n 3).toNat,by omega⟩
 rw [hk]
 exact ⟨_,C2g r.tax (by omega)⟩
structure B2y where
 rules:G7
 zone:Int
 exempt:Bool
 codes:List C8
 adds:List Add
 pays:List Pay
 day:Int
def B0W (s:B2y):AV:=.agg [A8 4 E5 s.rules.items,A8 15 B7 s.rules.promos,eB s.rules.tax.incl,eB s.rules.tax.byOrder,eI s.rules.tax.round,A8 4 T4 s.rules.tax.zones,eI s.rules.ship.fee,eI s.rules.ship.free,eI s.rules.policy.window,eI s.rules.policy.grace,eI s.rules.policy.mode,eI s.rules.policy.restock,B0 s.rules.policy.order,B0 s.rules.policy.credit,eI s.zone,eB s.exempt,C9 s.codes,A8 2 A4U s.adds,A8 2 B0V s.pays,eI s.day]
def A6H (s:B2y):Bool:=C3b s.rules&&decide ((s.codes.length:Int)<30)&&decide ((s.adds.length:Int)<60)&&decide ((s.pays.length:Int)<30)
theorem C1B (s:B2y) (st:St):S P 14 [B0W s] st fun v st'=>v=.bool (A6H s)∧st'=st:=by
 have n1:=C9c s.rules st
 have e:A6H s=(C3b s.rules&&decide ((s.codes.length:Int)<30)&&decide ((s.adds.length:Int)<60)&&decide ((s.pays.length:Int)<30)):=rfl
 rw [e]
 clear e
 generalize C3b s.rules=b1 at *
 refine SyW [1] Tryz.func14 ?_
 repeat' ((conv=>whnf);first | refine B3 n1 ?_ | (refine B8 (fun h=>?_) (fun h=>?_)<;>rw [h]) | fail)
 all_goals (conv=>whnf)
 all_goals exact ⟨rfl,rfl⟩
def B3l (id key zone:C8) (exempt:Bool) (codes:List C8) (adds:List Add) (pays:List Pay):AV :=
 .agg [eI 3,eS key,.emp,.emp,eB false,eB false,eI 0,.emp,eI 0,eI 0,eI 0,eI 0,eI 0,eI 0,.emp,.emp,eI 0,eS id,eS zone,eB exempt,C9 codes,A8 2 A4U adds,A8 2 B0V pays,.emp,eI 0,eI 0,eI 0]
def P6 (s:B2y):C8:=Q2 (B6 s.zone 3)
set_option maxHeartbeats 4000000 in
theorem C0x (s:B2y) (id key:C8) (Q:Z1) (e:Int) (hi:Sm (H5 s.rules).items.length) (hp:s.pays.length≤100000) (hT:0≤Q.total∧Q.total≤100000000000000)
  (hQ:∀ st,S P 56 [H3 (H5 s.rules),eS (P6 s),eB s.exempt,C9 (H4 s.codes),A8 3 H6 (X2 (H5 s.rules).items (J2 s.adds)).1] st fun v st'=>v=.tuple [A0a Q,eI e]∧st'=st) (st:St) :
  S P 16 [B0W s,eS id,eS key] st fun v st'=>v=.tuple [H3 (H5 s.rules),B3l id key (P6 s) s.exempt (H4 s.codes) (J2 s.adds) (O4 Q.total s.pays)]∧st'=st:=by
 have cR:=fun u=>B6l s.rules u
 have cZ:∀ u,S P 52 [eI s.zone] u fun r st'=>r=eS (P6 s)∧st'=u:=fun u=>B8X s.zone u
 have cC:=fun u=>B6g s.codes u
 have cA:=fun u=>B8h s.adds u
 have cL:=fun u=>B1S (H5 s.rules).items (J2 s.adds) hi u
 have cP:=fun u=>B8i Q.total s.pays hT.1 hT.2 hp u
 generalize H5 s.rules=R at *
 generalize P6 s=Z at *
 generalize H4 s.codes=C at *
 generalize J2 s.adds=A at *
 generalize X2 R.items A=LL at *
 generalize O4 Q.total s.pays=PP at *
 refine A1S ?_
 refine A8Q [3,8] B4k mixed Tryz.func16 (by rfl) rfl rfl rfl ?_;conv=>whnf
 intro b6 hb6;conv=>whnf
 intro b7 hb7
 have h67:b6≠b7:=fun e=>by subst e;rw [A0] at hb7;cases hb7
 conv=>whnf
 refine I5 (cR _) ?_
 generalize hst:(upd (upd st b6 _) b7 _:St)=S0
 obtain ⟨f6,at6,hf6⟩:∃ f6:Nat→AV,S0 b6=some ⟨33,14,1,f6⟩∧f6 0=H2 r33.zero:=by rw [←hst,A9 h67];exact ⟨_,A0 ..,rfl⟩
 obtain ⟨f7,at7,hf7⟩:∃ f7:Nat→AV,S0 b7=some ⟨42,27,1,f7⟩∧f7 0=H2 r42.zero:=by rw [←hst];exact ⟨_,A0 ..,rfl⟩
 have hs0:E8 st S0:=by rw [←hst];exact ((E8.refl st).upd hb6).upd hb7
 have hn7:st b7=none:=(show E8 st (upd st b6 _) from (E8.refl st).upd hb6).none hb7
 clear hst hb7
 refine .inl ⟨[14,15],[3,4,6,8,9,11,12],List.range 16,by kernel_rfl,?_⟩
 repeat' ((conv=>whnf);first | refine ⟨_,fun s _=>⟨rfl,rfl⟩,?_⟩ | refine ⟨_,fun s _=>H0 (cZ s),?_⟩ | refine ⟨_,fun s _=>H0 (cC s),?_⟩ | refine ⟨_,fun s _=>H0 (cA s),?_⟩ | fail)
 intro b9 hb9
 have h69:b6≠b9:=fun e=>by subst e;rw [at6] at hb9;cases hb9
 have h79:b7≠b9:=fun e=>by subst e;rw [at7] at hb9;cases hb9
 conv=>whnf
 refine stU (A0 ..) rfl ?_
 rw [C0];conv=>whnf
 refine J0 (A0 ..) (A4 ..) ?_
 refine I5 (cL _) ?_
 refine J0 (A0 ..) (A4 ..) ?_
 refine J0 (A0 ..) (A4 ..) ?_
 refine J0 (A0 ..) (A4 ..) ?_
 refine I5 (hQ _) ?_
 generalize hst:(upd S0 b9 _:St)=S1
 obtain ⟨f9,at9,hf9⟩:∃ f9:Nat→AV,S1 b9=some ⟨42,27,1,f9⟩∧f9 0=.agg [eI 3,eS key,.emp,.emp,eB false,eB false,eI 0,.emp,eI 0,eI 0,eI 0,eI 0,eI 0,eI 0,.emp,.emp,eI 0,eS id,eS Z,eB s.exempt,C9 C,A8 2 A4U A,.emp,.emp,eI 0,eI 0,eI 0]:=by rw [←hst];exact ⟨_,A0 ..,by rw [A4];rfl⟩
 have hs1:E8 S0 S1:=by rw [←hst];exact (E8.refl S0).upd hb9
 have hn9:st b9=none:=hs0.none hb9
 clear hst hb9
 intro b12 hb12
 have h912:b9≠b12:=fun e=>by subst e;rw [at9] at hb12;cases hb12
 have h612:b6≠b12:=fun e=>by subst e;rw [hs1 _ _ at6] at hb12;cases hb12
 have h712:b7≠b12:=fun e=>by subst e;rw [hs1 _ _ at7] at hb12;cases hb12
 conv=>whnf
 refine stU (A0 ..) rfl ?_
 rw [C0];conv=>whnf
 refine J0 (A0 ..) (A4 ..) ?_
 refine I5 (cP _) ?_
 refine Y9 ((A9 h912).trans at9) hf9 ?_
 refine .inr ⟨[2,3],.qui 0 (.qui 1 (.eff 2 [1] (.eff 3 [] (.done)))),by kernel_rfl,?_⟩
 generalize hst:(upd (upd S1 b12 _) b9 _:St)=S2
 obtain ⟨g9,bt9,hg9⟩:∃ g9:Nat→AV,S2 b9=some ⟨42,27,1,g9⟩∧g9 0=B3l id key Z s.exempt C A PP:=by rw [←hst];exact ⟨_,A0 ..,by rw [A4];rfl⟩
 have bt6:S2 b6=some ⟨33,14,1,f6⟩:=by rw [←hst,A9 h69,A9 h612];exact hs1 _ _ at6
 have bt7:S2 b7=some ⟨42,27,1,f7⟩:=by rw [←hst,A9 h79,A9 h712];exact hs1 _ _ at7
 have hs2:E8 st S2:=by rw [←hst];exact ((hs0.trans hs1).upd hb12).over hn9
 clear hst
 conv=>whnf
 refine ⟨_,fun _=>True,trivial,fun s _=>⟨rfl,rfl⟩,?_⟩;conv=>whnf
 refine ⟨_,fun u=>u b9=some ⟨42,27,1,g9⟩,bt9,fun u hu=>ldV hu rfl (by omega) hg9 ⟨rfl,rfl⟩,?_⟩;conv=>whnf
 refine Y9 bt6 hf6 ?_
 refine ⟨fun h=>(A9 h69.symm).trans h,?_⟩;conv=>whnf
 refine Y9 ((A9 h67.symm).trans bt7) hf7 ?_
 refine J0 ((A9 h67).trans (A0 ..)) (A4 ..) ?_
 refine J0 (A0 ..) (A4 ..) ?_
 exact ⟨rfl,(hs2.over hb6).over hn7⟩
theorem ROut.own0 {R:St→St→Prop} {ty e n:Nat} {fo:Nat→AV} {s t:St} {sv:AV} (h:ROut R ty e fo n s sv t) (hn:0<n):∃ b,sv=.own e b 0 n:=by
 obtain ⟨s0,⟨h0,_⟩ | ⟨_,b,_,_,h1,_⟩,h2⟩:=h
 ·omega
 ·exact ⟨b,h1⟩
theorem ROut.one {R:St→St→Prop} {ty e n:Nat} {fo:Nat→AV} {s t:St} {sv:AV} (h:ROut R ty e fo n s sv t):sv.one=true:=by rcases h.head with rfl | ⟨b,rfl⟩<;>rfl
section
variable {R0:St→St→Prop} {ty e:Nat} {F:Nat→Nat→AV} {len:Nat→Nat}
end
theorem _root_.Go.Ab.Col.over {ty e:Nat} {f:Nat→AV} {st:St} {n:Nat} {sv:AV} {st':St} (h:Col ty e f st n sv st') {b:Nat} {y y':K7} (hb:st b=some y):Col ty e f (upd st b y') n sv (upd st' b y'):=by
 rcases h with ⟨rfl,rfl,rfl⟩ | ⟨h0,c,g,hc,rfl,rfl,hg⟩
 ·exact .inl ⟨rfl,rfl,rfl⟩
 ·have hne:c≠b:=fun e=>by subst e;rw [hb] at hc;cases hc
  exact .inr ⟨h0,c,g,(A9 hne).trans hc,rfl,R5 hne,hg⟩
def A1M (p:Pay):A2A:=⟨p.kind,p.amount,0⟩
def A9P (id zone:C8) (set:Int) (exempt:Bool) (codes:List C8) (day:Int) (l:List E4) (q:Z1) (b:A4H) (pays:List Pay):T9 :=
 ⟨id,set,zone,exempt,codes,day,U2 l q,q.ship,q.shipTax,0,q.total,b,pays.map A1M⟩
end Go.Proofs.YtaapofnkmpiknaaGreat
namespace Go.Proofs.YtaapofnkmpiknaaGreat
open Go Go.Ab
theorem A6e (l:List Add):(1≤(J2 l).length∧(J2 l).length≤6)∧∀ x∈J2 l,(1≤x.qty∧x.qty≤9)∧∃ n,x.sku=A1l n:=by
 unfold J2
 split
 ·exact ⟨⟨by decide,by decide⟩,fun x hx=>by rw [D6h.1 hx];exact ⟨⟨by decide,by decide⟩,0,by kernel_rfl⟩⟩
 ·rename_i h
  refine ⟨by rw [D5H,D5M];omega,fun x hx=>?_⟩
  obtain ⟨y,_,rfl⟩:=D5X.1 hx
  have:=C7 y.qty (n:=9) (by decide)
  exact ⟨by show 1≤1+B6 y.qty 9∧1+B6 y.qty 9≤9;omega,_,rfl⟩
theorem B6f (items:List Ab.Item) (l:List Add):X2 (F9 items) (J2 l)=((J2 l).map (K0 (F9 items)),0):=by
 obtain ⟨⟨h1,h2⟩,h3⟩:=A6e l
 unfold X2
 rw [if_neg (by omega),if_neg (by
  rw [D6D,D6E]
  intro x hx
  have:=(h3 x hx).1
  unfold A0O
  rw [D5J (by omega),D5J (by omega)];simp),if_neg (by
  rw [D6D,D6E]
  intro x hx
  obtain ⟨n,hn⟩:=(h3 x hx).2
  have:=A7x items n
  unfold known at this
  rw [hn]
  simp only [D5E] at this ⊢
  omega)]
theorem B0d (l:List Ab.Item) (j:Nat):0≤((F9 l).getD j default).price∧((F9 l).getD j default).price<4000:=by
 by_cases h:j<8
 ·unfold F9
  rw [D4 (O2 l) (List.range 8) (by rw [D6c];exact h)]
  rw [show (List.range 8).getD j default=j by simp [D5C,h]]
  have:=C7 (l.getD j default).price (n:=4000) (by decide)
  unfold O2
  split
  ·exact ⟨by show 0≤B6 _ 4000;omega,by show B6 _ 4000<4000;omega⟩
  ·exact ⟨by show (0:Int)≤100+37 * (j:Int);omega,by show (100:Int)+37 * (j:Int)<4000;omega⟩
 ·rw [D5C,D8e (by rw [A2h];omega)]
  exact ⟨by decide,by decide⟩
theorem B5s (items:List Ab.Item) (l:List Add):A2k ((J2 l).map (K0 (F9 items))):=by
 obtain ⟨⟨h1,h2⟩,h3⟩:=A6e l
 refine ⟨by rw [D5H];omega,fun x hx=>?_,fun x hx=>?_⟩<;>obtain ⟨y,hy,rfl⟩:=D5X.1 hx
 ·have:=(h3 y hy).1
  have:=B0d items (P2 (F9 items) y.sku).toNat
  unfold K0
  exact ⟨⟨by show 0≤y.qty;omega,by show y.qty≤9;omega⟩,this⟩
 ·exact (h3 y hy).2
structure A7p (Q:Z1) (n:Nat):Prop where
 goods:∀ i,i<n→0≤gI Q.goods i∧gI Q.goods i≤1000000000000
 taxes:∀ i,i<n→0≤gI Q.taxes i∧gI Q.taxes i≤1000000000000
 ngoods:Q.goods.length=n
 ntaxes:Q.taxes.length=n
 ship:0≤Q.ship∧Q.ship≤1000000000000
 shipTax:0≤Q.shipTax∧Q.shipTax≤1000000000000
 total:Q.total=A2 Q.goods+A2 Q.taxes+Q.ship+Q.shipTax
theorem B4S (f:Nat→A2m) (n:Nat) (g:Nat→Int) (v:A2m→Int) (h:∀ i,i<n→I8 (v (f i)) (f i).sold (f i).left=g i):((List.range n).map f).foldl (fun a x=>a+I8 (v x) x.sold x.left) 0=A2 ((List.range n).map g):=by
 induction n with
 | zero=>rfl
 | succ n ih =>
  rw [D6R,D6g,D6g,D7r,ih fun i hi=>h i (by omega)]
  show A2 _+I8 (v (f n)) (f n).sold (f n).left=A2 (_++[g n])
  rw [h n (by omega)]
  unfold A2;rw [D7r];rfl
theorem B1j (l:List Int):(List.range l.length).map (gI l)=l:=by
 refine D8l (by rw [D5H,D6c]) fun i h1 h2=>?_
 rw [List.getElem_map,List.getElem_range]
 unfold gI
 simp [D5C,h2]
theorem A6W {l:List Int} {n:Nat} (hn:l.length=n) {M:Int} (h:∀ i,i<n→0≤gI l i∧gI l i≤M):0≤A2 l∧A2 l≤M * n:=by
 subst hn
 have:∀ k,k≤l.length→0≤A2 ((List.range k).map (gI l))∧A2 ((List.range k).map (gI l))≤M * k:=by
  intro k
  induction k with
  | zero=>intro _;exact ⟨D6i 0,by show (0:Int)≤M * ((0:Nat):Int);simp⟩
  | succ k ih =>
   intro hk
   have h1:=ih (by omega)
   have h2:=h k (by omega)
   have e:A2 ((List.range (k+1)).map (gI l))=A2 ((List.range k).map (gI l))+gI l k:=by
    rw [D6R,D6g];unfold A2;rw [D7r];rfl
   have e2:M * ((k+1:Nat):Int)=M * (k:Int)+M:=by rw [show ((k+1:Nat):Int)=(k:Int)+1 from rfl,D7J,D8r]
   rw [e,e2]
   omega
 have:=this l.length (D5L _)
 rwa [B1j] at this
theorem B1d:∀ (l:List Pay) (a:Int),(l.map A1M).foldl (fun a x=>a+(x.taken - x.given)) a=l.foldl (fun a x=>a+x.amount) a
 | [],a=>rfl
 | x::l,a=>by
  simp only [D6I,D6U]
  rw [show a+((A1M x).taken - (A1M x).given)=a+x.amount by show a+(x.amount - 0)=_;omega]
  exact B1d l _
theorem B8D {L:List E4} {Q:Z1} (h:A7p Q L.length) (h1:1≤L.length∧L.length≤8) (hL:∀ x∈L,D0 x.sku=true∧(0≤x.price∧x.price≤1000000000)∧1≤x.qty∧x.qty≤100000)
  {id zone:C8} {set day:Int} {C:List C8} {pays:List Pay} (exempt:Bool) (hi:D0 id=true) (hz:D0 zone=true) (hs:1≤set∧set≤40) (hd:0≤day∧day≤100000) (hc:S7 C=true) (hp:A5u pays Q.total=true) :
  A0R (A9P id zone set exempt C day L Q (U6 Q) pays)=true∧A3N (A9P id zone set exempt C day L Q (U6 Q) pays)=U6 Q∧A0h (U6 Q)=Q.total:=by
 have g1:=A6W h.ngoods h.goods
 have g2:=A6W h.ntaxes h.taxes
 have g3:=h.ship
 have g4:=h.shipTax
 have g5:=h.total
 have hn:(L.length:Int)≤8:=by omega
 have hbk:A5M (U6 Q)=true:=by
  unfold A5M W0 U6 K6
  simp only [List.all_cons,List.all_nil,D6w,D5I,E3]
  omega
 have hsum:A0h (U6 Q)=Q.total:=by
  unfold A0h
  rw [if_pos hbk]
  show 0+A2 Q.goods+A2 Q.taxes+Q.ship+Q.shipTax+0=Q.total
  omega
 have hkept:∀ x∈U2 L Q,A1T x=true∧x.left=x.sold∧1≤x.sold:=by
  intro x hx
  unfold U2 at hx
  obtain ⟨i,hi,rfl⟩:=D5X.1 hx
  have hi:=D5S.1 hi
  have hl:=hL _ (A6 hi)
  have hg:=h.goods i hi
  have ht:=h.taxes i hi
  refine ⟨?_,rfl,hl.2.2.1⟩
  unfold A1T A1y R1
  simp only [D5I,E3]
  exact ⟨⟨⟨⟨⟨hl.1,hl.2.1⟩,hl.2.2⟩,by omega⟩,by omega⟩,by omega⟩
 have hten:(pays.map A1M).all Go.Proofs.YtaapofnkmpiknaaGreat.tenderB=true∧pays.length≤6∧A2r (pays.map A1M)=Q.total:=by
  unfold A5u at hp
  simp only [D5I,D5E,D6z] at hp
  obtain ⟨⟨p1,p2⟩,p3⟩:=hp
  refine ⟨?_,by omega,?_⟩
  ·rw [D5Y] at p2 ⊢
   intro x hx
   obtain ⟨y,hy,rfl⟩:=D5X.1 hx
   have:=p2 y hy
   unfold A3t K6 at this
   simp only [D5I,E3,D5E] at this
   unfold Go.Proofs.YtaapofnkmpiknaaGreat.tenderB A1M K6
   simp only [D5I,E3]
   omega
  ·rw [←p3];exact B1d pays 0
 have hlen:(U2 L Q).length=L.length:=by unfold U2;rw [D5H,D6c]
 have hright:A0R (A9P id zone set exempt C day L Q (U6 Q) pays)=true:=by
  unfold A0R A9J A3n A1w A5L A0s A9P A1y K6
  simp only [D5I,D5E,E3,D6z,D5H,hlen]
  exact ⟨⟨⟨⟨⟨by omega,⟨⟨⟨hi,hz⟩,hs⟩,hc⟩,hd⟩,⟨by omega,by omega⟩,D5Y.2 fun x hx=>(hkept x hx).1⟩,⟨⟨by omega,by omega⟩,by omega⟩,by omega⟩,hbk,hsum⟩,hten.1,by omega,hten.2.2⟩
 refine ⟨hright,?_,hsum⟩
 unfold A3N
 rw [if_pos hright]
 have e1:shG (U2 L Q)=A2 Q.goods:=by
  show ((List.range L.length).map (R1 L Q)).foldl (fun a x=>a+I8 x.goods x.sold x.left) 0=_
  rw [B4S (R1 L Q) L.length (gI Q.goods) (fun x=>x.goods) fun i hi=>by
   have hq:=(hL _ (A6 hi)).2.2.1
   show gI Q.goods i * (L.getD i default).qty / (L.getD i default).qty=_
   rw [Int.mul_ediv_cancel _ (by omega)]]
  rw [←h.ngoods,B1j]
 have e2:shT (U2 L Q)=A2 Q.taxes:=by
  show ((List.range L.length).map (R1 L Q)).foldl (fun a x=>a+I8 x.tax x.sold x.left) 0=_
  rw [B4S (R1 L Q) L.length (gI Q.taxes) (fun x=>x.tax) fun i hi=>by
   have hq:=(hL _ (A6 hi)).2.2.1
   show gI Q.taxes i * (L.getD i default).qty / (L.getD i default).qty=_
   rw [Int.mul_ediv_cancel _ (by omega)]]
  rw [←h.ntaxes,B1j]
 have e3:M8 (U2 L Q)=true:=by
  unfold M8
  rw [D7i]
  have hm:(U2 L Q).getD 0 default∈U2 L Q:=A6 (by omega)
  have:=hkept _ hm
  exact ⟨_,hm,D6m (by omega)⟩
 show (⟨shG (U2 L Q),shT (U2 L Q),if M8 (U2 L Q)=true then Q.ship else 0,if M8 (U2 L Q)=true then Q.shipTax else 0,0⟩:A4H)=_
 rw [e1,e2,e3];rfl
end Go.Proofs.YtaapofnkmpiknaaGreat
namespace Go.Proofs.YtaapofnkmpiknaaGreat
open Go Go.Ab
attribute [local irreducible] upd del
end Go.Proofs.YtaapofnkmpiknaaGreat
