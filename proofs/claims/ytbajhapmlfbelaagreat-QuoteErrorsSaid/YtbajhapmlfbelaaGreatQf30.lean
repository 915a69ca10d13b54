/- Part 30 of the proof: contracts of the functions that the law reaches -/
import Derived.Test.YtbajhapmlfbelaaGreatQf29
set_option maxRecDepth 100000
set_option linter.unusedVariables false
set_option linter.unusedSimpArgs false
namespace Go.Proofs.YtbajhapmlfbelaaGreat
open Go Go.Ab
attribute [local irreducible] upd del
def B7t (v:B5G):AV:=.agg [A8 v.goods,A8 v.taxes,eI v.ship,eI v.shipTax]
def H5 (nets taxes:List Int) (j k:Nat):Int:=if k<j then gI nets k - gI taxes k else gI nets k
theorem C1c (nets taxes:List Int):(fun k=>eI (H5 nets taxes 0 k))=fun k=>eI (gI nets k):=funext fun k=>by unfold H5;rw [if_neg (by omega)]
theorem F6 {t:Tax} {TX nets:List Int} {j:Nat} {st:St} (hj:(t.incl=true∧j=nets.length)∨(t.incl=false∧j=0)):B0 [.arr 1 nets.length (fun k=>eI (H5 nets TX j k))] st [A8 ((List.range nets.length).map (X6 t TX nets))] st:=by
 have e:A8 ((List.range nets.length).map (X6 t TX nets))=.arr 1 nets.length (fun k=>eI (gI ((List.range nets.length).map (X6 t TX nets)) k)):=by unfold A8 B1;rw [List.length_map,List.length_range]
 rw [e]
 refine B0.arr fun k hk=>?_
 congr 1
 unfold gI
 rw [List.getD_eq_getElem?_getD,List.getElem?_map,List.getElem?_range hk]
 show H5 nets TX j k=X6 t TX nets k
 unfold H5 X6
 rcases hj with ⟨h1,rfl⟩ | ⟨h1,rfl⟩
 ·rw [if_pos hk,if_pos h1]
 ·rw [if_neg (by omega),if_neg (by rw [h1];simp)]
theorem B1U {nets TX:List Int} {j n k:Nat} {gg:Nat→AV} (hgg:∀ k,k<n→gg k=eI (H5 nets TX j k)) (hk:k<n):C9 gg (0+((j:Nat):Int).toNat) (eI (gI nets j - gI TX j)) k=eI (H5 nets TX (j+1) k):=by
 rw [show 0+((j:Nat):Int).toNat=j by omega]
 by_cases e:k=j
 ·subst e
  rw [A5];unfold H5;rw [if_pos (by omega)]
 ·rw [H3 e,hgg k hk]
  unfold H5
  by_cases h:k<j
  ·rw [if_pos h,if_pos (by omega)]
  ·rw [if_neg h,if_neg (by omega)]
set_option maxHeartbeats 8000000 in
theorem C4k {t:Tax} {z:L3} {s:D6} {cats:List D6} {nets:List Int} {ship:Int} (h:A0k t z cats nets ship) (hsm:A8E t) (hz:X7 t.zones s=some z) (exempt:Bool) (st:St) :
  S P 118 [M8 t,eS s,eB exempt,D2 cats,A8 nets,eI ship] st fun v st' =>
   v=.tuple [B7t (L4 t z exempt cats nets ship),eI 0]∧st'=st:=by
 obtain ⟨hr1,hr2⟩:=A3I h
 obtain ⟨t1,t2⟩:=A7Q (t:=t) h.nets hr1 hr2
 obtain ⟨l1,l2⟩:=A6f h.tax
 have hzm:z∈t.zones:=List.mem_of_find?_eq_some hz
 have hzr:=l2 z hzm
 have hn:=h.nets.len
 have hns:=h.nets.sum
 have hnp:=h.nets.pos
 have hcl:=h.cats
 have hq:=(A5K h.zone).2.1
 have hm:=A2U (t:=t) h.ship.1 hq
 have hs:=h.ship
 have hT:∀ s,S P 157 [M8 t] s fun v st'=>v=.bool true∧st'=s:=fun s=>by
  have:=B6C t hsm s
  rw [h.tax] at this;exact this
 have hZ:∀ st,S P 213 [M8 t,eS s] st fun v st'=>v=.tuple [Q6 z,.bool true]∧st'=st:=fun st=>by
  have:=B2g t s (by omega) st
  rw [hz] at this;exact this
 have hR':=fun c st=>B9l z c (by omega) st
 have hU:=fun st=>B3s t ship z.ship hq st
 have hL:L4 t z exempt cats nets ship=⟨(List.range nets.length).map (X6 t (I6 t (cats.map (E7 z)) nets) nets),if exempt=true then List.replicate nets.length 0 else I6 t (cats.map (E7 z)) nets,if t.incl=true then ship - B6 t ship z.ship else ship,if exempt=true then 0 else B6 t ship z.ship⟩:=rfl
 rw [hL]
 refine S.post (post:=fun v s'=>∃ gv tv c1 c2,v=.tuple [.agg [gv,tv,eI (if t.incl=true then ship - B6 t ship z.ship else ship),eI (if exempt=true then 0 else B6 t ship z.ship)],eI 0] ∧
   B0 [gv] s' [A8 ((List.range nets.length).map (X6 t (I6 t (cats.map (E7 z)) nets) nets))] c1∧B0 [tv] c1 [A8 (if exempt=true then List.replicate nets.length 0 else I6 t (cats.map (E7 z)) nets)] c2∧D8 st c2) ?_
  (fun v s' ⟨gv,tv,c1,c2,h1,h2,h3,h4⟩=>⟨_,st,⟨rfl,rfl⟩,by
   rw [h1]
   exact (B0.tuple (B0.cons (B0.agg (B0.cons h2 (B0.cons h3 (B0.keep _ _)))) (B0.keep _ _)) rfl).trans (h4.shift _)⟩)
 refine C0i [6] C1b mixed Tryz.func118 (by rfl) rfl rfl rfl ?_;conv=>whnf
 intro b12 hb12;conv=>whnf
 refine I2 (hT _) ?_
 rw [hcl,show ((nets.length:Int) != (nets.length:Int))=false from bne_self_eq_false _];conv=>whnf
 rw [show decide ((nets.length:Int)>1000)=false from decide_eq_false (by omega)];conv=>whnf
 rw [show decide (ship<0)=false from decide_eq_false (by omega)];conv=>whnf
 rw [show decide (ship>10000000000000)=false from decide_eq_false (by omega)];conv=>whnf
 generalize hst:(upd st b12 _:St)=S0
 obtain ⟨f12,at12,hf12⟩:∃ f12:Nat→AV,S0 b12=some ⟨184,4,1,f12⟩∧f12 0=H4 B3o.zero:=by rw [←hst];exact ⟨_,A0 ..,rfl⟩
 have hs0:D8 st S0:=by rw [←hst];exact (D8.refl st).upd hb12
 clear hst
 refine lp nets.length [1,2,3,4,5,6,12,14,15] (fun i vs u=>vs=[eS s,eB exempt,D2 cats,A8 nets,eI ship,.fptr (M8 t) 0,.optr 4 b12 0 0,eI (A7 (nets.take i)),eI i]∧u=S0) ?_ ?_
 ·conv=>whnf
  exact ⟨rfl,rfl⟩
 rintro i vs u hi ⟨rfl,rfl⟩
 conv=>whnf
 cases h1:decide ((i:Int)<(nets.length:Int))
 case true =>
  have hi':=E4 h1
  have hx:0≤gI nets (i:Int).toNat:=hnp _ (B3 hi')
  have hs1:=K1 hnp (i+1)
  have hs2:0≤A7 (nets.take i):=C4 fun x hx=>hnp x (List.mem_of_mem_take hx)
  have hst:A7 (nets.take (i+1))=A7 (nets.take i)+gI nets (i:Int).toNat:=L6 hi'
  have hw1:IntKind.i64.wrap (10000000000000 - A7 (nets.take i))=10000000000000 - A7 (nets.take i):=A9 (by omega) (by omega)
  have hw2:IntKind.i64.wrap (A7 (nets.take i)+gI nets (i:Int).toNat)=A7 (nets.take (i+1)):=(A9 (by omega) (by omega)).trans hst.symm
  conv=>whnf
  refine E1 ?_
  rw [show decide (nets.getD (i:Int).toNat default<0)=false from decide_eq_false (by show ¬ gI nets (i:Int).toNat<0;omega)];conv=>whnf
  refine E1 ?_
  rw [hw1,show decide (nets.getD (i:Int).toNat default>10000000000000 - A7 (nets.take i))=false from decide_eq_false (by show ¬ gI nets (i:Int).toNat>_;omega)];conv=>whnf
  refine E1 ?_
  rw [hw2]
  refine G7 ?_
  exact nx hi' ⟨by rw [B8 (by omega)],rfl⟩
 obtain rfl:=C6 h1 hi
 conv=>whnf
 refine I2 (hZ _) ?_
 intro b16 hb16
 have h1216:b12≠b16:=fun e=>by subst e;rw [at12] at hb16;cases hb16
 conv=>whnf
 refine stU (A0 ..) rfl ?_
 rw [B7];conv=>whnf
 generalize hst:(upd u b16 _:St)=S1
 obtain ⟨f16,at16,hf16⟩:∃ f16:Nat→AV,S1 b16=some ⟨177,4,1,f16⟩∧f16 0=Q6 z:=by rw [←hst];exact ⟨_,A0 ..,by rw [A5];rfl⟩
 have at12b:S1 b12=some ⟨184,4,1,f12⟩:=by rw [←hst,A6 h1216];exact at12
 have hs1:D8 st S1:=by rw [←hst];exact hs0.upd hb16
 clear hst
 refine .inr ⟨[2,10,11],.qui 0 (.qui 1 (.qui 3 (.qui 4 (.qui 5 (.qui 6 (.qui 7 (.two 2 10 [4,7] [0,4,7] (.qui 8 (.qui 9 (.eff 10 [0,4,7,8] (.eff 11 [] (.done))))) (.eff 2 [4,7] (.qui 8 (.qui 9 (.eff 11 [] (.done)))))))))))),by kernel_rfl,?_⟩;conv=>whnf
 refine ⟨_,fun _=>True,trivial,fun s _=>⟨rfl,rfl⟩,?_⟩;conv=>whnf
 refine ⟨_,fun _=>True,trivial,fun s _=>⟨rfl,rfl⟩,?_⟩;conv=>whnf
 refine ⟨_,fun s=>s b16=some ⟨177,4,1,f16⟩,at16,fun s hs=>ldV hs rfl (by omega) hf16 ⟨rfl,rfl⟩,?_⟩;conv=>whnf
 have hnb:=hn
 refine ⟨?A,?B⟩
 case' A =>
  conv=>whnf
  refine N3.apps (n:=0) (m:=nets.length) (q:=r2) (f:=fun k=>eI (gI nets k)) rfl rfl rfl rfl rfl (fun i hi=>by rw [Nat.zero_add]) (by show (0+nets.length) * 8≤140737488355328;omega) (N3.start _ _ _ S1) (fun gv s2 hc=>?_)
  rw [Nat.zero_add] at hc;conv=>whnf
  refine ⟨fun h=>hc.sup b16 _ h,?_⟩;conv=>whnf
  refine ⟨fun h=>trivial,?_⟩;conv=>whnf
  refine ⟨_,fun _=>True,trivial,fun s _=>N4 (hU s),?_⟩
  rcases (show gv=.emp∨∃ b,gv=.own 1 b 0 nets.length from ROut.head (show ROut D8 _ _ _ _ _ gv s2 from ⟨_,hc,D8.refl _⟩)) with rfl | ⟨bg,rfl⟩
  all_goals
   conv=>whnf
   intro b18 hb18;conv=>whnf
   refine ⟨fun _=>trivial,?_⟩;conv=>whnf
   have hn18:b16≠b18:=fun e=>by subst e;rw [hc.sup b16 _ at16] at hb18;cases hb18
   refine ⟨fun h=>(A6 hn18).trans h,?_⟩;conv=>whnf
   refine ⟨fun _=>trivial,?_⟩;conv=>whnf
   refine ⟨fun _=>trivial,?_⟩
   have hb18':=N3.off hc hb18
   have hcu:=N3.under (y:=⟨184,4,1,fun _=>H4 B3o.zero⟩) hc hb18
 case' B =>
  conv=>whnf
  intro b18 hb18'
  have hn18:b16≠b18:=fun e=>by subst e;rw [at16] at hb18';cases hb18'
  conv=>whnf
  refine ⟨fun h=>(A6 hn18).trans h,?_⟩;conv=>whnf
  refine ⟨fun _=>trivial,?_⟩;conv=>whnf
  refine ⟨fun _=>trivial,?_⟩;conv=>whnf
  refine N3.apps (n:=0) (m:=nets.length) (q:=r2) (f:=fun k=>eI (gI nets k)) rfl rfl rfl rfl rfl (fun i hi=>by rw [Nat.zero_add]) (by show (0+nets.length) * 8≤140737488355328;omega) (N3.start _ _ _ _) (fun gv s2 hcu=>?_)
  rw [show 0+nets.length=nets.length from Nat.zero_add _] at hcu;conv=>whnf
  refine ⟨fun h=>hcu.sup b16 _ h,?_⟩;conv=>whnf
  refine ⟨fun _=>trivial,?_⟩;conv=>whnf
  refine ⟨_,fun _=>True,trivial,fun s _=>N4 (hU s),?_⟩
  rcases (show gv=.emp∨∃ b,gv=.own 1 b 0 nets.length from ROut.head (show ROut D8 _ _ _ _ _ gv s2 from ⟨_,hcu,D8.refl _⟩)) with rfl | ⟨bg,rfl⟩
 case' A.inl=>have hG:=ROut.putB (y':=⟨184,4,1,C9 (fun _=>H4 B3o.zero) 0 (.agg [.emp,.emp,eI ship,eI (B6 t ship z.ship)])⟩) B2 (show ROut D8 2 1 (fun k=>eI (gI nets k)) nets.length _ .emp _ from ⟨_,hcu,D8.refl _⟩)
 case' A.inr=>have hG:=ROut.putB (y':=⟨184,4,1,C9 (fun _=>H4 B3o.zero) 0 (.agg [.own 1 bg 0 nets.length,.emp,eI ship,eI (B6 t ship z.ship)])⟩) B2 (show ROut D8 2 1 (fun k=>eI (gI nets k)) nets.length _ (.own 1 bg 0 nets.length) _ from ⟨_,hcu,D8.refl _⟩)
 case' B.inl=>have hG:=ROut.putB (y':=⟨184,4,1,C9 (fun _=>H4 B3o.zero) 0 (.agg [.emp,.emp,eI ship,eI (B6 t ship z.ship)])⟩) B2 (show ROut D8 2 1 (fun k=>eI (gI nets k)) nets.length _ .emp _ from ⟨_,hcu,D8.refl _⟩)
 case' B.inr=>have hG:=ROut.putB (y':=⟨184,4,1,C9 (fun _=>H4 B3o.zero) 0 (.agg [.own 1 bg 0 nets.length,.emp,eI ship,eI (B6 t ship z.ship)])⟩) B2 (show ROut D8 2 1 (fun k=>eI (gI nets k)) nets.length _ (.own 1 bg 0 nets.length) _ from ⟨_,hcu,D8.refl _⟩)
 all_goals
  have at18:=hcu.sup b18 _ (A0 ..)
  conv=>whnf
  refine N1 at18 rfl ?_
 all_goals
  refine lp nets.length [2,3,4,5,6,12,16,18,19,20] (fun i vs w=>∃ (sv tv gv:AV) (f:Nat→AV),vs=[eB exempt,D2 cats,A8 nets,eI ship,.fptr (M8 t) 0,.optr 4 b12 0 0,.optr 4 b16 0 0,.optr 4 b18 0 0,sv,eI i]∧f 0=.agg [gv,tv,eI ship,eI (B6 t ship z.ship)] ∧
   ROut (fun s t'=>ROut (fun s t'=>ROut D8 2 1 (fun k=>eI (gI nets k)) nets.length s gv t') 2 1 (fun k=>eI (gI (R7 t (cats.map (E7 z)) nets) k)) i s tv t') 2 1 (fun k=>eI (gI (cats.map (E7 z)) k)) i (upd S1 b18 ⟨184,4,1,f⟩) sv w) ?_ ?_
  ·conv=>whnf
   exact ⟨.emp,.emp,_,_,rfl,A5 ..,ROut.start (show ROut _ _ _ _ 0 _ .emp _ from ROut.start (show ROut _ _ _ _ _ _ _ _ from hG) _ _ _) _ _ _⟩
  clear hG at18 hcu
  rintro i vs w hi ⟨sv,tv,gv,f,rfl,hf,hR⟩
  have hBG:=D9 B2 2 1 (fun k=>eI (gI nets k)) nets.length gv
  have hBT:=fun m tv=>D9 hBG 2 1 (fun k=>eI (gI (R7 t (cats.map (E7 z)) nets) k)) m tv
  have hsup:=ROut.sup (hBT _ _) hR
  have at16c:=hsup b16 _ (by rw [A6 hn18];exact at16)
  conv=>whnf
  cases h1:decide ((i:Int)<(nets.length:Int))
  case true =>
   have hi':=E4 h1
   have hRi:=fun st=>hR' (cats.getD (i:Int).toNat default) st
   have hgR:gI (cats.map (E7 z)) i=E7 z (cats.getD (i:Int).toNat default):=E6 (E7 z) cats (by omega)
   have hgL:gI (R7 t (cats.map (E7 z)) nets) i=B6 t (gI nets i) (gI (cats.map (E7 z)) i):=by
    unfold R7;unfold gI
    rw [List.getD_eq_getElem?_getD,List.getElem?_map,List.getElem?_range hi'];rfl
   have hrt:0≤E7 z (cats.getD (i:Int).toNat default)∧E7 z (cats.getD (i:Int).toNat default)≤10000:=B5a h.zone _
   have hU2:=fun st=>B3s t (gI nets (i:Int).toNat) (E7 z (cats.getD (i:Int).toNat default)) hrt st
   rw [hgR] at hgL
   generalize E7 z (cats.getD (i:Int).toNat default)=RT at hRi hgR hgL hU2
   conv=>whnf
   refine .inl ⟨[7,8],[],List.range 10,by kernel_rfl,?_⟩;conv=>whnf
   refine F2 at16c hf16 ?_
   refine E1 ?_
   refine X9 (hRi _) ?_
   refine ROut.app (q:=r2) (hBT _ _) rfl rfl rfl rfl rfl (f:=fun k=>eI (gI (cats.map (E7 z)) k)) (by show _=eI _;rw [hgR];rfl) (by show (i+1) * 8≤140737488355328;omega) hR (fun sv' w2 hR2=>?_);conv=>whnf
   have hsup2:=ROut.sup (hBT _ _) hR2
   have at18c:=hsup2 b18 _ (A0 ..)
   obtain ⟨s3,hsv,hT3⟩:=hR2
   obtain ⟨bs,gs,rfl,atS,hgs⟩:∃ bs gs,sv'=.own 1 bs 0 (i+1)∧w2 bs=some ⟨2,1,i+1,gs⟩∧∀ k,k<i+1→gs k=eI (gI (cats.map (E7 z)) k):=by
    rcases hsv with ⟨h0,_⟩ | ⟨_,b,g,h3,h4,h5,h6⟩
    ·omega
    ·exact ⟨b,g,h4,(hBT _ _).sup hT3 b _ (by rw [h5];exact A0 ..),h6⟩
   rcases ROut.head hT3 with rfl | ⟨bt,rfl⟩
   all_goals
    refine .inr ⟨[12,13,15],.qui 0 (.qui 1 (.qui 2 (.qui 3 (.qui 4 (.qui 5 (.qui 6 (.qui 7 (.qui 8 (.qui 9 (.qui 10 (.qui 11 (.eff 12 [1] (.eff 13 [] (.qui 14 (.eff 15 [] (.done)))))))))))))))),by kernel_rfl,?_⟩;conv=>whnf
    refine ⟨_,fun s=>s b18=some ⟨184,4,1,f⟩,at18c,fun s hs=>ldV hs rfl (by omega) hf ⟨rfl,rfl⟩,?_⟩;conv=>whnf
    refine ⟨_,fun _=>True,trivial,fun s _=>⟨rfl,rfl⟩,?_⟩;conv=>whnf
    refine E1 ?_
    refine ⟨_,fun _=>True,trivial,fun s _=>⟨rfl,rfl⟩,?_⟩;conv=>whnf
    refine E1 ?_
    refine ⟨_,fun s=>s bs=some ⟨2,1,i+1,gs⟩,atS,fun s hs=>ldV hs rfl (by show 0+((i:Nat):Int).toNat<i+1;omega) (v:=eI RT) (by show gs (0+((i:Nat):Int).toNat)=_;rw [show 0+((i:Nat):Int).toNat=i by omega,hgs i (by omega),hgR]) ⟨rfl,rfl⟩,?_⟩;conv=>whnf
    refine ⟨_,fun _=>True,trivial,fun s _=>N4 (hU2 s),?_⟩;conv=>whnf
    refine ⟨fun h=>h,?_⟩;conv=>whnf
    refine ROut.app (q:=r2) hBG rfl rfl rfl rfl rfl (f:=fun k=>eI (gI (R7 t (cats.map (E7 z)) nets) k)) (by show _=eI _;rw [hgL];rfl) (by show (i+1) * 8≤140737488355328;omega) hT3 (fun tv' w3 hT4=>?_)
    have hAll:ROut (fun s t'=>ROut (fun s t'=>ROut D8 2 1 (fun k=>eI (gI nets k)) nets.length s gv t') 2 1 (fun k=>eI (gI (R7 t (cats.map (E7 z)) nets) k)) (i+1) s tv' t') 2 1 (fun k=>eI (gI (cats.map (E7 z)) k)) (i+1) (upd S1 b18 ⟨184,4,1,f⟩) (.own 1 bs 0 (i+1)) w3:=⟨s3,hsv,hT4⟩
    have at18d:=(ROut.sup (hBT _ _) hAll) b18 _ (A0 ..)
    rcases ROut.head hT4 with rfl | ⟨bt',rfl⟩
    all_goals
     conv=>whnf
     refine N1 at18d hf ?_
     refine G7 ?_
     exact nx hi' ⟨_,_,gv,_,by rw [B8 (by omega)],(by rw [A5];rfl),ROut.putB (hBT _ _) hAll _⟩
  obtain rfl:=C6 h1 hi
  have hbase:D8 st (upd S1 b18 ⟨184,4,1,f⟩):=hs1.upd hb18'
  have hb18st:st b18=none:=hs1.none hb18'
  have hb12n:b12≠b18:=fun e=>by subst e;rw [at12b] at hb18';cases hb18'
  have hTXl:(I6 t (cats.map (E7 z)) nets).length=nets.length:=t1
  have htx:∀ i,i<nets.length→0≤gI (I6 t (cats.map (E7 z)) nets) i∧gI (I6 t (cats.map (E7 z)) nets) i≤10000000000000:=fun i hi=>t2 _ (B3 (by omega))
  have hnx:∀ i,i<nets.length→0≤gI nets i∧gI nets i≤10000000000000:=fun i hi=>by
   have h1:=h.nets.pos _ (show gI nets i∈nets from B3 hi)
   have h2:=I9 h.nets.pos (show gI nets i∈nets from B3 hi)
   exact ⟨h1,by omega⟩
  conv=>whnf
  cases hbo:t.byOrder
  case false =>
   have hTX:I6 t (cats.map (E7 z)) nets=R7 t (cats.map (E7 z)) nets:=if_neg (by rw [hbo];simp)
   rw [←hTX] at hR
   have hR2:=ROut.dropped (D9 hBG _ _ _ _ _) hR
   generalize I6 t (cats.map (E7 z)) nets=TX at *
   have hK:ROut (fun s t'=>ROut D8 2 1 (fun k=>eI (H5 nets TX 0 k)) nets.length s (gv) t') 2 1 (fun k=>eI (gI TX k)) nets.length (upd S1 b18 ⟨184,4,1,f⟩) (tv) (w):=by rw [C1c];exact hR2
   have eTX:A8 TX=.arr 1 nets.length (fun k=>eI (gI TX k)):=by unfold A8 B1;rw [hTXl]
   rcases (show tv=.emp∨∃ b,tv=.own 1 b 0 nets.length from ROut.head hR2) with rfl | ⟨bt,rfl⟩<;>rcases (show gv=.emp∨∃ b,gv=.own 1 b 0 nets.length from by obtain ⟨s0,_,hg⟩:=hR2;exact ROut.head hg) with rfl | ⟨bg2,rfl⟩
   all_goals
    clear hR hR2
    conv=>whnf
   ·have hBGn:=D9 B2 2 1 (fun k=>eI (H5 nets TX 0 k)) nets.length ((.emp))
    have hf9:=hf
    have hK9:=hK
    cases hin:t.incl
    case false =>
     refine A4I [2,4,5,6,12,18,21] ?_;conv=>whnf
     intro I;conv=>whnf
     cases decide ((0:Int)<(nets.length:Int))
     case' true =>
      conv=>whnf
      rw [hin]
     all_goals
      conv=>whnf
      rw [hin];conv=>whnf
      have hS9:=ROut.sup hBGn hK9
      have at18e:=hS9 b18 _ (A0 ..)
      have at12e:=hS9 b12 _ (by rw [A6 hb12n];exact at12b)
      cases exempt
      ·conv=>whnf
       refine F2 at18e hf9 ?_
       refine N1 at12e hf12 ?_
       refine F2 (A0 ..) (A5 ..) ?_
       have hK10:=ROut.write (y':=⟨184,4,1,C9 f12 0 (.agg [(.emp),(.emp),eI ship,eI (B6 t ship z.ship)])⟩) hBGn hK9 (show (upd S1 b18 ⟨184,4,1,f⟩) b12=_ by rw [A6 hb12n];exact at12b)
       obtain ⟨s0,hcT,hG9⟩:=hK10
       obtain ⟨c1,k1,k2⟩:=ROut.shift B2 hG9
       obtain ⟨c2,k3,k4⟩:=ROut.shift B2 (show ROut D8 2 1 (fun k=>eI (gI TX k)) nets.length _ ((.emp)) c1 from ⟨s0,hcT,k2⟩)
       exact ⟨(.emp),(.emp),c1,c2,(by first | rfl | (rw [hin];rfl)),k1.trans (F6 (.inr ⟨hin,rfl⟩)),(by rw [if_neg (by simp),eTX];exact k3),((hs1.upd hb18').over hb12).trans k4⟩
      ·conv=>whnf
       refine mkO rfl rfl rfl (by show 8 * nets.length≤_;omega) (by omega) (by rfl) (fun bz hbz=>?_)
       have hz18:b18≠bz:=fun e=>by subst e;cases (at18e.symm.trans hbz)
       have hz12:b12≠bz:=fun e=>by subst e;cases (at12e.symm.trans hbz)
       have hzst:st bz=none:=((hs1.upd hb18').trans hS9).none hbz
       conv=>whnf
       refine N1 ((A6 hz18).trans at18e) hf9 ?_
       refine stU (A0 ..) (A5 ..) ?_
       rw [B7];conv=>whnf
       refine F2 (A0 ..) (A5 ..) ?_
       refine N1 ((A6 hb12n).trans ((A6 hz12).trans at12e)) hf12 ?_
       refine F2 (A0 ..) (A5 ..) ?_
       have hG0:=ROut.dropped hBGn hK9
       have hG1:=(D9 B2 _ _ _ _ _).begin (y:=⟨2,1,nets.length,fun _=>H4 r2.zero⟩) hG0 hbz
       have hG2:=ROut.write (y':=⟨184,4,1,C9 (C9 f 0 (.agg [(.emp),.own 1 bz 0 nets.length,eI ship,eI (B6 t ship z.ship)])) 0 (.agg [(.emp),.own 1 bz 0 nets.length,eI ship,eI 0])⟩) B2 hG1 ((A6 hz18).trans (A0 ..))
       have hG3:=ROut.write (y':=⟨184,4,1,C9 f12 0 (.agg [(.emp),.own 1 bz 0 nets.length,eI ship,eI 0])⟩) B2 hG2 ((A6 hb12n).trans ((A6 hz12).trans ((A6 hb12n).trans at12b)))
       obtain ⟨c1,k1,k2⟩:=ROut.shift B2 hG3
       have atz:=k2 bz _ ((A6 hz12.symm).trans ((A6 hz18.symm).trans (A0 ..)))
       have hsz:D8 st c1:=(((((hs1.upd hb18').over hzst).over hb18st).over hb12).trans k2)
       refine ⟨(.emp),.own 1 bz 0 nets.length,c1,del c1 bz,(by first | rfl | (rw [hin];rfl)),k1.trans (F6 (.inr ⟨hin,rfl⟩)),?_,D8.del hsz hzst⟩
       rw [if_pos rfl,show A8 (List.replicate nets.length 0)=.arr 1 nets.length (fun k=>eI ((List.replicate nets.length (0:Int)).getD k default)) by unfold A8 B1;rw [List.length_replicate]]
       exact G5 atz rfl (Nat.le_refl _) (fun k hk=>by rw [U9];rfl)
    case true =>
     clear hf9 hK9 hBGn
     refine lp nets.length [2,4,5,6,12,18,21] (fun j vs u=>vs=[eB exempt,A8 nets,eI ship,.fptr (M8 t) 0,.optr 4 b12 0 0,.optr 4 b18 0 0,eI j]∧ROut (fun s t'=>ROut D8 2 1 (fun k=>eI (H5 nets TX j k)) nets.length s (.emp) t') 2 1 (fun k=>eI (gI TX k)) nets.length (upd S1 b18 ⟨184,4,1,f⟩) (.emp) (u)) ?_ ?_
     ·conv=>whnf
      exact ⟨rfl,hK⟩
     clear hK
     rintro j vs u hj ⟨rfl,hK⟩
     have hBGn:=D9 B2 2 1 (fun k=>eI (H5 nets TX j k)) nets.length ((.emp))
     have hSj:=ROut.sup hBGn hK
     have at18j:=hSj b18 _ (A0 ..)
     have hfj:f 0=.agg [(.emp),(.emp),eI ship,eI (B6 t ship z.ship)]:=by first | exact hf | exact A5 ..
     conv=>whnf
     cases h5:decide ((j:Int)<(nets.length:Int))
     case true =>
      have hj5:=E4 h5
      obtain ⟨s0,hcT,hG9⟩:=hK
      obtain ⟨_,⟨h0,_⟩ | ⟨_,_,_,_,h0,_⟩,_⟩:=hG9
      ·omega
      ·cases h0
     obtain rfl:=C6 h5 hj
     have hwS:IntKind.i64.wrap (ship - B6 t ship z.ship)=ship - B6 t ship z.ship:=A9 (by omega) (by omega)
     conv=>whnf
     rw [hin];conv=>whnf
     refine F2 at18j hfj ?_
     rw [hwS]
     refine N1 at18j hfj ?_
     have hf9:(C9 f 0 (.agg [(.emp),(.emp),eI (ship - B6 t ship z.ship),eI (B6 t ship z.ship)])) 0=.agg [(.emp),(.emp),eI (ship - B6 t ship z.ship),eI (B6 t ship z.ship)]:=A5 ..
     have hK9:ROut (fun s t'=>ROut D8 2 1 (fun k=>eI (H5 nets TX nets.length k)) nets.length s (.emp) t') 2 1 (fun k=>eI (gI TX k)) nets.length (upd S1 b18 ⟨184,4,1,(C9 f 0 (.agg [(.emp),(.emp),eI (ship - B6 t ship z.ship),eI (B6 t ship z.ship)]))⟩) (.emp) (upd u b18 ⟨184,4,1,(C9 f 0 (.agg [(.emp),(.emp),eI (ship - B6 t ship z.ship),eI (B6 t ship z.ship)]))⟩):=ROut.putB hBGn hK _
     have hS9:=ROut.sup hBGn hK9
     have at18e:=hS9 b18 _ (A0 ..)
     have at12e:=hS9 b12 _ (by rw [A6 hb12n];exact at12b)
     cases exempt
     ·conv=>whnf
      refine F2 at18e hf9 ?_
      refine N1 at12e hf12 ?_
      refine F2 (A0 ..) (A5 ..) ?_
      have hK10:=ROut.write (y':=⟨184,4,1,C9 f12 0 (.agg [(.emp),(.emp),eI (ship - B6 t ship z.ship),eI (B6 t ship z.ship)])⟩) hBGn hK9 (show (upd S1 b18 ⟨184,4,1,(C9 f 0 (.agg [(.emp),(.emp),eI (ship - B6 t ship z.ship),eI (B6 t ship z.ship)]))⟩) b12=_ by rw [A6 hb12n];exact at12b)
      obtain ⟨s0,hcT,hG9⟩:=hK10
      obtain ⟨c1,k1,k2⟩:=ROut.shift B2 hG9
      obtain ⟨c2,k3,k4⟩:=ROut.shift B2 (show ROut D8 2 1 (fun k=>eI (gI TX k)) nets.length _ ((.emp)) c1 from ⟨s0,hcT,k2⟩)
      exact ⟨(.emp),(.emp),c1,c2,(by first | rfl | (rw [hin];rfl)),k1.trans (F6 (.inl ⟨hin,rfl⟩)),(by rw [if_neg (by simp),eTX];exact k3),((hs1.upd hb18').over hb12).trans k4⟩
     ·conv=>whnf
      refine mkO rfl rfl rfl (by show 8 * nets.length≤_;omega) (by omega) (by rfl) (fun bz hbz=>?_)
      have hz18:b18≠bz:=fun e=>by subst e;cases (at18e.symm.trans hbz)
      have hz12:b12≠bz:=fun e=>by subst e;cases (at12e.symm.trans hbz)
      have hzst:st bz=none:=((hs1.upd hb18').trans hS9).none hbz
      conv=>whnf
      refine N1 ((A6 hz18).trans at18e) hf9 ?_
      refine stU (A0 ..) (A5 ..) ?_
      rw [B7];conv=>whnf
      refine F2 (A0 ..) (A5 ..) ?_
      refine N1 ((A6 hb12n).trans ((A6 hz12).trans at12e)) hf12 ?_
      refine F2 (A0 ..) (A5 ..) ?_
      have hG0:=ROut.dropped hBGn hK9
      have hG1:=(D9 B2 _ _ _ _ _).begin (y:=⟨2,1,nets.length,fun _=>H4 r2.zero⟩) hG0 hbz
      have hG2:=ROut.write (y':=⟨184,4,1,C9 (C9 (C9 f 0 (.agg [(.emp),(.emp),eI (ship - B6 t ship z.ship),eI (B6 t ship z.ship)])) 0 (.agg [(.emp),.own 1 bz 0 nets.length,eI (ship - B6 t ship z.ship),eI (B6 t ship z.ship)])) 0 (.agg [(.emp),.own 1 bz 0 nets.length,eI (ship - B6 t ship z.ship),eI 0])⟩) B2 hG1 ((A6 hz18).trans (A0 ..))
      have hG3:=ROut.write (y':=⟨184,4,1,C9 f12 0 (.agg [(.emp),.own 1 bz 0 nets.length,eI (ship - B6 t ship z.ship),eI 0])⟩) B2 hG2 ((A6 hb12n).trans ((A6 hz12).trans ((A6 hb12n).trans at12b)))
      obtain ⟨c1,k1,k2⟩:=ROut.shift B2 hG3
      have atz:=k2 bz _ ((A6 hz12.symm).trans ((A6 hz18.symm).trans (A0 ..)))
      have hsz:D8 st c1:=(((((hs1.upd hb18').over hzst).over hb18st).over hb12).trans k2)
      refine ⟨(.emp),.own 1 bz 0 nets.length,c1,del c1 bz,(by first | rfl | (rw [hin];rfl)),k1.trans (F6 (.inl ⟨hin,rfl⟩)),?_,D8.del hsz hzst⟩
      rw [if_pos rfl,show A8 (List.replicate nets.length 0)=.arr 1 nets.length (fun k=>eI ((List.replicate nets.length (0:Int)).getD k default)) by unfold A8 B1;rw [List.length_replicate]]
      exact G5 atz rfl (Nat.le_refl _) (fun k hk=>by rw [U9];rfl)
   ·have hBGn:=D9 B2 2 1 (fun k=>eI (H5 nets TX 0 k)) nets.length ((.own 1 bg2 0 nets.length))
    have hf9:=hf
    have hK9:=hK
    cases hin:t.incl
    case false =>
     refine A4I [2,4,5,6,12,18,21] ?_;conv=>whnf
     intro I;conv=>whnf
     cases decide ((0:Int)<(nets.length:Int))
     case' true =>
      conv=>whnf
      rw [hin]
     all_goals
      conv=>whnf
      rw [hin];conv=>whnf
      have hS9:=ROut.sup hBGn hK9
      have at18e:=hS9 b18 _ (A0 ..)
      have at12e:=hS9 b12 _ (by rw [A6 hb12n];exact at12b)
      cases exempt
      ·conv=>whnf
       refine F2 at18e hf9 ?_
       refine N1 at12e hf12 ?_
       refine F2 (A0 ..) (A5 ..) ?_
       have hK10:=ROut.write (y':=⟨184,4,1,C9 f12 0 (.agg [(.own 1 bg2 0 nets.length),(.emp),eI ship,eI (B6 t ship z.ship)])⟩) hBGn hK9 (show (upd S1 b18 ⟨184,4,1,f⟩) b12=_ by rw [A6 hb12n];exact at12b)
       obtain ⟨s0,hcT,hG9⟩:=hK10
       obtain ⟨c1,k1,k2⟩:=ROut.shift B2 hG9
       obtain ⟨c2,k3,k4⟩:=ROut.shift B2 (show ROut D8 2 1 (fun k=>eI (gI TX k)) nets.length _ ((.emp)) c1 from ⟨s0,hcT,k2⟩)
       exact ⟨(.own 1 bg2 0 nets.length),(.emp),c1,c2,(by first | rfl | (rw [hin];rfl)),k1.trans (F6 (.inr ⟨hin,rfl⟩)),(by rw [if_neg (by simp),eTX];exact k3),((hs1.upd hb18').over hb12).trans k4⟩
      ·conv=>whnf
       refine mkO rfl rfl rfl (by show 8 * nets.length≤_;omega) (by omega) (by rfl) (fun bz hbz=>?_)
       have hz18:b18≠bz:=fun e=>by subst e;cases (at18e.symm.trans hbz)
       have hz12:b12≠bz:=fun e=>by subst e;cases (at12e.symm.trans hbz)
       have hzst:st bz=none:=((hs1.upd hb18').trans hS9).none hbz
       conv=>whnf
       refine N1 ((A6 hz18).trans at18e) hf9 ?_
       refine stU (A0 ..) (A5 ..) ?_
       rw [B7];conv=>whnf
       refine F2 (A0 ..) (A5 ..) ?_
       refine N1 ((A6 hb12n).trans ((A6 hz12).trans at12e)) hf12 ?_
       refine F2 (A0 ..) (A5 ..) ?_
       have hG0:=ROut.dropped hBGn hK9
       have hG1:=(D9 B2 _ _ _ _ _).begin (y:=⟨2,1,nets.length,fun _=>H4 r2.zero⟩) hG0 hbz
       have hG2:=ROut.write (y':=⟨184,4,1,C9 (C9 f 0 (.agg [(.own 1 bg2 0 nets.length),.own 1 bz 0 nets.length,eI ship,eI (B6 t ship z.ship)])) 0 (.agg [(.own 1 bg2 0 nets.length),.own 1 bz 0 nets.length,eI ship,eI 0])⟩) B2 hG1 ((A6 hz18).trans (A0 ..))
       have hG3:=ROut.write (y':=⟨184,4,1,C9 f12 0 (.agg [(.own 1 bg2 0 nets.length),.own 1 bz 0 nets.length,eI ship,eI 0])⟩) B2 hG2 ((A6 hb12n).trans ((A6 hz12).trans ((A6 hb12n).trans at12b)))
       obtain ⟨c1,k1,k2⟩:=ROut.shift B2 hG3
       have atz:=k2 bz _ ((A6 hz12.symm).trans ((A6 hz18.symm).trans (A0 ..)))
       have hsz:D8 st c1:=(((((hs1.upd hb18').over hzst).over hb18st).over hb12).trans k2)
       refine ⟨(.own 1 bg2 0 nets.length),.own 1 bz 0 nets.length,c1,del c1 bz,(by first | rfl | (rw [hin];rfl)),k1.trans (F6 (.inr ⟨hin,rfl⟩)),?_,D8.del hsz hzst⟩
       rw [if_pos rfl,show A8 (List.replicate nets.length 0)=.arr 1 nets.length (fun k=>eI ((List.replicate nets.length (0:Int)).getD k default)) by unfold A8 B1;rw [List.length_replicate]]
       exact G5 atz rfl (Nat.le_refl _) (fun k hk=>by rw [U9];rfl)
    case true =>
     clear hf9 hK9 hBGn
     refine lp nets.length [2,4,5,6,12,18,21] (fun j vs u=>vs=[eB exempt,A8 nets,eI ship,.fptr (M8 t) 0,.optr 4 b12 0 0,.optr 4 b18 0 0,eI j]∧ROut (fun s t'=>ROut D8 2 1 (fun k=>eI (H5 nets TX j k)) nets.length s (.own 1 bg2 0 nets.length) t') 2 1 (fun k=>eI (gI TX k)) nets.length (upd S1 b18 ⟨184,4,1,f⟩) (.emp) (u)) ?_ ?_
     ·conv=>whnf
      exact ⟨rfl,hK⟩
     clear hK
     rintro j vs u hj ⟨rfl,hK⟩
     have hBGn:=D9 B2 2 1 (fun k=>eI (H5 nets TX j k)) nets.length ((.own 1 bg2 0 nets.length))
     have hSj:=ROut.sup hBGn hK
     have at18j:=hSj b18 _ (A0 ..)
     have hfj:f 0=.agg [(.own 1 bg2 0 nets.length),(.emp),eI ship,eI (B6 t ship z.ship)]:=by first | exact hf | exact A5 ..
     conv=>whnf
     cases h5:decide ((j:Int)<(nets.length:Int))
     case true =>
      have hj5:=E4 h5
      obtain ⟨s0,hcT,hG9⟩:=hK
      obtain ⟨h0,_⟩ | ⟨_,_,_,_,h0,_⟩:=hcT
      ·omega
      ·cases h0
     obtain rfl:=C6 h5 hj
     have hwS:IntKind.i64.wrap (ship - B6 t ship z.ship)=ship - B6 t ship z.ship:=A9 (by omega) (by omega)
     conv=>whnf
     rw [hin];conv=>whnf
     refine F2 at18j hfj ?_
     rw [hwS]
     refine N1 at18j hfj ?_
     have hf9:(C9 f 0 (.agg [(.own 1 bg2 0 nets.length),(.emp),eI (ship - B6 t ship z.ship),eI (B6 t ship z.ship)])) 0=.agg [(.own 1 bg2 0 nets.length),(.emp),eI (ship - B6 t ship z.ship),eI (B6 t ship z.ship)]:=A5 ..
     have hK9:ROut (fun s t'=>ROut D8 2 1 (fun k=>eI (H5 nets TX nets.length k)) nets.length s (.own 1 bg2 0 nets.length) t') 2 1 (fun k=>eI (gI TX k)) nets.length (upd S1 b18 ⟨184,4,1,(C9 f 0 (.agg [(.own 1 bg2 0 nets.length),(.emp),eI (ship - B6 t ship z.ship),eI (B6 t ship z.ship)]))⟩) (.emp) (upd u b18 ⟨184,4,1,(C9 f 0 (.agg [(.own 1 bg2 0 nets.length),(.emp),eI (ship - B6 t ship z.ship),eI (B6 t ship z.ship)]))⟩):=ROut.putB hBGn hK _
     have hS9:=ROut.sup hBGn hK9
     have at18e:=hS9 b18 _ (A0 ..)
     have at12e:=hS9 b12 _ (by rw [A6 hb12n];exact at12b)
     cases exempt
     ·conv=>whnf
      refine F2 at18e hf9 ?_
      refine N1 at12e hf12 ?_
      refine F2 (A0 ..) (A5 ..) ?_
      have hK10:=ROut.write (y':=⟨184,4,1,C9 f12 0 (.agg [(.own 1 bg2 0 nets.length),(.emp),eI (ship - B6 t ship z.ship),eI (B6 t ship z.ship)])⟩) hBGn hK9 (show (upd S1 b18 ⟨184,4,1,(C9 f 0 (.agg [(.own 1 bg2 0 nets.length),(.emp),eI (ship - B6 t ship z.ship),eI (B6 t ship z.ship)]))⟩) b12=_ by rw [A6 hb12n];exact at12b)
      obtain ⟨s0,hcT,hG9⟩:=hK10
      obtain ⟨c1,k1,k2⟩:=ROut.shift B2 hG9
      obtain ⟨c2,k3,k4⟩:=ROut.shift B2 (show ROut D8 2 1 (fun k=>eI (gI TX k)) nets.length _ ((.emp)) c1 from ⟨s0,hcT,k2⟩)
      exact ⟨(.own 1 bg2 0 nets.length),(.emp),c1,c2,(by first | rfl | (rw [hin];rfl)),k1.trans (F6 (.inl ⟨hin,rfl⟩)),(by rw [if_neg (by simp),eTX];exact k3),((hs1.upd hb18').over hb12).trans k4⟩
     ·conv=>whnf
      refine mkO rfl rfl rfl (by show 8 * nets.length≤_;omega) (by omega) (by rfl) (fun bz hbz=>?_)
      have hz18:b18≠bz:=fun e=>by subst e;cases (at18e.symm.trans hbz)
      have hz12:b12≠bz:=fun e=>by subst e;cases (at12e.symm.trans hbz)
      have hzst:st bz=none:=((hs1.upd hb18').trans hS9).none hbz
      conv=>whnf
      refine N1 ((A6 hz18).trans at18e) hf9 ?_
      refine stU (A0 ..) (A5 ..) ?_
      rw [B7];conv=>whnf
      refine F2 (A0 ..) (A5 ..) ?_
      refine N1 ((A6 hb12n).trans ((A6 hz12).trans at12e)) hf12 ?_
      refine F2 (A0 ..) (A5 ..) ?_
      have hG0:=ROut.dropped hBGn hK9
      have hG1:=(D9 B2 _ _ _ _ _).begin (y:=⟨2,1,nets.length,fun _=>H4 r2.zero⟩) hG0 hbz
      have hG2:=ROut.write (y':=⟨184,4,1,C9 (C9 (C9 f 0 (.agg [(.own 1 bg2 0 nets.length),(.emp),eI (ship - B6 t ship z.ship),eI (B6 t ship z.ship)])) 0 (.agg [(.own 1 bg2 0 nets.length),.own 1 bz 0 nets.length,eI (ship - B6 t ship z.ship),eI (B6 t ship z.ship)])) 0 (.agg [(.own 1 bg2 0 nets.length),.own 1 bz 0 nets.length,eI (ship - B6 t ship z.ship),eI 0])⟩) B2 hG1 ((A6 hz18).trans (A0 ..))
      have hG3:=ROut.write (y':=⟨184,4,1,C9 f12 0 (.agg [(.own 1 bg2 0 nets.length),.own 1 bz 0 nets.length,eI (ship - B6 t ship z.ship),eI 0])⟩) B2 hG2 ((A6 hb12n).trans ((A6 hz12).trans ((A6 hb12n).trans at12b)))
      obtain ⟨c1,k1,k2⟩:=ROut.shift B2 hG3
      have atz:=k2 bz _ ((A6 hz12.symm).trans ((A6 hz18.symm).trans (A0 ..)))
      have hsz:D8 st c1:=(((((hs1.upd hb18').over hzst).over hb18st).over hb12).trans k2)
      refine ⟨(.own 1 bg2 0 nets.length),.own 1 bz 0 nets.length,c1,del c1 bz,(by first | rfl | (rw [hin];rfl)),k1.trans (F6 (.inl ⟨hin,rfl⟩)),?_,D8.del hsz hzst⟩
      rw [if_pos rfl,show A8 (List.replicate nets.length 0)=.arr 1 nets.length (fun k=>eI ((List.replicate nets.length (0:Int)).getD k default)) by unfold A8 B1;rw [List.length_replicate]]
      exact G5 atz rfl (Nat.le_refl _) (fun k hk=>by rw [U9];rfl)
   ·have hBGn:=D9 B2 2 1 (fun k=>eI (H5 nets TX 0 k)) nets.length ((.emp))
    have hf9:=hf
    have hK9:=hK
    cases hin:t.incl
    case false =>
     refine A4I [2,4,5,6,12,18,21] ?_;conv=>whnf
     intro I;conv=>whnf
     cases decide ((0:Int)<(nets.length:Int))
     case' true =>
      conv=>whnf
      rw [hin]
     all_goals
      conv=>whnf
      rw [hin];conv=>whnf
      have hS9:=ROut.sup hBGn hK9
      have at18e:=hS9 b18 _ (A0 ..)
      have at12e:=hS9 b12 _ (by rw [A6 hb12n];exact at12b)
      cases exempt
      ·conv=>whnf
       refine F2 at18e hf9 ?_
       refine N1 at12e hf12 ?_
       refine F2 (A0 ..) (A5 ..) ?_
       have hK10:=ROut.write (y':=⟨184,4,1,C9 f12 0 (.agg [(.emp),(.own 1 bt 0 nets.length),eI ship,eI (B6 t ship z.ship)])⟩) hBGn hK9 (show (upd S1 b18 ⟨184,4,1,f⟩) b12=_ by rw [A6 hb12n];exact at12b)
       obtain ⟨s0,hcT,hG9⟩:=hK10
       obtain ⟨c1,k1,k2⟩:=ROut.shift B2 hG9
       obtain ⟨c2,k3,k4⟩:=ROut.shift B2 (show ROut D8 2 1 (fun k=>eI (gI TX k)) nets.length _ ((.own 1 bt 0 nets.length)) c1 from ⟨s0,hcT,k2⟩)
       exact ⟨(.emp),(.own 1 bt 0 nets.length),c1,c2,(by first | rfl | (rw [hin];rfl)),k1.trans (F6 (.inr ⟨hin,rfl⟩)),(by rw [if_neg (by simp),eTX];exact k3),((hs1.upd hb18').over hb12).trans k4⟩
      ·conv=>whnf
       refine mkO rfl rfl rfl (by show 8 * nets.length≤_;omega) (by omega) (by rfl) (fun bz hbz=>?_)
       have hz18:b18≠bz:=fun e=>by subst e;cases (at18e.symm.trans hbz)
       have hz12:b12≠bz:=fun e=>by subst e;cases (at12e.symm.trans hbz)
       have hzst:st bz=none:=((hs1.upd hb18').trans hS9).none hbz
       conv=>whnf
       refine N1 ((A6 hz18).trans at18e) hf9 ?_
       refine stU (A0 ..) (A5 ..) ?_
       rw [B7];conv=>whnf
       refine F2 (A0 ..) (A5 ..) ?_
       refine N1 ((A6 hb12n).trans ((A6 hz12).trans at12e)) hf12 ?_
       refine F2 (A0 ..) (A5 ..) ?_
       have hG0:=ROut.dropped hBGn hK9
       have hG1:=(D9 B2 _ _ _ _ _).begin (y:=⟨2,1,nets.length,fun _=>H4 r2.zero⟩) hG0 hbz
       have hG2:=ROut.write (y':=⟨184,4,1,C9 (C9 f 0 (.agg [(.emp),.own 1 bz 0 nets.length,eI ship,eI (B6 t ship z.ship)])) 0 (.agg [(.emp),.own 1 bz 0 nets.length,eI ship,eI 0])⟩) B2 hG1 ((A6 hz18).trans (A0 ..))
       have hG3:=ROut.write (y':=⟨184,4,1,C9 f12 0 (.agg [(.emp),.own 1 bz 0 nets.length,eI ship,eI 0])⟩) B2 hG2 ((A6 hb12n).trans ((A6 hz12).trans ((A6 hb12n).trans at12b)))
       obtain ⟨c1,k1,k2⟩:=ROut.shift B2 hG3
       have atz:=k2 bz _ ((A6 hz12.symm).trans ((A6 hz18.symm).trans (A0 ..)))
       have hsz:D8 st c1:=(((((hs1.upd hb18').over hzst).over hb18st).over hb12).trans k2)
       refine ⟨(.emp),.own 1 bz 0 nets.length,c1,del c1 bz,(by first | rfl | (rw [hin];rfl)),k1.trans (F6 (.inr ⟨hin,rfl⟩)),?_,D8.del hsz hzst⟩
       rw [if_pos rfl,show A8 (List.replicate nets.length 0)=.arr 1 nets.length (fun k=>eI ((List.replicate nets.length (0:Int)).getD k default)) by unfold A8 B1;rw [List.length_replicate]]
       exact G5 atz rfl (Nat.le_refl _) (fun k hk=>by rw [U9];rfl)
    case true =>
     clear hf9 hK9 hBGn
     refine lp nets.length [2,4,5,6,12,18,21] (fun j vs u=>vs=[eB exempt,A8 nets,eI ship,.fptr (M8 t) 0,.optr 4 b12 0 0,.optr 4 b18 0 0,eI j]∧ROut (fun s t'=>ROut D8 2 1 (fun k=>eI (H5 nets TX j k)) nets.length s (.emp) t') 2 1 (fun k=>eI (gI TX k)) nets.length (upd S1 b18 ⟨184,4,1,f⟩) (.own 1 bt 0 nets.length) (u)) ?_ ?_
     ·conv=>whnf
      exact ⟨rfl,hK⟩
     clear hK
     rintro j vs u hj ⟨rfl,hK⟩
     have hBGn:=D9 B2 2 1 (fun k=>eI (H5 nets TX j k)) nets.length ((.emp))
     have hSj:=ROut.sup hBGn hK
     have at18j:=hSj b18 _ (A0 ..)
     have hfj:f 0=.agg [(.emp),(.own 1 bt 0 nets.length),eI ship,eI (B6 t ship z.ship)]:=by first | exact hf | exact A5 ..
     conv=>whnf
     cases h5:decide ((j:Int)<(nets.length:Int))
     case true =>
      have hj5:=E4 h5
      obtain ⟨s0,hcT,hG9⟩:=hK
      obtain ⟨_,⟨h0,_⟩ | ⟨_,_,_,_,h0,_⟩,_⟩:=hG9
      ·omega
      ·cases h0
     obtain rfl:=C6 h5 hj
     have hwS:IntKind.i64.wrap (ship - B6 t ship z.ship)=ship - B6 t ship z.ship:=A9 (by omega) (by omega)
     conv=>whnf
     rw [hin];conv=>whnf
     refine F2 at18j hfj ?_
     rw [hwS]
     refine N1 at18j hfj ?_
     have hf9:(C9 f 0 (.agg [(.emp),(.own 1 bt 0 nets.length),eI (ship - B6 t ship z.ship),eI (B6 t ship z.ship)])) 0=.agg [(.emp),(.own 1 bt 0 nets.length),eI (ship - B6 t ship z.ship),eI (B6 t ship z.ship)]:=A5 ..
     have hK9:ROut (fun s t'=>ROut D8 2 1 (fun k=>eI (H5 nets TX nets.length k)) nets.length s (.emp) t') 2 1 (fun k=>eI (gI TX k)) nets.length (upd S1 b18 ⟨184,4,1,(C9 f 0 (.agg [(.emp),(.own 1 bt 0 nets.length),eI (ship - B6 t ship z.ship),eI (B6 t ship z.ship)]))⟩) (.own 1 bt 0 nets.length) (upd u b18 ⟨184,4,1,(C9 f 0 (.agg [(.emp),(.own 1 bt 0 nets.length),eI (ship - B6 t ship z.ship),eI (B6 t ship z.ship)]))⟩):=ROut.putB hBGn hK _
     have hS9:=ROut.sup hBGn hK9
     have at18e:=hS9 b18 _ (A0 ..)
     have at12e:=hS9 b12 _ (by rw [A6 hb12n];exact at12b)
     cases exempt
     ·conv=>whnf
      refine F2 at18e hf9 ?_
      refine N1 at12e hf12 ?_
      refine F2 (A0 ..) (A5 ..) ?_
      have hK10:=ROut.write (y':=⟨184,4,1,C9 f12 0 (.agg [(.emp),(.own 1 bt 0 nets.length),eI (ship - B6 t ship z.ship),eI (B6 t ship z.ship)])⟩) hBGn hK9 (show (upd S1 b18 ⟨184,4,1,(C9 f 0 (.agg [(.emp),(.own 1 bt 0 nets.length),eI (ship - B6 t ship z.ship),eI (B6 t ship z.ship)]))⟩) b12=_ by rw [A6 hb12n];exact at12b)
      obtain ⟨s0,hcT,hG9⟩:=hK10
      obtain ⟨c1,k1,k2⟩:=ROut.shift B2 hG9
      obtain ⟨c2,k3,k4⟩:=ROut.shift B2 (show ROut D8 2 1 (fun k=>eI (gI TX k)) nets.length _ ((.own 1 bt 0 nets.length)) c1 from ⟨s0,hcT,k2⟩)
      exact ⟨(.emp),(.own 1 bt 0 nets.length),c1,c2,(by first | rfl | (rw [hin];rfl)),k1.trans (F6 (.inl ⟨hin,rfl⟩)),(by rw [if_neg (by simp),eTX];exact k3),((hs1.upd hb18').over hb12).trans k4⟩
     ·conv=>whnf
      refine mkO rfl rfl rfl (by show 8 * nets.length≤_;omega) (by omega) (by rfl) (fun bz hbz=>?_)
      have hz18:b18≠bz:=fun e=>by subst e;cases (at18e.symm.trans hbz)
      have hz12:b12≠bz:=fun e=>by subst e;cases (at12e.symm.trans hbz)
      have hzst:st bz=none:=((hs1.upd hb18').trans hS9).none hbz
      conv=>whnf
      refine N1 ((A6 hz18).trans at18e) hf9 ?_
      refine stU (A0 ..) (A5 ..) ?_
      rw [B7];conv=>whnf
      refine F2 (A0 ..) (A5 ..) ?_
      refine N1 ((A6 hb12n).trans ((A6 hz12).trans at12e)) hf12 ?_
      refine F2 (A0 ..) (A5 ..) ?_
      have hG0:=ROut.dropped hBGn hK9
      have hG1:=(D9 B2 _ _ _ _ _).begin (y:=⟨2,1,nets.length,fun _=>H4 r2.zero⟩) hG0 hbz
      have hG2:=ROut.write (y':=⟨184,4,1,C9 (C9 (C9 f 0 (.agg [(.emp),(.own 1 bt 0 nets.length),eI (ship - B6 t ship z.ship),eI (B6 t ship z.ship)])) 0 (.agg [(.emp),.own 1 bz 0 nets.length,eI (ship - B6 t ship z.ship),eI (B6 t ship z.ship)])) 0 (.agg [(.emp),.own 1 bz 0 nets.length,eI (ship - B6 t ship z.ship),eI 0])⟩) B2 hG1 ((A6 hz18).trans (A0 ..))
      have hG3:=ROut.write (y':=⟨184,4,1,C9 f12 0 (.agg [(.emp),.own 1 bz 0 nets.length,eI (ship - B6 t ship z.ship),eI 0])⟩) B2 hG2 ((A6 hb12n).trans ((A6 hz12).trans ((A6 hb12n).trans at12b)))
      obtain ⟨c1,k1,k2⟩:=ROut.shift B2 hG3
      have atz:=k2 bz _ ((A6 hz12.symm).trans ((A6 hz18.symm).trans (A0 ..)))
      have hsz:D8 st c1:=(((((hs1.upd hb18').over hzst).over hb18st).over hb12).trans k2)
      refine ⟨(.emp),.own 1 bz 0 nets.length,c1,del c1 bz,(by first | rfl | (rw [hin];rfl)),k1.trans (F6 (.inl ⟨hin,rfl⟩)),?_,D8.del hsz hzst⟩
      rw [if_pos rfl,show A8 (List.replicate nets.length 0)=.arr 1 nets.length (fun k=>eI ((List.replicate nets.length (0:Int)).getD k default)) by unfold A8 B1;rw [List.length_replicate]]
      exact G5 atz rfl (Nat.le_refl _) (fun k hk=>by rw [U9];rfl)
   ·have hBGn:=D9 B2 2 1 (fun k=>eI (H5 nets TX 0 k)) nets.length ((.own 1 bg2 0 nets.length))
    have hf9:=hf
    have hK9:=hK
    cases hin:t.incl
    case false =>
     refine A4I [2,4,5,6,12,18,21] ?_;conv=>whnf
     intro I;conv=>whnf
     cases decide ((0:Int)<(nets.length:Int))
     case' true =>
      conv=>whnf
      rw [hin]
     all_goals
      conv=>whnf
      rw [hin];conv=>whnf
      have hS9:=ROut.sup hBGn hK9
      have at18e:=hS9 b18 _ (A0 ..)
      have at12e:=hS9 b12 _ (by rw [A6 hb12n];exact at12b)
      cases exempt
      ·conv=>whnf
       refine F2 at18e hf9 ?_
       refine N1 at12e hf12 ?_
       refine F2 (A0 ..) (A5 ..) ?_
       have hK10:=ROut.write (y':=⟨184,4,1,C9 f12 0 (.agg [(.own 1 bg2 0 nets.length),(.own 1 bt 0 nets.length),eI ship,eI (B6 t ship z.ship)])⟩) hBGn hK9 (show (upd S1 b18 ⟨184,4,1,f⟩) b12=_ by rw [A6 hb12n];exact at12b)
       obtain ⟨s0,hcT,hG9⟩:=hK10
       obtain ⟨c1,k1,k2⟩:=ROut.shift B2 hG9
       obtain ⟨c2,k3,k4⟩:=ROut.shift B2 (show ROut D8 2 1 (fun k=>eI (gI TX k)) nets.length _ ((.own 1 bt 0 nets.length)) c1 from ⟨s0,hcT,k2⟩)
       exact ⟨(.own 1 bg2 0 nets.length),(.own 1 bt 0 nets.length),c1,c2,(by first | rfl | (rw [hin];rfl)),k1.trans (F6 (.inr ⟨hin,rfl⟩)),(by rw [if_neg (by simp),eTX];exact k3),((hs1.upd hb18').over hb12).trans k4⟩
      ·conv=>whnf
       refine mkO rfl rfl rfl (by show 8 * nets.length≤_;omega) (by omega) (by rfl) (fun bz hbz=>?_)
       have hz18:b18≠bz:=fun e=>by subst e;cases (at18e.symm.trans hbz)
       have hz12:b12≠bz:=fun e=>by subst e;cases (at12e.symm.trans hbz)
       have hzst:st bz=none:=((hs1.upd hb18').trans hS9).none hbz
       conv=>whnf
       refine N1 ((A6 hz18).trans at18e) hf9 ?_
       refine stU (A0 ..) (A5 ..) ?_
       rw [B7];conv=>whnf
       refine F2 (A0 ..) (A5 ..) ?_
       refine N1 ((A6 hb12n).trans ((A6 hz12).trans at12e)) hf12 ?_
       refine F2 (A0 ..) (A5 ..) ?_
       have hG0:=ROut.dropped hBGn hK9
       have hG1:=(D9 B2 _ _ _ _ _).begin (y:=⟨2,1,nets.length,fun _=>H4 r2.zero⟩) hG0 hbz
       have hG2:=ROut.write (y':=⟨184,4,1,C9 (C9 f 0 (.agg [(.own 1 bg2 0 nets.length),.own 1 bz 0 nets.length,eI ship,eI (B6 t ship z.ship)])) 0 (.agg [(.own 1 bg2 0 nets.length),.own 1 bz 0 nets.length,eI ship,eI 0])⟩) B2 hG1 ((A6 hz18).trans (A0 ..))
       have hG3:=ROut.write (y':=⟨184,4,1,C9 f12 0 (.agg [(.own 1 bg2 0 nets.length),.own 1 bz 0 nets.length,eI ship,eI 0])⟩) B2 hG2 ((A6 hb12n).trans ((A6 hz12).trans ((A6 hb12n).trans at12b)))
       obtain ⟨c1,k1,k2⟩:=ROut.shift B2 hG3
       have atz:=k2 bz _ ((A6 hz12.symm).trans ((A6 hz18.symm).trans (A0 ..)))
       have hsz:D8 st c1:=(((((hs1.upd hb18').over hzst).over hb18st).over hb12).trans k2)
       refine ⟨(.own 1 bg2 0 nets.length),.own 1 bz 0 nets.length,c1,del c1 bz,(by first | rfl | (rw [hin];rfl)),k1.trans (F6 (.inr ⟨hin,rfl⟩)),?_,D8.del hsz hzst⟩
       rw [if_pos rfl,show A8 (List.replicate nets.length 0)=.arr 1 nets.length (fun k=>eI ((List.replicate nets.length (0:Int)).getD k default)) by unfold A8 B1;rw [List.length_replicate]]
       exact G5 atz rfl (Nat.le_refl _) (fun k hk=>by rw [U9];rfl)
    case true =>
     clear hf9 hK9 hBGn
     refine lp nets.length [2,4,5,6,12,18,21] (fun j vs u=>vs=[eB exempt,A8 nets,eI ship,.fptr (M8 t) 0,.optr 4 b12 0 0,.optr 4 b18 0 0,eI j]∧ROut (fun s t'=>ROut D8 2 1 (fun k=>eI (H5 nets TX j k)) nets.length s (.own 1 bg2 0 nets.length) t') 2 1 (fun k=>eI (gI TX k)) nets.length (upd S1 b18 ⟨184,4,1,f⟩) (.own 1 bt 0 nets.length) (u)) ?_ ?_
     ·conv=>whnf
      exact ⟨rfl,hK⟩
     clear hK
     rintro j vs u hj ⟨rfl,hK⟩
     have hBGn:=D9 B2 2 1 (fun k=>eI (H5 nets TX j k)) nets.length ((.own 1 bg2 0 nets.length))
     have hSj:=ROut.sup hBGn hK
     have at18j:=hSj b18 _ (A0 ..)
     have hfj:f 0=.agg [(.own 1 bg2 0 nets.length),(.own 1 bt 0 nets.length),eI ship,eI (B6 t ship z.ship)]:=by first | exact hf | exact A5 ..
     conv=>whnf
     cases h5:decide ((j:Int)<(nets.length:Int))
     case true =>
      have hj5:=E4 h5
      obtain ⟨s0,hcT,hG9⟩:=hK
      obtain ⟨gt,atT,hgt⟩:∃ gt,u bt=some ⟨2,1,nets.length,gt⟩∧∀ k,k<nets.length→gt k=eI (gI TX k):=by
       rcases hcT with ⟨h0,_⟩ | ⟨_,b,g,h3,h4,h5,h6⟩
       ·omega
       ·injection h4 with _ h4 _ _
        subst h4
        exact ⟨g,hBGn.sup hG9 bt _ (by rw [h5];exact A0 ..),h6⟩
      obtain ⟨gg,atG,hgg,hput⟩:=ROut.cell B2 hG9 (by omega)
      have hx1:=hnx j hj5
      have hx2:=htx j hj5
      have hgw:IntKind.i64.wrap (gI nets ((j:Nat):Int).toNat - gI TX j)=gI nets j - gI TX j:=A9 (show _≤gI nets j - gI TX j by omega) (show gI nets j - gI TX j≤_ by omega)
      conv=>whnf
      rw [hin];conv=>whnf
      refine .inl ⟨[14],[],List.range 15,by kernel_rfl,?_⟩;conv=>whnf
      refine F2 at18j hfj ?_
      refine E1 ?_
      refine F2 at18j hfj ?_
      refine E1 ?_
      refine ldV atT rfl (by show 0+((j:Nat):Int).toNat<nets.length;omega) (v:=eI (gI TX j)) (by show gt (0+((j:Nat):Int).toNat)=_;rw [show 0+((j:Nat):Int).toNat=j by omega];exact hgt j hj5) ?_;conv=>whnf
      rw [hgw]
      refine E1 ?_
      refine stV atG rfl (by show 0+((j:Nat):Int).toNat<nets.length;omega) (hgg (0+((j:Nat):Int).toNat) (by omega)) (by rfl) ?_;conv=>whnf
      refine G7 ?_
      exact nx hj5 ⟨by rw [B8 (by omega)],⟨s0,hcT,hput _ (fun k=>eI (H5 nets TX (j+1) k)) (fun k hk=>B1U hgg hk)⟩⟩
     obtain rfl:=C6 h5 hj
     have hwS:IntKind.i64.wrap (ship - B6 t ship z.ship)=ship - B6 t ship z.ship:=A9 (by omega) (by omega)
     conv=>whnf
     rw [hin];conv=>whnf
     refine F2 at18j hfj ?_
     rw [hwS]
     refine N1 at18j hfj ?_
     have hf9:(C9 f 0 (.agg [(.own 1 bg2 0 nets.length),(.own 1 bt 0 nets.length),eI (ship - B6 t ship z.ship),eI (B6 t ship z.ship)])) 0=.agg [(.own 1 bg2 0 nets.length),(.own 1 bt 0 nets.length),eI (ship - B6 t ship z.ship),eI (B6 t ship z.ship)]:=A5 ..
     have hK9:ROut (fun s t'=>ROut D8 2 1 (fun k=>eI (H5 nets TX nets.length k)) nets.length s (.own 1 bg2 0 nets.length) t') 2 1 (fun k=>eI (gI TX k)) nets.length (upd S1 b18 ⟨184,4,1,(C9 f 0 (.agg [(.own 1 bg2 0 nets.length),(.own 1 bt 0 nets.length),eI (ship - B6 t ship z.ship),eI (B6 t ship z.ship)]))⟩) (.own 1 bt 0 nets.length) (upd u b18 ⟨184,4,1,(C9 f 0 (.agg [(.own 1 bg2 0 nets.length),(.own 1 bt 0 nets.length),eI (ship - B6 t ship z.ship),eI (B6 t ship z.ship)]))⟩):=ROut.putB hBGn hK _
     have hS9:=ROut.sup hBGn hK9
     have at18e:=hS9 b18 _ (A0 ..)
     have at12e:=hS9 b12 _ (by rw [A6 hb12n];exact at12b)
     cases exempt
     ·conv=>whnf
      refine F2 at18e hf9 ?_
      refine N1 at12e hf12 ?_
      refine F2 (A0 ..) (A5 ..) ?_
      have hK10:=ROut.write (y':=⟨184,4,1,C9 f12 0 (.agg [(.own 1 bg2 0 nets.length),(.own 1 bt 0 nets.length),eI (ship - B6 t ship z.ship),eI (B6 t ship z.ship)])⟩) hBGn hK9 (show (upd S1 b18 ⟨184,4,1,(C9 f 0 (.agg [(.own 1 bg2 0 nets.length),(.own 1 bt 0 nets.length),eI (ship - B6 t ship z.ship),eI (B6 t ship z.ship)]))⟩) b12=_ by rw [A6 hb12n];exact at12b)
      obtain ⟨s0,hcT,hG9⟩:=hK10
      obtain ⟨c1,k1,k2⟩:=ROut.shift B2 hG9
      obtain ⟨c2,k3,k4⟩:=ROut.shift B2 (show ROut D8 2 1 (fun k=>eI (gI TX k)) nets.length _ ((.own 1 bt 0 nets.length)) c1 from ⟨s0,hcT,k2⟩)
      exact ⟨(.own 1 bg2 0 nets.length),(.own 1 bt 0 nets.length),c1,c2,(by first | rfl | (rw [hin];rfl)),k1.trans (F6 (.inl ⟨hin,rfl⟩)),(by rw [if_neg (by simp),eTX];exact k3),((hs1.upd hb18').over hb12).trans k4⟩
     ·conv=>whnf
      refine mkO rfl rfl rfl (by show 8 * nets.length≤_;omega) (by omega) (by rfl) (fun bz hbz=>?_)
      have hz18:b18≠bz:=fun e=>by subst e;cases (at18e.symm.trans hbz)
      have hz12:b12≠bz:=fun e=>by subst e;cases (at12e.symm.trans hbz)
      have hzst:st bz=none:=((hs1.upd hb18').trans hS9).none hbz
      conv=>whnf
      refine N1 ((A6 hz18).trans at18e) hf9 ?_
      refine stU (A0 ..) (A5 ..) ?_
      rw [B7];conv=>whnf
      refine F2 (A0 ..) (A5 ..) ?_
      refine N1 ((A6 hb12n).trans ((A6 hz12).trans at12e)) hf12 ?_
      refine F2 (A0 ..) (A5 ..) ?_
      have hG0:=ROut.dropped hBGn hK9
      have hG1:=(D9 B2 _ _ _ _ _).begin (y:=⟨2,1,nets.length,fun _=>H4 r2.zero⟩) hG0 hbz
      have hG2:=ROut.write (y':=⟨184,4,1,C9 (C9 (C9 f 0 (.agg [(.own 1 bg2 0 nets.length),(.own 1 bt 0 nets.length),eI (ship - B6 t ship z.ship),eI (B6 t ship z.ship)])) 0 (.agg [(.own 1 bg2 0 nets.length),.own 1 bz 0 nets.length,eI (ship - B6 t ship z.ship),eI (B6 t ship z.ship)])) 0 (.agg [(.own 1 bg2 0 nets.length),.own 1 bz 0 nets.length,eI (ship - B6 t ship z.ship),eI 0])⟩) B2 hG1 ((A6 hz18).trans (A0 ..))
      have hG3:=ROut.write (y':=⟨184,4,1,C9 f12 0 (.agg [(.own 1 bg2 0 nets.length),.own 1 bz 0 nets.length,eI (ship - B6 t ship z.ship),eI 0])⟩) B2 hG2 ((A6 hb12n).trans ((A6 hz12).trans ((A6 hb12n).trans at12b)))
      obtain ⟨c1,k1,k2⟩:=ROut.shift B2 hG3
      have atz:=k2 bz _ ((A6 hz12.symm).trans ((A6 hz18.symm).trans (A0 ..)))
      have hsz:D8 st c1:=(((((hs1.upd hb18').over hzst).over hb18st).over hb12).trans k2)
      refine ⟨(.own 1 bg2 0 nets.length),.own 1 bz 0 nets.length,c1,del c1 bz,(by first | rfl | (rw [hin];rfl)),k1.trans (F6 (.inl ⟨hin,rfl⟩)),?_,D8.del hsz hzst⟩
      rw [if_pos rfl,show A8 (List.replicate nets.length 0)=.arr 1 nets.length (fun k=>eI ((List.replicate nets.length (0:Int)).getD k default)) by unfold A8 B1;rw [List.length_replicate]]
      exact G5 atz rfl (Nat.le_refl _) (fun k hk=>by rw [U9];rfl)
  case true =>
   have hTX:I6 t (cats.map (E7 z)) nets=F7 t (cats.map (E7 z)) nets:=if_pos hbo
   have hby:=fun s=>B6E t _ _ h.nets hr1 hr2 s
   rw [←hTX] at hby
   obtain ⟨w2,hsh,hRi⟩:=ROut.shift (hBT _ _) hR
   have hR2:=ROut.dropped hBG hRi
   have e0:AV.arr 1 nets.length (fun k=>eI (gI (cats.map (E7 z)) k))=A8 (cats.map (E7 z)):=by unfold A8 B1;rw [hr1]
   rw [e0] at hsh
   have at18c:=hBG.sup hR2 b18 _ (A0 ..)
   generalize I6 t (cats.map (E7 z)) nets=TX at *
   have hK:ROut D8 2 1 (fun k=>eI (H5 nets TX 0 k)) nets.length (upd S1 b18 ⟨184,4,1,(C9 f 0 (.agg [gv,A8 TX,eI ship,eI (B6 t ship z.ship)]))⟩) (gv) (upd w2 b18 ⟨184,4,1,(C9 f 0 (.agg [gv,A8 TX,eI ship,eI (B6 t ship z.ship)]))⟩):=by rw [C1c];exact ROut.putB B2 hR2 _
   rcases (show gv=.emp∨∃ b,gv=.own 1 b 0 nets.length from ROut.head hR2) with rfl | ⟨bg2,rfl⟩
   all_goals
    conv=>whnf
    refine F4 (B0.cons (B0.keep [M8 t] _) (B0.cons hsh (B0.keep _ _))) (C5 (hby _) ?_);conv=>whnf
    refine N1 at18c hf ?_
   ·have hBGn:=D9 B2 2 1 (fun k=>eI (H5 nets TX 0 k)) nets.length ((.emp))
    have hf9:(C9 f 0 (.agg [.emp,A8 TX,eI ship,eI (B6 t ship z.ship)])) 0=.agg [(.emp),(A8 TX),eI ship,eI (B6 t ship z.ship)]:=A5 ..
    have hK9:=hK
    cases hin:t.incl
    case false =>
     refine A4I [2,4,5,6,12,18,21] ?_;conv=>whnf
     intro I;conv=>whnf
     cases decide ((0:Int)<(nets.length:Int))
     case' true =>
      conv=>whnf
      rw [hin]
     all_goals
      conv=>whnf
      rw [hin];conv=>whnf
      have hS9:=ROut.sup B2 hK9
      have at18e:=hS9 b18 _ (A0 ..)
      have at12e:=hS9 b12 _ (by rw [A6 hb12n];exact at12b)
      cases exempt
      ·conv=>whnf
       refine F2 at18e hf9 ?_
       refine N1 at12e hf12 ?_
       refine F2 (A0 ..) (A5 ..) ?_
       have hK10:=ROut.write (y':=⟨184,4,1,C9 f12 0 (.agg [(.emp),(A8 TX),eI ship,eI (B6 t ship z.ship)])⟩) B2 hK9 (show (upd S1 b18 ⟨184,4,1,(C9 f 0 (.agg [.emp,A8 TX,eI ship,eI (B6 t ship z.ship)]))⟩) b12=_ by rw [A6 hb12n];exact at12b)
       obtain ⟨c1,k1,k2⟩:=ROut.shift B2 hK10
       exact ⟨(.emp),(A8 TX),c1,c1,(by first | rfl | (rw [hin];rfl)),k1.trans (F6 (.inr ⟨hin,rfl⟩)),(by rw [if_neg (by simp)];exact B0.keep _ _),((hs1.upd hb18').over hb12).trans k2⟩
      ·conv=>whnf
       refine mkO rfl rfl rfl (by show 8 * nets.length≤_;omega) (by omega) (by rfl) (fun bz hbz=>?_)
       have hz18:b18≠bz:=fun e=>by subst e;cases (at18e.symm.trans hbz)
       have hz12:b12≠bz:=fun e=>by subst e;cases (at12e.symm.trans hbz)
       have hzst:st bz=none:=((hs1.upd hb18').trans hS9).none hbz
       conv=>whnf
       refine N1 ((A6 hz18).trans at18e) hf9 ?_
       refine stU (A0 ..) (A5 ..) ?_
       rw [B7];conv=>whnf
       refine F2 (A0 ..) (A5 ..) ?_
       refine N1 ((A6 hb12n).trans ((A6 hz12).trans at12e)) hf12 ?_
       refine F2 (A0 ..) (A5 ..) ?_
       have hG0:=hK9
       have hG1:=(D9 B2 _ _ _ _ _).begin (y:=⟨2,1,nets.length,fun _=>H4 r2.zero⟩) hG0 hbz
       have hG2:=ROut.write (y':=⟨184,4,1,C9 (C9 (C9 f 0 (.agg [.emp,A8 TX,eI ship,eI (B6 t ship z.ship)])) 0 (.agg [(.emp),.own 1 bz 0 nets.length,eI ship,eI (B6 t ship z.ship)])) 0 (.agg [(.emp),.own 1 bz 0 nets.length,eI ship,eI 0])⟩) B2 hG1 ((A6 hz18).trans (A0 ..))
       have hG3:=ROut.write (y':=⟨184,4,1,C9 f12 0 (.agg [(.emp),.own 1 bz 0 nets.length,eI ship,eI 0])⟩) B2 hG2 ((A6 hb12n).trans ((A6 hz12).trans ((A6 hb12n).trans at12b)))
       obtain ⟨c1,k1,k2⟩:=ROut.shift B2 hG3
       have atz:=k2 bz _ ((A6 hz12.symm).trans ((A6 hz18.symm).trans (A0 ..)))
       have hsz:D8 st c1:=(((((hs1.upd hb18').over hzst).over hb18st).over hb12).trans k2)
       refine ⟨(.emp),.own 1 bz 0 nets.length,c1,del c1 bz,(by first | rfl | (rw [hin];rfl)),k1.trans (F6 (.inr ⟨hin,rfl⟩)),?_,D8.del hsz hzst⟩
       rw [if_pos rfl,show A8 (List.replicate nets.length 0)=.arr 1 nets.length (fun k=>eI ((List.replicate nets.length (0:Int)).getD k default)) by unfold A8 B1;rw [List.length_replicate]]
       exact G5 atz rfl (Nat.le_refl _) (fun k hk=>by rw [U9];rfl)
    case true =>
     clear hf9 hK9 hBGn
     refine lp nets.length [2,4,5,6,12,18,21] (fun j vs u=>vs=[eB exempt,A8 nets,eI ship,.fptr (M8 t) 0,.optr 4 b12 0 0,.optr 4 b18 0 0,eI j]∧ROut D8 2 1 (fun k=>eI (H5 nets TX j k)) nets.length (upd S1 b18 ⟨184,4,1,(C9 f 0 (.agg [.emp,A8 TX,eI ship,eI (B6 t ship z.ship)]))⟩) (.emp) (u)) ?_ ?_
     ·conv=>whnf
      exact ⟨rfl,hK⟩
     clear hK
     rintro j vs u hj ⟨rfl,hK⟩
     have hBGn:=D9 B2 2 1 (fun k=>eI (H5 nets TX j k)) nets.length ((.emp))
     have hSj:=ROut.sup B2 hK
     have at18j:=hSj b18 _ (A0 ..)
     have hfj:(C9 f 0 (.agg [.emp,A8 TX,eI ship,eI (B6 t ship z.ship)])) 0=.agg [(.emp),(A8 TX),eI ship,eI (B6 t ship z.ship)]:=by first | exact hf | exact A5 ..
     conv=>whnf
     cases h5:decide ((j:Int)<(nets.length:Int))
     case true =>
      have hj5:=E4 h5
      have hG9:=hK
      obtain ⟨_,⟨h0,_⟩ | ⟨_,_,_,_,h0,_⟩,_⟩:=hG9
      ·omega
      ·cases h0
     obtain rfl:=C6 h5 hj
     have hwS:IntKind.i64.wrap (ship - B6 t ship z.ship)=ship - B6 t ship z.ship:=A9 (by omega) (by omega)
     conv=>whnf
     rw [hin];conv=>whnf
     refine F2 at18j hfj ?_
     rw [hwS]
     refine N1 at18j hfj ?_
     have hf9:(C9 (C9 f 0 (.agg [.emp,A8 TX,eI ship,eI (B6 t ship z.ship)])) 0 (.agg [(.emp),(A8 TX),eI (ship - B6 t ship z.ship),eI (B6 t ship z.ship)])) 0=.agg [(.emp),(A8 TX),eI (ship - B6 t ship z.ship),eI (B6 t ship z.ship)]:=A5 ..
     have hK9:ROut D8 2 1 (fun k=>eI (H5 nets TX nets.length k)) nets.length (upd S1 b18 ⟨184,4,1,(C9 (C9 f 0 (.agg [.emp,A8 TX,eI ship,eI (B6 t ship z.ship)])) 0 (.agg [(.emp),(A8 TX),eI (ship - B6 t ship z.ship),eI (B6 t ship z.ship)]))⟩) (.emp) (upd u b18 ⟨184,4,1,(C9 (C9 f 0 (.agg [.emp,A8 TX,eI ship,eI (B6 t ship z.ship)])) 0 (.agg [(.emp),(A8 TX),eI (ship - B6 t ship z.ship),eI (B6 t ship z.ship)]))⟩):=ROut.putB B2 hK _
     have hS9:=ROut.sup B2 hK9
     have at18e:=hS9 b18 _ (A0 ..)
     have at12e:=hS9 b12 _ (by rw [A6 hb12n];exact at12b)
     cases exempt
     ·conv=>whnf
      refine F2 at18e hf9 ?_
      refine N1 at12e hf12 ?_
      refine F2 (A0 ..) (A5 ..) ?_
      have hK10:=ROut.write (y':=⟨184,4,1,C9 f12 0 (.agg [(.emp),(A8 TX),eI (ship - B6 t ship z.ship),eI (B6 t ship z.ship)])⟩) B2 hK9 (show (upd S1 b18 ⟨184,4,1,(C9 (C9 f 0 (.agg [.emp,A8 TX,eI ship,eI (B6 t ship z.ship)])) 0 (.agg [(.emp),(A8 TX),eI (ship - B6 t ship z.ship),eI (B6 t ship z.ship)]))⟩) b12=_ by rw [A6 hb12n];exact at12b)
      obtain ⟨c1,k1,k2⟩:=ROut.shift B2 hK10
      exact ⟨(.emp),(A8 TX),c1,c1,(by first | rfl | (rw [hin];rfl)),k1.trans (F6 (.inl ⟨hin,rfl⟩)),(by rw [if_neg (by simp)];exact B0.keep _ _),((hs1.upd hb18').over hb12).trans k2⟩
     ·conv=>whnf
      refine mkO rfl rfl rfl (by show 8 * nets.length≤_;omega) (by omega) (by rfl) (fun bz hbz=>?_)
      have hz18:b18≠bz:=fun e=>by subst e;cases (at18e.symm.trans hbz)
      have hz12:b12≠bz:=fun e=>by subst e;cases (at12e.symm.trans hbz)
      have hzst:st bz=none:=((hs1.upd hb18').trans hS9).none hbz
      conv=>whnf
      refine N1 ((A6 hz18).trans at18e) hf9 ?_
      refine stU (A0 ..) (A5 ..) ?_
      rw [B7];conv=>whnf
      refine F2 (A0 ..) (A5 ..) ?_
      refine N1 ((A6 hb12n).trans ((A6 hz12).trans at12e)) hf12 ?_
      refine F2 (A0 ..) (A5 ..) ?_
      have hG0:=hK9
      have hG1:=(D9 B2 _ _ _ _ _).begin (y:=⟨2,1,nets.length,fun _=>H4 r2.zero⟩) hG0 hbz
      have hG2:=ROut.write (y':=⟨184,4,1,C9 (C9 (C9 (C9 f 0 (.agg [.emp,A8 TX,eI ship,eI (B6 t ship z.ship)])) 0 (.agg [(.emp),(A8 TX),eI (ship - B6 t ship z.ship),eI (B6 t ship z.ship)])) 0 (.agg [(.emp),.own 1 bz 0 nets.length,eI (ship - B6 t ship z.ship),eI (B6 t ship z.ship)])) 0 (.agg [(.emp),.own 1 bz 0 nets.length,eI (ship - B6 t ship z.ship),eI 0])⟩) B2 hG1 ((A6 hz18).trans (A0 ..))
      have hG3:=ROut.write (y':=⟨184,4,1,C9 f12 0 (.agg [(.emp),.own 1 bz 0 nets.length,eI (ship - B6 t ship z.ship),eI 0])⟩) B2 hG2 ((A6 hb12n).trans ((A6 hz12).trans ((A6 hb12n).trans at12b)))
      obtain ⟨c1,k1,k2⟩:=ROut.shift B2 hG3
      have atz:=k2 bz _ ((A6 hz12.symm).trans ((A6 hz18.symm).trans (A0 ..)))
      have hsz:D8 st c1:=(((((hs1.upd hb18').over hzst).over hb18st).over hb12).trans k2)
      refine ⟨(.emp),.own 1 bz 0 nets.length,c1,del c1 bz,(by first | rfl | (rw [hin];rfl)),k1.trans (F6 (.inl ⟨hin,rfl⟩)),?_,D8.del hsz hzst⟩
      rw [if_pos rfl,show A8 (List.replicate nets.length 0)=.arr 1 nets.length (fun k=>eI ((List.replicate nets.length (0:Int)).getD k default)) by unfold A8 B1;rw [List.length_replicate]]
      exact G5 atz rfl (Nat.le_refl _) (fun k hk=>by rw [U9];rfl)
   ·have hBGn:=D9 B2 2 1 (fun k=>eI (H5 nets TX 0 k)) nets.length ((.own 1 bg2 0 nets.length))
    have hf9:(C9 f 0 (.agg [.own 1 bg2 0 nets.length,A8 TX,eI ship,eI (B6 t ship z.ship)])) 0=.agg [(.own 1 bg2 0 nets.length),(A8 TX),eI ship,eI (B6 t ship z.ship)]:=A5 ..
    have hK9:=hK
    cases hin:t.incl
    case false =>
     refine A4I [2,4,5,6,12,18,21] ?_;conv=>whnf
     intro I;conv=>whnf
     cases decide ((0:Int)<(nets.length:Int))
     case' true =>
      conv=>whnf
      rw [hin]
     all_goals
      conv=>whnf
      rw [hin];conv=>whnf
      have hS9:=ROut.sup B2 hK9
      have at18e:=hS9 b18 _ (A0 ..)
      have at12e:=hS9 b12 _ (by rw [A6 hb12n];exact at12b)
      cases exempt
      ·conv=>whnf
       refine F2 at18e hf9 ?_
       refine N1 at12e hf12 ?_
       refine F2 (A0 ..) (A5 ..) ?_
       have hK10:=ROut.write (y':=⟨184,4,1,C9 f12 0 (.agg [(.own 1 bg2 0 nets.length),(A8 TX),eI ship,eI (B6 t ship z.ship)])⟩) B2 hK9 (show (upd S1 b18 ⟨184,4,1,(C9 f 0 (.agg [.own 1 bg2 0 nets.length,A8 TX,eI ship,eI (B6 t ship z.ship)]))⟩) b12=_ by rw [A6 hb12n];exact at12b)
       obtain ⟨c1,k1,k2⟩:=ROut.shift B2 hK10
       exact ⟨(.own 1 bg2 0 nets.length),(A8 TX),c1,c1,(by first | rfl | (rw [hin];rfl)),k1.trans (F6 (.inr ⟨hin,rfl⟩)),(by rw [if_neg (by simp)];exact B0.keep _ _),((hs1.upd hb18').over hb12).trans k2⟩
      ·conv=>whnf
       refine mkO rfl rfl rfl (by show 8 * nets.length≤_;omega) (by omega) (by rfl) (fun bz hbz=>?_)
       have hz18:b18≠bz:=fun e=>by subst e;cases (at18e.symm.trans hbz)
       have hz12:b12≠bz:=fun e=>by subst e;cases (at12e.symm.trans hbz)
       have hzst:st bz=none:=((hs1.upd hb18').trans hS9).none hbz
       conv=>whnf
       refine N1 ((A6 hz18).trans at18e) hf9 ?_
       refine stU (A0 ..) (A5 ..) ?_
       rw [B7];conv=>whnf
       refine F2 (A0 ..) (A5 ..) ?_
       refine N1 ((A6 hb12n).trans ((A6 hz12).trans at12e)) hf12 ?_
       refine F2 (A0 ..) (A5 ..) ?_
       have hG0:=hK9
       have hG1:=(D9 B2 _ _ _ _ _).begin (y:=⟨2,1,nets.length,fun _=>H4 r2.zero⟩) hG0 hbz
       have hG2:=ROut.write (y':=⟨184,4,1,C9 (C9 (C9 f 0 (.agg [.own 1 bg2 0 nets.length,A8 TX,eI ship,eI (B6 t ship z.ship)])) 0 (.agg [(.own 1 bg2 0 nets.length),.own 1 bz 0 nets.length,eI ship,eI (B6 t ship z.ship)])) 0 (.agg [(.own 1 bg2 0 nets.length),.own 1 bz 0 nets.length,eI ship,eI 0])⟩) B2 hG1 ((A6 hz18).trans (A0 ..))
       have hG3:=ROut.write (y':=⟨184,4,1,C9 f12 0 (.agg [(.own 1 bg2 0 nets.length),.own 1 bz 0 nets.length,eI ship,eI 0])⟩) B2 hG2 ((A6 hb12n).trans ((A6 hz12).trans ((A6 hb12n).trans at12b)))
       obtain ⟨c1,k1,k2⟩:=ROut.shift B2 hG3
       have atz:=k2 bz _ ((A6 hz12.symm).trans ((A6 hz18.symm).trans (A0 ..)))
       have hsz:D8 st c1:=(((((hs1.upd hb18').over hzst).over hb18st).over hb12).trans k2)
       refine ⟨(.own 1 bg2 0 nets.length),.own 1 bz 0 nets.length,c1,del c1 bz,(by first | rfl | (rw [hin];rfl)),k1.trans (F6 (.inr ⟨hin,rfl⟩)),?_,D8.del hsz hzst⟩
       rw [if_pos rfl,show A8 (List.replicate nets.length 0)=.arr 1 nets.length (fun k=>eI ((List.replicate nets.length (0:Int)).getD k default)) by unfold A8 B1;rw [List.length_replicate]]
       exact G5 atz rfl (Nat.le_refl _) (fun k hk=>by rw [U9];rfl)
    case true =>
     clear hf9 hK9 hBGn
     refine lp nets.length [2,4,5,6,12,18,21] (fun j vs u=>vs=[eB exempt,A8 nets,eI ship,.fptr (M8 t) 0,.optr 4 b12 0 0,.optr 4 b18 0 0,eI j]∧ROut D8 2 1 (fun k=>eI (H5 nets TX j k)) nets.length (upd S1 b18 ⟨184,4,1,(C9 f 0 (.agg [.own 1 bg2 0 nets.length,A8 TX,eI ship,eI (B6 t ship z.ship)]))⟩) (.own 1 bg2 0 nets.length) (u)) ?_ ?_
     ·conv=>whnf
      exact ⟨rfl,hK⟩
     clear hK
     rintro j vs u hj ⟨rfl,hK⟩
     have hBGn:=D9 B2 2 1 (fun k=>eI (H5 nets TX j k)) nets.length ((.own 1 bg2 0 nets.length))
     have hSj:=ROut.sup B2 hK
     have at18j:=hSj b18 _ (A0 ..)
     have hfj:(C9 f 0 (.agg [.own 1 bg2 0 nets.length,A8 TX,eI ship,eI (B6 t ship z.ship)])) 0=.agg [(.own 1 bg2 0 nets.length),(A8 TX),eI ship,eI (B6 t ship z.ship)]:=by first | exact hf | exact A5 ..
     conv=>whnf
     cases h5:decide ((j:Int)<(nets.length:Int))
     case true =>
      have hj5:=E4 h5
      have hG9:=hK
      obtain ⟨gg,atG,hgg,hput⟩:=ROut.cell B2 hG9 (by omega)
      have hx1:=hnx j hj5
      have hx2:=htx j hj5
      have hgw:IntKind.i64.wrap (gI nets ((j:Nat):Int).toNat - gI TX ((j:Nat):Int).toNat)=gI nets j - gI TX j:=A9 (show _≤gI nets j - gI TX j by omega) (show gI nets j - gI TX j≤_ by omega)
      conv=>whnf
      rw [hin];conv=>whnf
      refine .inl ⟨[14],[],List.range 15,by kernel_rfl,?_⟩;conv=>whnf
      refine F2 at18j hfj ?_
      refine E1 ?_
      refine F2 at18j hfj ?_
      refine E1 ?_
      rw [hgw]
      refine E1 ?_
      refine stV atG rfl (by show 0+((j:Nat):Int).toNat<nets.length;omega) (hgg (0+((j:Nat):Int).toNat) (by omega)) (by rfl) ?_;conv=>whnf
      refine G7 ?_
      exact nx hj5 ⟨by rw [B8 (by omega)],hput _ (fun k=>eI (H5 nets TX (j+1) k)) (fun k hk=>B1U hgg hk)⟩
     obtain rfl:=C6 h5 hj
     have hwS:IntKind.i64.wrap (ship - B6 t ship z.ship)=ship - B6 t ship z.ship:=A9 (by omega) (by omega)
     conv=>whnf
     rw [hin];conv=>whnf
     refine F2 at18j hfj ?_
     rw [hwS]
     refine N1 at18j hfj ?_
     have hf9:(C9 (C9 f 0 (.agg [.own 1 bg2 0 nets.length,A8 TX,eI ship,eI (B6 t ship z.ship)])) 0 (.agg [(.own 1 bg2 0 nets.length),(A8 TX),eI (ship - B6 t ship z.ship),eI (B6 t ship z.ship)])) 0=.agg [(.own 1 bg2 0 nets.length),(A8 TX),eI (ship - B6 t ship z.ship),eI (B6 t ship z.ship)]:=A5 ..
     have hK9:ROut D8 2 1 (fun k=>eI (H5 nets TX nets.length k)) nets.length (upd S1 b18 ⟨184,4,1,(C9 (C9 f 0 (.agg [.own 1 bg2 0 nets.length,A8 TX,eI ship,eI (B6 t ship z.ship)])) 0 (.agg [(.own 1 bg2 0 nets.length),(A8 TX),eI (ship - B6 t ship z.ship),eI (B6 t ship z.ship)]))⟩) (.own 1 bg2 0 nets.length) (upd u b18 ⟨184,4,1,(C9 (C9 f 0 (.agg [.own 1 bg2 0 nets.length,A8 TX,eI ship,eI (B6 t ship z.ship)])) 0 (.agg [(.own 1 bg2 0 nets.length),(A8 TX),eI (ship - B6 t ship z.ship),eI (B6 t ship z.ship)]))⟩):=ROut.putB B2 hK _
     have hS9:=ROut.sup B2 hK9
     have at18e:=hS9 b18 _ (A0 ..)
     have at12e:=hS9 b12 _ (by rw [A6 hb12n];exact at12b)
     cases exempt
     ·conv=>whnf
      refine F2 at18e hf9 ?_
      refine N1 at12e hf12 ?_
      refine F2 (A0 ..) (A5 ..) ?_
      have hK10:=ROut.write (y':=⟨184,4,1,C9 f12 0 (.agg [(.own 1 bg2 0 nets.length),(A8 TX),eI (ship - B6 t ship z.ship),eI (B6 t ship z.ship)])⟩) B2 hK9 (show (upd S1 b18 ⟨184,4,1,(C9 (C9 f 0 (.agg [.own 1 bg2 0 nets.length,A8 TX,eI ship,eI (B6 t ship z.ship)])) 0 (.agg [(.own 1 bg2 0 nets.length),(A8 TX),eI (ship - B6 t ship z.ship),eI (B6 t ship z.ship)]))⟩) b12=_ by rw [A6 hb12n];exact at12b)
      obtain ⟨c1,k1,k2⟩:=ROut.shift B2 hK10
      exact ⟨(.own 1 bg2 0 nets.length),(A8 TX),c1,c1,(by first | rfl | (rw [hin];rfl)),k1.trans (F6 (.inl ⟨hin,rfl⟩)),(by rw [if_neg (by simp)];exact B0.keep _ _),((hs1.upd hb18').over hb12).trans k2⟩
     ·conv=>whnf
      refine mkO rfl rfl rfl (by show 8 * nets.length≤_;omega) (by omega) (by rfl) (fun bz hbz=>?_)
      have hz18:b18≠bz:=fun e=>by subst e;cases (at18e.symm.trans hbz)
      have hz12:b12≠bz:=fun e=>by subst e;cases (at12e.symm.trans hbz)
      have hzst:st bz=none:=((hs1.upd hb18').trans hS9).none hbz
      conv=>whnf
      refine N1 ((A6 hz18).trans at18e) hf9 ?_
      refine stU (A0 ..) (A5 ..) ?_
      rw [B7];conv=>whnf
      refine F2 (A0 ..) (A5 ..) ?_
      refine N1 ((A6 hb12n).trans ((A6 hz12).trans at12e)) hf12 ?_
      refine F2 (A0 ..) (A5 ..) ?_
      have hG0:=hK9
      have hG1:=(D9 B2 _ _ _ _ _).begin (y:=⟨2,1,nets.length,fun _=>H4 r2.zero⟩) hG0 hbz
      have hG2:=ROut.write (y':=⟨184,4,1,C9 (C9 (C9 (C9 f 0 (.agg [.own 1 bg2 0 nets.length,A8 TX,eI ship,eI (B6 t ship z.ship)])) 0 (.agg [(.own 1 bg2 0 nets.length),(A8 TX),eI (ship - B6 t ship z.ship),eI (B6 t ship z.ship)])) 0 (.agg [(.own 1 bg2 0 nets.length),.own 1 bz 0 nets.length,eI (ship - B6 t ship z.ship),eI (B6 t ship z.ship)])) 0 (.agg [(.own 1 bg2 0 nets.length),.own 1 bz 0 nets.length,eI (ship - B6 t ship z.ship),eI 0])⟩) B2 hG1 ((A6 hz18).trans (A0 ..))
      have hG3:=ROut.write (y':=⟨184,4,1,C9 f12 0 (.agg [(.own 1 bg2 0 nets.length),.own 1 bz 0 nets.length,eI (ship - B6 t ship z.ship),eI 0])⟩) B2 hG2 ((A6 hb12n).trans ((A6 hz12).trans ((A6 hb12n).trans at12b)))
      obtain ⟨c1,k1,k2⟩:=ROut.shift B2 hG3
      have atz:=k2 bz _ ((A6 hz12.symm).trans ((A6 hz18.symm).trans (A0 ..)))
      have hsz:D8 st c1:=(((((hs1.upd hb18').over hzst).over hb18st).over hb12).trans k2)
      refine ⟨(.own 1 bg2 0 nets.length),.own 1 bz 0 nets.length,c1,del c1 bz,(by first | rfl | (rw [hin];rfl)),k1.trans (F6 (.inl ⟨hin,rfl⟩)),?_,D8.del hsz hzst⟩
      rw [if_pos rfl,show A8 (List.replicate nets.length 0)=.arr 1 nets.length (fun k=>eI ((List.replicate nets.length (0:Int)).getD k default)) by unfold A8 B1;rw [List.length_replicate]]
      exact G5 atz rfl (Nat.le_refl _) (fun k hk=>by rw [U9];rfl)
structure Add where
 sku:D6
 qty:Int
 deriving Inhabited
def C3y (x:Add):AV:=.agg [eS x.sku,eI x.qty]
theorem B0D (l:List Int) (h:N2 l) (st:St):S P 117 [A8 l] st fun v st'=>v=eI (A7 l)∧st'=st:=by
 have hn:=h.len
 refine G0 [] Tryz.func117 ?_
 refine lp l.length [3,6,7,8] (fun i vs t=>vs=[eI (A7 (l.take i)),A8 l,eI l.length,eI i]∧t=st) ?_ ?_
 ·conv=>whnf
  exact ⟨rfl,rfl⟩
 ·rintro i vs t hi ⟨rfl,rfl⟩
  conv=>whnf
  cases h1:decide ((i:Int)<(l.length:Int))
  ·obtain rfl:=C6 h1 hi
   rw [List.take_length];conv=>whnf
   exact ⟨rfl,rfl⟩
  ·have hi':=E4 h1
   have hs:IntKind.i64.wrap (A7 (l.take i)+gI l (i:Int).toNat)=A7 (l.take (i+1)):=h.step hi'
   conv=>whnf
   refine E1 ?_
   rw [hs]
   refine G7 ?_
   exact nx hi' ⟨by rw [B8 (by omega)],rfl⟩
theorem C5v (q:A4Q) (h1:N2 q.goods) (h2:N2 q.taxes) (st:St):S P 112 [A0B q] st fun v st'=>v=C6N (C4R q)∧st'=st:=by
 have c1:=fun s=>B0D q.goods h1 s
 have c2:=fun s=>B0D q.taxes h2 s
 have hB:C4R q=⟨A7 q.goods,A7 q.taxes,q.ship,q.shipTax,0⟩:=rfl
 rw [hB]
 generalize A7 q.goods=G at c1 ⊢
 generalize A7 q.taxes=T' at c2 ⊢
 refine A2a ?_
 refine G0 [1] Tryz.func112 ?_
 intro b2 hb;conv=>whnf
 refine ⟨[11],[],List.range 12,by kernel_rfl,?_⟩;conv=>whnf
 refine X9 (c1 _) ?_
 refine X9 (c2 _) ?_
 refine N1 (A0 ..) rfl ?_
 refine F2 (A0 ..) (A5 ..) ?_
 exact ⟨rfl,((D8.refl st).upd hb).over hb⟩
theorem B1M (r:H8) (l:List G1):(J7 r l).length=l.length:=by unfold J7 C3;rw [List.length_map,List.length_map]
theorem C3E {a b c d:Int} (ha : -10000000000000≤a∧a≤10000000000000) (hb : -10000000000000≤b∧b≤10000000000000) (hc : -10000000000000≤c∧c≤10000000000000) (hd : -10000000000000≤d∧d≤10000000000000):N2 [a,b,c,d]:=by
 refine ⟨by show 4≤1000;decide,fun x hx=>?_⟩
 simp only [List.mem_cons,List.not_mem_nil,or_false] at hx
 rcases hx with rfl | rfl | rfl | rfl<;>assumption
theorem B6M {a b c d:Int} {F:Nat→AV} {st:St} (h0:F 0=eI a) (h1:F 1=eI b) (h2:F 2=eI c) (h3:F 3=eI d):B0 [.arr 1 4 F] st [A8 [a,b,c,d]] st :=
 B0.arr (g:=fun i=>eI ([a,b,c,d].getD i default)) fun i hi=>by
  match i,hi with
  | 0,_=>exact h0
  | 1,_=>exact h1
  | 2,_=>exact h2
  | 3,_=>exact h3
set_option maxHeartbeats 8000000 in
theorem quote_S {r:H8} {codes:List D6} {l:List G1} {Pr:A1r} {z:L3} {zone:D6} (exempt:Bool)
  (hP:∀ st,S P 18 [G2 r,D2 codes,B1 3 G4 l] st fun v s=>v=.tuple [P1 Pr,eI 0]∧s=st)
  (hI:∀ st,S P 75 [B1 4 F1 r.items,B1 3 G4 l] st fun v s=>v=B1 4 F1 (C3 r.items l)∧s=st)
  (hln:l.length≤1000) (hV:A0k r.tax z (J7 r l) Pr.nets Pr.ship) (hz:X7 r.tax.zones zone=some z)
  (hTax:∀ st,S P (C2K r.tax) [M8 r.tax,A8 ((J7 r l).map (E7 z)),A8 Pr.nets] st fun v st'=>v=A8 (I6 r.tax ((J7 r l).map (E7 z)) Pr.nets)∧st'=st)
  (hsm:A7 (L4 r.tax z exempt (J7 r l) Pr.nets Pr.ship).goods≤10000000000000∧-10000000000000≤A7 (L4 r.tax z exempt (J7 r l) Pr.nets Pr.ship).goods∧A7 (L4 r.tax z exempt (J7 r l) Pr.nets Pr.ship).taxes≤10000000000000) (st:St) :
  S P 45 [G2 r,eS zone,eB exempt,D2 codes,B1 3 G4 l] st fun v st'=>v=.tuple [A0B (A5r r z exempt l Pr),eI 0]∧st'=st:=by
 have hQ:=B2V hV exempt Pr.deals
 have hlv:=fun s=>C5K hV hz exempt hTax s
 have hq:A5r r z exempt l Pr=⟨(L4 r.tax z exempt (J7 r l) Pr.nets Pr.ship).goods,(L4 r.tax z exempt (J7 r l) Pr.nets Pr.ship).taxes,(L4 r.tax z exempt (J7 r l) Pr.nets Pr.ship).ship,(L4 r.tax z exempt (J7 r l) Pr.nets Pr.ship).shipTax,A7 (L4 r.tax z exempt (J7 r l) Pr.nets Pr.ship).goods+A7 (L4 r.tax z exempt (J7 r l) Pr.nets Pr.ship).taxes+(L4 r.tax z exempt (J7 r l) Pr.nets Pr.ship).ship+(L4 r.tax z exempt (J7 r l) Pr.nets Pr.ship).shipTax,Pr.deals⟩:=rfl
 rw [hq]
 have hpos:0≤A7 (L4 r.tax z exempt (J7 r l) Pr.nets Pr.ship).taxes:=C4 hQ.pos
 obtain ⟨q1,q2,q3,q4,q5,q6,q7,_⟩:=hQ
 have q1:N2 (L4 r.tax z exempt (J7 r l) Pr.nets Pr.ship).goods:=q1
 have q2:N2 (L4 r.tax z exempt (J7 r l) Pr.nets Pr.ship).taxes:=q2
 have q6:0≤(L4 r.tax z exempt (J7 r l) Pr.nets Pr.ship).ship∧(L4 r.tax z exempt (J7 r l) Pr.nets Pr.ship).ship≤10000000000000:=q6
 have q7:0≤(L4 r.tax z exempt (J7 r l) Pr.nets Pr.ship).shipTax∧(L4 r.tax z exempt (J7 r l) Pr.nets Pr.ship).shipTax≤10000000000000:=q7
 clear hq q3 q4 q5 hTax hV hz
 generalize L4 r.tax z exempt (J7 r l) Pr.nets Pr.ship=V at *
 have s1:=fun s=>B0D V.goods q1 s
 have s2:=fun s=>B0D V.taxes q2 s
 have s3:=fun s=>B0D [A7 V.goods,A7 V.taxes,V.ship,V.shipTax] (C3E (by omega) (by omega) (by omega) (by omega)) s
 have e3:A7 [A7 V.goods,A7 V.taxes,V.ship,V.shipTax]=A7 V.goods+A7 V.taxes+V.ship+V.shipTax:=by
  show 0+A7 V.goods+A7 V.taxes+V.ship+V.shipTax=_;omega
 rw [e3] at s3
 have hil:(C3 r.items l).length=l.length:=List.length_map ..
 have hcb:J7 r l=(C3 r.items l).map Ab.Item.cat:=rfl
 rw [hcb] at hlv
 generalize C3 r.items l=IT at hI hil hlv
 clear hcb
 refine A2a ?_
 refine G0 [5,16] Tryz.func45 ?_
 intro b10 hb10;conv=>whnf
 refine I2 (hP _) ?_
 intro b12 hb12
 have h02:b10≠b12:=fun e=>by subst e;rw [A0] at hb12;cases hb12
 conv=>whnf
 refine stU (A0 ..) rfl ?_
 rw [B7];conv=>whnf
 refine I2 (hI _) ?_
 generalize hst:(upd (upd st b10 _) b12 _:St)=S0
 obtain ⟨f12,at12,hf12⟩:∃ f12:Nat→AV,S0 b12=some ⟨44,4,1,f12⟩∧f12 0=P1 Pr:=by rw [←hst];exact ⟨_,A0 ..,by rw [A5];rfl⟩
 obtain ⟨f10,at10⟩:∃ f10:Nat→AV,S0 b10=some ⟨90,6,1,f10⟩∧f10 0=H4 r90.zero:=by rw [←hst,A6 h02];exact ⟨_,A0 ..,rfl⟩
 obtain ⟨at10,hf10⟩:=at10
 have hs0:D8 st S0:=by rw [←hst];exact ((D8.refl st).upd hb10).upd hb12
 have n12:st b12=none:=by rw [A6 h02.symm] at hb12;exact hb12
 clear hst
 refine lp IT.length [1,2,5,10,12,14,35,36,37] (fun i vs u=>∃ sv,vs=[eS zone,eB exempt,.fptr (G2 r) 0,.optr 6 b10 0 0,.optr 4 b12 0 0,sv,B1 4 F1 IT,eI IT.length,eI i]∧F3 9 1 eS ((IT.take i).map Ab.Item.cat) S0 sv u) ?_ ?_
 ·conv=>whnf
  exact ⟨.emp,rfl,F3.start _ _ _ _⟩
 rintro i vs u hi ⟨sv,rfl,hc⟩
 have hcs:=hc.sup
 conv=>whnf
 cases h1:decide ((i:Int)<(IT.length:Int))
 case true =>
  have hi':=E4 h1
  have hln2:((IT.take i).map Ab.Item.cat).length=i:=by rw [List.length_map,List.length_take];omega
  have htk:(IT.take (i+1)).map Ab.Item.cat=(IT.take i).map Ab.Item.cat++[(IT.getD (i:Int).toNat default).cat]:=by rw [J0 hi',List.map_append];rfl
  conv=>whnf
  refine E1 ?_
  refine F3.app (y:=(IT.getD (i:Int).toNat default).cat) (q:=r9) rfl rfl rfl rfl rfl (by rfl) (by rw [hln2];show (i+1) * 16≤140737488355328;omega) hc (fun sv' t' hc'=>?_);conv=>whnf
  refine G7 ?_
  exact nx hi' ⟨sv',by rw [B8 (by omega)],by rw [htk];exact hc'⟩
 obtain rfl:=C6 h1 hi
 rw [List.take_length] at hc;conv=>whnf
 refine F2 (hcs b12 _ at12) hf12 ?_
 refine F2 (hcs b12 _ at12) hf12 ?_
 have hTS:B0 [M8 r.tax,eS zone,eB exempt,sv,A8 Pr.nets,eI Pr.ship] u [M8 r.tax,eS zone,eB exempt,D2 (IT.map Ab.Item.cat),A8 Pr.nets,eI Pr.ship] S0 :=
  B0.cons (B0.keep [M8 r.tax] _) (B0.cons (B0.keep [eS zone] _) (B0.cons (B0.keep [eB exempt] _) (B0.cons hc.shift (B0.keep _ _))))
 refine F4 hTS (C5 (hlv _) ?_);conv=>whnf
 refine ⟨[15],[],List.range 17,by kernel_rfl,?_⟩;conv=>whnf
 refine X9 (s1 _) ?_
 refine X9 (s2 _) ?_
 refine ⟨_,⟨rfl,rfl⟩,?_⟩;conv=>whnf
 refine ⟨_,F4 (B6M rfl rfl rfl rfl) (N4 (s3 _)),?_⟩;conv=>whnf
 refine F2 at12 hf12 ?_
 refine N1 at10 hf10 ?_
 refine F2 (A0 ..) (A5 ..) ?_
 exact ⟨rfl,hs0.over hb10⟩
def A4T (x:Add):Bool:=decide (x.qty<1)||decide (x.qty>100000)
def A0Y (items:List Ab.Item) (x:Add):G1:=⟨x.sku,x.qty,(items.getD (T9 items x.sku).toNat default).price⟩
def A5g (items:List Ab.Item) (adds:List Add):List G1×Int :=
 if adds.length<1∨adds.length>1000 then ([],2) else if (adds.any A4T)=true then ([],2) else if (adds.any fun x=>decide (T9 items x.sku<0))=true then ([],7) else (adds.map (A0Y items),0)
theorem C1J (items:List Ab.Item) (adds:List Add) (hi:items.length≤9223372036854775807) (st:St) :
  S P 41 [B1 4 F1 items,B1 2 C3y adds] st fun v st'=>v=.tuple [B1 3 G4 (A5g items adds).1,eI (A5g items adds).2]∧st'=st:=by
 have hB:A5g items adds=if adds.length<1∨adds.length>1000 then ([],2) else if (adds.any A4T)=true then ([],2) else if (adds.any fun x=>decide (T9 items x.sku<0))=true then ([],7) else (adds.map (A0Y items),0):=rfl
 refine S.post (post:=fun v s'=>(∃ e,A5g items adds=([],e)∧v=.tuple [.emp,eI e]∧D8 st s')∨(∃ sv,A5g items adds=(adds.map (A0Y items),0)∧v=.tuple [sv,eI 0]∧F3 51 3 G4 (adds.map (A0Y items)) st sv s')) ?_ (fun v s' hv=>⟨_,st,⟨rfl,rfl⟩,by
  rcases hv with ⟨e,h1,rfl,h2⟩ | ⟨sv,h1,rfl,h2⟩
  ·rw [h1];exact (B0.tuple (B0.cons (K4 3 _) (B0.keep _ _)) rfl).trans (h2.shift _)
  ·rw [h1];exact B0.tuple (B0.cons h2.shift (B0.keep _ _)) rfl⟩)
 refine G0 [7,10] Tryz.func41 ?_
 refine B9 (fun h1=>?_) (fun h1=>?_)<;>rw [h1]<;>simp only [decide_eq_true_eq,decide_eq_false_iff_not] at h1
 ·rw [if_pos (.inl (by omega))] at hB;conv=>whnf
  exact .inl ⟨2,hB,rfl,D8.refl _⟩
 conv=>whnf
 refine B9 (fun h2=>?_) (fun h2=>?_)<;>rw [h2]<;>simp only [decide_eq_true_eq,decide_eq_false_iff_not] at h2
 ·rw [if_pos (.inr (by omega))] at hB;conv=>whnf
  exact .inl ⟨2,hB,rfl,D8.refl _⟩
 rw [if_neg (by omega)] at hB;conv=>whnf
 refine lp adds.length [0,1,20,21,22] (fun i vs t=>(∀ j,j<i→A4T (adds.getD j default)=false)∧vs=[B1 4 F1 items,B1 2 C3y adds,B1 2 C3y adds,eI adds.length,eI i]∧t=st) ?_ ?_
 ·conv=>whnf
  exact ⟨fun j hj=>absurd hj (by omega),rfl,rfl⟩
 rintro i vs t hi' ⟨hno,rfl,rfl⟩
 conv=>whnf
 cases h3:decide ((i:Int)<(adds.length:Int))
 case true =>
  have hi2:=E4 h3
  have hbad:A4T (adds.getD (i:Int).toNat default)=true→A5g items adds=([],2):=fun h=>by
   rw [if_pos (List.any_eq_true.2 ⟨_,B3 hi2,h⟩)] at hB;exact hB
  conv=>whnf
  refine E1 ?_
  refine B9 (fun h4=>?_) (fun h4=>?_)<;>rw [h4]
  ·conv=>whnf
   exact .inl ⟨2,hbad (by unfold A4T;rw [h4];rfl),rfl,D8.refl _⟩
  conv=>whnf
  refine B9 (fun h5=>?_) (fun h5=>?_)<;>rw [h5]
  ·conv=>whnf
   exact .inl ⟨2,hbad (by unfold A4T;rw [h5,Bool.or_true]),rfl,D8.refl _⟩
  conv=>whnf
  refine G7 ?_
  exact nx hi2 ⟨K0 hno (show A4T (adds.getD (i:Int).toNat default)=false by unfold A4T;rw [h4,h5];rfl),by rw [B8 (by omega)],rfl⟩
 obtain rfl:=C6 h3 hi'
 rw [if_neg (by
  rw [Bool.not_eq_true,List.any_eq_false]
  intro x hx
  obtain ⟨j,hj,rfl⟩:=E3 hx
  rw [hno j hj];simp)] at hB
 conv=>whnf
 refine lp adds.length [0,8,35,36,37] (fun i vs s=>∃ sv,(∀ j,j<i→(fun x:Add=>decide (T9 items x.sku<0)) (adds.getD j default)=false)∧vs=[B1 4 F1 items,sv,B1 2 C3y adds,eI adds.length,eI i]∧F3 51 3 G4 ((adds.take i).map (A0Y items)) t sv s) ?_ ?_
 ·conv=>whnf
  exact ⟨.emp,fun j hj=>absurd hj (by omega),rfl,F3.start _ _ _ _⟩
 rintro i vs s hi2 ⟨sv,hno2,rfl,hc⟩
 conv=>whnf
 cases h4:decide ((i:Int)<(adds.length:Int))
 case false =>
  obtain rfl:=C6 h4 hi2
  rw [List.take_length] at hc
  rw [if_neg (by
   rw [Bool.not_eq_true,List.any_eq_false]
   intro x hx
   obtain ⟨j,hj,rfl⟩:=E3 hx
   have:=hno2 j hj
   simp only at this
   rw [this];simp)] at hB
  conv=>whnf
  exact .inr ⟨sv,hB,rfl,hc⟩
 have hi3:=E4 h4
 have hF:=fun u=>B5Z items (adds.getD (i:Int).toNat default).sku hi u
 have hln:((adds.take i).map (A0Y items)).length=i:=by rw [List.length_map,List.length_take];omega
 have htk:(adds.take (i+1)).map (A0Y items)=(adds.take i).map (A0Y items)++[A0Y items (adds.getD (i:Int).toNat default)]:=by rw [J0 hi3,List.map_append];rfl
 have hrng:=A9V (fun x:Ab.Item=>x.sku.toList==(adds.getD (i:Int).toNat default).sku.toList) items
 have hAL:A0Y items (adds.getD (i:Int).toNat default)=⟨(adds.getD (i:Int).toNat default).sku,(adds.getD (i:Int).toNat default).qty,(items.getD (T9 items (adds.getD (i:Int).toNat default).sku).toNat default).price⟩:=rfl
 have hno3:=fun h=>K0 (q:=fun j=>(fun x:Add=>decide (T9 items x.sku<0)) (adds.getD j default)=false) hno2 h
 have hpos:(fun x:Add=>decide (T9 items x.sku<0)) (adds.getD (i:Int).toNat default)=true→A5g items adds=([],7):=fun h=>by
  rw [if_pos (List.any_eq_true.2 ⟨_,B3 hi3,h⟩)] at hB;exact hB
 have hf0:T9 items (adds.getD (i:Int).toNat default).sku=T9 items (adds.getD i default).sku:=rfl
 simp only at hpos hno3
 rw [←hf0] at hno3
 generalize hfv:T9 items (adds.getD (i:Int).toNat default).sku=FV at hF hpos hno3 hAL
 have hrng2 : -1≤FV∧FV<items.length:=by rw [←hfv];exact hrng
 conv=>whnf
 refine E1 ?_
 refine I2 (hF _) ?_
 refine B9 (fun h5=>?_) (fun h5=>?_)<;>rw [h5]
 ·conv=>whnf
  exact .inl ⟨7,hpos h5,rfl,hc.sup⟩
 have h5':=of_decide_eq_false h5
 conv=>whnf
 refine ⟨[11,12],[],List.range 14,by kernel_rfl,?_⟩;conv=>whnf
 refine E1 ?_
 refine F3.app (y:=A0Y items (adds.getD (i:Int).toNat default)) (q:=r51) rfl rfl rfl rfl rfl (by rw [hAL];rfl) (by rw [hln];show (i+1) * 32≤140737488355328;omega) hc (fun sv' t' hc'=>?_);conv=>whnf
 refine G7 ?_
 exact nx hi3 ⟨sv',hno3 h5,by rw [B8 (by omega)],by rw [htk];exact hc'⟩
def aqZ:L3:=⟨⟨#[122]⟩,[],1000,0⟩
def aqI:List Ab.Item:=[⟨⟨#[97]⟩,⟨#[120]⟩,50,false⟩]
def aqR:H8:=⟨aqI,[],⟨false,false,0,[aqZ]⟩,⟨0,0⟩,⟨0,0,1,0,[],[]⟩⟩
def aqL:List G1:=[⟨⟨#[97]⟩,2,50⟩]
def aqA:List Add:=[⟨⟨#[97]⟩,2⟩]
def aqQ:A4Q:=⟨[100],[10],0,0,110,[]⟩
theorem C0t:A5g aqI aqA=(aqL,0):=by kernel_rfl
theorem C0s:D4 aqR [] aqL=0:=by kernel_rfl
theorem C0u:T7 aqR aqL [] []=⟨[100],100,0,[]⟩:=by kernel_rfl
theorem C5u:Y0 aqR:=⟨Nat.zero_le _,fun p hp=>absurd hp List.not_mem_nil,by show 0<_;decide,by show 0<_;decide⟩
theorem B5c {codes:List D6} {o:List Int} (ho:A7U [] codes o):O4 [] o=[]:=List.perm_nil.1 ((B2i [] o).trans ho.1)
theorem B8m (st:St):S P 18 [G2 aqR,D2 [],B1 3 G4 aqL] st fun v st'=>v=.tuple [P1 ⟨[100],100,0,[]⟩,eI 0]∧st'=st :=
 (price_S B0X aqR [] aqL C5u (by decide) (by decide) (by decide) st).mono fun v s hv=>by
  obtain ⟨hv,rfl⟩:=hv
  refine ⟨?_,rfl⟩
  rcases hv with ⟨h,_⟩ | ⟨_,o1,o2,h1,h2,h3⟩
  ·exact absurd C0s h
  ·rw [show aqR.promos=[] from rfl] at h1 h2 h3
   rw [B5c h1,B5c h2,C0u] at h3
   exact h3
theorem B2D:A0k aqR.tax aqZ (J7 aqR aqL) [100] 0:=by
 refine ⟨by kernel_rfl,by kernel_rfl,by kernel_rfl,⟨by decide,fun x hx=>?_,by decide⟩,by decide⟩
 rw [List.mem_singleton.1 hx];decide
theorem B8n (st:St):S P 45 [G2 aqR,eS ⟨#[122]⟩,eB false,D2 [],B1 3 G4 aqL] st fun v st'=>v=.tuple [A0B aqQ,eI 0]∧st'=st:=by
 have hI:∀ st,S P 75 [B1 4 F1 aqR.items,B1 3 G4 aqL] st fun v s=>v=B1 4 F1 (C3 aqR.items aqL)∧s=st:=fun st=>A5S _ _ (by decide) (by decide) (fun x hx=>by rw [List.mem_singleton.1 hx];kernel_rfl) st
 have h:=quote_S (r:=aqR) (codes:=[]) (l:=aqL) (Pr:=⟨[100],100,0,[]⟩) (z:=aqZ) (zone:=⟨#[122]⟩) false B8m hI (by decide) B2D (by kernel_rfl) (fun st=>B4b aqR.tax _ _ (by decide) (by kernel_rfl) (fun x hx=>(A3I B2D).2 x hx) st) (A8n B2D false) st
 rw [show A5r aqR aqZ false aqL ⟨[100],100,0,[]⟩=aqQ by kernel_rfl] at h
 exact h
theorem A8a (st:St):S P 37 [] st fun v st'=>v=.bool true∧st'=st:=by
 have hLn:=fun st=>C1J aqI aqA (by decide) st
 rw [C0t] at hLn
 have hBk:=fun st=>C5v aqQ ⟨by decide,fun x hx=>by rw [List.mem_singleton.1 hx];decide⟩ ⟨by decide,fun x hx=>by rw [List.mem_singleton.1 hx];decide⟩ st
 refine A2a ?_
 refine G0 [1] Tryz.func37 ?_
 refine F4 ?_ (C5 (hLn st) ?_)
 ·refine B0.cons (Le.shift (Le.arr1 ?_ rfl) _) (Le.shift (Le.arr1 ?_ rfl) _)
  all_goals repeat' first | exact E0.nil | refine E0.cons ?_ ?_ | exact Le.refl _
 conv=>whnf
 refine F4 ?_ (C5 (B8n st) ?_)
 ·refine B0.cons (Le.shift (Le.agg ?_) _) (B0.cons (B0.keep [eS ⟨#[122]⟩] _) (B0.cons (B0.keep [eB false] _) (B0.cons (Le.shift (Le.emp _ _) _) (B0.keep _ _))))
  repeat' first | exact E0.nil | refine E0.cons ?_ ?_ | exact Le.refl _ | exact Le.emp _ _ | refine Le.arr1 ?_ rfl
 conv=>whnf
 intro b hb;conv=>whnf
 refine stU (A0 ..) rfl ?_
 rw [B7];conv=>whnf
 refine F2 (A0 ..) (A5 ..) ?_
 refine F2 (A0 ..) (A5 ..) ?_
 refine I2 (hBk _) ?_
 exact ⟨rfl,(D8.refl st).upd hb⟩
theorem B7R (l:List Int) (h:N2 l) (st:St):S P 119 [A8 l] st fun v st'=>v=eI (A7 l)∧st'=st:=by
 have hn:=h.len
 refine G0 [] Tryz.func119 ?_
 refine lp l.length [0,3,4] (fun i vs t=>vs=[A8 l,eI (A7 (l.take i)),eI i]∧t=st) ?_ ?_
 ·conv=>whnf
  exact ⟨rfl,rfl⟩
 ·rintro i vs t hi ⟨rfl,rfl⟩
  conv=>whnf
  cases h1:decide ((i:Int)<(l.length:Int))
  ·obtain rfl:=C6 h1 hi
   rw [List.take_length];conv=>whnf
   exact ⟨rfl,rfl⟩
  ·have hi':=E4 h1
   have hs:IntKind.i64.wrap (A7 (l.take i)+gI l (i:Int).toNat)=A7 (l.take (i+1)):=h.step hi'
   conv=>whnf
   refine E1 ?_
   rw [hs]
   refine G7 ?_
   exact nx hi' ⟨by rw [B8 (by omega)],rfl⟩
def A2Y:A4Q:=⟨[],[],0,0,0,[]⟩
theorem B0a:Le (.tuple [.agg [.emp,.emp,eI 0,eI 0,eI 0,.emp],eI 7]) (.tuple [A0B A2Y,eI 7]):=fun rd sz c h=>by
 have hl:E0 [AV.emp,.emp,eI 0,eI 0,eI 0,.emp] [A8 [],A8 [],eI 0,eI 0,eI 0,B1 2 A2Q []]:=.cons (Le.emp _ _) (.cons (Le.emp _ _) (.cons (Le.refl _) (.cons (Le.refl _) (.cons (Le.refl _) (.cons (Le.emp _ _) .nil)))))
 cases h with
 | tuple cs vs hlen hg =>
  refine .tuple _ _ hlen fun j y c hy hc=>?_
  match j,hy with
  | 0,hy=>cases hy;exact (Le.agg hl) _ _ _ (hg 0 _ c rfl hc)
  | 1,hy=>cases hy;exact hg 1 _ c rfl hc
  | j+2,hy=>cases hy
theorem C3S {t:Tax} {z:L3} {s:D6} {cats:List D6} {nets:List Int} {ship:Int} (h:A0k t z cats nets ship) (hz:X7 t.zones s=none) (exempt:Bool) (st:St) :
  S P 116 [M8 t,eS s,eB exempt,D2 cats,A8 nets,eI ship] st fun v st'=>v=.tuple [.emp,.emp,eI 0,eI 0,eI 7]∧st'=st:=by
 obtain ⟨l1,l2⟩:=A6f h.tax
 have hM:=fun st=>B7E h st
 have hZ:∀ st,S P 208 [M8 t,eS s] st fun v st'=>v=.tuple [Q6 B8i,.bool false]∧st'=st:=fun st=>by
  have:=B0N t s (by omega) (fun z hz=>by have:=l2 z hz;omega) st
  rw [hz] at this;exact this
 refine A2a ?_
 refine G0 [6] Tryz.func116 ?_
 refine I2 (hM _) ?_
 refine I2 (hZ _) ?_
 intro b17 hb17;conv=>whnf
 refine stU (A0 ..) rfl ?_
 rw [B7];conv=>whnf
 exact ⟨rfl,(D8.refl st).upd hb17⟩
theorem C1S {t:Tax} {z:L3} {s:D6} {cats:List D6} {nets:List Int} {ship:Int} (h:A0k t z cats nets ship) (hsm:A8E t) (hz:X7 t.zones s=none) (exempt:Bool) (st:St) :
  S P 118 [M8 t,eS s,eB exempt,D2 cats,A8 nets,eI ship] st fun v st'=>v=.tuple [.agg [.emp,.emp,eI 0,eI 0],eI 7]∧st'=st:=by
 obtain ⟨l1,l2⟩:=A6f h.tax
 have hn:=h.nets.len
 have hns:=h.nets.sum
 have hnp:=h.nets.pos
 have hcl:=h.cats
 have hs:=h.ship
 have hT:∀ s,S P 157 [M8 t] s fun v st'=>v=.bool true∧st'=s:=fun s=>by
  have:=B6C t hsm s
  rw [h.tax] at this;exact this
 have hZ:∀ st,S P 213 [M8 t,eS s] st fun v st'=>v=.tuple [Q6 B8i,.bool false]∧st'=st:=fun st=>by
  have:=B2g t s (by omega) st
  rw [hz] at this;exact this
 refine A2a ?_
 refine C0i [6] C1b mixed Tryz.func118 (by rfl) rfl rfl rfl ?_;conv=>whnf
 intro b12 hb12;conv=>whnf
 refine I2 (hT _) ?_
 rw [hcl,show ((nets.length:Int) != (nets.length:Int))=false from bne_self_eq_false _];conv=>whnf
 rw [show decide ((nets.length:Int)>1000)=false from decide_eq_false (by omega)];conv=>whnf
 rw [show decide (ship<0)=false from decide_eq_false (by omega)];conv=>whnf
 rw [show decide (ship>10000000000000)=false from decide_eq_false (by omega)];conv=>whnf
 generalize hst:(upd st b12 _:St)=S0
 obtain ⟨f12,at12,hf12⟩:∃ f12:Nat→AV,S0 b12=some ⟨184,4,1,f12⟩∧f12 0=H4 B3o.zero:=by rw [←hst];exact ⟨_,A0 ..,rfl⟩
 have hs0:D8 st S0:=by rw [←hst];exact (D8.refl st).upd hb12
 clear hst
 refine lp nets.length [1,2,3,4,5,6,12,14,15] (fun i vs u=>vs=[eS s,eB exempt,D2 cats,A8 nets,eI ship,.fptr (M8 t) 0,.optr 4 b12 0 0,eI (A7 (nets.take i)),eI i]∧u=S0) ?_ ?_
 ·conv=>whnf
  exact ⟨rfl,rfl⟩
 rintro i vs u hi ⟨rfl,rfl⟩
 conv=>whnf
 cases h1:decide ((i:Int)<(nets.length:Int))
 case true =>
  have hi':=E4 h1
  have hx:0≤gI nets (i:Int).toNat:=hnp _ (B3 hi')
  have hs1:=K1 hnp (i+1)
  have hs2:0≤A7 (nets.take i):=C4 fun x hx=>hnp x (List.mem_of_mem_take hx)
  have hst:A7 (nets.take (i+1))=A7 (nets.take i)+gI nets (i:Int).toNat:=L6 hi'
  have hw1:IntKind.i64.wrap (10000000000000 - A7 (nets.take i))=10000000000000 - A7 (nets.take i):=A9 (by omega) (by omega)
  have hw2:IntKind.i64.wrap (A7 (nets.take i)+gI nets (i:Int).toNat)=A7 (nets.take (i+1)):=(A9 (by omega) (by omega)).trans hst.symm
  conv=>whnf
  refine E1 ?_
  rw [show decide (nets.getD (i:Int).toNat default<0)=false from decide_eq_false (by show ¬ gI nets (i:Int).toNat<0;omega)];conv=>whnf
  refine E1 ?_
  rw [hw1,show decide (nets.getD (i:Int).toNat default>10000000000000 - A7 (nets.take i))=false from decide_eq_false (by show ¬ gI nets (i:Int).toNat>_;omega)];conv=>whnf
  refine E1 ?_
  rw [hw2]
  refine G7 ?_
  exact nx hi' ⟨by rw [B8 (by omega)],rfl⟩
 obtain rfl:=C6 h1 hi
 conv=>whnf
 refine I2 (hZ _) ?_
 intro b16 hb16
 have h1216:b12≠b16:=fun e=>by subst e;rw [at12] at hb16;cases hb16
 conv=>whnf
 refine stU (A0 ..) rfl ?_
 rw [B7];conv=>whnf
 refine N1 ((A6 h1216).trans at12) hf12 ?_
 refine F2 (A0 ..) (A5 ..) ?_
 exact ⟨rfl,(hs0.upd hb16).over hb12⟩
set_option maxHeartbeats 8000000 in
theorem C1M {r:H8} {codes:List D6} {l:List G1} {Pr:A1r} {z:L3} {zone:D6} (exempt:Bool)
  (hP:∀ st,S P 18 [G2 r,D2 codes,B1 3 G4 l] st fun v s=>v=.tuple [P1 Pr,eI 0]∧s=st)
  (hI:∀ st,S P 75 [B1 4 F1 r.items,B1 3 G4 l] st fun v s=>v=B1 4 F1 (C3 r.items l)∧s=st)
  (hln:l.length≤1000) (hV:A0k r.tax z (J7 r l) Pr.nets Pr.ship) (hz:X7 r.tax.zones zone=none) (st:St) :
  S P 45 [G2 r,eS zone,eB exempt,D2 codes,B1 3 G4 l] st fun v st'=>v=.tuple [A0B A2Y,eI 7]∧st'=st:=by
 have hlv:=fun s=>C3S hV hz exempt s
 have hil:(C3 r.items l).length=l.length:=List.length_map ..
 have hcb:J7 r l=(C3 r.items l).map Ab.Item.cat:=rfl
 rw [hcb] at hlv
 generalize C3 r.items l=IT at hI hil hlv
 clear hcb hV
 refine S.post (post:=fun v s'=>v=.tuple [.agg [.emp,.emp,eI 0,eI 0,eI 0,.emp],eI 7]∧D8 st s') ?_ (fun v s' ⟨h1,h2⟩=>⟨_,st,⟨rfl,rfl⟩,by rw [h1];exact (B0a.shift _).trans (h2.shift _)⟩)
 refine G0 [5,16] Tryz.func45 ?_
 intro b10 hb10;conv=>whnf
 refine I2 (hP _) ?_
 intro b12 hb12
 have h02:b10≠b12:=fun e=>by subst e;rw [A0] at hb12;cases hb12
 conv=>whnf
 refine stU (A0 ..) rfl ?_
 rw [B7];conv=>whnf
 refine I2 (hI _) ?_
 generalize hst:(upd (upd st b10 _) b12 _:St)=S0
 obtain ⟨f12,at12,hf12⟩:∃ f12:Nat→AV,S0 b12=some ⟨44,4,1,f12⟩∧f12 0=P1 Pr:=by rw [←hst];exact ⟨_,A0 ..,by rw [A5];rfl⟩
 obtain ⟨f10,at10,hf10⟩:∃ f10:Nat→AV,S0 b10=some ⟨90,6,1,f10⟩∧f10 0=H4 r90.zero:=by rw [←hst,A6 h02];exact ⟨_,A0 ..,rfl⟩
 have hs0:D8 st S0:=by rw [←hst];exact ((D8.refl st).upd hb10).upd hb12
 have n12:st b12=none:=by rw [A6 h02.symm] at hb12;exact hb12
 clear hst
 refine lp IT.length [1,2,5,10,12,14,35,36,37] (fun i vs u=>∃ sv,vs=[eS zone,eB exempt,.fptr (G2 r) 0,.optr 6 b10 0 0,.optr 4 b12 0 0,sv,B1 4 F1 IT,eI IT.length,eI i]∧F3 9 1 eS ((IT.take i).map Ab.Item.cat) S0 sv u) ?_ ?_
 ·conv=>whnf
  exact ⟨.emp,rfl,F3.start _ _ _ _⟩
 rintro i vs u hi ⟨sv,rfl,hc⟩
 have hcs:=hc.sup
 conv=>whnf
 cases h1:decide ((i:Int)<(IT.length:Int))
 case true =>
  have hi':=E4 h1
  have hln2:((IT.take i).map Ab.Item.cat).length=i:=by rw [List.length_map,List.length_take];omega
  have htk:(IT.take (i+1)).map Ab.Item.cat=(IT.take i).map Ab.Item.cat++[(IT.getD (i:Int).toNat default).cat]:=by rw [J0 hi',List.map_append];rfl
  conv=>whnf
  refine E1 ?_
  refine F3.app (y:=(IT.getD (i:Int).toNat default).cat) (q:=r9) rfl rfl rfl rfl rfl (by rfl) (by rw [hln2];show (i+1) * 16≤140737488355328;omega) hc (fun sv' t' hc'=>?_);conv=>whnf
  refine G7 ?_
  exact nx hi' ⟨sv',by rw [B8 (by omega)],by rw [htk];exact hc'⟩
 obtain rfl:=C6 h1 hi
 rw [List.take_length] at hc;conv=>whnf
 refine F2 (hcs b12 _ at12) hf12 ?_
 refine F2 (hcs b12 _ at12) hf12 ?_
 have hTS:B0 [M8 r.tax,eS zone,eB exempt,sv,A8 Pr.nets,eI Pr.ship] u [M8 r.tax,eS zone,eB exempt,D2 (IT.map Ab.Item.cat),A8 Pr.nets,eI Pr.ship] S0 :=
  B0.cons (B0.keep [M8 r.tax] _) (B0.cons (B0.keep [eS zone] _) (B0.cons (B0.keep [eB exempt] _) (B0.cons hc.shift (B0.keep _ _))))
 refine F4 hTS (C5 (hlv _) ?_);conv=>whnf
 refine N1 at10 hf10 ?_
 refine F2 (A0 ..) (A5 ..) ?_
 exact ⟨rfl,hs0.over hb10⟩
end Go.Proofs.YtbajhapmlfbelaaGreat
