/- Part 31 of the proof: contracts of the functions that the law reaches -/
import Derived.Test.YtbajhapmlfbelaaGreatQf30
set_option maxRecDepth 100000
set_option linter.unusedVariables false
set_option linter.unusedSimpArgs false
namespace Go.Proofs.YtbajhapmlfbelaaGreat
open Go Go.Ab
attribute [local irreducible] upd del
set_option maxHeartbeats 8000000 in
theorem C1U {r:H8} {codes:List D6} {l:List G1} {Pr:A1r} {z:L3} {zone:D6} (exempt:Bool)
  (hP:∀ st,S P 19 [G2 r,D2 codes,B1 3 G4 l] st fun v s=>v=.tuple [P1 Pr,eI 0]∧s=st)
  (hI:∀ st,S P 88 [B1 4 F1 r.items,B1 3 G4 l] st fun v s=>v=B1 4 F1 (C3 r.items l)∧s=st)
  (hln:l.length≤1000) (hV:A0k r.tax z (J7 r l) Pr.nets Pr.ship) (hsm:A8E r.tax) (hz:X7 r.tax.zones zone=some z) (st:St) :
  S P 46 [G2 r,eS zone,eB exempt,D2 codes,B1 3 G4 l] st fun v st'=>v=.tuple [A0B (A5r r z exempt l Pr),eI 0]∧st'=st:=by
 have hQ:=B2V hV exempt Pr.deals
 have hlv:=fun s=>C4k hV hsm hz exempt s
 have hq:A5r r z exempt l Pr=⟨(L4 r.tax z exempt (J7 r l) Pr.nets Pr.ship).goods,(L4 r.tax z exempt (J7 r l) Pr.nets Pr.ship).taxes,(L4 r.tax z exempt (J7 r l) Pr.nets Pr.ship).ship,(L4 r.tax z exempt (J7 r l) Pr.nets Pr.ship).shipTax,A7 (L4 r.tax z exempt (J7 r l) Pr.nets Pr.ship).goods+A7 (L4 r.tax z exempt (J7 r l) Pr.nets Pr.ship).taxes+(L4 r.tax z exempt (J7 r l) Pr.nets Pr.ship).ship+(L4 r.tax z exempt (J7 r l) Pr.nets Pr.ship).shipTax,Pr.deals⟩:=rfl
 rw [hq]
 obtain ⟨q1,q2,q3,q4,q5,q6,q7,_⟩:=hQ
 have q1:N2 (L4 r.tax z exempt (J7 r l) Pr.nets Pr.ship).goods:=q1
 have q2:N2 (L4 r.tax z exempt (J7 r l) Pr.nets Pr.ship).taxes:=q2
 have q6:0≤(L4 r.tax z exempt (J7 r l) Pr.nets Pr.ship).ship∧(L4 r.tax z exempt (J7 r l) Pr.nets Pr.ship).ship≤10000000000000:=q6
 have q7:0≤(L4 r.tax z exempt (J7 r l) Pr.nets Pr.ship).shipTax∧(L4 r.tax z exempt (J7 r l) Pr.nets Pr.ship).shipTax≤10000000000000:=q7
 clear hq q3 q4 q5 hV hz
 generalize L4 r.tax z exempt (J7 r l) Pr.nets Pr.ship=V at *
 have s1:=fun s=>B7R V.goods q1 s
 have s2:=fun s=>B7R V.taxes q2 s
 have g1:=q1.sum
 have g2:=q2.sum
 have w1:IntKind.i64.wrap (A7 V.goods+A7 V.taxes)=A7 V.goods+A7 V.taxes:=A9 (by omega) (by omega)
 have w2:IntKind.i64.wrap (A7 V.goods+A7 V.taxes+V.ship)=A7 V.goods+A7 V.taxes+V.ship:=A9 (by omega) (by omega)
 have w3:IntKind.i64.wrap (A7 V.goods+A7 V.taxes+V.ship+V.shipTax)=A7 V.goods+A7 V.taxes+V.ship+V.shipTax:=A9 (by omega) (by omega)
 have hil:(C3 r.items l).length=l.length:=List.length_map ..
 have hcb:J7 r l=(C3 r.items l).map Ab.Item.cat:=rfl
 rw [hcb] at hlv
 generalize C3 r.items l=IT at hI hil hlv
 clear hcb
 refine A2a ?_
 refine G0 [5] Tryz.func46 ?_
 intro b10 hb10;conv=>whnf
 refine I2 (hP _) ?_
 intro b12 hb12
 have h02:b10≠b12:=fun e=>by subst e;rw [A0] at hb12;cases hb12
 conv=>whnf
 refine stU (A0 ..) rfl ?_
 rw [B7];conv=>whnf
 refine I2 (hI _) ?_
 generalize hst:(upd (upd st b10 _) b12 _:St)=S0
 obtain ⟨f12,at12,hf12⟩:∃ f12:Nat→AV,S0 b12=some ⟨44,4,1,f12⟩∧f12 0=P1 Pr:=by rw [←hst];exact ⟨_,A0 ..,by rw [A5];rfl⟩
 obtain ⟨f10,at10,hf10⟩:∃ f10:Nat→AV,S0 b10=some ⟨90,6,1,f10⟩∧f10 0=H4 r90.zero:=by rw [←hst,A6 h02];exact ⟨_,A0 ..,rfl⟩
 have hs0:D8 st S0:=by rw [←hst];exact ((D8.refl st).upd hb10).upd hb12
 have n12:st b12=none:=by rw [A6 h02.symm] at hb12;exact hb12
 clear hst
 refine lp IT.length [1,2,5,10,12,14,15,16] (fun i vs u=>∃ sv,vs=[eS zone,eB exempt,.fptr (G2 r) 0,.optr 6 b10 0 0,.optr 4 b12 0 0,B1 4 F1 IT,sv,eI i]∧F3 9 1 eS ((IT.take i).map Ab.Item.cat) S0 sv u) ?_ ?_
 ·conv=>whnf
  exact ⟨.emp,rfl,F3.start _ _ _ _⟩
 rintro i vs u hi ⟨sv,rfl,hc⟩
 have hcs:=hc.sup
 conv=>whnf
 cases h1:decide ((i:Int)<(IT.length:Int))
 case true =>
  have hi':=E4 h1
  have hln2:((IT.take i).map Ab.Item.cat).length=i:=by rw [List.length_map,List.length_take];omega
  have htk:(IT.take (i+1)).map Ab.Item.cat=(IT.take i).map Ab.Item.cat++[(IT.getD (i:Int).toNat default).cat]:=by rw [J0 hi',List.map_append];rfl
  conv=>whnf
  refine E1 ?_
  refine F3.app (y:=(IT.getD (i:Int).toNat default).cat) (q:=r9) rfl rfl rfl rfl rfl (by rfl) (by rw [hln2];show (i+1) * 16≤140737488355328;omega) hc (fun sv' t' hc'=>?_);conv=>whnf
  refine G7 ?_
  exact nx hi' ⟨sv',by rw [B8 (by omega)],by rw [htk];exact hc'⟩
 obtain rfl:=C6 h1 hi
 rw [List.take_length] at hc;conv=>whnf
 refine F2 (hcs b12 _ at12) hf12 ?_
 refine F2 (hcs b12 _ at12) hf12 ?_
 have hTS:B0 [M8 r.tax,eS zone,eB exempt,sv,A8 Pr.nets,eI Pr.ship] u [M8 r.tax,eS zone,eB exempt,D2 (IT.map Ab.Item.cat),A8 Pr.nets,eI Pr.ship] S0 :=
  B0.cons (B0.keep [M8 r.tax] _) (B0.cons (B0.keep [eS zone] _) (B0.cons (B0.keep [eB exempt] _) (B0.cons hc.shift (B0.keep _ _))))
 refine F4 hTS (C5 (hlv _) ?_);conv=>whnf
 intro b17 hb17
 have h12n:b12≠b17:=fun e=>by subst e;rw [at12] at hb17;cases hb17
 have h10n:b10≠b17:=fun e=>by subst e;rw [at10] at hb17;cases hb17
 conv=>whnf
 refine stU (A0 ..) rfl ?_
 rw [B7];conv=>whnf
 generalize hst:(upd S0 b17 _:St)=S1
 obtain ⟨f17,at17,hf17⟩:∃ f17:Nat→AV,S1 b17=some ⟨184,4,1,f17⟩∧f17 0=B7t V:=by rw [←hst];exact ⟨_,A0 ..,by rw [A5];rfl⟩
 have at12':S1 b12=some ⟨44,4,1,f12⟩:=by rw [←hst,A6 h12n];exact at12
 have at10':S1 b10=some ⟨90,6,1,f10⟩:=by rw [←hst,A6 h10n];exact at10
 have hs1:D8 st S1:=by rw [←hst];exact hs0.upd hb17
 clear hst
 refine ⟨[24],[],List.range 26,by kernel_rfl,?_⟩
 repeat' ((conv=>whnf);first | refine ldV at17 rfl (by omega) hf17 ?_ | refine ldV at12' rfl (by omega) hf12 ?_ | refine ⟨_,N4 (s1 _),?_⟩ | refine ⟨_,N4 (s2 _),?_⟩)
 all_goals
  conv=>whnf
  rw [w1,w2,w3]
  refine N1 at10' hf10 ?_
  refine F2 (A0 ..) (A5 ..) ?_
  exact ⟨rfl,hs1.over hb10⟩
set_option maxHeartbeats 8000000 in
theorem B9j {r:H8} {codes:List D6} {l:List G1} {Pr:A1r} {z:L3} {zone:D6} (exempt:Bool)
  (hP:∀ st,S P 19 [G2 r,D2 codes,B1 3 G4 l] st fun v s=>v=.tuple [P1 Pr,eI 0]∧s=st)
  (hI:∀ st,S P 88 [B1 4 F1 r.items,B1 3 G4 l] st fun v s=>v=B1 4 F1 (C3 r.items l)∧s=st)
  (hln:l.length≤1000) (hV:A0k r.tax z (J7 r l) Pr.nets Pr.ship) (hsm:A8E r.tax) (hz:X7 r.tax.zones zone=none) (st:St) :
  S P 46 [G2 r,eS zone,eB exempt,D2 codes,B1 3 G4 l] st fun v st'=>v=.tuple [A0B A2Y,eI 7]∧st'=st:=by
 have hlv:=fun s=>C1S hV hsm hz exempt s
 have hil:(C3 r.items l).length=l.length:=List.length_map ..
 have hcb:J7 r l=(C3 r.items l).map Ab.Item.cat:=rfl
 rw [hcb] at hlv
 generalize C3 r.items l=IT at hI hil hlv
 clear hcb hV
 refine S.post (post:=fun v s'=>v=.tuple [.agg [.emp,.emp,eI 0,eI 0,eI 0,.emp],eI 7]∧D8 st s') ?_ (fun v s' ⟨h1,h2⟩=>⟨_,st,⟨rfl,rfl⟩,by rw [h1];exact (B0a.shift _).trans (h2.shift _)⟩)
 refine G0 [5] Tryz.func46 ?_
 intro b10 hb10;conv=>whnf
 refine I2 (hP _) ?_
 intro b12 hb12
 have h02:b10≠b12:=fun e=>by subst e;rw [A0] at hb12;cases hb12
 conv=>whnf
 refine stU (A0 ..) rfl ?_
 rw [B7];conv=>whnf
 refine I2 (hI _) ?_
 generalize hst:(upd (upd st b10 _) b12 _:St)=S0
 obtain ⟨f12,at12,hf12⟩:∃ f12:Nat→AV,S0 b12=some ⟨44,4,1,f12⟩∧f12 0=P1 Pr:=by rw [←hst];exact ⟨_,A0 ..,by rw [A5];rfl⟩
 obtain ⟨f10,at10,hf10⟩:∃ f10:Nat→AV,S0 b10=some ⟨90,6,1,f10⟩∧f10 0=H4 r90.zero:=by rw [←hst,A6 h02];exact ⟨_,A0 ..,rfl⟩
 have hs0:D8 st S0:=by rw [←hst];exact ((D8.refl st).upd hb10).upd hb12
 have n12:st b12=none:=by rw [A6 h02.symm] at hb12;exact hb12
 clear hst
 refine lp IT.length [1,2,5,10,12,14,15,16] (fun i vs u=>∃ sv,vs=[eS zone,eB exempt,.fptr (G2 r) 0,.optr 6 b10 0 0,.optr 4 b12 0 0,B1 4 F1 IT,sv,eI i]∧F3 9 1 eS ((IT.take i).map Ab.Item.cat) S0 sv u) ?_ ?_
 ·conv=>whnf
  exact ⟨.emp,rfl,F3.start _ _ _ _⟩
 rintro i vs u hi ⟨sv,rfl,hc⟩
 have hcs:=hc.sup
 conv=>whnf
 cases h1:decide ((i:Int)<(IT.length:Int))
 case true =>
  have hi':=E4 h1
  have hln2:((IT.take i).map Ab.Item.cat).length=i:=by rw [List.length_map,List.length_take];omega
  have htk:(IT.take (i+1)).map Ab.Item.cat=(IT.take i).map Ab.Item.cat++[(IT.getD (i:Int).toNat default).cat]:=by rw [J0 hi',List.map_append];rfl
  conv=>whnf
  refine E1 ?_
  refine F3.app (y:=(IT.getD (i:Int).toNat default).cat) (q:=r9) rfl rfl rfl rfl rfl (by rfl) (by rw [hln2];show (i+1) * 16≤140737488355328;omega) hc (fun sv' t' hc'=>?_);conv=>whnf
  refine G7 ?_
  exact nx hi' ⟨sv',by rw [B8 (by omega)],by rw [htk];exact hc'⟩
 obtain rfl:=C6 h1 hi
 rw [List.take_length] at hc;conv=>whnf
 refine F2 (hcs b12 _ at12) hf12 ?_
 refine F2 (hcs b12 _ at12) hf12 ?_
 have hTS:B0 [M8 r.tax,eS zone,eB exempt,sv,A8 Pr.nets,eI Pr.ship] u [M8 r.tax,eS zone,eB exempt,D2 (IT.map Ab.Item.cat),A8 Pr.nets,eI Pr.ship] S0 :=
  B0.cons (B0.keep [M8 r.tax] _) (B0.cons (B0.keep [eS zone] _) (B0.cons (B0.keep [eB exempt] _) (B0.cons hc.shift (B0.keep _ _))))
 refine F4 hTS (C5 (hlv _) ?_);conv=>whnf
 intro b17 hb17
 have h12n:b12≠b17:=fun e=>by subst e;rw [at12] at hb17;cases hb17
 have h10n:b10≠b17:=fun e=>by subst e;rw [at10] at hb17;cases hb17
 conv=>whnf
 refine stU (A0 ..) rfl ?_
 rw [B7];conv=>whnf
 refine N1 ((A6 h10n).trans at10) hf10 ?_
 refine F2 (A0 ..) (A5 ..) ?_
 exact ⟨rfl,(hs0.upd hb17).over hb10⟩
theorem B6u (es:List QE):∃ c1 c2 is,C1E es=.tuple [eI c1,eI c2,.bool is]:=by
 cases es with
 | nil=>exact ⟨0,0,false,rfl⟩
 | cons y es=>exact ⟨y.1,y.2,true,rfl⟩
theorem A8t {c1 c2 d1 d2:Int} {is js:Bool} (h:AV.tuple [eI c1,eI c2,.bool is]=.tuple [eI d1,eI d2,.bool js]):c1=d1∧c2=d2∧is=js:=by
 injection h with h;injection h with h1 h;injection h with h2 h;injection h with h3 h
 injection h1 with _ h1;injection h2 with _ h2;injection h3 with h3
 exact ⟨h1,h2,h3⟩
set_option maxHeartbeats 8000000 in
theorem B8p (t:Tax) (rates nets:List Int) (hn:A3V nets) (hr:rates.length=nets.length) (hq:∀ x∈rates,0≤x∧x≤10000) (st:St) :
  S P 211 [M8 t,A8 rates,A8 nets] st fun v st'=>v=A8 (F7 t rates nets)∧st'=st:=by
 have hnl:=hn.len
 have hol:(F7 t rates nets).length=nets.length:=by unfold F7;rw [List.length_map,List.length_range]
 refine S.post (post:=fun v s=>∃ bo,v=.own 1 bo 0 nets.length∧st bo=none∧(∃ y,IsL (F7 t rates nets) y∧s bo=some y)∧D8 st s) ?_ (fun v s ⟨bo,h1,h2,⟨y,⟨f,hy,hf⟩,hb⟩,h4⟩=>⟨_,st,⟨rfl,rfl⟩,by
  subst hy;rw [h1]
  have e:A8 (F7 t rates nets)=.arr 1 nets.length (fun i=>eI (gI (F7 t rates nets) i)):=by unfold A8 B1;rw [hol]
  rw [e]
  exact (G5 hb rfl (by show nets.length≤(F7 t rates nets).length;omega) (fun i hi=>hf i (by omega))).trans ((D8.del h4 h2).shift _)⟩)
 refine G0 [3] Tryz.func211 ?_
 refine mkO rfl rfl rfl (by show 8 * nets.length≤_;omega) (by omega) (by rfl) (fun bo hbo=>?_);conv=>whnf
 refine call (B0C _) (fun v s hv=>?_)
 obtain ⟨q,rfl,hQ⟩:=hv
 conv=>whnf
 refine lp rates.length [2,3,7,8,28,29,30] (fun i vs s=>vs=[A8 nets,.fptr (M8 t) 0,.own 1 bo 0 nets.length,.optr 1 q 0 0,A8 rates,eI rates.length,eI i]∧QSt (upd st bo ⟨2,1,nets.length,fun _=>H4 r2.zero⟩) q true ((List.range i).map (C0Q rates)) s) ?_ ?_
 ·conv=>whnf
  exact ⟨rfl,hQ⟩
 clear hQ s
 rintro i vs s hi ⟨rfl,hQ⟩
 conv=>whnf
 cases h1:decide ((i:Int)<(rates.length:Int))
 case true =>
  have hi':=E4 h1
  have hx:=hq (gI rates (i:Int).toNat) (B3 hi')
  have hw:IntKind.i64.wrap (0 - rates.getD (i:Int).toNat default) = -(gI rates (i:Int).toNat):=(A9 (show _≤0 - gI rates (i:Int).toNat by omega) (show 0 - gI rates (i:Int).toNat≤_ by omega)).trans (by show 0 - gI rates (i:Int).toNat=_;omega)
  conv=>whnf
  refine E1 ?_
  rw [hw]
  refine call (A7C _ q _ _ _ _ hQ (by rw [List.length_map,List.length_range];omega)) (fun v s' hv=>?_)
  obtain ⟨rfl,hQ2⟩:=hv
  conv=>whnf
  refine G7 ?_
  exact nx hi' ⟨by rw [B8 (by omega)],by rw [List.range_succ,List.map_append];exact hQ2⟩
 obtain rfl:=C6 h1 hi
 have hQ2:=QSt.perm hQ (A4t rates).symm
 clear hQ
 conv=>whnf
 refine ⟨[2,3,7,8],fun m vs u=>∃ (D:Int→Bool) (fl:Bool) (L:List Int),m=(A1d rates D).length∧vs=[A8 nets,.fptr (M8 t) 0,.own 1 bo 0 nets.length,.optr 1 q 0 0]∧B1S t rates nets D L∧OQ bo q L fl (A1d rates D) st u,?_,?_⟩
 ·conv=>whnf
  exact ⟨_,fun _=>false,true,List.replicate nets.length 0,rfl,rfl,⟨List.length_replicate,fun i hi=>by
   rw [if_neg (by simp)];unfold gI
   rw [List.getD_eq_getElem?_getD,List.getElem?_replicate];split<;>rfl⟩,hbo,_,⟨fun _=>H4 r2.zero,by rw [List.length_replicate],fun i hi=>by
   unfold gI;rw [List.getD_eq_getElem?_getD,List.getElem?_replicate];split<;>rfl⟩,by rw [B4r];exact hQ2⟩
 clear hQ2
 rintro m vs u ⟨D,fl,L,rfl,rfl,hdone,hb0,y,hy,hQ3⟩
 conv=>whnf
 refine C5 (A8y _ q fl _ _ hQ3) ?_
 cases hE:A1d rates D with
 | nil =>
  conv=>whnf
  have hL:=C0O hdone hr hE
  rw [hE] at hQ3
  exact ⟨bo,rfl,hb0,⟨y,by rw [←hL];exact hy,hQ3.sup bo _ (A0 ..)⟩,D8.drop hQ3.sup hb0⟩
 | cons x E =>
  obtain ⟨hD,hEq⟩:=B6h hE
  obtain ⟨i0,hi0,hi0m,hi0r⟩:=B8M hE
  have hsort:=A7p rates D
  have hkey:∀ y∈A1d rates (fun z=>D z||z==x.1),(y.1==x.1)=false:=B2T
  have hmeas:(A1d rates (fun z=>D z||z==x.1)).length<E.length+1:=by
   have h1:=congrArg List.length hEq
   rw [List.length_append,List.length_map,List.length_cons] at h1
   have h2:0<(K2 rates x.1).length:=List.length_pos_of_mem hi0m
   omega
  have hnext:=B1T (k:=x.1) hdone hr
  have hparts:(A1X t rates nets x.1).length=(K2 rates x.1).length∧∀ st,S P 280 [eI (B6 t (A7 ((K2 rates x.1).map (gI nets))) (-x.1)),A8 ((K2 rates x.1).map (gI nets))] st fun v st'=>v=.tuple [A8 (A1X t rates nets x.1),eI 0]∧st'=st:=by
   have hw:=A2h (t:=t) hn hr (i:=i0) (hq (gI rates i0) (B3 hi0))
   have e:I5 rates nets i0=(K2 rates x.1).map (gI nets):=by unfold I5;rw [(Z8 hi0m).2.2]
   rw [e,hi0r] at hw
   have h3:=(R6 hw).2.1
   refine ⟨by unfold A1X;rw [h3,List.length_map],fun st=>?_⟩
   exact A8m _ _ hw st
  have hGok:=fun j=>C4V (rates:=rates) (k:=x.1) (j:=j)
  have hrate:0≤-x.1∧-x.1≤10000:=by rw [←hi0r];exact hq (gI rates i0) (B3 hi0)
  have hGl:(K2 rates x.1).length≤1000:=by
   have:(K2 rates x.1).length≤(List.range rates.length).length:=List.length_filter_le _ _
   rw [List.length_range] at this;omega
  have hgsum:0≤A7 ((K2 rates x.1).map (gI nets)):=C4 fun v hv=>by
   obtain ⟨j,hj,rfl⟩:=List.mem_map.1 hv
   exact hn.pos _ (B3 (by have:=(Z8 hj).2.1;omega))
  have hgs:∀ j,j≤(K2 rates x.1).length→0≤A7 (((K2 rates x.1).take j).map (gI nets))∧A7 (((K2 rates x.1).take j).map (gI nets))≤10000000000000:=fun j hj=>by
   have hsub:(((K2 rates x.1).take j).map (gI nets)).Sublist nets:=by
    have h1:(((K2 rates x.1).take j).map (gI nets)).Sublist ((List.range nets.length).map (gI nets)):=by
     refine List.Sublist.map _ ((List.take_sublist _ _).trans ?_)
     unfold K2;rw [hr];exact List.filter_sublist
    rw [A5s] at h1;exact h1
   have h2:=B0Y hsub hn.pos
   have h3:=hn.sum
   exact ⟨C4 fun v hv=>hn.pos v (hsub.subset hv),by omega⟩
  rw [hE] at hQ3 hsort
  have hQ0:x::E=QJ (K2 rates x.1) x.1 (A1d rates (fun z=>D z||z==x.1)) 0:=hEq
  generalize K2 rates x.1=G at *
  generalize hRest:A1d rates (fun z=>D z||z==x.1)=Rest at *
  generalize A1X t rates nets x.1=X at *
  clear hEq
  conv=>whnf
  rw [show decide ((((x::E).length:Nat):Int)>0)=true by rw [decide_eq_true_eq,List.length_cons];omega];conv=>whnf
  refine I2 (B3n _ q fl x E _ hQ3 (List.pairwise_cons.1 hsort).1) ?_
  refine I2 (B3n _ q fl x E _ hQ3 (List.pairwise_cons.1 hsort).1) ?_
  have hsortQ:∀ j,j≤G.length→(QJ G x.1 Rest j).Pairwise fun a b=>H1 b a=false:=fun j hj=>by
   rw [hQ0] at hsort
   refine List.Pairwise.sublist ?_ hsort
   unfold QJ
   rw [List.drop_zero]
   exact List.Sublist.append ((List.drop_sublist j G).map _) (List.Sublist.refl _)
  refine lp G.length [2,3,7,8,11,14,15,16,17,18,19] (fun j vs u=>∃ (fl:Bool) (lv wv:AV) (c1 c2:Int) (is:Bool),vs=[A8 nets,.fptr (M8 t) 0,.own 1 bo 0 nets.length,.optr 1 q 0 0,eI x.1,lv,wv,eI (A7 ((G.take j).map (gI nets))),eI c1,eI c2,.bool is]∧C1E (QJ G x.1 Rest j)=.tuple [eI c1,eI c2,.bool is]∧ROut (fun s t=>ROut (OQ bo q L fl (QJ G x.1 Rest j)) 3 1 (fun i=>eI (gN G i)) j s lv t) 2 1 (fun i=>eI (gI (G.map (gI nets)) i)) j st wv u) ?_ ?_
  ·conv=>whnf
   exact ⟨fl,.emp,.emp,x.1,x.2,true,rfl,by rw [←hQ0];rfl,ROut.start (show ROut _ _ _ _ 0 st .emp u from ROut.start (show OQ bo q L fl (QJ G x.1 Rest 0) st u from ⟨hb0,y,hy,by rw [←hQ0];exact hQ3⟩) _ _ _) _ _ _⟩
  rintro j vs w hj ⟨fl2,lv,wv,c1,c2,is,rfl,hpk,hR⟩
  by_cases hjl:j<G.length
  ·have hQn:=C3i (G:=G) (k:=x.1) (Rest:=Rest) hjl
   rw [hQn] at hpk
   obtain ⟨rfl,rfl,rfl⟩:=A8t hpk
   have hGj:=hGok j hjl
   have hxn:0≤gI nets (gN G j).toNat∧gI nets (gN G j).toNat≤A7 nets:=⟨hn.pos _ (B3 (by omega)),I9 hn.pos (B3 (by omega))⟩
   have hns:=hn.sum
   have hg1:=hgs j hj
   have hg2:=hgs (j+1) hjl
   have hgt:((G.take (j+1)).map (gI nets))=((G.take j).map (gI nets))++[gI nets (gN G j).toNat]:=by
    rw [List.take_succ_eq_append_getElem hjl,List.map_append]
    have:(gN G j).toNat=G[j]:=by show (((G.getD j 0:Nat):Int)).toNat=_;rw [List.getD_eq_getElem?_getD,List.getElem?_eq_getElem hjl];rfl
    rw [this];rfl
   have hgm:gI (G.map (gI nets)) j=nets.getD (gN G j).toNat default:=by
    unfold gI
    rw [List.getD_eq_getElem?_getD,List.getElem?_map,List.getElem?_eq_getElem hjl]
    have:(gN G j).toNat=G[j]:=by show (((G.getD j 0:Nat):Int)).toNat=_;rw [List.getD_eq_getElem?_getD,List.getElem?_eq_getElem hjl];rfl
    rw [this];rfl
   have hsum:IntKind.i64.wrap (A7 ((G.take j).map (gI nets))+nets.getD (gN G j).toNat default)=A7 ((G.take (j+1)).map (gI nets)):=by
    rw [hgt,G6] at hg2 ⊢
    have e1:A7 [gI nets (gN G j).toNat]=gI nets (gN G j).toNat:=by rw [K5];exact Int.add_zero _
    rw [e1] at hg2 ⊢
    exact A9 (show _≤A7 ((G.take j).map (gI nets))+gI nets (gN G j).toNat by omega) (show A7 ((G.take j).map (gI nets))+gI nets (gN G j).toNat≤_ by omega)
   conv=>whnf
   rw [show (x.1==x.1)=true from beq_self_eq_true _];conv=>whnf
   obtain ⟨s0,hw0,s1,hl0,hb1,y1,hy1,hq1⟩:=hR
   rw [hQn] at hq1
   have hsj:=hsortQ j hj
   rw [hQn] at hsj
   refine call (A8z _ q fl2 (x.1,gN G j) (QJ G x.1 Rest (j+1)) _ hq1 (List.pairwise_cons.1 hsj).1) (fun v w' hv=>?_)
   obtain ⟨rfl,hq2⟩:=hv
   have hin:ROut (OQ bo q L false (QJ G x.1 Rest (j+1))) 3 1 (fun i=>eI (gN G i)) j s0 lv w':=⟨s1,hl0,hb1,y1,hy1,hq2⟩
   have hwv:wv=.emp∨∃ b,wv=.own 1 b 0 j:=ROut.head (show ROut (fun s t=>ROut (OQ bo q L false (QJ G x.1 Rest (j+1))) 3 1 (fun i=>eI (gN G i)) j s lv t) 2 1 (fun i=>eI (gI (G.map (gI nets)) i)) j st wv w' from ⟨s0,hw0,hin⟩)
   have hlv:=ROut.head hin
   obtain ⟨d1,d2,js,hpk2⟩:=B6u (QJ G x.1 Rest (j+1))
   have hB1:=A9I bo q L false (QJ G x.1 Rest (j+1))
   rcases hlv with rfl | ⟨bl,rfl⟩<;>rcases hwv with rfl | ⟨bw,rfl⟩
   all_goals
    conv=>whnf
    refine ⟨[2,3,8,9,10],[],[],.qui 0 (.qui 1 (.qui 4 (.qui 5 (.qui 6 (.qui 7 (.two 2 8 (.two 3 8 (.gen 8 (.gen 9 (.gen 10 (.qui 11 (.qui 12 .done))))) (.two 3 9 (.gen 9 (.gen 10 (.qui 11 (.qui 12 .done)))) (.gen 3 (.gen 10 (.qui 11 (.qui 12 .done)))))) (.two 2 9 (.two 3 9 (.gen 9 (.gen 10 (.qui 11 (.qui 12 .done)))) (.gen 3 (.gen 10 (.qui 11 (.qui 12 .done))))) (.gen 2 (.gen 3 (.gen 10 (.qui 11 (.qui 12 .done)))))))))))),by kernel_rfl,?_⟩;conv=>whnf
    refine E1 ?_
    repeat' (refine And.intro ?_ ?_<;>(conv=>whnf))
    all_goals
     refine ROut.app (q:=r3) hB1 rfl rfl rfl rfl rfl (f:=fun i=>eI (gN G i)) (by rfl) (by show (j+1) * 8≤140737488355328;omega) hin (fun lv' w2 hin2=>?_)
     have hout2:ROut (fun s t=>ROut (OQ bo q L false (QJ G x.1 Rest (j+1))) 3 1 (fun i=>eI (gN G i)) (j+1) s lv' t) 2 1 (fun i=>eI (gI (G.map (gI nets)) i)) j st _ w2:=⟨s0,hw0,hin2⟩
     conv=>whnf
     refine ROut.app (q:=r2) (D9 hB1 _ _ _ _ _) rfl rfl rfl rfl rfl (f:=fun i=>eI (gI (G.map (gI nets)) i)) (by show _=eI _;rw [hgm];rfl) (by show (j+1) * 8≤140737488355328;omega) hout2 (fun wv' w3 hout3=>?_);conv=>whnf
     refine E1 ?_
     rw [hsum]
     obtain ⟨s2,hw2,s3,hl3,hb3,y3,hy3,hq3⟩:=hout3
     have hpc:=C1L _ q false _ _ hq3 (hsortQ (j+1) hjl)
     rw [hpk2] at hpc
     refine I2 hpc ?_
     refine G7 ?_
     exact nx hjl ⟨false,lv',wv',d1,d2,js,rfl,hpk2,⟨s2,hw2,s3,hl3,hb3,y3,hy3,hq3⟩⟩
  ·obtain rfl:j=G.length:=by omega
   rw [C0d] at hpk
   have hexit:(is&&(c1==x.1))=false:=by
    cases Rest with
    | nil=>obtain ⟨rfl,rfl,rfl⟩:=A8t hpk;rfl
    | cons r Rest=>obtain ⟨rfl,rfl,rfl⟩:=A8t hpk;exact hkey r (List.mem_cons_self ..)
   rw [List.take_length]
   have hM:=fun u=>B6n t (A7 (G.map (gI nets))) (-x.1) hrate u
   have hwn:IntKind.i64.wrap (0 - x.1) = -x.1:=(A9 (by omega) (by omega)).trans (by omega)
   case' neg=>cases is
   case' neg.true=>have hne:(c1==x.1)=false:=hexit
   case' neg.true=>conv=>whnf
   case' neg.true=>rw [hne]
   all_goals
    conv=>whnf
    rw [hwn]
    refine C5 (hM _) ?_
    generalize B6 t (A7 (G.map (gI nets))) (-x.1)=M at hparts
    conv=>whnf
    obtain ⟨w2,hsh,hR2⟩:=ROut.shift (D9 (A9I bo q L fl2 Rest) _ _ _ _ _) (show ROut (fun s t=>ROut (OQ bo q L fl2 Rest) 3 1 (fun i=>eI (gN G i)) G.length s lv t) 2 1 (fun i=>eI (gI (G.map (gI nets)) i)) G.length st wv w by rw [C0d] at hR;exact hR)
    have e0:AV.arr 1 G.length (fun i=>eI (gI (G.map (gI nets)) i))=A8 (G.map (gI nets)):=by unfold A8 B1;rw [List.length_map]
    rw [e0] at hsh
    refine F4 (args':=[eI M,A8 (G.map (gI nets))]) (B0.cons (B0.keep _ _) hsh) (C5 (hparts.2 _) ?_);conv=>whnf
    refine lp X.length [2,3,7,8,14,97,98,99] (fun j vs u=>vs=[A8 nets,.fptr (M8 t) 0,.own 1 bo 0 nets.length,.optr 1 q 0 0,lv,A8 X,eI X.length,eI j]∧ROut (OQ bo q (A3G L G X j) fl2 Rest) 3 1 (fun i=>eI (gN G i)) G.length st lv u) ?_ ?_
    ·conv=>whnf
     exact ⟨rfl,hR2⟩
    rintro j vs v hjx ⟨rfl,hR3⟩
    have hPl:=A7B L G X j
    have hdl:=hdone.1
    conv=>whnf
    cases h5:decide ((j:Int)<(X.length:Int))
    case' true =>
     have hj5:=E4 h5
     have hGj:=hGok j (by omega)
     obtain ⟨s0,hcl,h1o,yo,⟨fo,rfl,hfo⟩,h2o⟩:=hR3
     obtain ⟨b,g,h3,rfl,rfl,h4⟩:∃ b g,st b=none∧lv=.own 1 b 0 G.length∧s0=upd st b ⟨3,1,G.length,g⟩∧∀ k,k<G.length→g k=eI (gN G k):=by
      rcases hcl with ⟨h0,_⟩ | ⟨_,b,g,h3,h4,h5,h6⟩
      ·omega
      ·exact ⟨b,g,h3,h4,h5,h6⟩
     have hbb:b≠bo:=fun e=>by subst e;rw [A0] at h1o;cases h1o
     conv=>whnf
     refine E1 ?_
     refine E1 ?_
     refine ldV (h2o.sup b _ (by rw [A6 hbb];exact A0 ..)) rfl (by show 0+((j:Nat):Int).toNat<G.length;omega) (v:=eI (gN G j)) (by show g (0+((j:Nat):Int).toNat)=_;rw [show 0+((j:Nat):Int).toNat=j by omega];exact h4 j (by omega)) ?_;conv=>whnf
     refine E1 ?_
     refine stV (h2o.sup bo _ (A0 ..)) rfl (by show 0+(gN G j).toNat<(A3G L G X j).length;omega) (hfo (0+(gN G j).toNat) (by omega)) (by rfl) ?_;conv=>whnf
     refine G7 ?_
     have hset:IsL (A3G L G X (j+1)) ⟨2,1,(A3G L G X j).length,C9 fo (0+(gN G j).toNat) (eI (gI X (j:Int).toNat))⟩:=by
      have:=IsL.set (i:=(gN G j).toNat) (v:=gI X j) hfo
      rw [show 0+(gN G j).toNat=(gN G j).toNat by omega,show (j:Int).toNat=j by omega]
      exact this
     have hw2:=(B7l q fl2 Rest).write (y':=⟨2,1,(A3G L G X j).length,C9 fo (0+(gN G j).toNat) (eI (gI X (j:Int).toNat))⟩) h2o (A0 ..)
     rw [B7] at hw2
     exact nx hj5 ⟨by rw [B8 (by omega)],⟨_,hcl,h1o,_,hset,hw2⟩⟩
    obtain rfl:=C6 h5 hjx
    conv=>whnf
    refine G7 ?_
    have hfin:=ROut.dropped (A9I bo q (A3G L G X X.length) fl2 Rest) hR3
    rw [hparts.1] at hfin
    exact ⟨Rest.length,hmeas,_,fl2,A3G L G X G.length,by rw [hRest],rfl,hnext,by rw [hRest];exact hfin⟩
end Go.Proofs.YtbajhapmlfbelaaGreat
namespace Go.Proofs.YtbajhapmlfbelaaGreat
open Go Go.Ab
theorem B1v (p:B4) (id K:Int):A0V (O3 p id K):=by
 have hs:=(A2i p.scope).2
 have hp:=A4n p.parts
 have ht5:=(A2j p.tiers 5000 (.inl rfl)).2
 have ht6:=(A2j p.tiers 5 (.inr rfl)).2
 refine ⟨?_,?_,?_,?_,?_,?_,?_⟩
 ·have:=Y6 (B4m id);show (idN id).size≤_;omega
 ·have:=(A8N p).2;show (A1B p).size≤_;omega
 ·have:=(A9N p).2;show (A2E p).size≤_;omega
 ·show A0X (if K=4∨K=7 then ⟨[],[]⟩ else P5 p.scope)
  split
  ·exact A4Y.2
  ·exact hs
 ·show (if K=4 then O7 p.parts else []).length≤_
  split
  ·omega
  ·exact Nat.zero_le _
 ·show ∀ x∈(if K=4 then O7 p.parts else []),_
  split
  ·exact fun x hx=>(hp.2 x hx).2
  ·exact fun x hx=>absurd hx List.not_mem_nil
 ·show (if K=5 then O8 p.tiers 5000 else if K=6 then O8 p.tiers 5 else []).length≤_
  split
  ·omega
  ·split
   ·omega
   ·exact Nat.zero_le _
theorem B4P (l:List L3) (k:Nat) (hk:k<3):B2y (F5 l k):=by
 have hn:=List.all_eq_true.1 B1n k (List.mem_range.2 hk)
 have hz:=Y6 hn
 unfold F5
 split
 ·obtain ⟨h1,h2,h3⟩:=A7A (l.getD k default).rates
  generalize R8 (l.getD k default).rates=R at h1 h2 h3 ⊢
  exact ⟨by show R.length≤_;omega,by show (X1 k).size≤_;omega,fun x hx=>by have:=(h2 x hx).2;show x.cat.size≤_;omega⟩
 ·exact ⟨by show 0≤_;decide,by show (X1 k).size≤_;omega,fun x hx=>absurd hx List.not_mem_nil⟩
theorem B6w (t:Tax):A8E (M0 t):=by
 refine ⟨by show ((List.range 3).map _).length≤_;rw [List.length_map,List.length_range];decide,fun z hz=>?_⟩
 obtain ⟨k,hk,rfl⟩:=List.mem_map.1 hz
 exact B4P _ k (List.mem_range.1 hk)
theorem B3l (r:H8):A0w (A0g r):=by
 have h0:=A3h r.items
 have h2:=(A0f r.policy.order).2
 have h3:=(A0f r.policy.credit).2
 refine ⟨by show (O6 r.items).length≤_;omega,fun x hx=>?_,fun p hp=>?_,B6w r.tax,by show (N6 r.policy.order).length≤_;omega,by show (N6 r.policy.credit).length≤_;omega⟩
 ·have:=A6q hx
  exact ⟨by have:=this.2.1;show x.sku.size≤_;omega,by have:=this.2.2;show x.cat.size≤_;omega⟩
 ·obtain ⟨q,id,K,_,rfl⟩:=A5q hp
  exact B1v q id K
abbrev C1x (l:List B4) (xs:List (Int×Int)):List A0S:=xs.map fun a=>(⟨(F8 l a.1).id,a.2⟩:A0S)
abbrev A9U (l:List B4) (xs:List (Int×Int)):List D6:=(xs.map fun a=>(F8 l a.1).group).filter fun g=>!L7 g
structure Tr (l:List B4) (p:PSt) (xs:List (Int×Int)):Prop where
 deals:p.deals=C1x l xs
 groups:p.groups=A9U l xs
 pos:∀ a∈xs,1≤a.2
 apart:p.groups.Pairwise fun x y=>(y.toList==x.toList)=false
theorem Tr.start (l:List B4) (us:List B5):Tr l ⟨us,[],[]⟩ []:=⟨rfl,rfl,fun a h=>absurd h List.not_mem_nil,.nil⟩
def B2x {σ : Type} (px : σ→PSt) (step : σ→B4→σ) (sm:B4→Bool) (l:List B4) (Q : σ→Int→Prop):Prop :=
 ∀ (a : σ) (s:Int) (pr:B4),pr∈l→sm pr=true→Q a s →
  ((px (step a pr)).deals=(px a).deals∧(px (step a pr)).groups=(px a).groups∧Q (step a pr) s) ∨
  ∃ off,1≤off∧(px (step a pr)).deals=(px a).deals++[⟨pr.id,off⟩]∧(px (step a pr)).groups=(px a).groups++(if L7 pr.group=true then [] else [pr.group])∧Q (step a pr) (s+off)
theorem C4F {σ : Type} {px : σ→PSt} {step : σ→B4→σ} {sm:B4→Bool} {l:List B4} {Q : σ→Int→Prop} (hstep:B2x px step sm l Q) :
  ∀ (f:List Int) (a : σ) (xs:List (Int×Int)) (s:Int),(∀ x∈f,x.toNat<l.length∧sm (F8 l x)=true)→Tr l (px a) xs→Q a s →
   ∃ ys,Tr l (px (f.foldl (fun a x=>goB px step a (F8 l x)) a)) (xs++ys)∧(ys.map Prod.fst).Sublist f∧Q (f.foldl (fun a x=>goB px step a (F8 l x)) a) (s+A7 (ys.map Prod.snd)):=by
 intro f
 induction f with
 | nil=>intro a xs s _ ht hq;exact ⟨[],by rw [List.append_nil];exact ht,List.Sublist.slnil,by rw [show s+A7 (([]:List (Int×Int)).map Prod.snd)=s from Int.add_zero s];exact hq⟩
 | cons x f ih =>
  intro a xs s hm ht hq
  have hm':∀ y∈f,y.toNat<l.length∧sm (F8 l y)=true:=fun y hy=>hm y (List.mem_cons_of_mem _ hy)
  have hx:=hm x (List.mem_cons_self ..)
  have hmem:F8 l x∈l:=B3 hx.1
  rw [List.foldl_cons]
  unfold goB
  by_cases hg:(L7 (F8 l x).group||!inB (px a).groups (F8 l x).group)=true
  ·rw [if_pos hg]
   rcases hstep a s (F8 l x) hmem hx.2 hq with ⟨h1,h2,h3⟩ | ⟨off,h0,h1,h2,h3⟩
   ·obtain ⟨ys,k1,k2,k3⟩:=ih _ xs s hm' ⟨h1.trans ht.deals,h2.trans ht.groups,ht.pos,by rw [h2];exact ht.apart⟩ h3
    exact ⟨ys,k1,k2.cons _,k3⟩
   ·have ht':Tr l (px (step a (F8 l x))) (xs++[(x,off)]):=by
     refine ⟨?_,?_,fun b hb=>?_,?_⟩
     ·rw [h1,ht.deals];unfold C1x;rw [List.map_append];rfl
     ·rw [h2,ht.groups];unfold A9U
      rw [List.map_append,List.filter_append]
      congr 1
      cases hn:L7 (F8 l x).group
      ·rw [if_neg (by simp)]
       show [(F8 l x).group]=List.filter (fun g=>!L7 g) [(F8 l x).group]
       rw [List.filter_cons_of_pos (p:=fun g=>!L7 g) (by rw [hn];rfl)];rfl
      ·rw [if_pos rfl]
       show []=List.filter (fun g=>!L7 g) [(F8 l x).group]
       rw [List.filter_cons_of_neg (p:=fun g=>!L7 g) (by rw [hn];simp)];rfl
     ·rcases List.mem_append.1 hb with hb | hb
      ·exact ht.pos b hb
      ·rw [List.mem_singleton.1 hb];exact h0
     ·rw [h2]
      refine List.pairwise_append.2 ⟨ht.apart,?_,fun y hy z hz=>?_⟩
      ·split
       ·exact .nil
       ·exact List.pairwise_singleton _ _
      ·split at hz
       ·exact absurd hz List.not_mem_nil
       ·rename_i hn
        rw [List.mem_singleton.1 hz]
        rw [Bool.eq_false_iff.2 hn,Bool.false_or,Bool.not_eq_true'] at hg
        unfold inB at hg
        rw [List.any_eq_false] at hg
        exact Bool.eq_false_iff.2 (hg y hy)
    obtain ⟨ys,k1,k2,k3⟩:=ih _ (xs++[(x,off)]) (s+off) hm' ht' h3
    refine ⟨(x,off)::ys,by rw [List.append_assoc] at k1;exact k1,k2.cons_cons x,?_⟩
    rw [List.map_cons,K5,←Int.add_assoc];exact k3
  ·rw [if_neg hg]
   obtain ⟨ys,k1,k2,k3⟩:=ih _ xs s hm' ht hq
   exact ⟨ys,k1,k2.cons _,k3⟩
theorem B8b {σ : Type} {px : σ→PSt} {step : σ→B4→σ} {sm:B4→Bool} {l:List B4} {Q : σ→Int→Prop} (hstep:B2x px step sm l Q) {o:List Int} (ho:∀ x∈o,x.toNat<l.length) {a : σ} {xs:List (Int×Int)} {s:Int} (ht:Tr l (px a) xs) (hq:Q a s) :
  ∃ ys,Tr l (px (W9 px step sm l a o)) (xs++ys)∧(ys.map Prod.fst).Sublist (o.filter fun x=>sm (F8 l x))∧Q (W9 px step sm l a o) (s+A7 (ys.map Prod.snd)) :=
 C4F hstep _ a xs s (fun x hx=>⟨ho x (List.mem_filter.1 hx).1,(List.mem_filter.1 hx).2⟩) ht hq
theorem C0v {items:List Ab.Item} {us0:List B5} {l:List B4} (hf:∀ p∈l,P2 p) (hr:∀ p∈l,H7 p=true):B2x (fun p:PSt=>p) (A4a items) S7 l (fun p s=>A6j items p.us∧Off us0 p.us s):=by
 intro a s pr hm hs hq
 have hk:pr.kind≠7:=by simpa [S7] using hs
 unfold A4a
 by_cases h:(X8 items a.us pr).2>0
 ·rw [if_pos h]
  rcases B8e hq.1 (hf _ hm) (hr _ hm) hk with e | e
  ·rw [e] at h;exact absurd h (by decide)
  ·exact .inr ⟨_,by omega,rfl,rfl,hq.1.off e,hq.2.trans e⟩
 ·rw [if_neg h]
  exact .inl ⟨rfl,rfl,hq⟩
theorem B9v {net fee fee0:Int} {l:List B4} (hr:∀ p∈l,H7 p=true):B2x (fun a:PSt×Int=>a.1) (T4 net) Y5 l (fun a s=>0≤a.2∧a.2≤fee∧a.2+s=fee0):=by
 intro a s pr hm hs hq
 have hk:pr.kind=7:=by simpa [Y5] using hs
 have h7:=(A2X (hr _ hm)).ship hk
 have hb:=S4 a.2 pr.rate
 have hle:=A4q hq.1 (show 0≤pr.rate by omega) h7.2
 unfold T4 A6s
 by_cases h:net<pr.least
 ·rw [if_pos h];exact .inl ⟨rfl,rfl,hq⟩
 ·rw [if_neg h]
  by_cases h2:J2 a.2 pr.rate>0
  ·rw [if_pos h2]
   exact .inr ⟨J2 a.2 pr.rate,by omega,rfl,rfl,by show 0≤a.2 - J2 a.2 pr.rate;omega,by show a.2 - J2 a.2 pr.rate≤_;omega,by show a.2 - J2 a.2 pr.rate+(s+J2 a.2 pr.rate)=_;omega⟩
  ·rw [if_neg h2]
   exact .inl ⟨rfl,rfl,by show 0≤a.2 - J2 a.2 pr.rate;omega,by show a.2 - J2 a.2 pr.rate≤_;omega,by show a.2 - J2 a.2 pr.rate+s=_;omega⟩
theorem A5f (a b:List B5) (j:Nat):G8 (a++b) j=G8 a j+G8 b j:=by
 unfold G8;rw [List.filter_append,List.map_append,G6]
theorem B4t (l:List G1) (i j n:Nat):G8 (List.replicate n (lnU l i)) j=if i=j then n * (l.getD i default).price else 0:=by
 induction n with
 | zero=>show (0:Int)=_;split<;>simp
 | succ n ih =>
  rw [show List.replicate (n+1) (lnU l i)=[lnU l i]++List.replicate n (lnU l i) from rfl,A5f,ih]
  by_cases h:i=j
  ·rw [if_pos h,if_pos h]
   have:G8 [lnU l i] j=(l.getD i default).price:=by
    unfold G8
    rw [List.filter_cons_of_pos (by show (((i:Int)).toNat==j)=true;rw [Int.toNat_natCast,h];simp)]
    show A7 [(l.getD i default).price]=_
    rw [K5];exact Int.add_zero _
   rw [this,show ((n+1:Nat):Int) * (l.getD i default).price=n * (l.getD i default).price+(l.getD i default).price by rw [Int.natCast_add,Int.add_mul];simp]
   omega
  ·rw [if_neg h,if_neg h]
   have:G8 [lnU l i] j=0:=by
    unfold G8
    rw [List.filter_cons_of_neg (by show ¬(((i:Int)).toNat==j)=true;rw [Int.toNat_natCast];simpa using h)];rfl
   rw [this];rfl
theorem B6j (l:List G1) (hl:∀ x∈l,0≤x.qty) (j k:Nat) (hk:k≤l.length):G8 (H0 l k) j=if j<k then (l.getD j default).qty * (l.getD j default).price else 0:=by
 induction k with
 | zero=>rfl
 | succ k ih =>
  show G8 (H0 l k++List.replicate (l.getD k default).qty.toNat (lnU l k)) j=_
  rw [A5f,ih (by omega),B4t]
  have hq:=hl _ (B3 (show k<l.length by omega))
  by_cases e:k=j
  ·subst e
   rw [if_neg (by omega),if_pos rfl,if_pos (by omega),Int.toNat_of_nonneg hq,Int.zero_add]
  ·rw [if_neg e]
   by_cases h:j<k
   ·rw [if_pos h,if_pos (by omega),Int.add_zero]
   ·rw [if_neg h,if_neg (by omega)];rfl
theorem B0c {us us':List B5} {x:Int} (h:Off us us' x) (j:Nat):∀ k,k≤us.length→G8 (us'.take k) j≤G8 (us.take k) j
 | 0,_=>Int.le_refl _
 | k+1,hk=>by
  have ih:=B0c h j k (by omega)
  have hl:=h.len
  rw [W4 (by omega),W4 (by omega),h.line k]
  have:=(h.net k).2
  split<;>omega
theorem B5w (f:Nat→Int) (t:Nat) (x:Int):∀ n,A7 ((List.range n).map fun j=>if t=j then f j+x else f j)=A7 ((List.range n).map f)+if t<n then x else 0
 | 0=>by rw [if_neg (by omega)];rfl
 | n+1=>by
  rw [K9,K9,B5w f t x n]
  by_cases e:t=n
  ·rw [if_pos e,if_neg (by omega),if_pos (by omega)];omega
  ·rw [if_neg e]
   by_cases h:t<n
   ·rw [if_pos h,if_pos (by omega)];omega
   ·rw [if_neg h,if_neg (by omega)];omega
theorem B0Z:∀ n,A7 ((List.range n).map fun _=>(0:Int))=0
 | 0=>rfl
 | n+1=>by rw [K9,B0Z n];rfl
theorem A7q {us:List B5} {n:Nat} (h:∀ k,k<us.length→(gU us k).line.toNat<n):∀ k,k≤us.length→A7 ((List.range n).map (G8 (us.take k)))=A7 (E2 (us.take k))
 | 0,_=>B0Z n
 | k+1,hk=>by
  have ih:=A7q h k (by omega)
  have e1:(G8 (us.take (k+1)))=fun j=>if (gU us k).line.toNat=j then G8 (us.take k) j+(gU us k).net else G8 (us.take k) j:=funext fun j=>W4 (by omega) j
  rw [e1,B5w,ih,if_pos (h k (by omega)),J0 (by omega)]
  unfold E2
  rw [List.map_append,G6]
  show _+(gU us k).net=_+A7 [(gU us k).net]
  rw [K5];show _=_+((gU us k).net+0);omega
structure A9A (r:H8) (codes:List D6) (l:List G1) (Pr:A1r) (xs ys:List (Int×Int)):Prop where
 deals:Pr.deals=C1x r.promos (xs++ys)
 mem:∀ a∈xs++ys,(0≤a.1∧a.1.toNat<r.promos.length)∧Y1 codes (F8 r.promos a.1)=true∧1≤a.2
 sx:(xs.map Prod.fst).Sublist (S9 r.promos codes)
 sy:(ys.map Prod.fst).Sublist (S9 r.promos codes)
 kx:∀ a∈xs,(F8 r.promos a.1).kind≠7
 ky:∀ a∈ys,(F8 r.promos a.1).kind=7
 apart:(A9U r.promos (xs++ys)).Pairwise fun x y=>(y.toList==x.toList)=false
 sum:Pr.net+A7 (xs.map Prod.snd)=J9 l
 len:Pr.nets.length=l.length
 nets:A7 Pr.nets=Pr.net
 each:∀ i,i<l.length→0≤gI Pr.nets i∧gI Pr.nets i≤(l.getD i default).qty * (l.getD i default).price
 ship:0≤Pr.ship∧Pr.ship≤r.ship.fee
 shipSum:Pr.ship+A7 (ys.map Prod.snd)=A0C r.ship (U0 l).length Pr.net
theorem B3e {l:List B4} {codes:List D6} {i:Nat} {x:Int} (h:x∈places l codes i):Y1 codes (F8 l x)=true:=by
 unfold places at h
 obtain ⟨k,hk,rfl⟩:=List.mem_map.1 h
 exact (List.mem_filter.1 hk).2
theorem A8w {r:H8} {codes:List D6} {l:List G1} (hf:Y0 r) (hck:D4 r codes l=0):∃ xs ys,A9A r codes l (T7 r l (S9 r.promos codes) (S9 r.promos codes)) xs ys:=by
 have ck:=A4f hck
 have hok:=ck.lines
 have hu:=B3K hok
 obtain ⟨u1,u2,u3⟩:=A1Q l hok.line l.length (Nat.le_refl _)
 rw [List.take_length] at u1 u2
 have hitl:(C3 r.items l).length=l.length:=List.length_map ..
 have hpl:∀ x∈S9 r.promos codes,(0≤x∧x.toNat<r.promos.length)∧Y1 codes (F8 r.promos x)=true:=fun x hx=>by
  have:=(A2q r.promos codes).mem_iff.1 hx
  exact ⟨A0d this,B3e this⟩
 have hlt:∀ x∈S9 r.promos codes,x.toNat<r.promos.length:=fun x hx=>(hpl x hx).1.2
 obtain ⟨xs,a1,a2,a3,a4⟩:=B8b (C0v (items:=C3 r.items l) (us0:=U0 l) hf.fit ck.promo) hlt (a:=⟨U0 l,[],[]⟩) (Tr.start r.promos (U0 l)) ⟨hu,Off.refl hu.ok⟩
 rw [List.nil_append] at a1
 rw [Int.zero_add] at a4
 have hfee:0≤A0C r.ship (U0 l).length (N5 (p1B r l (S9 r.promos codes)))∧A0C r.ship (U0 l).length (N5 (p1B r l (S9 r.promos codes)))≤r.ship.fee:=by
  unfold A0C;have:=ck.fee;split<;>omega
 obtain ⟨ys,b1,b2,b3⟩:=B8b (B9v (net:=N5 (p1B r l (S9 r.promos codes))) (fee:=r.ship.fee) (fee0:=A0C r.ship (U0 l).length (N5 (p1B r l (S9 r.promos codes)))) ck.promo) hlt (a:=(p1B r l (S9 r.promos codes),A0C r.ship (U0 l).length (N5 (p1B r l (S9 r.promos codes))))) (s:=0) a1 ⟨hfee.1,hfee.2,Int.add_zero _⟩
 rw [Int.zero_add] at b3
 have a2':∀ a∈xs,a.1∈S9 r.promos codes∧S7 (F8 r.promos a.1)=true:=fun a ha=>List.mem_filter.1 (a2.subset (List.mem_map.2 ⟨a,ha,rfl⟩))
 have b2':∀ a∈ys,a.1∈S9 r.promos codes∧Y5 (F8 r.promos a.1)=true:=fun a ha=>List.mem_filter.1 (b2.subset (List.mem_map.2 ⟨a,ha,rfl⟩))
 have hus:A6j (C3 r.items l) (p1B r l (S9 r.promos codes)).us:=a3
 have hlen:=a4.len
 have hln:∀ k,k<(p1B r l (S9 r.promos codes)).us.length→(gU (p1B r l (S9 r.promos codes)).us k).line.toNat<l.length:=fun k hk=>by
  have:=(hus.line _ (B3 hk)).2
  rw [hitl] at this;exact this
 have hsm:=A7q hln _ (Nat.le_refl _)
 rw [List.take_length] at hsm
 refine ⟨xs,ys,b1.deals,fun a ha=>?_,a2.trans List.filter_sublist,b2.trans List.filter_sublist,fun a ha=>by simpa [S7] using (a2' a ha).2,fun a ha=>by simpa [Y5] using (b2' a ha).2,by rw [←b1.groups];exact b1.apart,?_,?_,hsm,fun i hi=>?_,⟨b3.1,b3.2.1⟩,b3.2.2⟩
 ·have hp:=b1.pos a ha
  rcases List.mem_append.1 ha with h | h
  ·exact ⟨(hpl _ (a2' a h).1).1,(hpl _ (a2' a h).1).2,hp⟩
  ·exact ⟨(hpl _ (b2' a h).1).1,(hpl _ (b2' a h).1).2,hp⟩
 ·have:=a4.sum
  show A7 (E2 (p1B r l (S9 r.promos codes)).us)+_=_
  exact this.trans u2
 ·show ((List.range l.length).map _).length=_
  rw [List.length_map,List.length_range]
 ·have e:gI (T7 r l (S9 r.promos codes) (S9 r.promos codes)).nets i=G8 (p1B r l (S9 r.promos codes)).us i:=by
   show gI ((List.range l.length).map (G8 (p1B r l (S9 r.promos codes)).us)) i=_
   unfold gI
   rw [List.getD_eq_getElem?_getD,List.getElem?_map,List.getElem?_range hi];rfl
  rw [e]
  have h1:=(A0s hus.ok (p1B r l (S9 r.promos codes)).us.length i).1
  rw [List.take_length] at h1
  have h2:=B0c a4 i _ (Nat.le_refl _)
  rw [List.take_length,List.take_of_length_le (Nat.le_of_eq hlen)] at h2
  have h3:=B6j l (fun x hx=>((Z9 _).1 (hok.line x hx)).1.1) i l.length (Nat.le_refl _)
  rw [if_pos hi] at h3
  have h2':G8 (p1B r l (S9 r.promos codes)).us i≤G8 (H0 l l.length) i:=h2
  exact ⟨h1,by omega⟩
end Go.Proofs.YtbajhapmlfbelaaGreat
namespace Go.Proofs.YtbajhapmlfbelaaGreat
open Go Go.Ab
attribute [local irreducible] upd del
structure A0z (R:H8) (C:List D6) (L:List G1):Prop where
 right:P9 R=true
 fit:Y0 R
 sm:A0w R
 codes:A1a C=true
 ncodes:C.length≤3
 scodes:∀ s∈C,s.size≤12
 lines:A3p L
 check:D4 R C L=0
 few:R.promos.length≤6
 items:R.items.length≤8
 known:∀ n,known R.items (A1n n)=true
 fee:0≤R.ship.fee∧R.ship.fee≤1000000000
theorem C5W (r:H8) (codes:List D6) (l:List G1):A0z (A0g r) (A0e codes) (U6 l):=by
 have hc:=B3h codes
 have hl:=B3j l
 have hr:=A9g r
 have hn:=A1k r.promos
 have hck:D4 (A0g r) (A0e codes) (U6 l)=0:=by
  unfold D4
  rw [if_neg (by rw [hr];simp),if_neg (by rw [hc.1];simp)]
  exact hl.check (A9Z r.items)
 exact ⟨hr,B1w r,B3l r,hc.1,hc.2.1,hc.2.2,hl,hck,by show (L8 r.promos).length≤6;omega,by show (O6 r.items).length≤8;rw [A3h];omega,A9Z r.items,(A4f hck).fee⟩
theorem A0z.promosC {R:H8} {C:List D6} {L:List G1} (h:A0z R C L):promosC R.promos=true:=by
 have:=h.right
 unfold P9 at this
 simp only [Bool.and_eq_true] at this
 exact this.1.1.1.2
def W6 (R:H8) (C:List D6) (L:List G1):A1r:=T7 R L (S9 R.promos C) (S9 R.promos C)
theorem C1G {R:H8} {C:List D6} {L:List G1} (hck:D4 R C L=0) (hf:Y0 R) (hC:Go.Proofs.YtbajhapmlfbelaaGreat.promosC R.promos=true) (hn:R.promos.length≤6) (hi:R.items.length≤8) (hc:C.length≤3) (st:St) :
  S P 18 [G2 R,D2 C,B1 3 G4 L] st fun v s=>v=.tuple [P1 (W6 R C L),eI 0]∧s=st :=
 (price_S B0X R C L hf (by show C.length≤9223372036854775807;omega) (by omega) (by have:=W5 R.promos C R.promos.length;omega) st).mono fun v s ⟨hv,hs⟩=>by
  refine ⟨?_,hs⟩
  rcases hv with ⟨h1,_⟩ | ⟨_,o1,o2,h1,h2,h3⟩
  ·exact absurd hck h1
  ·rw [A7F hC h1,A7F hC h2] at h3;exact h3
theorem A0z.price_S {R:H8} {C:List D6} {L:List G1} (h:A0z R C L) (st:St) :
  S P 18 [G2 R,D2 C,B1 3 G4 L] st fun v s=>v=.tuple [P1 (W6 R C L),eI 0]∧s=st :=
 C1G h.check h.fit h.promosC h.few h.items h.ncodes st
theorem A0z.law {R:H8} {C:List D6} {L:List G1} (h:A0z R C L):∃ xs ys,A9A R C L (W6 R C L) xs ys:=A8w h.fit h.check
structure C5m (L:List G1) (Pr:A1r) (g fee:Int):Prop where
 len:Pr.nets.length=L.length
 at':∀ i,i<L.length→0≤gI Pr.nets i∧gI Pr.nets i≤(L.getD i default).qty * (L.getD i default).price
 sum:A7 Pr.nets=Pr.net
 net:0≤Pr.net∧Pr.net≤g
 ship:0≤Pr.ship∧Pr.ship≤fee
theorem A0z.nets {R:H8} {C:List D6} {L:List G1} (h:A0z R C L):C5m L (W6 R C L) (J9 L) R.ship.fee:=by
 obtain ⟨xs,ys,hl⟩:=h.law
 have h0:∀ x∈(W6 R C L).nets,0≤x:=fun x hx=>by
  obtain ⟨i,hi,rfl⟩:=E3 hx
  exact (hl.each i (by rw [←hl.len];exact hi)).1
 have hx:0≤A7 (xs.map Prod.snd):=C4 fun x hx=>by
  obtain ⟨a,ha,rfl⟩:=List.mem_map.1 hx
  have:=(hl.mem a (List.mem_append_left _ ha)).2.2
  omega
 have hs:=hl.sum
 have hn:=hl.nets
 have:=C4 h0
 exact ⟨hl.len,hl.each,hl.nets,by omega,hl.ship⟩
theorem C5f {t:Tax} {z:L3} {cats:List D6} {nets:List Int} {ship:Int} (h:A0k t z cats nets ship) (st:St) :
  S P (C2K t) [M8 t,A8 (cats.map (E7 z)),A8 nets] st fun v st'=>v=A8 (I6 t (cats.map (E7 z)) nets)∧st'=st:=by
 obtain ⟨r1,r2⟩:=A3I h
 unfold C2K I6
 split
 ·exact B8p t _ _ h.nets r1 r2 st
 ·exact B4b t _ _ h.nets.len r1 r2 st
theorem A0z.taxC {R:H8} {C:List D6} {L:List G1} (h:A0z R C L):taxC R.tax=true:=by
 have:=h.right
 unfold P9 at this
 simp only [Bool.and_eq_true] at this
 exact this.1.1.2
theorem A0z.levy {R:H8} {C:List D6} {L:List G1} (h:A0z R C L) {z:L3} {s:D6} (hz:X7 R.tax.zones s=some z):A0k R.tax z (J7 R L) (W6 R C L).nets (W6 R C L).ship:=by
 have hN:=h.nets
 have hg:=B7Y h.lines.line
 have hl:=h.lines.len
 have hf:=h.fee
 have hsh:=hN.ship
 refine ⟨h.taxC,A9S h.taxC hz,by rw [B1M,hN.len],⟨by rw [hN.len];omega,fun x hx=>?_,by rw [hN.sum];have:=hN.net;omega⟩,by omega⟩
 obtain ⟨i,hi,rfl⟩:=E3 hx
 exact (hN.at' i (by rw [←hN.len];exact hi)).1
def C5X (R:H8) (C:List D6) (L:List G1) (z:L3) (exempt:Bool):A4Q:=A5r R z exempt L (W6 R C L)
theorem A0z.quote_S {R:H8} {C:List D6} {L:List G1} (h:A0z R C L) {z:L3} {s:D6} (hz:X7 R.tax.zones s=some z) (exempt:Bool) (st:St) :
  S P 45 [G2 R,eS s,eB exempt,D2 C,B1 3 G4 L] st fun v st'=>v=.tuple [A0B (C5X R C L z exempt),eI 0]∧st'=st:=by
 have hv:=h.levy hz
 have hk:=(A4f h.check).lines.known
 have hi:=h.items
 have hl:=h.lines.len
 exact Go.Proofs.YtbajhapmlfbelaaGreat.quote_S exempt (fun st=>h.price_S st) (fun st=>A5S _ _ (by omega) (by omega) hk st) (by omega) hv hz (fun st=>C5f hv st) (A8n hv exempt) st
theorem B0.pre {a b:List AV} {s t:St} (h:B0 a s b t):∀ l:List AV,B0 (l++a) s (l++b) t
 | []=>h
 | x::l=>B0.cons (B0.keep [x] s) (B0.pre h l)
abbrev B2P (l:List S3):Nat→AV:=fun k=>T2 (l.getD k default)
theorem ROut.put {ty e n b:Nat} {fo:Nat→AV} {s t:St} {sv:AV} {y:R9} (h:ROut D8 ty e fo n (upd s b y) sv t) (y':R9):ROut D8 ty e fo n (upd s b y') sv (upd t b y'):=by
 have:=ROut.write (y':=y') B2 h (A0 ..)
 rwa [B7] at this
theorem B0r {l:List S3} (h:l.length=0):O7 l=[⟨⟨[],[]⟩,2⟩]:=if_pos h
theorem B0s {l:List S3} (h:l.length≠0):O7 l=(l.take 3).map X0:=if_neg h
theorem C4d {l:List S3} {i:Nat} (hi:i<min l.length 3):((l.take 3).map X0).getD i default=X0 (l.getD i default):=by
 rw [List.getD_eq_getElem?_getD,List.getElem?_map,List.getElem?_take_of_lt (by omega),List.getElem?_eq_getElem (by omega),List.getD_eq_getElem?_getD,List.getElem?_eq_getElem (by omega)];rfl
set_option maxHeartbeats 80000000 in
theorem B4L (p:B4) (id:Int) (st:St):S P 143 [C0 p,eI id] st fun v st'=>v=C0 (A1C p id)∧st'=st:=by
 refine S.post (post:=fun v s=>(∃ W,v=.agg W∧D8 st s∧E0 W (cellsOf (C0 (A1C p id))))∨∃ (pre:List AV) (sv fin:AV) (base:St),v=.agg (pre++[sv,fin])∧B0 [sv] s [B1 3 T2 (O7 p.parts)] base∧D8 st base∧E0 (pre++[B1 3 T2 (O7 p.parts),fin]) (cellsOf (C0 (A1C p id)))) ?_ (fun v s h=>⟨_,st,⟨rfl,rfl⟩,by
   rcases h with ⟨W,h1,h3,h4⟩ | ⟨pre,sv,fin,base,h1,h2,h3,h4⟩
   ·rw [h1];exact (Le.shift (Le.agg h4) _).trans (h3.shift _)
   ·rw [h1]
    refine (B0.agg (B0.pre (B0.cons h2 (B0.keep [fin] _)) pre)).trans ?_
    exact (Le.shift (Le.agg h4) _).trans (h3.shift _)⟩)
 have hScope:=fun s=>B4S p.scope s
 obtain ⟨SC,hSC⟩:∃ SC,SC=P5 p.scope:=⟨_,rfl⟩
 rw [←hSC] at hScope
 have hId:=fun s=>D0c id s
 obtain ⟨I,hI⟩:∃ I,I=idN id:=⟨_,rfl⟩
 rw [←hI] at hId
 have hPr:=fun s=>A1f p.prio 5 (by decide) (by decide) s
 obtain ⟨PR,hPR⟩:∃ PR,PR=C7 p.prio 5:=⟨_,rfl⟩
 rw [←hPR] at hPr
 have hKd:=fun s=>A1f (IntKind.i64.wrap (p.kind - 1)) 7 (by decide) (by decide) s
 have hkm:=E9 (IntKind.i64.wrap (p.kind - 1)) (n:=7) (by decide)
 have hkw:IntKind.i64.wrap (1+C7 (IntKind.i64.wrap (p.kind - 1)) 7)=A2F p:=A9 (by omega) (by omega)
 have hK:=A5o p
 have hP:A1C p id=O3 p id (A2F p):=rfl
 rw [hP]
 generalize A2F p=K at hK hkw ⊢
 clear hP
 generalize C7 (IntKind.i64.wrap (p.kind - 1)) 7=KD at hKd hkw
 obtain ⟨G,hG⟩:∃ G,G=A1B p:=⟨_,rfl⟩
 obtain ⟨C,hC⟩:∃ C,C=A2E p:=⟨_,rfl⟩
 obtain ⟨L,hL⟩:∃ L,L=A2r p:=⟨_,rfl⟩
 have wr:IntKind.i64.wrap (1+C7 p.rate 10000)=1+C7 p.rate 10000:=by have:=E9 p.rate (n:=10000) (by decide);exact A9 (by omega) (by omega)
 have wa:IntKind.i64.wrap (1+C7 p.amount 900)=1+C7 p.amount 900:=by have:=E9 p.amount (n:=900) (by decide);exact A9 (by omega) (by omega)
 have wb:IntKind.i64.wrap (1+C7 p.buy 3)=1+C7 p.buy 3:=by have:=E9 p.buy (n:=3) (by decide);exact A9 (by omega) (by omega)
 have wg:IntKind.i64.wrap (1+C7 p.get 2)=1+C7 p.get 2:=by have:=E9 p.get (n:=2) (by decide);exact A9 (by omega) (by omega)
 have hT5:=fun s=>A8R p.tiers 5000 (by decide) (by decide) s
 obtain ⟨TS,hTS⟩:∃ TS,TS=O8 p.tiers 5000:=⟨_,rfl⟩
 rw [←hTS] at hT5
 have hT6:=fun s=>A8R p.tiers 5 (by decide) (by decide) s
 obtain ⟨TU,hTU⟩:∃ TU,TU=O8 p.tiers 5:=⟨_,rfl⟩
 rw [←hTU] at hT6
 have hA3:=fun s=>O2 p.amount 3000 (by decide) (by decide) s
 obtain ⟨A3,hA⟩:∃ A3,A3=C7 p.amount 3000:=⟨_,rfl⟩
 rw [←hA] at hA3
 refine G0 [2] Tryz.func143 ?_
 intro b4 hb4;conv=>whnf
 refine ⟨[16,17],[1,3,5,8,9,11,13,14],List.range 18,by kernel_rfl,?_⟩;conv=>whnf
 refine ⟨_,fun s _=>N4 (hId s),?_⟩;conv=>whnf
 refine ⟨_,fun s _=>⟨rfl,rfl⟩,?_⟩;conv=>whnf
 refine ⟨_,fun s _=>N4 (hKd s),?_⟩;conv=>whnf
 refine ⟨_,fun s _=>⟨rfl,rfl⟩,?_⟩;conv=>whnf
 refine ⟨_,fun s _=>N4 (hPr s),?_⟩;conv=>whnf
 refine ⟨_,fun s _=>⟨rfl,rfl⟩,?_⟩;conv=>whnf
 refine ⟨_,fun s _=>⟨rfl,rfl⟩,?_⟩;conv=>whnf
 refine ⟨_,fun s _=>N4 (hScope s),?_⟩;conv=>whnf
 intro b5 hb5
 have hne:b4≠b5:=fun e=>by subst e;rw [A0] at hb5;cases hb5
 conv=>whnf
 refine stU (A0 ..) rfl ?_
 rw [B7,hkw]
 have hst:∀ Y:R9,D8 st (upd (upd st b4 ⟨71,15,1,fun _=>H4 r71.zero⟩) b5 Y):=fun Y=>((D8.refl st).upd hb4).upd hb5
 conv=>whnf
 refine I2 (B0q _ _) ?_
 refine I2 (A1f _ 3 (by decide) (by decide) _) ?_
 cases hg:(C7 (A2W p.group) 3==1)
 case' true =>
  have hgv:(⟨#[103]⟩:D6)++B1D ([]++[IntKind.u8.wrap (48+IntKind.u8.wrap (C7 p.group.size 2))])=G:=by rw [hG,B2s];exact (if_pos (by simpa using hg)).symm
  conv=>whnf
  refine I2 (A1f _ 2 (by decide) (by decide) _) ?_
  rw [hgv]
  refine stU (A0 ..) (A5 ..) ?_
  rw [B7]
 case' false =>
  have hG0:(⟨#[]⟩:D6)=G:=by rw [hG];exact (if_neg (by simpa using hg)).symm
 all_goals
  conv=>whnf
  refine I2 (B0q _ _) ?_
  refine I2 (A1f _ 3 (by decide) (by decide) _) ?_
  cases hcd:(C7 (A2W p.code) 3==1)
  case' true =>
   have hcv:A4x p.code.size=C:=by rw [hC];exact (if_pos (by simpa using hcd)).symm
   conv=>whnf
   refine I2 (C0H _ _) ?_
   rw [hcv]
   refine stU (A0 ..) (A5 ..) ?_
   rw [B7]
  case' false =>
   have hC0:(⟨#[]⟩:D6)=C:=by rw [hC];exact (if_neg (by simpa using hcd)).symm
  all_goals
   conv=>whnf
   refine I2 (O2 _ 3 (by decide) (by decide) _) ?_
   cases hl:(C7 p.least 3==1)
   case' true =>
    have hlv:C7 p.least 9000=L:=by rw [hL];exact (if_pos (by simpa using hl)).symm
    conv=>whnf
    refine I2 (O2 _ 9000 (by decide) (by decide) _) ?_
    rw [hlv]
    refine stU (A0 ..) (A5 ..) ?_
    rw [B7]
   case' false =>
    have hL0:(0:Int)=L:=by rw [hL];exact (if_neg (by simpa using hl)).symm
   all_goals
    conv=>whnf
    refine ldV (A0 ..) rfl (by omega) (A5 ..) ?_
    rcases (show K=1∨K=2∨K=3∨K=4∨K=5∨K=6∨K=7 by omega) with rfl | rfl | rfl | rfl | rfl | rfl | rfl
    ·rw [show cellsOf (C0 (O3 p id 1))=[eS (I),eI 1,eI (PR),eS (G),eS (C),eB p.closes,D2 (SC).skus,D2 (SC).cats,eI (L),eI (1+C7 p.rate 10000),eI 0,eI 0,eI 0,B1 3 T2 [],B1 3 Q5 []] from by rw [hI,hPR,hG,hC,hL,hSC];rfl]
     (try subst hG0);(try subst hC0);(try subst hL0)
     conv=>whnf
     refine I2 (O2 _ 10000 (by decide) (by decide) _) ?_
     rw [wr]
     refine stU (A0 ..) (A5 ..) ?_
     rw [B7];conv=>whnf
     refine F2 (A0 ..) (A5 ..) ?_
     refine N1 (by rw [A6 hne];exact A0 ..) rfl ?_
     refine F2 (A0 ..) (A5 ..) ?_
     exact .inl ⟨_,rfl,(hst _).over hb4,E0.cons (Le.refl _) (E0.cons (Le.refl _) (E0.cons (Le.refl _) (E0.cons (Le.refl _) (E0.cons (Le.refl _) (E0.cons (Le.refl _) (E0.cons (Le.refl _) (E0.cons (Le.refl _) (E0.cons (Le.refl _) (E0.cons (Le.refl _) (E0.cons (Le.refl _) (E0.cons (Le.refl _) (E0.cons (Le.refl _) (E0.cons (Le.emp _ _) (E0.cons (Le.emp _ _) (E0.nil)))))))))))))))⟩
    ·rw [show cellsOf (C0 (O3 p id 2))=[eS (I),eI 2,eI (PR),eS (G),eS (C),eB p.closes,D2 (SC).skus,D2 (SC).cats,eI (L),eI 0,eI (1+C7 p.amount 900),eI 0,eI 0,B1 3 T2 [],B1 3 Q5 []] from by rw [hI,hPR,hG,hC,hL,hSC];rfl]
     (try subst hG0);(try subst hC0);(try subst hL0)
     conv=>whnf
     refine I2 (O2 _ 900 (by decide) (by decide) _) ?_
     rw [wa]
     refine stU (A0 ..) (A5 ..) ?_
     rw [B7];conv=>whnf
     refine F2 (A0 ..) (A5 ..) ?_
     refine N1 (by rw [A6 hne];exact A0 ..) rfl ?_
     refine F2 (A0 ..) (A5 ..) ?_
     exact .inl ⟨_,rfl,(hst _).over hb4,E0.cons (Le.refl _) (E0.cons (Le.refl _) (E0.cons (Le.refl _) (E0.cons (Le.refl _) (E0.cons (Le.refl _) (E0.cons (Le.refl _) (E0.cons (Le.refl _) (E0.cons (Le.refl _) (E0.cons (Le.refl _) (E0.cons (Le.refl _) (E0.cons (Le.refl _) (E0.cons (Le.refl _) (E0.cons (Le.refl _) (E0.cons (Le.emp _ _) (E0.cons (Le.emp _ _) (E0.nil)))))))))))))))⟩
    ·rw [show cellsOf (C0 (O3 p id 3))=[eS (I),eI 3,eI (PR),eS (G),eS (C),eB p.closes,D2 (SC).skus,D2 (SC).cats,eI (L),eI (1+C7 p.rate 10000),eI 0,eI (1+C7 p.buy 3),eI (1+C7 p.get 2),B1 3 T2 [],B1 3 Q5 []] from by rw [hI,hPR,hG,hC,hL,hSC];rfl]
     (try subst hG0);(try subst hC0);(try subst hL0)
     conv=>whnf
     refine ⟨[13,15,17],[],List.range 18,by kernel_rfl,?_⟩;conv=>whnf
     refine X9 (O2 _ 10000 (by decide) (by decide) _) ?_
     rw [wr]
     refine X9 (A1f _ 3 (by decide) (by decide) _) ?_
     rw [wb]
     refine X9 (A1f _ 2 (by decide) (by decide) _) ?_
     rw [wg]
     refine stU (A0 ..) (A5 ..) ?_
     rw [B7];conv=>whnf
     refine stU (A0 ..) (A5 ..) ?_
     rw [B7];conv=>whnf
     refine stU (A0 ..) (A5 ..) ?_
     rw [B7];conv=>whnf
     refine F2 (A0 ..) (A5 ..) ?_
     refine N1 (by rw [A6 hne];exact A0 ..) rfl ?_
     refine F2 (A0 ..) (A5 ..) ?_
     exact .inl ⟨_,rfl,(hst _).over hb4,E0.cons (Le.refl _) (E0.cons (Le.refl _) (E0.cons (Le.refl _) (E0.cons (Le.refl _) (E0.cons (Le.refl _) (E0.cons (Le.refl _) (E0.cons (Le.refl _) (E0.cons (Le.refl _) (E0.cons (Le.refl _) (E0.cons (Le.refl _) (E0.cons (Le.refl _) (E0.cons (Le.refl _) (E0.cons (Le.refl _) (E0.cons (Le.emp _ _) (E0.cons (Le.emp _ _) (E0.nil)))))))))))))))⟩
    ·rw [show cellsOf (C0 (O3 p id 4))=[eS (I),eI 4,eI (PR),eS (G),eS (C),eB p.closes,D2 [],D2 [],eI (L),eI 0,eI (A3),eI 0,eI 0,B1 3 T2 (O7 p.parts),B1 3 Q5 []] from by rw [hI,hPR,hG,hC,hL,hA];rfl];conv=>whnf
     refine I2 (hA3 _) ?_
     refine stU (A0 ..) (A5 ..) ?_
     rw [B7];conv=>whnf
     refine stU (A0 ..) (A5 ..) ?_
     rw [B7];conv=>whnf
     refine lp (min p.parts.length 3) [2,4,5,6] (fun i vs s=>∃ sv f,vs=[.fptr (C0 p) 0,.optr 15 b4 0 0,.optr 15 b5 0 0,eI i]∧f 0=.agg ([eS I,eI 4,eI PR,eS G,eS C,eB p.closes,.emp,.emp,eI L,eI 0,eI A3,eI 0,eI 0]++[sv,.emp])∧ROut D8 237 3 (B2P ((p.parts.take 3).map X0)) i (upd (upd st b4 ⟨71,15,1,fun _=>H4 r71.zero⟩) b5 ⟨71,15,1,f⟩) sv s) ?_ ?_
     ·conv=>whnf
      exact ⟨.emp,_,rfl,by (try rw [←hG0]);(try rw [←hC0]);(try rw [←hL0]);first | rfl | (rw [A5];rfl),ROut.start (D8.refl _) _ _ _⟩
     ·rintro i vs s hi ⟨sv,f,rfl,hf,hR⟩
      have hsup:=ROut.sup B2 hR
      have at5:s b5=some ⟨71,15,1,f⟩:=hsup b5 _ (A0 ..)
      have at4:s b4=some ⟨71,15,1,fun _=>H4 r71.zero⟩:=hsup b4 _ (by rw [A6 hne];exact A0 ..)
      have n5:st b5=none:=by rw [A6 (Ne.symm hne)] at hb5;exact hb5
      conv=>whnf
      refine B9 (fun h1=>?_) (fun h1=>?_)<;>rw [h1]<;>simp only [decide_eq_true_eq,decide_eq_false_iff_not] at h1
      case' refine_1 =>
       conv=>whnf
       refine B9 (fun h2=>?_) (fun h2=>?_)<;>rw [h2]<;>simp only [decide_eq_true_eq,decide_eq_false_iff_not] at h2
      case refine_1.refine_1 =>
       have hi':i<min p.parts.length 3:=by omega
       have hsc2:=fun s=>B4S (p.parts.getD (i:Int).toNat default).scope s
       have hpa:=C4d hi'
       have hm2:=E9 (p.parts.getD (i:Int).toNat default).count (n:=2) (by decide)
       have wc:IntKind.i64.wrap (1+C7 (p.parts.getD (i:Int).toNat default).count 2)=1+C7 (p.parts.getD (i:Int).toNat default).count 2:=A9 (by omega) (by omega)
       have hpp:T2 (X0 (p.parts.getD i default))=.agg [D2 (P5 (p.parts.getD (i:Int).toNat default).scope).skus,D2 (P5 (p.parts.getD (i:Int).toNat default).scope).cats,eI (1+C7 (p.parts.getD (i:Int).toNat default).count 2)]:=rfl
       generalize P5 (p.parts.getD (i:Int).toNat default).scope=S2 at hsc2 hpp
       rcases ROut.head hR with rfl | ⟨bp,rfl⟩
       all_goals
        conv=>whnf
        refine ⟨[19,21],[15],List.range 22,by kernel_rfl,?_⟩;conv=>whnf
        refine F2 at5 hf ?_
        refine E1 ?_
        refine X9 (hsc2 _) ?_
        refine E1 ?_
        refine ⟨_,fun s _=>N4 (A1f _ 2 (by decide) (by decide) s),?_⟩;conv=>whnf
        rw [wc]
        refine ⟨_,⟨rfl,rfl⟩,?_⟩;conv=>whnf
        refine ROut.app (q:=C5Y) B2 rfl rfl rfl rfl rfl (f:=B2P ((p.parts.take 3).map X0)) (by show _=T2 _;rw [hpa,hpp];rfl) (by show (i+1) * 56≤140737488355328;omega) hR (fun sv' t2 hR2=>?_)
        have at5':t2 b5=some ⟨71,15,1,f⟩:=ROut.sup B2 hR2 b5 _ (A0 ..)
        rcases ROut.head hR2 with rfl | ⟨bp',rfl⟩
        all_goals
         conv=>whnf
         refine N1 at5' hf ?_
         refine G7 ?_
         exact nx hi' ⟨_,_,by rw [B8 (by omega)],(by rw [A5];rfl),ROut.put hR2 _⟩
      all_goals
       have hie:i=min p.parts.length 3:=by omega
       obtain ⟨s0,hcol,hss⟩:=hR
       rcases hcol with ⟨h0,rfl,rfl⟩ | ⟨h0,bp,g,hbp,rfl,rfl,hgg⟩
       ·have hPP:=B0r (l:=p.parts) (by omega)
        subst h0
        rw [hPP];conv=>whnf
        refine F2 at5 hf ?_
        refine N1 at5 hf ?_
        refine F2 (A0 ..) (A5 ..) ?_
        refine N1 (by rw [A6 hne];exact at4) rfl ?_
        refine F2 (A0 ..) (A5 ..) ?_
        exact .inl ⟨_,rfl,((((D8.refl st).upd hb4).upd hb5).trans hss |>.over n5).over hb4,E0.cons (Le.refl _) (E0.cons (Le.refl _) (E0.cons (Le.refl _) (E0.cons (Le.refl _) (E0.cons (Le.refl _) (E0.cons (Le.refl _) (E0.cons (Le.emp _ _) (E0.cons (Le.emp _ _) (E0.cons (Le.refl _) (E0.cons (Le.refl _) (E0.cons (Le.refl _) (E0.cons (Le.refl _) (E0.cons (Le.refl _) (E0.cons (Le.arr1 (E0.cons (Le.emp _ _) (E0.cons (Le.emp _ _) (E0.cons (Le.refl _) E0.nil))) rfl) (E0.cons (Le.emp _ _) (E0.nil)))))))))))))))⟩
       ·have hPP:=B0s (l:=p.parts) (by omega)
        have hAP:B1 3 T2 (O7 p.parts)=.arr 3 i (B2P ((p.parts.take 3).map X0)):=by unfold B1;rw [hPP,show ((p.parts.take 3).map X0).length=i by rw [List.length_map,List.length_take];omega]
        have hR3:ROut D8 237 3 (B2P ((p.parts.take 3).map X0)) i (upd (upd st b4 ⟨71,15,1,fun _=>H4 r71.zero⟩) b5 ⟨71,15,1,f⟩) (.own 3 bp 0 i) s:=⟨_,.inr ⟨h0,bp,g,hbp,rfl,rfl,hgg⟩,hss⟩
        conv=>whnf
        refine F2 at5 hf ?_
        rw [show ((i:Int)==0)=false by rw [beq_eq_false_iff_ne];omega];conv=>whnf
        refine F2 at5 hf ?_
        refine N1 at4 rfl ?_
        refine F2 (A0 ..) (A5 ..) ?_
        obtain ⟨base,hsh,hsb⟩:=ROut.shift B2 (ROut.write B2 hR3 (b:=b4) (by rw [A6 hne];exact A0 ..))
        refine .inr ⟨[eS I,eI 4,eI PR,eS G,eS C,eB p.closes,.emp,.emp,eI L,eI 0,eI A3,eI 0,eI 0],.own 3 bp 0 i,.emp,base,rfl,by rw [hAP];exact hsh,((((D8.refl st).upd hb4).upd hb5).over hb4).trans hsb,E0.cons (Le.refl _) (E0.cons (Le.refl _) (E0.cons (Le.refl _) (E0.cons (Le.refl _) (E0.cons (Le.refl _) (E0.cons (Le.refl _) (E0.cons (Le.emp _ _) (E0.cons (Le.emp _ _) (E0.cons (Le.refl _) (E0.cons (Le.refl _) (E0.cons (Le.refl _) (E0.cons (Le.refl _) (E0.cons (Le.refl _) (E0.cons (Le.refl _) (E0.cons (Le.emp _ _) (E0.nil)))))))))))))))⟩
    ·rw [show cellsOf (C0 (O3 p id 5))=[eS (I),eI 5,eI (PR),eS (G),eS (C),eB p.closes,D2 (SC).skus,D2 (SC).cats,eI (L),eI 0,eI 0,eI 0,eI 0,B1 3 T2 [],B1 3 Q5 (TS)] from by rw [hI,hPR,hG,hC,hL,hSC,hTS];rfl]
     (try subst hG0);(try subst hC0);(try subst hL0)
     conv=>whnf
     refine I2 (hT5 _) ?_
     refine stU (A0 ..) (A5 ..) ?_
     rw [B7];conv=>whnf
     refine F2 (A0 ..) (A5 ..) ?_
     refine N1 (by rw [A6 hne];exact A0 ..) rfl ?_
     refine F2 (A0 ..) (A5 ..) ?_
     exact .inl ⟨_,rfl,(hst _).over hb4,E0.cons (Le.refl _) (E0.cons (Le.refl _) (E0.cons (Le.refl _) (E0.cons (Le.refl _) (E0.cons (Le.refl _) (E0.cons (Le.refl _) (E0.cons (Le.refl _) (E0.cons (Le.refl _) (E0.cons (Le.refl _) (E0.cons (Le.refl _) (E0.cons (Le.refl _) (E0.cons (Le.refl _) (E0.cons (Le.refl _) (E0.cons (Le.emp _ _) (E0.cons (Le.refl _) (E0.nil)))))))))))))))⟩
    ·rw [show cellsOf (C0 (O3 p id 6))=[eS (I),eI 6,eI (PR),eS (G),eS (C),eB p.closes,D2 (SC).skus,D2 (SC).cats,eI (L),eI 0,eI 0,eI 0,eI 0,B1 3 T2 [],B1 3 Q5 (TU)] from by rw [hI,hPR,hG,hC,hL,hSC,hTU];rfl]
     (try subst hG0);(try subst hC0);(try subst hL0)
     conv=>whnf
     refine I2 (hT6 _) ?_
     refine stU (A0 ..) (A5 ..) ?_
     rw [B7];conv=>whnf
     refine F2 (A0 ..) (A5 ..) ?_
     refine N1 (by rw [A6 hne];exact A0 ..) rfl ?_
     refine F2 (A0 ..) (A5 ..) ?_
     exact .inl ⟨_,rfl,(hst _).over hb4,E0.cons (Le.refl _) (E0.cons (Le.refl _) (E0.cons (Le.refl _) (E0.cons (Le.refl _) (E0.cons (Le.refl _) (E0.cons (Le.refl _) (E0.cons (Le.refl _) (E0.cons (Le.refl _) (E0.cons (Le.refl _) (E0.cons (Le.refl _) (E0.cons (Le.refl _) (E0.cons (Le.refl _) (E0.cons (Le.refl _) (E0.cons (Le.emp _ _) (E0.cons (Le.refl _) (E0.nil)))))))))))))))⟩
    ·rw [show cellsOf (C0 (O3 p id 7))=[eS (I),eI 7,eI (PR),eS (G),eS (C),eB false,D2 [],D2 [],eI (L),eI (1+C7 p.rate 10000),eI 0,eI 0,eI 0,B1 3 T2 [],B1 3 Q5 []] from by rw [hI,hPR,hG,hC,hL];rfl]
     (try subst hG0);(try subst hC0);(try subst hL0)
     conv=>whnf
     refine I2 (O2 _ 10000 (by decide) (by decide) _) ?_
     rw [wr]
     refine stU (A0 ..) (A5 ..) ?_
     rw [B7];conv=>whnf
     refine stU (A0 ..) (A5 ..) ?_
     rw [B7];conv=>whnf
     refine stU (A0 ..) (A5 ..) ?_
     rw [B7];conv=>whnf
     refine F2 (A0 ..) (A5 ..) ?_
     refine N1 (by rw [A6 hne];exact A0 ..) rfl ?_
     refine F2 (A0 ..) (A5 ..) ?_
     exact .inl ⟨_,rfl,(hst _).over hb4,E0.cons (Le.refl _) (E0.cons (Le.refl _) (E0.cons (Le.refl _) (E0.cons (Le.refl _) (E0.cons (Le.refl _) (E0.cons (Le.refl _) (E0.cons (Le.emp _ _) (E0.cons (Le.emp _ _) (E0.cons (Le.refl _) (E0.cons (Le.refl _) (E0.cons (Le.refl _) (E0.cons (Le.refl _) (E0.cons (Le.refl _) (E0.cons (Le.emp _ _) (E0.cons (Le.emp _ _) (E0.nil)))))))))))))))⟩
theorem C3M (i:Nat) (h:i<6):Int.tmod (IntKind.i64.wrap (IntKind.i64.wrap ((i:Int) * 7)+3)) 10=B8I i:=by
 rw [A9 (x:=(i:Int) * 7) (by omega) (by omega),A9 (by omega) (by omega),Int.tmod_eq_emod_of_nonneg (by omega)];rfl
theorem B3k (l:List B4) (st:St):S P 67 [B1 15 C0 l] st fun v st'=>v=B1 15 C0 (L8 l)∧st'=st:=by
 refine A1s (ty:=71) ?_
 have hat:∀ i,i<6→V7 l i=A1C (l.getD (i:Int).toNat default) (Int.tmod (IntKind.i64.wrap (IntKind.i64.wrap ((i:Int) * 7)+3)) 10):=fun i hi=>by rw [C3M i hi];rfl
 have hPl:L8 l=(List.range (min l.length 6)).map (V7 l):=rfl
 rw [hPl]
 have hnext:=A5h (V7 l)
 have hS:=fun i=>B4L (l.getD (i:Nat) default)
 generalize V7 l=F at hat hnext ⊢
 refine G0 [] Tryz.func67 ?_
 refine lp (min l.length 6) [0,3,4] (fun i vs s=>∃ sv,vs=[B1 15 C0 l,sv,eI i]∧F3 71 15 C0 ((List.range i).map F) st sv s) ?_ ?_
 ·conv=>whnf
  exact ⟨.emp,rfl,F3.start _ _ _ _⟩
 ·rintro i vs s hi ⟨sv,rfl,hc⟩
  have hfin:i=min l.length 6→F3 71 15 C0 ((List.range (min l.length 6)).map F) st sv s:=fun e=>by rw [←e];exact hc
  have hlen:((List.range i).map F).length=i:=by rw [List.length_map,List.length_range]
  conv=>whnf
  refine B9 (fun h1=>?_) (fun h1=>?_)<;>rw [h1]<;>simp only [decide_eq_true_eq,decide_eq_false_iff_not] at h1
  ·conv=>whnf
   refine B9 (fun h2=>?_) (fun h2=>?_)<;>rw [h2]<;>simp only [decide_eq_true_eq,decide_eq_false_iff_not] at h2
   ·have hi':i<min l.length 6:=by omega
    have hF:=hat i (by omega)
    conv=>whnf
    refine E1 ?_
    refine C5 (hS (i:Int).toNat _ _) ?_
    generalize hid:Int.tmod (IntKind.i64.wrap (IntKind.i64.wrap ((i:Int) * 7)+3)) 10=ID at hF
    generalize A1C (l.getD (i:Int).toNat default) ID=Y at hF
    conv=>whnf
    refine F3.app (y:=Y) (q:=r71) rfl rfl rfl rfl rfl (by rfl) (by rw [hlen];show (i+1) * 208≤140737488355328;omega) hc (fun sv' t' hc'=>?_);conv=>whnf
    refine G7 ?_
    refine nx hi' ⟨sv',by rw [B8 (by omega)],?_⟩
    rw [hnext,hF];exact hc'
   ·conv=>whnf
    exact hfin (by omega)
  ·conv=>whnf
   exact hfin (by omega)
set_option maxHeartbeats 8000000 in
theorem B4M (r:H8) (st:St):S P 15 [G2 r] st fun v st'=>v=G2 (A0g r)∧st'=st:=by
 have hE:G2 (A0g r)=.agg [B1 4 F1 (O6 r.items),B1 15 C0 (L8 r.promos),eB (M0 r.tax).incl,eB (M0 r.tax).byOrder,eI (M0 r.tax).round,B1 4 Q6 (M0 r.tax).zones,eI (C7 r.ship.fee 900),eI (C7 r.ship.free 3 * 4000),
  eI (20+C7 r.policy.window 60),eI (C7 r.policy.grace 40),eI (1+C7 r.policy.mode 3),eI (C7 r.policy.restock 3 * C7 r.policy.restock 2500),A8 (N6 r.policy.order),A8 (N6 r.policy.credit)]:=rfl
 rw [hE]
 clear hE
 have h1:=E9 r.ship.fee (n:=900) (by decide)
 have h2:=E9 r.ship.free (n:=3) (by decide)
 have h3:=E9 r.policy.window (n:=60) (by decide)
 have h5:=E9 r.policy.mode (n:=3) (by decide)
 have h6:=E9 r.policy.restock (n:=3) (by decide)
 have h7:=E9 r.policy.restock (n:=2500) (by decide)
 have h8:C7 r.policy.restock 3 * C7 r.policy.restock 2500≤2 * 2499:=Int.mul_le_mul (by omega) (by omega) (by omega) (by omega)
 have h9:0≤C7 r.policy.restock 3 * C7 r.policy.restock 2500:=Int.mul_nonneg h6.1 h7.1
 have w1:IntKind.i64.wrap (C7 r.ship.free 3 * 4000)=C7 r.ship.free 3 * 4000:=A9 (by omega) (by omega)
 have w2:IntKind.i64.wrap (20+C7 r.policy.window 60)=20+C7 r.policy.window 60:=A9 (by omega) (by omega)
 have w3:IntKind.i64.wrap (1+C7 r.policy.mode 3)=1+C7 r.policy.mode 3:=A9 (by omega) (by omega)
 have w4:IntKind.i64.wrap (C7 r.policy.restock 3 * C7 r.policy.restock 2500)=C7 r.policy.restock 3 * C7 r.policy.restock 2500:=A9 (by omega) (by omega)
 have m1:=fun s=>O2 r.ship.fee 900 (by decide) (by decide) s
 have m2:=fun s=>O2 r.ship.free 3 (by decide) (by decide) s
 have m3:=fun s=>A1f r.policy.window 60 (by decide) (by decide) s
 have m4:=fun s=>A1f r.policy.grace 40 (by decide) (by decide) s
 have m5:=fun s=>A1f r.policy.mode 3 (by decide) (by decide) s
 have m6:=fun s=>O2 r.policy.restock 3 (by decide) (by decide) s
 have m7:=fun s=>O2 r.policy.restock 2500 (by decide) (by decide) s
 have c1:=fun s=>B4I r.items s
 have c2:=fun s=>B3k r.promos s
 have c3:∀ s,S P 68 [M8 r.tax] s fun v st'=>v=.agg [eB (M0 r.tax).incl,eB (M0 r.tax).byOrder,eI (M0 r.tax).round,B1 4 Q6 (M0 r.tax).zones]∧st'=s:=fun s=>B9b r.tax s
 have c4:=fun s=>A8Q r.policy.order s
 have c5:=fun s=>A8Q r.policy.credit s
 clear h1 h2 h3 h5 h6 h7 h8 h9
 generalize C7 r.ship.fee 900=M1 at *
 generalize C7 r.ship.free 3=M2 at *
 generalize C7 r.policy.window 60=M3 at *
 generalize C7 r.policy.grace 40=M4 at *
 generalize C7 r.policy.mode 3=M5 at *
 generalize C7 r.policy.restock 3=M6 at *
 generalize C7 r.policy.restock 2500=M7 at *
 generalize O6 r.items=V1 at *
 generalize L8 r.promos=V2 at *
 generalize M0 r.tax=V3 at *
 generalize N6 r.policy.order=V4 at *
 generalize N6 r.policy.credit=V5 at *
 refine A2a ?_
 refine G0 [1,3] Tryz.func15 ?_
 intro b2 hb;conv=>whnf
 refine ⟨[45],[],List.range 46,by kernel_rfl,?_⟩;conv=>whnf
 refine X9 (c1 _) ?_
 refine X9 (c2 _) ?_
 refine X9 (c3 _) ?_
 refine X9 (m1 _) ?_
 refine X9 (m2 _) ?_
 rw [w1]
 refine X9 (m3 _) ?_
 rw [w2]
 refine X9 (m4 _) ?_
 refine X9 (m5 _) ?_
 rw [w3]
 refine X9 (m6 _) ?_
 refine X9 (m7 _) ?_
 rw [w4]
 refine X9 (c4 _) ?_
 refine X9 (c5 _) ?_
 refine N1 (A0 ..) rfl ?_
 refine F2 (A0 ..) (A5 ..) ?_
 exact ⟨rfl,((D8.refl st).upd hb).over hb⟩
theorem C5G (r:H8) (codes:List D6) (l:List G1) (st:St):S P 44 [G2 r,D2 codes,B1 3 G4 l] st fun v st'=>v=.bool (B5Y r&&(decide ((codes.length:Int)<30)&&decide ((l.length:Int)<40)))∧st'=st:=by
 refine G0 [3] Tryz.func44 ?_
 refine I2 (C6R r _) ?_
 generalize B5Y r=a
 cases a
 ·conv=>whnf
  exact ⟨rfl,rfl⟩
 ·conv=>whnf
  refine B9 (fun h=>?_) (fun h=>?_)<;>rw [h]<;>(conv=>whnf)<;>exact ⟨rfl,rfl⟩
theorem B6A (r:H8) (codes:List D6) (l:List G1) (hn:r.promos.length<9223372036854775807) (hsm:A0w r) (hR:P9 r=false) (st:St) :
  S P 19 [G2 r,D2 codes,B1 3 G4 l] st fun v st'=>v=.tuple [P1 ⟨[],0,0,[]⟩,eI 10]∧st'=st:=by
 refine S.post (post:=fun v st'=>v=.tuple [.agg [.emp,eI 0,eI 0,.emp],eI 10]∧D8 st st') ?_ (fun v st' ⟨hv,hs⟩=>by
  subst hv
  refine ⟨_,st,⟨rfl,rfl⟩,?_⟩
  refine (hs.shift _).trans (B0.tuple (B0.cons (B0.agg ?_) (B0.keep _ _)) rfl)
  exact B0.cons (K4 1 _) (B0.cons (B0.keep [eI 0] _) (B0.cons (B0.keep [eI 0] _) (K4 2 _))))
 have n1:=fun s=>B4Y r hn hsm s
 rw [hR] at n1
 refine G0 [3,15,20] Tryz.func19 ?_
 intro b6 hb6;conv=>whnf
 refine C5 (n1 _) ?_
 have h6s:∀ x:R9,D8 st (upd st b6 x):=fun x=>(D8.refl st).upd hb6
 conv=>whnf
 refine N1 (A0 ..) rfl ?_
 refine F2 (A0 ..) (A5 ..) ?_
 exact ⟨rfl,(h6s _).over hb6⟩
theorem B4W (r:H8) (codes:List D6) (l:List G1) (hf:Y0 r) (hsm:A0w r) (hn:r.promos.length<9223372036854775807) (hcn:Sm codes.length) (hcs:∀ s∈codes,Sm s.size) (hln:Sm l.length) (st:St) :
  S P 19 [G2 r,D2 codes,B1 3 G4 l] st fun v st' =>
   v=(if D4 r codes l=0 then .tuple [P1 (T7 r l (S9 r.promos codes) (S9 r.promos codes)),eI 0] else .tuple [P1 ⟨[],0,0,[]⟩,eI (D4 r codes l)])∧st'=st:=by
 cases hR:P9 r
 ·have hp:D4 r codes l=10:=if_pos hR
  rw [hp,if_neg (by decide)]
  exact B6A r codes l hn hsm hR st
 ·exact C1T r codes l hf hsm hR hcn hcs hln st
def xch (f:Nat→Int) (x y n k:Nat):Int:=if x≤k∧k<x+n then f (k - x+y) else if y≤k∧k<y+n then f (k - y+x) else f k
def A2H (f:Nat→Int) (a m e k:Nat):Int:=if k<a then f k else if k<a+(e - m) then f (k+(m - a)) else if k<e then f (k - (e - m)) else f k
theorem C2a {f g:Nat→Int} {m i j:Nat} (him:i≤m) (hij:j<i) (hg:∀ k,g k=xch f (m - i) m j k) (k:Nat):A2H g (m - i+j) m (m+j) k=A2H f (m - i) m (m+j) k:=by
 unfold A2H
 simp only [hg,xch]
 repeat' split
 all_goals first | (exfalso;omega) | (congr 1<;>omega)
theorem B9q {f g:Nat→Int} {m i j:Nat} (him:i≤m) (hij:i<j) (hg:∀ k,g k=xch f (m - i) (m+j - i) i k) (k:Nat):A2H g (m - i) m (m+j - i) k=A2H f (m - i) m (m+j) k:=by
 unfold A2H
 simp only [hg,xch]
 repeat' split
 all_goals first | (exfalso;omega) | (congr 1<;>omega)
theorem C2b {f g:Nat→Int} {m i:Nat} (him:i≤m) (hg:∀ k,g k=xch f (m - i) m i k) (k:Nat):g k=A2H f (m - i) m (m+i) k:=by
 unfold A2H
 simp only [hg,xch]
 repeat' split
 all_goals first | (exfalso;omega) | (congr 1<;>omega)
theorem B5e {f:Nat→Int} {s m t:Nat} (h:s=m∨m=t) (h1:s≤m) (h2:m≤t) (k:Nat):A2H f s m t k=f k:=by
 unfold A2H
 repeat' split
 all_goals first | rfl | (exfalso;omega) | (congr 1<;>omega)
structure Mid (lt:Int→Int→Bool) (f:Nat→Int) (s0 s r r0 p:Nat):Prop where
 le:s0≤s∧s≤r∧r≤r0
 lo:∀ c,s0≤c→c<s→lt (f (p - c)) (f c)=false
 hi:∀ c,r≤c→c<r0→lt (f (p - c)) (f c)=true
theorem Mid.low {lt:Int→Int→Bool} (ho:Ord lt) {f:Nat→Int} {s0 s r r0 p a m e c:Nat} (h:Mid lt f s0 s r r0 p) (hc:s≤c∧c<r) (ha:a≤s0) (hm:r0≤m) (hp:∀ k,s0≤k→k<r0→m≤p - k∧p - k<e∧k≤p)
  (hl:∀ x y,a≤x→x<y→y<m→lt (f y) (f x)=false) (hr:∀ x y,m≤x→x<y→y<e→lt (f y) (f x)=false) (hn:lt (f (p - c)) (f c)=false):Mid lt f s0 (c+1) r r0 p:=by
 obtain ⟨h1,h2,h3⟩:=h.le
 refine ⟨⟨by omega,by omega,h3⟩,fun k hk hkc=>?_,h.hi⟩
 by_cases e1:k=c
 ·subst e1;exact hn
 ·have g1:=hl k c (by omega) (by omega) (by omega)
  obtain ⟨q1,q2,q3⟩:=hp c (by omega) (by omega)
  obtain ⟨u1,u2,u3⟩:=hp k (by omega) (by omega)
  have g2:=hr (p - c) (p - k) (by omega) (by omega) (by omega)
  exact ho.le _ _ _ (ho.le _ _ _ g1 hn) g2
theorem Mid.high {lt:Int→Int→Bool} (ho:Ord lt) {f:Nat→Int} {s0 s r r0 p a m e c:Nat} (h:Mid lt f s0 s r r0 p) (hc:s≤c∧c<r) (ha:a≤s0) (hm:r0≤m) (hp:∀ k,s0≤k→k<r0→m≤p - k∧p - k<e∧k≤p)
  (hl:∀ x y,a≤x→x<y→y<m→lt (f y) (f x)=false) (hr:∀ x y,m≤x→x<y→y<e→lt (f y) (f x)=false) (hn:lt (f (p - c)) (f c)=true):Mid lt f s0 s c r0 p:=by
 obtain ⟨h1,h2,h3⟩:=h.le
 refine ⟨⟨h1,by omega,by omega⟩,h.lo,fun k hk hkr=>?_⟩
 by_cases e1:k=c
 ·subst e1;exact hn
 ·have g1:=hl c k (by omega) (by omega) (by omega)
  obtain ⟨q1,q2,q3⟩:=hp c (by omega) (by omega)
  obtain ⟨u1,u2,u3⟩:=hp k (by omega) (by omega)
  have g2:=hr (p - k) (p - c) (by omega) (by omega) (by omega)
  cases hb:lt (f (p - k)) (f k) with
  | true=>rfl
  | false=>rw [ho.le _ _ _ (ho.le _ _ _ g1 hb) g2] at hn;cases hn
structure Cut (lt:Int→Int→Bool) (f:Nat→Int) (a s mid t e:Nat):Prop where
 le:a≤s∧s≤mid∧mid≤t∧t≤e
 r1:∀ x y,a≤x→x<y→y<s→lt (f y) (f x)=false
 r2:∀ x y,s≤x→x<y→y<mid→lt (f y) (f x)=false
 r3:∀ x y,mid≤x→x<y→y<t→lt (f y) (f x)=false
 r4:∀ x y,t≤x→x<y→y<e→lt (f y) (f x)=false
 cross:∀ x y,a≤x→x<mid→mid≤y→y<e→lt (f y) (f x)=false
theorem C5B {lt:Int→Int→Bool} (ho:Ord lt) {f g:Nat→Int} {a m e mid n s0 r0 s t:Nat} (ham:a<m) (hme:m<e) (hmid:mid=(a+e) / 2) (hn:n=mid+m)
  (h0:s0=if mid<m then n - e else a) (hr0:r0=if mid<m then mid else m) (hM:Mid lt f s0 s s r0 (n - 1)) (ht:t=n - s) (hg:∀ k,g k=A2H f s m t k)
  (hl:∀ x y,a≤x→x<y→y<m→lt (f y) (f x)=false) (hr:∀ x y,m≤x→x<y→y<e→lt (f y) (f x)=false):Cut lt g a s mid t e:=by
 obtain ⟨h1,-,h3⟩:=hM.le
 have b0:a≤s0∧n - s0≤e∧r0≤m∧r0≤mid∧(s0=a∨n - s0=e)∧(r0=m∨r0=mid):=by split at h0<;>split at hr0<;>omega
 obtain ⟨b1,b2,b3,b4,b5,b6⟩:=b0
 have A1:∀ k,a≤k→k<s→g k=f k:=fun k _ hk=>by rw [hg];unfold A2H;rw [if_pos hk]
 have A2:∀ k,s≤k→k<mid→g k=f (k+(m - s)):=fun k h1 h2=>by rw [hg];unfold A2H;rw [if_neg (by omega),if_pos (by omega)]
 have A3:∀ k,mid≤k→k<t→g k=f (k - (t - m)):=fun k h1 h2=>by rw [hg];unfold A2H;rw [if_neg (by omega),if_neg (by omega),if_pos (by omega)]
 have A4:∀ k,t≤k→k<e→g k=f k:=fun k h1 h2=>by rw [hg];unfold A2H;rw [if_neg (by omega),if_neg (by omega),if_neg (by omega)]
 have lle:∀ x y,a≤x→x≤y→y<m→lt (f y) (f x)=false:=fun x y h1 h2 h3=>by
  by_cases e1:x=y
  ·subst e1;exact ho.irrefl _
  ·exact hl x y h1 (by omega) h3
 have rle:∀ x y,m≤x→x≤y→y<e→lt (f y) (f x)=false:=fun x y h1 h2 h3=>by
  by_cases e1:x=y
  ·subst e1;exact ho.irrefl _
  ·exact hr x y h1 (by omega) h3
 refine ⟨⟨by omega,by omega,by omega,by omega⟩,fun x y h1 h2 h3=>?_,fun x y h1 h2 h3=>?_,fun x y h1 h2 h3=>?_,fun x y h1 h2 h3=>?_,fun x y h1 h2 h3 h4=>?_⟩
 ·rw [A1 x (by omega) (by omega),A1 y (by omega) (by omega)];exact hl x y h1 h2 (by omega)
 ·rw [A2 x (by omega) (by omega),A2 y (by omega) (by omega)];exact hr _ _ (by omega) (by omega) (by omega)
 ·rw [A3 x (by omega) (by omega),A3 y (by omega) (by omega)];exact hl _ _ (by omega) (by omega) (by omega)
 ·rw [A4 x (by omega) (by omega),A4 y (by omega) (by omega)];exact hr x y (by omega) h2 h3
 ·by_cases ex:x<s
  ·rw [A1 x h1 ex]
   by_cases ey:y<t
   ·rw [A3 y h3 ey];exact lle _ _ h1 (by omega) (by omega)
   ·rw [A4 y (by omega) h4]
    have hs:s0<s:=by omega
    have hc:=hM.lo (s - 1) (by omega) (by omega)
    have e1:n - 1 - (s - 1)=t:=by omega
    rw [e1] at hc
    exact ho.le _ _ _ (ho.le _ _ _ (lle x (s - 1) h1 (by omega) (by omega)) hc) (rle t y (by omega) (by omega) h4)
  ·rw [A2 x (by omega) h2]
   by_cases ey:y<t
   ·rw [A3 y h3 ey]
    have hs:s<r0:=by omega
    have hc:=ho.asymm _ _ (hM.hi s (Nat.le_refl _) hs)
    have e1:n - 1 - s=t - 1:=by omega
    rw [e1] at hc
    exact ho.le _ _ _ (ho.le _ _ _ (rle (x+(m - s)) (t - 1) (by omega) (by omega) (by omega)) hc) (lle s _ (by omega) (by omega) (by omega))
   ·rw [A4 y (by omega) h4];exact rle _ _ (by omega) (by omega) h4
structure S3 (lt:Int→Int→Bool) (f g:Nat→Int) (a e:Nat):Prop where
 srt:∀ x y,a≤x→x<y→y<e→lt (g y) (g x)=false
 out:∀ k,k<a∨e≤k→g k=f k
 frm:∀ k,a≤k→k<e→∃ k',a≤k'∧k'<e∧g k=f k'
theorem Cut.join {lt:Int→Int→Bool} {f g h:Nat→Int} {a s mid t e:Nat} (hc:Cut lt f a s mid t e) (h1:S3 lt f g a mid) (h2:S3 lt g h mid e):S3 lt f h a e:=by
 obtain ⟨l1,l2,l3,l4⟩:=hc.le
 have lo:∀ k,a≤k→k<mid→∃ k',a≤k'∧k'<mid∧h k=f k':=fun k q1 q2=>by rw [h2.out k (.inl q2)];exact h1.frm k q1 q2
 have hi:∀ k,mid≤k→k<e→∃ k',mid≤k'∧k'<e∧h k=f k':=fun k q1 q2=>by
  obtain ⟨k',u1,u2,u3⟩:=h2.frm k q1 q2
  exact ⟨k',u1,u2,u3.trans (h1.out k' (.inr u1))⟩
 refine ⟨fun x y q1 q2 q3=>?_,fun k hk=>?_,fun k q1 q2=>?_⟩
 ·by_cases ey:y<mid
  ·rw [h2.out x (.inl (by omega)),h2.out y (.inl ey)];exact h1.srt x y q1 q2 ey
  ·by_cases ex:x<mid
   ·obtain ⟨x',u1,u2,u3⟩:=lo x q1 ex
    obtain ⟨y',v1,v2,v3⟩:=hi y (by omega) q3
    rw [u3,v3];exact hc.cross x' y' u1 u2 v1 v2
   ·exact h2.srt x y (by omega) q2 q3
 ·rw [h2.out k (by omega),h1.out k (by omega)]
 ·by_cases ek:k<mid
  ·obtain ⟨k',u1,u2,u3⟩:=lo k q1 ek;exact ⟨k',u1,by omega,u3⟩
  ·obtain ⟨k',u1,u2,u3⟩:=hi k (by omega) q2;exact ⟨k',by omega,u2,u3⟩
theorem S3.refl {lt:Int→Int→Bool} {f:Nat→Int} {a e:Nat} (h:∀ x y,a≤x→x<y→y<e→lt (f y) (f x)=false):S3 lt f f a e:=⟨h,fun _ _=>rfl,fun k h1 h2=>⟨k,h1,h2,rfl⟩⟩
theorem C1Z {f g:Nat→Int} {a s m t e:Nat} (h1:a≤s) (h2:s≤m) (h3:m≤t) (h4:t≤e) (hg:∀ k,g k=A2H f s m t k):(∀ k,k<a∨e≤k→g k=f k)∧∀ k,a≤k→k<e→∃ k',a≤k'∧k'<e∧g k=f k':=by
 refine ⟨fun k hk=>?_,fun k q1 q2=>?_⟩
 ·rw [hg];unfold A2H
  repeat' split
  all_goals first | rfl | (exfalso;omega)
 ·rw [hg];unfold A2H
  repeat' split
  ·exact ⟨k,q1,q2,rfl⟩
  ·exact ⟨_,by omega,by omega,rfl⟩
  ·exact ⟨_,by omega,by omega,rfl⟩
  ·exact ⟨k,q1,q2,rfl⟩
theorem S3.turned {lt:Int→Int→Bool} {f g h:Nat→Int} {a e:Nat} (ho:∀ k,k<a∨e≤k→g k=f k) (hf:∀ k,a≤k→k<e→∃ k',a≤k'∧k'<e∧g k=f k') (hp:S3 lt g h a e):S3 lt f h a e :=
 ⟨hp.srt,fun k hk=>(hp.out k hk).trans (ho k hk),fun k h1 h2=>by
  obtain ⟨k',u1,u2,u3⟩:=hp.frm k h1 h2
  obtain ⟨k2,v1,v2,v3⟩:=hf k' u1 u2
  exact ⟨k2,v1,v2,u3.trans v3⟩⟩
def B0j (f:Nat→Int) (a k q:Nat):Int:=if a≤q∧q<k then f (q+1) else if q=k then f a else f q
def B0i (f:Nat→Int) (m k q:Nat):Int:=if k<q∧q≤m then f (q - 1) else if q=k then f m else f q
theorem C4I {lt:Int→Int→Bool} (ho:Ord lt) {f g:Nat→Int} {a i e:Nat} (hai:a<i) (hie:i≤e) (hr:∀ x y,a+1≤x→x<y→y<e→lt (f y) (f x)=false)
  (hlo:∀ k,a+1≤k→k<i→lt (f k) (f a)=true) (hhi:∀ k,i≤k→k<e→lt (f k) (f a)=false) (hg:∀ q,g q=B0j f a (i - 1) q):S3 lt f g a e:=by
 refine ⟨fun x y h1 h2 h3=>?_,fun k hk=>?_,fun k h1 h2=>?_⟩
 ·rw [hg,hg];unfold B0j
  repeat' split
  all_goals first | (exfalso;omega) | exact hr _ _ (by omega) (by omega) (by omega) | exact ho.asymm _ _ (hlo _ (by omega) (by omega)) | exact hhi _ (by omega) (by omega) | skip
 ·rw [hg];unfold B0j
  repeat' split
  all_goals first | rfl | (exfalso;omega)
 ·rw [hg];unfold B0j
  repeat' split
  all_goals exact ⟨_,by omega,by omega,rfl⟩
theorem C3x {lt:Int→Int→Bool} (ho:Ord lt) {f g:Nat→Int} {a i m:Nat} (hai:a≤i) (him:i≤m) (hr:∀ x y,a≤x→x<y→y<m→lt (f y) (f x)=false)
  (hlo:∀ k,a≤k→k<i→lt (f m) (f k)=false) (hhi:∀ k,i≤k→k<m→lt (f m) (f k)=true) (hg:∀ q,g q=B0i f m i q):S3 lt f g a (m+1):=by
 refine ⟨fun x y h1 h2 h3=>?_,fun k hk=>?_,fun k h1 h2=>?_⟩
 ·rw [hg,hg];unfold B0i
  repeat' split
  all_goals first | (exfalso;omega) | exact hr _ _ (by omega) (by omega) (by omega) | exact ho.asymm _ _ (hhi _ (by omega) (by omega)) | exact hlo _ (by omega) (by omega) | skip
 ·rw [hg];unfold B0i
  repeat' split
  all_goals first | rfl | (exfalso;omega)
 ·rw [hg];unfold B0i
  repeat' split
  all_goals exact ⟨_,by omega,by omega,rfl⟩
theorem B3G {l:List Int} {f:Nat→AV} {i j i' j':Nat} (hf:∀ k,k<l.length→f k=eI (gI l k)) (hi:i<l.length) (hj:j<l.length) (ei:i'=i) (ej:j'=j) (k:Nat) (hk:k<(swI l i j).length) :
  C9 (C9 f i' (eI (gI l j))) j' (eI (gI l i)) k=eI (gI (swI l i j) k):=by
 subst ei;subst ej
 rw [A6e] at hk
 rw [A6O hi hj]
 by_cases e1:k=j'
 ·subst e1;rw [if_pos rfl,A5]
 ·rw [if_neg e1,H3 e1]
  by_cases e2:k=i'
  ·subst e2;rw [if_pos rfl,A5]
  ·rw [if_neg e2,H3 e2];exact hf k hk
theorem A5A (b:Nat) (l:List Int) (n x y m:Nat) (fv:AV) (st:St) (hb:A0o st b l) (hn:n≤l.length) (hy:y+m≤n) (hxy:x+m≤y) (hl:l.length<4611686018427387904) :
  S P 349 [.own 1 b 0 n,eI x,eI y,eI m,fv] st fun v st'=>v=.tuple []∧∃ l',l'.Perm l∧(∀ k,gI l' k=xch (gI l) x y m k)∧A0o st' b l'∧∀ c,c≠b→st' c=st c:=by
 refine G0 [] Tryz.func349 ?_
 refine ⟨[0,1,2,3,10],fun q vs st'=>∃ (i:Nat) (l':List Int),i≤m∧l'.Perm l∧(∀ k,gI l' k=xch (gI l) x y i k)∧A0o st' b l'∧(∀ c,c≠b→st' c=st c)∧q=m - i∧vs=[.own 1 b 0 n,eI x,eI y,eI m,eI i],?_,?_⟩
 ·conv=>whnf
  exact ⟨_,0,l,Nat.zero_le _,List.Perm.refl _,fun k=>by unfold xch;rw [if_neg (by omega),if_neg (by omega)],hb,fun _ _=>rfl,rfl,rfl⟩
 ·rintro q vs st' ⟨i,l',him,hp,hx,⟨f,hst,hf⟩,hfr,rfl,rfl⟩
  have hlen:l'.length=l.length:=hp.length_eq
  conv=>whnf
  refine B9 (fun h=>?_) (fun h=>?_)<;>rw [h]<;>simp only [decide_eq_true_eq,decide_eq_false_iff_not] at h
  ·have hi:i<m:=by omega
   have w1:IntKind.i64.wrap ((x:Int)+(i:Int))=((x+i:Nat):Int):=by rw [A9 (by omega) (by omega)];omega
   have w2:IntKind.i64.wrap ((y:Int)+(i:Int))=((y+i:Nat):Int):=by rw [A9 (by omega) (by omega)];omega
   have f1:f (0+((x+i:Nat):Int).toNat)=eI (gI l' (x+i)):=by rw [show 0+((x+i:Nat):Int).toNat=x+i by omega];exact hf _ (by omega)
   have f2:f (0+((y+i:Nat):Int).toNat)=eI (gI l' (y+i)):=by rw [show 0+((y+i:Nat):Int).toNat=y+i by omega];exact hf _ (by omega)
   have f3:C9 f (0+((x+i:Nat):Int).toNat) (O5 (eI (gI l' (x+i))) 0 (cellsOf (eI (gI l' (y+i))))) (0+((y+i:Nat):Int).toNat)=eI (gI l' (y+i)):=(H3 (by omega)).trans f2
   conv=>whnf
   refine ⟨[21,23],[],List.range 24,by kernel_rfl,?_⟩;conv=>whnf
   try rw [w1]
   try rw [w2]
   refine E1 ?_
   refine F2 hst f2 ?_
   try rw [w1]
   try rw [w2]
   refine E1 ?_
   refine F2 hst f1 ?_
   try rw [w1]
   try rw [w2]
   refine E1 ?_
   refine N1 hst f1 ?_
   try rw [w1]
   try rw [w2]
   refine E1 ?_
   refine N1 (A0 ..) f3 ?_
   refine G7 ?_
   have h1:x+i<l'.length:=by omega
   have h2:y+i<l'.length:=by omega
   refine ⟨m - (i+1),by omega,i+1,swI l' (x+i) (y+i),by omega,(A7O h1 h2).trans hp,fun k=>?_,⟨_,by rw [A0,A6e];rfl,B3G (i':=0+((x+i:Nat):Int).toNat) (j':=0+((y+i:Nat):Int).toNat) hf h1 h2 (by omega) (by omega)⟩,fun c hc=>by rw [A6 hc,A6 hc];exact hfr c hc,rfl,by rw [B8 (by omega)]⟩
   rw [A6O h1 h2,hx,hx,hx]
   unfold xch
   repeat' split
   all_goals first | (exfalso;omega) | (congr 1<;>omega)
  ·obtain rfl:i=m:=by omega
   conv=>whnf
   exact ⟨rfl,l',hp,hx,⟨f,hst,hf⟩,hfr⟩
theorem C2c (b:Nat) (l:List Int) (n a m e:Nat) (fv:AV) (st:St) (hb:A0o st b l) (ham:a<m) (hme:m<e) (he:e≤n) (hn:n≤l.length) (hl:l.length<4611686018427387904) :
  S P 342 [.own 1 b 0 n,eI a,eI m,eI e,fv] st fun v st'=>v=.tuple []∧∃ l',l'.Perm l∧(∀ k,gI l' k=A2H (gI l) a m e k)∧A0o st' b l'∧∀ c,c≠b→st' c=st c:=by
 refine SyW [] Tryz.func342 ?_
 have w1:IntKind.i64.wrap ((m:Int) - (a:Int))=((m - a:Nat):Int):=by rw [A9 (by omega) (by omega)];omega
 have w2:IntKind.i64.wrap ((e:Int) - (m:Int))=((e - m:Nat):Int):=by rw [A9 (by omega) (by omega)];omega
 conv=>whnf
 rw [w1,w2]
 refine ⟨[0,2,4,10,11],fun q vs st'=>∃ (i j:Nat) (l':List Int),0<i∧0<j∧i≤m - a∧j≤e - m∧l'.Perm l∧(∀ k,A2H (gI l') (m - i) m (m+j) k=A2H (gI l) a m e k)∧A0o st' b l'∧(∀ c,c≠b→st' c=st c)∧q=i+j∧vs=[.own 1 b 0 n,eI m,fv,eI i,eI j],?_,?_⟩
 ·conv=>whnf
  exact ⟨_,m - a,e - m,l,by omega,by omega,Nat.le_refl _,Nat.le_refl _,List.Perm.refl _,fun k=>by rw [show m - (m - a)=a by omega,show m+(e - m)=e by omega],hb,fun _ _=>rfl,rfl,rfl⟩
 ·rintro q vs st' ⟨i,j,l',hi0,hj0,hi,hj,hp,hr,hb',hfr,rfl,rfl⟩
  have hlen:l'.length=l.length:=hp.length_eq
  have w3:IntKind.i64.wrap ((m:Int) - (i:Int))=((m - i:Nat):Int):=by rw [A9 (by omega) (by omega)];omega
  conv=>whnf
  refine B9 (fun h=>?_) (fun h=>?_)<;>rw [h]<;>simp only [bne_iff_ne,ne_eq,Bool.not_eq_true',bne_eq_false_iff_eq,beq_iff_eq,beq_eq_false_iff_ne,Bool.not_eq_false'] at h
  ·conv=>whnf
   refine B9 (fun h2=>?_) (fun h2=>?_)<;>rw [h2]<;>simp only [decide_eq_true_eq,decide_eq_false_iff_not] at h2
   ·have w4:IntKind.i64.wrap ((i:Int) - (j:Int))=((i - j:Nat):Int):=by rw [A9 (by omega) (by omega)];omega
    conv=>whnf
    rw [w3]
    refine call (A5A b l' n (m - i) m j fv _ hb' (by omega) (by omega) (by omega) (by omega)) (fun v st1 hv=>?_)
    obtain ⟨rfl,l2,hp2,hx,hb2,hfr2⟩:=hv
    conv=>whnf
    rw [w4]
    refine G7 ?_
    refine ⟨_,?_,i - j,j,l2,by omega,hj0,by omega,hj,hp2.trans hp,fun k=>?_,hb2,fun c hc=>(hfr2 c hc).trans (hfr c hc),rfl,rfl⟩
    ·omega
    ·rw [←hr k,←C2a (f:=gI l') (by omega) (by omega) hx k,show m - (i - j)=m - i+j by omega]
   ·have w4:IntKind.i64.wrap ((j:Int) - (i:Int))=((j - i:Nat):Int):=by rw [A9 (by omega) (by omega)];omega
    have w5:IntKind.i64.wrap ((m:Int)+(j:Int))=((m+j:Nat):Int):=by rw [A9 (by omega) (by omega)];omega
    have w6:IntKind.i64.wrap (((m+j:Nat):Int) - (i:Int))=((m+j - i:Nat):Int):=by rw [A9 (by omega) (by omega)];omega
    conv=>whnf
    rw [w3,w5,w6]
    refine call (A5A b l' n (m - i) (m+j - i) i fv _ hb' (by omega) (by omega) (by omega) (by omega)) (fun v st1 hv=>?_)
    obtain ⟨rfl,l2,hp2,hx,hb2,hfr2⟩:=hv
    conv=>whnf
    rw [w4]
    refine G7 ?_
    refine ⟨_,?_,i,j - i,l2,hi0,by omega,hi,by omega,hp2.trans hp,fun k=>?_,hb2,fun c hc=>(hfr2 c hc).trans (hfr c hc),rfl,rfl⟩
    ·omega
    ·rw [←hr k,←B9q (f:=gI l') (by omega) (by omega) hx k,show m+(j - i)=m+j - i by omega]
  ·obtain rfl:i=j:=by omega
   conv=>whnf
   rw [w3]
   refine call (A5A b l' n (m - i) m i fv _ hb' (by omega) (by omega) (by omega) (by omega)) (fun v st1 hv=>?_)
   obtain ⟨rfl,l2,hp2,hx,hb2,hfr2⟩:=hv
   conv=>whnf
   exact ⟨rfl,l2,hp2.trans hp,fun k=>by rw [←hr k,C2b (f:=gI l') (by omega) hx k],hb2,fun c hc=>(hfr2 c hc).trans (hfr c hc)⟩
end Go.Proofs.YtbajhapmlfbelaaGreat
