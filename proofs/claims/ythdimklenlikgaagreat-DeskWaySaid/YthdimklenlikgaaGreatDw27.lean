/- Part 27 of the proof: contracts of the functions that the law reaches -/
import Derived.Test.YthdimklenlikgaaGreatDw26
set_option maxRecDepth 100000
set_option linter.unusedVariables false
set_option linter.unusedSimpArgs false
namespace Go.Proofs.YthdimklenlikgaaGreat
open Go Go.Ab
attribute [local irreducible] upd del
structure A9a (s:O4):Prop where
 skus:s.skus.length≤100000
 cats:s.cats.length≤100000
structure A6D (r:E8):Prop where
 items:r.items.length≤100000
 promos:r.promos.length≤100000
 scope:∀ p∈r.promos,A9a p.scope
 parts:∀ p∈r.promos,p.parts.length≤100000
 part:∀ p∈r.promos,∀ x∈p.parts,A9a x.scope
 tiers:∀ p∈r.promos,p.tiers.length≤100000
 zones:r.tax.zones.length≤100000
 rates:∀ z∈r.tax.zones,z.rates.length≤100000
 order:r.policy.order.length≤100000
 credit:r.policy.credit.length≤100000
theorem A6Q (s:O4) (h:A9a s) (st:St):S P 190 [J3 s] st fun v st'=>v=J3 s∧st'=st:=by
 have c1:=fun u=>A4E s.skus h.skus u
 have c2:=fun u=>A4E s.cats h.cats u
 refine A2F ?_
 refine A5 [1] B7 mixed Tryz.func190 (by rfl) rfl rfl rfl ?_;conv=>whnf
 intro b2 hb2;conv=>whnf
 refine ⟨[7],[],List.range 8,by kernel_rfl,?_⟩;conv=>whnf
 refine ⟨_,C9 (c1 _),?_⟩;conv=>whnf
 refine ⟨_,C9 (c2 _),?_⟩;conv=>whnf
 refine K4 (A0 ..) rfl (by omega) rfl (by rfl) ?_;conv=>whnf
 refine E9 (A0 ..) rfl (by omega) (A2 ..) ?_;conv=>whnf
 exact ⟨rfl,((F2.refl st).upd hb2).over hb2⟩
def B2I (p:B1) (sv:AV):AV:=.agg [eS p.id,eI p.kind,eI p.prio,eS p.group,eS p.code,eB p.closes,D3 p.scope.skus,D3 p.scope.cats,eI p.least,eI p.rate,eI p.amount,eI p.buy,eI p.get,sv,A7 3 L4 p.tiers]
def B5Y (r:E8) (pv zv:AV):AV:=.agg [A7 4 E3 r.items,pv,eB r.tax.incl,eB r.tax.byOrder,eI r.tax.round,zv,eI r.ship.fee,eI r.ship.free,eI r.policy.window,eI r.policy.grace,eI r.policy.mode,eI r.policy.restock,B3 r.policy.order,B3 r.policy.credit]
def B6z (r:E8) (zv:AV):St→St→Prop:=fun s t=>ROut F2 184 4 (fun k=>S8 (r.tax.zones.getD k default)) r.tax.zones.length s zv t
abbrev prK (r:E8) (k:Nat):B1:=r.promos.getD k default
abbrev A9J (r:E8) (k:Nat):Nat→AV:=fun j=>O9 ((prK r k).parts.getD j default)
abbrev A9K (r:E8) (k:Nat):Nat:=(prK r k).parts.length
abbrev B5L (r:E8) (zv:AV) (sv:Nat→AV) (i:Nat):St→St→Prop:=A2V (B6z r zv) 244 3 (A9J r) (A9K r) sv i
abbrev A1Z (r:E8) (sv:Nat→AV) (i k:Nat):AV:=if k<i then B2I (prK r k) (sv k) else B8 (prK r k)
def A0H (r:E8) (pv zv:AV) (sv:Nat→AV) (i j:Nat):St→St→Prop:=fun s t=>ROut (B5L r zv sv i) 83 15 (A1Z r sv j) r.promos.length s pv t
theorem A2o (r:E8) (zv:AV):G7 (B6z r zv):=M9 C5 _ _ _ _ _
theorem U4 (r:E8) (pv zv:AV) (sv:Nat→AV) (i j:Nat):G7 (A0H r pv zv sv i j):=M9 (A1v (A2o r zv) sv i) _ _ _ _ _
theorem A0H.shift {r:E8} {pv zv:AV} {sv:Nat→AV} {st u:St} (h:A0H r pv zv sv r.promos.length r.promos.length st u):B2 [B5Y r pv zv] u [J2 r] st:=by
 obtain ⟨s0,hc,hch⟩:=h
 obtain ⟨t1,h1,hR⟩:∃ t1,(∀ vs,B2 vs u vs t1)∧ROut (B6z r zv) 83 15 (fun k=>B8 (prK r k)) r.promos.length st pv t1:=by
  rcases hc with ⟨h0,rfl,rfl⟩ | ⟨h0,b,g,hb,rfl,rfl,hg⟩
  ·rw [h0] at hch ⊢
   exact ⟨u,fun vs=>B2.refl _ _,ROut.start hch _ _ _⟩
  ·obtain ⟨t',g',k1,k2,k3,_⟩:=B6N (A2o r zv) (bz:=b) (n:=r.promos.length)
    (pre:=fun k=>[eS (prK r k).id,eI (prK r k).kind,eI (prK r k).prio,eS (prK r k).group,eS (prK r k).code,eB (prK r k).closes,D3 (prK r k).scope.skus,D3 (prK r k).scope.cats,eI (prK r k).least,eI (prK r k).rate,eI (prK r k).amount,eI (prK r k).buy,eI (prK r k).get])
    (post:=fun k=>[A7 3 L4 (prK r k).tiers]) r.promos.length _ _ g (Nat.le_refl _) hch (A0 ..) (fun j hj=>by rw [hg j hj];unfold A1Z;rw [if_pos hj];rfl)
   rw [B6] at k2
   exact ⟨t',k1,_,.inr ⟨h0,b,g',hb,rfl,rfl,fun k hk=>(k3 k hk).trans rfl⟩,k2⟩
 obtain ⟨t2,h2,hZ⟩:=ROut.shift (A2o r zv) hR
 obtain ⟨t3,h3,hS⟩:=ROut.shift C5 hZ
 refine (h1 _).trans ((B2.agg ?_).trans (hS.shift _))
 refine B2.cons (B2.keep _ _) (B2.cons h2 ?_)
 refine B2.cons (B2.keep _ _) (B2.cons (B2.keep _ _) (B2.cons (B2.keep _ _) (B2.cons h3 (B2.keep _ _))))
set_option maxHeartbeats 4000000 in
theorem C1H (r:E8) (h:A6D r) (st:St):S P 104 [J2 r] st fun v st'=>v=J2 r∧st'=st:=by
 have cI:=fun u=>B1Z r.items h.items u
 have cP:=fun u=>B2b r.promos h.promos u
 have cZ:=fun u=>B3C r.tax.zones h.zones u
 have cO:=fun u=>A4D r.policy.order h.order u
 have cC:=fun u=>A4D r.policy.credit h.credit u
 have hn:=h.promos
 have hnz:=h.zones
 refine S.post (post:=fun v u=>∃ pv zv sv,v=B5Y r pv zv∧A0H r pv zv sv r.promos.length r.promos.length st u) ?_ (fun v u hv=>by
  obtain ⟨pv,zv,sv,rfl,hR⟩:=hv
  exact ⟨_,_,⟨rfl,rfl⟩,hR.shift⟩)
 refine A7y [6,8] B7 mixed Tryz.func104 (by rfl) rfl rfl rfl ?_;conv=>whnf
 intro b1 hb1;conv=>whnf
 intro b2 hb2
 have h12:b1≠b2:=fun e=>by subst e;rw [A0] at hb2;cases hb2
 have hn2:st b2=none:=by rw [A8 h12.symm] at hb2;exact hb2
 conv=>whnf
 generalize hst:(upd (upd st b1 _) b2 _:St)=S0
 obtain ⟨f1,at1,hf1⟩:∃ f1:Nat→AV,S0 b1=some ⟨33,14,1,f1⟩∧f1 0=J2 r:=by rw [←hst,A8 h12];exact ⟨_,A0 ..,rfl⟩
 refine .inr ⟨[5,9,11,13,16],.qui 0 (.qui 1 (.qui 2 (.qui 3 (.qui 4 (.qui 6 (.qui 7 (.qui 8 (.qui 10 (.eff 5 [8] (.eff 9 [] (.eff 11 [] (.qui 12 (.eff 13 [] (.qui 14 (.qui 15 (.eff 16 [] (.done))))))))))))))))),by kernel_rfl,?_⟩;conv=>whnf
 refine ⟨_,fun s=>s b1=some ⟨33,14,1,f1⟩,at1,fun s hs=>E9 hs rfl (by omega) hf1 ⟨rfl,rfl⟩,?_⟩;conv=>whnf
 refine ⟨_,fun _=>True,trivial,fun s _=>C9 (cI s),?_⟩;conv=>whnf
 refine ⟨_,fun s=>s b1=some ⟨33,14,1,f1⟩,at1,fun s hs=>E9 hs rfl (by omega) hf1 ⟨rfl,rfl⟩,?_⟩;conv=>whnf
 refine ⟨_,fun s=>s b1=some ⟨33,14,1,f1⟩,at1,fun s hs=>E9 hs rfl (by omega) hf1 ⟨rfl,rfl⟩,?_⟩;conv=>whnf
 refine call (cP _) (fun pv s1 hP=>?_);conv=>whnf
 refine ⟨fun h=>hP.sup b1 _ h,?_⟩;conv=>whnf
 refine call (cZ _) (fun zv s2 hZ=>?_)
 have hR:A0H r pv zv (fun _=>.junk) 0 0 S0 s2:=ROut.congr ⟨s1,hP,s2,hZ,F2.refl _⟩ fun k _=>by unfold A1Z;rw [if_neg (by omega)]
 have pone:pv.one=true:=by rcases ROut.head hR with rfl | ⟨b,rfl⟩<;>rfl
 have hZh:zv=.emp∨∃ b,zv=.own 4 b 0 r.tax.zones.length:=ROut.head (show ROut F2 _ _ _ _ _ zv s2 from ⟨_,hZ,F2.refl _⟩)
 have zone1:zv.one=true:=by rcases hZh with rfl | ⟨b,rfl⟩<;>rfl
 have at1':=(U4 ..).sup hR b1 _ at1
 conv=>whnf
 refine K4 at1' rfl (by omega) hf1 (by rfl) ?_;conv=>whnf
 refine B4L (A0 ..) rfl rfl (by omega) (A2 ..) pone (by decide) ?_;conv=>whnf
 refine B4L (A0 ..) rfl rfl (by omega) (A2 ..) zone1 (by decide) ?_
 rw [B6,B6];conv=>whnf
 generalize hu:(upd s2 b1 _:St)=S2
 obtain ⟨g1,hS2,hg1⟩:∃ g1:Nat→AV,upd s2 b1 ⟨33,14,1,g1⟩=S2∧g1 0=B5Y r pv zv:=by rw [←hu];exact ⟨_,rfl,by rw [A2];rfl⟩
 have hR1:=(U4 ..).write (y':=⟨33,14,1,g1⟩) hR at1
 rw [hS2] at hR1
 clear hu hR at1'
 -- the base
 obtain ⟨f2,at2,hf2⟩:∃ f2:Nat→AV,S0 b2=some ⟨33,14,1,f2⟩∧f2 0=K3 r33.zero:=by rw [←hst];exact ⟨_,A0 ..,rfl⟩
 have fin:∀ {sv:Nat→AV} {i j:Nat} {y y':Q5} {t:St},A0H r pv zv sv i j (upd (upd S0 b1 y) b2 y') t→A0H r pv zv sv i j st t:=fun {sv i j y y' t} hR=>by
  have e:upd (upd S0 b1 y) b2 y'=upd (upd st b1 y) b2 y':=by
   rw [←hst]
   funext c
   by_cases e2:c=b2
   ·subst e2;rw [A0,A0]
   ·rw [A8 e2,A8 e2]
    by_cases e1:c=b1
    ·subst e1;rw [A0,A0]
    ·rw [A8 e1,A8 e2,A8 e1,A8 e1]
  rw [e] at hR
  exact (U4 ..).drop ((U4 ..).drop hR (by rw [A8 h12.symm];exact hn2)) hb1
 obtain ⟨B0,hB0⟩:∃ B0,B0=upd S0 b1 ⟨33,14,1,g1⟩:=⟨_,rfl⟩
 rw [←hB0] at hR1
 have atB:B0 b1=some ⟨33,14,1,g1⟩:=by rw [hB0,A0]
 have at2B:B0 b2=some ⟨33,14,1,f2⟩:=by rw [hB0,A8 h12.symm];exact at2
 have fin2:∀ {sv:Nat→AV} {i j:Nat} {y y':Q5} {t:St},A0H r pv zv sv i j (upd (upd B0 b1 y) b2 y') t→A0H r pv zv sv i j st t:=fun hR=>by
  rw [hB0,B6] at hR;exact fin hR
 clear fin hst at1 hf1 at2 hB0 hS2
 rcases ROut.head hR1 with rfl | ⟨bP,rfl⟩
 case' inl =>
  have hn0:r.promos.length=0:=by
   rcases Nat.eq_zero_or_pos r.promos.length with h | h
   ·exact h
   ·obtain ⟨b,hb⟩:=ROut.own0 hR1 h;cases hb
  conv=>whnf
  refine E9 ((U4 ..).sup hR1 b1 _ atB) rfl (by omega) hg1 ?_;conv=>whnf
  refine A5N [1,2,24,25,26] ?_;conv=>whnf
  intro I
  obtain ⟨sv,hR2⟩:∃ sv,A0H r .emp zv sv r.promos.length r.promos.length B0 S2:=⟨_,by rw [hn0];exact hR1⟩
  obtain ⟨S3,hS3⟩:∃ S3,S3=S2:=⟨_,rfl⟩
  rw [←hS3] at hR2 ⊢
 case' inr =>
  conv=>whnf
  refine E9 ((U4 ..).sup hR1 b1 _ atB) rfl (by omega) hg1 ?_;conv=>whnf
  refine lp r.promos.length [1,2,24,25,26] (fun i vs u=>∃ sv,vs=[.optr 14 b1 0 0,.optr 14 b2 0 0,.own 15 bP 0 r.promos.length,eI r.promos.length,eI i]∧A0H r (.own 15 bP 0 r.promos.length) zv sv i i B0 u) ?_ ?_
  ·conv=>whnf
   exact ⟨_,rfl,hR1⟩
  rintro i vs S3 hi ⟨sv,rfl,hR2⟩
  conv=>whnf
  cases h1:decide ((i:Int)<(r.promos.length:Int))
 case inr.refine_2.true =>
  have hi':=F7 h1
  have hB:=U4 r (.own 15 bP 0 r.promos.length) zv sv i i
  have hp:prK r i∈r.promos:=B4 hi'
  obtain ⟨p,hpe⟩:∃ p,p=prK r i:=⟨_,rfl⟩
  obtain ⟨gP,atP,hgP,-⟩:=ROut.cell (A1v (A2o r zv) sv i) hR2 (by omega)
  have hgi:gP (0+(i:Int).toNat)=B8 p:=by rw [show 0+(i:Int).toNat=i by omega,hgP i hi',hpe];unfold A1Z;rw [if_neg (by omega)]
  rw [←hpe] at hp
  have c1:=fun u=>A6Q p.scope (h.scope _ hp) u
  have c2:=fun u=>B3z p.parts (h.parts _ hp) u
  have c3:=fun u=>B2d p.tiers (h.tiers _ hp) u
  have hm:=h.parts _ hp
  have cS:=fun x (hx:x∈p.parts) u=>A6Q x.scope (h.part _ hp x hx) u
  have hb4':∀ {b4:Nat},S3 b4=none→B0 b4=none:=fun hb=>(hB.sup hR2).none hb
  conv=>whnf
  refine ⟨rfl,⟨by omega,by omega⟩,?_⟩;conv=>whnf
  refine E9 atP rfl (by omega) hgi ?_;conv=>whnf
  intro b4 hb4;conv=>whnf
  refine K4 (A0 ..) rfl (by omega) rfl (by rfl) ?_
  rw [B6];conv=>whnf
  generalize hu:(upd S3 b4 _:St)=S4
  obtain ⟨f4,hS4,hf4⟩:∃ f4:Nat→AV,upd S3 b4 ⟨83,15,1,f4⟩=S4∧f4 0=B8 p:=by rw [←hu];exact ⟨_,rfl,by rw [A2];rfl⟩
  have at4:S4 b4=some ⟨83,15,1,f4⟩:=by rw [←hS4,A0]
  have hR4:=hB.begin (y:=⟨83,15,1,f4⟩) hR2 hb4
  rw [hS4] at hR4
  have hb4B:B0 b4=none:=hb4' hb4
  have h14:b1≠b4:=fun e=>by subst e;rw [atB] at hb4B;cases hb4B
  clear hu hb4' hR2 atP hgP hgi
  refine .inr ⟨[5,10,12,14],.qui 0 (.qui 1 (.qui 2 (.qui 3 (.qui 4 (.qui 6 (.qui 7 (.qui 9 (.eff 5 [7] (.qui 8 (.eff 10 [] (.qui 11 (.eff 12 [] (.qui 13 (.eff 14 [] (.done))))))))))))))),by kernel_rfl,?_⟩;conv=>whnf
  refine ⟨_,fun s=>s b4=some ⟨83,15,1,f4⟩,at4,fun s hs=>E9 hs rfl (by omega) hf4 ⟨rfl,rfl⟩,?_⟩;conv=>whnf
  refine ⟨_,fun _=>True,trivial,fun s _=>C9 (c1 s),?_⟩;conv=>whnf
  refine ⟨_,fun s=>s b4=some ⟨83,15,1,f4⟩,at4,fun s hs=>E9 hs rfl (by omega) hf4 ⟨rfl,rfl⟩,?_⟩;conv=>whnf
  refine ⟨_,fun s=>s b4=some ⟨83,15,1,f4⟩,at4,fun s hs=>E9 hs rfl (by omega) hf4 ⟨rfl,rfl⟩,?_⟩;conv=>whnf
  refine call (c2 _) (fun qv s5 hQ=>?_);conv=>whnf
  refine ⟨fun h=>hQ.sup b4 _ h,?_⟩;conv=>whnf
  refine ⟨_,fun _=>True,trivial,fun s _=>C9 (c3 s),?_⟩
  have hQh:qv=.emp∨∃ b,qv=.own 3 b 0 p.parts.length:=ROut.head (show ROut F2 _ _ _ _ _ qv s5 from ⟨_,hQ,F2.refl _⟩)
  have qone:qv.one=true:=by rcases hQh with rfl | ⟨b,rfl⟩<;>rfl
  conv=>whnf
  refine K4 (hQ.sup b4 _ at4) rfl (by omega) hf4 (by rfl) ?_;conv=>whnf
  refine B4L (A0 ..) rfl rfl (by omega) (A2 ..) qone (by decide) ?_;conv=>whnf
  refine K4 (A0 ..) rfl (by omega) (A2 ..) (by rfl) ?_
  rw [B6,B6];conv=>whnf
  generalize hu:(upd s5 b4 _:St)=S5
  obtain ⟨f5,hS5,hf5⟩:∃ f5:Nat→AV,upd s5 b4 ⟨83,15,1,f5⟩=S5∧f5 0=B2I p qv:=by rw [←hu];exact ⟨_,rfl,by rw [A2];rfl⟩
  clear hu
  obtain ⟨sv',hsv1,hsv2⟩:∃ sv':Nat→AV,(∀ j,j<i→sv' j=sv j)∧A0H r (.own 15 bP 0 r.promos.length) zv sv' (i+1) i (upd B0 b4 ⟨83,15,1,f4⟩) s5∧sv' i=qv:=by
   refine ⟨fun j=>if j=i then qv else sv j,fun j hj=>if_neg (by omega),?_,if_pos rfl⟩
   obtain ⟨s0,hc,hch⟩:=hR4
   refine ⟨s0,H7.congr hc (fun k hk=>?_),B3x (A2o r zv) hch (by show H7 _ _ (A9J r i) _ (A9K r i) _ _;unfold A9J A9K;rw [←hpe];exact hQ)⟩
   unfold A1Z
   by_cases e:k<i
   ·rw [if_pos e,if_pos e]
    show B2I _ (sv k)=B2I _ (if k=i then qv else sv k)
    rw [if_neg (by omega)]
   ·rw [if_neg e,if_neg e]
  obtain ⟨hR5,hsvi⟩:=hsv2
  have hB5:=U4 r (.own 15 bP 0 r.promos.length) zv sv' (i+1) i
  have hR5:=hB5.write (y':=⟨83,15,1,f5⟩) hR5 (A0 ..)
  rw [B6,hS5] at hR5
  have at5:=hB5.sup hR5 b4 _ (A0 ..)
  clear hR4 hQ at4 hS4 hS5 hsv1
  refine E9 at5 rfl (by omega) hf5 ?_
  have hcv:B5L r zv sv' (i+1)=fun s t=>ROut (B5L r zv sv' i) 244 3 (fun j=>O9 (p.parts.getD j default)) p.parts.length s (sv' i) t:=by
   show (fun s t=>ROut _ _ _ (A9J r i) (A9K r i) s (sv' i) t)=_
   unfold A9J A9K;rw [←hpe]
  rw [hsvi] at hcv
  rcases hQh with rfl | ⟨bQ,rfl⟩
  case' inl =>
   conv=>whnf
   refine A5N [1,2,3,4,24,25,26,44,45,46] ?_;conv=>whnf
   intro I
   obtain ⟨S6,hS6⟩:∃ S6,S6=S5:=⟨_,rfl⟩
   have hR6:=hR5
   rw [←hS6] at hR6 ⊢
  case' inr =>
   conv=>whnf
   refine lp p.parts.length [1,2,3,4,24,25,26,44,45,46] (fun k vs w=>vs=[.optr 14 b1 0 0,.optr 14 b2 0 0,eI i,.optr 15 b4 0 0,.own 15 bP 0 r.promos.length,eI r.promos.length,eI i,.own 3 bQ 0 p.parts.length,eI p.parts.length,eI k]∧A0H r (.own 15 bP 0 r.promos.length) zv sv' (i+1) i (upd B0 b4 ⟨83,15,1,f5⟩) w) ?_ ?_
   ·conv=>whnf
    exact ⟨rfl,hR5⟩
   rintro k vs S6 hk ⟨rfl,hR6⟩
   conv=>whnf
   cases h2:decide ((k:Int)<(p.parts.length:Int))
  case inr.refine_2.true =>
   have hk':=F7 h2
   have at6:=hB5.sup hR6 b4 _ (A0 ..)
   obtain ⟨s0,hc,hch⟩:=hR6
   rw [hcv] at hch
   obtain ⟨gQ,atQ,hgQ,putQ⟩:=ROut.cell (A1v (A2o r zv) sv' i) hch (by omega)
   have hgk:gQ (0+(k:Int).toNat)=O9 (p.parts.getD k default):=by rw [show 0+(k:Int).toNat=k by omega];exact hgQ k hk'
   have cX:=fun u=>cS _ (B4 hk') u
   generalize hx:p.parts.getD k default=x at hgk cX
   conv=>whnf
   refine ⟨rfl,⟨by omega,by omega⟩,?_⟩;conv=>whnf
   refine E9 atQ rfl (by omega) hgk ?_;conv=>whnf
   refine .inl ⟨[8],[],List.range 9,by kernel_rfl,?_⟩;conv=>whnf
   refine E9 at6 rfl (by omega) hf5 ?_;conv=>whnf
   refine ⟨_,C9 (cX _),?_⟩;conv=>whnf
   refine ⟨rfl,⟨by omega,by omega⟩,?_⟩;conv=>whnf
   refine K4 atQ rfl (by omega) hgk (by rfl) ?_;conv=>whnf
   refine ⟨rfl,?_⟩;conv=>whnf
   refine nx hk' ⟨by rw [C0 (by omega)],s0,hc,?_⟩
   rw [hcv]
   refine putQ _ _ fun j hj=>?_
   by_cases e:j=k
   ·rw [e,hx,show 0+(k:Int).toNat=k by omega,A2];rfl
   ·rw [G2 (by omega)];exact hgQ j hj
  case' inr.refine_2.false =>
   obtain rfl:=D1 h2 hk
  all_goals
   have at6:=hB5.sup hR6 b4 _ (A0 ..)
   have atB6:=hB5.sup hR6 b1 _ ((A8 h14).trans atB)
   obtain ⟨gP2,atP2,hgP2,putP⟩:=ROut.cell (A1v (A2o r zv) sv' (i+1)) hR6 (by omega)
   have hgi2:gP2 (0+(i:Int).toNat)=B8 p:=by rw [show 0+(i:Int).toNat=i by omega,hgP2 i hi',hpe];unfold A1Z;rw [if_neg (by omega)]
   conv=>whnf
   refine E9 atB6 rfl (by omega) hg1 ?_;conv=>whnf
   refine E9 at6 rfl (by omega) hf5 ?_;conv=>whnf
   refine ⟨rfl,⟨by omega,by omega⟩,?_⟩;conv=>whnf
   refine K4 atP2 rfl (by omega) hgi2 (by rfl) ?_;conv=>whnf
   refine ⟨rfl,?_⟩;conv=>whnf
   refine nx hi' ⟨sv',by rw [C0 (by omega)],(U4 ..).drop (y:=⟨83,15,1,f5⟩) (putP _ (A1Z r sv' (i+1)) fun k hk=>?_) hb4B⟩
   unfold A1Z
   by_cases e:k=i
   ·rw [if_pos (by omega),e,show 0+(i:Int).toNat=i by omega,A2,hsvi,←hpe];rfl
   ·rw [G2 (by omega),hgP2 k hk]
    unfold A1Z
    by_cases e2:k<i
    ·rw [if_pos e2,if_pos (by omega)]
    ·rw [if_neg e2,if_neg (by omega)]
 case' inr.refine_2.false =>
  obtain rfl:=D1 h1 hi
 all_goals
  have atB3:=(U4 ..).sup hR2 b1 _ atB
  conv=>whnf
  refine E9 atB3 rfl (by omega) hg1 ?_
  rcases hZh with rfl | ⟨bz,rfl⟩
  case' inl =>
   conv=>whnf
   refine A5N [1,2,68,69,70] ?_;conv=>whnf
   intro I
   obtain ⟨S7,hS7⟩:∃ S7,S7=S3:=⟨_,rfl⟩
   have hR7:=hR2
   rw [←hS7] at hR7 ⊢
  case' inr =>
   conv=>whnf
   obtain ⟨RR,hRe,hRR⟩:∃ RR:St→St→Prop,RR=A0H r _ _ sv _ _∧RR B0 S3:=⟨_,rfl,hR2⟩
   refine lp r.tax.zones.length [1,2,68,69,70] (fun i vs u=>vs=[.optr 14 b1 0 0,.optr 14 b2 0 0,.own 4 bz 0 r.tax.zones.length,eI r.tax.zones.length,eI i]∧RR B0 u) ?_ ?_
   ·conv=>whnf
    exact ⟨rfl,hRR⟩
   clear hRR
   rintro i vs S7 hi7 ⟨rfl,hR7⟩
   conv=>whnf
   cases h7:decide ((i:Int)<(r.tax.zones.length:Int))
  case inr.refine_2.true =>
   have hi':=F7 h7
   rw [hRe] at hR7
   have hz:r.tax.zones.getD i default∈r.tax.zones:=B4 hi'
   have cz:=fun u=>B3B (r.tax.zones.getD i default) (h.rates _ hz) u
   have atB7:=(U4 ..).sup hR7 b1 _ atB
   obtain ⟨s0,hc,hch⟩:=hR7
   obtain ⟨s',hZ',back⟩:=A6P _ hch
   obtain ⟨gz,atz,hgz,putz⟩:=ROut.cell C5 hZ' (by omega)
   have hgi:gz (0+(i:Int).toNat)=S8 (r.tax.zones.getD i default):=by rw [show 0+(i:Int).toNat=i by omega];exact hgz i hi'
   generalize hx:r.tax.zones.getD i default=x at hgi cz
   conv=>whnf
   refine ⟨rfl,⟨by omega,by omega⟩,?_⟩;conv=>whnf
   refine E9 atz rfl (by omega) hgi ?_;conv=>whnf
   refine .inl ⟨[7],[],List.range 8,by kernel_rfl,?_⟩;conv=>whnf
   refine E9 atB7 rfl (by omega) hg1 ?_;conv=>whnf
   refine ⟨_,C9 (cz _),?_⟩;conv=>whnf
   refine ⟨rfl,⟨by omega,by omega⟩,?_⟩;conv=>whnf
   refine K4 atz rfl (by omega) hgi (by rfl) ?_;conv=>whnf
   refine ⟨rfl,?_⟩;conv=>whnf
   refine nx hi' ⟨by rw [C0 (by omega)],by rw [hRe];refine ⟨s0,hc,back _ (putz _ _ fun j hj=>?_)⟩;exact (by
    by_cases e:j=i
    ·rw [e,hx,show 0+(i:Int).toNat=i by omega,A2];rfl
    ·rw [G2 (by omega)];exact hgz j hj)⟩
  case' inr.refine_2.false =>
   obtain rfl:=D1 h7 hi7
   rw [hRe] at hR7
  all_goals
   have atB7:=(U4 ..).sup hR7 b1 _ atB
   have at27:=(U4 ..).sup hR7 b2 _ at2B
   conv=>whnf
   refine .inl ⟨[10,13],[],List.range 14,by kernel_rfl,?_⟩;conv=>whnf
   refine E9 atB7 rfl (by omega) hg1 ?_;conv=>whnf
   refine ⟨_,C9 (cO _),?_⟩;conv=>whnf
   refine E9 atB7 rfl (by omega) hg1 ?_;conv=>whnf
   refine ⟨_,C9 (cC _),?_⟩;conv=>whnf
   refine K4 atB7 rfl (by omega) hg1 (by rfl) ?_;conv=>whnf
   refine K4 (A0 ..) rfl (by omega) (A2 ..) (by rfl) ?_
   rw [B6];conv=>whnf
   refine E9 (A0 ..) rfl (by omega) (A2 ..) ?_;conv=>whnf
   refine K4 ((A8 h12.symm).trans at27) rfl (by omega) hf2 (by rfl) ?_;conv=>whnf
   refine E9 (A0 ..) rfl (by omega) (A2 ..) ?_;conv=>whnf
   exact ⟨_,_,sv,rfl,fin2 ((U4 ..).write ((U4 ..).write hR7 atB) ((A8 h12.symm).trans at2B))⟩
def Z9 (p:B1):Bool:=!(p.kind==4)&&!(p.kind==7)
def D4 (r:E8) (codes:List D7):List Int:=C2 ((P2 r.promos codes).filter fun x=>Z9 (D5 r.promos x))
def O8 (r:E8) (codes:List D7):O2:=⟨r,codes,[],D4 r codes,(D4 r codes).map fun x=>(D5 r.promos x).scope,[]⟩
theorem A5S {r:E8} {codes:List D7} {x:Int} (h:x∈D4 r codes):0≤x∧x.toNat<r.promos.length :=
 T3 ((P9 _ _).mem_iff.1 (List.mem_filter.1 ((U8 _).mem_iff.1 h)).1)
theorem B3I {α : Type} [Inhabited α] {l:List α} {i:Nat} (h:i<l.length) (p : α→Bool):(l.take (i+1)).filter p=(l.take i).filter p++(if p (l.getD i default)=true then [l.getD i default] else []):=by
 rw [K2 h,List.filter_append]
 congr 1
 by_cases hp:p (l.getD i default)=true
 ·rw [if_pos hp,List.filter_cons_of_pos hp];rfl
 ·rw [if_neg hp,List.filter_cons_of_neg hp];rfl
set_option maxHeartbeats 4000000 in
theorem B1k {N:Nat} (hN:A3h N) (r:E8) (codes:List D7) (hf:A0a r) (hc:codes.length≤Big) (h20:(places r.promos codes r.promos.length).length≤N) (hfew:O0 r=true→A6D r) (st:St) :
  S P 25 [J2 r,D3 codes] st fun v st'=>(O0 r=false∧v=.tuple [.nilp,eI 10]∧st'=st)∨(O0 r=true∧R8 codes=false∧v=.tuple [.nilp,eI 2]∧st'=st) ∨
   (O0 r=true∧R8 codes=true∧∃ bd,v=.tuple [.optr 19 bd 0 0,eI 0]∧A0F bd (O8 r codes) st st'):=by
 refine S.post (post:=fun v st'=>(O0 r=false∧v=.tuple [.nilp,eI 10]∧st'=st)∨(O0 r=true∧R8 codes=false∧v=.tuple [.nilp,eI 2]∧st'=st) ∨
   (O0 r=true∧R8 codes=true∧∃ bd pv cv f,v=.tuple [.optr 19 bd 0 0,eI 0]∧st bd=none∧f 0=A2I (O8 r codes) .emp pv cv .emp ∧
    ROut (fun s t=>ROut F2 3 1 (fun k=>eI (gI (D4 r codes) k)) (D4 r codes).length s pv t) 79 2 (fun k=>J3 ((O8 r codes).scopes.getD k default)) (D4 r codes).length (upd st bd ⟨171,19,1,f⟩) cv st')) ?_ (fun v t' hv=>?_)
 ·have c1:=fun u=>B7g r hf u
  have c2:=fun u=>B6J codes hc u
  refine A7y [2] B7 mixed Tryz.func25 (by rfl) rfl rfl rfl ?_;conv=>whnf
  refine A4 (c1 _) ?_;conv=>whnf
  cases hr:O0 r
  case false =>
   conv=>whnf
   exact .inl ⟨rfl,rfl,rfl⟩
  conv=>whnf
  refine A4 (c2 _) ?_;conv=>whnf
  cases hcc:R8 codes
  case false =>
   conv=>whnf
   exact .inr (.inl ⟨rfl,rfl,rfl,rfl⟩)
  have hfw:=hfew hr
  have hpC:promosC r.promos=true:=by
   unfold O0 at hr
   simp only [Bool.and_eq_true] at hr
   exact hr.1.1.1.2
  have hp60:=(A2x hpC).few
  have hc4:codes.length≤100000:=by
   unfold R8 at hcc
   simp only [Bool.and_eq_true,decide_eq_true_eq] at hcc
   omega
  conv=>whnf
  refine A4 (C1H r hfw _) ?_;conv=>whnf
  refine A4 (A4E codes hc4 _) ?_;conv=>whnf
  intro bd hbd;conv=>whnf
  refine call (B7b hN r.promos codes hp60 (Nat.le_trans hc (by decide)) h20 _) (fun v u hv=>?_)
  obtain ⟨⟨o,ho,rfl⟩,rfl⟩:=hv
  rw [B0a hpC ho]
  have eP:D4 r codes=C2 ((P2 r.promos codes).filter fun x=>Z9 (D5 r.promos x)):=rfl
  have hOm:∀ x∈P2 r.promos codes,0≤x∧x.toNat<r.promos.length:=fun x hx=>T3 ((P9 _ _).mem_iff.1 hx)
  have hOl:(P2 r.promos codes).length≤60:=by
   rw [(P9 _ _).length_eq]
   have:=Q3 r.promos codes r.promos.length
   omega
  clear ho
  generalize P2 r.promos codes=O at eP hOm hOl
  have hFl:∀ i,((O.take i).filter fun x=>Z9 (D5 r.promos x)).length≤60:=fun i=>Nat.le_trans (List.length_filter_le ..) (by rw [List.length_take];omega)
  conv=>whnf
  refine lp O.length [2,6,29,30,31] (fun i vs u=>∃ pv f,vs=[.fptr (J2 r) 0,.optr 19 bd 0 0,B3 O,eI O.length,eI i]∧f 0=A2I (O8 r codes) .emp pv .emp .emp∧ROut F2 3 1 (fun k=>eI (gI ((O.take i).filter fun x=>Z9 (D5 r.promos x)) k)) ((O.take i).filter fun x=>Z9 (D5 r.promos x)).length (upd st bd ⟨171,19,1,f⟩) pv u) ?_ ?_
  ·conv=>whnf
   exact ⟨.emp,_,rfl,rfl,show ROut _ _ _ _ 0 _ _ _ from ROut.start (F2.refl _) _ _ _⟩
  rintro i vs u hi ⟨pv,f,rfl,hf,hR⟩
  have hnx:=fun h=>B3I (l:=O) (i:=i) h fun x=>Z9 (D5 r.promos x)
  have hFi:=hFl i
  obtain ⟨Fi,hFie⟩:∃ Fi,Fi=(O.take i).filter fun x=>Z9 (D5 r.promos x):=⟨_,rfl⟩
  rw [←hFie] at hR hnx hFi
  have atd:=ROut.sup C5 hR bd _ (A0 ..)
  conv=>whnf
  cases h1:decide ((i:Int)<(O.length:Int))
  case true =>
   have hi':=F7 h1
   have hnx:=hnx hi'
   obtain ⟨x,hx⟩:∃ x,x=O.getD (i:Int).toNat default:=⟨_,rfl⟩
   have hxm:=hOm _ (show O.getD i default∈O from B4 hi')
   rw [show O.getD i default=x from hx.symm] at hxm hnx
   have epr:D5 r.promos x=r.promos.getD x.toNat default:=rfl
   conv=>whnf
   refine ⟨rfl,⟨by omega,by omega⟩,?_⟩;conv=>whnf
   rw [←hx]
   refine ⟨rfl,⟨by omega,by omega⟩,?_⟩;conv=>whnf
   rw [←epr]
   have ePl:∀ a b,((D5 r.promos x).kind != 4)=a→((D5 r.promos x).kind != 7)=b→Z9 (D5 r.promos x)=(a&&b):=fun a b ha hb=>by rw [←ha,←hb];rfl
   have off:Z9 (D5 r.promos x)=false→(O.take (i+1)).filter (fun x=>Z9 (D5 r.promos x))=Fi:=fun h=>by rw [hnx,h];simp
   cases h4:((D5 r.promos x).kind != 4)
   case false =>
    conv=>whnf
    refine ⟨rfl,?_⟩;conv=>whnf
    exact nx hi' ⟨pv,f,by rw [C0 (by omega)],hf,by rw [off (ePl _ _ h4 rfl)];exact hR⟩
   conv=>whnf
   cases h7:((D5 r.promos x).kind != 7)
   case false =>
    conv=>whnf
    refine ⟨rfl,?_⟩;conv=>whnf
    exact nx hi' ⟨pv,f,by rw [C0 (by omega)],hf,by rw [off (ePl _ _ h4 h7)];exact hR⟩
   have hon:(O.take (i+1)).filter (fun x=>Z9 (D5 r.promos x))=Fi++[x]:=by rw [hnx,ePl _ _ h4 h7];rfl
   rcases ROut.head hR with rfl | ⟨bp,rfl⟩
   all_goals
    conv=>whnf
    refine E9 atd rfl (by omega) hf ?_;conv=>whnf
    refine ROut.app (q:=r3) C5 rfl rfl rfl rfl rfl (f:=fun k=>eI (gI (Fi++[x]) k)) (by show eI _=eI _;unfold gI;rw [A7I,hx]) (by show (Fi.length+1) * 8≤140737488355328;omega) (ROut.congr hR fun k hk=>by show eI _=eI _;unfold gI;rw [A0c hk]) (fun pv' u' hR'=>?_);conv=>whnf
    refine B4L (ROut.sup C5 hR' bd _ (A0 ..)) rfl rfl (by omega) hf (ROut.one hR') (by decide) ?_;conv=>whnf
    refine ⟨rfl,?_⟩;conv=>whnf
    refine nx hi' ⟨pv',G5 f 0 (A2I (O8 r codes) .emp pv' .emp .emp),by rw [C0 (by omega)],A2 ..,?_⟩
    rw [hon,List.length_append]
    exact ROut.putB C5 hR' _
  case false =>
   obtain rfl:=D1 h1 hi
   have hFe:Fi=O.filter fun x=>Z9 (D5 r.promos x):=by rw [hFie,List.take_length]
   rw [←hFe] at eP
   rw [eP]
   clear hnx hFie hFe hFl hOm
   have hsl:=Q1 Fi
   rcases ROut.head hR with rfl | ⟨bp,rfl⟩
   case' inl =>
    conv=>whnf
    refine E9 atd rfl (by omega) hf ?_;conv=>whnf
    refine call (A5F C5 (by omega) hR) (fun v u2 hv=>?_)
    obtain ⟨rfl,hR2⟩:=hv
    have h0:Fi.length=0:=by
     rcases Nat.eq_zero_or_pos Fi.length with h | h
     ·exact h
     ·obtain ⟨b,hb⟩:=ROut.own0 hR h;cases hb
   case' inr =>
    conv=>whnf
    refine E9 atd rfl (by omega) hf ?_;conv=>whnf
    refine call (A5F C5 (by omega) hR) (fun v u2 hv=>?_)
    obtain ⟨rfl,hR2⟩:=hv
   all_goals
    have atd2:=ROut.sup C5 hR2 bd _ (A0 ..)
    rw [←hsl] at hR2
    have hPm:∀ x∈C2 Fi,0≤x∧x.toNat<r.promos.length:=fun x hx=>A5S (codes:=codes) (by rw [eP];exact hx)
    have hSc:∀ i,i<(C2 Fi).length→(O8 r codes).scopes.getD i default=(D5 r.promos (gI (C2 Fi) i)).scope:=fun i hi=>by
     show ((D4 r codes).map _).getD i default=_
     rw [eP];exact D8 (fun x=>(D5 r.promos x).scope) _ hi
    generalize C2 Fi=PL at hR2 hsl hPm hSc ⊢
   case inl =>
    conv=>whnf
    refine E9 atd2 rfl (by omega) hf ?_;conv=>whnf
    refine A5N [6,66,67,68] ?_;conv=>whnf
    intro I
    refine .inr (.inr ⟨rfl,rfl,bd,.emp,.emp,f,rfl,hbd,hf,?_⟩)
    rw [show PL.length=0 by omega] at hR2 ⊢
    exact ROut.start hR2 _ _ _
   case inr =>
    rw [←hsl] at hf
    have hBP:=M9 C5 3 1 (fun k=>eI (gI PL k)) PL.length (.own 1 bp 0 PL.length)
    conv=>whnf
    refine E9 atd2 rfl (by omega) hf ?_;conv=>whnf
    refine lp PL.length [6,66,67,68] (fun i vs u=>∃ cv f,vs=[.optr 19 bd 0 0,.own 1 bp 0 PL.length,eI PL.length,eI i]∧f 0=A2I (O8 r codes) .emp (.own 1 bp 0 PL.length) cv .emp∧ROut (fun s t=>ROut F2 3 1 (fun k=>eI (gI PL k)) PL.length s (.own 1 bp 0 PL.length) t) 79 2 (fun k=>J3 ((O8 r codes).scopes.getD k default)) i (upd st bd ⟨171,19,1,f⟩) cv u) ?_ ?_
    ·conv=>whnf
     exact ⟨.emp,f,rfl,hf,ROut.start hR2 _ _ _⟩
    clear hR2 hf atd2 hR atd
    rintro i vs u hi ⟨cv,f,rfl,hf,hR⟩
    have atd:=ROut.sup hBP hR bd _ (A0 ..)
    conv=>whnf
    cases h2:decide ((i:Int)<(PL.length:Int))
    case false =>
     obtain rfl:=D1 h2 hi
     conv=>whnf
     exact .inr (.inr ⟨rfl,rfl,bd,.own 1 bp 0 PL.length,cv,f,rfl,hbd,hf,hR⟩)
    have hi':=F7 h2
    obtain ⟨s0,hcS,hin⟩:=id hR
    obtain ⟨gp,atp,hgp,-⟩:=ROut.cell C5 hin (by omega)
    have hgi:gp (0+(i:Int).toNat)=eI (gI PL i):=by rw [show 0+(i:Int).toNat=i by omega];exact hgp i hi'
    have hxm:=hPm (gI PL i) (B4 hi')
    have hsc:=hSc i hi'
    obtain ⟨x,hx⟩:∃ x,x=gI PL i:=⟨_,rfl⟩
    rw [←hx] at hgi hxm hsc
    rcases ROut.head hR with rfl | ⟨bc,rfl⟩
    all_goals
     conv=>whnf
     refine ⟨rfl,⟨by omega,by omega⟩,?_⟩;conv=>whnf
     refine E9 atp rfl (by omega) hgi ?_;conv=>whnf
     refine .inr ⟨[15,18],.qui 0 (.qui 1 (.qui 2 (.qui 3 (.qui 4 (.qui 5 (.qui 6 (.qui 7 (.qui 8 (.qui 9 (.qui 10 (.qui 11 (.qui 12 (.qui 13 (.qui 14 (.eff 15 [] (.qui 16 (.qui 17 (.eff 18 [] (.done))))))))))))))))))),by kernel_rfl,?_⟩;conv=>whnf
     refine ⟨_,fun s=>s bd=some ⟨171,19,1,f⟩,atd,fun s hs=>E9 hs rfl (by omega) hf ⟨rfl,rfl⟩,?_⟩;conv=>whnf
     refine ⟨_,fun s=>s bd=some ⟨171,19,1,f⟩,atd,fun s hs=>E9 hs rfl (by omega) hf ⟨rfl,rfl⟩,?_⟩;conv=>whnf
     refine ⟨rfl,⟨hxm.1,by show x<(r.promos.length:Int);omega⟩,?_⟩;conv=>whnf
     refine ⟨_,fun _=>True,trivial,fun s _=>⟨rfl,rfl⟩,?_⟩;conv=>whnf
     refine ⟨_,fun _=>True,trivial,fun s _=>⟨rfl,rfl⟩,?_⟩;conv=>whnf
     refine ROut.app (q:=r79) hBP rfl rfl rfl rfl rfl (f:=fun k=>J3 ((O8 r codes).scopes.getD k default)) (by show _=J3 _;rw [hsc];rfl) (by show (i+1) * 48≤140737488355328;omega) hR (fun cv' u' hR'=>?_);conv=>whnf
     refine B4L (ROut.sup hBP hR' bd _ (A0 ..)) rfl rfl (by omega) hf (ROut.one hR') (by decide) ?_;conv=>whnf
     refine ⟨rfl,?_⟩;conv=>whnf
     exact nx hi' ⟨cv',G5 f 0 (A2I (O8 r codes) .emp (.own 1 bp 0 PL.length) cv' .emp),by rw [C0 (by omega)],A2 ..,ROut.putB hBP hR' _⟩
 ·rcases hv with ⟨h1,rfl,rfl⟩ | ⟨h1,h2,rfl,rfl⟩ | ⟨h1,h2,bd,pv,cv,f,rfl,hbd,hf,hR⟩
  ·exact ⟨_,_,.inl ⟨h1,rfl,rfl⟩,B2.refl _ _⟩
  ·exact ⟨_,_,.inr (.inl ⟨h1,h2,rfl,rfl⟩),B2.refl _ _⟩
  ·have hBP:=M9 C5 3 1 (fun k=>eI (gI (D4 r codes) k)) (D4 r codes).length pv
   have atd:=ROut.sup hBP hR bd _ (A0 ..)
   obtain ⟨t1,sh1,hR1⟩:=ROut.shift hBP hR
   have atd1:=hBP.sup hR1 bd _ (A0 ..)
   have hc1:=fun vs=>B2.cell (vs:=vs) (pre:=[A7 4 E3 r.items,A7 15 B8 r.promos,eB r.tax.incl,eB r.tax.byOrder,eI r.tax.round,A7 4 S8 r.tax.zones,eI r.ship.fee,eI r.ship.free,eI r.policy.window,eI r.policy.grace,eI r.policy.mode,eI r.policy.restock,B3 r.policy.order,B3 r.policy.credit,D3 codes,.emp,pv]) (post:=[.emp]) sh1 atd atd1 (show 0<1 by omega) hf rfl
   obtain ⟨f2,hf2,hc1,hR2⟩:∃ f2:Nat→AV,f2 0=A2I (O8 r codes) .emp pv (.arr 2 (D4 r codes).length (fun k=>J3 ((O8 r codes).scopes.getD k default))) .emp∧(∀ vs,B2 vs t' vs (upd t1 bd ⟨171,19,1,f2⟩))∧ROut F2 3 1 (fun k=>eI (gI (D4 r codes) k)) (D4 r codes).length (upd st bd ⟨171,19,1,f2⟩) pv (upd t1 bd ⟨171,19,1,f2⟩) :=
    ⟨_,A2 ..,hc1,ROut.putB C5 hR1 _⟩
   obtain ⟨t2,sh2,hS2⟩:=ROut.shift C5 hR2
   have atd2:=ROut.sup C5 hR2 bd _ (A0 ..)
   have atd3:=hS2 bd _ (A0 ..)
   have hc2:=fun vs=>B2.cell (vs:=vs) (pre:=[A7 4 E3 r.items,A7 15 B8 r.promos,eB r.tax.incl,eB r.tax.byOrder,eI r.tax.round,A7 4 S8 r.tax.zones,eI r.ship.fee,eI r.ship.free,eI r.policy.window,eI r.policy.grace,eI r.policy.mode,eI r.policy.restock,B3 r.policy.order,B3 r.policy.credit,D3 codes,.emp]) (post:=[.arr 2 (D4 r codes).length (fun k=>J3 ((O8 r codes).scopes.getD k default)),.emp]) sh2 atd2 atd3 (show 0<1 by omega) hf2 rfl
   obtain ⟨f3,hf3,hc2,hS3⟩:∃ f3:Nat→AV,f3 0=A2I (O8 r codes) .emp (B3 (D4 r codes)) (.arr 2 (D4 r codes).length (fun k=>J3 ((O8 r codes).scopes.getD k default))) .emp∧(∀ vs,B2 vs (upd t1 bd ⟨171,19,1,f2⟩) vs (upd t2 bd ⟨171,19,1,f3⟩))∧F2 (upd st bd ⟨171,19,1,f3⟩) (upd t2 bd ⟨171,19,1,f3⟩) :=
    ⟨_,A2 ..,hc2,by
     have:=C5.write (y':=⟨171,19,1,G5 f2 0 (.agg ([A7 4 E3 r.items,A7 15 B8 r.promos,eB r.tax.incl,eB r.tax.byOrder,eI r.tax.round,A7 4 S8 r.tax.zones,eI r.ship.fee,eI r.ship.free,eI r.policy.window,eI r.policy.grace,eI r.policy.mode,eI r.policy.restock,B3 r.policy.order,B3 r.policy.credit,D3 codes,.emp]++B3 (D4 r codes)::[.arr 2 (D4 r codes).length (fun k=>J3 ((O8 r codes).scopes.getD k default)),.emp]))⟩) hS2 (A0 ..)
     rw [B6] at this;exact this⟩
   have at3:(upd t2 bd ⟨171,19,1,f3⟩) bd=some ⟨171,19,1,f3⟩:=A0 ..
   have hc3:=fun vs=>B2.cell (vs:=vs) (pre:=[A7 4 E3 r.items,A7 15 B8 r.promos,eB r.tax.incl,eB r.tax.byOrder,eI r.tax.round,A7 4 S8 r.tax.zones,eI r.ship.fee,eI r.ship.free,eI r.policy.window,eI r.policy.grace,eI r.policy.mode,eI r.policy.restock,B3 r.policy.order,B3 r.policy.credit,D3 codes]) (post:=[B3 (D4 r codes),.arr 2 (D4 r codes).length (fun k=>J3 ((O8 r codes).scopes.getD k default)),.emp]) (K1 3 fun k=>E4 ([].getD k default)) at3 at3 (show 0<1 by omega) hf3 rfl
   refine ⟨_,upd t2 bd ⟨171,19,1,G5 f3 0 (A5R (O8 r codes) .emp)⟩,.inr (.inr ⟨h1,h2,bd,rfl,.emp,hbd,⟨171,19,1,G5 f3 0 (A5R (O8 r codes) .emp)⟩,⟨G5 f3 0 (A5R (O8 r codes) .emp),rfl,A2 ..⟩,?_⟩),(hc1 _).trans ((hc2 _).trans ?_)⟩
   ·have:=C5.write (y':=⟨171,19,1,G5 f3 0 (A5R (O8 r codes) .emp)⟩) hS3 (A0 ..)
    rw [B6,B6] at this
    exact ROut.start this _ _ _
   ·have:=hc3 [.tuple [.optr 19 bd 0 0,eI 0]]
    rw [B6] at this
    have e:A7 2 J3 (O8 r codes).scopes=.arr 2 (D4 r codes).length (fun k=>J3 ((O8 r codes).scopes.getD k default)):=by
     show AV.arr 2 (List.map _ _).length _=_
     rw [List.length_map]
    unfold A5R
    rw [e]
    exact this
def B6U (r:E8) (codes:List D7) (it:Ab.Item) (k:Nat):List Int:=((List.range k).filter fun (j:Nat)=>((P2 r.promos codes).any fun y=>y==(j:Int))&&Z9 (r.promos.getD j default)&&A0B (r.promos.getD j default).scope it).map Int.ofNat
theorem B7Z (r:E8) (codes:List D7) (it:Ab.Item) (k:Nat):(B6U r codes it k).length≤k:=by
 unfold B6U
 rw [List.length_map]
 exact Nat.le_trans (List.length_filter_le ..) (by rw [List.length_range];exact Nat.le_refl _)
abbrev B9Q (r:E8) (s:D7):Ab.Item:=r.items.getD (V8 r.items s).toNat default
def C3Z (r:E8) (codes:List D7) (s:D7):List Int:=B6U r codes (B9Q r s) r.promos.length
def C0I (items:List Ab.Item) (m:List F0) (i:Int) (x:F0):List F0×Int :=
 if i<0∨i>m.length then (m,2) else if H0 (known items) (H5 m i.toNat x)=0 then (H5 m i.toNat x,0) else (m,H0 (known items) (H5 m i.toNat x))
end Go.Proofs.YthdimklenlikgaaGreat
namespace Go.Proofs.YthdimklenlikgaaGreat
open Go Go.Ab
theorem B5T {α : Type} [Inhabited α] (p : α→Bool):∀ (l:List α),((List.range l.length).filter fun j=>p (l.getD j default)).map (fun j=>l.getD j default)=l.filter p:=by
 intro l
 have e:(List.range l.length).map (fun j=>l.getD j default)=l:=by
  apply List.ext_getElem (by simp)
  intro i h1 h2
  simp at h1 ⊢
  simp [h1]
 calc _=((List.range l.length).map (fun j=>l.getD j default)).filter p:=by rw [List.filter_map];rfl
  _=_:=by rw [e]
theorem B8n (l:List B1) (codes:List D7) (n:Nat):(places l codes n).Pairwise (·≤·):=by
 unfold places
 refine List.Pairwise.map Int.ofNat (fun a b h=>?_) ((List.pairwise_lt_range (n:=n)).filter _)
 exact Int.ofNat_le.2 (Nat.le_of_lt h)
theorem B0J (r:E8) (codes:List D7):D4 r codes=(places r.promos codes r.promos.length).filter fun x=>Z9 (D5 r.promos x) :=
 ((U8 _).trans ((P9 r.promos codes).filter _)).eq_of_pairwise (le:=(·≤·)) (fun a b _ _ h1 h2=>Int.le_antisymm h1 h2) (B0m _) ((B8n ..).filter _)
theorem B5q (r:E8) (codes:List D7) (d:O2) (hr:d.r=r) (hp:d.places=D4 r codes) (hs:d.scopes=(D4 r codes).map fun x=>(D5 r.promos x).scope) (s:D7):A6g d s=C3Z r codes s:=by
 unfold A6g C3Z B6U A0Y
 rw [hr,hp,hs]
 unfold B9Q
 generalize r.items.getD (V8 r.items s).toNat default=it
 have e1:((List.range ((D4 r codes).map fun x=>(D5 r.promos x).scope).length).filter fun j=>A0B (((D4 r codes).map fun x=>(D5 r.promos x).scope).getD j default) it)=(List.range (D4 r codes).length).filter fun j=>A0B (D5 r.promos ((D4 r codes).getD j default)).scope it:=by
  rw [List.length_map]
  refine List.filter_congr fun j hj=>?_
  rw [D8 (fun x:Int=>(D5 r.promos x).scope) _ (List.mem_range.1 hj)]
 rw [e1,List.map_map]
 have e2:=B5T (fun x:Int=>A0B (D5 r.promos x).scope it) (D4 r codes)
 refine Eq.trans (by exact e2) ?_
 rw [B0J,List.filter_filter]
 unfold places
 rw [List.filter_map,List.filter_filter]
 congr 1
 refine List.filter_congr fun j hj=>?_
 have hj':=List.mem_range.1 hj
 have e3:((P2 r.promos codes).any fun y=>y==(j:Int))=T9 codes (r.promos.getD j default):=by
  rw [Bool.eq_iff_iff,List.any_eq_true]
  constructor
  ·rintro ⟨y,hy,he⟩
   have hy:=(P9 _ _).mem_iff.1 hy
   rw [eq_of_beq he] at hy
   obtain ⟨k,hk,e⟩:=List.mem_map.1 hy
   have:k=j:=by have:(k:Int)=(j:Int):=e;omega
   subst this
   exact (List.mem_filter.1 hk).2
  ·intro h
   exact ⟨j,(P9 _ _).mem_iff.2 (List.mem_map.2 ⟨j,List.mem_filter.2 ⟨hj,h⟩,rfl⟩),beq_self_eq_true _⟩
 rw [e3]
 show (A0B (r.promos.getD j default).scope it&&Z9 (r.promos.getD j default)&&T9 codes (r.promos.getD j default))=_
 generalize A0B (r.promos.getD j default).scope it=a
 generalize Z9 (r.promos.getD j default)=b
 generalize T9 codes (r.promos.getD j default)=c
 cases a<;>cases b<;>cases c<;>rfl
theorem A9q {r:E8} (codes:List D7) (hC:promosC r.promos=true):(D4 r codes).length≤60:=by
 unfold D4
 rw [Q1]
 refine Nat.le_trans (List.length_filter_le ..) ?_
 rw [(P9 _ _).length_eq]
 have:=Q3 r.promos codes r.promos.length
 have:=(A2x hC).few
 omega
theorem B3F {r:E8} (codes:List D7) (hC:promosC r.promos=true) (hi:r.items.length≤100000):A6b (O8 r codes):=by
 have hl:=A9q codes hC
 have e:(O8 r codes).scopes.length=(D4 r codes).length:=List.length_map ..
 refine ⟨hi,e.symm,by omega,fun s hs=>?_,Nat.zero_le _,rfl⟩
 obtain ⟨x,hx,rfl⟩:=List.mem_map.1 hs
 have h1:=A5S hx
 have h2:=A0T ((A2x hC).right _ (show D5 r.promos x∈r.promos from B4 h1.2))
 exact ⟨h2.skus,h2.cats⟩
structure A2S (r:E8) (codes:List D7) (d:O2):Prop where
 rules:d.r=r
 code:d.codes=codes
 places:d.places=D4 r codes
 scopes:d.scopes=(D4 r codes).map fun x=>(D5 r.promos x).scope
 ok:A6b d
 lines:d.lines=[]∨H0 (known r.items) d.lines=0
 opens:d.opens=d.lines.map fun x=>C3Z r codes x.sku
theorem B9E {r:E8} (codes:List D7) (hC:promosC r.promos=true) (hi:r.items.length≤100000):A2S r codes (O8 r codes) :=
 ⟨rfl,rfl,rfl,rfl,B3F codes hC hi,.inl rfl,rfl⟩
theorem A2S.set {r:E8} {codes:List D7} {d:O2} (h:A2S r codes d) (i:Int) (x:F0):A2S r codes (A4r d i x)∧Y2 d i x=(C0I r.items d.lines i x).2∧(A4r d i x).lines=(C0I r.items d.lines i x).1:=by
 have hE:Y2 d i x=if i<0∨i>d.lines.length then 2 else H0 (known r.items) (H5 d.lines i.toNat x):=by unfold Y2;rw [h.rules]
 unfold C0I
 by_cases h1:i<0∨i>d.lines.length
 ·rw [if_pos h1] at hE ⊢
  have e:A4r d i x=d:=if_neg (by rw [hE];decide)
  rw [e];exact ⟨h,hE,rfl⟩
 ·rw [if_neg h1] at hE ⊢
  by_cases h2:H0 (known r.items) (H5 d.lines i.toNat x)=0
  ·rw [if_pos h2]
   rw [h2] at hE
   have e:A4r d i x=A4m d i.toNat x:=if_pos hE
   rw [e]
   refine ⟨⟨h.rules,h.code,h.places,h.scopes,⟨h.ok.items,h.ok.nplaces,h.ok.few,h.ok.scopes,(A8Q h2).len,?_⟩,.inr h2,?_⟩,hE,rfl⟩
   ·show (List.set _ _ _).length=(H5 d.lines i.toNat x).length
    rw [List.length_set,A3Y]
    have:=h.ok.nopens
    split
    ·rw [List.length_append];show d.opens.length+1=_;omega
    ·exact this
   ·show List.set _ _ (A6g d x.sku)=(H5 d.lines i.toNat x).map _
    rw [B5q r codes d h.rules h.places h.scopes,h.opens]
    unfold H5
    by_cases e3:i.toNat=d.lines.length
    ·rw [if_pos e3,if_pos e3,List.map_append,List.set_append_right _ _ (by rw [List.length_map];omega),List.length_map,e3,Nat.sub_self];rfl
    ·rw [if_neg e3,if_neg e3,List.map_set]
  ·rw [if_neg h2]
   have e:A4r d i x=d:=if_neg (by rw [hE];exact h2)
   rw [e];exact ⟨h,hE,rfl⟩
end Go.Proofs.YthdimklenlikgaaGreat
namespace Go.Proofs.YthdimklenlikgaaGreat
open Go Go.Ab
attribute [local irreducible] upd del
theorem A4G (bd:Nat) (d:O2) (hl:d.lines.length≤1000) (s t:St) (h:A0F bd d s t):S P 31 [.optr 19 bd 0 0] t fun v t'=>v=A7 3 E4 d.lines∧t'=t:=by
 obtain ⟨ov,f,atd,hf,-,-⟩:=h.at
 refine A5 [] B7 mixed Tryz.func31 (by rfl) rfl rfl rfl ?_;conv=>whnf
 refine E9 atd rfl (by omega) hf ?_;conv=>whnf
 refine A4 (B2a d.lines (by omega) _) ?_;conv=>whnf
 exact ⟨rfl,rfl⟩
theorem C1r (t:St):S P 32 [.nilp] t fun v t'=>v=.agg [.emp,eI 0,eI 0,.emp]∧t'=t:=by
 refine A2F ?_
 refine A5 [] B7 mixed Tryz.func32 (by rfl) rfl rfl rfl ?_;conv=>whnf
 intro b2 hb2;conv=>whnf
 refine K4 (A0 ..) rfl (by omega) rfl (by rfl) ?_;conv=>whnf
 refine E9 (A0 ..) rfl (by omega) (A2 ..) ?_;conv=>whnf
 exact ⟨rfl,((F2.refl t).upd hb2).over hb2⟩
set_option maxHeartbeats 1000000 in
theorem A9p (bd:Nat) (d:O2) (hl:d.opens.length≤1000) (hs:∀ l∈d.opens,l.length≤100000) (s t:St) (h:A0F bd d s t):S P 34 [.optr 19 bd 0 0] t fun v t'=>v=A7 1 B3 d.opens∧t'=t:=by
 obtain ⟨ov,f,atd,hf,-,hO⟩:=h.at
 refine W7 (ty:=29) ?_
 refine A5 [] B7 mixed Tryz.func34 (by rfl) rfl rfl rfl ?_
 rcases ROut.head hO with rfl | ⟨bo,rfl⟩
 ·have h0:d.opens.length=0:=by
   rcases Nat.eq_zero_or_pos d.opens.length with h | h
   ·exact h
   ·obtain ⟨b,hb⟩:=ROut.own0 hO h;cases hb
  conv=>whnf
  refine E9 atd rfl (by omega) hf ?_;conv=>whnf
  refine A5N [3,11,12,13] ?_;conv=>whnf
  intro I
  show H7 _ _ _ _ d.opens.length _ _
  rw [h0];exact H7.start _ _ _ _
 ·conv=>whnf
  refine E9 atd rfl (by omega) hf ?_;conv=>whnf
  refine lp d.opens.length [3,11,12,13] (fun i vs u=>∃ sv,vs=[sv,.own 1 bo 0 d.opens.length,eI d.opens.length,eI i]∧H7 29 1 (fun k=>B3 (d.opens.getD k default)) t i sv u) ?_ ?_
  ·conv=>whnf
   exact ⟨_,rfl,H7.start _ _ _ _⟩
  rintro i vs u hi ⟨sv,rfl,hc⟩
  conv=>whnf
  cases h1:decide ((i:Int)<(d.opens.length:Int))
  case false =>
   obtain rfl:=D1 h1 hi
   conv=>whnf
   exact hc
  have hi':=F7 h1
  obtain ⟨go,ato,hgo,-⟩:=ROut.cell C5 hO (by omega)
  have hgi:go (0+(i:Int).toNat)=B3 (d.opens.getD i default):=by rw [show 0+(i:Int).toNat=i by omega];exact hgo i hi'
  have hx:=hs _ (show d.opens.getD i default∈d.opens from B4 hi')
  conv=>whnf
  refine ⟨rfl,⟨by omega,by omega⟩,?_⟩;conv=>whnf
  refine E9 (hc.sup bo _ ato) rfl (by omega) hgi ?_;conv=>whnf
  refine A4 (A4D _ hx _) ?_;conv=>whnf
  refine H7.app (q:=r29) rfl rfl rfl rfl rfl (f:=fun k=>B3 (d.opens.getD k default)) rfl (by show (i+1) * 24≤140737488355328;omega) hc (fun sv' u' hc'=>?_);conv=>whnf
  refine ⟨rfl,?_⟩;conv=>whnf
  exact nx hi' ⟨sv',by rw [C0 (by omega)],hc'⟩
theorem A1U (bd:Nat) (d:O2) (X:A3B) (e:Int) (hP:∀ u,S P 20 [J2 d.r,D3 d.codes,A7 3 E4 d.lines] u fun v u'=>v=.tuple [X0 X,eI e]∧u'=u) (s t:St) (h:A0F bd d s t) :
  S P 32 [.optr 19 bd 0 0] t fun v t'=>v=X0 X∧t'=t:=by
 obtain ⟨ov,f,atd,hf,-,hO⟩:=h.at
 refine A2F ?_
 refine A7y [] B7 mixed Tryz.func32 (by rfl) rfl rfl rfl ?_;conv=>whnf
 intro b2 hb2
 have h2:bd≠b2:=fun e=>by subst e;rw [atd] at hb2;cases hb2
 conv=>whnf
 refine .inr ⟨[16,17],.qui 0 (.qui 1 (.qui 2 (.qui 3 (.qui 4 (.qui 5 (.qui 6 (.qui 7 (.qui 8 (.qui 9 (.qui 10 (.qui 11 (.qui 12 (.qui 13 (.qui 14 (.qui 15 (.eff 16 [3,7,11,12] (.eff 17 [] (.qui 18 (.done))))))))))))))))))),by kernel_rfl,?_⟩;conv=>whnf
 refine ⟨_,fun s=>s bd=some ⟨171,19,1,f⟩,(A8 h2).trans atd,fun s hs=>E9 hs rfl (by omega) hf ⟨rfl,rfl⟩,?_⟩;conv=>whnf
 refine ⟨_,fun s=>s bd=some ⟨171,19,1,f⟩,(A8 h2).trans atd,fun s hs=>E9 hs rfl (by omega) hf ⟨rfl,rfl⟩,?_⟩;conv=>whnf
 refine ⟨_,fun s=>s bd=some ⟨171,19,1,f⟩,(A8 h2).trans atd,fun s hs=>E9 hs rfl (by omega) hf ⟨rfl,rfl⟩,?_⟩;conv=>whnf
 refine ⟨_,fun _=>True,trivial,fun s _=>C9 (hP s),?_⟩;conv=>whnf
 intro b3 hb3;conv=>whnf
 have h3:bd≠b3:=fun e=>by subst e;rw [A8 h2,atd] at hb3;cases hb3
 have h23:b2≠b3:=fun e=>by subst e;rw [A0] at hb3;cases hb3
 iterate 4 (refine ⟨by first | exact fun _=>trivial | exact fun h=>(A8 h3).trans h,?_⟩;conv=>whnf)
 refine K4 (A0 ..) rfl (by omega) rfl (by rfl) ?_
 rw [B6];conv=>whnf
 refine E9 (A0 ..) rfl (by omega) (A2 ..) ?_;conv=>whnf
 refine K4 ((A8 h23).trans (A0 ..)) rfl (by omega) rfl (by rfl) ?_;conv=>whnf
 refine E9 (A0 ..) rfl (by omega) (A2 ..) ?_;conv=>whnf
 exact ⟨rfl,(((F2.refl t).upd hb2).upd hb3).over hb2⟩
def C8u:Tax:=⟨false,false,0,[]⟩
theorem C1R (x:Int) (st:St):S P 175 [eI x,eI x] st fun v st'=>v=.bool true∧st'=st:=by
 refine A5 [] B7 mixed Tryz.func175 (by rfl) rfl rfl rfl ?_;conv=>whnf
 refine ⟨?_,rfl⟩
 show AV.bool (x==x)=_
 rw [beq_self_eq_true]
theorem B9H (x:A1a) (st:St):S P 177 [A4H x,A4H x] st fun v st'=>v=.bool true∧st'=st:=by
 refine A5 [2,3] B7 mixed Tryz.func177 (by rfl) rfl rfl rfl ?_;conv=>whnf
 refine ⟨?_,rfl⟩
 show AV.bool ((x.id.toList==x.id.toList)&&((x.off==x.off)&&true))=AV.bool true
 rw [beq_self_eq_true,beq_self_eq_true];rfl
theorem B5Z (l:List Int) (hl:Sm l.length) (st:St):S P 174 [B3 l,B3 l,.fn (.func 175) [] []] st fun v st'=>v=.bool true∧st'=st:=by
 refine A5 [] B7 mixed Tryz.func174 (by rfl) rfl rfl rfl ?_;conv=>whnf
 rw [show ((l.length:Int) != (l.length:Int))=false from bne_self_eq_false _];conv=>whnf
 refine lp l.length [0,1,2,7] (fun i vs s=>vs=[B3 l,B3 l,.fn (.func 175) [] [],eI i]∧s=st) ?_ ?_
 ·conv=>whnf
  exact ⟨rfl,rfl⟩
 ·rintro i vs s hi ⟨rfl,rfl⟩
  conv=>whnf
  cases h:decide ((i:Int)<(l.length:Int))
  ·obtain rfl:=D1 h hi
   conv=>whnf
   exact ⟨rfl,rfl⟩
  ·have hi':=F7 h
   conv=>whnf
   refine ⟨[],[],List.range 11,by kernel_rfl,?_⟩;conv=>whnf
   refine ⟨rfl,⟨by omega,by omega⟩,?_⟩;conv=>whnf
   refine ⟨rfl,⟨by omega,by omega⟩,?_⟩;conv=>whnf
   refine ⟨_,C9 (C1R _ _),?_⟩;conv=>whnf
   refine ⟨rfl,?_⟩;conv=>whnf
   exact nx hi' ⟨by rw [C0 (by omega)],rfl⟩
theorem B4C (l:List A1a) (hl:Sm l.length) (st:St):S P 176 [A7 2 A4H l,A7 2 A4H l,.fn (.func 177) [] []] st fun v st'=>v=.bool true∧st'=st:=by
 refine A5 [] B7 mixed Tryz.func176 (by rfl) rfl rfl rfl ?_;conv=>whnf
 rw [show ((l.length:Int) != (l.length:Int))=false from bne_self_eq_false _];conv=>whnf
 refine lp l.length [0,1,2,7] (fun i vs s=>vs=[A7 2 A4H l,A7 2 A4H l,.fn (.func 177) [] [],eI i]∧s=st) ?_ ?_
 ·conv=>whnf
  exact ⟨rfl,rfl⟩
 ·rintro i vs s hi ⟨rfl,rfl⟩
  conv=>whnf
  cases h:decide ((i:Int)<(l.length:Int))
  ·obtain rfl:=D1 h hi
   conv=>whnf
   exact ⟨rfl,rfl⟩
  ·have hi':=F7 h
   conv=>whnf
   refine ⟨[],[],List.range 11,by kernel_rfl,?_⟩;conv=>whnf
   refine ⟨rfl,⟨by omega,by omega⟩,?_⟩;conv=>whnf
   refine ⟨rfl,⟨by omega,by omega⟩,?_⟩;conv=>whnf
   refine ⟨_,C9 (B9H _ _),?_⟩;conv=>whnf
   refine ⟨rfl,?_⟩;conv=>whnf
   exact nx hi' ⟨by rw [C0 (by omega)],rfl⟩
theorem B4d (l:List Int) (hl:Sm l.length) (st:St):S P 100 [B3 l,B3 l] st fun v st'=>v=.bool true∧st'=st:=by
 refine A5 [] B7 mixed Tryz.func100 (by rfl) rfl rfl rfl ?_;conv=>whnf
 refine A4 (B5Z l hl _) ?_;conv=>whnf
 exact ⟨rfl,rfl⟩
theorem B2x (l:List A1a) (hl:Sm l.length) (st:St):S P 101 [A7 2 A4H l,A7 2 A4H l] st fun v st'=>v=.bool true∧st'=st:=by
 refine A5 [] B7 mixed Tryz.func101 (by rfl) rfl rfl rfl ?_;conv=>whnf
 refine A4 (B4C l hl _) ?_;conv=>whnf
 exact ⟨rfl,rfl⟩
end Go.Proofs.YthdimklenlikgaaGreat
namespace Go.Proofs.YthdimklenlikgaaGreat
open Go Go.Ab
theorem B0M (p:B1) (id K:Int):A2E (L9 p id K):=by
 have hs:=(A1W p.scope).2
 have hp:=A3T p.parts
 have ht5:=(A1X p.tiers 5000 (.inl rfl)).2
 have ht6:=(A1X p.tiers 5 (.inr rfl)).2
 refine ⟨?_,?_,?_,?_,?_,?_,?_⟩
 ·have:=X8 (B3M id);show (idN id).size≤_;omega
 ·have:=(A8i p).2;show (A1l p).size≤_;omega
 ·have:=(A9m p).2;show (A2v p).size≤_;omega
 ·show A1q (if K=4∨K=7 then ⟨[],[]⟩ else N9 p.scope)
  split
  ·exact A4I.2
  ·exact hs
 ·show (if K=4 then N1 p.parts else []).length≤_
  split
  ·omega
  ·exact Nat.zero_le _
 ·show ∀ x∈(if K=4 then N1 p.parts else []),_
  split
  ·exact fun x hx=>(hp.2 x hx).2
  ·exact fun x hx=>absurd hx List.not_mem_nil
 ·show (if K=5 then N2 p.tiers 5000 else if K=6 then N2 p.tiers 5 else []).length≤_
  split
  ·omega
  ·split
   ·omega
   ·exact Nat.zero_le _
theorem B4m (l:List U3) (k:Nat) (hk:k<3):B5b (E7 l k):=by
 have hn:=List.all_eq_true.1 B0C k (List.mem_range.2 hk)
 have hz:=X8 hn
 unfold E7
 split
 ·obtain ⟨h1,h2,h3⟩:=A7h (l.getD k default).rates
  generalize Q0 (l.getD k default).rates=R at h1 h2 h3 ⊢
  exact ⟨by show R.length≤_;omega,by show (W0 k).size≤_;omega,fun x hx=>by have:=(h2 x hx).2;show x.cat.size≤_;omega⟩
 ·exact ⟨by show 0≤_;decide,by show (W0 k).size≤_;omega,fun x hx=>absurd hx List.not_mem_nil⟩
theorem B5O (t:Tax):B6C (J9 t):=by
 refine ⟨by show ((List.range 3).map _).length≤_;rw [List.length_map,List.length_range];decide,fun z hz=>?_⟩
 obtain ⟨k,hk,rfl⟩:=List.mem_map.1 hz
 exact B4m _ k (List.mem_range.1 hk)
theorem B2F (r:E8):A8G (W5 r):=by
 have h0:=A2Y r.items
 have h2:=(R4 r.policy.order).2
 have h3:=(R4 r.policy.credit).2
 refine ⟨by show (N0 r.items).length≤_;omega,fun x hx=>?_,fun p hp=>?_,B5O r.tax,by show (J5 r.policy.order).length≤_;omega,by show (J5 r.policy.credit).length≤_;omega⟩
 ·have:=A5W hx
  exact ⟨by have:=this.2.1;show x.sku.size≤_;omega,by have:=this.2.2;show x.cat.size≤_;omega⟩
 ·obtain ⟨q,id,K,_,rfl⟩:=A4Z hp
  exact B0M q id K
abbrev C0f (l:List B1) (xs:List (Int×Int)):List A1a:=xs.map fun a=>(⟨(D5 l a.1).id,a.2⟩:A1a)
abbrev A9t (l:List B1) (xs:List (Int×Int)):List D7:=(xs.map fun a=>(D5 l a.1).group).filter fun g=>!J6 g
structure Tr (l:List B1) (p:PSt) (xs:List (Int×Int)):Prop where
 deals:p.deals=C0f l xs
 groups:p.groups=A9t l xs
 pos:∀ a∈xs,1≤a.2
 apart:p.groups.Pairwise fun x y=>(y.toList==x.toList)=false
theorem Tr.start (l:List B1) (us:List B5):Tr l ⟨us,[],[]⟩ []:=⟨rfl,rfl,fun a h=>absurd h List.not_mem_nil,.nil⟩
def B1P {σ : Type} (px : σ→PSt) (step : σ→B1→σ) (sm:B1→Bool) (l:List B1) (Q : σ→Int→Prop):Prop :=
 ∀ (a : σ) (s:Int) (pr:B1),pr∈l→sm pr=true→Q a s →
  ((px (step a pr)).deals=(px a).deals∧(px (step a pr)).groups=(px a).groups∧Q (step a pr) s) ∨
  ∃ off,1≤off∧(px (step a pr)).deals=(px a).deals++[⟨pr.id,off⟩]∧(px (step a pr)).groups=(px a).groups++(if J6 pr.group=true then [] else [pr.group])∧Q (step a pr) (s+off)
theorem C2S {σ : Type} {px : σ→PSt} {step : σ→B1→σ} {sm:B1→Bool} {l:List B1} {Q : σ→Int→Prop} (hstep:B1P px step sm l Q) :
  ∀ (f:List Int) (a : σ) (xs:List (Int×Int)) (s:Int),(∀ x∈f,x.toNat<l.length∧sm (D5 l x)=true)→Tr l (px a) xs→Q a s →
   ∃ ys,Tr l (px (f.foldl (fun a x=>goB px step a (D5 l x)) a)) (xs++ys)∧(ys.map Prod.fst).Sublist f∧Q (f.foldl (fun a x=>goB px step a (D5 l x)) a) (s+A6 (ys.map Prod.snd)):=by
 intro f
 induction f with
 | nil=>intro a xs s _ ht hq;exact ⟨[],by rw [List.append_nil];exact ht,List.Sublist.slnil,by rw [show s+A6 (([]:List (Int×Int)).map Prod.snd)=s from Int.add_zero s];exact hq⟩
 | cons x f ih =>
  intro a xs s hm ht hq
  have hm':∀ y∈f,y.toNat<l.length∧sm (D5 l y)=true:=fun y hy=>hm y (List.mem_cons_of_mem _ hy)
  have hx:=hm x (List.mem_cons_self ..)
  have hmem:D5 l x∈l:=B4 hx.1
  rw [List.foldl_cons]
  unfold goB
  by_cases hg:(J6 (D5 l x).group||!inB (px a).groups (D5 l x).group)=true
  ·rw [if_pos hg]
   rcases hstep a s (D5 l x) hmem hx.2 hq with ⟨h1,h2,h3⟩ | ⟨off,h0,h1,h2,h3⟩
   ·obtain ⟨ys,k1,k2,k3⟩:=ih _ xs s hm' ⟨h1.trans ht.deals,h2.trans ht.groups,ht.pos,by rw [h2];exact ht.apart⟩ h3
    exact ⟨ys,k1,k2.cons _,k3⟩
   ·have ht':Tr l (px (step a (D5 l x))) (xs++[(x,off)]):=by
     refine ⟨?_,?_,fun b hb=>?_,?_⟩
     ·rw [h1,ht.deals];unfold C0f;rw [List.map_append];rfl
     ·rw [h2,ht.groups];unfold A9t
      rw [List.map_append,List.filter_append]
      congr 1
      cases hn:J6 (D5 l x).group
      ·rw [if_neg (by simp)]
       show [(D5 l x).group]=List.filter (fun g=>!J6 g) [(D5 l x).group]
       rw [List.filter_cons_of_pos (p:=fun g=>!J6 g) (by rw [hn];rfl)];rfl
      ·rw [if_pos rfl]
       show []=List.filter (fun g=>!J6 g) [(D5 l x).group]
       rw [List.filter_cons_of_neg (p:=fun g=>!J6 g) (by rw [hn];simp)];rfl
     ·rcases List.mem_append.1 hb with hb | hb
      ·exact ht.pos b hb
      ·rw [List.mem_singleton.1 hb];exact h0
     ·rw [h2]
      refine List.pairwise_append.2 ⟨ht.apart,?_,fun y hy z hz=>?_⟩
      ·split
       ·exact .nil
       ·exact List.pairwise_singleton _ _
      ·split at hz
       ·exact absurd hz List.not_mem_nil
       ·rename_i hn
        rw [List.mem_singleton.1 hz]
        rw [Bool.eq_false_iff.2 hn,Bool.false_or,Bool.not_eq_true'] at hg
        unfold inB at hg
        rw [List.any_eq_false] at hg
        exact Bool.eq_false_iff.2 (hg y hy)
    obtain ⟨ys,k1,k2,k3⟩:=ih _ (xs++[(x,off)]) (s+off) hm' ht' h3
    refine ⟨(x,off)::ys,by rw [List.append_assoc] at k1;exact k1,k2.cons_cons x,?_⟩
    rw [List.map_cons,N3,←Int.add_assoc];exact k3
  ·rw [if_neg hg]
   obtain ⟨ys,k1,k2,k3⟩:=ih _ xs s hm' ht hq
   exact ⟨ys,k1,k2.cons _,k3⟩
theorem B7q {σ : Type} {px : σ→PSt} {step : σ→B1→σ} {sm:B1→Bool} {l:List B1} {Q : σ→Int→Prop} (hstep:B1P px step sm l Q) {o:List Int} (ho:∀ x∈o,x.toNat<l.length) {a : σ} {xs:List (Int×Int)} {s:Int} (ht:Tr l (px a) xs) (hq:Q a s) :
  ∃ ys,Tr l (px (V7 px step sm l a o)) (xs++ys)∧(ys.map Prod.fst).Sublist (o.filter fun x=>sm (D5 l x))∧Q (V7 px step sm l a o) (s+A6 (ys.map Prod.snd)) :=
 C2S hstep _ a xs s (fun x hx=>⟨ho x (List.mem_filter.1 hx).1,(List.mem_filter.1 hx).2⟩) ht hq
theorem B9p {items:List Ab.Item} {us0:List B5} {l:List B1} (hf:∀ p∈l,O3 p) (hr:∀ p∈l,H4 p=true):B1P (fun p:PSt=>p) (A3G items) Q6 l (fun p s=>A5L items p.us∧Off us0 p.us s):=by
 intro a s pr hm hs hq
 have hk:pr.kind≠7:=by simpa [Q6] using hs
 unfold A3G
 by_cases h:(X1 items a.us pr).2>0
 ·rw [if_pos h]
  rcases B7t hq.1 (hf _ hm) (hr _ hm) hk with e | e
  ·rw [e] at h;exact absurd h (by decide)
  ·exact .inr ⟨_,by omega,rfl,rfl,hq.1.off e,hq.2.trans e⟩
 ·rw [if_neg h]
  exact .inl ⟨rfl,rfl,hq⟩
theorem B8y {net fee fee0:Int} {l:List B1} (hr:∀ p∈l,H4 p=true):B1P (fun a:PSt×Int=>a.1) (R5 net) X6 l (fun a s=>0≤a.2∧a.2≤fee∧a.2+s=fee0):=by
 intro a s pr hm hs hq
 have hk:pr.kind=7:=by simpa [X6] using hs
 have h7:=(A0T (hr _ hm)).ship hk
 have hb:=Q2 a.2 pr.rate
 have hle:=A3X hq.1 (show 0≤pr.rate by omega) h7.2
 unfold R5 A5Y
 by_cases h:net<pr.least
 ·rw [if_pos h];exact .inl ⟨rfl,rfl,hq⟩
 ·rw [if_neg h]
  by_cases h2:H9 a.2 pr.rate>0
  ·rw [if_pos h2]
   exact .inr ⟨H9 a.2 pr.rate,by omega,rfl,rfl,by show 0≤a.2 - H9 a.2 pr.rate;omega,by show a.2 - H9 a.2 pr.rate≤_;omega,by show a.2 - H9 a.2 pr.rate+(s+H9 a.2 pr.rate)=_;omega⟩
  ·rw [if_neg h2]
   exact .inl ⟨rfl,rfl,by show 0≤a.2 - H9 a.2 pr.rate;omega,by show a.2 - H9 a.2 pr.rate≤_;omega,by show a.2 - H9 a.2 pr.rate+s=_;omega⟩
theorem A4O (a b:List B5) (j:Nat):F6 (a++b) j=F6 a j+F6 b j:=by
 unfold F6;rw [List.filter_append,List.map_append,G1]
theorem B3T (l:List F0) (i j n:Nat):F6 (List.replicate n (lnU l i)) j=if i=j then n * (l.getD i default).price else 0:=by
 induction n with
 | zero=>show (0:Int)=_;split<;>simp
 | succ n ih =>
  rw [show List.replicate (n+1) (lnU l i)=[lnU l i]++List.replicate n (lnU l i) from rfl,A4O,ih]
  by_cases h:i=j
  ·rw [if_pos h,if_pos h]
   have:F6 [lnU l i] j=(l.getD i default).price:=by
    unfold F6
    rw [List.filter_cons_of_pos (by show (((i:Int)).toNat==j)=true;rw [Int.toNat_natCast,h];simp)]
    show A6 [(l.getD i default).price]=_
    rw [N3];exact Int.add_zero _
   rw [this,show ((n+1:Nat):Int) * (l.getD i default).price=n * (l.getD i default).price+(l.getD i default).price by rw [Int.natCast_add,Int.add_mul];simp]
   omega
  ·rw [if_neg h,if_neg h]
   have:F6 [lnU l i] j=0:=by
    unfold F6
    rw [List.filter_cons_of_neg (by show ¬(((i:Int)).toNat==j)=true;rw [Int.toNat_natCast];simpa using h)];rfl
   rw [this];rfl
theorem B5D (l:List F0) (hl:∀ x∈l,0≤x.qty) (j k:Nat) (hk:k≤l.length):F6 (F9 l k) j=if j<k then (l.getD j default).qty * (l.getD j default).price else 0:=by
 induction k with
 | zero=>rfl
 | succ k ih =>
  show F6 (F9 l k++List.replicate (l.getD k default).qty.toNat (lnU l k)) j=_
  rw [A4O,ih (by omega),B3T]
  have hq:=hl _ (B4 (show k<l.length by omega))
  by_cases e:k=j
  ·subst e
   rw [if_neg (by omega),if_pos rfl,if_pos (by omega),Int.toNat_of_nonneg hq,Int.zero_add]
  ·rw [if_neg e]
   by_cases h:j<k
   ·rw [if_pos h,if_pos (by omega),Int.add_zero]
   ·rw [if_neg h,if_neg (by omega)];rfl
theorem A9y {us us':List B5} {x:Int} (h:Off us us' x) (j:Nat):∀ k,k≤us.length→F6 (us'.take k) j≤F6 (us.take k) j
 | 0,_=>Int.le_refl _
 | k+1,hk=>by
  have ih:=A9y h j k (by omega)
  have hl:=h.len
  rw [U6 (by omega),U6 (by omega),h.line k]
  have:=(h.net k).2
  split<;>omega
theorem B4Q (f:Nat→Int) (t:Nat) (x:Int):∀ n,A6 ((List.range n).map fun j=>if t=j then f j+x else f j)=A6 ((List.range n).map f)+if t<n then x else 0
 | 0=>by rw [if_neg (by omega)];rfl
 | n+1=>by
  rw [M8,M8,B4Q f t x n]
  by_cases e:t=n
  ·rw [if_pos e,if_neg (by omega),if_pos (by omega)];omega
  ·rw [if_neg e]
   by_cases h:t<n
   ·rw [if_pos h,if_pos (by omega)];omega
   ·rw [if_neg h,if_neg (by omega)];omega
theorem B0p:∀ n,A6 ((List.range n).map fun _=>(0:Int))=0
 | 0=>rfl
 | n+1=>by rw [M8,B0p n];rfl
theorem A6Z {us:List B5} {n:Nat} (h:∀ k,k<us.length→(gU us k).line.toNat<n):∀ k,k≤us.length→A6 ((List.range n).map (F6 (us.take k)))=A6 (E0 (us.take k))
 | 0,_=>B0p n
 | k+1,hk=>by
  have ih:=A6Z h k (by omega)
  have e1:(F6 (us.take (k+1)))=fun j=>if (gU us k).line.toNat=j then F6 (us.take k) j+(gU us k).net else F6 (us.take k) j:=funext fun j=>U6 (by omega) j
  rw [e1,B4Q,ih,if_pos (h k (by omega)),K2 (by omega)]
  unfold E0
  rw [List.map_append,G1]
  show _+(gU us k).net=_+A6 [(gU us k).net]
  rw [N3];show _=_+((gU us k).net+0);omega
structure A4z (r:E8) (codes:List D7) (l:List F0) (Pr:A3B) (xs ys:List (Int×Int)):Prop where
 deals:Pr.deals=C0f r.promos (xs++ys)
 mem:∀ a∈xs++ys,(0≤a.1∧a.1.toNat<r.promos.length)∧T9 codes (D5 r.promos a.1)=true∧1≤a.2
 sx:(xs.map Prod.fst).Sublist (P2 r.promos codes)
 sy:(ys.map Prod.fst).Sublist (P2 r.promos codes)
 kx:∀ a∈xs,(D5 r.promos a.1).kind≠7
 ky:∀ a∈ys,(D5 r.promos a.1).kind=7
 apart:(A9t r.promos (xs++ys)).Pairwise fun x y=>(y.toList==x.toList)=false
 sum:Pr.net+A6 (xs.map Prod.snd)=I0 l
 len:Pr.nets.length=l.length
 nets:A6 Pr.nets=Pr.net
 each:∀ i,i<l.length→0≤gI Pr.nets i∧gI Pr.nets i≤(l.getD i default).qty * (l.getD i default).price
 ship:0≤Pr.ship∧Pr.ship≤r.ship.fee
 shipSum:Pr.ship+A6 (ys.map Prod.snd)=Z7 r.ship (R6 l).length Pr.net
theorem B2w {l:List B1} {codes:List D7} {i:Nat} {x:Int} (h:x∈places l codes i):T9 codes (D5 l x)=true:=by
 unfold places at h
 obtain ⟨k,hk,rfl⟩:=List.mem_map.1 h
 exact (List.mem_filter.1 hk).2
theorem B1x {r:E8} {codes:List D7} {l:List F0} (hf:A0a r) (hck:D6 r codes l=0):∃ xs ys,A4z r codes l (U7 r l (P2 r.promos codes) (P2 r.promos codes)) xs ys:=by
 have ck:=A8K hck
 have hok:=ck.lines
 have hu:=B3e hok
 obtain ⟨u1,u2,u3⟩:=A1B l hok.line l.length (Nat.le_refl _)
 rw [List.take_length] at u1 u2
 have hitl:(C8 r.items l).length=l.length:=List.length_map ..
 have hpl:∀ x∈P2 r.promos codes,(0≤x∧x.toNat<r.promos.length)∧T9 codes (D5 r.promos x)=true:=fun x hx=>by
  have:=(P9 r.promos codes).mem_iff.1 hx
  exact ⟨T3 this,B2w this⟩
 have hlt:∀ x∈P2 r.promos codes,x.toNat<r.promos.length:=fun x hx=>(hpl x hx).1.2
 obtain ⟨xs,a1,a2,a3,a4⟩:=B7q (B9p (items:=C8 r.items l) (us0:=R6 l) hf.fit ck.promo) hlt (a:=⟨R6 l,[],[]⟩) (Tr.start r.promos (R6 l)) ⟨hu,Off.refl hu.ok⟩
 rw [List.nil_append] at a1
 rw [Int.zero_add] at a4
 have hfee:0≤Z7 r.ship (R6 l).length (K6 (p1B r l (P2 r.promos codes)))∧Z7 r.ship (R6 l).length (K6 (p1B r l (P2 r.promos codes)))≤r.ship.fee:=by
  unfold Z7;have:=ck.fee;split<;>omega
 obtain ⟨ys,b1,b2,b3⟩:=B7q (B8y (net:=K6 (p1B r l (P2 r.promos codes))) (fee:=r.ship.fee) (fee0:=Z7 r.ship (R6 l).length (K6 (p1B r l (P2 r.promos codes)))) ck.promo) hlt (a:=(p1B r l (P2 r.promos codes),Z7 r.ship (R6 l).length (K6 (p1B r l (P2 r.promos codes))))) (s:=0) a1 ⟨hfee.1,hfee.2,Int.add_zero _⟩
 rw [Int.zero_add] at b3
 have a2':∀ a∈xs,a.1∈P2 r.promos codes∧Q6 (D5 r.promos a.1)=true:=fun a ha=>List.mem_filter.1 (a2.subset (List.mem_map.2 ⟨a,ha,rfl⟩))
 have b2':∀ a∈ys,a.1∈P2 r.promos codes∧X6 (D5 r.promos a.1)=true:=fun a ha=>List.mem_filter.1 (b2.subset (List.mem_map.2 ⟨a,ha,rfl⟩))
 have hus:A5L (C8 r.items l) (p1B r l (P2 r.promos codes)).us:=a3
 have hlen:=a4.len
 have hln:∀ k,k<(p1B r l (P2 r.promos codes)).us.length→(gU (p1B r l (P2 r.promos codes)).us k).line.toNat<l.length:=fun k hk=>by
  have:=(hus.line _ (B4 hk)).2
  rw [hitl] at this;exact this
 have hsm:=A6Z hln _ (Nat.le_refl _)
 rw [List.take_length] at hsm
 refine ⟨xs,ys,b1.deals,fun a ha=>?_,a2.trans List.filter_sublist,b2.trans List.filter_sublist,fun a ha=>by simpa [Q6] using (a2' a ha).2,fun a ha=>by simpa [X6] using (b2' a ha).2,by rw [←b1.groups];exact b1.apart,?_,?_,hsm,fun i hi=>?_,⟨b3.1,b3.2.1⟩,b3.2.2⟩
 ·have hp:=b1.pos a ha
  rcases List.mem_append.1 ha with h | h
  ·exact ⟨(hpl _ (a2' a h).1).1,(hpl _ (a2' a h).1).2,hp⟩
  ·exact ⟨(hpl _ (b2' a h).1).1,(hpl _ (b2' a h).1).2,hp⟩
 ·have:=a4.sum
  show A6 (E0 (p1B r l (P2 r.promos codes)).us)+_=_
  exact this.trans u2
 ·show ((List.range l.length).map _).length=_
  rw [List.length_map,List.length_range]
 ·have e:gI (U7 r l (P2 r.promos codes) (P2 r.promos codes)).nets i=F6 (p1B r l (P2 r.promos codes)).us i:=by
   show gI ((List.range l.length).map (F6 (p1B r l (P2 r.promos codes)).us)) i=_
   unfold gI
   rw [List.getD_eq_getElem?_getD,List.getElem?_map,List.getElem?_range hi];rfl
  rw [e]
  have h1:=(A0d hus.ok (p1B r l (P2 r.promos codes)).us.length i).1
  rw [List.take_length] at h1
  have h2:=A9y a4 i _ (Nat.le_refl _)
  rw [List.take_length,List.take_of_length_le (Nat.le_of_eq hlen)] at h2
  have h3:=B5D l (fun x hx=>((Y8 _).1 (hok.line x hx)).1.1) i l.length (Nat.le_refl _)
  rw [if_pos hi] at h3
  have h2':F6 (p1B r l (P2 r.promos codes)).us i≤F6 (F9 l l.length) i:=h2
  exact ⟨h1,by omega⟩
theorem A8r {xs:List (Int×Int)} (h:∀ a∈xs,1≤a.2) (hs:A6 (xs.map Prod.snd)≤0):xs=[]:=by
 cases xs with
 | nil=>rfl
 | cons a xs =>
  have h1:=h a (List.mem_cons_self ..)
  have h2:0≤A6 (xs.map Prod.snd):=C7 fun x hx=>by
   obtain ⟨b,hb,rfl⟩:=List.mem_map.1 hx
   have:=h b (List.mem_cons_of_mem _ hb);omega
  rw [List.map_cons,N3] at hs;omega
theorem A4z.nothing {r:E8} {codes:List D7} {l:List F0} {Pr:A3B} {xs ys:List (Int×Int)} (h:A4z r codes l Pr xs ys) (hq:∀ x∈l,x.qty=0) (hu:(R6 l).length=0) (hg:I0 l=0) :
  Pr.deals=[]∧Pr.ship=0∧(∀ x∈Pr.nets,x=0):=by
 have h0:∀ x∈Pr.nets,x=0:=fun x hx=>by
  obtain ⟨i,hi,rfl⟩:=F4 hx
  have hi':i<l.length:=by rw [←h.len];exact hi
  have h1:=h.each i hi'
  rw [hq _ (B4 hi'),Int.zero_mul] at h1
  show gI Pr.nets i=0
  omega
 have hn:0≤Pr.net:=by rw [←h.nets];exact C7 fun x hx=>by rw [h0 x hx];exact Int.le_refl _
 have hx:xs=[]:=A8r (fun a ha=>(h.mem a (List.mem_append_left _ ha)).2.2) (by have:=h.sum;omega)
 have hsh:=h.shipSum
 have hfee:Z7 r.ship (R6 l).length Pr.net=0:=by unfold Z7;rw [if_pos (.inl (by omega))]
 have hy:ys=[]:=A8r (fun a ha=>(h.mem a (List.mem_append_right _ ha)).2.2) (by have:=h.ship;omega)
 subst hx hy
 refine ⟨by rw [h.deals];rfl,?_,h0⟩
 rw [hfee] at hsh
 have:Pr.ship+0=0:=hsh
 omega
end Go.Proofs.YthdimklenlikgaaGreat
namespace Go.Proofs.YthdimklenlikgaaGreat
open Go Go.Ab
attribute [local irreducible] upd del
structure A1F (R:E8) (C:List D7) (L:List F0):Prop where
 right:O0 R=true
 fit:A0a R
 sm:A8G R
 codes:R8 C=true
 ncodes:C.length≤3
 scodes:∀ s∈C,s.size≤12
 lines:A0E L
 check:D6 R C L=0
 few:R.promos.length≤6
 items:R.items.length≤8
 known:∀ n,known R.items (A0C n)=true
 fee:0≤R.ship.fee∧R.ship.fee≤1000000000
theorem C4k (r:E8) (codes:List D7) (l:List F0):A1F (W5 r) (A0w codes) (Q9 l):=by
 have hc:=B2C codes
 have hl:=A3S l
 have hr:=A8F r
 have hn:=A0R r.promos
 have hck:D6 (W5 r) (A0w codes) (Q9 l)=0:=by
  unfold D6
  rw [if_neg (by rw [hr];simp),if_neg (by rw [hc.1];simp)]
  exact hl.check (A9w r.items)
 exact ⟨hr,B0N r,B2F r,hc.1,hc.2.1,hc.2.2,hl,hck,by show (J7 r.promos).length≤6;omega,by show (N0 r.items).length≤8;rw [A2Y];omega,A9w r.items,(A8K hck).fee⟩
theorem A1F.promosC {R:E8} {C:List D7} {L:List F0} (h:A1F R C L):promosC R.promos=true:=by
 have:=h.right
 unfold O0 at this
 simp only [Bool.and_eq_true] at this
 exact this.1.1.1.2
def A1J (R:E8) (C:List D7) (L:List F0):A3B:=U7 R L (P2 R.promos C) (P2 R.promos C)
theorem B4n {R:E8} {C:List D7} {L:List F0} (hck:D6 R C L=0) (hf:A0a R) (hC:Go.Proofs.YthdimklenlikgaaGreat.promosC R.promos=true) (hn:R.promos.length≤6) (hi:R.items.length≤8) (hc:C.length≤3) (st:St) :
  S P 20 [J2 R,D3 C,A7 3 E4 L] st fun v s=>v=.tuple [X0 (A1J R C L),eI 0]∧s=st :=
 (price_S A7q R C L hf (by show C.length≤9223372036854775807;omega) (by omega) (by have:=Q3 R.promos C R.promos.length;omega) st).mono fun v s ⟨hv,hs⟩=>by
  refine ⟨?_,hs⟩
  rcases hv with ⟨h1,_⟩ | ⟨_,o1,o2,h1,h2,h3⟩
  ·exact absurd hck h1
  ·rw [B0a hC h1,B0a hC h2] at h3;exact h3
theorem A1F.price_S {R:E8} {C:List D7} {L:List F0} (h:A1F R C L) (st:St) :
  S P 20 [J2 R,D3 C,A7 3 E4 L] st fun v s=>v=.tuple [X0 (A1J R C L),eI 0]∧s=st :=
 B4n h.check h.fit h.promosC h.few h.items h.ncodes st
theorem A1F.law {R:E8} {C:List D7} {L:List F0} (h:A1F R C L):∃ xs ys,A4z R C L (A1J R C L) xs ys:=B1x h.fit h.check
structure C3D (L:List F0) (Pr:A3B) (g fee:Int):Prop where
 len:Pr.nets.length=L.length
 at':∀ i,i<L.length→0≤gI Pr.nets i∧gI Pr.nets i≤(L.getD i default).qty * (L.getD i default).price
 sum:A6 Pr.nets=Pr.net
 net:0≤Pr.net∧Pr.net≤g
 ship:0≤Pr.ship∧Pr.ship≤fee
theorem A1F.nets {R:E8} {C:List D7} {L:List F0} (h:A1F R C L):C3D L (A1J R C L) (I0 L) R.ship.fee:=by
 obtain ⟨xs,ys,hl⟩:=h.law
 have h0:∀ x∈(A1J R C L).nets,0≤x:=fun x hx=>by
  obtain ⟨i,hi,rfl⟩:=F4 hx
  exact (hl.each i (by rw [←hl.len];exact hi)).1
 have hx:0≤A6 (xs.map Prod.snd):=C7 fun x hx=>by
  obtain ⟨a,ha,rfl⟩:=List.mem_map.1 hx
  have:=(hl.mem a (List.mem_append_left _ ha)).2.2
  omega
 have hs:=hl.sum
 have hn:=hl.nets
 have:=C7 h0
 exact ⟨hl.len,hl.each,hl.nets,by omega,hl.ship⟩
theorem C2f {R:E8} {C:List D7} {L:List F0} {Pr:A3B} {xs ys:List (Int×Int)} (h:A4z R C L Pr xs ys) (hn:R.promos.length≤6):Pr.deals.length≤12:=by
 rw [h.deals,List.length_map,List.length_append]
 have h1:=h.sx.length_le
 have h2:=h.sy.length_le
 rw [List.length_map,(P9 R.promos C).length_eq] at h1 h2
 have:=Q3 R.promos C R.promos.length
 omega
theorem B2O (x:A3B) (h1:Sm x.nets.length) (h2:Sm x.deals.length) (st:St):S P 22 [X0 x,X0 x] st fun v st'=>v=.bool true∧st'=st:=by
 refine A5 [2,3] B7 mixed Tryz.func22 (by rfl) rfl rfl rfl ?_;conv=>whnf
 refine A4 (B4d x.nets h1 _) ?_;conv=>whnf
 rw [show (x.net==x.net)=true from beq_self_eq_true _];conv=>whnf
 rw [show (x.ship==x.ship)=true from beq_self_eq_true _];conv=>whnf
 refine A4 (B2x x.deals h2 _) ?_;conv=>whnf
 exact ⟨rfl,rfl⟩
theorem B2.pre {a b:List AV} {s t:St} (h:B2 a s b t):∀ l:List AV,B2 (l++a) s (l++b) t
 | []=>h
 | x::l=>B2.cons (B2.keep [x] s) (B2.pre h l)
abbrev B2i (l:List A1b):Nat→AV:=fun k=>O9 (l.getD k default)
theorem ROut.put {ty e n b:Nat} {fo:Nat→AV} {s t:St} {sv:AV} {y:Q5} (h:ROut F2 ty e fo n (upd s b y) sv t) (y':Q5):ROut F2 ty e fo n (upd s b y') sv (upd t b y'):=by
 have:=ROut.write (y':=y') C5 h (A0 ..)
 rwa [B6] at this
theorem A9N {l:List A1b} (h:l.length=0):N1 l=[⟨⟨[],[]⟩,2⟩]:=if_pos h
theorem A9O {l:List A1b} (h:l.length≠0):N1 l=(l.take 3).map V9:=if_neg h
theorem C2q {l:List A1b} {i:Nat} (hi:i<min l.length 3):((l.take 3).map V9).getD i default=V9 (l.getD i default):=by
 rw [List.getD_eq_getElem?_getD,List.getElem?_map,List.getElem?_take_of_lt (by omega),List.getElem?_eq_getElem (by omega),List.getD_eq_getElem?_getD,List.getElem?_eq_getElem (by omega)];rfl
set_option maxHeartbeats 80000000 in
theorem B4i (p:B1) (id:Int) (st:St):S P 147 [B8 p,eI id] st fun v st'=>v=B8 (A1m p id)∧st'=st:=by
 refine S.post (post:=fun v s=>(∃ W,v=.agg W∧F2 st s∧F5 W (cellsOf (B8 (A1m p id))))∨∃ (pre:List AV) (sv fin:AV) (base:St),v=.agg (pre++[sv,fin])∧B2 [sv] s [A7 3 O9 (N1 p.parts)] base∧F2 st base∧F5 (pre++[A7 3 O9 (N1 p.parts),fin]) (cellsOf (B8 (A1m p id)))) ?_ (fun v s h=>⟨_,st,⟨rfl,rfl⟩,by
   rcases h with ⟨W,h1,h3,h4⟩ | ⟨pre,sv,fin,base,h1,h2,h3,h4⟩
   ·rw [h1];exact (Le.shift (Le.agg h4) _).trans (h3.shift _)
   ·rw [h1]
    refine (B2.agg (B2.pre (B2.cons h2 (B2.keep [fin] _)) pre)).trans ?_
    exact (Le.shift (Le.agg h4) _).trans (h3.shift _)⟩)
 have hScope:=fun s=>B4p p.scope s
 obtain ⟨SC,hSC⟩:∃ SC,SC=N9 p.scope:=⟨_,rfl⟩
 rw [←hSC] at hScope
 have hId:=fun s=>C8n id s
 obtain ⟨I,hI⟩:∃ I,I=idN id:=⟨_,rfl⟩
 rw [←hI] at hId
 have hPr:=fun s=>A0u p.prio 5 (by decide) (by decide) s
 obtain ⟨PR,hPR⟩:∃ PR,PR=C1 p.prio 5:=⟨_,rfl⟩
 rw [←hPR] at hPr
 have hKd:=fun s=>A0u (IntKind.i64.wrap (p.kind - 1)) 7 (by decide) (by decide) s
 have hkm:=E1 (IntKind.i64.wrap (p.kind - 1)) (n:=7) (by decide)
 have hkw:IntKind.i64.wrap (1+C1 (IntKind.i64.wrap (p.kind - 1)) 7)=A2w p:=A9 (by omega) (by omega)
 have hK:=A4X p
 have hP:A1m p id=L9 p id (A2w p):=rfl
 rw [hP]
 generalize A2w p=K at hK hkw ⊢
 clear hP
 generalize C1 (IntKind.i64.wrap (p.kind - 1)) 7=KD at hKd hkw
 obtain ⟨G,hG⟩:∃ G,G=A1l p:=⟨_,rfl⟩
 obtain ⟨C,hC⟩:∃ C,C=A2v p:=⟨_,rfl⟩
 obtain ⟨L,hL⟩:∃ L,L=A2h p:=⟨_,rfl⟩
 have wr:IntKind.i64.wrap (1+C1 p.rate 10000)=1+C1 p.rate 10000:=by have:=E1 p.rate (n:=10000) (by decide);exact A9 (by omega) (by omega)
 have wa:IntKind.i64.wrap (1+C1 p.amount 900)=1+C1 p.amount 900:=by have:=E1 p.amount (n:=900) (by decide);exact A9 (by omega) (by omega)
 have wb:IntKind.i64.wrap (1+C1 p.buy 3)=1+C1 p.buy 3:=by have:=E1 p.buy (n:=3) (by decide);exact A9 (by omega) (by omega)
 have wg:IntKind.i64.wrap (1+C1 p.get 2)=1+C1 p.get 2:=by have:=E1 p.get (n:=2) (by decide);exact A9 (by omega) (by omega)
 have hT5:=fun s=>A8m p.tiers 5000 (by decide) (by decide) s
 obtain ⟨TS,hTS⟩:∃ TS,TS=N2 p.tiers 5000:=⟨_,rfl⟩
 rw [←hTS] at hT5
 have hT6:=fun s=>A8m p.tiers 5 (by decide) (by decide) s
 obtain ⟨TU,hTU⟩:∃ TU,TU=N2 p.tiers 5:=⟨_,rfl⟩
 rw [←hTU] at hT6
 have hA3:=fun s=>L8 p.amount 3000 (by decide) (by decide) s
 obtain ⟨A3,hA⟩:∃ A3,A3=C1 p.amount 3000:=⟨_,rfl⟩
 rw [←hA] at hA3
 refine A5 [2] B7 mixed Tryz.func147 (by rfl) rfl rfl rfl ?_;conv=>whnf
 intro b4 hb4;conv=>whnf
 refine ⟨[16,17],[1,3,5,8,9,11,13,14],List.range 18,by kernel_rfl,?_⟩;conv=>whnf
 refine ⟨_,fun s _=>C9 (hId s),?_⟩;conv=>whnf
 refine ⟨_,fun s _=>⟨rfl,rfl⟩,?_⟩;conv=>whnf
 refine ⟨_,fun s _=>C9 (hKd s),?_⟩;conv=>whnf
 refine ⟨_,fun s _=>⟨rfl,rfl⟩,?_⟩;conv=>whnf
 refine ⟨_,fun s _=>C9 (hPr s),?_⟩;conv=>whnf
 refine ⟨_,fun s _=>⟨rfl,rfl⟩,?_⟩;conv=>whnf
 refine ⟨_,fun s _=>⟨rfl,rfl⟩,?_⟩;conv=>whnf
 refine ⟨_,fun s _=>C9 (hScope s),?_⟩;conv=>whnf
 intro b5 hb5
 have hne:b4≠b5:=fun e=>by subst e;rw [A0] at hb5;cases hb5
 conv=>whnf
 refine K4 (A0 ..) rfl (by omega) rfl (by rfl) ?_
 rw [B6,hkw]
 have hst:∀ Y:Q5,F2 st (upd (upd st b4 ⟨83,15,1,fun _=>K3 r83.zero⟩) b5 Y):=fun Y=>((F2.refl st).upd hb4).upd hb5
 conv=>whnf
 refine A4 (A9L _ _) ?_;conv=>whnf
 refine A4 (A0u _ 3 (by decide) (by decide) _) ?_;conv=>whnf
 cases hg:(C1 (A2M p.group) 3==1)
 case' true =>
  have hgv:(⟨#[103]⟩:D7)++B0U ([]++[IntKind.u8.wrap (48+IntKind.u8.wrap (C1 p.group.size 2))])=G:=by rw [hG,B1J];exact (if_pos (by simpa using hg)).symm
  conv=>whnf
  refine A4 (A0u _ 2 (by decide) (by decide) _) ?_;conv=>whnf
  rw [hgv]
  refine K4 (A0 ..) rfl (by omega) (A2 ..) (by rfl) ?_
  rw [B6]
 case' false =>
  have hG0:(⟨#[]⟩:D7)=G:=by rw [hG];exact (if_neg (by simpa using hg)).symm
 all_goals
  conv=>whnf
  refine A4 (A9L _ _) ?_;conv=>whnf
  refine A4 (A0u _ 3 (by decide) (by decide) _) ?_;conv=>whnf
  cases hcd:(C1 (A2M p.code) 3==1)
  case' true =>
   have hcv:A4e p.code.size=C:=by rw [hC];exact (if_pos (by simpa using hcd)).symm
   conv=>whnf
   refine A4 (B9z _ _) ?_;conv=>whnf
   rw [hcv]
   refine K4 (A0 ..) rfl (by omega) (A2 ..) (by rfl) ?_
   rw [B6]
  case' false =>
   have hC0:(⟨#[]⟩:D7)=C:=by rw [hC];exact (if_neg (by simpa using hcd)).symm
  all_goals
   conv=>whnf
   refine A4 (L8 _ 3 (by decide) (by decide) _) ?_;conv=>whnf
   cases hl:(C1 p.least 3==1)
   case' true =>
    have hlv:C1 p.least 9000=L:=by rw [hL];exact (if_pos (by simpa using hl)).symm
    conv=>whnf
    refine A4 (L8 _ 9000 (by decide) (by decide) _) ?_;conv=>whnf
    rw [hlv]
    refine K4 (A0 ..) rfl (by omega) (A2 ..) (by rfl) ?_
    rw [B6]
   case' false =>
    have hL0:(0:Int)=L:=by rw [hL];exact (if_neg (by simpa using hl)).symm
   all_goals
    conv=>whnf
    refine E9 (A0 ..) rfl (by omega) (A2 ..) ?_
    rcases (show K=1∨K=2∨K=3∨K=4∨K=5∨K=6∨K=7 by omega) with rfl | rfl | rfl | rfl | rfl | rfl | rfl
    ·rw [show cellsOf (B8 (L9 p id 1))=[eS (I),eI 1,eI (PR),eS (G),eS (C),eB p.closes,D3 (SC).skus,D3 (SC).cats,eI (L),eI (1+C1 p.rate 10000),eI 0,eI 0,eI 0,A7 3 O9 [],A7 3 L4 []] from by rw [hI,hPR,hG,hC,hL,hSC];rfl]
     (try subst hG0);(try subst hC0);(try subst hL0)
     conv=>whnf
     refine A4 (L8 _ 10000 (by decide) (by decide) _) ?_;conv=>whnf
     rw [wr]
     refine K4 (A0 ..) rfl (by omega) (A2 ..) (by rfl) ?_
     rw [B6];conv=>whnf
     refine E9 (A0 ..) rfl (by omega) (A2 ..) ?_;conv=>whnf
     refine K4 (by rw [A8 hne];exact A0 ..) rfl (by omega) rfl (by rfl) ?_;conv=>whnf
     refine E9 (A0 ..) rfl (by omega) (A2 ..) ?_;conv=>whnf
     exact .inl ⟨_,rfl,(hst _).over hb4,F5.cons (Le.refl _) (F5.cons (Le.refl _) (F5.cons (Le.refl _) (F5.cons (Le.refl _) (F5.cons (Le.refl _) (F5.cons (Le.refl _) (F5.cons (Le.refl _) (F5.cons (Le.refl _) (F5.cons (Le.refl _) (F5.cons (Le.refl _) (F5.cons (Le.refl _) (F5.cons (Le.refl _) (F5.cons (Le.refl _) (F5.cons (Le.emp _ _) (F5.cons (Le.emp _ _) (F5.nil)))))))))))))))⟩
    ·rw [show cellsOf (B8 (L9 p id 2))=[eS (I),eI 2,eI (PR),eS (G),eS (C),eB p.closes,D3 (SC).skus,D3 (SC).cats,eI (L),eI 0,eI (1+C1 p.amount 900),eI 0,eI 0,A7 3 O9 [],A7 3 L4 []] from by rw [hI,hPR,hG,hC,hL,hSC];rfl]
     (try subst hG0);(try subst hC0);(try subst hL0)
     conv=>whnf
     refine A4 (L8 _ 900 (by decide) (by decide) _) ?_;conv=>whnf
     rw [wa]
     refine K4 (A0 ..) rfl (by omega) (A2 ..) (by rfl) ?_
     rw [B6];conv=>whnf
     refine E9 (A0 ..) rfl (by omega) (A2 ..) ?_;conv=>whnf
     refine K4 (by rw [A8 hne];exact A0 ..) rfl (by omega) rfl (by rfl) ?_;conv=>whnf
     refine E9 (A0 ..) rfl (by omega) (A2 ..) ?_;conv=>whnf
     exact .inl ⟨_,rfl,(hst _).over hb4,F5.cons (Le.refl _) (F5.cons (Le.refl _) (F5.cons (Le.refl _) (F5.cons (Le.refl _) (F5.cons (Le.refl _) (F5.cons (Le.refl _) (F5.cons (Le.refl _) (F5.cons (Le.refl _) (F5.cons (Le.refl _) (F5.cons (Le.refl _) (F5.cons (Le.refl _) (F5.cons (Le.refl _) (F5.cons (Le.refl _) (F5.cons (Le.emp _ _) (F5.cons (Le.emp _ _) (F5.nil)))))))))))))))⟩
    ·rw [show cellsOf (B8 (L9 p id 3))=[eS (I),eI 3,eI (PR),eS (G),eS (C),eB p.closes,D3 (SC).skus,D3 (SC).cats,eI (L),eI (1+C1 p.rate 10000),eI 0,eI (1+C1 p.buy 3),eI (1+C1 p.get 2),A7 3 O9 [],A7 3 L4 []] from by rw [hI,hPR,hG,hC,hL,hSC];rfl]
     (try subst hG0);(try subst hC0);(try subst hL0)
     conv=>whnf
     refine ⟨[13,15,17],[],List.range 18,by kernel_rfl,?_⟩;conv=>whnf
     refine ⟨_,C9 (L8 _ 10000 (by decide) (by decide) _),?_⟩;conv=>whnf
     rw [wr]
     refine ⟨_,C9 (A0u _ 3 (by decide) (by decide) _),?_⟩;conv=>whnf
     rw [wb]
     refine ⟨_,C9 (A0u _ 2 (by decide) (by decide) _),?_⟩;conv=>whnf
     rw [wg]
     refine K4 (A0 ..) rfl (by omega) (A2 ..) (by rfl) ?_
     rw [B6];conv=>whnf
     refine K4 (A0 ..) rfl (by omega) (A2 ..) (by rfl) ?_
     rw [B6];conv=>whnf
     refine K4 (A0 ..) rfl (by omega) (A2 ..) (by rfl) ?_
     rw [B6];conv=>whnf
     refine E9 (A0 ..) rfl (by omega) (A2 ..) ?_;conv=>whnf
     refine K4 (by rw [A8 hne];exact A0 ..) rfl (by omega) rfl (by rfl) ?_;conv=>whnf
     refine E9 (A0 ..) rfl (by omega) (A2 ..) ?_;conv=>whnf
     exact .inl ⟨_,rfl,(hst _).over hb4,F5.cons (Le.refl _) (F5.cons (Le.refl _) (F5.cons (Le.refl _) (F5.cons (Le.refl _) (F5.cons (Le.refl _) (F5.cons (Le.refl _) (F5.cons (Le.refl _) (F5.cons (Le.refl _) (F5.cons (Le.refl _) (F5.cons (Le.refl _) (F5.cons (Le.refl _) (F5.cons (Le.refl _) (F5.cons (Le.refl _) (F5.cons (Le.emp _ _) (F5.cons (Le.emp _ _) (F5.nil)))))))))))))))⟩
    ·rw [show cellsOf (B8 (L9 p id 4))=[eS (I),eI 4,eI (PR),eS (G),eS (C),eB p.closes,D3 [],D3 [],eI (L),eI 0,eI (A3),eI 0,eI 0,A7 3 O9 (N1 p.parts),A7 3 L4 []] from by rw [hI,hPR,hG,hC,hL,hA];rfl];conv=>whnf
     refine A4 (hA3 _) ?_;conv=>whnf
     refine K4 (A0 ..) rfl (by omega) (A2 ..) (by rfl) ?_
     rw [B6];conv=>whnf
     refine K4 (A0 ..) rfl (by omega) (A2 ..) (by rfl) ?_
     rw [B6];conv=>whnf
     refine lp (min p.parts.length 3) [2,4,5,6] (fun i vs s=>∃ sv f,vs=[.fptr (B8 p) 0,.optr 15 b4 0 0,.optr 15 b5 0 0,eI i]∧f 0=.agg ([eS I,eI 4,eI PR,eS G,eS C,eB p.closes,.emp,.emp,eI L,eI 0,eI A3,eI 0,eI 0]++[sv,.emp])∧ROut F2 244 3 (B2i ((p.parts.take 3).map V9)) i (upd (upd st b4 ⟨83,15,1,fun _=>K3 r83.zero⟩) b5 ⟨83,15,1,f⟩) sv s) ?_ ?_
     ·conv=>whnf
      exact ⟨.emp,_,rfl,by (try rw [←hG0]);(try rw [←hC0]);(try rw [←hL0]);first | rfl | (rw [A2];rfl),ROut.start (F2.refl _) _ _ _⟩
     ·rintro i vs s hi ⟨sv,f,rfl,hf,hR⟩
      have hsup:=ROut.sup C5 hR
      have at5:s b5=some ⟨83,15,1,f⟩:=hsup b5 _ (A0 ..)
      have at4:s b4=some ⟨83,15,1,fun _=>K3 r83.zero⟩:=hsup b4 _ (by rw [A8 hne];exact A0 ..)
      have n5:st b5=none:=by rw [A8 (Ne.symm hne)] at hb5;exact hb5
      conv=>whnf
      refine C3 (fun h1=>?_) (fun h1=>?_)<;>rw [h1]<;>simp only [decide_eq_true_eq,decide_eq_false_iff_not] at h1
      case' refine_1 =>
       conv=>whnf
       refine C3 (fun h2=>?_) (fun h2=>?_)<;>rw [h2]<;>simp only [decide_eq_true_eq,decide_eq_false_iff_not] at h2
      case refine_1.refine_1 =>
       have hi':i<min p.parts.length 3:=by omega
       have hsc2:=fun s=>B4p (p.parts.getD (i:Int).toNat default).scope s
       have hpa:=C2q hi'
       have hm2:=E1 (p.parts.getD (i:Int).toNat default).count (n:=2) (by decide)
       have wc:IntKind.i64.wrap (1+C1 (p.parts.getD (i:Int).toNat default).count 2)=1+C1 (p.parts.getD (i:Int).toNat default).count 2:=A9 (by omega) (by omega)
       have hpp:O9 (V9 (p.parts.getD i default))=.agg [D3 (N9 (p.parts.getD (i:Int).toNat default).scope).skus,D3 (N9 (p.parts.getD (i:Int).toNat default).scope).cats,eI (1+C1 (p.parts.getD (i:Int).toNat default).count 2)]:=rfl
       generalize N9 (p.parts.getD (i:Int).toNat default).scope=S2 at hsc2 hpp
       rcases ROut.head hR with rfl | ⟨bp,rfl⟩
       all_goals
        conv=>whnf
        refine ⟨[19,21],[15],List.range 22,by kernel_rfl,?_⟩;conv=>whnf
        refine E9 at5 rfl (by omega) hf ?_;conv=>whnf
        refine ⟨rfl,⟨by omega,by omega⟩,?_⟩;conv=>whnf
        refine ⟨_,C9 (hsc2 _),?_⟩;conv=>whnf
        refine ⟨rfl,⟨by omega,by omega⟩,?_⟩;conv=>whnf
        refine ⟨_,fun s _=>C9 (A0u _ 2 (by decide) (by decide) s),?_⟩;conv=>whnf
        rw [wc]
        refine ⟨_,⟨rfl,rfl⟩,?_⟩;conv=>whnf
        refine ROut.app (q:=C2v) C5 rfl rfl rfl rfl rfl (f:=B2i ((p.parts.take 3).map V9)) (by show _=O9 _;rw [hpa,hpp];rfl) (by show (i+1) * 56≤140737488355328;omega) hR (fun sv' t2 hR2=>?_)
        have at5':t2 b5=some ⟨83,15,1,f⟩:=ROut.sup C5 hR2 b5 _ (A0 ..)
        rcases ROut.head hR2 with rfl | ⟨bp',rfl⟩
        all_goals
         conv=>whnf
         refine K4 at5' rfl (by omega) hf (by rfl) ?_;conv=>whnf
         refine ⟨rfl,?_⟩;conv=>whnf
         exact nx hi' ⟨_,_,by rw [C0 (by omega)],(by rw [A2];rfl),ROut.put hR2 _⟩
      all_goals
       have hie:i=min p.parts.length 3:=by omega
       obtain ⟨s0,hcol,hss⟩:=hR
       rcases hcol with ⟨h0,rfl,rfl⟩ | ⟨h0,bp,g,hbp,rfl,rfl,hgg⟩
       ·have hPP:=A9N (l:=p.parts) (by omega)
        subst h0
        rw [hPP];conv=>whnf
        refine E9 at5 rfl (by omega) hf ?_;conv=>whnf
        refine K4 at5 rfl (by omega) hf (by rfl) ?_;conv=>whnf
        refine E9 (A0 ..) rfl (by omega) (A2 ..) ?_;conv=>whnf
        refine K4 (by rw [A8 hne];exact at4) rfl (by omega) rfl (by rfl) ?_;conv=>whnf
        refine E9 (A0 ..) rfl (by omega) (A2 ..) ?_;conv=>whnf
        exact .inl ⟨_,rfl,((((F2.refl st).upd hb4).upd hb5).trans hss |>.over n5).over hb4,F5.cons (Le.refl _) (F5.cons (Le.refl _) (F5.cons (Le.refl _) (F5.cons (Le.refl _) (F5.cons (Le.refl _) (F5.cons (Le.refl _) (F5.cons (Le.emp _ _) (F5.cons (Le.emp _ _) (F5.cons (Le.refl _) (F5.cons (Le.refl _) (F5.cons (Le.refl _) (F5.cons (Le.refl _) (F5.cons (Le.refl _) (F5.cons (Le.arr1 (F5.cons (Le.emp _ _) (F5.cons (Le.emp _ _) (F5.cons (Le.refl _) F5.nil))) rfl) (F5.cons (Le.emp _ _) (F5.nil)))))))))))))))⟩
       ·have hPP:=A9O (l:=p.parts) (by omega)
        have hAP:A7 3 O9 (N1 p.parts)=.arr 3 i (B2i ((p.parts.take 3).map V9)):=by unfold A7;rw [hPP,show ((p.parts.take 3).map V9).length=i by rw [List.length_map,List.length_take];omega]
        have hR3:ROut F2 244 3 (B2i ((p.parts.take 3).map V9)) i (upd (upd st b4 ⟨83,15,1,fun _=>K3 r83.zero⟩) b5 ⟨83,15,1,f⟩) (.own 3 bp 0 i) s:=⟨_,.inr ⟨h0,bp,g,hbp,rfl,rfl,hgg⟩,hss⟩
        conv=>whnf
        refine E9 at5 rfl (by omega) hf ?_;conv=>whnf
        rw [show ((i:Int)==0)=false by rw [beq_eq_false_iff_ne];omega];conv=>whnf
        refine E9 at5 rfl (by omega) hf ?_;conv=>whnf
        refine K4 at4 rfl (by omega) rfl (by rfl) ?_;conv=>whnf
        refine E9 (A0 ..) rfl (by omega) (A2 ..) ?_;conv=>whnf
        obtain ⟨base,hsh,hsb⟩:=ROut.shift C5 (ROut.write C5 hR3 (b:=b4) (by rw [A8 hne];exact A0 ..))
        refine .inr ⟨[eS I,eI 4,eI PR,eS G,eS C,eB p.closes,.emp,.emp,eI L,eI 0,eI A3,eI 0,eI 0],.own 3 bp 0 i,.emp,base,rfl,by rw [hAP];exact hsh,((((F2.refl st).upd hb4).upd hb5).over hb4).trans hsb,F5.cons (Le.refl _) (F5.cons (Le.refl _) (F5.cons (Le.refl _) (F5.cons (Le.refl _) (F5.cons (Le.refl _) (F5.cons (Le.refl _) (F5.cons (Le.emp _ _) (F5.cons (Le.emp _ _) (F5.cons (Le.refl _) (F5.cons (Le.refl _) (F5.cons (Le.refl _) (F5.cons (Le.refl _) (F5.cons (Le.refl _) (F5.cons (Le.refl _) (F5.cons (Le.emp _ _) (F5.nil)))))))))))))))⟩
    ·rw [show cellsOf (B8 (L9 p id 5))=[eS (I),eI 5,eI (PR),eS (G),eS (C),eB p.closes,D3 (SC).skus,D3 (SC).cats,eI (L),eI 0,eI 0,eI 0,eI 0,A7 3 O9 [],A7 3 L4 (TS)] from by rw [hI,hPR,hG,hC,hL,hSC,hTS];rfl]
     (try subst hG0);(try subst hC0);(try subst hL0)
     conv=>whnf
     refine A4 (hT5 _) ?_;conv=>whnf
     refine K4 (A0 ..) rfl (by omega) (A2 ..) (by rfl) ?_
     rw [B6];conv=>whnf
     refine E9 (A0 ..) rfl (by omega) (A2 ..) ?_;conv=>whnf
     refine K4 (by rw [A8 hne];exact A0 ..) rfl (by omega) rfl (by rfl) ?_;conv=>whnf
     refine E9 (A0 ..) rfl (by omega) (A2 ..) ?_;conv=>whnf
     exact .inl ⟨_,rfl,(hst _).over hb4,F5.cons (Le.refl _) (F5.cons (Le.refl _) (F5.cons (Le.refl _) (F5.cons (Le.refl _) (F5.cons (Le.refl _) (F5.cons (Le.refl _) (F5.cons (Le.refl _) (F5.cons (Le.refl _) (F5.cons (Le.refl _) (F5.cons (Le.refl _) (F5.cons (Le.refl _) (F5.cons (Le.refl _) (F5.cons (Le.refl _) (F5.cons (Le.emp _ _) (F5.cons (Le.refl _) (F5.nil)))))))))))))))⟩
    ·rw [show cellsOf (B8 (L9 p id 6))=[eS (I),eI 6,eI (PR),eS (G),eS (C),eB p.closes,D3 (SC).skus,D3 (SC).cats,eI (L),eI 0,eI 0,eI 0,eI 0,A7 3 O9 [],A7 3 L4 (TU)] from by rw [hI,hPR,hG,hC,hL,hSC,hTU];rfl]
     (try subst hG0);(try subst hC0);(try subst hL0)
     conv=>whnf
     refine A4 (hT6 _) ?_;conv=>whnf
     refine K4 (A0 ..) rfl (by omega) (A2 ..) (by rfl) ?_
     rw [B6];conv=>whnf
     refine E9 (A0 ..) rfl (by omega) (A2 ..) ?_;conv=>whnf
     refine K4 (by rw [A8 hne];exact A0 ..) rfl (by omega) rfl (by rfl) ?_;conv=>whnf
     refine E9 (A0 ..) rfl (by omega) (A2 ..) ?_;conv=>whnf
     exact .inl ⟨_,rfl,(hst _).over hb4,F5.cons (Le.refl _) (F5.cons (Le.refl _) (F5.cons (Le.refl _) (F5.cons (Le.refl _) (F5.cons (Le.refl _) (F5.cons (Le.refl _) (F5.cons (Le.refl _) (F5.cons (Le.refl _) (F5.cons (Le.refl _) (F5.cons (Le.refl _) (F5.cons (Le.refl _) (F5.cons (Le.refl _) (F5.cons (Le.refl _) (F5.cons (Le.emp _ _) (F5.cons (Le.refl _) (F5.nil)))))))))))))))⟩
    ·rw [show cellsOf (B8 (L9 p id 7))=[eS (I),eI 7,eI (PR),eS (G),eS (C),eB false,D3 [],D3 [],eI (L),eI (1+C1 p.rate 10000),eI 0,eI 0,eI 0,A7 3 O9 [],A7 3 L4 []] from by rw [hI,hPR,hG,hC,hL];rfl]
     (try subst hG0);(try subst hC0);(try subst hL0)
     conv=>whnf
     refine A4 (L8 _ 10000 (by decide) (by decide) _) ?_;conv=>whnf
     rw [wr]
     refine K4 (A0 ..) rfl (by omega) (A2 ..) (by rfl) ?_
     rw [B6];conv=>whnf
     refine K4 (A0 ..) rfl (by omega) (A2 ..) (by rfl) ?_
     rw [B6];conv=>whnf
     refine K4 (A0 ..) rfl (by omega) (A2 ..) (by rfl) ?_
     rw [B6];conv=>whnf
     refine E9 (A0 ..) rfl (by omega) (A2 ..) ?_;conv=>whnf
     refine K4 (by rw [A8 hne];exact A0 ..) rfl (by omega) rfl (by rfl) ?_;conv=>whnf
     refine E9 (A0 ..) rfl (by omega) (A2 ..) ?_;conv=>whnf
     exact .inl ⟨_,rfl,(hst _).over hb4,F5.cons (Le.refl _) (F5.cons (Le.refl _) (F5.cons (Le.refl _) (F5.cons (Le.refl _) (F5.cons (Le.refl _) (F5.cons (Le.refl _) (F5.cons (Le.emp _ _) (F5.cons (Le.emp _ _) (F5.cons (Le.refl _) (F5.cons (Le.refl _) (F5.cons (Le.refl _) (F5.cons (Le.refl _) (F5.cons (Le.refl _) (F5.cons (Le.emp _ _) (F5.cons (Le.emp _ _) (F5.nil)))))))))))))))⟩
theorem C2a (i:Nat) (h:i<6):Int.tmod (IntKind.i64.wrap (IntKind.i64.wrap ((i:Int) * 7)+3)) 10=B7T i:=by
 rw [A9 (x:=(i:Int) * 7) (by omega) (by omega),A9 (by omega) (by omega),Int.tmod_eq_emod_of_nonneg (by omega)];rfl
theorem B2E (l:List B1) (st:St):S P 73 [A7 15 B8 l] st fun v st'=>v=A7 15 B8 (J7 l)∧st'=st:=by
 refine W7 (ty:=83) ?_
 have hat:∀ i,i<6→U1 l i=A1m (l.getD (i:Int).toNat default) (Int.tmod (IntKind.i64.wrap (IntKind.i64.wrap ((i:Int) * 7)+3)) 10):=fun i hi=>by rw [C2a i hi];rfl
 have hPl:J7 l=(List.range (min l.length 6)).map (U1 l):=rfl
 rw [hPl]
 have hnext:=A4P (U1 l)
 have hS:=fun i=>B4i (l.getD (i:Nat) default)
 generalize U1 l=F at hat hnext ⊢
 refine A5 [] B7 mixed Tryz.func73 (by rfl) rfl rfl rfl ?_;conv=>whnf
 refine lp (min l.length 6) [0,3,4] (fun i vs s=>∃ sv,vs=[A7 15 B8 l,sv,eI i]∧G0 83 15 B8 ((List.range i).map F) st sv s) ?_ ?_
 ·conv=>whnf
  exact ⟨.emp,rfl,G0.start _ _ _ _⟩
 ·rintro i vs s hi ⟨sv,rfl,hc⟩
  have hfin:i=min l.length 6→G0 83 15 B8 ((List.range (min l.length 6)).map F) st sv s:=fun e=>by rw [←e];exact hc
  have hlen:((List.range i).map F).length=i:=by rw [List.length_map,List.length_range]
  conv=>whnf
  refine C3 (fun h1=>?_) (fun h1=>?_)<;>rw [h1]<;>simp only [decide_eq_true_eq,decide_eq_false_iff_not] at h1
  ·conv=>whnf
   refine C3 (fun h2=>?_) (fun h2=>?_)<;>rw [h2]<;>simp only [decide_eq_true_eq,decide_eq_false_iff_not] at h2
   ·have hi':i<min l.length 6:=by omega
    have hF:=hat i (by omega)
    conv=>whnf
    refine ⟨rfl,⟨by omega,by omega⟩,?_⟩;conv=>whnf
    refine A4 (hS (i:Int).toNat _ _) ?_
    generalize hid:Int.tmod (IntKind.i64.wrap (IntKind.i64.wrap ((i:Int) * 7)+3)) 10=ID at hF
    generalize A1m (l.getD (i:Int).toNat default) ID=Y at hF
    conv=>whnf
    refine G0.app (y:=Y) (q:=r83) rfl rfl rfl rfl rfl (by rfl) (by rw [hlen];show (i+1) * 208≤140737488355328;omega) hc (fun sv' t' hc'=>?_);conv=>whnf
    refine ⟨rfl,?_⟩;conv=>whnf
    refine nx hi' ⟨sv',by rw [C0 (by omega)],?_⟩
    rw [hnext,hF];exact hc'
   ·conv=>whnf
    exact hfin (by omega)
  ·conv=>whnf
   exact hfin (by omega)
end Go.Proofs.YthdimklenlikgaaGreat
