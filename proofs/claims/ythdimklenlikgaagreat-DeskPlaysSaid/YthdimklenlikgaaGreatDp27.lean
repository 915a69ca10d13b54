/- Part 27 of the proof: contracts of the functions that the law reaches -/
import Derived.Test.YthdimklenlikgaaGreatDp26
set_option maxRecDepth 100000
set_option linter.unusedVariables false
set_option linter.unusedSimpArgs false
namespace Go.Proofs.YthdimklenlikgaaGreat
open Go Go.Ab
attribute [local irreducible] upd del
structure A9a (s:O4):Prop where
 skus:s.skus.length≤100000
 cats:s.cats.length≤100000
structure A6B (r:F1):Prop where
 items:r.items.length≤100000
 promos:r.promos.length≤100000
 scope:∀ p∈r.promos,A9a p.scope
 parts:∀ p∈r.promos,p.parts.length≤100000
 part:∀ p∈r.promos,∀ x∈p.parts,A9a x.scope
 tiers:∀ p∈r.promos,p.tiers.length≤100000
 zones:r.tax.zones.length≤100000
 rates:∀ z∈r.tax.zones,z.rates.length≤100000
 order:r.policy.order.length≤100000
 credit:r.policy.credit.length≤100000
theorem A6N (s:O4) (h:A9a s) (st:St):S P 190 [J4 s] st fun v st'=>v=J4 s∧st'=st:=by
 have c1:=fun u=>A4B s.skus h.skus u
 have c2:=fun u=>A4B s.cats h.cats u
 refine A2i ?_
 refine A4 [1] B7 mixed Tryz.func190 (by rfl) rfl rfl rfl ?_;conv=>whnf
 intro b2 hb2;conv=>whnf
 refine ⟨[7],[],List.range 8,by kernel_rfl,?_⟩;conv=>whnf
 refine ⟨_,C6 (c1 _),?_⟩;conv=>whnf
 refine ⟨_,C6 (c2 _),?_⟩;conv=>whnf
 refine J7 (A0 ..) rfl (by omega) rfl (by rfl) ?_;conv=>whnf
 refine E8 (A0 ..) rfl (by omega) (A2 ..) ?_;conv=>whnf
 exact ⟨rfl,((E7.refl st).upd hb2).over hb2⟩
def B2O (p:B2) (sv:AV):AV:=.agg [eS p.id,eI p.kind,eI p.prio,eS p.group,eS p.code,eB p.closes,D3 p.scope.skus,D3 p.scope.cats,eI p.least,eI p.rate,eI p.amount,eI p.buy,eI p.get,sv,A7 3 L4 p.tiers]
def B6k (r:F1) (pv zv:AV):AV:=.agg [A7 4 E2 r.items,pv,eB r.tax.incl,eB r.tax.byOrder,eI r.tax.round,zv,eI r.ship.fee,eI r.ship.free,eI r.policy.window,eI r.policy.grace,eI r.policy.mode,eI r.policy.restock,B3 r.policy.order,B3 r.policy.credit]
def B6K (r:F1) (zv:AV):St→St→Prop:=fun s t=>ROut E7 184 4 (fun k=>S8 (r.tax.zones.getD k default)) r.tax.zones.length s zv t
abbrev prK (r:F1) (k:Nat):B2:=r.promos.getD k default
abbrev A9K (r:F1) (k:Nat):Nat→AV:=fun j=>O8 ((prK r k).parts.getD j default)
abbrev A9L (r:F1) (k:Nat):Nat:=(prK r k).parts.length
abbrev B5X (r:F1) (zv:AV) (sv:Nat→AV) (i:Nat):St→St→Prop:=X6 (B6K r zv) 244 3 (A9K r) (A9L r) sv i
abbrev A1X (r:F1) (sv:Nat→AV) (i k:Nat):AV:=if k<i then B2O (prK r k) (sv k) else B8 (prK r k)
def A0H (r:F1) (pv zv:AV) (sv:Nat→AV) (i j:Nat):St→St→Prop:=fun s t=>ROut (B5X r zv sv i) 83 15 (A1X r sv j) r.promos.length s pv t
theorem A2n (r:F1) (zv:AV):G8 (B6K r zv):=M9 C3 _ _ _ _ _
theorem U6 (r:F1) (pv zv:AV) (sv:Nat→AV) (i j:Nat):G8 (A0H r pv zv sv i j):=M9 (X4 (A2n r zv) sv i) _ _ _ _ _
theorem A0H.shift {r:F1} {pv zv:AV} {sv:Nat→AV} {st u:St} (h:A0H r pv zv sv r.promos.length r.promos.length st u):A9 [B6k r pv zv] u [H9 r] st:=by
 obtain ⟨s0,hc,hch⟩:=h
 obtain ⟨t1,h1,hR⟩:∃ t1,(∀ vs,A9 vs u vs t1)∧ROut (B6K r zv) 83 15 (fun k=>B8 (prK r k)) r.promos.length st pv t1:=by
  rcases hc with ⟨h0,rfl,rfl⟩ | ⟨h0,b,g,hb,rfl,rfl,hg⟩
  ·rw [h0] at hch ⊢
   exact ⟨u,fun vs=>A9.refl _ _,ROut.start hch _ _ _⟩
  ·obtain ⟨t',g',k1,k2,k3,_⟩:=B6Z (A2n r zv) (bz:=b) (n:=r.promos.length)
    (pre:=fun k=>[eS (prK r k).id,eI (prK r k).kind,eI (prK r k).prio,eS (prK r k).group,eS (prK r k).code,eB (prK r k).closes,D3 (prK r k).scope.skus,D3 (prK r k).scope.cats,eI (prK r k).least,eI (prK r k).rate,eI (prK r k).amount,eI (prK r k).buy,eI (prK r k).get])
    (post:=fun k=>[A7 3 L4 (prK r k).tiers]) r.promos.length _ _ g (Nat.le_refl _) hch (A0 ..) (fun j hj=>by rw [hg j hj];unfold A1X;rw [if_pos hj];rfl)
   rw [B6] at k2
   exact ⟨t',k1,_,.inr ⟨h0,b,g',hb,rfl,rfl,fun k hk=>(k3 k hk).trans rfl⟩,k2⟩
 obtain ⟨t2,h2,hZ⟩:=ROut.shift (A2n r zv) hR
 obtain ⟨t3,h3,hS⟩:=ROut.shift C3 hZ
 refine (h1 _).trans ((A9.agg ?_).trans (hS.shift _))
 refine A9.cons (A9.keep _ _) (A9.cons h2 ?_)
 refine A9.cons (A9.keep _ _) (A9.cons (A9.keep _ _) (A9.cons (A9.keep _ _) (A9.cons h3 (A9.keep _ _))))
set_option maxHeartbeats 4000000 in
theorem C1Q (r:F1) (h:A6B r) (st:St):S P 104 [H9 r] st fun v st'=>v=H9 r∧st'=st:=by
 have cI:=fun u=>B2d r.items h.items u
 have cP:=fun u=>B2f r.promos h.promos u
 have cZ:=fun u=>B3I r.tax.zones h.zones u
 have cO:=fun u=>A4A r.policy.order h.order u
 have cC:=fun u=>A4A r.policy.credit h.credit u
 have hn:=h.promos
 have hnz:=h.zones
 refine S.post (post:=fun v u=>∃ pv zv sv,v=B6k r pv zv∧A0H r pv zv sv r.promos.length r.promos.length st u) ?_ (fun v u hv=>by
  obtain ⟨pv,zv,sv,rfl,hR⟩:=hv
  exact ⟨_,_,⟨rfl,rfl⟩,hR.shift⟩)
 refine A5Z [6,8] B7 mixed Tryz.func104 (by rfl) rfl rfl rfl ?_;conv=>whnf
 intro b1 hb1;conv=>whnf
 intro b2 hb2
 have h12:b1≠b2:=fun e=>by subst e;rw [A0] at hb2;cases hb2
 have hn2:st b2=none:=by rw [A8 h12.symm] at hb2;exact hb2
 conv=>whnf
 generalize hst:(upd (upd st b1 _) b2 _:St)=S0
 obtain ⟨f1,at1,hf1⟩:∃ f1:Nat→AV,S0 b1=some ⟨33,14,1,f1⟩∧f1 0=H9 r:=by rw [←hst,A8 h12];exact ⟨_,A0 ..,rfl⟩
 refine .inr ⟨[5,9,11,13,16],.qui 0 (.qui 1 (.qui 2 (.qui 3 (.qui 4 (.qui 6 (.qui 7 (.qui 8 (.qui 10 (.eff 5 [8] (.eff 9 [] (.eff 11 [] (.qui 12 (.eff 13 [] (.qui 14 (.qui 15 (.eff 16 [] (.done))))))))))))))))),by kernel_rfl,?_⟩;conv=>whnf
 refine ⟨_,fun s=>s b1=some ⟨33,14,1,f1⟩,at1,fun s hs=>E8 hs rfl (by omega) hf1 ⟨rfl,rfl⟩,?_⟩;conv=>whnf
 refine ⟨_,fun _=>True,trivial,fun s _=>C6 (cI s),?_⟩;conv=>whnf
 refine ⟨_,fun s=>s b1=some ⟨33,14,1,f1⟩,at1,fun s hs=>E8 hs rfl (by omega) hf1 ⟨rfl,rfl⟩,?_⟩;conv=>whnf
 refine ⟨_,fun s=>s b1=some ⟨33,14,1,f1⟩,at1,fun s hs=>E8 hs rfl (by omega) hf1 ⟨rfl,rfl⟩,?_⟩;conv=>whnf
 refine call (cP _) (fun pv s1 hP=>?_);conv=>whnf
 refine ⟨fun h=>hP.sup b1 _ h,?_⟩;conv=>whnf
 refine call (cZ _) (fun zv s2 hZ=>?_)
 have hR:A0H r pv zv (fun _=>.junk) 0 0 S0 s2:=ROut.congr ⟨s1,hP,s2,hZ,E7.refl _⟩ fun k _=>by unfold A1X;rw [if_neg (by omega)]
 have pone:pv.one=true:=by rcases ROut.head hR with rfl | ⟨b,rfl⟩<;>rfl
 have hZh:zv=.emp∨∃ b,zv=.own 4 b 0 r.tax.zones.length:=ROut.head (show ROut E7 _ _ _ _ _ zv s2 from ⟨_,hZ,E7.refl _⟩)
 have zone1:zv.one=true:=by rcases hZh with rfl | ⟨b,rfl⟩<;>rfl
 have at1':=(U6 ..).sup hR b1 _ at1
 conv=>whnf
 refine J7 at1' rfl (by omega) hf1 (by rfl) ?_;conv=>whnf
 refine B4V (A0 ..) rfl rfl (by omega) (A2 ..) pone (by decide) ?_;conv=>whnf
 refine B4V (A0 ..) rfl rfl (by omega) (A2 ..) zone1 (by decide) ?_
 rw [B6,B6];conv=>whnf
 generalize hu:(upd s2 b1 _:St)=S2
 obtain ⟨g1,hS2,hg1⟩:∃ g1:Nat→AV,upd s2 b1 ⟨33,14,1,g1⟩=S2∧g1 0=B6k r pv zv:=by rw [←hu];exact ⟨_,rfl,by rw [A2];rfl⟩
 have hR1:=(U6 ..).write (y':=⟨33,14,1,g1⟩) hR at1
 rw [hS2] at hR1
 clear hu hR at1'
 -- the base
 obtain ⟨f2,at2,hf2⟩:∃ f2:Nat→AV,S0 b2=some ⟨33,14,1,f2⟩∧f2 0=K3 r33.zero:=by rw [←hst];exact ⟨_,A0 ..,rfl⟩
 have fin:∀ {sv:Nat→AV} {i j:Nat} {y y':Q5} {t:St},A0H r pv zv sv i j (upd (upd S0 b1 y) b2 y') t→A0H r pv zv sv i j st t:=fun {sv i j y y' t} hR=>by
  have e:upd (upd S0 b1 y) b2 y'=upd (upd st b1 y) b2 y':=by
   rw [←hst]
   funext c
   by_cases e2:c=b2
   ·subst e2;rw [A0,A0]
   ·rw [A8 e2,A8 e2]
    by_cases e1:c=b1
    ·subst e1;rw [A0,A0]
    ·rw [A8 e1,A8 e2,A8 e1,A8 e1]
  rw [e] at hR
  exact (U6 ..).drop ((U6 ..).drop hR (by rw [A8 h12.symm];exact hn2)) hb1
 obtain ⟨B0,hB0⟩:∃ B0,B0=upd S0 b1 ⟨33,14,1,g1⟩:=⟨_,rfl⟩
 rw [←hB0] at hR1
 have atB:B0 b1=some ⟨33,14,1,g1⟩:=by rw [hB0,A0]
 have at2B:B0 b2=some ⟨33,14,1,f2⟩:=by rw [hB0,A8 h12.symm];exact at2
 have fin2:∀ {sv:Nat→AV} {i j:Nat} {y y':Q5} {t:St},A0H r pv zv sv i j (upd (upd B0 b1 y) b2 y') t→A0H r pv zv sv i j st t:=fun hR=>by
  rw [hB0,B6] at hR;exact fin hR
 clear fin hst at1 hf1 at2 hB0 hS2
 rcases ROut.head hR1 with rfl | ⟨bP,rfl⟩
 case' inl =>
  have hn0:r.promos.length=0:=by
   rcases Nat.eq_zero_or_pos r.promos.length with h | h
   ·exact h
   ·obtain ⟨b,hb⟩:=ROut.own0 hR1 h;cases hb
  conv=>whnf
  refine E8 ((U6 ..).sup hR1 b1 _ atB) rfl (by omega) hg1 ?_;conv=>whnf
  refine A5K [1,2,24,25,26] ?_;conv=>whnf
  intro I
  obtain ⟨sv,hR2⟩:∃ sv,A0H r .emp zv sv r.promos.length r.promos.length B0 S2:=⟨_,by rw [hn0];exact hR1⟩
  obtain ⟨S3,hS3⟩:∃ S3,S3=S2:=⟨_,rfl⟩
  rw [←hS3] at hR2 ⊢
 case' inr =>
  conv=>whnf
  refine E8 ((U6 ..).sup hR1 b1 _ atB) rfl (by omega) hg1 ?_;conv=>whnf
  refine lp r.promos.length [1,2,24,25,26] (fun i vs u=>∃ sv,vs=[.optr 14 b1 0 0,.optr 14 b2 0 0,.own 15 bP 0 r.promos.length,eI r.promos.length,eI i]∧A0H r (.own 15 bP 0 r.promos.length) zv sv i i B0 u) ?_ ?_
  ·conv=>whnf
   exact ⟨_,rfl,hR1⟩
  rintro i vs S3 hi ⟨sv,rfl,hR2⟩
  conv=>whnf
  cases h1:decide ((i:Int)<(r.promos.length:Int))
 case inr.refine_2.true =>
  have hi':=F5 h1
  have hB:=U6 r (.own 15 bP 0 r.promos.length) zv sv i i
  have hp:prK r i∈r.promos:=B4 hi'
  obtain ⟨p,hpe⟩:∃ p,p=prK r i:=⟨_,rfl⟩
  obtain ⟨gP,atP,hgP,-⟩:=ROut.cell (X4 (A2n r zv) sv i) hR2 (by omega)
  have hgi:gP (0+(i:Int).toNat)=B8 p:=by rw [show 0+(i:Int).toNat=i by omega,hgP i hi',hpe];unfold A1X;rw [if_neg (by omega)]
  rw [←hpe] at hp
  have c1:=fun u=>A6N p.scope (h.scope _ hp) u
  have c2:=fun u=>B3F p.parts (h.parts _ hp) u
  have c3:=fun u=>B2h p.tiers (h.tiers _ hp) u
  have hm:=h.parts _ hp
  have cS:=fun x (hx:x∈p.parts) u=>A6N x.scope (h.part _ hp x hx) u
  have hb4':∀ {b4:Nat},S3 b4=none→B0 b4=none:=fun hb=>(hB.sup hR2).none hb
  conv=>whnf
  refine ⟨rfl,⟨by omega,by omega⟩,?_⟩;conv=>whnf
  refine E8 atP rfl (by omega) hgi ?_;conv=>whnf
  intro b4 hb4;conv=>whnf
  refine J7 (A0 ..) rfl (by omega) rfl (by rfl) ?_
  rw [B6];conv=>whnf
  generalize hu:(upd S3 b4 _:St)=S4
  obtain ⟨f4,hS4,hf4⟩:∃ f4:Nat→AV,upd S3 b4 ⟨83,15,1,f4⟩=S4∧f4 0=B8 p:=by rw [←hu];exact ⟨_,rfl,by rw [A2];rfl⟩
  have at4:S4 b4=some ⟨83,15,1,f4⟩:=by rw [←hS4,A0]
  have hR4:=hB.begin (y:=⟨83,15,1,f4⟩) hR2 hb4
  rw [hS4] at hR4
  have hb4B:B0 b4=none:=hb4' hb4
  have h14:b1≠b4:=fun e=>by subst e;rw [atB] at hb4B;cases hb4B
  clear hu hb4' hR2 atP hgP hgi
  refine .inr ⟨[5,10,12,14],.qui 0 (.qui 1 (.qui 2 (.qui 3 (.qui 4 (.qui 6 (.qui 7 (.qui 9 (.eff 5 [7] (.qui 8 (.eff 10 [] (.qui 11 (.eff 12 [] (.qui 13 (.eff 14 [] (.done))))))))))))))),by kernel_rfl,?_⟩;conv=>whnf
  refine ⟨_,fun s=>s b4=some ⟨83,15,1,f4⟩,at4,fun s hs=>E8 hs rfl (by omega) hf4 ⟨rfl,rfl⟩,?_⟩;conv=>whnf
  refine ⟨_,fun _=>True,trivial,fun s _=>C6 (c1 s),?_⟩;conv=>whnf
  refine ⟨_,fun s=>s b4=some ⟨83,15,1,f4⟩,at4,fun s hs=>E8 hs rfl (by omega) hf4 ⟨rfl,rfl⟩,?_⟩;conv=>whnf
  refine ⟨_,fun s=>s b4=some ⟨83,15,1,f4⟩,at4,fun s hs=>E8 hs rfl (by omega) hf4 ⟨rfl,rfl⟩,?_⟩;conv=>whnf
  refine call (c2 _) (fun qv s5 hQ=>?_);conv=>whnf
  refine ⟨fun h=>hQ.sup b4 _ h,?_⟩;conv=>whnf
  refine ⟨_,fun _=>True,trivial,fun s _=>C6 (c3 s),?_⟩
  have hQh:qv=.emp∨∃ b,qv=.own 3 b 0 p.parts.length:=ROut.head (show ROut E7 _ _ _ _ _ qv s5 from ⟨_,hQ,E7.refl _⟩)
  have qone:qv.one=true:=by rcases hQh with rfl | ⟨b,rfl⟩<;>rfl
  conv=>whnf
  refine J7 (hQ.sup b4 _ at4) rfl (by omega) hf4 (by rfl) ?_;conv=>whnf
  refine B4V (A0 ..) rfl rfl (by omega) (A2 ..) qone (by decide) ?_;conv=>whnf
  refine J7 (A0 ..) rfl (by omega) (A2 ..) (by rfl) ?_
  rw [B6,B6];conv=>whnf
  generalize hu:(upd s5 b4 _:St)=S5
  obtain ⟨f5,hS5,hf5⟩:∃ f5:Nat→AV,upd s5 b4 ⟨83,15,1,f5⟩=S5∧f5 0=B2O p qv:=by rw [←hu];exact ⟨_,rfl,by rw [A2];rfl⟩
  clear hu
  obtain ⟨sv',hsv1,hsv2⟩:∃ sv':Nat→AV,(∀ j,j<i→sv' j=sv j)∧A0H r (.own 15 bP 0 r.promos.length) zv sv' (i+1) i (upd B0 b4 ⟨83,15,1,f4⟩) s5∧sv' i=qv:=by
   refine ⟨fun j=>if j=i then qv else sv j,fun j hj=>if_neg (by omega),?_,if_pos rfl⟩
   obtain ⟨s0,hc,hch⟩:=hR4
   refine ⟨s0,H1.congr hc (fun k hk=>?_),A8d (A2n r zv) hch (by show H1 _ _ (A9K r i) _ (A9L r i) _ _;unfold A9K A9L;rw [←hpe];exact hQ)⟩
   unfold A1X
   by_cases e:k<i
   ·rw [if_pos e,if_pos e]
    show B2O _ (sv k)=B2O _ (if k=i then qv else sv k)
    rw [if_neg (by omega)]
   ·rw [if_neg e,if_neg e]
  obtain ⟨hR5,hsvi⟩:=hsv2
  have hB5:=U6 r (.own 15 bP 0 r.promos.length) zv sv' (i+1) i
  have hR5:=hB5.write (y':=⟨83,15,1,f5⟩) hR5 (A0 ..)
  rw [B6,hS5] at hR5
  have at5:=hB5.sup hR5 b4 _ (A0 ..)
  clear hR4 hQ at4 hS4 hS5 hsv1
  refine E8 at5 rfl (by omega) hf5 ?_
  have hcv:B5X r zv sv' (i+1)=fun s t=>ROut (B5X r zv sv' i) 244 3 (fun j=>O8 (p.parts.getD j default)) p.parts.length s (sv' i) t:=by
   show (fun s t=>ROut _ _ _ (A9K r i) (A9L r i) s (sv' i) t)=_
   unfold A9K A9L;rw [←hpe]
  rw [hsvi] at hcv
  rcases hQh with rfl | ⟨bQ,rfl⟩
  case' inl =>
   conv=>whnf
   refine A5K [1,2,3,4,24,25,26,44,45,46] ?_;conv=>whnf
   intro I
   obtain ⟨S6,hS6⟩:∃ S6,S6=S5:=⟨_,rfl⟩
   have hR6:=hR5
   rw [←hS6] at hR6 ⊢
  case' inr =>
   conv=>whnf
   refine lp p.parts.length [1,2,3,4,24,25,26,44,45,46] (fun k vs w=>vs=[.optr 14 b1 0 0,.optr 14 b2 0 0,eI i,.optr 15 b4 0 0,.own 15 bP 0 r.promos.length,eI r.promos.length,eI i,.own 3 bQ 0 p.parts.length,eI p.parts.length,eI k]∧A0H r (.own 15 bP 0 r.promos.length) zv sv' (i+1) i (upd B0 b4 ⟨83,15,1,f5⟩) w) ?_ ?_
   ·conv=>whnf
    exact ⟨rfl,hR5⟩
   rintro k vs S6 hk ⟨rfl,hR6⟩
   conv=>whnf
   cases h2:decide ((k:Int)<(p.parts.length:Int))
  case inr.refine_2.true =>
   have hk':=F5 h2
   have at6:=hB5.sup hR6 b4 _ (A0 ..)
   obtain ⟨s0,hc,hch⟩:=hR6
   rw [hcv] at hch
   obtain ⟨gQ,atQ,hgQ,putQ⟩:=ROut.cell (X4 (A2n r zv) sv' i) hch (by omega)
   have hgk:gQ (0+(k:Int).toNat)=O8 (p.parts.getD k default):=by rw [show 0+(k:Int).toNat=k by omega];exact hgQ k hk'
   have cX:=fun u=>cS _ (B4 hk') u
   generalize hx:p.parts.getD k default=x at hgk cX
   conv=>whnf
   refine ⟨rfl,⟨by omega,by omega⟩,?_⟩;conv=>whnf
   refine E8 atQ rfl (by omega) hgk ?_;conv=>whnf
   refine .inl ⟨[8],[],List.range 9,by kernel_rfl,?_⟩;conv=>whnf
   refine E8 at6 rfl (by omega) hf5 ?_;conv=>whnf
   refine ⟨_,C6 (cX _),?_⟩;conv=>whnf
   refine ⟨rfl,⟨by omega,by omega⟩,?_⟩;conv=>whnf
   refine J7 atQ rfl (by omega) hgk (by rfl) ?_;conv=>whnf
   refine ⟨rfl,?_⟩;conv=>whnf
   refine nx hk' ⟨by rw [B9 (by omega)],s0,hc,?_⟩
   rw [hcv]
   refine putQ _ _ fun j hj=>?_
   by_cases e:j=k
   ·rw [e,hx,show 0+(k:Int).toNat=k by omega,A2];rfl
   ·rw [F8 (by omega)];exact hgQ j hj
  case' inr.refine_2.false =>
   obtain rfl:=D1 h2 hk
  all_goals
   have at6:=hB5.sup hR6 b4 _ (A0 ..)
   have atB6:=hB5.sup hR6 b1 _ ((A8 h14).trans atB)
   obtain ⟨gP2,atP2,hgP2,putP⟩:=ROut.cell (X4 (A2n r zv) sv' (i+1)) hR6 (by omega)
   have hgi2:gP2 (0+(i:Int).toNat)=B8 p:=by rw [show 0+(i:Int).toNat=i by omega,hgP2 i hi',hpe];unfold A1X;rw [if_neg (by omega)]
   conv=>whnf
   refine E8 atB6 rfl (by omega) hg1 ?_;conv=>whnf
   refine E8 at6 rfl (by omega) hf5 ?_;conv=>whnf
   refine ⟨rfl,⟨by omega,by omega⟩,?_⟩;conv=>whnf
   refine J7 atP2 rfl (by omega) hgi2 (by rfl) ?_;conv=>whnf
   refine ⟨rfl,?_⟩;conv=>whnf
   refine nx hi' ⟨sv',by rw [B9 (by omega)],(U6 ..).drop (y:=⟨83,15,1,f5⟩) (putP _ (A1X r sv' (i+1)) fun k hk=>?_) hb4B⟩
   unfold A1X
   by_cases e:k=i
   ·rw [if_pos (by omega),e,show 0+(i:Int).toNat=i by omega,A2,hsvi,←hpe];rfl
   ·rw [F8 (by omega),hgP2 k hk]
    unfold A1X
    by_cases e2:k<i
    ·rw [if_pos e2,if_pos (by omega)]
    ·rw [if_neg e2,if_neg (by omega)]
 case' inr.refine_2.false =>
  obtain rfl:=D1 h1 hi
 all_goals
  have atB3:=(U6 ..).sup hR2 b1 _ atB
  conv=>whnf
  refine E8 atB3 rfl (by omega) hg1 ?_
  rcases hZh with rfl | ⟨bz,rfl⟩
  case' inl =>
   conv=>whnf
   refine A5K [1,2,68,69,70] ?_;conv=>whnf
   intro I
   obtain ⟨S7,hS7⟩:∃ S7,S7=S3:=⟨_,rfl⟩
   have hR7:=hR2
   rw [←hS7] at hR7 ⊢
  case' inr =>
   conv=>whnf
   obtain ⟨RR,hRe,hRR⟩:∃ RR:St→St→Prop,RR=A0H r _ _ sv _ _∧RR B0 S3:=⟨_,rfl,hR2⟩
   refine lp r.tax.zones.length [1,2,68,69,70] (fun i vs u=>vs=[.optr 14 b1 0 0,.optr 14 b2 0 0,.own 4 bz 0 r.tax.zones.length,eI r.tax.zones.length,eI i]∧RR B0 u) ?_ ?_
   ·conv=>whnf
    exact ⟨rfl,hRR⟩
   clear hRR
   rintro i vs S7 hi7 ⟨rfl,hR7⟩
   conv=>whnf
   cases h7:decide ((i:Int)<(r.tax.zones.length:Int))
  case inr.refine_2.true =>
   have hi':=F5 h7
   rw [hRe] at hR7
   have hz:r.tax.zones.getD i default∈r.tax.zones:=B4 hi'
   have cz:=fun u=>B3H (r.tax.zones.getD i default) (h.rates _ hz) u
   have atB7:=(U6 ..).sup hR7 b1 _ atB
   obtain ⟨s0,hc,hch⟩:=hR7
   obtain ⟨s',hZ',back⟩:=A6M _ hch
   obtain ⟨gz,atz,hgz,putz⟩:=ROut.cell C3 hZ' (by omega)
   have hgi:gz (0+(i:Int).toNat)=S8 (r.tax.zones.getD i default):=by rw [show 0+(i:Int).toNat=i by omega];exact hgz i hi'
   generalize hx:r.tax.zones.getD i default=x at hgi cz
   conv=>whnf
   refine ⟨rfl,⟨by omega,by omega⟩,?_⟩;conv=>whnf
   refine E8 atz rfl (by omega) hgi ?_;conv=>whnf
   refine .inl ⟨[7],[],List.range 8,by kernel_rfl,?_⟩;conv=>whnf
   refine E8 atB7 rfl (by omega) hg1 ?_;conv=>whnf
   refine ⟨_,C6 (cz _),?_⟩;conv=>whnf
   refine ⟨rfl,⟨by omega,by omega⟩,?_⟩;conv=>whnf
   refine J7 atz rfl (by omega) hgi (by rfl) ?_;conv=>whnf
   refine ⟨rfl,?_⟩;conv=>whnf
   refine nx hi' ⟨by rw [B9 (by omega)],by rw [hRe];refine ⟨s0,hc,back _ (putz _ _ fun j hj=>?_)⟩;exact (by
    by_cases e:j=i
    ·rw [e,hx,show 0+(i:Int).toNat=i by omega,A2];rfl
    ·rw [F8 (by omega)];exact hgz j hj)⟩
  case' inr.refine_2.false =>
   obtain rfl:=D1 h7 hi7
   rw [hRe] at hR7
  all_goals
   have atB7:=(U6 ..).sup hR7 b1 _ atB
   have at27:=(U6 ..).sup hR7 b2 _ at2B
   conv=>whnf
   refine .inl ⟨[10,13],[],List.range 14,by kernel_rfl,?_⟩;conv=>whnf
   refine E8 atB7 rfl (by omega) hg1 ?_;conv=>whnf
   refine ⟨_,C6 (cO _),?_⟩;conv=>whnf
   refine E8 atB7 rfl (by omega) hg1 ?_;conv=>whnf
   refine ⟨_,C6 (cC _),?_⟩;conv=>whnf
   refine J7 atB7 rfl (by omega) hg1 (by rfl) ?_;conv=>whnf
   refine J7 (A0 ..) rfl (by omega) (A2 ..) (by rfl) ?_
   rw [B6];conv=>whnf
   refine E8 (A0 ..) rfl (by omega) (A2 ..) ?_;conv=>whnf
   refine J7 ((A8 h12.symm).trans at27) rfl (by omega) hf2 (by rfl) ?_;conv=>whnf
   refine E8 (A0 ..) rfl (by omega) (A2 ..) ?_;conv=>whnf
   exact ⟨_,_,sv,rfl,fin2 ((U6 ..).write ((U6 ..).write hR7 atB) ((A8 h12.symm).trans at2B))⟩
def T8 (p:B2):Bool:=!(p.kind==4)&&!(p.kind==7)
def D5 (r:F1) (codes:List D8):List Int:=C1 ((N6 r.promos codes).filter fun x=>T8 (D6 r.promos x))
def P9 (r:F1) (codes:List D8):V7:=⟨r,codes,[],D5 r codes,(D5 r codes).map fun x=>(D6 r.promos x).scope,[]⟩
theorem A5P {r:F1} {codes:List D8} {x:Int} (h:x∈D5 r codes):0≤x∧x.toNat<r.promos.length :=
 T7 ((O9 _ _).mem_iff.1 (List.mem_filter.1 ((V0 _).mem_iff.1 h)).1)
theorem B3P {α : Type} [Inhabited α] {l:List α} {i:Nat} (h:i<l.length) (p : α→Bool):(l.take (i+1)).filter p=(l.take i).filter p++(if p (l.getD i default)=true then [l.getD i default] else []):=by
 rw [K9 h,List.filter_append]
 congr 1
 by_cases hp:p (l.getD i default)=true
 ·rw [if_pos hp,List.filter_cons_of_pos hp];rfl
 ·rw [if_neg hp,List.filter_cons_of_neg hp];rfl
set_option maxHeartbeats 4000000 in
theorem B1m {N:Nat} (hN:A3d N) (r:F1) (codes:List D8) (hf:A0b r) (hc:codes.length≤Big) (h20:(places r.promos codes r.promos.length).length≤N) (hfew:O1 r=true→A6B r) (st:St) :
  S P 25 [H9 r,D3 codes] st fun v st'=>(O1 r=false∧v=.tuple [.nilp,eI 10]∧st'=st)∨(O1 r=true∧R7 codes=false∧v=.tuple [.nilp,eI 2]∧st'=st) ∨
   (O1 r=true∧R7 codes=true∧∃ bd,v=.tuple [.optr 19 bd 0 0,eI 0]∧A2g bd (P9 r codes) st st'):=by
 refine S.post (post:=fun v st'=>(O1 r=false∧v=.tuple [.nilp,eI 10]∧st'=st)∨(O1 r=true∧R7 codes=false∧v=.tuple [.nilp,eI 2]∧st'=st) ∨
   (O1 r=true∧R7 codes=true∧∃ bd pv cv f,v=.tuple [.optr 19 bd 0 0,eI 0]∧st bd=none∧f 0=A2E (P9 r codes) .emp pv cv .emp ∧
    ROut (fun s t=>ROut E7 3 1 (fun k=>eI (gI (D5 r codes) k)) (D5 r codes).length s pv t) 79 2 (fun k=>J4 ((P9 r codes).scopes.getD k default)) (D5 r codes).length (upd st bd ⟨171,19,1,f⟩) cv st')) ?_ (fun v t' hv=>?_)
 ·have c1:=fun u=>B7q r hf u
  have c2:=fun u=>B6U codes hc u
  refine A5Z [2] B7 mixed Tryz.func25 (by rfl) rfl rfl rfl ?_;conv=>whnf
  refine A5 (c1 _) ?_;conv=>whnf
  cases hr:O1 r
  case false =>
   conv=>whnf
   exact .inl ⟨rfl,rfl,rfl⟩
  conv=>whnf
  refine A5 (c2 _) ?_;conv=>whnf
  cases hcc:R7 codes
  case false =>
   conv=>whnf
   exact .inr (.inl ⟨rfl,rfl,rfl,rfl⟩)
  have hfw:=hfew hr
  have hpC:promosC r.promos=true:=by
   unfold O1 at hr
   simp only [Bool.and_eq_true] at hr
   exact hr.1.1.1.2
  have hp60:=(A0S hpC).few
  have hc4:codes.length≤100000:=by
   unfold R7 at hcc
   simp only [Bool.and_eq_true,decide_eq_true_eq] at hcc
   omega
  conv=>whnf
  refine A5 (C1Q r hfw _) ?_;conv=>whnf
  refine A5 (A4B codes hc4 _) ?_;conv=>whnf
  intro bd hbd;conv=>whnf
  refine call (B7m hN r.promos codes hp60 (Nat.le_trans hc (by decide)) h20 _) (fun v u hv=>?_)
  obtain ⟨⟨o,ho,rfl⟩,rfl⟩:=hv
  rw [B0b hpC ho]
  have eP:D5 r codes=C1 ((N6 r.promos codes).filter fun x=>T8 (D6 r.promos x)):=rfl
  have hOm:∀ x∈N6 r.promos codes,0≤x∧x.toNat<r.promos.length:=fun x hx=>T7 ((O9 _ _).mem_iff.1 hx)
  have hOl:(N6 r.promos codes).length≤60:=by
   rw [(O9 _ _).length_eq]
   have:=P3 r.promos codes r.promos.length
   omega
  clear ho
  generalize N6 r.promos codes=O at eP hOm hOl
  have hFl:∀ i,((O.take i).filter fun x=>T8 (D6 r.promos x)).length≤60:=fun i=>Nat.le_trans (List.length_filter_le ..) (by rw [List.length_take];omega)
  conv=>whnf
  refine lp O.length [2,6,29,30,31] (fun i vs u=>∃ pv f,vs=[.fptr (H9 r) 0,.optr 19 bd 0 0,B3 O,eI O.length,eI i]∧f 0=A2E (P9 r codes) .emp pv .emp .emp∧ROut E7 3 1 (fun k=>eI (gI ((O.take i).filter fun x=>T8 (D6 r.promos x)) k)) ((O.take i).filter fun x=>T8 (D6 r.promos x)).length (upd st bd ⟨171,19,1,f⟩) pv u) ?_ ?_
  ·conv=>whnf
   exact ⟨.emp,_,rfl,rfl,show ROut _ _ _ _ 0 _ _ _ from ROut.start (E7.refl _) _ _ _⟩
  rintro i vs u hi ⟨pv,f,rfl,hf,hR⟩
  have hnx:=fun h=>B3P (l:=O) (i:=i) h fun x=>T8 (D6 r.promos x)
  have hFi:=hFl i
  obtain ⟨Fi,hFie⟩:∃ Fi,Fi=(O.take i).filter fun x=>T8 (D6 r.promos x):=⟨_,rfl⟩
  rw [←hFie] at hR hnx hFi
  have atd:=ROut.sup C3 hR bd _ (A0 ..)
  conv=>whnf
  cases h1:decide ((i:Int)<(O.length:Int))
  case true =>
   have hi':=F5 h1
   have hnx:=hnx hi'
   obtain ⟨x,hx⟩:∃ x,x=O.getD (i:Int).toNat default:=⟨_,rfl⟩
   have hxm:=hOm _ (show O.getD i default∈O from B4 hi')
   rw [show O.getD i default=x from hx.symm] at hxm hnx
   have epr:D6 r.promos x=r.promos.getD x.toNat default:=rfl
   conv=>whnf
   refine ⟨rfl,⟨by omega,by omega⟩,?_⟩;conv=>whnf
   rw [←hx]
   refine ⟨rfl,⟨by omega,by omega⟩,?_⟩;conv=>whnf
   rw [←epr]
   have ePl:∀ a b,((D6 r.promos x).kind != 4)=a→((D6 r.promos x).kind != 7)=b→T8 (D6 r.promos x)=(a&&b):=fun a b ha hb=>by rw [←ha,←hb];rfl
   have off:T8 (D6 r.promos x)=false→(O.take (i+1)).filter (fun x=>T8 (D6 r.promos x))=Fi:=fun h=>by rw [hnx,h];simp
   cases h4:((D6 r.promos x).kind != 4)
   case false =>
    conv=>whnf
    refine ⟨rfl,?_⟩;conv=>whnf
    exact nx hi' ⟨pv,f,by rw [B9 (by omega)],hf,by rw [off (ePl _ _ h4 rfl)];exact hR⟩
   conv=>whnf
   cases h7:((D6 r.promos x).kind != 7)
   case false =>
    conv=>whnf
    refine ⟨rfl,?_⟩;conv=>whnf
    exact nx hi' ⟨pv,f,by rw [B9 (by omega)],hf,by rw [off (ePl _ _ h4 h7)];exact hR⟩
   have hon:(O.take (i+1)).filter (fun x=>T8 (D6 r.promos x))=Fi++[x]:=by rw [hnx,ePl _ _ h4 h7];rfl
   rcases ROut.head hR with rfl | ⟨bp,rfl⟩
   all_goals
    conv=>whnf
    refine E8 atd rfl (by omega) hf ?_;conv=>whnf
    refine ROut.app (q:=r3) C3 rfl rfl rfl rfl rfl (f:=fun k=>eI (gI (Fi++[x]) k)) (by show eI _=eI _;unfold gI;rw [A7F,hx]) (by show (Fi.length+1) * 8≤140737488355328;omega) (ROut.congr hR fun k hk=>by show eI _=eI _;unfold gI;rw [A0d hk]) (fun pv' u' hR'=>?_);conv=>whnf
    refine B4V (ROut.sup C3 hR' bd _ (A0 ..)) rfl rfl (by omega) hf (ROut.one hR') (by decide) ?_;conv=>whnf
    refine ⟨rfl,?_⟩;conv=>whnf
    refine nx hi' ⟨pv',G4 f 0 (A2E (P9 r codes) .emp pv' .emp .emp),by rw [B9 (by omega)],A2 ..,?_⟩
    rw [hon,List.length_append]
    exact ROut.putB C3 hR' _
  case false =>
   obtain rfl:=D1 h1 hi
   have hFe:Fi=O.filter fun x=>T8 (D6 r.promos x):=by rw [hFie,List.take_length]
   rw [←hFe] at eP
   rw [eP]
   clear hnx hFie hFe hFl hOm
   have hsl:=Q2 Fi
   rcases ROut.head hR with rfl | ⟨bp,rfl⟩
   case' inl =>
    conv=>whnf
    refine E8 atd rfl (by omega) hf ?_;conv=>whnf
    refine call (A5C C3 (by omega) hR) (fun v u2 hv=>?_)
    obtain ⟨rfl,hR2⟩:=hv
    have h0:Fi.length=0:=by
     rcases Nat.eq_zero_or_pos Fi.length with h | h
     ·exact h
     ·obtain ⟨b,hb⟩:=ROut.own0 hR h;cases hb
   case' inr =>
    conv=>whnf
    refine E8 atd rfl (by omega) hf ?_;conv=>whnf
    refine call (A5C C3 (by omega) hR) (fun v u2 hv=>?_)
    obtain ⟨rfl,hR2⟩:=hv
   all_goals
    have atd2:=ROut.sup C3 hR2 bd _ (A0 ..)
    rw [←hsl] at hR2
    have hPm:∀ x∈C1 Fi,0≤x∧x.toNat<r.promos.length:=fun x hx=>A5P (codes:=codes) (by rw [eP];exact hx)
    have hSc:∀ i,i<(C1 Fi).length→(P9 r codes).scopes.getD i default=(D6 r.promos (gI (C1 Fi) i)).scope:=fun i hi=>by
     show ((D5 r codes).map _).getD i default=_
     rw [eP];exact D7 (fun x=>(D6 r.promos x).scope) _ hi
    generalize C1 Fi=PL at hR2 hsl hPm hSc ⊢
   case inl =>
    conv=>whnf
    refine E8 atd2 rfl (by omega) hf ?_;conv=>whnf
    refine A5K [6,66,67,68] ?_;conv=>whnf
    intro I
    refine .inr (.inr ⟨rfl,rfl,bd,.emp,.emp,f,rfl,hbd,hf,?_⟩)
    rw [show PL.length=0 by omega] at hR2 ⊢
    exact ROut.start hR2 _ _ _
   case inr =>
    rw [←hsl] at hf
    have hBP:=M9 C3 3 1 (fun k=>eI (gI PL k)) PL.length (.own 1 bp 0 PL.length)
    conv=>whnf
    refine E8 atd2 rfl (by omega) hf ?_;conv=>whnf
    refine lp PL.length [6,66,67,68] (fun i vs u=>∃ cv f,vs=[.optr 19 bd 0 0,.own 1 bp 0 PL.length,eI PL.length,eI i]∧f 0=A2E (P9 r codes) .emp (.own 1 bp 0 PL.length) cv .emp∧ROut (fun s t=>ROut E7 3 1 (fun k=>eI (gI PL k)) PL.length s (.own 1 bp 0 PL.length) t) 79 2 (fun k=>J4 ((P9 r codes).scopes.getD k default)) i (upd st bd ⟨171,19,1,f⟩) cv u) ?_ ?_
    ·conv=>whnf
     exact ⟨.emp,f,rfl,hf,ROut.start hR2 _ _ _⟩
    clear hR2 hf atd2 hR atd
    rintro i vs u hi ⟨cv,f,rfl,hf,hR⟩
    have atd:=ROut.sup hBP hR bd _ (A0 ..)
    conv=>whnf
    cases h2:decide ((i:Int)<(PL.length:Int))
    case false =>
     obtain rfl:=D1 h2 hi
     conv=>whnf
     exact .inr (.inr ⟨rfl,rfl,bd,.own 1 bp 0 PL.length,cv,f,rfl,hbd,hf,hR⟩)
    have hi':=F5 h2
    obtain ⟨s0,hcS,hin⟩:=id hR
    obtain ⟨gp,atp,hgp,-⟩:=ROut.cell C3 hin (by omega)
    have hgi:gp (0+(i:Int).toNat)=eI (gI PL i):=by rw [show 0+(i:Int).toNat=i by omega];exact hgp i hi'
    have hxm:=hPm (gI PL i) (B4 hi')
    have hsc:=hSc i hi'
    obtain ⟨x,hx⟩:∃ x,x=gI PL i:=⟨_,rfl⟩
    rw [←hx] at hgi hxm hsc
    rcases ROut.head hR with rfl | ⟨bc,rfl⟩
    all_goals
     conv=>whnf
     refine ⟨rfl,⟨by omega,by omega⟩,?_⟩;conv=>whnf
     refine E8 atp rfl (by omega) hgi ?_;conv=>whnf
     refine .inr ⟨[15,18],.qui 0 (.qui 1 (.qui 2 (.qui 3 (.qui 4 (.qui 5 (.qui 6 (.qui 7 (.qui 8 (.qui 9 (.qui 10 (.qui 11 (.qui 12 (.qui 13 (.qui 14 (.eff 15 [] (.qui 16 (.qui 17 (.eff 18 [] (.done))))))))))))))))))),by kernel_rfl,?_⟩;conv=>whnf
     refine ⟨_,fun s=>s bd=some ⟨171,19,1,f⟩,atd,fun s hs=>E8 hs rfl (by omega) hf ⟨rfl,rfl⟩,?_⟩;conv=>whnf
     refine ⟨_,fun s=>s bd=some ⟨171,19,1,f⟩,atd,fun s hs=>E8 hs rfl (by omega) hf ⟨rfl,rfl⟩,?_⟩;conv=>whnf
     refine ⟨rfl,⟨hxm.1,by show x<(r.promos.length:Int);omega⟩,?_⟩;conv=>whnf
     refine ⟨_,fun _=>True,trivial,fun s _=>⟨rfl,rfl⟩,?_⟩;conv=>whnf
     refine ⟨_,fun _=>True,trivial,fun s _=>⟨rfl,rfl⟩,?_⟩;conv=>whnf
     refine ROut.app (q:=r79) hBP rfl rfl rfl rfl rfl (f:=fun k=>J4 ((P9 r codes).scopes.getD k default)) (by show _=J4 _;rw [hsc];rfl) (by show (i+1) * 48≤140737488355328;omega) hR (fun cv' u' hR'=>?_);conv=>whnf
     refine B4V (ROut.sup hBP hR' bd _ (A0 ..)) rfl rfl (by omega) hf (ROut.one hR') (by decide) ?_;conv=>whnf
     refine ⟨rfl,?_⟩;conv=>whnf
     exact nx hi' ⟨cv',G4 f 0 (A2E (P9 r codes) .emp (.own 1 bp 0 PL.length) cv' .emp),by rw [B9 (by omega)],A2 ..,ROut.putB hBP hR' _⟩
 ·rcases hv with ⟨h1,rfl,rfl⟩ | ⟨h1,h2,rfl,rfl⟩ | ⟨h1,h2,bd,pv,cv,f,rfl,hbd,hf,hR⟩
  ·exact ⟨_,_,.inl ⟨h1,rfl,rfl⟩,A9.refl _ _⟩
  ·exact ⟨_,_,.inr (.inl ⟨h1,h2,rfl,rfl⟩),A9.refl _ _⟩
  ·have hBP:=M9 C3 3 1 (fun k=>eI (gI (D5 r codes) k)) (D5 r codes).length pv
   have atd:=ROut.sup hBP hR bd _ (A0 ..)
   obtain ⟨t1,sh1,hR1⟩:=ROut.shift hBP hR
   have atd1:=hBP.sup hR1 bd _ (A0 ..)
   have hc1:=fun vs=>A9.cell (vs:=vs) (pre:=[A7 4 E2 r.items,A7 15 B8 r.promos,eB r.tax.incl,eB r.tax.byOrder,eI r.tax.round,A7 4 S8 r.tax.zones,eI r.ship.fee,eI r.ship.free,eI r.policy.window,eI r.policy.grace,eI r.policy.mode,eI r.policy.restock,B3 r.policy.order,B3 r.policy.credit,D3 codes,.emp,pv]) (post:=[.emp]) sh1 atd atd1 (show 0<1 by omega) hf rfl
   obtain ⟨f2,hf2,hc1,hR2⟩:∃ f2:Nat→AV,f2 0=A2E (P9 r codes) .emp pv (.arr 2 (D5 r codes).length (fun k=>J4 ((P9 r codes).scopes.getD k default))) .emp∧(∀ vs,A9 vs t' vs (upd t1 bd ⟨171,19,1,f2⟩))∧ROut E7 3 1 (fun k=>eI (gI (D5 r codes) k)) (D5 r codes).length (upd st bd ⟨171,19,1,f2⟩) pv (upd t1 bd ⟨171,19,1,f2⟩) :=
    ⟨_,A2 ..,hc1,ROut.putB C3 hR1 _⟩
   obtain ⟨t2,sh2,hS2⟩:=ROut.shift C3 hR2
   have atd2:=ROut.sup C3 hR2 bd _ (A0 ..)
   have atd3:=hS2 bd _ (A0 ..)
   have hc2:=fun vs=>A9.cell (vs:=vs) (pre:=[A7 4 E2 r.items,A7 15 B8 r.promos,eB r.tax.incl,eB r.tax.byOrder,eI r.tax.round,A7 4 S8 r.tax.zones,eI r.ship.fee,eI r.ship.free,eI r.policy.window,eI r.policy.grace,eI r.policy.mode,eI r.policy.restock,B3 r.policy.order,B3 r.policy.credit,D3 codes,.emp]) (post:=[.arr 2 (D5 r codes).length (fun k=>J4 ((P9 r codes).scopes.getD k default)),.emp]) sh2 atd2 atd3 (show 0<1 by omega) hf2 rfl
   obtain ⟨f3,hf3,hc2,hS3⟩:∃ f3:Nat→AV,f3 0=A2E (P9 r codes) .emp (B3 (D5 r codes)) (.arr 2 (D5 r codes).length (fun k=>J4 ((P9 r codes).scopes.getD k default))) .emp∧(∀ vs,A9 vs (upd t1 bd ⟨171,19,1,f2⟩) vs (upd t2 bd ⟨171,19,1,f3⟩))∧E7 (upd st bd ⟨171,19,1,f3⟩) (upd t2 bd ⟨171,19,1,f3⟩) :=
    ⟨_,A2 ..,hc2,by
     have:=C3.write (y':=⟨171,19,1,G4 f2 0 (.agg ([A7 4 E2 r.items,A7 15 B8 r.promos,eB r.tax.incl,eB r.tax.byOrder,eI r.tax.round,A7 4 S8 r.tax.zones,eI r.ship.fee,eI r.ship.free,eI r.policy.window,eI r.policy.grace,eI r.policy.mode,eI r.policy.restock,B3 r.policy.order,B3 r.policy.credit,D3 codes,.emp]++B3 (D5 r codes)::[.arr 2 (D5 r codes).length (fun k=>J4 ((P9 r codes).scopes.getD k default)),.emp]))⟩) hS2 (A0 ..)
     rw [B6] at this;exact this⟩
   have at3:(upd t2 bd ⟨171,19,1,f3⟩) bd=some ⟨171,19,1,f3⟩:=A0 ..
   have hc3:=fun vs=>A9.cell (vs:=vs) (pre:=[A7 4 E2 r.items,A7 15 B8 r.promos,eB r.tax.incl,eB r.tax.byOrder,eI r.tax.round,A7 4 S8 r.tax.zones,eI r.ship.fee,eI r.ship.free,eI r.policy.window,eI r.policy.grace,eI r.policy.mode,eI r.policy.restock,B3 r.policy.order,B3 r.policy.credit,D3 codes]) (post:=[B3 (D5 r codes),.arr 2 (D5 r codes).length (fun k=>J4 ((P9 r codes).scopes.getD k default)),.emp]) (I6 3 fun k=>D4 ([].getD k default)) at3 at3 (show 0<1 by omega) hf3 rfl
   refine ⟨_,upd t2 bd ⟨171,19,1,G4 f3 0 (A5O (P9 r codes) .emp)⟩,.inr (.inr ⟨h1,h2,bd,rfl,.emp,hbd,⟨171,19,1,G4 f3 0 (A5O (P9 r codes) .emp)⟩,⟨G4 f3 0 (A5O (P9 r codes) .emp),rfl,A2 ..⟩,?_⟩),(hc1 _).trans ((hc2 _).trans ?_)⟩
   ·have:=C3.write (y':=⟨171,19,1,G4 f3 0 (A5O (P9 r codes) .emp)⟩) hS3 (A0 ..)
    rw [B6,B6] at this
    exact ROut.start this _ _ _
   ·have:=hc3 [.tuple [.optr 19 bd 0 0,eI 0]]
    rw [B6] at this
    have e:A7 2 J4 (P9 r codes).scopes=.arr 2 (D5 r codes).length (fun k=>J4 ((P9 r codes).scopes.getD k default)):=by
     show AV.arr 2 (List.map _ _).length _=_
     rw [List.length_map]
    unfold A5O
    rw [e]
    exact this
theorem A9j {ty e:Nat} {F:Nat→Nat→AV} {len:Nat→Nat} {sv:Nat→AV}:∀ (k:Nat) {s t t':St},X6 E7 ty e F len sv k s t→E7 t t'→X6 E7 ty e F len sv k s t'
 | 0,s,t,t',h,hs=>E7.trans h hs
 | k+1,s,t,t',h,hs=>by
  obtain ⟨s0,h1,h2⟩:=h
  exact ⟨s0,h1,A9j k h2 hs⟩
theorem B6Y {R0:St→St→Prop} {ty e:Nat} {F:Nat→Nat→AV} {len:Nat→Nat} (hR:G8 R0) {bz n tz:Nat} {sv:Nat→AV}:∀ (k:Nat) (s t:St) (g:Nat→AV),k≤n→X6 R0 ty e F len sv k s t→s bz=some ⟨tz,1,n,g⟩→(∀ j,j<k→g j=sv j)→(∀ j,j<k→(sv j).one=true) →
  ∃ t' g',(∀ vs,A9 vs t vs t')∧R0 (upd s bz ⟨tz,1,n,g'⟩) t'∧(∀ j,j<k→g' j=.arr e (len j) (F j))∧∀ j,k≤j→g' j=g j
 | 0,s,t,g,hk,h,hs,hg,h1=>by
  refine ⟨t,g,fun vs=>A9.refl _ _,?_,fun j hj=>absurd hj (by omega),fun j _=>rfl⟩
  rw [B0v hs];exact h
 | k+1,s,t,g,hk,h,hs,hg,h1=>by
  have hB:=X4 (ty:=ty) (e:=e) (F:=F) (len:=len) hR sv k
  have ht:t bz=some ⟨tz,1,n,g⟩:=(X4 hR sv (k+1)).sup h _ _ hs
  obtain ⟨t1,hsh,hc⟩:=ROut.shift hB h
  have ht1:t1 bz=some ⟨tz,1,n,g⟩:=hB.sup hc _ _ hs
  have hcell:=fun vs=>A9.elem (vs:=vs) hsh ht ht1 (show k<n by omega) (hg k (by omega)) (h1 k (by omega)) rfl
  have hc':=hB.write (y':=⟨tz,1,n,G4 g k (AV.arr e (len k) (F k))⟩) hc hs
  obtain ⟨t',g',k1,k2,k3,k4⟩:=B6Y hR k _ _ _ (by omega) hc' (A0 ..) (fun j hj=>by rw [F8 (by omega)];exact hg j (by omega)) (fun j hj=>h1 j (by omega))
  rw [B6] at k2
  refine ⟨t',g',fun vs=>(hcell vs).trans (k1 vs),k2,fun j hj=>?_,fun j hj=>?_⟩
  ·by_cases e':j=k
   ·subst e';rw [k4 j (Nat.le_refl _),A2]
   ·exact k3 j (by omega)
  ·rw [k4 j (by omega),F8 (by omega)]
theorem B4b {ty tz e n:Nat} {F:Nat→Nat→AV} {len:Nat→Nat} {sv:Nat→AV} {st u:St} {ov:AV} (h:ROut (X6 E7 ty e F len sv n) tz 1 sv n st ov u) (h1:∀ j,j<n→(sv j).one=true):A9 [ov] u [.arr 1 n (fun k=>.arr e (len k) (F k))] st:=by
 obtain ⟨s0,hc,hch⟩:=h
 rcases hc with ⟨rfl,rfl,rfl⟩ | ⟨h0,b,g,hb,rfl,rfl,hg⟩
 ·exact (I6 1 _).trans (E7.shift hch _)
 ·obtain ⟨t',g',k1,k2,k3,_⟩:=B6Y C3 (bz:=b) n _ _ g (Nat.le_refl _) hch (A0 ..) hg h1
  rw [B6] at k2
  refine (k1 _).trans ((I7 (k2 b _ (A0 ..)) rfl (Nat.le_refl _) k3).trans (E7.shift (fun c y hy=>?_) _))
  have hne:c≠b:=fun e=>by subst e;rw [hb] at hy;cases hy
  rw [A0m hne]
  exact k2 c y (by rw [A8 hne];exact hy)
theorem C2m (l:List Int) (x:Int) (hl:l.length≤100000) (st:St):S P 117 [B3 l,eI x] st fun v st'=>v=.bool (l.any fun y=>y==x)∧st'=st:=by
 refine A4 [] B7 mixed Tryz.func117 (by rfl) rfl rfl rfl ?_;conv=>whnf
 refine lp l.length [0,1,5] (fun i vs s=>(∀ k,k<i→(gI l k==x)=false)∧vs=[B3 l,eI x,eI i]∧s=st) ?_ ?_
 ·conv=>whnf
  exact ⟨fun k hk=>absurd hk (by omega),rfl,rfl⟩
 ·rintro i vs s hi ⟨hno,rfl,rfl⟩
  conv=>whnf
  cases h:decide ((i:Int)<(l.length:Int))
  ·obtain rfl:=D1 h hi
   conv=>whnf
   refine ⟨?_,rfl⟩
   show AV.bool false=AV.bool _
   congr 1
   rw [eq_comm,List.any_eq_false]
   intro y hy
   obtain ⟨k,hk,rfl⟩:=F2 hy
   have:=hno k hk
   simpa using this
  ·have hi':=F5 h
   conv=>whnf
   refine ⟨rfl,⟨by omega,by omega⟩,?_⟩;conv=>whnf
   refine C2 (fun h2=>?_) (fun h2=>?_)<;>rw [h2]
   ·conv=>whnf
    refine ⟨?_,rfl⟩
    show AV.bool true=AV.bool _
    congr 1
    rw [eq_comm,List.any_eq_true]
    exact ⟨_,B4 hi',h2⟩
   ·conv=>whnf
    refine ⟨rfl,?_⟩;conv=>whnf
    exact nx hi' ⟨fun k hk=>by
     by_cases e:k=i
     ·subst e;exact h2
     ·exact hno k (by omega),by rw [B9 (by omega)],rfl⟩
def A3l (r:F1) (codes:List D8) (it:Ab.Item) (k:Nat):List Int:=((List.range k).filter fun (j:Nat)=>((N6 r.promos codes).any fun y=>y==(j:Int))&&T8 (r.promos.getD j default)&&Z0 (r.promos.getD j default).scope it).map Int.ofNat
theorem B5R (r:F1) (codes:List D8) (it:Ab.Item) (k:Nat):A3l r codes it (k+1)=A3l r codes it k++(if (((N6 r.promos codes).any fun y=>y==(k:Int))&&T8 (r.promos.getD k default)&&Z0 (r.promos.getD k default).scope it)=true then [(k:Int)] else []):=by
 unfold A3l
 rw [List.range_succ,List.filter_append,List.map_append]
 congr 1
 by_cases h:(((N6 r.promos codes).any fun y=>y==(k:Int))&&T8 (r.promos.getD k default)&&Z0 (r.promos.getD k default).scope it)=true
 ·rw [if_pos h,List.filter_cons_of_pos (by exact h)];rfl
 ·rw [if_neg h,List.filter_cons_of_neg (by exact h)];rfl
theorem B1t (r:F1) (codes:List D8) (it:Ab.Item) (k:Nat):(A3l r codes it k).length≤k:=by
 unfold A3l
 rw [List.length_map]
 exact Nat.le_trans (List.length_filter_le ..) (by rw [List.length_range];exact Nat.le_refl _)
abbrev A9u (r:F1) (s:D8):Ab.Item:=r.items.getD (R8 r.items s).toNat default
def A5J (r:F1) (codes:List D8) (s:D8):List Int:=A3l r codes (A9u r s) r.promos.length
set_option maxHeartbeats 4000000 in
theorem B8i (r:F1) (codes:List D8) (l:List F0) (hC:promosC r.promos=true) (hcs:Sm codes.length) (hi:r.items.length≤100000) (hl:l.length≤1000) (hk:∀ x∈l,known r.items x.sku=true) (st:St) :
  S P 35 [H9 r,D3 codes,A7 3 D4 l] st fun v st'=>v=A7 1 B3 (l.map fun x=>A5J r codes x.sku)∧st'=st:=by
 have hp60:=(A0S hC).few
 have hOl:(N6 r.promos codes).length≤60:=by
  rw [(O9 _ _).length_eq]
  have:=P3 r.promos codes r.promos.length
  omega
 have cO:=fun u=>B1F r.promos codes hC hcs u
 refine S.post (post:=fun v u=>∃ sv,ROut (X6 E7 3 1 (fun k j=>eI ((A5J r codes (l.getD k default).sku).getD j default)) (fun k=>(A5J r codes (l.getD k default).sku).length) sv l.length) 29 1 sv l.length st v u∧∀ j,j<l.length→(sv j).one=true) ?_ (fun v u ⟨sv,hR,h1⟩=>⟨_,st,⟨rfl,rfl⟩,?_⟩)
 ·refine A5Z [3,13] B7 mixed Tryz.func35 (by rfl) rfl rfl rfl ?_;conv=>whnf
  refine A5 (cO _) ?_;conv=>whnf
  refine lp l.length [2,3,7,8,9] (fun i vs u=>∃ ov sv,vs=[A7 3 D4 l,.fptr (H9 r) 0,B3 (N6 r.promos codes),ov,eI i]∧ROut (X6 E7 3 1 (fun k j=>eI ((A5J r codes (l.getD k default).sku).getD j default)) (fun k=>(A5J r codes (l.getD k default).sku).length) sv i) 29 1 sv i st ov u∧∀ j,j<i→(sv j).one=true) ?_ ?_
  ·conv=>whnf
   exact ⟨.emp,fun _=>.emp,rfl,ROut.start (E7.refl _) _ _ _,fun j hj=>absurd hj (by omega)⟩
  rintro i vs u hi' ⟨ov,sv,rfl,hR,hone⟩
  conv=>whnf
  cases h1:decide ((i:Int)<(l.length:Int))
  case false =>
   obtain rfl:=D1 h1 hi'
   conv=>whnf
   exact ⟨sv,hR,hone⟩
  have hi':=F5 h1
  have hx:=hk _ (show l.getD i default∈l from B4 hi')
  have hfd:=fun u=>B2Q r.items (l.getD i default).sku (by show _≤_;omega) u
  have hM:A5J r codes (l.getD i default).sku=A3l r codes (A9u r (l.getD i default).sku) r.promos.length:=rfl
  have hk0:0≤R8 r.items (l.getD i default).sku:=of_decide_eq_true hx
  have hk1:R8 r.items (l.getD i default).sku<r.items.length:=(A7J _ _).2
  obtain ⟨it,hit⟩:∃ it,it=A9u r (l.getD i default).sku:=⟨_,rfl⟩
  rw [←hit] at hM
  unfold A9u at hit
  generalize R8 r.items (l.getD i default).sku=I at hfd hk0 hk1 hit
  conv=>whnf
  refine .inr ⟨[12,13],.qui 0 (.qui 1 (.qui 2 (.qui 3 (.qui 4 (.qui 5 (.qui 6 (.qui 7 (.qui 8 (.qui 9 (.qui 10 (.qui 11 (.eff 12 [1,3,8,9,11] (.eff 13 [] (.done)))))))))))))),by kernel_rfl,?_⟩;conv=>whnf
  refine ⟨_,fun _=>True,trivial,fun s _=>⟨rfl,rfl⟩,?_⟩;conv=>whnf
  refine ⟨_,fun _=>True,trivial,fun s _=>⟨rfl,rfl⟩,?_⟩;conv=>whnf
  refine ⟨rfl,⟨by omega,by omega⟩,?_⟩;conv=>whnf
  refine ⟨_,fun _=>True,trivial,fun s _=>⟨rfl,rfl⟩,?_⟩;conv=>whnf
  refine ⟨_,fun _=>True,trivial,fun s _=>C6 (hfd s),?_⟩;conv=>whnf
  refine ⟨rfl,⟨hk0,hk1⟩,?_⟩;conv=>whnf
  refine ⟨_,fun _=>True,trivial,fun s _=>⟨rfl,rfl⟩,?_⟩;conv=>whnf
  rw [←hit]
  intro b10 hb10;conv=>whnf
  iterate 5 (refine ⟨fun _=>trivial,?_⟩;conv=>whnf)
  refine J7 (A0 ..) rfl (by omega) rfl (by rfl) ?_
  rw [B6];conv=>whnf
  generalize hT:(upd u b10 _:St)=T0
  obtain ⟨f10,at10,hf10⟩:∃ f10:Nat→AV,T0 b10=some ⟨76,4,1,f10⟩∧f10 0=E2 it:=by rw [←hT];exact ⟨_,A0 ..,by rw [A2];rfl⟩
  have hS0:E7 u T0:=by rw [←hT];exact (E7.refl u).upd hb10
  clear hT
  have hR0:=ROut.map hR fun s h=>A9j i h hS0
  clear hR
  refine lp r.promos.length [2,3,7,8,9,10,11,12] (fun k vs w=>∃ av,vs=[A7 3 D4 l,.fptr (H9 r) 0,B3 (N6 r.promos codes),ov,eI i,.optr 4 b10 0 0,av,eI k]∧F7 3 1 eI (A3l r codes it k) T0 av w) ?_ ?_
  ·conv=>whnf
   exact ⟨.emp,rfl,F7.start _ _ _ _⟩
  rintro k vs w hk ⟨av,rfl,hc⟩
  have ham:=B1t r codes it k
  conv=>whnf
  cases h2:decide ((k:Int)<(r.promos.length:Int))
  case false =>
   obtain rfl:=D1 h2 hk
   rw [←hM] at hc
   have hc':H1 3 1 (fun j=>eI ((A5J r codes (l.getD i default).sku).getD j default)) T0 (A5J r codes (l.getD i default).sku).length av w:=hc
   obtain ⟨s0,hco,hch⟩:=hR0
   have hch':=A8d C3 hch hc'
   obtain ⟨sv',hsv',hsvi,hch'⟩:∃ sv':Nat→AV,(∀ j,j<i→sv' j=sv j)∧sv' i=av∧X6 E7 3 1 (fun k j=>eI ((A5J r codes (l.getD k default).sku).getD j default)) (fun k=>(A5J r codes (l.getD k default).sku).length) sv' (i+1) s0 w:=⟨fun j=>if j=i then av else sv j,fun j hj=>if_neg (by omega),if_pos rfl,hch'⟩
   have hR':=ROut.congr (fo':=sv') (show ROut _ _ _ _ _ _ _ _ from ⟨s0,hco,hch'⟩) fun j hj=>(hsv' j hj).symm
   have hone':∀ j,j<i+1→(sv' j).one=true:=fun j hj=>by
    by_cases e:j=i
    ·rw [e,hsvi];rcases ROut.head (show ROut E7 _ _ _ _ _ av w from ⟨_,hc',E7.refl _⟩) with rfl | ⟨b,rfl⟩<;>rfl
    ·rw [hsv' j (by omega)];exact hone j (by omega)
   rcases ROut.head (show ROut E7 _ _ _ _ _ av w from ⟨_,hc',E7.refl _⟩) with rfl | ⟨ba,rfl⟩
   all_goals
    conv=>whnf
    refine ROut.app (q:=r29) (X4 C3 sv' (i+1)) rfl rfl rfl rfl rfl (f:=sv') (by rw [hsvi];rfl) (by show (i+1) * 24≤140737488355328;omega) hR' (fun ov' w' hR2=>?_);conv=>whnf
    refine ⟨rfl,?_⟩;conv=>whnf
    exact nx hi' ⟨ov',sv',by rw [B9 (by omega)],hR2,hone'⟩
  have hk':=F5 h2
  have hup:=B5R r codes it k
  have cI:=fun u=>C2m (N6 r.promos codes) k (by omega) u
  obtain ⟨p,hp⟩:∃ p,p=r.promos.getD (k:Int).toNat default:=⟨_,rfl⟩
  have hpk:r.promos.getD k default=p:=by rw [hp];rfl
  have hpm:p∈r.promos:=by rw [←hpk];exact B4 hk'
  have hpo:=A0j ((A0S hC).right _ hpm)
  have cH:=fun u=>C0C p.scope it (by show _≤_;have:=hpo.skus;omega) (by show _≤_;have:=hpo.cats;omega) u
  rw [hpk] at hup
  generalize ((N6 r.promos codes).any fun y=>y==(k:Int))=bI at hup cI
  have ePl:∀ a b,(p.kind != 4)=a→(p.kind != 7)=b→T8 p=(a&&b):=fun a b ha hb=>by rw [←ha,←hb];rfl
  have at10w:=hc.sup b10 _ at10
  conv=>whnf
  refine ⟨rfl,⟨by omega,by omega⟩,?_⟩;conv=>whnf
  rw [←hp]
  have off:(bI&&T8 p&&Z0 p.scope it)=false→F7 3 1 eI (A3l r codes it (k+1)) T0 av w:=fun h=>by rw [hup,h];simpa using hc
  refine A5 (cI _) ?_;conv=>whnf
  cases bI
  case false =>
   conv=>whnf
   refine ⟨rfl,?_⟩;conv=>whnf
   exact nx hk' ⟨av,by rw [B9 (by omega)],off rfl⟩
  conv=>whnf
  cases h4:(p.kind != 4)
  case false =>
   conv=>whnf
   refine ⟨rfl,?_⟩;conv=>whnf
   exact nx hk' ⟨av,by rw [B9 (by omega)],off (by rw [ePl _ _ h4 rfl];rfl)⟩
  conv=>whnf
  cases h7:(p.kind != 7)
  case false =>
   conv=>whnf
   refine ⟨rfl,?_⟩;conv=>whnf
   exact nx hk' ⟨av,by rw [B9 (by omega)],off (by rw [ePl _ _ h4 h7];rfl)⟩
  conv=>whnf
  refine E8 at10w rfl (by omega) hf10 ?_;conv=>whnf
  refine A5 (cH _) ?_;conv=>whnf
  cases hb:Z0 p.scope it
  case false =>
   conv=>whnf
   refine ⟨rfl,?_⟩;conv=>whnf
   exact nx hk' ⟨av,by rw [B9 (by omega)],off (by rw [hb,Bool.and_false])⟩
  have on:A3l r codes it (k+1)=A3l r codes it k++[(k:Int)]:=by rw [hup,ePl _ _ h4 h7,hb];rfl
  conv=>whnf
  refine F7.app (q:=r3) (y:=(k:Int)) rfl rfl rfl rfl rfl rfl (by show ((A3l r codes it k).length+1) * 8≤140737488355328;omega) hc (fun av' w' hc'=>?_)
  rw [←on] at hc';conv=>whnf
  refine ⟨rfl,?_⟩;conv=>whnf
  exact nx hk' ⟨av',by rw [B9 (by omega)],hc'⟩
 ·have:=B4b hR h1
  have e:A7 1 B3 (l.map fun x=>A5J r codes x.sku)=.arr 1 l.length (fun k=>B3 ((l.map fun x=>A5J r codes x.sku).getD k default)):=by unfold A7;rw [List.length_map]
  rw [e]
  exact this.trans (A9.arr fun k hk=>by rw [D7 (fun x:F0=>A5J r codes x.sku) l hk];rfl)
structure C1K where
 at':Int
 raw:Bool
 l:F0
 deriving Inhabited
def eTurn (t:C1K):AV:=.agg [eI t.at',eB t.raw,eS t.l.sku,eI t.l.qty,eI t.l.price]
def A9F (t:C1K):F0:=if t.raw=true then { t.l with qty:=if 20<t.l.qty then 20 else t.l.qty } else (P0 [t.l]).getD 0 default
theorem B0N (x:F0):(P0 [x]).length=1:=by
 unfold P0
 simp
theorem C4l (t:C1K) (st:St):S P 27 [eTurn t] st fun v st'=>v=D4 (A9F t)∧st'=st:=by
 have pl:=fun u=>B4q [t.l] u
 have h1:=B0N t.l
 obtain ⟨at',raw,l⟩:=t
 unfold A9F
 refine A2i ?_
 refine A4 [1] B7 mixed Tryz.func27 (by rfl) rfl rfl rfl ?_;conv=>whnf
 intro b2 hb2
 cases raw
 ·rw [if_neg (by simp)]
  generalize P0 [l]=PL at pl h1
  conv=>whnf
  refine A5 ((pl _).pre (A9.cons (A9.arr1 (e:=3) (g:=fun i=>D4 ([l].getD i default)) rfl) (A9.keep _ _))) ?_;conv=>whnf
  refine ⟨rfl,⟨by omega,by omega⟩,?_⟩;conv=>whnf
  refine J7 (A0 ..) rfl (by omega) rfl (by rfl) ?_;conv=>whnf
  refine E8 (A0 ..) rfl (by omega) (A2 ..) ?_;conv=>whnf
  exact ⟨rfl,((E7.refl st).upd hb2).over hb2⟩
 ·rw [if_pos rfl];conv=>whnf
  intro b3 hb3
  have h23:b2≠b3:=fun e=>by subst e;rw [A0] at hb3;cases hb3
  conv=>whnf
  refine J7 (A0 ..) rfl (by omega) rfl (by rfl) ?_;conv=>whnf
  refine E8 (A0 ..) rfl (by omega) (A2 ..) ?_;conv=>whnf
  refine J7 (A0 ..) rfl (by omega) (A2 ..) (by rfl) ?_;conv=>whnf
  refine E8 (A0 ..) rfl (by omega) (A2 ..) ?_;conv=>whnf
  refine J7 ((A8 h23).trans ((A8 h23).trans ((A8 h23).trans (A0 ..)))) rfl (by omega) rfl (by rfl) ?_;conv=>whnf
  refine E8 (A0 ..) rfl (by omega) (A2 ..) ?_;conv=>whnf
  have hb3':st b3=none:=by rw [A8 h23.symm] at hb3;exact hb3
  exact ⟨rfl,(((((E7.refl st).upd hb2).upd hb3).over hb3').over hb3').over hb2⟩
def A4Y (items:List Ab.Item) (m:List F0) (i:Int) (x:F0):List F0×Int :=
 if i<0∨i>m.length then (m,2) else if G7 (known items) (K4 m i.toNat x)=0 then (K4 m i.toNat x,0) else (m,G7 (known items) (K4 m i.toNat x))
set_option maxHeartbeats 2000000 in
theorem C0b (r:F1) (m:List F0) (i:Int) (x:F0) (hm:m.length≤1000) (hi:r.items.length≤100000) (st:St) :
  S P 28 [H9 r,A7 3 D4 m,eI i,D4 x] st fun v st'=>v=.tuple [A7 3 D4 (A4Y r.items m i x).1,eI (A4Y r.items m i x).2]∧st'=st:=by
 refine S.post (post:=fun v u=>(v=.tuple [A7 3 D4 (A4Y r.items m i x).1,eI (A4Y r.items m i x).2]∧E7 st u)∨∃ b g,v=.tuple [.own 3 b 0 (A4Y r.items m i x).1.length,eI (A4Y r.items m i x).2]∧st b=none∧u=upd st b ⟨56,3,(A4Y r.items m i x).1.length,g⟩∧∀ k,k<(A4Y r.items m i x).1.length→g k=D4 ((A4Y r.items m i x).1.getD k default)) ?_ (fun v u hv=>?_)
 ·refine A4 [4,7] B7 mixed Tryz.func28 (by rfl) rfl rfl rfl ?_;conv=>whnf
  cases h1:decide (i<0)
  case true =>
   have e:A4Y r.items m i x=(m,2):=if_pos (.inl (of_decide_eq_true h1))
   rw [e];conv=>whnf
   exact .inl ⟨rfl,E7.refl _⟩
  have h1:=of_decide_eq_false h1
  conv=>whnf
  cases h2:decide (i>(m.length:Int))
  case true =>
   have e:A4Y r.items m i x=(m,2):=if_pos (.inr (of_decide_eq_true h2))
   rw [e];conv=>whnf
   exact .inl ⟨rfl,E7.refl _⟩
  have h2:=of_decide_eq_false h2
  obtain ⟨n,rfl⟩:∃ n:Nat,i=n:=⟨i.toNat,by omega⟩
  have hn:n≤m.length:=by omega
  obtain ⟨L,hL⟩:∃ L,L=K4 m n x:=⟨_,rfl⟩
  have hLl:=A3W m n x
  have hLa:=A8o hn x
  rw [←hL] at hLl hLa
  have eS:A4Y r.items m n x=if G7 (known r.items) L=0 then (L,0) else (m,G7 (known r.items) L):=by
   rw [hL];exact if_neg (by omega)
  rw [eS];conv=>whnf
  refine H1.apps (n:=0) (m:=m.length) (q:=r56) (f:=fun k=>D4 (m.getD k default)) rfl rfl rfl rfl rfl (fun i hi=>by rw [Nat.zero_add]) (by show (0+m.length) * 32≤140737488355328;omega) (H1.start _ _ _ _) (fun sv t1 hc=>?_)
  rw [Nat.zero_add] at hc
  rcases ROut.head (show ROut E7 _ _ _ _ _ sv t1 from ⟨_,hc,E7.refl _⟩) with rfl | ⟨b0,rfl⟩
  all_goals
   conv=>whnf
   refine C2 (fun h3=>?_) (fun h3=>?_)<;>rw [h3]
  case inl.refine_2 =>
   have e0:m.length=0:=by { rcases hc with ⟨h0,_⟩ | ⟨_,b,_,_,h,_⟩;exact h0;cases h }
   have:=ne_of_beq_false h3
   omega
  case' inr.refine_2 =>
   have h3:n≠m.length:=by have:=ne_of_beq_false h3;omega
   rcases hc with ⟨_,h,_⟩ | ⟨_,b,g,hb,he,rfl,hg⟩
  case inr.refine_2.inl=>cases h
  case' inr.refine_2.inr =>
   have he:b=b0:=by cases he;rfl
   subst he
   have eLn:L.length=m.length:=by rw [hLl,if_neg h3]
   have hgk:∀ k,k<L.length→k≠n→g k=D4 (m.getD k default):=fun k hk _=>hg k (by omega)
   conv=>whnf
   refine ⟨rfl,⟨by omega,by omega⟩,?_⟩;conv=>whnf
   refine J7 (A0 ..) rfl (by omega) (show g (0+(n:Int).toNat)=D4 (m.getD n default) by rw [show 0+(n:Int).toNat=n by omega];exact hg n (by omega)) (by rfl) ?_
   rw [B6];conv=>whnf
   rw [←eLn]
   generalize hT:(upd st b _:St)=T2
   obtain ⟨g',hT2,hg'⟩:∃ g':Nat→AV,upd st b ⟨56,3,L.length,g'⟩=T2∧∀ k,k<L.length→g' k=D4 (L.getD k default):=by
    refine ⟨_,hT,fun k hk=>?_⟩
    rw [hLa]
    by_cases ek:k=n
    ·rw [if_pos ek,ek,show 0+(n:Int).toNat=n by omega,A2];rfl
    ·rw [if_neg ek,F8 (by omega)];exact hgk k hk ek
  case' inl.refine_1 | inr.refine_1 =>
   have h3:n=m.length:=by
    rcases hc with ⟨h0,_⟩ | ⟨_,b,_,_,h,_⟩
    ·have:=eq_of_beq h3;omega
    ·have:=eq_of_beq h3;first | (cases h;done) | omega
   have eLn:L.length=m.length+1:=by rw [hLl,if_pos h3]
   conv=>whnf
   refine H1.app (q:=r56) rfl rfl rfl rfl rfl (f:=fun k=>D4 (L.getD k default)) (by show _=D4 _;rw [hLa,if_pos h3.symm];rfl) (by show (m.length+1) * 32≤140737488355328;omega) (H1.congr hc fun k hk=>by show D4 _=D4 _;rw [hLa,if_neg (by omega)]) (fun sv' t2 hc2=>?_)
   rcases hc2 with ⟨h0,_⟩ | ⟨_,b,g',hb,rfl,rfl,hg'⟩
   ·omega
   conv=>whnf
   rw [←eLn] at hg' ⊢
   generalize hT:(upd st b _:St)=T2
   have hT2:upd st b ⟨56,3,L.length,g'⟩=T2:=hT
  all_goals
   have atb:T2 b=some ⟨56,3,L.length,g'⟩:=by rw [←hT2,A0]
   have hS2:E7 st T2:=by rw [←hT2];exact (E7.refl st).upd hb
   have hck:S P 93 [A7 4 E2 r.items,.own 3 b 0 L.length] T2 fun v s=>v=eI (G7 (known r.items) L)∧s=T2 :=
    S.lends (B4A r.items L (by show _≤_;omega) (by show L.length≤4611686018427387904;rw [hLl];split<;>omega) st0) ((A9.cons (A9.keep [A7 4 E2 r.items] T2) (I7 atb rfl (Nat.le_refl _) hg')).trans ((B7x _).shift _)) fun v hv=>⟨_,rfl,by rw [hv];exact So.int _ _⟩
   refine A5 hck ?_;conv=>whnf
   generalize G7 (known r.items) L=E at eS ⊢
   refine C2 (fun h5=>?_) (fun h5=>?_)<;>rw [h5]
   ·have h5:E≠0:=by simpa using h5
    rw [if_neg h5];conv=>whnf
    exact .inl ⟨rfl,hS2⟩
   ·obtain rfl:E=0:=by simpa using h5
    rw [if_pos rfl];conv=>whnf
    exact .inr ⟨b,g',rfl,hb,hT2.symm,hg'⟩
 ·rcases hv with ⟨rfl,hs⟩ | ⟨b,g,rfl,hb,rfl,hg⟩
  ·exact ⟨_,st,⟨rfl,rfl⟩,hs.shift _⟩
  ·have:=I7 (st:=upd st b ⟨56,3,(A4Y r.items m i x).1.length,g⟩) (f:=fun k=>D4 ((A4Y r.items m i x).1.getD k default)) (A0 ..) rfl (Nat.le_refl _) hg
   rw [A1S hb] at this
   exact ⟨_,st,⟨rfl,rfl⟩,A9.tuple (A9.cons this (A9.keep _ _)) rfl⟩
end Go.Proofs.YthdimklenlikgaaGreat
namespace Go.Proofs.YthdimklenlikgaaGreat
open Go Go.Ab
theorem B6f {α : Type} [Inhabited α] (p : α→Bool):∀ (l:List α),((List.range l.length).filter fun j=>p (l.getD j default)).map (fun j=>l.getD j default)=l.filter p:=by
 intro l
 have e:(List.range l.length).map (fun j=>l.getD j default)=l:=by
  apply List.ext_getElem (by simp)
  intro i h1 h2
  simp at h1 ⊢
  simp [h1]
 calc _=((List.range l.length).map (fun j=>l.getD j default)).filter p:=by rw [List.filter_map];rfl
  _=_:=by rw [e]
theorem B8x (l:List B2) (codes:List D8) (n:Nat):(places l codes n).Pairwise (·≤·):=by
 unfold places
 refine List.Pairwise.map Int.ofNat (fun a b h=>?_) ((List.pairwise_lt_range (n:=n)).filter _)
 exact Int.ofNat_le.2 (Nat.le_of_lt h)
theorem B0K (r:F1) (codes:List D8):D5 r codes=(places r.promos codes r.promos.length).filter fun x=>T8 (D6 r.promos x) :=
 ((V0 _).trans ((O9 r.promos codes).filter _)).eq_of_pairwise (le:=(·≤·)) (fun a b _ _ h1 h2=>Int.le_antisymm h1 h2) (B0n _) ((B8x ..).filter _)
theorem B5B (r:F1) (codes:List D8) (d:V7) (hr:d.r=r) (hp:d.places=D5 r codes) (hs:d.scopes=(D5 r codes).map fun x=>(D6 r.promos x).scope) (s:D8):A6e d s=A5J r codes s:=by
 unfold A6e A5J A3l A0Y
 rw [hr,hp,hs]
 unfold A9u
 generalize r.items.getD (R8 r.items s).toNat default=it
 have e1:((List.range ((D5 r codes).map fun x=>(D6 r.promos x).scope).length).filter fun j=>Z0 (((D5 r codes).map fun x=>(D6 r.promos x).scope).getD j default) it)=(List.range (D5 r codes).length).filter fun j=>Z0 (D6 r.promos ((D5 r codes).getD j default)).scope it:=by
  rw [List.length_map]
  refine List.filter_congr fun j hj=>?_
  rw [D7 (fun x:Int=>(D6 r.promos x).scope) _ (List.mem_range.1 hj)]
 rw [e1,List.map_map]
 have e2:=B6f (fun x:Int=>Z0 (D6 r.promos x).scope it) (D5 r codes)
 refine Eq.trans (by exact e2) ?_
 rw [B0K,List.filter_filter]
 unfold places
 rw [List.filter_map,List.filter_filter]
 congr 1
 refine List.filter_congr fun j hj=>?_
 have hj':=List.mem_range.1 hj
 have e3:((N6 r.promos codes).any fun y=>y==(j:Int))=U1 codes (r.promos.getD j default):=by
  rw [Bool.eq_iff_iff,List.any_eq_true]
  constructor
  ·rintro ⟨y,hy,he⟩
   have hy:=(O9 _ _).mem_iff.1 hy
   rw [eq_of_beq he] at hy
   obtain ⟨k,hk,e⟩:=List.mem_map.1 hy
   have:k=j:=by have:(k:Int)=(j:Int):=e;omega
   subst this
   exact (List.mem_filter.1 hk).2
  ·intro h
   exact ⟨j,(O9 _ _).mem_iff.2 (List.mem_map.2 ⟨j,List.mem_filter.2 ⟨hj,h⟩,rfl⟩),beq_self_eq_true _⟩
 rw [e3]
 show (Z0 (r.promos.getD j default).scope it&&T8 (r.promos.getD j default)&&U1 codes (r.promos.getD j default))=_
 generalize Z0 (r.promos.getD j default).scope it=a
 generalize T8 (r.promos.getD j default)=b
 generalize U1 codes (r.promos.getD j default)=c
 cases a<;>cases b<;>cases c<;>rfl
theorem A9q {r:F1} (codes:List D8) (hC:promosC r.promos=true):(D5 r codes).length≤60:=by
 unfold D5
 rw [Q2]
 refine Nat.le_trans (List.length_filter_le ..) ?_
 rw [(O9 _ _).length_eq]
 have:=P3 r.promos codes r.promos.length
 have:=(A0S hC).few
 omega
theorem B3L {r:F1} (codes:List D8) (hC:promosC r.promos=true) (hi:r.items.length≤100000):A8X (P9 r codes):=by
 have hl:=A9q codes hC
 have e:(P9 r codes).scopes.length=(D5 r codes).length:=List.length_map ..
 refine ⟨hi,e.symm,by omega,fun s hs=>?_,Nat.zero_le _,rfl⟩
 obtain ⟨x,hx,rfl⟩:=List.mem_map.1 hs
 have h1:=A5P hx
 have h2:=A0j ((A0S hC).right _ (show D6 r.promos x∈r.promos from B4 h1.2))
 exact ⟨h2.skus,h2.cats⟩
structure A5Y (r:F1) (codes:List D8) (d:V7):Prop where
 rules:d.r=r
 code:d.codes=codes
 places:d.places=D5 r codes
 scopes:d.scopes=(D5 r codes).map fun x=>(D6 r.promos x).scope
 ok:A8X d
 lines:d.lines=[]∨G7 (known r.items) d.lines=0
 opens:d.opens=d.lines.map fun x=>A5J r codes x.sku
theorem B9N {r:F1} (codes:List D8) (hC:promosC r.promos=true) (hi:r.items.length≤100000):A5Y r codes (P9 r codes) :=
 ⟨rfl,rfl,rfl,rfl,B3L codes hC hi,.inl rfl,rfl⟩
theorem A5Y.set {r:F1} {codes:List D8} {d:V7} (h:A5Y r codes d) (i:Int) (x:F0):A5Y r codes (A7V d i x)∧A0s d i x=(A4Y r.items d.lines i x).2∧(A7V d i x).lines=(A4Y r.items d.lines i x).1:=by
 have hE:A0s d i x=if i<0∨i>d.lines.length then 2 else G7 (known r.items) (K4 d.lines i.toNat x):=by unfold A0s;rw [h.rules]
 unfold A4Y
 by_cases h1:i<0∨i>d.lines.length
 ·rw [if_pos h1] at hE ⊢
  have e:A7V d i x=d:=if_neg (by rw [hE];decide)
  rw [e];exact ⟨h,hE,rfl⟩
 ·rw [if_neg h1] at hE ⊢
  by_cases h2:G7 (known r.items) (K4 d.lines i.toNat x)=0
  ·rw [if_pos h2]
   rw [h2] at hE
   have e:A7V d i x=A4k d i.toNat x:=if_pos hE
   rw [e]
   refine ⟨⟨h.rules,h.code,h.places,h.scopes,⟨h.ok.items,h.ok.nplaces,h.ok.few,h.ok.scopes,(A6Y h2).len,?_⟩,.inr h2,?_⟩,hE,rfl⟩
   ·show (List.set _ _ _).length=(K4 d.lines i.toNat x).length
    rw [List.length_set,A3W]
    have:=h.ok.nopens
    split
    ·rw [List.length_append];show d.opens.length+1=_;omega
    ·exact this
   ·show List.set _ _ (A6e d x.sku)=(K4 d.lines i.toNat x).map _
    rw [B5B r codes d h.rules h.places h.scopes,h.opens]
    unfold K4
    by_cases e3:i.toNat=d.lines.length
    ·rw [if_pos e3,if_pos e3,List.map_append,List.set_append_right _ _ (by rw [List.length_map];omega),List.length_map,e3,Nat.sub_self];rfl
    ·rw [if_neg e3,if_neg e3,List.map_set]
  ·rw [if_neg h2]
   have e:A7V d i x=d:=if_neg (by rw [hE];exact h2)
   rw [e];exact ⟨h,hE,rfl⟩
end Go.Proofs.YthdimklenlikgaaGreat
namespace Go.Proofs.YthdimklenlikgaaGreat
open Go Go.Ab
attribute [local irreducible] upd del
theorem A8g (bd:Nat) (d:V7) (hl:d.lines.length≤1000) (s t:St) (h:A2g bd d s t):S P 31 [.optr 19 bd 0 0] t fun v t'=>v=A7 3 D4 d.lines∧t'=t:=by
 obtain ⟨ov,f,atd,hf,-,-⟩:=h.at
 refine A4 [] B7 mixed Tryz.func31 (by rfl) rfl rfl rfl ?_;conv=>whnf
 refine E8 atd rfl (by omega) hf ?_;conv=>whnf
 refine A5 (B2e d.lines (by omega) _) ?_;conv=>whnf
 exact ⟨rfl,rfl⟩
theorem C1z (t:St):S P 32 [.nilp] t fun v t'=>v=.agg [.emp,eI 0,eI 0,.emp]∧t'=t:=by
 refine A2i ?_
 refine A4 [] B7 mixed Tryz.func32 (by rfl) rfl rfl rfl ?_;conv=>whnf
 intro b2 hb2;conv=>whnf
 refine J7 (A0 ..) rfl (by omega) rfl (by rfl) ?_;conv=>whnf
 refine E8 (A0 ..) rfl (by omega) (A2 ..) ?_;conv=>whnf
 exact ⟨rfl,((E7.refl t).upd hb2).over hb2⟩
set_option maxHeartbeats 1000000 in
theorem B5A (bd:Nat) (d:V7) (hl:d.opens.length≤1000) (hs:∀ l∈d.opens,l.length≤100000) (s t:St) (h:A2g bd d s t):S P 34 [.optr 19 bd 0 0] t fun v t'=>v=A7 1 B3 d.opens∧t'=t:=by
 obtain ⟨ov,f,atd,hf,-,hO⟩:=h.at
 refine W9 (ty:=29) ?_
 refine A4 [] B7 mixed Tryz.func34 (by rfl) rfl rfl rfl ?_
 rcases ROut.head hO with rfl | ⟨bo,rfl⟩
 ·have h0:d.opens.length=0:=by
   rcases Nat.eq_zero_or_pos d.opens.length with h | h
   ·exact h
   ·obtain ⟨b,hb⟩:=ROut.own0 hO h;cases hb
  conv=>whnf
  refine E8 atd rfl (by omega) hf ?_;conv=>whnf
  refine A5K [3,11,12,13] ?_;conv=>whnf
  intro I
  show H1 _ _ _ _ d.opens.length _ _
  rw [h0];exact H1.start _ _ _ _
 ·conv=>whnf
  refine E8 atd rfl (by omega) hf ?_;conv=>whnf
  refine lp d.opens.length [3,11,12,13] (fun i vs u=>∃ sv,vs=[sv,.own 1 bo 0 d.opens.length,eI d.opens.length,eI i]∧H1 29 1 (fun k=>B3 (d.opens.getD k default)) t i sv u) ?_ ?_
  ·conv=>whnf
   exact ⟨_,rfl,H1.start _ _ _ _⟩
  rintro i vs u hi ⟨sv,rfl,hc⟩
  conv=>whnf
  cases h1:decide ((i:Int)<(d.opens.length:Int))
  case false =>
   obtain rfl:=D1 h1 hi
   conv=>whnf
   exact hc
  have hi':=F5 h1
  obtain ⟨go,ato,hgo,-⟩:=ROut.cell C3 hO (by omega)
  have hgi:go (0+(i:Int).toNat)=B3 (d.opens.getD i default):=by rw [show 0+(i:Int).toNat=i by omega];exact hgo i hi'
  have hx:=hs _ (show d.opens.getD i default∈d.opens from B4 hi')
  conv=>whnf
  refine ⟨rfl,⟨by omega,by omega⟩,?_⟩;conv=>whnf
  refine E8 (hc.sup bo _ ato) rfl (by omega) hgi ?_;conv=>whnf
  refine A5 (A4A _ hx _) ?_;conv=>whnf
  refine H1.app (q:=r29) rfl rfl rfl rfl rfl (f:=fun k=>B3 (d.opens.getD k default)) rfl (by show (i+1) * 24≤140737488355328;omega) hc (fun sv' u' hc'=>?_);conv=>whnf
  refine ⟨rfl,?_⟩;conv=>whnf
  exact nx hi' ⟨sv',by rw [B9 (by omega)],hc'⟩
theorem A6Q (bd:Nat) (d:V7) (X:A3z) (e:Int) (hP:∀ u,S P 20 [H9 d.r,D3 d.codes,A7 3 D4 d.lines] u fun v u'=>v=.tuple [X2 X,eI e]∧u'=u) (s t:St) (h:A2g bd d s t) :
  S P 32 [.optr 19 bd 0 0] t fun v t'=>v=X2 X∧t'=t:=by
 obtain ⟨ov,f,atd,hf,-,hO⟩:=h.at
 refine A2i ?_
 refine A5Z [] B7 mixed Tryz.func32 (by rfl) rfl rfl rfl ?_;conv=>whnf
 intro b2 hb2
 have h2:bd≠b2:=fun e=>by subst e;rw [atd] at hb2;cases hb2
 conv=>whnf
 refine .inr ⟨[16,17],.qui 0 (.qui 1 (.qui 2 (.qui 3 (.qui 4 (.qui 5 (.qui 6 (.qui 7 (.qui 8 (.qui 9 (.qui 10 (.qui 11 (.qui 12 (.qui 13 (.qui 14 (.qui 15 (.eff 16 [3,7,11,12] (.eff 17 [] (.qui 18 (.done))))))))))))))))))),by kernel_rfl,?_⟩;conv=>whnf
 refine ⟨_,fun s=>s bd=some ⟨171,19,1,f⟩,(A8 h2).trans atd,fun s hs=>E8 hs rfl (by omega) hf ⟨rfl,rfl⟩,?_⟩;conv=>whnf
 refine ⟨_,fun s=>s bd=some ⟨171,19,1,f⟩,(A8 h2).trans atd,fun s hs=>E8 hs rfl (by omega) hf ⟨rfl,rfl⟩,?_⟩;conv=>whnf
 refine ⟨_,fun s=>s bd=some ⟨171,19,1,f⟩,(A8 h2).trans atd,fun s hs=>E8 hs rfl (by omega) hf ⟨rfl,rfl⟩,?_⟩;conv=>whnf
 refine ⟨_,fun _=>True,trivial,fun s _=>C6 (hP s),?_⟩;conv=>whnf
 intro b3 hb3;conv=>whnf
 have h3:bd≠b3:=fun e=>by subst e;rw [A8 h2,atd] at hb3;cases hb3
 have h23:b2≠b3:=fun e=>by subst e;rw [A0] at hb3;cases hb3
 iterate 4 (refine ⟨by first | exact fun _=>trivial | exact fun h=>(A8 h3).trans h,?_⟩;conv=>whnf)
 refine J7 (A0 ..) rfl (by omega) rfl (by rfl) ?_
 rw [B6];conv=>whnf
 refine E8 (A0 ..) rfl (by omega) (A2 ..) ?_;conv=>whnf
 refine J7 ((A8 h23).trans (A0 ..)) rfl (by omega) rfl (by rfl) ?_;conv=>whnf
 refine E8 (A0 ..) rfl (by omega) (A2 ..) ?_;conv=>whnf
 exact ⟨rfl,(((E7.refl t).upd hb2).upd hb3).over hb2⟩
def C8B:Tax:=⟨false,false,0,[]⟩
theorem C2a (x:Int) (st:St):S P 175 [eI x,eI x] st fun v st'=>v=.bool true∧st'=st:=by
 refine A4 [] B7 mixed Tryz.func175 (by rfl) rfl rfl rfl ?_;conv=>whnf
 refine ⟨?_,rfl⟩
 show AV.bool (x==x)=_
 rw [beq_self_eq_true]
theorem B9Q (x:A1a) (st:St):S P 177 [A4D x,A4D x] st fun v st'=>v=.bool true∧st'=st:=by
 refine A4 [2,3] B7 mixed Tryz.func177 (by rfl) rfl rfl rfl ?_;conv=>whnf
 refine ⟨?_,rfl⟩
 show AV.bool ((x.id.toList==x.id.toList)&&((x.off==x.off)&&true))=AV.bool true
 rw [beq_self_eq_true,beq_self_eq_true];rfl
theorem B6l (l:List Int) (hl:Sm l.length) (st:St):S P 174 [B3 l,B3 l,.fn (.func 175) [] []] st fun v st'=>v=.bool true∧st'=st:=by
 refine A4 [] B7 mixed Tryz.func174 (by rfl) rfl rfl rfl ?_;conv=>whnf
 rw [show ((l.length:Int) != (l.length:Int))=false from bne_self_eq_false _];conv=>whnf
 refine lp l.length [0,1,2,7] (fun i vs s=>vs=[B3 l,B3 l,.fn (.func 175) [] [],eI i]∧s=st) ?_ ?_
 ·conv=>whnf
  exact ⟨rfl,rfl⟩
 ·rintro i vs s hi ⟨rfl,rfl⟩
  conv=>whnf
  cases h:decide ((i:Int)<(l.length:Int))
  ·obtain rfl:=D1 h hi
   conv=>whnf
   exact ⟨rfl,rfl⟩
  ·have hi':=F5 h
   conv=>whnf
   refine ⟨[],[],List.range 11,by kernel_rfl,?_⟩;conv=>whnf
   refine ⟨rfl,⟨by omega,by omega⟩,?_⟩;conv=>whnf
   refine ⟨rfl,⟨by omega,by omega⟩,?_⟩;conv=>whnf
   refine ⟨_,C6 (C2a _ _),?_⟩;conv=>whnf
   refine ⟨rfl,?_⟩;conv=>whnf
   exact nx hi' ⟨by rw [B9 (by omega)],rfl⟩
theorem B4M (l:List A1a) (hl:Sm l.length) (st:St):S P 176 [A7 2 A4D l,A7 2 A4D l,.fn (.func 177) [] []] st fun v st'=>v=.bool true∧st'=st:=by
 refine A4 [] B7 mixed Tryz.func176 (by rfl) rfl rfl rfl ?_;conv=>whnf
 rw [show ((l.length:Int) != (l.length:Int))=false from bne_self_eq_false _];conv=>whnf
 refine lp l.length [0,1,2,7] (fun i vs s=>vs=[A7 2 A4D l,A7 2 A4D l,.fn (.func 177) [] [],eI i]∧s=st) ?_ ?_
 ·conv=>whnf
  exact ⟨rfl,rfl⟩
 ·rintro i vs s hi ⟨rfl,rfl⟩
  conv=>whnf
  cases h:decide ((i:Int)<(l.length:Int))
  ·obtain rfl:=D1 h hi
   conv=>whnf
   exact ⟨rfl,rfl⟩
  ·have hi':=F5 h
   conv=>whnf
   refine ⟨[],[],List.range 11,by kernel_rfl,?_⟩;conv=>whnf
   refine ⟨rfl,⟨by omega,by omega⟩,?_⟩;conv=>whnf
   refine ⟨rfl,⟨by omega,by omega⟩,?_⟩;conv=>whnf
   refine ⟨_,C6 (B9Q _ _),?_⟩;conv=>whnf
   refine ⟨rfl,?_⟩;conv=>whnf
   exact nx hi' ⟨by rw [B9 (by omega)],rfl⟩
theorem B4l (l:List Int) (hl:Sm l.length) (st:St):S P 100 [B3 l,B3 l] st fun v st'=>v=.bool true∧st'=st:=by
 refine A4 [] B7 mixed Tryz.func100 (by rfl) rfl rfl rfl ?_;conv=>whnf
 refine A5 (B6l l hl _) ?_;conv=>whnf
 exact ⟨rfl,rfl⟩
theorem B2C (l:List A1a) (hl:Sm l.length) (st:St):S P 101 [A7 2 A4D l,A7 2 A4D l] st fun v st'=>v=.bool true∧st'=st:=by
 refine A4 [] B7 mixed Tryz.func101 (by rfl) rfl rfl rfl ?_;conv=>whnf
 refine A5 (B4M l hl _) ?_;conv=>whnf
 exact ⟨rfl,rfl⟩
end Go.Proofs.YthdimklenlikgaaGreat
namespace Go.Proofs.YthdimklenlikgaaGreat
open Go Go.Ab
theorem B0O (p:B2) (id K:Int):A2C (L9 p id K):=by
 have hs:=(A1U p.scope).2
 have hp:=A3R p.parts
 have ht5:=(A1V p.tiers 5000 (.inl rfl)).2
 have ht6:=(A1V p.tiers 5 (.inr rfl)).2
 refine ⟨?_,?_,?_,?_,?_,?_,?_⟩
 ·have:=Y1 (B3T id);show (idN id).size≤_;omega
 ·have:=(A8j p).2;show (A1l p).size≤_;omega
 ·have:=(A9n p).2;show (A2u p).size≤_;omega
 ·show A1q (if K=4∨K=7 then ⟨[],[]⟩ else O0 p.scope)
  split
  ·exact A4E.2
  ·exact hs
 ·show (if K=4 then N1 p.parts else []).length≤_
  split
  ·omega
  ·exact Nat.zero_le _
 ·show ∀ x∈(if K=4 then N1 p.parts else []),_
  split
  ·exact fun x hx=>(hp.2 x hx).2
  ·exact fun x hx=>absurd hx List.not_mem_nil
 ·show (if K=5 then N2 p.tiers 5000 else if K=6 then N2 p.tiers 5 else []).length≤_
  split
  ·omega
  ·split
   ·omega
   ·exact Nat.zero_le _
theorem B4v (l:List U5) (k:Nat) (hk:k<3):B5l (E9 l k):=by
 have hn:=List.all_eq_true.1 B0D k (List.mem_range.2 hk)
 have hz:=Y1 hn
 unfold E9
 split
 ·obtain ⟨h1,h2,h3⟩:=A7g (l.getD k default).rates
  generalize Q1 (l.getD k default).rates=R at h1 h2 h3 ⊢
  exact ⟨by show R.length≤_;omega,by show (W4 k).size≤_;omega,fun x hx=>by have:=(h2 x hx).2;show x.cat.size≤_;omega⟩
 ·exact ⟨by show 0≤_;decide,by show (W4 k).size≤_;omega,fun x hx=>absurd hx List.not_mem_nil⟩
theorem B6a (t:Tax):B6N (K1 t):=by
 refine ⟨by show ((List.range 3).map _).length≤_;rw [List.length_map,List.length_range];decide,fun z hz=>?_⟩
 obtain ⟨k,hk,rfl⟩:=List.mem_map.1 hz
 exact B4v _ k (List.mem_range.1 hk)
theorem B2L (r:F1):A8G (W7 r):=by
 have h0:=A2T r.items
 have h2:=(R3 r.policy.order).2
 have h3:=(R3 r.policy.credit).2
 refine ⟨by show (N0 r.items).length≤_;omega,fun x hx=>?_,fun p hp=>?_,B6a r.tax,by show (J6 r.policy.order).length≤_;omega,by show (J6 r.policy.credit).length≤_;omega⟩
 ·have:=A5T hx
  exact ⟨by have:=this.2.1;show x.sku.size≤_;omega,by have:=this.2.2;show x.cat.size≤_;omega⟩
 ·obtain ⟨q,id,K,_,rfl⟩:=A4V hp
  exact B0O q id K
abbrev C0o (l:List B2) (xs:List (Int×Int)):List A1a:=xs.map fun a=>(⟨(D6 l a.1).id,a.2⟩:A1a)
abbrev A9t (l:List B2) (xs:List (Int×Int)):List D8:=(xs.map fun a=>(D6 l a.1).group).filter fun g=>!J8 g
structure Tr (l:List B2) (p:PSt) (xs:List (Int×Int)):Prop where
 deals:p.deals=C0o l xs
 groups:p.groups=A9t l xs
 pos:∀ a∈xs,1≤a.2
 apart:p.groups.Pairwise fun x y=>(y.toList==x.toList)=false
theorem Tr.start (l:List B2) (us:List B5):Tr l ⟨us,[],[]⟩ []:=⟨rfl,rfl,fun a h=>absurd h List.not_mem_nil,.nil⟩
def B1T {σ : Type} (px : σ→PSt) (step : σ→B2→σ) (sm:B2→Bool) (l:List B2) (Q : σ→Int→Prop):Prop :=
 ∀ (a : σ) (s:Int) (pr:B2),pr∈l→sm pr=true→Q a s →
  ((px (step a pr)).deals=(px a).deals∧(px (step a pr)).groups=(px a).groups∧Q (step a pr) s) ∨
  ∃ off,1≤off∧(px (step a pr)).deals=(px a).deals++[⟨pr.id,off⟩]∧(px (step a pr)).groups=(px a).groups++(if J8 pr.group=true then [] else [pr.group])∧Q (step a pr) (s+off)
theorem C3b {σ : Type} {px : σ→PSt} {step : σ→B2→σ} {sm:B2→Bool} {l:List B2} {Q : σ→Int→Prop} (hstep:B1T px step sm l Q) :
  ∀ (f:List Int) (a : σ) (xs:List (Int×Int)) (s:Int),(∀ x∈f,x.toNat<l.length∧sm (D6 l x)=true)→Tr l (px a) xs→Q a s →
   ∃ ys,Tr l (px (f.foldl (fun a x=>goB px step a (D6 l x)) a)) (xs++ys)∧(ys.map Prod.fst).Sublist f∧Q (f.foldl (fun a x=>goB px step a (D6 l x)) a) (s+A6 (ys.map Prod.snd)):=by
 intro f
 induction f with
 | nil=>intro a xs s _ ht hq;exact ⟨[],by rw [List.append_nil];exact ht,List.Sublist.slnil,by rw [show s+A6 (([]:List (Int×Int)).map Prod.snd)=s from Int.add_zero s];exact hq⟩
 | cons x f ih =>
  intro a xs s hm ht hq
  have hm':∀ y∈f,y.toNat<l.length∧sm (D6 l y)=true:=fun y hy=>hm y (List.mem_cons_of_mem _ hy)
  have hx:=hm x (List.mem_cons_self ..)
  have hmem:D6 l x∈l:=B4 hx.1
  rw [List.foldl_cons]
  unfold goB
  by_cases hg:(J8 (D6 l x).group||!inB (px a).groups (D6 l x).group)=true
  ·rw [if_pos hg]
   rcases hstep a s (D6 l x) hmem hx.2 hq with ⟨h1,h2,h3⟩ | ⟨off,h0,h1,h2,h3⟩
   ·obtain ⟨ys,k1,k2,k3⟩:=ih _ xs s hm' ⟨h1.trans ht.deals,h2.trans ht.groups,ht.pos,by rw [h2];exact ht.apart⟩ h3
    exact ⟨ys,k1,k2.cons _,k3⟩
   ·have ht':Tr l (px (step a (D6 l x))) (xs++[(x,off)]):=by
     refine ⟨?_,?_,fun b hb=>?_,?_⟩
     ·rw [h1,ht.deals];unfold C0o;rw [List.map_append];rfl
     ·rw [h2,ht.groups];unfold A9t
      rw [List.map_append,List.filter_append]
      congr 1
      cases hn:J8 (D6 l x).group
      ·rw [if_neg (by simp)]
       show [(D6 l x).group]=List.filter (fun g=>!J8 g) [(D6 l x).group]
       rw [List.filter_cons_of_pos (p:=fun g=>!J8 g) (by rw [hn];rfl)];rfl
      ·rw [if_pos rfl]
       show []=List.filter (fun g=>!J8 g) [(D6 l x).group]
       rw [List.filter_cons_of_neg (p:=fun g=>!J8 g) (by rw [hn];simp)];rfl
     ·rcases List.mem_append.1 hb with hb | hb
      ·exact ht.pos b hb
      ·rw [List.mem_singleton.1 hb];exact h0
     ·rw [h2]
      refine List.pairwise_append.2 ⟨ht.apart,?_,fun y hy z hz=>?_⟩
      ·split
       ·exact .nil
       ·exact List.pairwise_singleton _ _
      ·split at hz
       ·exact absurd hz List.not_mem_nil
       ·rename_i hn
        rw [List.mem_singleton.1 hz]
        rw [Bool.eq_false_iff.2 hn,Bool.false_or,Bool.not_eq_true'] at hg
        unfold inB at hg
        rw [List.any_eq_false] at hg
        exact Bool.eq_false_iff.2 (hg y hy)
    obtain ⟨ys,k1,k2,k3⟩:=ih _ (xs++[(x,off)]) (s+off) hm' ht' h3
    refine ⟨(x,off)::ys,by rw [List.append_assoc] at k1;exact k1,k2.cons_cons x,?_⟩
    rw [List.map_cons,N3,←Int.add_assoc];exact k3
  ·rw [if_neg hg]
   obtain ⟨ys,k1,k2,k3⟩:=ih _ xs s hm' ht hq
   exact ⟨ys,k1,k2.cons _,k3⟩
theorem B7B {σ : Type} {px : σ→PSt} {step : σ→B2→σ} {sm:B2→Bool} {l:List B2} {Q : σ→Int→Prop} (hstep:B1T px step sm l Q) {o:List Int} (ho:∀ x∈o,x.toNat<l.length) {a : σ} {xs:List (Int×Int)} {s:Int} (ht:Tr l (px a) xs) (hq:Q a s) :
  ∃ ys,Tr l (px (W0 px step sm l a o)) (xs++ys)∧(ys.map Prod.fst).Sublist (o.filter fun x=>sm (D6 l x))∧Q (W0 px step sm l a o) (s+A6 (ys.map Prod.snd)) :=
 C3b hstep _ a xs s (fun x hx=>⟨ho x (List.mem_filter.1 hx).1,(List.mem_filter.1 hx).2⟩) ht hq
theorem B9y {items:List Ab.Item} {us0:List B5} {l:List B2} (hf:∀ p∈l,O3 p) (hr:∀ p∈l,H5 p=true):B1T (fun p:PSt=>p) (A3E items) Q6 l (fun p s=>A5H items p.us∧Off us0 p.us s):=by
 intro a s pr hm hs hq
 have hk:pr.kind≠7:=by simpa [Q6] using hs
 unfold A3E
 by_cases h:(X3 items a.us pr).2>0
 ·rw [if_pos h]
  rcases B7E hq.1 (hf _ hm) (hr _ hm) hk with e | e
  ·rw [e] at h;exact absurd h (by decide)
  ·exact .inr ⟨_,by omega,rfl,rfl,hq.1.off e,hq.2.trans e⟩
 ·rw [if_neg h]
  exact .inl ⟨rfl,rfl,hq⟩
theorem B8H {net fee fee0:Int} {l:List B2} (hr:∀ p∈l,H5 p=true):B1T (fun a:PSt×Int=>a.1) (R4 net) X9 l (fun a s=>0≤a.2∧a.2≤fee∧a.2+s=fee0):=by
 intro a s pr hm hs hq
 have hk:pr.kind=7:=by simpa [X9] using hs
 have h7:=(A0j (hr _ hm)).ship hk
 have hb:=Q3 a.2 pr.rate
 have hle:=A3V hq.1 (show 0≤pr.rate by omega) h7.2
 unfold R4 A5V
 by_cases h:net<pr.least
 ·rw [if_pos h];exact .inl ⟨rfl,rfl,hq⟩
 ·rw [if_neg h]
  by_cases h2:H8 a.2 pr.rate>0
  ·rw [if_pos h2]
   exact .inr ⟨H8 a.2 pr.rate,by omega,rfl,rfl,by show 0≤a.2 - H8 a.2 pr.rate;omega,by show a.2 - H8 a.2 pr.rate≤_;omega,by show a.2 - H8 a.2 pr.rate+(s+H8 a.2 pr.rate)=_;omega⟩
  ·rw [if_neg h2]
   exact .inl ⟨rfl,rfl,by show 0≤a.2 - H8 a.2 pr.rate;omega,by show a.2 - H8 a.2 pr.rate≤_;omega,by show a.2 - H8 a.2 pr.rate+s=_;omega⟩
theorem A4K (a b:List B5) (j:Nat):F9 (a++b) j=F9 a j+F9 b j:=by
 unfold F9;rw [List.filter_append,List.map_append,G2]
theorem B4a (l:List F0) (i j n:Nat):F9 (List.replicate n (lnU l i)) j=if i=j then n * (l.getD i default).price else 0:=by
 induction n with
 | zero=>show (0:Int)=_;split<;>simp
 | succ n ih =>
  rw [show List.replicate (n+1) (lnU l i)=[lnU l i]++List.replicate n (lnU l i) from rfl,A4K,ih]
  by_cases h:i=j
  ·rw [if_pos h,if_pos h]
   have:F9 [lnU l i] j=(l.getD i default).price:=by
    unfold F9
    rw [List.filter_cons_of_pos (by show (((i:Int)).toNat==j)=true;rw [Int.toNat_natCast,h];simp)]
    show A6 [(l.getD i default).price]=_
    rw [N3];exact Int.add_zero _
   rw [this,show ((n+1:Nat):Int) * (l.getD i default).price=n * (l.getD i default).price+(l.getD i default).price by rw [Int.natCast_add,Int.add_mul];simp]
   omega
  ·rw [if_neg h,if_neg h]
   have:F9 [lnU l i] j=0:=by
    unfold F9
    rw [List.filter_cons_of_neg (by show ¬(((i:Int)).toNat==j)=true;rw [Int.toNat_natCast];simpa using h)];rfl
   rw [this];rfl
theorem B5O (l:List F0) (hl:∀ x∈l,0≤x.qty) (j k:Nat) (hk:k≤l.length):F9 (G1 l k) j=if j<k then (l.getD j default).qty * (l.getD j default).price else 0:=by
 induction k with
 | zero=>rfl
 | succ k ih =>
  show F9 (G1 l k++List.replicate (l.getD k default).qty.toNat (lnU l k)) j=_
  rw [A4K,ih (by omega),B4a]
  have hq:=hl _ (B4 (show k<l.length by omega))
  by_cases e:k=j
  ·subst e
   rw [if_neg (by omega),if_pos rfl,if_pos (by omega),Int.toNat_of_nonneg hq,Int.zero_add]
  ·rw [if_neg e]
   by_cases h:j<k
   ·rw [if_pos h,if_pos (by omega),Int.add_zero]
   ·rw [if_neg h,if_neg (by omega)];rfl
theorem A9y {us us':List B5} {x:Int} (h:Off us us' x) (j:Nat):∀ k,k≤us.length→F9 (us'.take k) j≤F9 (us.take k) j
 | 0,_=>Int.le_refl _
 | k+1,hk=>by
  have ih:=A9y h j k (by omega)
  have hl:=h.len
  rw [U8 (by omega),U8 (by omega),h.line k]
  have:=(h.net k).2
  split<;>omega
theorem B5a (f:Nat→Int) (t:Nat) (x:Int):∀ n,A6 ((List.range n).map fun j=>if t=j then f j+x else f j)=A6 ((List.range n).map f)+if t<n then x else 0
 | 0=>by rw [if_neg (by omega)];rfl
 | n+1=>by
  rw [M8,M8,B5a f t x n]
  by_cases e:t=n
  ·rw [if_pos e,if_neg (by omega),if_pos (by omega)];omega
  ·rw [if_neg e]
   by_cases h:t<n
   ·rw [if_pos h,if_pos (by omega)];omega
   ·rw [if_neg h,if_neg (by omega)];omega
theorem B0q:∀ n,A6 ((List.range n).map fun _=>(0:Int))=0
 | 0=>rfl
 | n+1=>by rw [M8,B0q n];rfl
theorem A6X {us:List B5} {n:Nat} (h:∀ k,k<us.length→(gU us k).line.toNat<n):∀ k,k≤us.length→A6 ((List.range n).map (F9 (us.take k)))=A6 (E1 (us.take k))
 | 0,_=>B0q n
 | k+1,hk=>by
  have ih:=A6X h k (by omega)
  have e1:(F9 (us.take (k+1)))=fun j=>if (gU us k).line.toNat=j then F9 (us.take k) j+(gU us k).net else F9 (us.take k) j:=funext fun j=>U8 (by omega) j
  rw [e1,B5a,ih,if_pos (h k (by omega)),K9 (by omega)]
  unfold E1
  rw [List.map_append,G2]
  show _+(gU us k).net=_+A6 [(gU us k).net]
  rw [N3];show _=_+((gU us k).net+0);omega
structure A4w (r:F1) (codes:List D8) (l:List F0) (Pr:A3z) (xs ys:List (Int×Int)):Prop where
 deals:Pr.deals=C0o r.promos (xs++ys)
 mem:∀ a∈xs++ys,(0≤a.1∧a.1.toNat<r.promos.length)∧U1 codes (D6 r.promos a.1)=true∧1≤a.2
 sx:(xs.map Prod.fst).Sublist (N6 r.promos codes)
 sy:(ys.map Prod.fst).Sublist (N6 r.promos codes)
 kx:∀ a∈xs,(D6 r.promos a.1).kind≠7
 ky:∀ a∈ys,(D6 r.promos a.1).kind=7
 apart:(A9t r.promos (xs++ys)).Pairwise fun x y=>(y.toList==x.toList)=false
 sum:Pr.net+A6 (xs.map Prod.snd)=I0 l
 len:Pr.nets.length=l.length
 nets:A6 Pr.nets=Pr.net
 each:∀ i,i<l.length→0≤gI Pr.nets i∧gI Pr.nets i≤(l.getD i default).qty * (l.getD i default).price
 ship:0≤Pr.ship∧Pr.ship≤r.ship.fee
 shipSum:Pr.ship+A6 (ys.map Prod.snd)=Z9 r.ship (R5 l).length Pr.net
theorem B2B {l:List B2} {codes:List D8} {i:Nat} {x:Int} (h:x∈places l codes i):U1 codes (D6 l x)=true:=by
 unfold places at h
 obtain ⟨k,hk,rfl⟩:=List.mem_map.1 h
 exact (List.mem_filter.1 hk).2
theorem B1A {r:F1} {codes:List D8} {l:List F0} (hf:A0b r) (hck:E0 r codes l=0):∃ xs ys,A4w r codes l (U9 r l (N6 r.promos codes) (N6 r.promos codes)) xs ys:=by
 have ck:=A8K hck
 have hok:=ck.lines
 have hu:=B3l hok
 obtain ⟨u1,u2,u3⟩:=A1A l hok.line l.length (Nat.le_refl _)
 rw [List.take_length] at u1 u2
 have hitl:(C9 r.items l).length=l.length:=List.length_map ..
 have hpl:∀ x∈N6 r.promos codes,(0≤x∧x.toNat<r.promos.length)∧U1 codes (D6 r.promos x)=true:=fun x hx=>by
  have:=(O9 r.promos codes).mem_iff.1 hx
  exact ⟨T7 this,B2B this⟩
 have hlt:∀ x∈N6 r.promos codes,x.toNat<r.promos.length:=fun x hx=>(hpl x hx).1.2
 obtain ⟨xs,a1,a2,a3,a4⟩:=B7B (B9y (items:=C9 r.items l) (us0:=R5 l) hf.fit ck.promo) hlt (a:=⟨R5 l,[],[]⟩) (Tr.start r.promos (R5 l)) ⟨hu,Off.refl hu.ok⟩
 rw [List.nil_append] at a1
 rw [Int.zero_add] at a4
 have hfee:0≤Z9 r.ship (R5 l).length (K6 (p1B r l (N6 r.promos codes)))∧Z9 r.ship (R5 l).length (K6 (p1B r l (N6 r.promos codes)))≤r.ship.fee:=by
  unfold Z9;have:=ck.fee;split<;>omega
 obtain ⟨ys,b1,b2,b3⟩:=B7B (B8H (net:=K6 (p1B r l (N6 r.promos codes))) (fee:=r.ship.fee) (fee0:=Z9 r.ship (R5 l).length (K6 (p1B r l (N6 r.promos codes)))) ck.promo) hlt (a:=(p1B r l (N6 r.promos codes),Z9 r.ship (R5 l).length (K6 (p1B r l (N6 r.promos codes))))) (s:=0) a1 ⟨hfee.1,hfee.2,Int.add_zero _⟩
 rw [Int.zero_add] at b3
 have a2':∀ a∈xs,a.1∈N6 r.promos codes∧Q6 (D6 r.promos a.1)=true:=fun a ha=>List.mem_filter.1 (a2.subset (List.mem_map.2 ⟨a,ha,rfl⟩))
 have b2':∀ a∈ys,a.1∈N6 r.promos codes∧X9 (D6 r.promos a.1)=true:=fun a ha=>List.mem_filter.1 (b2.subset (List.mem_map.2 ⟨a,ha,rfl⟩))
 have hus:A5H (C9 r.items l) (p1B r l (N6 r.promos codes)).us:=a3
 have hlen:=a4.len
 have hln:∀ k,k<(p1B r l (N6 r.promos codes)).us.length→(gU (p1B r l (N6 r.promos codes)).us k).line.toNat<l.length:=fun k hk=>by
  have:=(hus.line _ (B4 hk)).2
  rw [hitl] at this;exact this
 have hsm:=A6X hln _ (Nat.le_refl _)
 rw [List.take_length] at hsm
 refine ⟨xs,ys,b1.deals,fun a ha=>?_,a2.trans List.filter_sublist,b2.trans List.filter_sublist,fun a ha=>by simpa [Q6] using (a2' a ha).2,fun a ha=>by simpa [X9] using (b2' a ha).2,by rw [←b1.groups];exact b1.apart,?_,?_,hsm,fun i hi=>?_,⟨b3.1,b3.2.1⟩,b3.2.2⟩
 ·have hp:=b1.pos a ha
  rcases List.mem_append.1 ha with h | h
  ·exact ⟨(hpl _ (a2' a h).1).1,(hpl _ (a2' a h).1).2,hp⟩
  ·exact ⟨(hpl _ (b2' a h).1).1,(hpl _ (b2' a h).1).2,hp⟩
 ·have:=a4.sum
  show A6 (E1 (p1B r l (N6 r.promos codes)).us)+_=_
  exact this.trans u2
 ·show ((List.range l.length).map _).length=_
  rw [List.length_map,List.length_range]
 ·have e:gI (U9 r l (N6 r.promos codes) (N6 r.promos codes)).nets i=F9 (p1B r l (N6 r.promos codes)).us i:=by
   show gI ((List.range l.length).map (F9 (p1B r l (N6 r.promos codes)).us)) i=_
   unfold gI
   rw [List.getD_eq_getElem?_getD,List.getElem?_map,List.getElem?_range hi];rfl
  rw [e]
  have h1:=(A0e hus.ok (p1B r l (N6 r.promos codes)).us.length i).1
  rw [List.take_length] at h1
  have h2:=A9y a4 i _ (Nat.le_refl _)
  rw [List.take_length,List.take_of_length_le (Nat.le_of_eq hlen)] at h2
  have h3:=B5O l (fun x hx=>((Z1 _).1 (hok.line x hx)).1.1) i l.length (Nat.le_refl _)
  rw [if_pos hi] at h3
  have h2':F9 (p1B r l (N6 r.promos codes)).us i≤F9 (G1 l l.length) i:=h2
  exact ⟨h1,by omega⟩
theorem A8r {xs:List (Int×Int)} (h:∀ a∈xs,1≤a.2) (hs:A6 (xs.map Prod.snd)≤0):xs=[]:=by
 cases xs with
 | nil=>rfl
 | cons a xs =>
  have h1:=h a (List.mem_cons_self ..)
  have h2:0≤A6 (xs.map Prod.snd):=C8 fun x hx=>by
   obtain ⟨b,hb,rfl⟩:=List.mem_map.1 hx
   have:=h b (List.mem_cons_of_mem _ hb);omega
  rw [List.map_cons,N3] at hs;omega
theorem A4w.nothing {r:F1} {codes:List D8} {l:List F0} {Pr:A3z} {xs ys:List (Int×Int)} (h:A4w r codes l Pr xs ys) (hq:∀ x∈l,x.qty=0) (hu:(R5 l).length=0) (hg:I0 l=0) :
  Pr.deals=[]∧Pr.ship=0∧(∀ x∈Pr.nets,x=0):=by
 have h0:∀ x∈Pr.nets,x=0:=fun x hx=>by
  obtain ⟨i,hi,rfl⟩:=F2 hx
  have hi':i<l.length:=by rw [←h.len];exact hi
  have h1:=h.each i hi'
  rw [hq _ (B4 hi'),Int.zero_mul] at h1
  show gI Pr.nets i=0
  omega
 have hn:0≤Pr.net:=by rw [←h.nets];exact C8 fun x hx=>by rw [h0 x hx];exact Int.le_refl _
 have hx:xs=[]:=A8r (fun a ha=>(h.mem a (List.mem_append_left _ ha)).2.2) (by have:=h.sum;omega)
 have hsh:=h.shipSum
 have hfee:Z9 r.ship (R5 l).length Pr.net=0:=by unfold Z9;rw [if_pos (.inl (by omega))]
 have hy:ys=[]:=A8r (fun a ha=>(h.mem a (List.mem_append_right _ ha)).2.2) (by have:=h.ship;omega)
 subst hx hy
 refine ⟨by rw [h.deals];rfl,?_,h0⟩
 rw [hfee] at hsh
 have:Pr.ship+0=0:=hsh
 omega
end Go.Proofs.YthdimklenlikgaaGreat
namespace Go.Proofs.YthdimklenlikgaaGreat
open Go Go.Ab
attribute [local irreducible] upd del
structure A2O (R:F1) (C:List D8) (L:List F0):Prop where
 right:O1 R=true
 fit:A0b R
 sm:A8G R
 codes:R7 C=true
 ncodes:C.length≤3
 scodes:∀ s∈C,s.size≤12
 lines:A2Z L
 check:E0 R C L=0
 few:R.promos.length≤6
 items:R.items.length≤8
 known:∀ n,known R.items (A0V n)=true
 fee:0≤R.ship.fee∧R.ship.fee≤1000000000
theorem C4u (r:F1) (codes:List D8) (l:List F0):A2O (W7 r) (A0B codes) (P0 l):=by
 have hc:=B2H codes
 have hl:=B2J l
 have hr:=A8F r
 have hn:=A0Q r.promos
 have hck:E0 (W7 r) (A0B codes) (P0 l)=0:=by
  unfold E0
  rw [if_neg (by rw [hr];simp),if_neg (by rw [hc.1];simp)]
  exact hl.check (A9w r.items)
 exact ⟨hr,B0P r,B2L r,hc.1,hc.2.1,hc.2.2,hl,hck,by show (J9 r.promos).length≤6;omega,by show (N0 r.items).length≤8;rw [A2T];omega,A9w r.items,(A8K hck).fee⟩
theorem A2O.promosC {R:F1} {C:List D8} {L:List F0} (h:A2O R C L):promosC R.promos=true:=by
 have:=h.right
 unfold O1 at this
 simp only [Bool.and_eq_true] at this
 exact this.1.1.1.2
def A1H (R:F1) (C:List D8) (L:List F0):A3z:=U9 R L (N6 R.promos C) (N6 R.promos C)
theorem B4w {R:F1} {C:List D8} {L:List F0} (hck:E0 R C L=0) (hf:A0b R) (hC:Go.Proofs.YthdimklenlikgaaGreat.promosC R.promos=true) (hn:R.promos.length≤6) (hi:R.items.length≤8) (hc:C.length≤3) (st:St) :
  S P 20 [H9 R,D3 C,A7 3 D4 L] st fun v s=>v=.tuple [X2 (A1H R C L),eI 0]∧s=st :=
 (price_S A7p R C L hf (by show C.length≤9223372036854775807;omega) (by omega) (by have:=P3 R.promos C R.promos.length;omega) st).mono fun v s ⟨hv,hs⟩=>by
  refine ⟨?_,hs⟩
  rcases hv with ⟨h1,_⟩ | ⟨_,o1,o2,h1,h2,h3⟩
  ·exact absurd hck h1
  ·rw [B0b hC h1,B0b hC h2] at h3;exact h3
theorem A2O.price_S {R:F1} {C:List D8} {L:List F0} (h:A2O R C L) (st:St) :
  S P 20 [H9 R,D3 C,A7 3 D4 L] st fun v s=>v=.tuple [X2 (A1H R C L),eI 0]∧s=st :=
 B4w h.check h.fit h.promosC h.few h.items h.ncodes st
theorem A2O.law {R:F1} {C:List D8} {L:List F0} (h:A2O R C L):∃ xs ys,A4w R C L (A1H R C L) xs ys:=B1A h.fit h.check
structure C3N (L:List F0) (Pr:A3z) (g fee:Int):Prop where
 len:Pr.nets.length=L.length
 at':∀ i,i<L.length→0≤gI Pr.nets i∧gI Pr.nets i≤(L.getD i default).qty * (L.getD i default).price
 sum:A6 Pr.nets=Pr.net
 net:0≤Pr.net∧Pr.net≤g
 ship:0≤Pr.ship∧Pr.ship≤fee
theorem A2O.nets {R:F1} {C:List D8} {L:List F0} (h:A2O R C L):C3N L (A1H R C L) (I0 L) R.ship.fee:=by
 obtain ⟨xs,ys,hl⟩:=h.law
 have h0:∀ x∈(A1H R C L).nets,0≤x:=fun x hx=>by
  obtain ⟨i,hi,rfl⟩:=F2 hx
  exact (hl.each i (by rw [←hl.len];exact hi)).1
 have hx:0≤A6 (xs.map Prod.snd):=C8 fun x hx=>by
  obtain ⟨a,ha,rfl⟩:=List.mem_map.1 hx
  have:=(hl.mem a (List.mem_append_left _ ha)).2.2
  omega
 have hs:=hl.sum
 have hn:=hl.nets
 have:=C8 h0
 exact ⟨hl.len,hl.each,hl.nets,by omega,hl.ship⟩
theorem C2p {R:F1} {C:List D8} {L:List F0} {Pr:A3z} {xs ys:List (Int×Int)} (h:A4w R C L Pr xs ys) (hn:R.promos.length≤6):Pr.deals.length≤12:=by
 rw [h.deals,List.length_map,List.length_append]
 have h1:=h.sx.length_le
 have h2:=h.sy.length_le
 rw [List.length_map,(O9 R.promos C).length_eq] at h1 h2
 have:=P3 R.promos C R.promos.length
 omega
theorem B2V (x:A3z) (h1:Sm x.nets.length) (h2:Sm x.deals.length) (st:St):S P 22 [X2 x,X2 x] st fun v st'=>v=.bool true∧st'=st:=by
 refine A4 [2,3] B7 mixed Tryz.func22 (by rfl) rfl rfl rfl ?_;conv=>whnf
 refine A5 (B4l x.nets h1 _) ?_;conv=>whnf
 rw [show (x.net==x.net)=true from beq_self_eq_true _];conv=>whnf
 rw [show (x.ship==x.ship)=true from beq_self_eq_true _];conv=>whnf
 refine A5 (B2C x.deals h2 _) ?_;conv=>whnf
 exact ⟨rfl,rfl⟩
end Go.Proofs.YthdimklenlikgaaGreat
