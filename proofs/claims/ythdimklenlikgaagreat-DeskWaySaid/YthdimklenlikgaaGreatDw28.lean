/- Part 28 of the proof: the law, for every input, and its row -/
import Derived.Test.YthdimklenlikgaaGreatDw27
import Derived.ChangeSlices
import Derived.ChangeArms
import Derived.Test.YthdimklenlikgaaGreatRows
import Derived.ProofKit
import Derived.JoinedOf
import Derived.KernelRfl
import Derived.WalkKit
import Derived.OpenShut
import Derived.ShutString
import Derived.ChangeOld
import Derived.Below
import Derived.SizedLaws
set_option maxRecDepth 100000
set_option linter.unusedVariables false
set_option linter.unusedSimpArgs false
namespace Go.Proofs.YthdimklenlikgaaGreat
open Go Go.Ab
attribute [local irreducible] upd del
set_option maxHeartbeats 8000000 in
theorem B4j (r:E8) (st:St):S P 17 [J2 r] st fun v st'=>v=J2 (W5 r)∧st'=st:=by
 have hE:J2 (W5 r)=.agg [A7 4 E3 (N0 r.items),A7 15 B8 (J7 r.promos),eB (J9 r.tax).incl,eB (J9 r.tax).byOrder,eI (J9 r.tax).round,A7 4 S8 (J9 r.tax).zones,eI (C1 r.ship.fee 900),eI (C1 r.ship.free 3 * 4000),
  eI (20+C1 r.policy.window 60),eI (C1 r.policy.grace 40),eI (1+C1 r.policy.mode 3),eI (C1 r.policy.restock 3 * C1 r.policy.restock 2500),B3 (J5 r.policy.order),B3 (J5 r.policy.credit)]:=rfl
 rw [hE]
 clear hE
 have h1:=E1 r.ship.fee (n:=900) (by decide)
 have h2:=E1 r.ship.free (n:=3) (by decide)
 have h3:=E1 r.policy.window (n:=60) (by decide)
 have h5:=E1 r.policy.mode (n:=3) (by decide)
 have h6:=E1 r.policy.restock (n:=3) (by decide)
 have h7:=E1 r.policy.restock (n:=2500) (by decide)
 have h8:C1 r.policy.restock 3 * C1 r.policy.restock 2500≤2 * 2499:=Int.mul_le_mul (by omega) (by omega) (by omega) (by omega)
 have h9:0≤C1 r.policy.restock 3 * C1 r.policy.restock 2500:=Int.mul_nonneg h6.1 h7.1
 have w1:IntKind.i64.wrap (C1 r.ship.free 3 * 4000)=C1 r.ship.free 3 * 4000:=A9 (by omega) (by omega)
 have w2:IntKind.i64.wrap (20+C1 r.policy.window 60)=20+C1 r.policy.window 60:=A9 (by omega) (by omega)
 have w3:IntKind.i64.wrap (1+C1 r.policy.mode 3)=1+C1 r.policy.mode 3:=A9 (by omega) (by omega)
 have w4:IntKind.i64.wrap (C1 r.policy.restock 3 * C1 r.policy.restock 2500)=C1 r.policy.restock 3 * C1 r.policy.restock 2500:=A9 (by omega) (by omega)
 have m1:=fun s=>L8 r.ship.fee 900 (by decide) (by decide) s
 have m2:=fun s=>L8 r.ship.free 3 (by decide) (by decide) s
 have m3:=fun s=>A0u r.policy.window 60 (by decide) (by decide) s
 have m4:=fun s=>A0u r.policy.grace 40 (by decide) (by decide) s
 have m5:=fun s=>A0u r.policy.mode 3 (by decide) (by decide) s
 have m6:=fun s=>L8 r.policy.restock 3 (by decide) (by decide) s
 have m7:=fun s=>L8 r.policy.restock 2500 (by decide) (by decide) s
 have c1:=fun s=>B4g r.items s
 have c2:=fun s=>B2E r.promos s
 have c3:∀ s,S P 74 [B0K r.tax] s fun v st'=>v=.agg [eB (J9 r.tax).incl,eB (J9 r.tax).byOrder,eI (J9 r.tax).round,A7 4 S8 (J9 r.tax).zones]∧st'=s:=fun s=>B8o r.tax s
 have c4:=fun s=>A8k r.policy.order s
 have c5:=fun s=>A8k r.policy.credit s
 clear h1 h2 h3 h5 h6 h7 h8 h9
 generalize C1 r.ship.fee 900=M1 at *
 generalize C1 r.ship.free 3=M2 at *
 generalize C1 r.policy.window 60=M3 at *
 generalize C1 r.policy.grace 40=M4 at *
 generalize C1 r.policy.mode 3=M5 at *
 generalize C1 r.policy.restock 3=M6 at *
 generalize C1 r.policy.restock 2500=M7 at *
 generalize N0 r.items=V1 at *
 generalize J7 r.promos=V2 at *
 generalize J9 r.tax=V3 at *
 generalize J5 r.policy.order=V4 at *
 generalize J5 r.policy.credit=V5 at *
 refine A2F ?_
 refine A5 [1,3] B7 mixed Tryz.func17 (by rfl) rfl rfl rfl ?_;conv=>whnf
 intro b2 hb;conv=>whnf
 refine ⟨[45],[],List.range 46,by kernel_rfl,?_⟩;conv=>whnf
 refine ⟨_,C9 (c1 _),?_⟩;conv=>whnf
 refine ⟨_,C9 (c2 _),?_⟩;conv=>whnf
 refine ⟨_,C9 (c3 _),?_⟩;conv=>whnf
 refine ⟨_,C9 (m1 _),?_⟩;conv=>whnf
 refine ⟨_,C9 (m2 _),?_⟩;conv=>whnf
 rw [w1]
 refine ⟨_,C9 (m3 _),?_⟩;conv=>whnf
 rw [w2]
 refine ⟨_,C9 (m4 _),?_⟩;conv=>whnf
 refine ⟨_,C9 (m5 _),?_⟩;conv=>whnf
 rw [w3]
 refine ⟨_,C9 (m6 _),?_⟩;conv=>whnf
 refine ⟨_,C9 (m7 _),?_⟩;conv=>whnf
 rw [w4]
 refine ⟨_,C9 (c4 _),?_⟩;conv=>whnf
 refine ⟨_,C9 (c5 _),?_⟩;conv=>whnf
 refine K4 (A0 ..) rfl (by omega) rfl (by rfl) ?_;conv=>whnf
 refine E9 (A0 ..) rfl (by omega) (A2 ..) ?_;conv=>whnf
 exact ⟨rfl,((F2.refl st).upd hb).over hb⟩
end Go.Proofs.YthdimklenlikgaaGreat
namespace Go.Proofs.YthdimklenlikgaaGreat
open Go Go.Ab
theorem B1y {p:B1} (h:H4 p=true):p.parts.length≤3∧p.tiers.length≤6:=by
 unfold H4 at h
 simp only [Bool.and_eq_true,decide_eq_true_eq] at h
 obtain ⟨⟨⟨⟨hk1,hk2⟩,hh⟩,hp⟩,hkd⟩:=h
 unfold A4R at hp
 unfold A4Q A3R U9 at hkd
 simp only [Bool.and_eq_true,Bool.or_eq_true,beq_iff_eq] at hp
 rcases (by omega:p.kind=1∨p.kind=2∨p.kind=3∨p.kind=4∨p.kind=5∨p.kind=6∨p.kind=7) with h | h | h | h | h | h | h
 all_goals (rw [h] at hkd;simp only [h] at hp;simp only [Int.reduceEq,if_true,if_false,Bool.and_eq_true,Bool.not_eq_true',Bool.or_eq_false_iff,decide_eq_false_iff_not] at hkd)
 all_goals (simp only [Int.reduceEq,false_or,true_or,or_true,or_false,and_true,true_and] at hp;omega)
theorem B4y {r:E8} (h:O0 r=true) (ho:r.policy.order.length≤100000) (hc:r.policy.credit.length≤100000):A6D r:=by
 unfold O0 at h
 simp only [Bool.and_eq_true] at h
 obtain ⟨⟨⟨⟨h1,h2⟩,h3⟩,h4⟩,h5⟩:=h
 have hp:=A2x h2
 unfold A0M at h1
 unfold A7s I6 at h3
 simp only [Bool.and_eq_true,Bool.not_eq_true',Bool.or_eq_false_iff,decide_eq_false_iff_not,List.all_eq_true,List.mem_range] at h1 h3
 refine ⟨by omega,by have:=hp.few;omega,fun p hm=>?_,fun p hm=>?_,fun p hm x hx=>?_,fun p hm=>?_,by omega,fun z hz=>?_,ho,hc⟩
 ·have:=A0T (hp.right p hm);exact ⟨by have:=this.skus;omega,by have:=this.cats;omega⟩
 ·have:=B1y (hp.right p hm);omega
 ·have hC:=hp.right p hm
  have hK:=A0T hC
  have h4:p.kind=4:=by
   unfold H4 at hC
   simp only [Bool.and_eq_true] at hC
   have hpl:=hC.1.2
   unfold A4R at hpl
   simp only [Bool.and_eq_true,Bool.or_eq_true,beq_iff_eq] at hpl
   have:p.parts.length≠0:=by intro e;rw [List.length_eq_zero_iff.1 e] at hx;cases hx
   omega
  have:=(hK.bun h4).2 x hx
  exact ⟨by omega,by omega⟩
 ·have:=B1y (hp.right p hm);omega
 ·obtain ⟨k,hk,rfl⟩:=F4 hz
  have:=h3.2.1 k hk
  unfold Z2 at this
  simp only [Bool.and_eq_true,Bool.not_eq_true',Bool.or_eq_false_iff,decide_eq_false_iff_not] at this
  omega
end Go.Proofs.YthdimklenlikgaaGreat
namespace Go.Proofs.YthdimklenlikgaaGreat
open Go Go.Ab
attribute [local irreducible] upd del
def akR:E8:=⟨[⟨⟨#[97]⟩,⟨#[120]⟩,15,false⟩],[],C8u,⟨0,0⟩,⟨0,0,1,0,[],[]⟩⟩
def akX:F0:=⟨⟨#[97]⟩,2,15⟩
theorem B9i:A0a akR:=by
 refine ⟨by decide,fun p hp=>?_,by decide,by decide⟩
 cases hp
theorem B9k:O0 akR=true:=by kernel_rfl
theorem B9h:R8 []=true:=by kernel_rfl
theorem B9l:Y2 (O8 akR []) 0 akX=0:=by kernel_rfl
theorem B9g:D6 akR [] [akX]=0:=by kernel_rfl
theorem B9j:U7 akR [akX] [] []=⟨[30],30,0,[]⟩:=by kernel_rfl
theorem C3J:A6D akR:=by
 refine ⟨by decide,by decide,fun p hp=>?_,fun p hp=>?_,fun p hp=>?_,fun p hp=>?_,by decide,fun z hz=>?_,by decide,by decide⟩
 all_goals first | (cases hp) | (cases hz)
theorem B7A (st:St):S P 20 [J2 akR,D3 [],A7 3 E4 [akX]] st fun v st'=>v=.tuple [X0 ⟨[30],30,0,[]⟩,eI 0]∧st'=st :=
 (price_S A7q akR [] [akX] B9i (by decide) (by decide) (by decide) st).mono fun v s hv=>by
  obtain ⟨hv,rfl⟩:=hv
  refine ⟨?_,rfl⟩
  rcases hv with ⟨h,_⟩ | ⟨_,o1,o2,h1,h2,h3⟩
  ·exact absurd B9g h
  ·have e1:L5 akR.promos o1=[]:=List.perm_nil.1 ((A7W [] o1).trans h1.1)
   have e2:L5 akR.promos o2=[]:=List.perm_nil.1 ((A7W [] o2).trans h2.1)
   rw [e1,e2,B9j] at h3
   exact h3
theorem B1e (st:St):S P 24 [] st fun v st'=>v=.bool true∧st'=st:=by
 refine A2F ?_
 refine A5 [1] B7 mixed Tryz.func24 (by rfl) rfl rfl rfl ?_;conv=>whnf
 have hnew:=B1k A7q akR [] B9i (by decide) (by decide) (fun _=>C3J) st
 refine I5 ?_ (call hnew (fun v u hv=>?_))
 ·refine B2.cons (Le.shift (Le.agg ?_) _) (Le.shift (Le.emp _ _) _)
  repeat' first | exact F5.nil | refine F5.cons ?_ ?_ | exact Le.refl _ | exact Le.emp _ _ | refine Le.arr1 ?_ rfl
 rcases hv with ⟨h,_⟩ | ⟨_,h,_⟩ | ⟨_,_,bd,rfl,hD⟩
 ·rw [B9k] at h;cases h
 ·rw [B9h] at h;cases h
 have hok:A6b (O8 akR []):=B3F [] (by kernel_rfl) (by decide)
 have hset:=A7G bd (O8 akR []) 0 akX hok st u hD
 rw [B9l] at hset
 have e:A4r (O8 akR []) 0 akX=A4m (O8 akR []) 0 akX:=if_pos B9l
 rw [e] at hset;conv=>whnf
 refine call hset (fun v u2 hv=>?_)
 obtain ⟨rfl,hD2⟩:=hv
 conv=>whnf
 refine A4 (A1U bd _ ⟨[30],30,0,[]⟩ 0 (fun u=>B7A u) st u2 hD2) ?_;conv=>whnf
 refine A4 (A4G bd _ (by decide) st u2 hD2) ?_;conv=>whnf
 exact ⟨rfl,(X2 ..).sup hD2⟩
theorem B7N (x:F0) (st:St):S P 112 [E4 x,E4 x] st fun v st'=>v=.bool true∧st'=st:=by
 refine A5 [2,3] B7 mixed Tryz.func112 (by rfl) rfl rfl rfl ?_;conv=>whnf
 refine ⟨?_,rfl⟩
 show AV.bool ((x.sku.toList==x.sku.toList)&&((x.qty==x.qty)&&((x.price==x.price)&&true)))=AV.bool true
 simp only [beq_self_eq_true,Bool.and_true]
theorem B4E (l:List F0) (hl:Sm l.length) (st:St):S P 111 [A7 3 (E4) l,A7 3 (E4) l,.fn (.func 112) [] []] st fun v st'=>v=.bool true∧st'=st:=by
 refine A5 [] B7 mixed Tryz.func111 (by rfl) rfl rfl rfl ?_;conv=>whnf
 rw [show ((l.length:Int) != (l.length:Int))=false from bne_self_eq_false _];conv=>whnf
 refine lp l.length [0,1,2,7] (fun i vs s=>vs=[A7 3 (E4) l,A7 3 (E4) l,.fn (.func 112) [] [],eI i]∧s=st) ?_ ?_
 ·conv=>whnf
  exact ⟨rfl,rfl⟩
 ·rintro i vs s hi ⟨rfl,rfl⟩
  conv=>whnf
  cases h:decide ((i:Int)<(l.length:Int))
  ·obtain rfl:=D1 h hi
   conv=>whnf
   exact ⟨rfl,rfl⟩
  ·have hi':=F7 h
   conv=>whnf
   refine ⟨[],[],List.range 11,by kernel_rfl,?_⟩;conv=>whnf
   refine ⟨rfl,⟨by omega,by omega⟩,?_⟩;conv=>whnf
   refine ⟨rfl,⟨by omega,by omega⟩,?_⟩;conv=>whnf
   refine ⟨_,C9 (B7N _ _),?_⟩;conv=>whnf
   refine ⟨rfl,?_⟩;conv=>whnf
   exact nx hi' ⟨by rw [C0 (by omega)],rfl⟩
theorem B2z (l:List F0) (hl:Sm l.length) (st:St):S P 30 [A7 3 E4 l,A7 3 E4 l] st fun v st'=>v=.bool true∧st'=st:=by
 refine A5 [] B7 mixed Tryz.func30 (by rfl) rfl rfl rfl ?_;conv=>whnf
 refine A4 (B4E l hl _) ?_;conv=>whnf
 exact ⟨rfl,rfl⟩
theorem B7M (x:Int) (st:St):S P 203 [eI x,eI x] st fun v st'=>v=.bool true∧st'=st:=by
 refine A5 [] B7 mixed Tryz.func203 (by rfl) rfl rfl rfl ?_;conv=>whnf
 refine ⟨?_,rfl⟩
 show AV.bool (x==x)=_
 rw [beq_self_eq_true]
theorem B4D (l:List Int) (hl:Sm l.length) (st:St):S P 202 [A7 1 (eI) l,A7 1 (eI) l,.fn (.func 203) [] []] st fun v st'=>v=.bool true∧st'=st:=by
 refine A5 [] B7 mixed Tryz.func202 (by rfl) rfl rfl rfl ?_;conv=>whnf
 rw [show ((l.length:Int) != (l.length:Int))=false from bne_self_eq_false _];conv=>whnf
 refine lp l.length [0,1,2,7] (fun i vs s=>vs=[A7 1 (eI) l,A7 1 (eI) l,.fn (.func 203) [] [],eI i]∧s=st) ?_ ?_
 ·conv=>whnf
  exact ⟨rfl,rfl⟩
 ·rintro i vs s hi ⟨rfl,rfl⟩
  conv=>whnf
  cases h:decide ((i:Int)<(l.length:Int))
  ·obtain rfl:=D1 h hi
   conv=>whnf
   exact ⟨rfl,rfl⟩
  ·have hi':=F7 h
   conv=>whnf
   refine ⟨[],[],List.range 11,by kernel_rfl,?_⟩;conv=>whnf
   refine ⟨rfl,⟨by omega,by omega⟩,?_⟩;conv=>whnf
   refine ⟨rfl,⟨by omega,by omega⟩,?_⟩;conv=>whnf
   refine ⟨_,C9 (B7M _ _),?_⟩;conv=>whnf
   refine ⟨rfl,?_⟩;conv=>whnf
   exact nx hi' ⟨by rw [C0 (by omega)],rfl⟩
theorem B2y (l:List Int) (hl:Sm l.length) (st:St):S P 114 [A7 1 eI l,A7 1 eI l] st fun v st'=>v=.bool true∧st'=st:=by
 refine A5 [] B7 mixed Tryz.func114 (by rfl) rfl rfl rfl ?_;conv=>whnf
 refine A4 (B4D l hl _) ?_;conv=>whnf
 exact ⟨rfl,rfl⟩
theorem B4F (l:List (List Int)) (hl:Sm l.length) (hs:∀ x∈l,Sm x.length) (st:St):S P 113 [A7 1 (B3) l,A7 1 (B3) l,.fn (.func 114) [] []] st fun v st'=>v=.bool true∧st'=st:=by
 refine A5 [] B7 mixed Tryz.func113 (by rfl) rfl rfl rfl ?_;conv=>whnf
 rw [show ((l.length:Int) != (l.length:Int))=false from bne_self_eq_false _];conv=>whnf
 refine lp l.length [0,1,2,7] (fun i vs s=>vs=[A7 1 (B3) l,A7 1 (B3) l,.fn (.func 114) [] [],eI i]∧s=st) ?_ ?_
 ·conv=>whnf
  exact ⟨rfl,rfl⟩
 ·rintro i vs s hi ⟨rfl,rfl⟩
  conv=>whnf
  cases h:decide ((i:Int)<(l.length:Int))
  ·obtain rfl:=D1 h hi
   conv=>whnf
   exact ⟨rfl,rfl⟩
  ·have hi':=F7 h
   conv=>whnf
   refine ⟨[],[],List.range 11,by kernel_rfl,?_⟩;conv=>whnf
   refine ⟨rfl,⟨by omega,by omega⟩,?_⟩;conv=>whnf
   refine ⟨rfl,⟨by omega,by omega⟩,?_⟩;conv=>whnf
   refine ⟨_,C9 (B2y _ (hs _ (B4 hi')) _),?_⟩;conv=>whnf
   refine ⟨rfl,?_⟩;conv=>whnf
   exact nx hi' ⟨by rw [C0 (by omega)],rfl⟩
theorem B2A (l:List (List Int)) (hl:Sm l.length) (hs:∀ x∈l,Sm x.length) (st:St):S P 33 [A7 1 B3 l,A7 1 B3 l] st fun v st'=>v=.bool true∧st'=st:=by
 refine A5 [] B7 mixed Tryz.func33 (by rfl) rfl rfl rfl ?_;conv=>whnf
 refine A4 (B4F l hl hs _) ?_;conv=>whnf
 exact ⟨rfl,rfl⟩
theorem A2S.price {R:E8} {C:List D7} {d:O2} (hOk:A1F R C []) (h:A2S R C d) :
  (∀ u,S P 20 [J2 R,D3 C,A7 3 E4 d.lines] u fun v s=>v=.tuple [X0 (A1J R C d.lines),eI 0]∧s=u) ∧
  (∀ u,S P 21 [J2 R,D3 C,A7 3 E4 d.lines] u fun v s=>v=.tuple [X0 (A1J R C d.lines),eI 0]∧s=u) ∧
  (A1J R C d.lines).nets.length≤1000∧(A1J R C d.lines).deals.length≤12:=by
 have hce:H0 (known R.items) d.lines=0:=by
  rcases h.lines with e | e
  ·rw [e];rfl
  ·exact e
 have hck:D6 R C d.lines=0:=by
  unfold D6
  rw [if_neg (by rw [hOk.right];simp),if_neg (by rw [hOk.codes];simp)]
  exact hce
 obtain ⟨xs,ys,hl⟩:=B1x hOk.fit hck
 have hln:=h.ok.lines
 refine ⟨fun u=>B4n hck hOk.fit hOk.promosC hOk.few hOk.items hOk.ncodes u,fun u=>?_,by show (U7 _ _ _ _).nets.length≤_;rw [hl.len];exact hln,C2f hl hOk.few⟩
 exact (C0v R C d.lines hOk.fit hOk.sm hOk.right (by have:=hOk.ncodes;show C.length≤4611686018427387904;omega) (fun s hs=>by have:=hOk.scodes s hs;show s.size≤4611686018427387904;omega) (by show d.lines.length≤4611686018427387904;omega) u).mono fun v s ⟨hv,hs⟩=>by
  rw [if_pos hck] at hv
  exact ⟨hv,hs⟩
theorem B1l {R:St→St→Prop} (hR:G7 R) (hm:∀ s t t',R s t→F2 t t'→R s t') {s t0 t:St} {bb:Nat} {db:O2} (h:R s t0) (hD:A0F bb db t0 t) :
  ∃ u,R u t∧∀ {R':St→St→Prop} {t':St},G7 R'→R' u t'→∃ t0',R' s t0'∧A0F bb db t0' t':=by
 obtain ⟨ov,hbb,y,hy,s0,hc,hs⟩:=hD
 have hsb:s bb=none:=(hR.sup h).none hbb
 have h1:R (upd s bb y) (upd t0 bb y):=hR.begin h hbb
 rcases hc with ⟨h0,rfl,rfl⟩ | ⟨h0,bo,g,hbo,rfl,rfl,hg⟩
 ·refine ⟨upd s bb y,hm _ _ _ h1 hs,fun {R' t'} hR' h'=>⟨del t' bb,hR'.forget h' hsb,.emp,A0I ..,y,hy,upd (del t' bb) bb y,.inl ⟨h0,rfl,rfl⟩,?_⟩⟩
  rw [A5H,B0u (hR'.sup h' bb _ (A0 ..))]
  exact F2.refl _
 ·have hne:bo≠bb:=fun e=>by subst e;rw [A0] at hbo;cases hbo
  have hsbo:s bo=none:=by
   have:=(hR.sup h1).none hbo
   rw [A8 hne] at this;exact this
  have h2:=hR.begin (y:=⟨29,1,db.opens.length,g⟩) h1 hbo
  refine ⟨_,hm _ _ _ h2 hs,fun {R' t'} hR' h'=>?_⟩
  have atb:=hR'.sup h' bb _ ((A8 hne.symm).trans (A0 ..))
  have ato:=hR'.sup h' bo _ (A0 ..)
  have k1:=hR'.forget h' ((A8 hne).trans hsbo)
  have k2:=hR'.forget k1 hsb
  refine ⟨_,k2,.own 1 bo 0 db.opens.length,A0I ..,y,hy,upd (upd (del (del t' bo) bb) bb y) bo ⟨29,1,db.opens.length,g⟩,.inr ⟨h0,bo,g,?_,rfl,rfl,hg⟩,?_⟩
  ·rw [A5H,A8 hne];exact A0I ..
  ·have e:upd (upd (del (del t' bo) bb) bb y) bo ⟨29,1,db.opens.length,g⟩=t':=by
    funext c
    by_cases e1:c=bo
    ·subst e1;rw [A0,ato]
    ·rw [A8 e1]
     by_cases e2:c=bb
     ·subst e2;rw [A0,atb]
     ·rw [A8 e2,Z6 e2,Z6 e1]
   rw [e];exact F2.refl _
def A2i (ba bb:Nat) (da db:O2) (s t:St):Prop:=∃ s1,A0F ba da s s1∧A0F bb db s1 t
theorem A2i.setA {ba bb:Nat} {da db:O2} {s t:St} (h:A2i ba bb da db s t) (i:Int) (x:F0) (hok:A6b da) :
  S P 29 [.optr 19 ba 0 0,eI i,E4 x] t fun v t'=>v=eI (Y2 da i x)∧A2i ba bb (A4r da i x) db s t':=by
 obtain ⟨s1,h1,h2⟩:=h
 obtain ⟨u,h3,h4⟩:=B1l (X2 ba da) (fun s t t' h hs=>h.more hs) h1 h2
 exact (A7G ba da i x hok u t h3).mono fun v t' ⟨hv,hD⟩=>⟨hv,h4 (X2 ..) hD⟩
theorem A2i.setB {ba bb:Nat} {da db:O2} {s t:St} (h:A2i ba bb da db s t) (i:Int) (x:F0) (hok:A6b db) :
  S P 29 [.optr 19 bb 0 0,eI i,E4 x] t fun v t'=>v=eI (Y2 db i x)∧A2i ba bb da (A4r db i x) s t':=by
 obtain ⟨s1,h1,h2⟩:=h
 exact (A7G bb db i x hok s1 t h2).mono fun v t' ⟨hv,hD⟩=>⟨hv,s1,h1,hD⟩
theorem A2i.a {ba bb:Nat} {da db:O2} {s t:St} (h:A2i ba bb da db s t):∃ u,A0F ba da u t:=by
 obtain ⟨s1,h1,h2⟩:=h
 obtain ⟨u,h3,h4⟩:=B1l (X2 ba da) (fun s t t' h hs=>h.more hs) h1 h2
 exact ⟨u,h3⟩
theorem A2i.b {ba bb:Nat} {da db:O2} {s t:St} (h:A2i ba bb da db s t):∃ u,A0F bb db u t:=by
 obtain ⟨s1,h1,h2⟩:=h
 exact ⟨s1,h2⟩
theorem A2i.sup {ba bb:Nat} {da db:O2} {s t:St} (h:A2i ba bb da db s t):F2 s t:=by
 obtain ⟨s1,h1,h2⟩:=h
 exact ((X2 ..).sup h1).trans ((X2 ..).sup h2)
structure A6H (R:E8) (C:List D7) (d:O2) (n:Nat):Prop where
 of:A2S R C d
 len:d.lines.length=n
 ok:A0E d.lines
theorem A6H.set {R:E8} {C:List D7} {d:O2} {n:Nat} (hk:∀ n,known R.items (A0C n)=true) (h:A6H R C d n) {i:Nat} {x:F0} {L:List F0} (hi:i≤n) (hn:n<8∨i<n) (hL:A0E L) (hx:x∈L) :
  Y2 d i x=0∧A6H R C (A4r d i x) (if i=n then n+1 else n)∧(A4r d i x).lines=H5 d.lines i x:=by
 obtain ⟨h1,h2,h3⟩:=h.of.set i x
 have hlen:=h.len
 have hsl:=A3Y d.lines i x
 have hmem:∀ y∈H5 d.lines i x,y∈d.lines∨y=x:=fun y hy=>by
  unfold H5 at hy
  split at hy
  ·rcases List.mem_append.1 hy with h | h
   ·exact .inl h
   ·exact .inr (List.mem_singleton.1 h)
  ·exact (List.mem_or_eq_of_mem_set hy)
 have hB:A0E (H5 d.lines i x):=⟨by rw [hsl];have:=h.ok.len;split<;>omega,fun y hy=>by
   rcases hmem y hy with h' | rfl
   ·exact h.ok.line y h'
   ·exact hL.line _ hx,fun y hy=>by
   rcases hmem y hy with h' | rfl
   ·exact h.ok.sku y h'
   ·exact hL.sku _ hx⟩
 have hc:H0 (known R.items) (H5 d.lines i x)=0:=hB.check hk
 have e:C0I R.items d.lines i x=(H5 d.lines i x,0):=by
  unfold C0I
  rw [if_neg (by omega),show ((i:Int)).toNat=i from rfl,if_pos hc]
 rw [e] at h2 h3
 refine ⟨h2,⟨h1,?_,by rw [h3];exact hB⟩,h3⟩
 rw [h3,hsl,hlen]
theorem A2S.eq {R:E8} {C:List D7} {a b:O2} (ha:A2S R C a) (hb:A2S R C b) (h:a.lines=b.lines):a=b:=by
 obtain ⟨r,c,l,p,s,o⟩:=a
 obtain ⟨r',c',l',p',s',o'⟩:=b
 have h1:=ha.rules;have h2:=ha.code;have h3:=ha.places;have h4:=ha.scopes;have h5:=ha.opens
 have k1:=hb.rules;have k2:=hb.code;have k3:=hb.places;have k4:=hb.scopes;have k5:=hb.opens
 simp only at h h1 h2 h3 h4 h5 k1 k2 k3 k4 k5
 subst h
 rw [h1,h2,h3,h4,h5,k1,k2,k3,k4,k5]
theorem B6p {n m:Nat} (hm:m<n) {P:Nat→Prop} (h:∀ j,j<n→P ((j+m) % n)) (k:Nat) (hk:k<n):P k:=by
 have:=h ((k+(n - m)) % n) (Nat.mod_lt _ (by omega))
 rw [Nat.mod_add_mod,show k+(n - m)+m=k+n by omega,Nat.add_mod_right,Nat.mod_eq_of_lt hk] at this
 exact this
theorem A6H.price {R:E8} {C:List D7} (hOk:A1F R C []) {d:O2} {n:Nat} (h:A6H R C d n):A1F R C d.lines :=
 ⟨hOk.right,hOk.fit,hOk.sm,hOk.codes,hOk.ncodes,hOk.scodes,h.ok,by
  unfold D6
  rw [if_neg (by rw [hOk.right];simp),if_neg (by rw [hOk.codes];simp)]
  exact h.ok.check hOk.known,hOk.few,hOk.items,hOk.known,hOk.fee⟩
set_option maxHeartbeats 8000000 in
theorem B7J (r:E8) (codes:List D7) (l other:List F0) (turn:Int) (st:St):S P 5 [J2 r,D3 codes,A7 3 E4 l,A7 3 E4 other,eI turn] st fun v st'=>v=.bool true:=by
 have hOk:=C4k r codes []
 have hord:(W5 r).policy.order.length≤100000∧(W5 r).policy.credit.length≤100000:=by
  have h1:=(R4 r.policy.order).2
  have h2:=(R4 r.policy.credit).2
  exact ⟨by show (J5 _).length≤_;omega,by show (J5 _).length≤_;omega⟩
 have hL:=A3S l
 have hO:=A3S other
 have cR:=fun s=>B4j r s
 have cC:=fun s=>B4e codes s
 have cL:=fun s=>A8l l s
 have cO:=fun s=>A8l other s
 rw [show Q9 []=[] from rfl] at hOk
 generalize W5 r=R at hOk cR hord
 generalize A0w codes=C at hOk cC
 generalize Q9 l=L at hL cL
 generalize Q9 other=O at hO cO
 have hRf:=B4y hOk.right hord.1 hord.2
 have hpC:=hOk.promosC
 have hit:=hOk.items
 have hpl:=hOk.few
 have hnc:=hOk.ncodes
 have hL8:=hL.len
 have hO8:=hO.len
 have hkn:=hOk.known
 have fw:=fun s=>C4Y r s
 generalize C3S r=FW at fw
 have hnew:=fun u=>B1k A7q R C hOk.fit (by show C.length≤9223372036854775807;omega) (by have:=Q3 R.promos C R.promos.length;omega) (fun _=>hRf) u
 have w0:A6H R C (O8 R C) 0:=⟨B9E C hpC (by omega),rfl,⟨Nat.zero_le _,fun x hx=>absurd hx List.not_mem_nil,fun x hx=>absurd hx List.not_mem_nil⟩⟩
 refine A7y [] B7 mixed Tryz.func5 (by rfl) rfl rfl rfl ?_;conv=>whnf
 intro b3 hb3;conv=>whnf
 refine E9 (A0 ..) rfl (by omega) rfl ?_;conv=>whnf
 refine A4 (fw _) ?_;conv=>whnf
 cases FW
 case' true =>
  conv=>whnf
  refine C3 (fun h2=>?_) (fun h2=>?_)<;>rw [h2]
 case' true.refine_2 =>
  conv=>whnf
  refine C3 (fun h3=>?_) (fun h3=>?_)<;>rw [h3]
 case' true.refine_2.refine_2 =>
  conv=>whnf
  refine C3 (fun h4=>?_) (fun h4=>?_)<;>rw [h4]
 case true.refine_2.refine_2.refine_2 =>
  conv=>whnf
  refine E9 (A0 ..) rfl (by omega) rfl ?_;conv=>whnf
  refine A4 (cR _) ?_;conv=>whnf
  refine A4 (cC _) ?_;conv=>whnf
  refine A4 (cL _) ?_;conv=>whnf
  refine A4 (cO _) ?_;conv=>whnf
  refine K4 (A0 ..) rfl (by omega) rfl (by rfl) ?_
  rw [B6];conv=>whnf
  generalize hst:(upd st b3 _:St)=S0
  obtain ⟨f3,at3,hf3⟩:∃ f3:Nat→AV,S0 b3=some ⟨33,14,1,f3⟩∧f3 0=J2 R:=by
   rw [←hst];exact ⟨_,A0 ..,by rw [A2];rfl⟩
  clear hst
  refine E9 at3 rfl (by omega) hf3 ?_;conv=>whnf
  refine call (hnew S0) (fun v u1 hv=>?_)
  rcases hv with ⟨h,_⟩ | ⟨_,h,_⟩ | ⟨_,_,ba,rfl,hA⟩
  ·rw [hOk.right] at h;cases h
  ·rw [hOk.codes] at h;cases h
  conv=>whnf
  refine E9 ((X2 ..).sup hA b3 _ at3) rfl (by omega) hf3 ?_;conv=>whnf
  refine call (hnew u1) (fun v u2 hv=>?_)
  rcases hv with ⟨h,_⟩ | ⟨_,h,_⟩ | ⟨_,_,bb,rfl,hB⟩
  ·rw [hOk.right] at h;cases h
  ·rw [hOk.codes] at h;cases h
  have hD:A2i ba bb (O8 R C) (O8 R C) S0 u2:=⟨u1,hA,hB⟩
  clear hA hB
  conv=>whnf
  refine A4 (B1e _) ?_;conv=>whnf
  refine lp L.length [2,3,4,11,13,15] (fun i vs w=>∃ da db,vs=[A7 3 E4 L,A7 3 E4 O,eI turn,.optr 19 ba 0 0,.optr 19 bb 0 0,eI i]∧A2i ba bb da db S0 w∧A6H R C da i∧A6H R C db i∧db.lines=L.take i) ?_ ?_
  ·conv=>whnf
   exact ⟨_,_,rfl,hD,w0,w0,rfl⟩
  clear hD w0
  rintro i vs w hi ⟨da,db,rfl,hD,ha,hb,hbl⟩
  conv=>whnf
  cases h5:decide ((i:Int)<(L.length:Int))
  case true =>
   have hi':=F7 h5
   have hLi:L.getD (i:Int).toNat default∈L:=B4 hi'
   conv=>whnf
   cases h6:decide ((i:Int)<(O.length:Int))
   case' true =>
    have hio:i<O.length:=by have:=of_decide_eq_true h6;omega
    have hOi:O.getD (i:Int).toNat default∈O:=B4 hio
    obtain ⟨e0,ha',-⟩:=ha.set hkn (Nat.le_refl i) (.inl (by omega)) hO hOi
    rw [if_pos rfl] at ha'
    have hset:=hD.setA i (O.getD (i:Int).toNat default) ha.of.ok
    rw [e0] at hset;conv=>whnf
    refine ⟨rfl,⟨by omega,by omega⟩,?_⟩;conv=>whnf
    refine call hset (fun v w1 hv=>?_)
    obtain ⟨rfl,hD1⟩:=hv
    generalize A4r da i (O.getD (i:Int).toNat default)=da' at ha' hD1
    obtain ⟨ua,hua⟩:=hD1.a
    have hnet:=(ha'.price hOk).nets.net.1
    conv=>whnf
    refine A4 (A1U ba da' _ 0 (fun u=>by rw [ha'.of.rules,ha'.of.code];exact (ha'.of.price hOk).1 u) ua w1 hua) ?_;conv=>whnf
    rw [decide_eq_false (show ¬(A1J R C da'.lines).net<0 by omega)];conv=>whnf
    rw [decide_eq_false (show ¬(i:Int)≥(O.length:Int) by omega)]
   case' false =>
    have hio:¬ i<O.length:=by have:=of_decide_eq_false h6;omega
    obtain ⟨e0,ha',-⟩:=ha.set hkn (Nat.le_refl i) (.inl (by omega)) hL hLi
    rw [if_pos rfl] at ha'
    have hset:=hD.setA i (L.getD (i:Int).toNat default) ha.of.ok
    rw [e0] at hset;conv=>whnf
    rw [decide_eq_true (show (i:Int)≥(O.length:Int) by omega)];conv=>whnf
    refine ⟨rfl,⟨by omega,by omega⟩,?_⟩;conv=>whnf
    refine call hset (fun v w1 hv=>?_)
    obtain ⟨rfl,hD1⟩:=hv
    generalize A4r da i (L.getD (i:Int).toNat default)=da' at ha' hD1
   all_goals
    obtain ⟨e1,hb',hbl'⟩:=hb.set hkn (Nat.le_refl i) (.inl (by omega)) hL hLi
    rw [if_pos rfl] at hb'
    have hset2:=hD1.setB i (L.getD (i:Int).toNat default) hb.of.ok
    rw [e1] at hset2;conv=>whnf
    refine ⟨rfl,⟨by omega,by omega⟩,?_⟩;conv=>whnf
    refine call hset2 (fun v w2 hv=>?_)
    obtain ⟨rfl,hD2⟩:=hv
    conv=>whnf
    refine ⟨rfl,?_⟩;conv=>whnf
    refine nx hi' ⟨da',_,by rw [C0 (by omega)],hD2,ha',hb',?_⟩
    rw [hbl',hbl]
    unfold H5
    rw [if_pos (by rw [List.length_take];omega),K2 hi'];rfl
  obtain rfl:=D1 h5 hi
  rw [List.take_length] at hbl;conv=>whnf
  obtain ⟨n,hn⟩:∃ n,n=L.length:=⟨_,rfl⟩
  rw [←hn] at ha hb hL8
  refine lp L.length [2,4,11,13,16] (fun i vs w=>∃ da,vs=[A7 3 E4 L,eI turn,.optr 19 ba 0 0,.optr 19 bb 0 0,eI i]∧A2i ba bb da db S0 w∧A6H R C da n∧∀ j,j<i→da.lines.getD ((j+(C1 turn n).toNat) % n) default=L.getD ((j+(C1 turn n).toNat) % n) default) ?_ ?_
  ·conv=>whnf
   exact ⟨da,rfl,hD,ha,fun j hj=>absurd hj (by omega)⟩
  clear hD ha
  rintro i vs w hi ⟨da,rfl,hD,ha,hsame⟩
  conv=>whnf
  cases h7:decide ((i:Int)<(L.length:Int))
  case true =>
   have hi':=F7 h7
   have hm:=E1 turn (n:=(n:Int)) (by omega)
   obtain ⟨k,hk⟩:∃ k,k=(i+(C1 turn n).toNat) % n:=⟨_,rfl⟩
   have hkl:k<n:=by rw [hk];exact Nat.mod_lt _ (by omega)
   have hix:Int.tmod (IntKind.i64.wrap ((i:Int)+C1 turn (L.length:Int))) (L.length:Int)=(k:Int):=by
    rw [←hn,A9 (by omega) (by omega),Int.tmod_eq_emod_of_nonneg (by omega),show ((i:Int)+C1 turn n)=((i+(C1 turn n).toNat:Nat):Int) by omega,hk];rfl
   have hLk:L.getD (k:Int).toNat default∈L:=B4 (show k<L.length by omega)
   obtain ⟨e0,ha',hal⟩:=ha.set hkn (Nat.le_of_lt hkl) (.inr hkl) hL hLk
   rw [if_neg (by omega)] at ha'
   have hset:=hD.setA k (L.getD (k:Int).toNat default) ha.of.ok
   rw [e0] at hset
   have hala:=A8o (l:=da.lines) (i:=k) (by rw [ha.len];omega) (L.getD (k:Int).toNat default)
   rw [←hal] at hala;conv=>whnf
   refine A4 (A0u turn _ (by omega) (by omega) _) ?_;conv=>whnf
   rw [decide_eq_false (show ¬(L.length:Int)=0 by omega)];conv=>whnf
   rw [hix];conv=>whnf
   refine ⟨rfl,⟨by omega,by omega⟩,?_⟩;conv=>whnf
   refine call hset (fun v w1 hv=>?_)
   obtain ⟨rfl,hD1⟩:=hv
   conv=>whnf
   refine ⟨rfl,?_⟩;conv=>whnf
   refine nx hi' ⟨_,by rw [C0 (by omega)],hD1,ha',fun j hj=>?_⟩
   rw [hala]
   by_cases e:(j+(C1 turn n).toNat) % n=k
   ·rw [if_pos e,e];rfl
   ·rw [if_neg e]
    refine hsame j ?_
    by_cases e2:j=i
    ·subst e2;exact absurd hk.symm e
    ·omega
  obtain rfl:=D1 h7 hi
  have hal:da.lines=L:=by
   refine List.ext_getElem (by rw [ha.len];exact hn) fun k h1 h2=>?_
   have hk:k<n:=by omega
   have hm:=E1 turn (n:=(n:Int)) (by omega)
   have:=B6p (n:=n) (m:=(C1 turn n).toNat) (by omega) (P:=fun k=>da.lines.getD k default=L.getD k default) (fun j hj=>hsame j (by omega)) k hk
   simpa [List.getD_eq_getElem?_getD,h1,h2] using this
  have hab:da=db:=ha.of.eq hb.of (by rw [hal,hbl])
  subst hab
  obtain ⟨ua,hua⟩:=hD.a
  obtain ⟨ub,hub⟩:=hD.b
  have hln:=ha.of.ok.lines
  have hno:=ha.of.ok.nopens
  have hop:∀ x∈da.opens,x.length≤60:=fun x hx=>by
   rw [ha.of.opens] at hx
   obtain ⟨y,_,rfl⟩:=List.mem_map.1 hx
   exact Nat.le_trans (B7Z ..) (by omega)
  obtain ⟨p1,p2,m1,m2⟩:=ha.of.price hOk
  have pr:=fun u=>show S P 20 [J2 da.r,D3 da.codes,A7 3 E4 da.lines] u fun v u'=>v=.tuple [X0 (A1J R C da.lines),eI 0]∧u'=u by rw [ha.of.rules,ha.of.code];exact p1 u
  conv=>whnf
  refine A4 (A4G ba da hln ua w hua) ?_;conv=>whnf
  refine A4 (A4G bb da hln ub w hub) ?_;conv=>whnf
  refine A4 (B2z da.lines (by show da.lines.length≤4611686018427387904;omega) _) ?_;conv=>whnf
  refine A4 (A1U ba da _ 0 pr ua w hua) ?_;conv=>whnf
  refine A4 (A1U bb da _ 0 pr ub w hub) ?_;conv=>whnf
  refine A4 (B2O (A1J R C da.lines) (by show _≤4611686018427387904;omega) (by show _≤4611686018427387904;omega) _) ?_;conv=>whnf
  refine A4 (A9p ba da (by omega) (fun x hx=>by have:=hop x hx;omega) ua w hua) ?_;conv=>whnf
  refine A4 (A9p bb da (by omega) (fun x hx=>by have:=hop x hx;omega) ub w hub) ?_;conv=>whnf
  refine A4 (B2A da.opens (by show da.opens.length≤4611686018427387904;omega) (fun x hx=>by have:=hop x hx;show x.length≤4611686018427387904;omega) _) ?_;conv=>whnf
  rfl
 all_goals
  conv=>whnf
  refine A4 (B1e _) ?_;conv=>whnf
  exact rfl
end Go.Proofs.YthdimklenlikgaaGreat
namespace Go.Ab
open Go Go.ChangeShapes
inductive LK where
 | bool
 | int (k:IntKind)
 | str
 | sl (ks:List LK)
def B1b (l:List AV):AV:=match l with | [v]=>v | l=>.agg l
inductive Fit:LK→AV→Prop
 | bool (b:Bool):Fit .bool (.bool b)
 | int (k:IntKind) (n:Int) (h:(Lit.int k n).wf=true):Fit (.int k) (.int k n)
 | str (s:ByteArray) (h:s.size≤maxLen):Fit .str (.str s)
 | sl (ks:List LK) (n:Nat) (L:Nat→List AV) (hn:n≤maxLen) (hl:∀ i,i<n→(L i).length=ks.length) (hf:∀ (i j:Nat) (y:AV) (k:LK),i<n→(L i)[j]?=some y→ks[j]?=some k→Fit k y):Fit (.sl ks) (.arr ks.length n fun i=>B1b (L i))
theorem Fit.one {k:LK} {v:AV} (h:Fit k v):v.one=true:=by cases h<;>rfl
theorem B7E {v:AV} (h:v.one=true):cellsOf v=[v]:=by cases v<;>first | rfl | cases h
theorem B1g {l:List AV} (h:∀ v∈l,v.one=true):cellsOf (B1b l)=l:=by
 unfold B1b
 split
 ·exact B7E (h _ (List.mem_singleton.2 rfl))
 ·rfl
theorem B9f (a:Addr) (n m:Nat):a.add (n+m)=(a.add n).add m:=by
 unfold Addr.add
 by_cases h:n=0
 ·subst h;simp
 ·by_cases k:m=0
  ·subst k;simp [h]
  ·simp [h,k,Nat.add_assoc]
def A8M (P:Program) (r:TypeId→Option (List LK)):List Field→Nat→Option (List LK)
 | [],_=>some []
 | f::fs,o=>match Nat.beq f.offset o,r f.type with
  | true,some ks=>(match Nat.beq (P.cellsOf f.type) ks.length,A8M P r fs (o+ks.length) with
   | true,some l=>some (ks++l)
   | _,_=>none)
  | _,_=>none
def A5w (P:Program):Nat→TypeId→Option (List LK)
 | 0,_=>none
 | n+1,t=>match P.underlying t with
  | some .bool=>some [.bool]
  | some (.int k)=>some [.int k]
  | some .string=>some [.str]
  | some (.slice e)=>(match A5w P n e with
   | some ks=>(match Nat.beq (P.cellsOf e) ks.length with | true=>some [.sl ks] | false=>none)
   | none=>none)
  | some (.struct fs)=>(match A8M P (A5w P n) fs.toList 0 with
   | some ks=>(match Nat.beq (P.cellsOf t) ks.length with | true=>some ks | false=>none)
   | none=>none)
  | _=>none
structure FitL (w:World) (ks:List LK) (l:List AV) (cs:List Value):Prop where
 len:l.length=ks.length
 clen:cs.length=ks.length
 fit:∀ (j:Nat) (y:AV) (k:LK),l[j]?=some y→ks[j]?=some k→Fit k y
 rep:∀ (j:Nat) (y:AV) (c:Value),l[j]?=some y→cs[j]?=some c→J0 w st0 y c
theorem FitL.one {w:World} {ks:List LK} {l:List AV} {cs:List Value} (h:FitL w ks l cs):∀ v∈l,v.one=true:=fun v hv=>by
 obtain ⟨j,hj,rfl⟩:=List.getElem_of_mem hv
 exact (h.fit j _ (ks[j]'(by rw [←h.len];exact hj)) (List.getElem?_eq_getElem hj) (List.getElem?_eq_getElem (by rw [←h.len];exact hj))).one
theorem FitL.nil (w:World):FitL w [] [] []:=⟨rfl,rfl,fun j y k h=>by simp at h,fun j y c h=>by simp at h⟩
theorem FitL.app {w:World} {ks ks':List LK} {l l':List AV} {cs cs':List Value} (h:FitL w ks l cs) (h':FitL w ks' l' cs'):FitL w (ks++ks') (l++l') (cs++cs'):=by
 have h1:=h.len;have h2:=h.clen;have h3:=h'.len;have h4:=h'.clen
 refine ⟨by simp [h1,h3],by simp [h2,h4],fun j y k hy hk=>?_,fun j y c hy hc=>?_⟩
 ·by_cases hj:j<l.length
  ·rw [List.getElem?_append_left hj] at hy;rw [List.getElem?_append_left (by omega)] at hk;exact h.fit j y k hy hk
  ·rw [List.getElem?_append_right (by omega)] at hy;rw [List.getElem?_append_right (by omega)] at hk
   rw [show j - l.length=j - ks.length by omega] at hy;exact h'.fit _ y k hy hk
 ·by_cases hj:j<l.length
  ·rw [List.getElem?_append_left hj] at hy;rw [List.getElem?_append_left (by omega)] at hc;exact h.rep j y c hy hc
  ·rw [List.getElem?_append_right (by omega)] at hy;rw [List.getElem?_append_right (by omega)] at hc
   rw [show j - l.length=j - cs.length by omega] at hy;exact h'.rep _ y c hy hc
theorem FitL.single {w:World} {k:LK} {v:AV} {c:Value} (h:Fit k v) (hr:J0 w st0 v c):FitL w [k] [v] [c] :=
 ⟨rfl,rfl,fun j y k' hy hk=>by cases j<;>simp at hy hk;subst hy;subst hk;exact h,fun j y c' hy hc=>by cases j<;>simp at hy hc;subst hy;subst hc;exact hr⟩
section
variable {H:Type} {enc:TypeId×Value→H} {P:Program} {w:World} {base:Nat} {spare:Nat→Bool} {held:Bool}
theorem A8j {n m:Nat} (ih:∀ (t:TypeId) (ks:List LK) (cs:List Value) (x:DataW H×List MemPlace),A5w P n t=some ks→DataW.trod enc P w base spare held m t cs=some x→∃ l,FitL w ks l cs) {cs:List Value} :
  ∀ (fs:List Field) (o:Nat) (ks:List LK),A8M P (A5w P n) fs o=some ks→(∀ f∈fs,∃ x,DataW.trod enc P w base spare held m f.type ((cs.drop f.offset).take (P.cellsOf f.type))=some x)→∃ l,FitL w ks l ((cs.drop o).take ks.length)
 | [],o,ks,h,_=>by cases h;exact ⟨[],by simpa using FitL.nil w⟩
 | f::fs,o,ks,h,hx=>by
  unfold A8M at h
  split at h
  ·rename_i k1 ho hk1
   split at h
   ·rename_i k2 hc hk2
    cases h
    have ho:=Nat.eq_of_beq_eq_true ho
    have hc:=Nat.eq_of_beq_eq_true hc
    obtain ⟨x,h1⟩:=hx f (List.mem_cons_self ..)
    rw [ho,hc] at h1
    obtain ⟨l1,g1⟩:=ih f.type k1 _ x hk1 h1
    obtain ⟨l2,g2⟩:=A8j ih fs (o+k1.length) k2 hk2 fun f' hf=>hx f' (List.mem_cons_of_mem _ hf)
    refine ⟨l1++l2,?_⟩
    have e:(cs.drop o).take (k1++k2).length=(cs.drop o).take k1.length++(cs.drop (o+k1.length)).take k2.length:=by
     rw [List.length_append,List.take_add,List.drop_drop]
    rw [e];exact g1.app g2
   ·cases h
  ·cases h
theorem open_kinds:∀ (n m:Nat) (t:TypeId) (ks:List LK) (cs:List Value) (x:DataW H×List MemPlace),A5w P n t=some ks→DataW.trod enc P w base spare held m t cs=some x→∃ l,FitL w ks l cs
 | 0,m,t,ks,cs,x,h,_=>by cases h
 | n+1,m,t,ks,cs,x,h,hx=>by
  unfold A5w at h
  split at h
  ·rename_i ht;cases h;obtain ⟨b,rfl,_⟩:=DataW.trod_bool ht hx;exact ⟨[.bool b],.single (.bool b) (.bool b)⟩
  ·rename_i k ht;cases h;obtain ⟨i,rfl,_,hw⟩:=DataW.trod_int ht hx;exact ⟨[.int k i],.single (.int k i hw) (.int k i)⟩
  ·rename_i ht;cases h;obtain ⟨s,rfl,_,hs⟩:=DataW.trod_string ht hx;exact ⟨[.str s],.single (.str s hs) (.str s)⟩
  ·rename_i e ht
   split at h
   case h_2=>cases h
   rename_i ks' hk
   split at h
   case h_2=>cases h
   rename_i hb
   cases h
   have hb:=Nat.eq_of_beq_eq_true hb
   rcases DataW.trod_slice ht hx with ⟨rfl,_⟩ | ⟨a,len,cap,elems,rest,m',rfl,rfl,_,hba,hl,hm,hlen,hel,_,_⟩
   ·exact ⟨[.arr ks'.length 0 (fun _=>B1b [])],.single (.sl ks' 0 (fun _=>[]) (Nat.zero_le _) (fun i hi=>absurd hi (by omega)) (fun i j y k hi=>absurd hi (by omega))) (.arr _ 0 _ none 0 (fun _ _=>undef) (Nat.le_refl _) (fun h=>absurd h (by omega)) (fun i hi=>absurd hi (by omega)) (fun i hi=>absurd hi (by omega)) (fun a ha=>by cases ha) (fun i j y hi=>absurd hi (by omega)))⟩
   ·have hall:∀ i,∃ p:List AV×List Value,i<len→w.cells? base (a.add (i * P.cellsOf e)) (P.cellsOf e)=some p.2∧FitL w ks' p.1 p.2:=fun i=>by
     by_cases hi:i<len
     ·have h1:=hel i hi
      rw [List.getElem?_eq_getElem (by omega),Option.bind_eq_some_iff] at h1
      obtain ⟨c1,h2,h3⟩:=h1
      obtain ⟨l,h4⟩:=open_kinds n m' e ks' c1 _ hk h3
      exact ⟨(l,c1),fun _=>⟨h2,h4⟩⟩
     ·exact ⟨([],[]),fun h=>absurd h hi⟩
    obtain ⟨p,hp⟩:=Classical.axiomOfChoice hall
    refine ⟨[.arr ks'.length len (fun i=>B1b (p i).1)],.single (.sl ks' len (fun i=>(p i).1) (by omega) (fun i hi=>(hp i hi).2.len) (fun i j y k hi=>(hp i hi).2.fit j y k)) ?_⟩
    have hc:∀ i,i<len→cellsOf (B1b (p i).1)=(p i).1:=fun i hi=>B1g (hp i hi).2.one
    refine .arr _ len _ (some a) cap (fun i j=>(p i).2.getD j undef) hl (fun _=>⟨a,rfl⟩) (fun i hi=>by rw [hc i hi];exact (hp i hi).2.len) (fun i hi=>by rw [hc i hi];exact List.all_eq_true.2 (hp i hi).2.one) (fun b hb' i j hi hj=>?_) (fun i j y hi hy=>?_)
    ·cases hb'
     have h5:=(World.cells?_some (hp i hi).1)
     have h6:=h5.2.2 j (by omega)
     have hj2:j<(p i).2.length:=by rw [(hp i hi).2.clen];exact hj
     show w.cell? _=_
     rw [List.getD_eq_getElem?_getD,List.getElem?_eq_getElem hj2,Option.getD_some]
     rw [List.getElem?_eq_getElem hj2] at h6
     rw [←h6,hb];show w.cell? _=w.cell? _;rw [B9f]
    ·rw [hc i hi] at hy
     have hj:j<(p i).1.length:=(List.getElem?_eq_some_iff.1 hy).1
     have hj2:j<(p i).2.length:=by rw [(hp i hi).2.clen,←(hp i hi).2.len];exact hj
     rw [List.getD_eq_getElem?_getD,List.getElem?_eq_getElem hj2,Option.getD_some]
     exact (hp i hi).2.rep j y _ hy (List.getElem?_eq_getElem hj2)
  ·rename_i fs ht
   split at h
   case h_2=>cases h
   rename_i ks' hk
   split at h
   case h_2=>cases h
   rename_i hb
   cases h
   have hb:=Nat.eq_of_beq_eq_true hb
   obtain ⟨xs,m',rfl,_,hlen,hxl,hf⟩:=DataW.trod_struct ht hx
   obtain ⟨l,hl⟩:=A8j (fun t ks cs x=>open_kinds n m' t ks cs x) (cs:=cs) fs.toList 0 ks hk fun f hfm=>by
    obtain ⟨i,hi,rfl⟩:=List.getElem_of_mem hfm
    have:=hf i fs[i] (by simp at hi;simp [hi])
    rw [List.getElem?_eq_getElem (by simp at hi;omega)] at this
    exact ⟨_,by simpa using this⟩
   refine ⟨l,?_⟩
   rw [List.drop_zero,List.take_of_length_le (by omega)] at hl
   exact hl
  ·cases h
end
end Go.Ab
namespace Go.Ab
open Go
abbrev A4t (ks:List LK) (L:List AV):Prop:=L.length=ks.length∧∀ (j:Nat) (y:AV) (k:LK),L[j]?=some y→ks[j]?=some k→Fit k y
abbrev A8y {α : Type} (ks:List LK) (enc : α→AV) (Q : α→Prop):Prop:=∀ L:List AV,A4t ks L→∃ x,F5 L (cellsOf (enc x))∧(cellsOf (enc x)).all AV.one=true∧Q x
theorem Fit.inv_str {y:AV} (h:Fit .str y):∃ s:D7,y=eS s∧s.size≤maxLen:=by cases h with | str s hs=>exact ⟨s,rfl,hs⟩
theorem Fit.inv_int {y:AV} (h:Fit (.int .i64) y):∃ n:Int,y=eI n∧(Lit.int .i64 n).wf=true:=by cases h with | int k n hn=>exact ⟨n,rfl,hn⟩
theorem Fit.inv_bool {y:AV} (h:Fit .bool y):∃ b:Bool,y=eB b:=by cases h with | bool b=>exact ⟨b,rfl⟩
theorem Fit.inv_sl {α : Type} [Inhabited α] {ks:List LK} {y:AV} {enc : α→AV} {Q : α→Prop} (hd:A8y ks enc Q) (h:Fit (.sl ks) y) :
  ∃ l:List α,Le y (A7 ks.length enc l)∧l.length≤maxLen∧∀ x∈l,Q x:=by
 cases h with
 | sl ks n L hn hl hf =>
  have h1:∀ i,∃ x,i<n→F5 (L i) (cellsOf (enc x))∧(cellsOf (enc x)).all AV.one=true∧Q x:=fun i=>by
   by_cases hi:i<n
   ·obtain ⟨x,hx⟩:=hd (L i) ⟨hl i hi,fun j y k=>hf i j y k hi⟩
    exact ⟨x,fun _=>hx⟩
   ·exact ⟨default,fun h=>absurd h hi⟩
  obtain ⟨g,hg⟩:=Classical.axiomOfChoice h1
  have hlen:((List.range n).map g).length=n:=by rw [List.length_map,List.length_range]
  refine ⟨(List.range n).map g,?_,by rw [hlen];exact hn,fun x hx=>?_⟩
  ·unfold A7
   rw [hlen]
   refine Le.arr fun i hi=>?_
   have e:((List.range n).map g).getD i default=g i:=by
    rw [List.getD_eq_getElem?_getD,List.getElem?_map,List.getElem?_range hi];rfl
   have one:∀ v∈L i,v.one=true:=fun v hv=>by
    obtain ⟨j,hj,rfl⟩:=List.getElem_of_mem hv
    exact (hf i j _ (ks[j]'(by rw [←hl i hi];exact hj)) hi (List.getElem?_eq_getElem hj) (List.getElem?_eq_getElem (by rw [←hl i hi];exact hj))).one
   rw [e,B1g one]
   exact ⟨(hg i hi).1,(hg i hi).2.1⟩
  ·obtain ⟨i,hi,rfl⟩:=List.mem_map.1 hx
   exact (hg i (List.mem_range.1 hi)).2.2
theorem FitL.slice {α : Type} [Inhabited α] {w:World} {ks:List LK} {l:List AV} {c:Value} {enc : α→AV} {Q : α→Prop} (hd:A8y ks enc Q) (h:FitL w [.sl ks] l [c]) :
  ∃ x:List α,J0 w st0 (A7 ks.length enc x) c∧x.length≤maxLen∧∀ y∈x,Q y:=by
 obtain ⟨y,rfl⟩:=List.length_eq_one_iff.1 h.len
 obtain ⟨x,h1,h2,h3⟩:=(h.fit 0 y (.sl ks) rfl rfl).inv_sl hd
 exact ⟨x,h1 _ _ _ (h.rep 0 y c rfl rfl),h2,h3⟩
theorem C8m {k0 k1 k2:LK} {L:List AV} (h:A4t [k0,k1,k2] L):∃ a b c,L=[a,b,c]∧Fit k0 a∧Fit k1 b∧Fit k2 c:=by
 obtain ⟨h1,h2⟩:=h
 match L,h1 with
 | [a,b,c],_=>exact ⟨a,b,c,rfl,h2 0 _ _ rfl rfl,h2 1 _ _ rfl rfl,h2 2 _ _ rfl rfl⟩
abbrev kLine:List LK:=[.str,.int .i64,.int .i64]
theorem decLine:A8y kLine E4 fun _=>True:=fun L h=>by
 obtain ⟨a,b,c,rfl,ha,hb,hc⟩:=C8m h
 obtain ⟨a,rfl,_⟩:=ha.inv_str
 obtain ⟨b,rfl,_⟩:=hb.inv_int
 obtain ⟨c,rfl,_⟩:=hc.inv_int
 exact ⟨⟨a,b,c⟩,F5.refl _,rfl,trivial⟩
theorem C3g {k0:LK} {L:List AV} (h:A4t [k0] L):∃ x0,L=[x0]∧Fit k0 x0:=by
 obtain ⟨h1,h2⟩:=h
 match L,h1 with
 | [x0],_=>exact ⟨x0,rfl,h2 0 _ _ rfl rfl⟩
theorem C4Z {k0 k1:LK} {L:List AV} (h:A4t [k0,k1] L):∃ x0 x1,L=[x0,x1]∧Fit k0 x0∧Fit k1 x1:=by
 obtain ⟨h1,h2⟩:=h
 match L,h1 with
 | [x0,x1],_=>exact ⟨x0,x1,rfl,h2 0 _ _ rfl rfl,h2 1 _ _ rfl rfl⟩
theorem C3h {k0 k1 k2:LK} {L:List AV} (h:A4t [k0,k1,k2] L):∃ x0 x1 x2,L=[x0,x1,x2]∧Fit k0 x0∧Fit k1 x1∧Fit k2 x2:=by
 obtain ⟨h1,h2⟩:=h
 match L,h1 with
 | [x0,x1,x2],_=>exact ⟨x0,x1,x2,rfl,h2 0 _ _ rfl rfl,h2 1 _ _ rfl rfl,h2 2 _ _ rfl rfl⟩
theorem C3i {k0 k1 k2 k3:LK} {L:List AV} (h:A4t [k0,k1,k2,k3] L):∃ x0 x1 x2 x3,L=[x0,x1,x2,x3]∧Fit k0 x0∧Fit k1 x1∧Fit k2 x2∧Fit k3 x3:=by
 obtain ⟨h1,h2⟩:=h
 match L,h1 with
 | [x0,x1,x2,x3],_=>exact ⟨x0,x1,x2,x3,rfl,h2 0 _ _ rfl rfl,h2 1 _ _ rfl rfl,h2 2 _ _ rfl rfl,h2 3 _ _ rfl rfl⟩
theorem C3T {k0 k1 k2 k3 k4 k5 k6 k7 k8 k9 k10 k11 k12 k13:LK} {L:List AV} (h:A4t [k0,k1,k2,k3,k4,k5,k6,k7,k8,k9,k10,k11,k12,k13] L):∃ x0 x1 x2 x3 x4 x5 x6 x7 x8 x9 x10 x11 x12 x13,L=[x0,x1,x2,x3,x4,x5,x6,x7,x8,x9,x10,x11,x12,x13]∧Fit k0 x0∧Fit k1 x1∧Fit k2 x2∧Fit k3 x3∧Fit k4 x4∧Fit k5 x5∧Fit k6 x6∧Fit k7 x7∧Fit k8 x8∧Fit k9 x9∧Fit k10 x10∧Fit k11 x11∧Fit k12 x12∧Fit k13 x13:=by
 obtain ⟨h1,h2⟩:=h
 match L,h1 with
 | [x0,x1,x2,x3,x4,x5,x6,x7,x8,x9,x10,x11,x12,x13],_=>exact ⟨x0,x1,x2,x3,x4,x5,x6,x7,x8,x9,x10,x11,x12,x13,rfl,h2 0 _ _ rfl rfl,h2 1 _ _ rfl rfl,h2 2 _ _ rfl rfl,h2 3 _ _ rfl rfl,h2 4 _ _ rfl rfl,h2 5 _ _ rfl rfl,h2 6 _ _ rfl rfl,h2 7 _ _ rfl rfl,h2 8 _ _ rfl rfl,h2 9 _ _ rfl rfl,h2 10 _ _ rfl rfl,h2 11 _ _ rfl rfl,h2 12 _ _ rfl rfl,h2 13 _ _ rfl rfl⟩
theorem C3U {k0 k1 k2 k3 k4 k5 k6 k7 k8 k9 k10 k11 k12 k13 k14:LK} {L:List AV} (h:A4t [k0,k1,k2,k3,k4,k5,k6,k7,k8,k9,k10,k11,k12,k13,k14] L):∃ x0 x1 x2 x3 x4 x5 x6 x7 x8 x9 x10 x11 x12 x13 x14,L=[x0,x1,x2,x3,x4,x5,x6,x7,x8,x9,x10,x11,x12,x13,x14]∧Fit k0 x0∧Fit k1 x1∧Fit k2 x2∧Fit k3 x3∧Fit k4 x4∧Fit k5 x5∧Fit k6 x6∧Fit k7 x7∧Fit k8 x8∧Fit k9 x9∧Fit k10 x10∧Fit k11 x11∧Fit k12 x12∧Fit k13 x13∧Fit k14 x14:=by
 obtain ⟨h1,h2⟩:=h
 match L,h1 with
 | [x0,x1,x2,x3,x4,x5,x6,x7,x8,x9,x10,x11,x12,x13,x14],_=>exact ⟨x0,x1,x2,x3,x4,x5,x6,x7,x8,x9,x10,x11,x12,x13,x14,rfl,h2 0 _ _ rfl rfl,h2 1 _ _ rfl rfl,h2 2 _ _ rfl rfl,h2 3 _ _ rfl rfl,h2 4 _ _ rfl rfl,h2 5 _ _ rfl rfl,h2 6 _ _ rfl rfl,h2 7 _ _ rfl rfl,h2 8 _ _ rfl rfl,h2 9 _ _ rfl rfl,h2 10 _ _ rfl rfl,h2 11 _ _ rfl rfl,h2 12 _ _ rfl rfl,h2 13 _ _ rfl rfl,h2 14 _ _ rfl rfl⟩
abbrev QT {α : Type} (_ : α):Prop:=True
abbrev kStr:List LK:=[.str]
theorem decStr:A8y kStr eS QT:=fun L h=>by
 obtain ⟨a,rfl,ha⟩:=C3g h
 obtain ⟨a,rfl,_⟩:=ha.inv_str
 exact ⟨a,F5.refl _,rfl,trivial⟩
abbrev C3W:List LK:=[.int .i64]
theorem B9B:A8y C3W eI QT:=fun L h=>by
 obtain ⟨a,rfl,ha⟩:=C3g h
 obtain ⟨a,rfl,_⟩:=ha.inv_int
 exact ⟨a,F5.refl _,rfl,trivial⟩
abbrev C3m:List LK:=[.int .i64,.int .i64,.int .i64]
theorem C1L:A8y C3m L4 QT:=fun L h=>by
 obtain ⟨a0,a1,a2,rfl,h0,h1,h2⟩:=C3h h
 obtain ⟨a0,rfl,_⟩:=h0.inv_int
 obtain ⟨a1,rfl,_⟩:=h1.inv_int
 obtain ⟨a2,rfl,_⟩:=h2.inv_int
 exact ⟨⟨a0,a1,a2⟩,F5.cons (Le.refl _) (F5.cons (Le.refl _) (F5.cons (Le.refl _) (F5.nil))),rfl,trivial⟩
abbrev C3l:List LK:=[.sl kStr,.sl kStr,.int .i64]
theorem C1K:A8y C3l O9 QT:=fun L h=>by
 obtain ⟨a0,a1,a2,rfl,h0,h1,h2⟩:=C3h h
 obtain ⟨b0,e0,_,_⟩:=h0.inv_sl decStr
 obtain ⟨b1,e1,_,_⟩:=h1.inv_sl decStr
 obtain ⟨a2,rfl,_⟩:=h2.inv_int
 exact ⟨⟨⟨b0,b1⟩,a2⟩,F5.cons (e0) (F5.cons (e1) (F5.cons (Le.refl _) (F5.nil))),rfl,trivial⟩
abbrev C3k:List LK:=[.str,.str,.int .i64,.bool]
theorem C1J:A8y C3k E3 QT:=fun L h=>by
 obtain ⟨a0,a1,a2,a3,rfl,h0,h1,h2,h3⟩:=C3i h
 obtain ⟨a0,rfl,_⟩:=h0.inv_str
 obtain ⟨a1,rfl,_⟩:=h1.inv_str
 obtain ⟨a2,rfl,_⟩:=h2.inv_int
 obtain ⟨a3,rfl⟩:=h3.inv_bool
 exact ⟨⟨a0,a1,a2,a3⟩,F5.cons (Le.refl _) (F5.cons (Le.refl _) (F5.cons (Le.refl _) (F5.cons (Le.refl _) (F5.nil)))),rfl,trivial⟩
abbrev B3Q:List LK:=[.str,.int .i64]
theorem B5p:A8y B3Q A0J QT:=fun L h=>by
 obtain ⟨a0,a1,rfl,h0,h1⟩:=C4Z h
 obtain ⟨a0,rfl,_⟩:=h0.inv_str
 obtain ⟨a1,rfl,_⟩:=h1.inv_int
 exact ⟨⟨a0,a1⟩,F5.cons (Le.refl _) (F5.cons (Le.refl _) (F5.nil)),rfl,trivial⟩
abbrev C3n:List LK:=[.str,.sl B3Q,.int .i64,.int .i64]
theorem C1M:A8y C3n S8 QT:=fun L h=>by
 obtain ⟨a0,a1,a2,a3,rfl,h0,h1,h2,h3⟩:=C3i h
 obtain ⟨a0,rfl,_⟩:=h0.inv_str
 obtain ⟨b1,e1,_,_⟩:=h1.inv_sl B5p
 obtain ⟨a2,rfl,_⟩:=h2.inv_int
 obtain ⟨a3,rfl,_⟩:=h3.inv_int
 exact ⟨⟨a0,b1,a2,a3⟩,F5.cons (Le.refl _) (F5.cons (e1) (F5.cons (Le.refl _) (F5.cons (Le.refl _) (F5.nil)))),rfl,trivial⟩
abbrev B9R:List LK:=[.str,.int .i64,.int .i64,.str,.str,.bool,.sl kStr,.sl kStr,.int .i64,.int .i64,.int .i64,.int .i64,.int .i64,.sl C3l,.sl C3m]
theorem B9C:A8y B9R B8 QT:=fun L h=>by
 obtain ⟨a0,a1,a2,a3,a4,a5,a6,a7,a8,a9,a10,a11,a12,a13,a14,rfl,h0,h1,h2,h3,h4,h5,h6,h7,h8,h9,h10,h11,h12,h13,h14⟩:=C3U h
 obtain ⟨a0,rfl,_⟩:=h0.inv_str
 obtain ⟨a1,rfl,_⟩:=h1.inv_int
 obtain ⟨a2,rfl,_⟩:=h2.inv_int
 obtain ⟨a3,rfl,_⟩:=h3.inv_str
 obtain ⟨a4,rfl,_⟩:=h4.inv_str
 obtain ⟨a5,rfl⟩:=h5.inv_bool
 obtain ⟨b6,e6,_,_⟩:=h6.inv_sl decStr
 obtain ⟨b7,e7,_,_⟩:=h7.inv_sl decStr
 obtain ⟨a8,rfl,_⟩:=h8.inv_int
 obtain ⟨a9,rfl,_⟩:=h9.inv_int
 obtain ⟨a10,rfl,_⟩:=h10.inv_int
 obtain ⟨a11,rfl,_⟩:=h11.inv_int
 obtain ⟨a12,rfl,_⟩:=h12.inv_int
 obtain ⟨b13,e13,_,_⟩:=h13.inv_sl C1K
 obtain ⟨b14,e14,_,_⟩:=h14.inv_sl C1L
 exact ⟨⟨a0,a1,a2,a3,a4,a5,⟨b6,b7⟩,a8,a9,a10,a11,a12,b13,b14⟩,F5.cons (Le.refl _) (F5.cons (Le.refl _) (F5.cons (Le.refl _) (F5.cons (Le.refl _) (F5.cons (Le.refl _) (F5.cons (Le.refl _) (F5.cons (e6) (F5.cons (e7) (F5.cons (Le.refl _) (F5.cons (Le.refl _) (F5.cons (Le.refl _) (F5.cons (Le.refl _) (F5.cons (Le.refl _) (F5.cons (e13) (F5.cons (e14) (F5.nil))))))))))))))),rfl,trivial⟩
abbrev kRules:List LK:=[.sl C3k,.sl B9R,.bool,.bool,.int .i64,.sl C3n,.int .i64,.int .i64,.int .i64,.int .i64,.int .i64,.int .i64,.sl C3W,.sl C3W]
theorem B9D:A8y kRules J2 QT:=fun L h=>by
 obtain ⟨a0,a1,a2,a3,a4,a5,a6,a7,a8,a9,a10,a11,a12,a13,rfl,h0,h1,h2,h3,h4,h5,h6,h7,h8,h9,h10,h11,h12,h13⟩:=C3T h
 obtain ⟨b0,e0,_,_⟩:=h0.inv_sl C1J
 obtain ⟨b1,e1,_,_⟩:=h1.inv_sl B9C
 obtain ⟨a2,rfl⟩:=h2.inv_bool
 obtain ⟨a3,rfl⟩:=h3.inv_bool
 obtain ⟨a4,rfl,_⟩:=h4.inv_int
 obtain ⟨b5,e5,_,_⟩:=h5.inv_sl C1M
 obtain ⟨a6,rfl,_⟩:=h6.inv_int
 obtain ⟨a7,rfl,_⟩:=h7.inv_int
 obtain ⟨a8,rfl,_⟩:=h8.inv_int
 obtain ⟨a9,rfl,_⟩:=h9.inv_int
 obtain ⟨a10,rfl,_⟩:=h10.inv_int
 obtain ⟨a11,rfl,_⟩:=h11.inv_int
 obtain ⟨b12,e12,_,_⟩:=h12.inv_sl B9B
 obtain ⟨b13,e13,_,_⟩:=h13.inv_sl B9B
 exact ⟨⟨b0,b1,⟨a2,a3,a4,b5⟩,⟨a6,a7⟩,⟨a8,a9,a10,a11,b12,b13⟩⟩,F5.cons (e0) (F5.cons (e1) (F5.cons (Le.refl _) (F5.cons (Le.refl _) (F5.cons (Le.refl _) (F5.cons (e5) (F5.cons (Le.refl _) (F5.cons (Le.refl _) (F5.cons (Le.refl _) (F5.cons (Le.refl _) (F5.cons (Le.refl _) (F5.cons (Le.refl _) (F5.cons (e12) (F5.cons (e13) (F5.nil)))))))))))))),rfl,trivial⟩
theorem FitL.rules {w:World} {l:List AV} {cs:List Value} (h:FitL w kRules l cs):∃ r:E8,J0 w st0 (J2 r) (.agg cs.toArray):=by
 obtain ⟨r,h1,_,_⟩:=B9D l ⟨h.len,h.fit⟩
 refine ⟨r,?_⟩
 have h0:J0 w st0 (.agg l) (.agg cs.toArray):=.agg _ _ (by rw [h.len,←h.clen];simp) fun j y c hy hc=>h.rep j y c hy (by simpa using hc)
 exact (Le.agg h1) _ _ _ h0
end Go.Ab
namespace Go.Ab
open Go
theorem an {a b:Bool} (h:a=true) (k:b=true):(a&&b)=true:=by rw [h,k];rfl
def kindsFit (P:Program) (fn:Func) (c:OpenClaim):Bool:=(c.kinds==(if c.domain.isEmpty then [] else fn.params.toList.map fun t=>match P.underlying t with | some (.int k)=>some k | _=>none))
theorem joined_of {P:Program} {f:FuncId} {fn:Func} {s:ChangeSpec} {c:OpenClaim} (h1:(c.wf (OpenSpec.ofChange s))=true) (h2:(laidOutB P)=true) (h3:(mapsRowed P)=true) (h4:(fn.params.all (P.readableRec ·))=true) (h5:(namedTie P c.named s.vars)=true) (h6:(c.stops==[])=true) (h7:(P.stops==[])=true) (h8:(c.knobs==[])=true) (h9:(P.stopKnobs==[])=true) (h10:(c.inPlace==P.inPlace f)=true) (h11:(c.unfollowed==P.unfollowed f)=true) (h12:(c.recurses==P.recurses f)=true) (h13:(c.named==P.varsNamed f)=true) (h14:(c.maps==(fn.params.toList++s.plain.varTypes P).any (P.mapsRec ·))=true) (h15:(c.ifaces==(fn.params.toList++s.plain.varTypes P).any (P.ifacesRec ·))=true) (h16:(c.mapsOut==P.mapsAmong fn.resultTypes.toList)=true) (h17:(c.loops==(fn.params.toList++s.plain.varTypes P).any (P.loopsFrom ·))=true) (h18:(c.wideKeys==(fn.params.toList++s.plain.varTypes P++fn.resultTypes.toList).any (P.wideKeysFrom ·))=true) (h19:(s.vars.all (P.varReadable ·))=true) (h20:(fn.resultTypes.all (fun t=>P.readableRec t&&decide (t<P.types.size)))=true) (h21:(c.ifacesOut==fn.resultTypes.toList.any (P.ifacesRec ·))=true) (h22:(c.loopsOut==fn.resultTypes.toList.any (P.loopsFrom ·))=true) (h23:(c.plainKeys==P.plainKeys)=true) (h24:c.shortTexts.isNone=true) (h25:P.stopsHeard=true) (h26:P.mayEnter=true) (h27:(c.lifted==P.liftsFinal)=true) (h28:(P.make==some c.make)=true) (h29:kindsFit P fn c=true) (h30:(c.pinned==c.pinnedBy)=true) (h31:(c.veiled==(fn.params.toList++s.plain.varTypes P++fn.resultTypes.toList).any (P.veiledRec ·))=true) (h32:(c.veiledFits P fn.params.toList (fn.params.toList++s.plain.varTypes P++fn.resultTypes.toList))=true):joinedFacts P f fn s c=true:=an (an (an (an (an (an (an (an (an (an (an (an (an (an (an (an (an (an (an (an (an (an (an (an (an (an (an (an (an (an (an (h1) h2) h3) h4) h5) h6) h7) h8) h9) h10) h11) h12) h13) h14) h15) h16) h17) h18) h19) h20) h21) h22) h23) h24) h25) h26) h27) h28) h29) h30) h31) h32
end Go.Ab
namespace Go.Proofs.YthdimklenlikgaaGreat.closed
open Go
theorem p2:(laidOutB Tryz.prog)=true:=by kernel_rfl
theorem p3:(mapsRowed Tryz.prog)=true:=by kernel_rfl
theorem p7:(Tryz.prog.stops==[])=true:=by kernel_rfl
theorem p9:(Tryz.prog.stopKnobs==[])=true:=by kernel_rfl
theorem p25:(Tryz.prog.stopsHeard)=true:=by kernel_rfl
theorem p26:(Tryz.prog.mayEnter)=true:=by kernel_rfl
end Go.Proofs.YthdimklenlikgaaGreat.closed
namespace Go.Proofs.YthdimklenlikgaaGreat.deskWay
open Go.ChangeShapes Go.WideShapes Go.ChangeAt Go.RowKit
open Go.ChangeMaps (open_string shut_string)
theorem c1:(Rows.deskWayRow.wf (OpenSpec.ofChange Rows.deskWaySpec))=true:=by kernel_rfl
theorem c4:(Tryz.f5.params.all (Tryz.prog.readableRec ·))=true:=by kernel_rfl
theorem c5:(namedTie Tryz.prog Rows.deskWayRow.named Rows.deskWaySpec.vars)=true:=by kernel_rfl
theorem c6:((Rows.deskWayRow.stops==[]))=true:=by kernel_rfl
theorem c8:((Rows.deskWayRow.knobs==[]))=true:=by kernel_rfl
theorem c10:((Rows.deskWayRow.inPlace==Tryz.prog.inPlace 5))=true:=by kernel_rfl
theorem c11:((Rows.deskWayRow.unfollowed==Tryz.prog.unfollowed 5))=true:=by kernel_rfl
theorem c12:((Rows.deskWayRow.recurses==Tryz.prog.recurses 5))=true:=by kernel_rfl
theorem c13:((Rows.deskWayRow.named==Tryz.prog.varsNamed 5))=true:=by kernel_rfl
theorem c14:((Rows.deskWayRow.maps==(Tryz.f5.params.toList++Rows.deskWaySpec.plain.varTypes Tryz.prog).any (Tryz.prog.mapsRec ·)))=true:=by kernel_rfl
theorem c15:((Rows.deskWayRow.ifaces==(Tryz.f5.params.toList++Rows.deskWaySpec.plain.varTypes Tryz.prog).any (Tryz.prog.ifacesRec ·)))=true:=by kernel_rfl
theorem c16:((Rows.deskWayRow.mapsOut==Tryz.prog.mapsAmong Tryz.f5.resultTypes.toList))=true:=by kernel_rfl
theorem c17:((Rows.deskWayRow.loops==(Tryz.f5.params.toList++Rows.deskWaySpec.plain.varTypes Tryz.prog).any (Tryz.prog.loopsFrom ·)))=true:=by kernel_rfl
theorem c18:((Rows.deskWayRow.wideKeys==(Tryz.f5.params.toList++Rows.deskWaySpec.plain.varTypes Tryz.prog++Tryz.f5.resultTypes.toList).any (Tryz.prog.wideKeysFrom ·)))=true:=by kernel_rfl
theorem c19:(Rows.deskWaySpec.vars.all (Tryz.prog.varReadable ·))=true:=by kernel_rfl
theorem c20:(Tryz.f5.resultTypes.all (fun t=>Tryz.prog.readableRec t&&decide (t<Tryz.prog.types.size)))=true:=by kernel_rfl
theorem c21:((Rows.deskWayRow.ifacesOut==Tryz.f5.resultTypes.toList.any (Tryz.prog.ifacesRec ·)))=true:=by kernel_rfl
theorem c22:((Rows.deskWayRow.loopsOut==Tryz.f5.resultTypes.toList.any (Tryz.prog.loopsFrom ·)))=true:=by kernel_rfl
theorem c23:((Rows.deskWayRow.plainKeys==Tryz.prog.plainKeys))=true:=by kernel_rfl
theorem c24:(Rows.deskWayRow.shortTexts.isNone)=true:=by kernel_rfl
theorem c27:((Rows.deskWayRow.lifted==Tryz.prog.liftsFinal))=true:=by kernel_rfl
theorem c28:((Tryz.prog.make==some Rows.deskWayRow.make))=true:=by kernel_rfl
theorem c29:Ab.kindsFit Tryz.prog Tryz.f5 Rows.deskWayRow=true:=by kernel_rfl
theorem c30:((Rows.deskWayRow.pinned==Rows.deskWayRow.pinnedBy))=true:=by kernel_rfl
theorem c31:((Rows.deskWayRow.veiled==(Tryz.f5.params.toList++Rows.deskWaySpec.plain.varTypes Tryz.prog++Tryz.f5.resultTypes.toList).any (Tryz.prog.veiledRec ·)))=true:=by kernel_rfl
theorem c32:(Rows.deskWayRow.veiledFits Tryz.prog Tryz.f5.params.toList (Tryz.f5.params.toList++Rows.deskWaySpec.plain.varTypes Tryz.prog++Tryz.f5.resultTypes.toList))=true:=by kernel_rfl
theorem B7F:joinedFacts Tryz.prog 5 Tryz.f5 Rows.deskWaySpec Rows.deskWayRow=true:=Ab.joined_of c1 closed.p2 closed.p3 c4 c5 c6 closed.p7 c8 closed.p9 c10 c11 c12 c13 c14 c15 c16 c17 c18 c19 c20 c21 c22 c23 c24 closed.p25 closed.p26 c27 c28 c29 c30 c31 c32
theorem own:ownKnob Tryz.prog.godebug=none:=by kernel_rfl
theorem A8O:laidOutB Tryz.prog=true:=closed.p2
theorem C9j (c0:Array Value) (c1:Value) (c2:Value) (c3:Value) (a4:Int) (w:World) (l0 l1 l2 l3:List Ab.AV) (h0:Ab.FitL w Ab.kRules l0 c0.toList) (h1:Ab.FitL w [.sl Ab.kStr] l1 [c1]) (h2:Ab.FitL w [.sl Ab.kLine] l2 [c2]) (h3:Ab.FitL w [.sl Ab.kLine] l3 [c3]) :
  Calls Tryz.prog 5 #[.agg c0,c1,c2,c3,.int .i64 a4] w fun e w'=>e=.returned (.bool true)∧Below w.heap.size w w':=by
 obtain ⟨x0,r0⟩:=h0.rules
 obtain ⟨x1,r1,_,_⟩:=h1.slice Ab.decStr
 obtain ⟨x2,r2,_,_⟩:=h2.slice Ab.decLine
 obtain ⟨x3,r3,_,_⟩:=h3.slice Ab.decLine
 refine Ab.law_of_S (B7J x0 x1 x2 x3 a4 Ab.st0) ⟨rfl,fun j y c hy hc=>?_⟩
 match j with
 | 0=>cases hy;cases hc;exact r0
 | 1=>cases hy;cases hc;exact r1
 | 2=>cases hy;cases hc;exact r2
 | 3=>cases hy;cases hc;exact r3
 | 4=>cases hy;cases hc;exact .int _ _
 | j+5=>cases hy
set_option maxRecDepth 100000 in
theorem lifted (os:Os) (started:os.Started) (H:Type) (enc:TypeId×Value→H) :
  ReturnsInHanded {} Tryz.checked os 5 .any (Rows.deskWaySpec.pre6 enc Tryz.prog Tryz.f5 Rows.deskWayRow.domain false) (Rows.deskWaySpec.post enc Tryz.prog Tryz.f5 false true false false):=by
 refine returnsInHanded_of_change_sized (C:=Tryz.checked) own started (by kernel_rfl) Tryz.func5
  (ChangeSpec.witness6 (enc:=enc) (C:=Tryz.checked) false ⟨#[],#[.agg #[.slice none 0 0,.slice none 0 0,.bool false,.bool false,.int .i64 0,.slice none 0 0,.int .i64 0,.int .i64 0,.int .i64 0,.int .i64 0,.int .i64 0,.int .i64 0,.slice none 0 0,.slice none 0 0],.slice none 0 0,.slice none 0 0,.slice none 0 0,.int .i64 0],[]⟩ 12 (by kernel_rfl) (by kernel_rfl) (by kernel_rfl) (by kernel_rfl)) ?_
 intro W base args ds gs before hval0 hW hcnd hsz0 _
 have hval:∀ (j:Nat) t v,Tryz.f5.params[j]?=some t→args[j]?=some v→Value.okWide Tryz.prog W .any base t v:=hval0
 have hW':=hW
 obtain ⟨p,q,hA0,hV,rfl,hfz,hnd⟩:=hW
 have hA:DataW.TrodAll enc Tryz.prog W 0 (fun _=>true) true Tryz.f5.params.toList args.toList ds p:=hA0
 rw [Tryz.params5] at hA hval
 obtain ⟨v0,vs0,d0,ds0,p0,q0,hargs,rfl,rfl,h0,r0⟩:=trodAll_cons hA
 obtain ⟨v1,vs1,d1,ds1,p1,q1,rfl,rfl,rfl,h1,r1⟩:=trodAll_cons r0
 obtain ⟨v2,vs2,d2,ds2,p2,q2,rfl,rfl,rfl,h2,r2⟩:=trodAll_cons r1
 obtain ⟨v3,vs3,d3,ds3,p3,q3,rfl,rfl,rfl,h3,r3⟩:=trodAll_cons r2
 obtain ⟨v4,vs4,d4,ds4,p4,q4,rfl,rfl,rfl,h4,r4⟩:=trodAll_cons r3
 obtain ⟨rfl,rfl,rfl⟩:=trodAll_nil r4
 obtain rfl:args=#[v0,v1,v2,v3,v4]:=by cases args;simp_all
 obtain ⟨rfl,rfl⟩:=trodVars_none hV
 obtain ⟨a0,rfl,_⟩:=okWide_struct Tryz.underlying33 (hval 0 33 v0 rfl rfl)
 obtain ⟨a1,len1,cap1,rfl⟩:=okWide_slice Tryz.underlying34 (hval 1 34 v1 rfl rfl)
 obtain ⟨a2,len2,cap2,rfl⟩:=okWide_slice Tryz.underlying35 (hval 2 35 v2 rfl rfl)
 obtain ⟨a3,len3,cap3,rfl⟩:=okWide_slice Tryz.underlying35 (hval 3 35 v3 rfl rfl)
 obtain ⟨a4,rfl,rfl,rfl,w4⟩:=open_int Tryz.underlying3 (hval 4 3 v4 rfl rfl) h4
 have k0:=h0
 have lt0:∀ x∈p0,x.block<W.heap.size:=by obtain ⟨m,hm⟩:=k0;exact DataW.trod_lt m _ _ _ hm
 have k1:=h1
 have lt1:∀ x∈p1,x.block<W.heap.size:=by obtain ⟨m,hm⟩:=k1;exact DataW.trod_lt m _ _ _ hm
 have k2:=h2
 have lt2:∀ x∈p2,x.block<W.heap.size:=by obtain ⟨m,hm⟩:=k2;exact DataW.trod_lt m _ _ _ hm
 have k3:=h3
 have lt3:∀ x∈p3,x.block<W.heap.size:=by obtain ⟨m,hm⟩:=k3;exact DataW.trod_lt m _ _ _ hm
 obtain ⟨l0,hl0⟩:∃ l,Ab.FitL W Ab.kRules l a0.toList:=by
  obtain ⟨fuel,hf⟩:=h0
  exact Ab.open_kinds 10 fuel 33 Ab.kRules _ _ (by kernel_rfl) hf
 obtain ⟨l1,hl1⟩:∃ l,Ab.FitL W [.sl Ab.kStr] l [.slice a1 len1 cap1]:=by
  obtain ⟨fuel,hf⟩:=h1
  exact Ab.open_kinds 3 fuel 34 [.sl Ab.kStr] _ _ (by kernel_rfl) hf
 obtain ⟨l2,hl2⟩:∃ l,Ab.FitL W [.sl Ab.kLine] l [.slice a2 len2 cap2]:=by
  obtain ⟨fuel,hf⟩:=h2
  exact Ab.open_kinds 4 fuel 35 [.sl Ab.kLine] _ _ (by kernel_rfl) hf
 obtain ⟨l3,hl3⟩:∃ l,Ab.FitL W [.sl Ab.kLine] l [.slice a3 len3 cap3]:=by
  obtain ⟨fuel,hf⟩:=h3
  exact Ab.open_kinds 4 fuel 35 [.sl Ab.kLine] _ _ (by kernel_rfl) hf
 clear hA0 hval0 hsz0
 refine (C9j a0 _ _ _ a4 W l0 l1 l2 l3 hl0 hl1 hl2 hl3).mono fun e W' ⟨he,bel⟩=>?_
 subst he
 exact ⟨_,rfl,_,_,_,[],_,[],hW',trodAll_mk1 (shut_bool Tryz.underlying4 _),trodAll_cons_mk (Below.trod A8O (by kernel_rfl) (of_decide_eq_true (by kernel_rfl)) k0 bel lt0) (trodAll_cons_mk (Below.trod A8O (by kernel_rfl) (of_decide_eq_true (by kernel_rfl)) k1 bel lt1) (trodAll_cons_mk (Below.trod A8O (by kernel_rfl) (of_decide_eq_true (by kernel_rfl)) k2 bel lt2) (trodAll_cons_mk (Below.trod A8O (by kernel_rfl) (of_decide_eq_true (by kernel_rfl)) k3 bel lt3) (trodAll_cons_mk (shut_int Tryz.underlying3 w4) trodAll_mk0)))),rfl,bel.frame _,fun h=>by cases h⟩
theorem over:Rows.deskWayRow.holds Tryz.pinned (OpenSpec.ofChange Rows.deskWaySpec) :=
 OpenClaim.holds_of_wide 5 Tryz.f5 rfl rfl rfl rfl rfl rfl rfl ⟨rfl,rfl,rfl,rfl,rfl⟩ rfl rfl rfl rfl rfl (by kernel_rfl) Tryz.func5 B7F
  (of_decide_eq_true (by kernel_rfl)) (by unfold Func.isWrapper;first | (rw [if_pos (by decide +kernel)];kernel_rfl) | (rw [if_neg (by decide +kernel)];exact ⟨rfl,rfl⟩))
  (fun os started H enc _=>lifted os started H enc)
theorem proved:Rows.DeskWaySaid:=over
#print axioms proved
end Go.Proofs.YthdimklenlikgaaGreat.deskWay
namespace Go.Proofs.YthdimklenlikgaaGreat
theorem deskWay_holds:Rows.DeskWaySaid:=deskWay.proved
end Go.Proofs.YthdimklenlikgaaGreat
