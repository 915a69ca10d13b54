/- Part 32 of the proof: the law, for every input, and its row -/
import Derived.Test.YtaapofnkmpiknaaGreatRs31
import Derived.ChangeSlices
import Derived.ChangeArms
import Derived.Test.YtaapofnkmpiknaaGreatRows
import Derived.ProofKit
import Derived.JoinedOf
import Derived.KernelRfl
import Derived.WalkKit
import Derived.OpenShut
import Derived.ShutString
import Derived.ChangeOld
import Derived.Below
import Derived.SizedLaws
set_option maxRecDepth 100000
set_option linter.unusedVariables false
set_option linter.unusedSimpArgs false
namespace Go.Proofs.YtaapofnkmpiknaaGreat
open Go Go.Ab
attribute [local irreducible] upd del
theorem B6F (t n a b:Int) (ht:0≤t∧t≤10000000000000) (hn:1≤n∧n≤100000) (ha:0≤a) (hab:a≤b) (hb:b≤n) (st:St) :
  S P 23 [eI t,eI n,eI a,eI b] st fun v st'=>v=.tuple [eI (I8 t n b - I8 t n a),eI 0]∧st'=st:=by
 have n1:=B9M t n b ht hn ⟨by omega,hb⟩ st
 have n2:=B9M t n a ht hn ⟨ha,by omega⟩ st
 have b1:=A0H (k:=b) ht.1 hn.1 (by omega) hb
 have b2:=A0H (k:=a) ht.1 hn.1 ha (by omega)
 have g1:decide (a<0)=false:=D5J (by omega)
 have g2:decide (a>b)=false:=D5J (by omega)
 have hw:IntKind.i64.wrap (I8 t n b - I8 t n a)=I8 t n b - I8 t n a:=A5 (by omega) (by omega)
 refine SyW [] Tryz.func23 ?_
 repeat' ((conv=>whnf);first | refine B3 n1 ?_ | refine B3 n2 ?_ | rw [g1] | rw [g2] | rw [hw])
 exact ⟨rfl,rfl⟩
theorem B8d {o:T9} (h:A0R o=true) {K:List A2m} (hk:A3n { o with lines:=K }=true):A0R { o with lines:=K }=true:=by
 unfold A0R at h ⊢
 simp only [D5I] at h ⊢
 exact ⟨⟨⟨⟨⟨h.1.1.1.1.1,h.1.1.1.1.2⟩,hk⟩,h.1.1.2⟩,h.1.2⟩,h.2⟩
def P9 (L:List E4) (left:List Int) (i:Nat):Int:=if i<left.length then B6 (gI left i) ((L.getD i default).qty+1) else 0
def A3P (L:List E4) (Q:Z1) (left:List Int) (i:Nat):A2m:={ R1 L Q i with left:=P9 L left i }
def J9 (L:List E4) (Q:Z1) (left:List Int):List A2m:=(List.range L.length).map (A3P L Q left)
theorem A8I (f:Nat→Int) {M:Int}:∀ n:Nat,(∀ i,i<n→0≤f i∧f i≤M)→0≤A2 ((List.range n).map f)∧A2 ((List.range n).map f)≤M * n
 | 0,_=>⟨D6i 0,by show (0:Int)≤M * ((0:Nat):Int);simp⟩
 | n+1,h=>by
  have h1:=A8I f n fun i hi=>h i (by omega)
  have h2:=h n (by omega)
  have e:A2 ((List.range (n+1)).map f)=A2 ((List.range n).map f)+f n:=by
   rw [D6R,D6g];unfold A2;rw [D7r];rfl
  have e2:M * ((n+1:Nat):Int)=M * (n:Int)+M:=by rw [show ((n+1:Nat):Int)=(n:Int)+1 from rfl,D7J,D8r]
  rw [e,e2];omega
theorem A4D (f:Nat→Int) (n:Nat):A2 ((List.range (n+1)).map f)=A2 ((List.range n).map f)+f n:=by
 rw [D6R,D6g];unfold A2;rw [D7r];rfl
theorem B2g (f g k:Nat→Int):∀ n:Nat,(∀ i,i<n→f i+g i=k i)→A2 ((List.range n).map f)+A2 ((List.range n).map g)=A2 ((List.range n).map k)
 | 0,_=>rfl
 | n+1,h=>by
  have h1:=B2g f g k n fun i hi=>h i (by omega)
  have h2:=h n (by omega)
  rw [A4D,A4D,A4D];omega
theorem A4p {L:List E4} {left:List Int} {i:Nat} (h:1≤(L.getD i default).qty):0≤P9 L left i∧P9 L left i≤(L.getD i default).qty:=by
 unfold P9
 split
 ·have:=C7 (gI left i) (n:=(L.getD i default).qty+1) (by omega);omega
 ·omega
theorem C1Z {t n:Int} (hn:1≤n):I8 t n n=t:=by unfold I8;exact Int.mul_ediv_cancel _ (by omega)
theorem B3N (t n:Int):I8 t n 0=0:=by unfold I8;rw [Int.mul_zero,Int.zero_ediv]
theorem B2Q {L:List E4} {Q:Z1} (h:A7p Q L.length) (h1:1≤L.length∧L.length≤8) (hL:∀ x∈L,D0 x.sku=true∧(0≤x.price∧x.price≤1000000000)∧1≤x.qty∧x.qty≤100000)
  {id zone:C8} {set day:Int} {C:List C8} {pays:List Pay} (exempt:Bool) (hi:D0 id=true) (hz:D0 zone=true) (hs:1≤set∧set≤40) (hd:0≤day∧day≤100000) (hc:S7 C=true) (hp:A5u pays Q.total=true) (left:List Int) :
  A0R { A9P id zone set exempt C day L Q (U6 Q) pays with lines:=J9 L Q left }=true ∧
  shG (J9 L Q left)+A2 ((List.range L.length).map fun i=>gI Q.goods i - I8 (gI Q.goods i) (L.getD i default).qty (P9 L left i))=A2 Q.goods ∧
  shT (J9 L Q left)+A2 ((List.range L.length).map fun i=>gI Q.taxes i - I8 (gI Q.taxes i) (L.getD i default).qty (P9 L left i))=A2 Q.taxes ∧
  M8 (J9 L Q left)=(List.range L.length).any (fun k=>decide (P9 L left k>0))∧(M8 (J9 L Q left)=false→shG (J9 L Q left)=0∧shT (J9 L Q left)=0):=by
 have hq:∀ i,i<L.length→D0 (L.getD i default).sku=true∧(0≤(L.getD i default).price∧(L.getD i default).price≤1000000000)∧1≤(L.getD i default).qty∧(L.getD i default).qty≤100000:=fun i hi=>hL _ (A6 hi)
 have hO:=(B8D h h1 hL exempt hi hz hs hd hc hp).1
 have eG:shG (J9 L Q left)=A2 ((List.range L.length).map fun i=>I8 (gI Q.goods i) (L.getD i default).qty (P9 L left i)):=B4S (A3P L Q left) L.length _ (fun x=>x.goods) fun i _=>rfl
 have eT:shT (J9 L Q left)=A2 ((List.range L.length).map fun i=>I8 (gI Q.taxes i) (L.getD i default).qty (P9 L left i)):=B4S (A3P L Q left) L.length _ (fun x=>x.tax) fun i _=>rfl
 have eA:M8 (J9 L Q left)=(List.range L.length).any (fun k=>decide (P9 L left k>0)):=by unfold M8 J9;rw [List.any_map];rfl
 refine ⟨B8d hO ?_,?_,?_,eA,fun hn=>?_⟩
 ·unfold A3n
  have hl:(J9 L Q left).length=L.length:=by unfold J9;rw [D5H,D6c]
  show (decide (((J9 L Q left).length:Int)≥1)&&decide (((J9 L Q left).length:Int)≤1000)&&(J9 L Q left).all A1T)=true
  rw [hl]
  simp only [D5I,D5E]
  refine ⟨⟨by omega,by omega⟩,D5Y.2 fun x hx=>?_⟩
  obtain ⟨i,hi,rfl⟩:=D5X.1 hx
  have hi:=D5S.1 hi
  have a1:=hq i hi
  have a2:=h.goods i hi
  have a3:=h.taxes i hi
  have a4:=A4p (left:=left) a1.2.2.1
  unfold A1T A1y A3P R1
  simp only [D5I,E3]
  exact ⟨⟨⟨⟨⟨a1.1,a1.2.1⟩,a1.2.2⟩,a4⟩,by omega⟩,by omega⟩
 ·rw [eG,B2g _ _ (gI Q.goods) _ fun i hi=>by omega,←h.ngoods,B1j]
 ·rw [eT,B2g _ _ (gI Q.taxes) _ fun i hi=>by omega,←h.ntaxes,B1j]
 ·rw [eA,D6E] at hn
  have hz:∀ i,i<L.length→P9 L left i=0:=fun i hi=>by
   have a1:=hn i (D5S.2 hi)
   have a4:=A4p (left:=left) (hq i hi).2.2.1
   simp only [D5E] at a1
   omega
  have hs0:∀ f:Nat→Int,(∀ i,i<L.length→f i=0)→A2 ((List.range L.length).map f)=0:=fun f hf=>by
   have:=A8I f (M:=0) L.length fun i hi=>by rw [hf i hi];exact ⟨D6i _,D6i _⟩
   omega
  rw [eG,eT]
  exact ⟨hs0 _ fun i hi=>by rw [hz i hi];exact B3N _ _,hs0 _ fun i hi=>by rw [hz i hi];exact B3N _ _⟩
theorem B8c {st s:St} {M:List (Nat×K7)} {o:T9} {cv lv tv:AV} {bc bl bt jc jl jt:Nat} {fc fl ft:Nat→AV} (h:E6 st M s) (hcv:OV 1 bc o.codes.length cv) (hlv:OV 6 bl o.lines.length lv) (htv:OV 3 bt o.tenders.length tv)
  (kc:At M jc (bc,⟨9,1,o.codes.length,fc⟩)) (kl:At (M.eraseIdx jc) jl (bl,⟨55,6,o.lines.length,fl⟩)) (kt:At ((M.eraseIdx jc).eraseIdx jl) jt (bt,⟨70,3,o.tenders.length,ft⟩))
  (hc:∀ k,k<o.codes.length→fc k=eS (o.codes.getD k default)) (hl:∀ k,k<o.lines.length→fl k=Q7 (o.lines.getD k default)) (ht:∀ k,k<o.tenders.length→ft k=A0d (o.tenders.getD k default)) :
  ∃ s',E6 st (((M.eraseIdx jc).eraseIdx jl).eraseIdx jt) s'∧A7 [.agg [eS o.id,eI o.rules,eS o.zone,eB o.exempt,cv,eI o.day,lv,eI o.ship,eI o.shipTax,eI o.fee,eI o.net,eI o.book.goods,eI o.book.tax,eI o.book.ship,eI o.book.shipTax,eI o.book.fee,tv]] s [W8 o] s':=by
 obtain ⟨s1,h,k1⟩:=h.frz kc hcv
 obtain ⟨s2,h,k2⟩:=h.frz kl hlv
 obtain ⟨s3,h,k3⟩:=h.frz kt htv
 refine ⟨s3,h,A7.agg ?_⟩
 iterate 4 refine A7.cons (A7.keep [_] _) ?_
 refine A7.cons (k1.trans (A7.arr hc)) (A7.cons (A7.keep [_] _) (A7.cons (k2.trans (A7.arr hl)) ?_))
 iterate 9 refine A7.cons (A7.keep [_] _) ?_
 exact k3.trans (A7.arr ht)
set_option maxHeartbeats 4000000 in
theorem B0g (s:B2y) (left:List Int) (st:St):S P 4 [B0W s,B0 left] st fun v st'=>v=.bool true:=by
 obtain ⟨L,Q,hO⟩:=C8t s
 have hid:D0 ⟨#[111]⟩=true:=by kernel_rfl
 have hD:=C7 s.day (n:=20) (by decide)
 have nF:=fun u=>C1B s u
 have nA:=fun u=>C0m u
 have cO:=fun hF u=>C3F s hO hF u
 obtain ⟨t1,t2,t3,t4,t5⟩:=B2Q hO.sold hO.len hO.line (id:=⟨#[111]⟩) (zone:=P6 s) (set:=1) (day:=10+B6 s.day 20) s.exempt hid hO.zone ⟨by decide,by decide⟩ ⟨by omega,by omega⟩ hO.codes hO.paid left
 have hz:=U3 hO.zone
 have hl:=hO.len
 have hnc:=hO.ncodes
 have hnp:=hO.npays
 have hg:=hO.sold.goods
 have ht:=hO.sold.taxes
 have hng:=hO.sold.ngoods
 have hnt:=hO.sold.ntaxes
 have hq:∀ i,i<L.length→1≤(L.getD i default).qty∧(L.getD i default).qty≤100000:=fun i hi=>(hO.line _ (A6 hi)).2.2
 have htl:(J9 L Q left).length=L.length:=by unfold J9;rw [D5H,D6c]
 have hsm:B2U { A9P ⟨#[111]⟩ (P6 s) 1 s.exempt (H4 s.codes) (10+B6 s.day 20) L Q (U6 Q) (O4 Q.total s.pays) with lines:=J9 L Q left }:=by
  refine ⟨by show (1:Nat)≤9223372036854775807;omega,by show (P6 s).size≤9223372036854775807;omega,by show (H4 s.codes).length≤9223372036854775807;omega,fun c hc=>by have:=hO.scodes c hc;show c.size≤9223372036854775807;omega,by show (J9 L Q left).length≤_;omega,fun x hx=>?_,by show ((O4 Q.total s.pays).map A1M).length≤_;rw [D5H];omega⟩
  obtain ⟨i,hi,rfl⟩:=D5X.1 (show x∈(List.range L.length).map (A3P L Q left) from hx)
  have:=U3 (hO.line _ (A6 (D5S.1 hi))).1
  show (L.getD i default).sku.size≤9223372036854775807
  omega
 have cB:=fun u=>B3C _ hsm u
 rw [show A3N { A9P ⟨#[111]⟩ (P6 s) 1 s.exempt (H4 s.codes) (10+B6 s.day 20) L Q (U6 Q) (O4 Q.total s.pays) with lines:=J9 L Q left }=⟨shG (J9 L Q left),shT (J9 L Q left),if M8 (J9 L Q left)=true then Q.ship else 0,if M8 (J9 L Q left)=true then Q.shipTax else 0,0⟩ by unfold A3N;rw [if_pos t1];rfl] at cB
 clear hsm t1 hO
 generalize H5 s.rules=R at *
 generalize P6 s=Z at *
 generalize H4 s.codes=C at *
 generalize O4 Q.total s.pays=PP at *
 generalize 10+B6 s.day 20=D at *
 refine A8Q [2,16] B4k mixed Tryz.func4 (by rfl) rfl rfl rfl ?_;conv=>whnf
 refine I5 (nF _) ?_
 cases hF:A6H s
 ·conv=>whnf
  refine I5 (nA _) ?_
  exact rfl
 conv=>whnf
 refine call (cO hF _) (fun v w hv=>?_)
 obtain ⟨o,rfl,cv,lv,tv,bc,bl,bt,h,hcv,hlv,htv,rfl⟩:=hv
 conv=>whnf
 intro b5 hb5
 generalize hs:(upd w b5 _:St)=w2
 have h:=E6.new' hs h hb5
 clear hs hb5
 conv=>whnf
 intro b6 hb6
 generalize hs:(upd w2 b6 _:St)=w
 have h:=E6.new' hs h hb6
 clear hs hb6
 conv=>whnf
 refine A1H h (.s .z) rfl rfl (by rfl) ?_;conv=>whnf
 intro w h;conv=>whnf
 refine A1H h .z rfl rfl (C0t (by rfl) (by simp only [cellsOf,List.all_cons,hcv.one,hlv.one,htv.one];rfl)) ?_;conv=>whnf
 intro w h
 replace h:=h.drop 1
 obtain rfl:=hlv.own (by omega)
 conv=>whnf
 refine lp L.length [1,6,7,8,9,10] (fun i vs u=>vs=[B0 left,.optr 17 b6 0 0,eB ((List.range i).any fun k=>decide (P9 L left k>0)),eI (A2 ((List.range i).map fun i=>gI Q.goods i - I8 (gI Q.goods i) (L.getD i default).qty (P9 L left i))),eI (A2 ((List.range i).map fun i=>gI Q.taxes i - I8 (gI Q.taxes i) (L.getD i default).qty (P9 L left i))),eI i] ∧
  E6 st [(b6,⟨50,17,1,fun _=>.agg [eS ⟨#[111]⟩,eI 1,eS Z,eB s.exempt,cv,eI D,.own 6 bl 0 L.length,eI Q.ship,eI Q.shipTax,eI 0,eI Q.total,eI (U6 Q).goods,eI (U6 Q).tax,eI (U6 Q).ship,eI (U6 Q).shipTax,eI (U6 Q).fee,tv]⟩),
   (bl,⟨55,6,L.length,fun k=>Q7 (if k<i then A3P L Q left k else R1 L Q k)⟩),(bt,⟨70,3,PP.length,fun k=>A0d ((PP.map A1M).getD k default)⟩),(bc,⟨9,1,C.length,fun k=>eS (C.getD k default)⟩)] u) ?_ ?_
 ·conv=>whnf
  refine ⟨rfl,h.as _ (.s .z) fun k hk=>?_⟩
  show Q7 ((U2 L Q).getD k default)=Q7 (if k<0 then A3P L Q left k else R1 L Q k)
  rw [if_neg (Nat.not_lt_zero k)]
  unfold U2
  rw [D4 (R1 L Q) (List.range L.length) (by rw [D6c];omega)]
  congr 2
  simp [D5C,hk]
 clear h
 rintro i vs u hi ⟨rfl,h⟩
 have hb6:=h.has1 .z
 have hbl:=h.has (.s .z) (show 0<L.length by omega)
 obtain ⟨sG,hsG⟩:∃ sG,sG=A2 ((List.range i).map fun i=>gI Q.goods i - I8 (gI Q.goods i) (L.getD i default).qty (P9 L left i)):=⟨_,rfl⟩
 obtain ⟨sT,hsT⟩:∃ sT,sT=A2 ((List.range i).map fun i=>gI Q.taxes i - I8 (gI Q.taxes i) (L.getD i default).qty (P9 L left i)):=⟨_,rfl⟩
 obtain ⟨sm,hsm⟩:∃ sm,sm=(List.range i).any fun k=>decide (P9 L left k>0):=⟨_,rfl⟩
 rw [←hsG,←hsT,←hsm];conv=>whnf
 refine S4 hb6 rfl Nat.one_pos rfl ?_;conv=>whnf
 cases h1:decide ((i:Int)<(L.length:Int))
 case true =>
  have hi':=D8 h1
  have hqi:=hq i hi'
  have hgi:=hg i hi'
  have hti:=ht i hi'
  have hli:=A4p (left:=left) hqi.1
  have hw0:IntKind.i64.wrap ((R1 L Q i).sold+1)=(L.getD i default).qty+1:=(A5 (by omega) (by omega):IntKind.i64.wrap ((L.getD i default).qty+1)=_)
  have cM:=fun u=>A0f (gI left (i:Int).toNat) ((L.getD i default).qty+1) (by omega) (by omega) u
  have p1:=fun u=>B6F (gI Q.goods i) (L.getD i default).qty (P9 L left i) (L.getD i default).qty (by omega) hqi hli.1 hli.2 (D6i _) u
  have p2:=fun u=>B6F (gI Q.taxes i) (L.getD i default).qty (P9 L left i) (L.getD i default).qty (by omega) hqi hli.1 hli.2 (D6i _) u
  have b1:=A0H (k:=P9 L left i) hgi.1 hqi.1 hli.1 hli.2
  have b2:=A0H (k:=P9 L left i) hti.1 hqi.1 hli.1 hli.2
  rw [C1Z hqi.1] at p1 p2
  have eL:∀ f:Nat→AV,f=(fun k=>Q7 (if k<i then A3P L Q left k else R1 L Q k))→f (0+(i:Int).toNat)=Q7 (R1 L Q i):=fun f hf=>by rw [hf,show 0+(i:Int).toNat=i by omega];show Q7 (if i<i then _ else _)=_;rw [if_neg (Nat.lt_irrefl i)]
  have sG1:=A4D (fun i=>gI Q.goods i - I8 (gI Q.goods i) (L.getD i default).qty (P9 L left i)) i
  have sT1:=A4D (fun i=>gI Q.taxes i - I8 (gI Q.taxes i) (L.getD i default).qty (P9 L left i)) i
  have sG2:=A8I (fun i=>gI Q.goods i - I8 (gI Q.goods i) (L.getD i default).qty (P9 L left i)) (M:=1000000000000) i fun j hj=>by
   have c1:=hg j (by omega)
   have c2:=hq j (by omega)
   have c3:=A4p (left:=left) c2.1
   have c4:=A0H (k:=P9 L left j) c1.1 c2.1 c3.1 c3.2
   show 0≤_ - _∧_ - _≤_
   omega
  have sT2:=A8I (fun i=>gI Q.taxes i - I8 (gI Q.taxes i) (L.getD i default).qty (P9 L left i)) (M:=1000000000000) i fun j hj=>by
   have c1:=ht j (by omega)
   have c2:=hq j (by omega)
   have c3:=A4p (left:=left) c2.1
   have c4:=A0H (k:=P9 L left j) c1.1 c2.1 c3.1 c3.2
   show 0≤_ - _∧_ - _≤_
   omega
  rw [←hsG] at sG1 sG2
  rw [←hsT] at sT1 sT2
  have hw1:IntKind.i64.wrap (sG+(gI Q.goods i - I8 (gI Q.goods i) (L.getD i default).qty (P9 L left i)))=A2 ((List.range (i+1)).map fun i=>gI Q.goods i - I8 (gI Q.goods i) (L.getD i default).qty (P9 L left i)):=(A5 (by omega) (by omega)).trans sG1.symm
  have hw2:IntKind.i64.wrap (sT+(gI Q.taxes i - I8 (gI Q.taxes i) (L.getD i default).qty (P9 L left i)))=A2 ((List.range (i+1)).map fun i=>gI Q.taxes i - I8 (gI Q.taxes i) (L.getD i default).qty (P9 L left i)):=(A5 (by omega) (by omega)).trans sT1.symm
  have hsm1:((List.range (i+1)).any fun k=>decide (P9 L left k>0))=(sm||decide (P9 L left i>0)):=by rw [D6R,List.any_append,←hsm,List.any_cons,List.any_nil,D6u]
  obtain ⟨k,hk⟩:∃ k,k=P9 L left i:=⟨_,rfl⟩
  rw [←hk] at p1 p2 hw1 hw2 hsm1;conv=>whnf
  cases h2:decide ((i:Int)<(left.length:Int))
  case' false=>obtain rfl:k=0:=by rw [hk];unfold P9;rw [if_neg (by have:=D5G h2;omega)]
  case' true =>
   have hi2:=D8 h2
   have hk2:B6 (gI left (i:Int).toNat) ((L.getD i default).qty+1)=k:=by rw [hk];unfold P9;rw [if_pos hi2];rfl
   rw [hk2] at cM;conv=>whnf
   refine .inl ⟨[],[],List.range 13,by kernel_rfl,?_⟩
   repeat' ((conv=>whnf);first | refine S4 hb6 rfl Nat.one_pos rfl ?_ | refine ⟨rfl,⟨by omega,by omega⟩,?_⟩ | refine S4 hbl rfl (show 0+(i:Int).toNat<L.length by omega) (eL _ rfl) ?_ | rw [hw0] | refine ⟨_,H0 (cM _),?_⟩ | fail)
  all_goals
   repeat' ((conv=>whnf);first | refine S4 hb6 rfl Nat.one_pos rfl ?_ | refine ⟨rfl,⟨by omega,by omega⟩,?_⟩ | fail)
   conv=>whnf
   refine C9o h (.s .z) rfl (show 0+(i:Int).toNat<L.length by omega) (eL _ rfl) (by rfl) ?_;conv=>whnf
   intro w h
   replace h:=h.as (fun m=>Q7 (if m<i+1 then A3P L Q left m else R1 L Q m)) (.s .z) fun m hm=>by
    rw [show 0+(i:Int).toNat=i by omega]
    by_cases e:m=i
    ·subst e;rw [A4,if_pos (D7Y m)];unfold A3P;rw [←hk];rfl
    ·rw [H1 e]
     by_cases hh:m<i
     ·rw [if_pos hh,if_pos (by omega)]
     ·rw [if_neg hh,if_neg (by omega)]
   have hb6:=h.has1 .z
   have hbl:=h.has (.s .z) (show 0<L.length by omega)
   have eL:∀ f:Nat→AV,f=(fun k=>Q7 (if k<i+1 then A3P L Q left k else R1 L Q k))→f (0+(i:Int).toNat)=Q7 (A3P L Q left i):=fun f hf=>by rw [hf,show 0+(i:Int).toNat=i by omega];show Q7 (if i<i+1 then _ else _)=_;rw [if_pos (D7Y i)]
   conv=>whnf
   cases sm
   all_goals
    conv=>whnf
    refine .inl ⟨[],[],List.range 25,by kernel_rfl,?_⟩
    repeat' ((conv=>whnf);first | refine S4 hb6 rfl Nat.one_pos rfl ?_ | refine ⟨rfl,⟨by omega,by omega⟩,?_⟩ | refine S4 hbl rfl (show 0+(i:Int).toNat<L.length by omega) (eL _ rfl) ?_ | refine ⟨_,H0 (p1 _),?_⟩ | refine ⟨_,H0 (p2 _),?_⟩ | refine .inl ⟨[],[],List.range 25,by kernel_rfl,?_⟩ | rw [hw1,hw2] | fail)
    conv=>whnf
    refine F7 ?_
    exact nx hi' ⟨by rw [B4 (by omega),hsm1];rfl,h⟩
 obtain rfl:=C4 h1 hi
 have hlv:OV 6 bl (J9 L Q left).length (.own 6 bl 0 L.length):=by rw [htl];exact .inr ⟨by omega,rfl⟩
 have sG2:=A8I (fun i=>gI Q.goods i - I8 (gI Q.goods i) (L.getD i default).qty (P9 L left i)) (M:=1000000000000) L.length fun j hj=>by
  have c1:=hg j (by omega)
  have c2:=hq j (by omega)
  have c3:=A4p (left:=left) c2.1
  have c4:=A0H (k:=P9 L left j) c1.1 c2.1 c3.1 c3.2
  show 0≤_ - _∧_ - _≤_
  omega
 have gG:=A6W hng hg
 have gT:=A6W hnt ht
 rw [←hsG] at t2
 rw [←hsT] at t3
 rw [←hsm] at t4
 have hw1:IntKind.i64.wrap (shG (J9 L Q left)+sG)=(U6 Q).goods:=by rw [t2];exact A5 (by omega) (by omega)
 have hw2:IntKind.i64.wrap (shT (J9 L Q left)+sT)=(U6 Q).tax:=by rw [t3];exact A5 (by omega) (by omega)
 have e1:∀ z:Int,(z != z)=false:=fun z=>bne_self_eq_false z
 have e2:∀ z:Int,(z==z)=true:=fun z=>D7R z
 obtain ⟨w,h2,hsh⟩:=B8c (o:={ A9P ⟨#[111]⟩ Z 1 s.exempt C D L Q (U6 Q) PP with lines:=J9 L Q left }) (jc:=3) (jl:=1) (jt:=1) (fl:=fun k=>Q7 (if k<L.length then A3P L Q left k else R1 L Q k)) (ft:=fun k=>A0d ((PP.map A1M).getD k default)) (fc:=fun k=>eS (C.getD k default)) h hcv hlv
  (by show OV 3 bt (PP.map A1M).length tv;rw [D5H];exact htv) (.s (.s (.s .z))) (by show At _ _ (bl,(⟨55,6,(J9 L Q left).length,_⟩:K7));rw [htl];exact .s .z) (by show At _ _ (bt,(⟨70,3,(PP.map A1M).length,_⟩:K7));rw [D5H];exact .s .z) (fun k hk=>rfl) (fun k hk=>by
   have hk:k<(J9 L Q left).length:=hk
   rw [htl] at hk
   show Q7 (if k<L.length then _ else _)=Q7 ((J9 L Q left).getD k default)
   rw [if_pos hk]
   unfold J9
   rw [D4 (A3P L Q left) (List.range L.length) (by rw [D6c];exact hk)]
   congr 2
   simp [D5C,hk]) (fun k hk=>rfl)
 have hb:=h2.has1 .z
 obtain ⟨S1,hS1⟩:∃ S1,S1=if M8 (J9 L Q left)=true then Q.ship else 0:=⟨_,rfl⟩
 obtain ⟨S2,hS2⟩:∃ S2,S2=if M8 (J9 L Q left)=true then Q.shipTax else 0:=⟨_,rfl⟩
 rw [←hS1,←hS2] at cB
 clear hbl h sG2 gG gT t2 t3 hlv
 generalize shG (J9 L Q left)=GG at *
 generalize shT (J9 L Q left)=TT at *
 generalize M8 (J9 L Q left)=AL at *
 subst t4;conv=>whnf
 refine S4 hb6 rfl Nat.one_pos rfl ?_;conv=>whnf
 refine F3 (args':=[W8 _]) hsh (B3 (cB _) ?_)
 repeat' ((conv=>whnf);first | refine B3 (nA _) ?_ | refine S4 hb rfl Nat.one_pos rfl ?_ | rw [hw1,e1] | rw [hw2,e1] | fail)
 cases AL
 ·obtain ⟨rfl,rfl⟩:=t5 rfl
  obtain rfl:S1=0:=hS1
  obtain rfl:S2=0:=hS2
  repeat' ((conv=>whnf);first | refine S4 hb rfl Nat.one_pos rfl ?_ | fail)
  conv=>whnf
  exact rfl
 ·obtain rfl:S1=Q.ship:=hS1
  obtain rfl:S2=Q.shipTax:=hS2
  repeat' ((conv=>whnf);first | refine S4 hb rfl Nat.one_pos rfl ?_ | rw [e2] | fail)
  conv=>whnf
  exact rfl
end Go.Proofs.YtaapofnkmpiknaaGreat
namespace Go.Ab
open Go Go.ChangeShapes
inductive LK where
 | bool
 | int (k:IntKind)
 | str
 | sl (ks:List LK)
def B2Y (l:List AV):AV:=match l with | [v]=>v | l=>.agg l
inductive Fit:LK→AV→Prop
 | bool (b:Bool):Fit .bool (.bool b)
 | int (k:IntKind) (n:Int) (h:(Lit.int k n).wf=true):Fit (.int k) (.int k n)
 | str (s:ByteArray) (h:s.size≤maxLen):Fit .str (.str s)
 | sl (ks:List LK) (n:Nat) (L:Nat→List AV) (hn:n≤maxLen) (hl:∀ i,i<n→(L i).length=ks.length) (hf:∀ (i j:Nat) (y:AV) (k:LK),i<n→(L i)[j]?=some y→ks[j]?=some k→Fit k y):Fit (.sl ks) (.arr ks.length n fun i=>B2Y (L i))
theorem Fit.one {k:LK} {v:AV} (h:Fit k v):v.one=true:=by cases h<;>rfl
theorem C0s {v:AV} (h:v.one=true):cellsOf v=[v]:=by cases v<;>first | rfl | cases h
theorem B3e {l:List AV} (h:∀ v∈l,v.one=true):cellsOf (B2Y l)=l:=by
 unfold B2Y
 split
 ·exact C0s (h _ (D6h.2 rfl))
 ·rfl
theorem C2x (a:Addr) (n m:Nat):a.add (n+m)=(a.add n).add m:=by
 unfold Addr.add
 by_cases h:n=0
 ·subst h;simp
 ·by_cases k:m=0
  ·subst k;simp [h]
  ·simp [h,k,D8n]
def B0l (P:Program) (r:TypeId→Option (List LK)):List Field→Nat→Option (List LK)
 | [],_=>some []
 | f::fs,o=>match Nat.beq f.offset o,r f.type with
  | true,some ks=>(match Nat.beq (P.cellsOf f.type) ks.length,B0l P r fs (o+ks.length) with
   | true,some l=>some (ks++l)
   | _,_=>none)
  | _,_=>none
def A6J (P:Program):Nat→TypeId→Option (List LK)
 | 0,_=>none
 | n+1,t=>match P.underlying t with
  | some .bool=>some [.bool]
  | some (.int k)=>some [.int k]
  | some .string=>some [.str]
  | some (.slice e)=>(match A6J P n e with
   | some ks=>(match Nat.beq (P.cellsOf e) ks.length with | true=>some [.sl ks] | false=>none)
   | none=>none)
  | some (.struct fs)=>(match B0l P (A6J P n) fs.toList 0 with
   | some ks=>(match Nat.beq (P.cellsOf t) ks.length with | true=>some ks | false=>none)
   | none=>none)
  | _=>none
structure FitL (w:World) (ks:List LK) (l:List AV) (cs:List Value):Prop where
 len:l.length=ks.length
 clen:cs.length=ks.length
 fit:∀ (j:Nat) (y:AV) (k:LK),l[j]?=some y→ks[j]?=some k→Fit k y
 rep:∀ (j:Nat) (y:AV) (c:Value),l[j]?=some y→cs[j]?=some c→M0 w st0 y c
theorem FitL.one {w:World} {ks:List LK} {l:List AV} {cs:List Value} (h:FitL w ks l cs):∀ v∈l,v.one=true:=fun v hv=>by
 obtain ⟨j,hj,rfl⟩:=D7D hv
 exact (h.fit j _ (ks[j]'(by rw [←h.len];exact hj)) (D5K hj) (D5K (by rw [←h.len];exact hj))).one
theorem FitL.nil (w:World):FitL w [] [] []:=⟨rfl,rfl,fun j y k h=>by simp at h,fun j y c h=>by simp at h⟩
theorem FitL.app {w:World} {ks ks':List LK} {l l':List AV} {cs cs':List Value} (h:FitL w ks l cs) (h':FitL w ks' l' cs'):FitL w (ks++ks') (l++l') (cs++cs'):=by
 have h1:=h.len;have h2:=h.clen;have h3:=h'.len;have h4:=h'.clen
 refine ⟨by simp [h1,h3],by simp [h2,h4],fun j y k hy hk=>?_,fun j y c hy hc=>?_⟩
 ·by_cases hj:j<l.length
  ·rw [D6a hj] at hy;rw [D6a (by omega)] at hk;exact h.fit j y k hy hk
  ·rw [D5Z (by omega)] at hy;rw [D5Z (by omega)] at hk
   rw [show j - l.length=j - ks.length by omega] at hy;exact h'.fit _ y k hy hk
 ·by_cases hj:j<l.length
  ·rw [D6a hj] at hy;rw [D6a (by omega)] at hc;exact h.rep j y c hy hc
  ·rw [D5Z (by omega)] at hy;rw [D5Z (by omega)] at hc
   rw [show j - l.length=j - cs.length by omega] at hy;exact h'.rep _ y c hy hc
theorem FitL.single {w:World} {k:LK} {v:AV} {c:Value} (h:Fit k v) (hr:M0 w st0 v c):FitL w [k] [v] [c] :=
 ⟨rfl,rfl,fun j y k' hy hk=>by cases j<;>simp at hy hk;subst hy;subst hk;exact h,fun j y c' hy hc=>by cases j<;>simp at hy hc;subst hy;subst hc;exact hr⟩
section
variable {H:Type} {enc:TypeId×Value→H} {P:Program} {w:World} {base:Nat} {spare:Nat→Bool} {held:Bool}
theorem A9K {n m:Nat} (ih:∀ (t:TypeId) (ks:List LK) (cs:List Value) (x:DataW H×List MemPlace),A6J P n t=some ks→DataW.trod enc P w base spare held m t cs=some x→∃ l,FitL w ks l cs) {cs:List Value} :
  ∀ (fs:List Field) (o:Nat) (ks:List LK),B0l P (A6J P n) fs o=some ks→(∀ f∈fs,∃ x,DataW.trod enc P w base spare held m f.type ((cs.drop f.offset).take (P.cellsOf f.type))=some x)→∃ l,FitL w ks l ((cs.drop o).take ks.length)
 | [],o,ks,h,_=>by cases h;exact ⟨[],by simpa using FitL.nil w⟩
 | f::fs,o,ks,h,hx=>by
  unfold B0l at h
  split at h
  ·rename_i k1 ho hk1
   split at h
   ·rename_i k2 hc hk2
    cases h
    have ho:=D7B ho
    have hc:=D7B hc
    obtain ⟨x,h1⟩:=hx f (D6f ..)
    rw [ho,hc] at h1
    obtain ⟨l1,g1⟩:=ih f.type k1 _ x hk1 h1
    obtain ⟨l2,g2⟩:=A9K ih fs (o+k1.length) k2 hk2 fun f' hf=>hx f' (D6d _ hf)
    refine ⟨l1++l2,?_⟩
    have e:(cs.drop o).take (k1++k2).length=(cs.drop o).take k1.length++(cs.drop (o+k1.length)).take k2.length:=by
     rw [D5O,List.take_add,List.drop_drop]
    rw [e];exact g1.app g2
   ·cases h
  ·cases h
theorem open_kinds:∀ (n m:Nat) (t:TypeId) (ks:List LK) (cs:List Value) (x:DataW H×List MemPlace),A6J P n t=some ks→DataW.trod enc P w base spare held m t cs=some x→∃ l,FitL w ks l cs
 | 0,m,t,ks,cs,x,h,_=>by cases h
 | n+1,m,t,ks,cs,x,h,hx=>by
  unfold A6J at h
  split at h
  ·rename_i ht;cases h;obtain ⟨b,rfl,_⟩:=DataW.trod_bool ht hx;exact ⟨[.bool b],.single (.bool b) (.bool b)⟩
  ·rename_i k ht;cases h;obtain ⟨i,rfl,_,hw⟩:=DataW.trod_int ht hx;exact ⟨[.int k i],.single (.int k i hw) (.int k i)⟩
  ·rename_i ht;cases h;obtain ⟨s,rfl,_,hs⟩:=DataW.trod_string ht hx;exact ⟨[.str s],.single (.str s hs) (.str s)⟩
  ·rename_i e ht
   split at h
   case h_2=>cases h
   rename_i ks' hk
   split at h
   case h_2=>cases h
   rename_i hb
   cases h
   have hb:=D7B hb
   rcases DataW.trod_slice ht hx with ⟨rfl,_⟩ | ⟨a,len,cap,elems,rest,m',rfl,rfl,_,hba,hl,hm,hlen,hel,_,_⟩
   ·exact ⟨[.arr ks'.length 0 (fun _=>B2Y [])],.single (.sl ks' 0 (fun _=>[]) (D6e _) (fun i hi=>absurd hi (by omega)) (fun i j y k hi=>absurd hi (by omega))) (.arr _ 0 _ none 0 (fun _ _=>undef) (D5L _) (fun h=>absurd h (by omega)) (fun i hi=>absurd hi (by omega)) (fun i hi=>absurd hi (by omega)) (fun a ha=>by cases ha) (fun i j y hi=>absurd hi (by omega)))⟩
   ·have hall:∀ i,∃ p:List AV×List Value,i<len→w.cells? base (a.add (i * P.cellsOf e)) (P.cellsOf e)=some p.2∧FitL w ks' p.1 p.2:=fun i=>by
     by_cases hi:i<len
     ·have h1:=hel i hi
      rw [D5K (by omega),D6P] at h1
      obtain ⟨c1,h2,h3⟩:=h1
      obtain ⟨l,h4⟩:=open_kinds n m' e ks' c1 _ hk h3
      exact ⟨(l,c1),fun _=>⟨h2,h4⟩⟩
     ·exact ⟨([],[]),fun h=>absurd h hi⟩
    obtain ⟨p,hp⟩:=Classical.axiomOfChoice hall
    refine ⟨[.arr ks'.length len (fun i=>B2Y (p i).1)],.single (.sl ks' len (fun i=>(p i).1) (by omega) (fun i hi=>(hp i hi).2.len) (fun i j y k hi=>(hp i hi).2.fit j y k)) ?_⟩
    have hc:∀ i,i<len→cellsOf (B2Y (p i).1)=(p i).1:=fun i hi=>B3e (hp i hi).2.one
    refine .arr _ len _ (some a) cap (fun i j=>(p i).2.getD j undef) hl (fun _=>⟨a,rfl⟩) (fun i hi=>by rw [hc i hi];exact (hp i hi).2.len) (fun i hi=>by rw [hc i hi];exact D5Y.2 (hp i hi).2.one) (fun b hb' i j hi hj=>?_) (fun i j y hi hy=>?_)
    ·cases hb'
     have h5:=(World.cells?_some (hp i hi).1)
     have h6:=h5.2.2 j (by omega)
     have hj2:j<(p i).2.length:=by rw [(hp i hi).2.clen];exact hj
     show w.cell? _=_
     rw [D5C,D5K hj2,Option.getD_some]
     rw [D5K hj2] at h6
     rw [←h6,hb];show w.cell? _=w.cell? _;rw [C2x]
    ·rw [hc i hi] at hy
     have hj:j<(p i).1.length:=(D5U.1 hy).1
     have hj2:j<(p i).2.length:=by rw [(hp i hi).2.clen,←(hp i hi).2.len];exact hj
     rw [D5C,D5K hj2,Option.getD_some]
     exact (hp i hi).2.rep j y _ hy (D5K hj2)
  ·rename_i fs ht
   split at h
   case h_2=>cases h
   rename_i ks' hk
   split at h
   case h_2=>cases h
   rename_i hb
   cases h
   have hb:=D7B hb
   obtain ⟨xs,m',rfl,_,hlen,hxl,hf⟩:=DataW.trod_struct ht hx
   obtain ⟨l,hl⟩:=A9K (fun t ks cs x=>open_kinds n m' t ks cs x) (cs:=cs) fs.toList 0 ks hk fun f hfm=>by
    obtain ⟨i,hi,rfl⟩:=D7D hfm
    have:=hf i fs[i] (by simp at hi;simp [hi])
    rw [D5K (by simp at hi;omega)] at this
    exact ⟨_,by simpa using this⟩
   refine ⟨l,?_⟩
   rw [List.drop_zero,D7w (by omega)] at hl
   exact hl
  ·cases h
end
end Go.Ab
namespace Go.Ab
open Go
abbrev A7n (ks:List LK) (L:List AV):Prop:=L.length=ks.length∧∀ (j:Nat) (y:AV) (k:LK),L[j]?=some y→ks[j]?=some k→Fit k y
abbrev A8O {α : Type} (ks:List LK) (enc : α→AV) (Q : α→Prop):Prop:=∀ L:List AV,A7n ks L→∃ x,F1 L (cellsOf (enc x))∧(cellsOf (enc x)).all AV.one=true∧Q x
theorem Fit.inv_str {y:AV} (h:Fit .str y):∃ s:C8,y=eS s∧s.size≤maxLen:=by cases h with | str s hs=>exact ⟨s,rfl,hs⟩
theorem Fit.inv_int {y:AV} (h:Fit (.int .i64) y):∃ n:Int,y=eI n∧(Lit.int .i64 n).wf=true:=by cases h with | int k n hn=>exact ⟨n,rfl,hn⟩
theorem Fit.inv_bool {y:AV} (h:Fit .bool y):∃ b:Bool,y=eB b:=by cases h with | bool b=>exact ⟨b,rfl⟩
theorem Fit.inv_sl {α : Type} [Inhabited α] {ks:List LK} {y:AV} {enc : α→AV} {Q : α→Prop} (hd:A8O ks enc Q) (h:Fit (.sl ks) y) :
  ∃ l:List α,Le y (A8 ks.length enc l)∧l.length≤maxLen∧∀ x∈l,Q x:=by
 cases h with
 | sl ks n L hn hl hf =>
  have h1:∀ i,∃ x,i<n→F1 (L i) (cellsOf (enc x))∧(cellsOf (enc x)).all AV.one=true∧Q x:=fun i=>by
   by_cases hi:i<n
   ·obtain ⟨x,hx⟩:=hd (L i) ⟨hl i hi,fun j y k=>hf i j y k hi⟩
    exact ⟨x,fun _=>hx⟩
   ·exact ⟨default,fun h=>absurd h hi⟩
  obtain ⟨g,hg⟩:=Classical.axiomOfChoice h1
  have hlen:((List.range n).map g).length=n:=by rw [D5H,D6c]
  refine ⟨(List.range n).map g,?_,by rw [hlen];exact hn,fun x hx=>?_⟩
  ·unfold A8
   rw [hlen]
   refine Le.arr fun i hi=>?_
   have e:((List.range n).map g).getD i default=g i:=by
    rw [D5C,D6B,D7h hi];rfl
   have one:∀ v∈L i,v.one=true:=fun v hv=>by
    obtain ⟨j,hj,rfl⟩:=D7D hv
    exact (hf i j _ (ks[j]'(by rw [←hl i hi];exact hj)) hi (D5K hj) (D5K (by rw [←hl i hi];exact hj))).one
   rw [e,B3e one]
   exact ⟨(hg i hi).1,(hg i hi).2.1⟩
  ·obtain ⟨i,hi,rfl⟩:=D5X.1 hx
   exact (hg i (D5S.1 hi)).2.2
theorem FitL.slice {α : Type} [Inhabited α] {w:World} {ks:List LK} {l:List AV} {c:Value} {enc : α→AV} {Q : α→Prop} (hd:A8O ks enc Q) (h:FitL w [.sl ks] l [c]) :
  ∃ x:List α,M0 w st0 (A8 ks.length enc x) c∧x.length≤maxLen∧∀ y∈x,Q y:=by
 obtain ⟨y,rfl⟩:=List.length_eq_one_iff.1 h.len
 obtain ⟨x,h1,h2,h3⟩:=(h.fit 0 y (.sl ks) rfl rfl).inv_sl hd
 exact ⟨x,h1 _ _ _ (h.rep 0 y c rfl rfl),h2,h3⟩
theorem C7b {k0:LK} {L:List AV} (h:A7n [k0] L):∃ x0,L=[x0]∧Fit k0 x0:=by
 obtain ⟨h1,h2⟩:=h
 match L,h1 with
 | [x0],_=>exact ⟨x0,rfl,h2 0 _ _ rfl rfl⟩
theorem C3c {k0 k1:LK} {L:List AV} (h:A7n [k0,k1] L):∃ x0 x1,L=[x0,x1]∧Fit k0 x0∧Fit k1 x1:=by
 obtain ⟨h1,h2⟩:=h
 match L,h1 with
 | [x0,x1],_=>exact ⟨x0,x1,rfl,h2 0 _ _ rfl rfl,h2 1 _ _ rfl rfl⟩
theorem C7c {k0 k1 k2:LK} {L:List AV} (h:A7n [k0,k1,k2] L):∃ x0 x1 x2,L=[x0,x1,x2]∧Fit k0 x0∧Fit k1 x1∧Fit k2 x2:=by
 obtain ⟨h1,h2⟩:=h
 match L,h1 with
 | [x0,x1,x2],_=>exact ⟨x0,x1,x2,rfl,h2 0 _ _ rfl rfl,h2 1 _ _ rfl rfl,h2 2 _ _ rfl rfl⟩
theorem C7d {k0 k1 k2 k3:LK} {L:List AV} (h:A7n [k0,k1,k2,k3] L):∃ x0 x1 x2 x3,L=[x0,x1,x2,x3]∧Fit k0 x0∧Fit k1 x1∧Fit k2 x2∧Fit k3 x3:=by
 obtain ⟨h1,h2⟩:=h
 match L,h1 with
 | [x0,x1,x2,x3],_=>exact ⟨x0,x1,x2,x3,rfl,h2 0 _ _ rfl rfl,h2 1 _ _ rfl rfl,h2 2 _ _ rfl rfl,h2 3 _ _ rfl rfl⟩
theorem C7U {k0 k1 k2 k3 k4 k5 k6 k7 k8 k9 k10 k11 k12 k13 k14:LK} {L:List AV} (h:A7n [k0,k1,k2,k3,k4,k5,k6,k7,k8,k9,k10,k11,k12,k13,k14] L):∃ x0 x1 x2 x3 x4 x5 x6 x7 x8 x9 x10 x11 x12 x13 x14,L=[x0,x1,x2,x3,x4,x5,x6,x7,x8,x9,x10,x11,x12,x13,x14]∧Fit k0 x0∧Fit k1 x1∧Fit k2 x2∧Fit k3 x3∧Fit k4 x4∧Fit k5 x5∧Fit k6 x6∧Fit k7 x7∧Fit k8 x8∧Fit k9 x9∧Fit k10 x10∧Fit k11 x11∧Fit k12 x12∧Fit k13 x13∧Fit k14 x14:=by
 obtain ⟨h1,h2⟩:=h
 match L,h1 with
 | [x0,x1,x2,x3,x4,x5,x6,x7,x8,x9,x10,x11,x12,x13,x14],_=>exact ⟨x0,x1,x2,x3,x4,x5,x6,x7,x8,x9,x10,x11,x12,x13,x14,rfl,h2 0 _ _ rfl rfl,h2 1 _ _ rfl rfl,h2 2 _ _ rfl rfl,h2 3 _ _ rfl rfl,h2 4 _ _ rfl rfl,h2 5 _ _ rfl rfl,h2 6 _ _ rfl rfl,h2 7 _ _ rfl rfl,h2 8 _ _ rfl rfl,h2 9 _ _ rfl rfl,h2 10 _ _ rfl rfl,h2 11 _ _ rfl rfl,h2 12 _ _ rfl rfl,h2 13 _ _ rfl rfl,h2 14 _ _ rfl rfl⟩
abbrev QT {α : Type} (_ : α):Prop:=True
abbrev C0J:List LK:=[.str]
theorem B0U:A8O C0J eS QT:=fun L h=>by
 obtain ⟨a,rfl,ha⟩:=C7b h
 obtain ⟨a,rfl,_⟩:=ha.inv_str
 exact ⟨a,F1.refl _,rfl,trivial⟩
abbrev kInt:List LK:=[.int .i64]
theorem decInt:A8O kInt eI QT:=fun L h=>by
 obtain ⟨a,rfl,ha⟩:=C7b h
 obtain ⟨a,rfl,_⟩:=ha.inv_int
 exact ⟨a,F1.refl _,rfl,trivial⟩
abbrev C7i:List LK:=[.int .i64,.int .i64,.int .i64]
theorem C5v:A8O C7i S3 QT:=fun L h=>by
 obtain ⟨a0,a1,a2,rfl,h0,h1,h2⟩:=C7c h
 obtain ⟨a0,rfl,_⟩:=h0.inv_int
 obtain ⟨a1,rfl,_⟩:=h1.inv_int
 obtain ⟨a2,rfl,_⟩:=h2.inv_int
 exact ⟨⟨a0,a1,a2⟩,F1.cons (Le.refl _) (F1.cons (Le.refl _) (F1.cons (Le.refl _) (F1.nil))),rfl,trivial⟩
abbrev C7h:List LK:=[.sl C0J,.sl C0J,.int .i64]
theorem C5t:A8O C7h W1 QT:=fun L h=>by
 obtain ⟨a0,a1,a2,rfl,h0,h1,h2⟩:=C7c h
 obtain ⟨b0,e0,_,_⟩:=h0.inv_sl B0U
 obtain ⟨b1,e1,_,_⟩:=h1.inv_sl B0U
 obtain ⟨a2,rfl,_⟩:=h2.inv_int
 exact ⟨⟨⟨b0,b1⟩,a2⟩,F1.cons (e0) (F1.cons (e1) (F1.cons (Le.refl _) (F1.nil))),rfl,trivial⟩
abbrev C7g:List LK:=[.str,.str,.int .i64,.bool]
theorem C5s:A8O C7g E5 QT:=fun L h=>by
 obtain ⟨a0,a1,a2,a3,rfl,h0,h1,h2,h3⟩:=C7d h
 obtain ⟨a0,rfl,_⟩:=h0.inv_str
 obtain ⟨a1,rfl,_⟩:=h1.inv_str
 obtain ⟨a2,rfl,_⟩:=h2.inv_int
 obtain ⟨a3,rfl⟩:=h3.inv_bool
 exact ⟨⟨a0,a1,a2,a3⟩,F1.cons (Le.refl _) (F1.cons (Le.refl _) (F1.cons (Le.refl _) (F1.cons (Le.refl _) (F1.nil)))),rfl,trivial⟩
abbrev B5M:List LK:=[.str,.int .i64]
theorem B7B:A8O B5M A0W QT:=fun L h=>by
 obtain ⟨a0,a1,rfl,h0,h1⟩:=C3c h
 obtain ⟨a0,rfl,_⟩:=h0.inv_str
 obtain ⟨a1,rfl,_⟩:=h1.inv_int
 exact ⟨⟨a0,a1⟩,F1.cons (Le.refl _) (F1.cons (Le.refl _) (F1.nil)),rfl,trivial⟩
abbrev C7j:List LK:=[.str,.sl B5M,.int .i64,.int .i64]
theorem C5w:A8O C7j T4 QT:=fun L h=>by
 obtain ⟨a0,a1,a2,a3,rfl,h0,h1,h2,h3⟩:=C7d h
 obtain ⟨a0,rfl,_⟩:=h0.inv_str
 obtain ⟨b1,e1,_,_⟩:=h1.inv_sl B7B
 obtain ⟨a2,rfl,_⟩:=h2.inv_int
 obtain ⟨a3,rfl,_⟩:=h3.inv_int
 exact ⟨⟨a0,b1,a2,a3⟩,F1.cons (Le.refl _) (F1.cons (e1) (F1.cons (Le.refl _) (F1.cons (Le.refl _) (F1.nil)))),rfl,trivial⟩
abbrev C3l:List LK:=[.str,.int .i64,.int .i64,.str,.str,.bool,.sl C0J,.sl C0J,.int .i64,.int .i64,.int .i64,.int .i64,.int .i64,.sl C7h,.sl C7i]
theorem C2V:A8O C3l B7 QT:=fun L h=>by
 obtain ⟨a0,a1,a2,a3,a4,a5,a6,a7,a8,a9,a10,a11,a12,a13,a14,rfl,h0,h1,h2,h3,h4,h5,h6,h7,h8,h9,h10,h11,h12,h13,h14⟩:=C7U h
 obtain ⟨a0,rfl,_⟩:=h0.inv_str
 obtain ⟨a1,rfl,_⟩:=h1.inv_int
 obtain ⟨a2,rfl,_⟩:=h2.inv_int
 obtain ⟨a3,rfl,_⟩:=h3.inv_str
 obtain ⟨a4,rfl,_⟩:=h4.inv_str
 obtain ⟨a5,rfl⟩:=h5.inv_bool
 obtain ⟨b6,e6,_,_⟩:=h6.inv_sl B0U
 obtain ⟨b7,e7,_,_⟩:=h7.inv_sl B0U
 obtain ⟨a8,rfl,_⟩:=h8.inv_int
 obtain ⟨a9,rfl,_⟩:=h9.inv_int
 obtain ⟨a10,rfl,_⟩:=h10.inv_int
 obtain ⟨a11,rfl,_⟩:=h11.inv_int
 obtain ⟨a12,rfl,_⟩:=h12.inv_int
 obtain ⟨b13,e13,_,_⟩:=h13.inv_sl C5t
 obtain ⟨b14,e14,_,_⟩:=h14.inv_sl C5v
 exact ⟨⟨a0,a1,a2,a3,a4,a5,⟨b6,b7⟩,a8,a9,a10,a11,a12,b13,b14⟩,F1.cons (Le.refl _) (F1.cons (Le.refl _) (F1.cons (Le.refl _) (F1.cons (Le.refl _) (F1.cons (Le.refl _) (F1.cons (Le.refl _) (F1.cons (e6) (F1.cons (e7) (F1.cons (Le.refl _) (F1.cons (Le.refl _) (F1.cons (Le.refl _) (F1.cons (Le.refl _) (F1.cons (Le.refl _) (F1.cons (e13) (F1.cons (e14) (F1.nil))))))))))))))),rfl,trivial⟩
end Go.Ab
namespace Go.Ab
open Go Go.Proofs.YtaapofnkmpiknaaGreat
abbrev C9f:List LK:=[.str,.int .i64]
theorem C7O:A8O C9f A4U QT:=fun L h=>by
 obtain ⟨a0,a1,rfl,h0,h1⟩:=C3c h
 obtain ⟨a0,rfl,_⟩:=h0.inv_str
 obtain ⟨a1,rfl,_⟩:=h1.inv_int
 exact ⟨⟨a0,a1⟩,F1.refl _,rfl,trivial⟩
theorem C7V {k0 k1 k2 k3 k4 k5 k6 k7 k8 k9 k10 k11 k12 k13 k14 k15 k16 k17 k18 k19:LK} {L:List AV} (h:A7n [k0,k1,k2,k3,k4,k5,k6,k7,k8,k9,k10,k11,k12,k13,k14,k15,k16,k17,k18,k19] L):∃ x0 x1 x2 x3 x4 x5 x6 x7 x8 x9 x10 x11 x12 x13 x14 x15 x16 x17 x18 x19,L=[x0,x1,x2,x3,x4,x5,x6,x7,x8,x9,x10,x11,x12,x13,x14,x15,x16,x17,x18,x19]∧Fit k0 x0∧Fit k1 x1∧Fit k2 x2∧Fit k3 x3∧Fit k4 x4∧Fit k5 x5∧Fit k6 x6∧Fit k7 x7∧Fit k8 x8∧Fit k9 x9∧Fit k10 x10∧Fit k11 x11∧Fit k12 x12∧Fit k13 x13∧Fit k14 x14∧Fit k15 x15∧Fit k16 x16∧Fit k17 x17∧Fit k18 x18∧Fit k19 x19:=by
 obtain ⟨h1,h2⟩:=h
 match L,h1 with
 | [x0,x1,x2,x3,x4,x5,x6,x7,x8,x9,x10,x11,x12,x13,x14,x15,x16,x17,x18,x19],_=>exact ⟨x0,x1,x2,x3,x4,x5,x6,x7,x8,x9,x10,x11,x12,x13,x14,x15,x16,x17,x18,x19,rfl,h2 0 _ _ rfl rfl,h2 1 _ _ rfl rfl,h2 2 _ _ rfl rfl,h2 3 _ _ rfl rfl,h2 4 _ _ rfl rfl,h2 5 _ _ rfl rfl,h2 6 _ _ rfl rfl,h2 7 _ _ rfl rfl,h2 8 _ _ rfl rfl,h2 9 _ _ rfl rfl,h2 10 _ _ rfl rfl,h2 11 _ _ rfl rfl,h2 12 _ _ rfl rfl,h2 13 _ _ rfl rfl,h2 14 _ _ rfl rfl,h2 15 _ _ rfl rfl,h2 16 _ _ rfl rfl,h2 17 _ _ rfl rfl,h2 18 _ _ rfl rfl,h2 19 _ _ rfl rfl⟩
abbrev C9g:List LK:=[.int .i64,.int .i64]
theorem C7P:A8O C9g B0V QT:=fun L h=>by
 obtain ⟨a0,a1,rfl,h0,h1⟩:=C3c h
 obtain ⟨a0,rfl,_⟩:=h0.inv_int
 obtain ⟨a1,rfl,_⟩:=h1.inv_int
 exact ⟨⟨a0,a1⟩,F1.refl _,rfl,trivial⟩
abbrev kSale:List LK:=[.sl C7g,.sl C3l,.bool,.bool,.int .i64,.sl C7j,.int .i64,.int .i64,.int .i64,.int .i64,.int .i64,.int .i64,.sl kInt,.sl kInt,.int .i64,.bool,.sl C0J,.sl C9f,.sl C9g,.int .i64]
theorem C5u:A8O kSale B0W QT:=fun L h=>by
 obtain ⟨a0,a1,a2,a3,a4,a5,a6,a7,a8,a9,a10,a11,a12,a13,a14,a15,a16,a17,a18,a19,rfl,h0,h1,h2,h3,h4,h5,h6,h7,h8,h9,h10,h11,h12,h13,h14,h15,h16,h17,h18,h19⟩:=C7V h
 obtain ⟨b0,e0,_,_⟩:=h0.inv_sl C5s
 obtain ⟨b1,e1,_,_⟩:=h1.inv_sl C2V
 obtain ⟨a2,rfl⟩:=h2.inv_bool
 obtain ⟨a3,rfl⟩:=h3.inv_bool
 obtain ⟨a4,rfl,_⟩:=h4.inv_int
 obtain ⟨b5,e5,_,_⟩:=h5.inv_sl C5w
 obtain ⟨a6,rfl,_⟩:=h6.inv_int
 obtain ⟨a7,rfl,_⟩:=h7.inv_int
 obtain ⟨a8,rfl,_⟩:=h8.inv_int
 obtain ⟨a9,rfl,_⟩:=h9.inv_int
 obtain ⟨a10,rfl,_⟩:=h10.inv_int
 obtain ⟨a11,rfl,_⟩:=h11.inv_int
 obtain ⟨b12,e12,_,_⟩:=h12.inv_sl decInt
 obtain ⟨b13,e13,_,_⟩:=h13.inv_sl decInt
 obtain ⟨a14,rfl,_⟩:=h14.inv_int
 obtain ⟨a15,rfl⟩:=h15.inv_bool
 obtain ⟨b16,e16,_,_⟩:=h16.inv_sl B0U
 obtain ⟨b17,e17,_,_⟩:=h17.inv_sl C7O
 obtain ⟨b18,e18,_,_⟩:=h18.inv_sl C7P
 obtain ⟨a19,rfl,_⟩:=h19.inv_int
 exact ⟨⟨⟨b0,b1,⟨a2,a3,a4,b5⟩,⟨a6,a7⟩,⟨a8,a9,a10,a11,b12,b13⟩⟩,a14,a15,b16,b17,b18,a19⟩,F1.cons (e0) (F1.cons (e1) (F1.cons (Le.refl _) (F1.cons (Le.refl _) (F1.cons (Le.refl _) (F1.cons (e5) (F1.cons (Le.refl _) (F1.cons (Le.refl _) (F1.cons (Le.refl _) (F1.cons (Le.refl _) (F1.cons (Le.refl _) (F1.cons (Le.refl _) (F1.cons (e12) (F1.cons (e13) (F1.cons (Le.refl _) (F1.cons (Le.refl _) (F1.cons (e16) (F1.cons (e17) (F1.cons (e18) (F1.cons (Le.refl _) (F1.nil)))))))))))))))))))),rfl,trivial⟩
theorem FitL.sale {w:World} {l:List AV} {cs:List Value} (h:FitL w kSale l cs):∃ x:B2y,M0 w st0 (B0W x) (.agg cs.toArray):=by
 obtain ⟨x,h1,_,_⟩:=C5u l ⟨h.len,h.fit⟩
 refine ⟨x,?_⟩
 have h0:M0 w st0 (.agg l) (.agg cs.toArray):=.agg _ _ (by rw [h.len,←h.clen];simp) fun j y c hy hc=>h.rep j y c hy (by simpa using hc)
 exact (Le.agg h1) _ _ _ h0
end Go.Ab
namespace Go.Ab
open Go
theorem an {a b:Bool} (h:a=true) (k:b=true):(a&&b)=true:=by rw [h,k];rfl
def kindsFit (P:Program) (fn:Func) (c:OpenClaim):Bool:=(c.kinds==(if c.domain.isEmpty then [] else fn.params.toList.map fun t=>match P.underlying t with | some (.int k)=>some k | _=>none))
theorem joined_of {P:Program} {f:FuncId} {fn:Func} {s:ChangeSpec} {c:OpenClaim} (h1:(c.wf (OpenSpec.ofChange s))=true) (h2:(laidOutB P)=true) (h3:(mapsRowed P)=true) (h4:(fn.params.all (P.readableRec ·))=true) (h5:(namedTie P c.named s.vars)=true) (h6:(c.stops==[])=true) (h7:(P.stops==[])=true) (h8:(c.knobs==[])=true) (h9:(P.stopKnobs==[])=true) (h10:(c.inPlace==P.inPlace f)=true) (h11:(c.unfollowed==P.unfollowed f)=true) (h12:(c.recurses==P.recurses f)=true) (h13:(c.named==P.varsNamed f)=true) (h14:(c.maps==(fn.params.toList++s.plain.varTypes P).any (P.mapsRec ·))=true) (h15:(c.ifaces==(fn.params.toList++s.plain.varTypes P).any (P.ifacesRec ·))=true) (h16:(c.mapsOut==P.mapsAmong fn.resultTypes.toList)=true) (h17:(c.loops==(fn.params.toList++s.plain.varTypes P).any (P.loopsFrom ·))=true) (h18:(c.wideKeys==(fn.params.toList++s.plain.varTypes P++fn.resultTypes.toList).any (P.wideKeysFrom ·))=true) (h19:(s.vars.all (P.varReadable ·))=true) (h20:(fn.resultTypes.all (fun t=>P.readableRec t&&decide (t<P.types.size)))=true) (h21:(c.ifacesOut==fn.resultTypes.toList.any (P.ifacesRec ·))=true) (h22:(c.loopsOut==fn.resultTypes.toList.any (P.loopsFrom ·))=true) (h23:(c.plainKeys==P.plainKeys)=true) (h24:c.shortTexts.isNone=true) (h25:P.stopsHeard=true) (h26:P.mayEnter=true) (h27:(c.lifted==P.liftsFinal)=true) (h28:(P.make==some c.make)=true) (h29:kindsFit P fn c=true) (h30:(c.pinned==c.pinnedBy)=true) (h31:(c.veiled==(fn.params.toList++s.plain.varTypes P++fn.resultTypes.toList).any (P.veiledRec ·))=true) (h32:(c.veiledFits P fn.params.toList (fn.params.toList++s.plain.varTypes P++fn.resultTypes.toList))=true):joinedFacts P f fn s c=true:=an (an (an (an (an (an (an (an (an (an (an (an (an (an (an (an (an (an (an (an (an (an (an (an (an (an (an (an (an (an (an (h1) h2) h3) h4) h5) h6) h7) h8) h9) h10) h11) h12) h13) h14) h15) h16) h17) h18) h19) h20) h21) h22) h23) h24) h25) h26) h27) h28) h29) h30) h31) h32
end Go.Ab
namespace Go.Proofs.YtaapofnkmpiknaaGreat.closed
open Go
theorem p2:(laidOutB Tryz.prog)=true:=by kernel_rfl
theorem p3:(mapsRowed Tryz.prog)=true:=by kernel_rfl
theorem p7:(Tryz.prog.stops==[])=true:=by kernel_rfl
theorem p9:(Tryz.prog.stopKnobs==[])=true:=by kernel_rfl
theorem p25:(Tryz.prog.stopsHeard)=true:=by kernel_rfl
theorem p26:(Tryz.prog.mayEnter)=true:=by kernel_rfl
end Go.Proofs.YtaapofnkmpiknaaGreat.closed
namespace Go.Proofs.YtaapofnkmpiknaaGreat.receiptShares
open Go.ChangeShapes Go.WideShapes Go.ChangeAt Go.RowKit
open Go.ChangeMaps (open_string shut_string)
theorem c1:(Rows.receiptSharesRow.wf (OpenSpec.ofChange Rows.receiptSharesSpec))=true:=by kernel_rfl
theorem c4:(Tryz.f4.params.all (Tryz.prog.readableRec ·))=true:=by kernel_rfl
theorem c5:(namedTie Tryz.prog Rows.receiptSharesRow.named Rows.receiptSharesSpec.vars)=true:=by kernel_rfl
theorem c6:((Rows.receiptSharesRow.stops==[]))=true:=by kernel_rfl
theorem c8:((Rows.receiptSharesRow.knobs==[]))=true:=by kernel_rfl
theorem c10:((Rows.receiptSharesRow.inPlace==Tryz.prog.inPlace 4))=true:=by kernel_rfl
theorem c11:((Rows.receiptSharesRow.unfollowed==Tryz.prog.unfollowed 4))=true:=by kernel_rfl
theorem c12:((Rows.receiptSharesRow.recurses==Tryz.prog.recurses 4))=true:=by kernel_rfl
theorem c13:((Rows.receiptSharesRow.named==Tryz.prog.varsNamed 4))=true:=by kernel_rfl
theorem c14:((Rows.receiptSharesRow.maps==(Tryz.f4.params.toList++Rows.receiptSharesSpec.plain.varTypes Tryz.prog).any (Tryz.prog.mapsRec ·)))=true:=by kernel_rfl
theorem c15:((Rows.receiptSharesRow.ifaces==(Tryz.f4.params.toList++Rows.receiptSharesSpec.plain.varTypes Tryz.prog).any (Tryz.prog.ifacesRec ·)))=true:=by kernel_rfl
theorem c16:((Rows.receiptSharesRow.mapsOut==Tryz.prog.mapsAmong Tryz.f4.resultTypes.toList))=true:=by kernel_rfl
theorem c17:((Rows.receiptSharesRow.loops==(Tryz.f4.params.toList++Rows.receiptSharesSpec.plain.varTypes Tryz.prog).any (Tryz.prog.loopsFrom ·)))=true:=by kernel_rfl
theorem c18:((Rows.receiptSharesRow.wideKeys==(Tryz.f4.params.toList++Rows.receiptSharesSpec.plain.varTypes Tryz.prog++Tryz.f4.resultTypes.toList).any (Tryz.prog.wideKeysFrom ·)))=true:=by kernel_rfl
theorem c19:(Rows.receiptSharesSpec.vars.all (Tryz.prog.varReadable ·))=true:=by kernel_rfl
theorem c20:(Tryz.f4.resultTypes.all (fun t=>Tryz.prog.readableRec t&&decide (t<Tryz.prog.types.size)))=true:=by kernel_rfl
theorem c21:((Rows.receiptSharesRow.ifacesOut==Tryz.f4.resultTypes.toList.any (Tryz.prog.ifacesRec ·)))=true:=by kernel_rfl
theorem c22:((Rows.receiptSharesRow.loopsOut==Tryz.f4.resultTypes.toList.any (Tryz.prog.loopsFrom ·)))=true:=by kernel_rfl
theorem c23:((Rows.receiptSharesRow.plainKeys==Tryz.prog.plainKeys))=true:=by kernel_rfl
theorem c24:(Rows.receiptSharesRow.shortTexts.isNone)=true:=by kernel_rfl
theorem c27:((Rows.receiptSharesRow.lifted==Tryz.prog.liftsFinal))=true:=by kernel_rfl
theorem c28:((Tryz.prog.make==some Rows.receiptSharesRow.make))=true:=by kernel_rfl
theorem c29:Ab.kindsFit Tryz.prog Tryz.f4 Rows.receiptSharesRow=true:=by kernel_rfl
theorem c30:((Rows.receiptSharesRow.pinned==Rows.receiptSharesRow.pinnedBy))=true:=by kernel_rfl
theorem c31:((Rows.receiptSharesRow.veiled==(Tryz.f4.params.toList++Rows.receiptSharesSpec.plain.varTypes Tryz.prog++Tryz.f4.resultTypes.toList).any (Tryz.prog.veiledRec ·)))=true:=by kernel_rfl
theorem c32:(Rows.receiptSharesRow.veiledFits Tryz.prog Tryz.f4.params.toList (Tryz.f4.params.toList++Rows.receiptSharesSpec.plain.varTypes Tryz.prog++Tryz.f4.resultTypes.toList))=true:=by kernel_rfl
theorem C0u:joinedFacts Tryz.prog 4 Tryz.f4 Rows.receiptSharesSpec Rows.receiptSharesRow=true:=Ab.joined_of c1 closed.p2 closed.p3 c4 c5 c6 closed.p7 c8 closed.p9 c10 c11 c12 c13 c14 c15 c16 c17 c18 c19 c20 c21 c22 c23 c24 closed.p25 closed.p26 c27 c28 c29 c30 c31 c32
theorem own:ownKnob Tryz.prog.godebug=none:=by kernel_rfl
theorem B9x:laidOutB Tryz.prog=true:=closed.p2
theorem D4a (c0:Array Value) (c1:Value) (w:World) (l0 l1:List Ab.AV) (h0:Ab.FitL w Ab.kSale l0 c0.toList) (h1:Ab.FitL w [.sl Ab.kInt] l1 [c1]) :
  Calls Tryz.prog 4 #[.agg c0,c1] w fun e w'=>e=.returned (.bool true)∧Below w.heap.size w w':=by
 obtain ⟨x0,r0⟩:=h0.sale
 obtain ⟨x1,r1,_,_⟩:=h1.slice Ab.decInt
 refine Ab.law_of_S (B0g x0 x1 Ab.st0) ⟨rfl,fun j y c hy hc=>?_⟩
 match j with
 | 0=>cases hy;cases hc;exact r0
 | 1=>cases hy;cases hc;exact r1
 | j+2=>cases hy
set_option maxRecDepth 100000 in
theorem lifted (os:Os) (started:os.Started) (H:Type) (enc:TypeId×Value→H) :
  ReturnsInHanded {} Tryz.checked os 4 .any (Rows.receiptSharesSpec.pre6 enc Tryz.prog Tryz.f4 Rows.receiptSharesRow.domain false) (Rows.receiptSharesSpec.post enc Tryz.prog Tryz.f4 false true false false):=by
 refine returnsInHanded_of_change_sized (C:=Tryz.checked) own started (by kernel_rfl) Tryz.func4
  (ChangeSpec.witness6 (enc:=enc) (C:=Tryz.checked) false ⟨#[],#[.agg #[.slice none 0 0,.slice none 0 0,.bool false,.bool false,.int .i64 0,.slice none 0 0,.int .i64 0,.int .i64 0,.int .i64 0,.int .i64 0,.int .i64 0,.int .i64 0,.slice none 0 0,.slice none 0 0,.int .i64 0,.bool false,.slice none 0 0,.slice none 0 0,.slice none 0 0,.int .i64 0],.slice none 0 0],[]⟩ 12 (by kernel_rfl) (by kernel_rfl) (by kernel_rfl) (by kernel_rfl)) ?_
 intro W base args ds gs before hval0 hW hcnd hsz0 _
 have hval:∀ (j:Nat) t v,Tryz.f4.params[j]?=some t→args[j]?=some v→Value.okWide Tryz.prog W .any base t v:=hval0
 have hW':=hW
 obtain ⟨p,q,hA0,hV,rfl,hfz,hnd⟩:=hW
 have hA:DataW.TrodAll enc Tryz.prog W 0 (fun _=>true) true Tryz.f4.params.toList args.toList ds p:=hA0
 rw [Tryz.params4] at hA hval
 obtain ⟨v0,vs0,d0,ds0,p0,q0,hargs,rfl,rfl,h0,r0⟩:=trodAll_cons hA
 obtain ⟨v1,vs1,d1,ds1,p1,q1,rfl,rfl,rfl,h1,r1⟩:=trodAll_cons r0
 obtain ⟨rfl,rfl,rfl⟩:=trodAll_nil r1
 obtain rfl:args=#[v0,v1]:=by cases args;simp_all
 obtain ⟨rfl,rfl⟩:=trodVars_none hV
 obtain ⟨a0,rfl,_⟩:=okWide_struct Tryz.underlying38 (hval 0 38 v0 rfl rfl)
 obtain ⟨a1,len1,cap1,rfl⟩:=okWide_slice Tryz.underlying29 (hval 1 29 v1 rfl rfl)
 have k0:=h0
 have lt0:∀ x∈p0,x.block<W.heap.size:=by obtain ⟨m,hm⟩:=k0;exact DataW.trod_lt m _ _ _ hm
 have k1:=h1
 have lt1:∀ x∈p1,x.block<W.heap.size:=by obtain ⟨m,hm⟩:=k1;exact DataW.trod_lt m _ _ _ hm
 obtain ⟨l0,hl0⟩:∃ l,Ab.FitL W Ab.kSale l a0.toList:=by
  obtain ⟨fuel,hf⟩:=h0
  exact Ab.open_kinds 10 fuel 38 Ab.kSale _ _ (by kernel_rfl) hf
 obtain ⟨l1,hl1⟩:∃ l,Ab.FitL W [.sl Ab.kInt] l [.slice a1 len1 cap1]:=by
  obtain ⟨fuel,hf⟩:=h1
  exact Ab.open_kinds 3 fuel 29 [.sl Ab.kInt] _ _ (by kernel_rfl) hf
 clear hA0 hval0 hsz0
 refine (D4a a0 _ W l0 l1 hl0 hl1).mono fun e W' ⟨he,bel⟩=>?_
 subst he
 exact ⟨_,rfl,_,_,_,[],_,[],hW',trodAll_mk1 (shut_bool Tryz.underlying4 _),trodAll_cons_mk (Below.trod B9x (by kernel_rfl) (D5F (by kernel_rfl)) k0 bel lt0) (trodAll_cons_mk (Below.trod B9x (by kernel_rfl) (D5F (by kernel_rfl)) k1 bel lt1) trodAll_mk0),rfl,bel.frame _,fun h=>by cases h⟩
theorem over:Rows.receiptSharesRow.holds Tryz.pinned (OpenSpec.ofChange Rows.receiptSharesSpec) :=
 OpenClaim.holds_of_wide 4 Tryz.f4 rfl rfl rfl rfl rfl rfl rfl ⟨rfl,rfl,rfl,rfl,rfl⟩ rfl rfl rfl rfl rfl (by kernel_rfl) Tryz.func4 C0u
  (D5F (by kernel_rfl)) (by unfold Func.isWrapper;first | (rw [if_pos (by decide +kernel)];kernel_rfl) | (rw [if_neg (by decide +kernel)];exact ⟨rfl,rfl⟩))
  (fun os started H enc _=>lifted os started H enc)
theorem proved:Rows.ReceiptSharesSaid:=over
#print axioms proved
end Go.Proofs.YtaapofnkmpiknaaGreat.receiptShares
namespace Go.Proofs.YtaapofnkmpiknaaGreat
theorem receiptShares_holds:Rows.ReceiptSharesSaid:=receiptShares.proved
end Go.Proofs.YtaapofnkmpiknaaGreat
