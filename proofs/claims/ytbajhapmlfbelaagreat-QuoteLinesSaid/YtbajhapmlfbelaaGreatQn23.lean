/- Part 23 of the proof: contracts of the functions that the law reaches -/
import Derived.Test.YtbajhapmlfbelaaGreatQn22
import Derived.RangeFuncBox
import Derived.RangeFuncLeaves
import Derived.Shelf.Abstract
import Derived.WalkKit
import Derived.OwnWalkIn
import Derived.TacticsInMore
import Derived.LoopNIn
import Derived.LoopIn
import Derived.Maps.AppendAt
import Derived.RangeFuncNested
import Derived.RangeFuncBound
import Derived.RangeFuncCalls
import Derived.Shelf.SortM.Plain
import Derived.Shelf.SortM.SortNone
set_option maxRecDepth 100000
set_option linter.unusedVariables false
set_option linter.unusedSimpArgs false
namespace Go.Proofs.YtbajhapmlfbelaaGreat
open Go Go.Ab
attribute [local irreducible] upd del
abbrev R1 (p:A8):List AV:=[eS p.id,eI p.kind,eI p.prio,eS p.group,eS p.code,eB p.closes,E6 p.scope.skus,E6 p.scope.cats,eI p.least,eI p.rate,eI p.amount,eI p.buy,eI p.get,A5 3 A0K p.parts,A5 3 A0L p.tiers]
structure B4L (st1:St) (p:A8) (bc:Nat) (nets:List Int) (i:Nat) (svN:AV) (st':St):Prop where
 sup:E2 st1 st'
 new:st1 bc=none
 var:∃ f,st' bc=some ⟨343,16,1,f⟩∧f 0=.agg (R1 p++[svN])
 nets:(i=0∧svN=.emp)∨(0<i∧∃ bn g,bn≠bc∧st1 bn=none∧svN=.own 1 bn 0 i∧st' bn=some ⟨2,1,i,g⟩∧∀ k,k<i→g k=eI (gI nets k))
theorem B4L.shift {st1:St} {p:A8} {bc:Nat} {nets:List Int} {svN:AV} {st':St} (h:B4L st1 p bc nets nets.length svN st'):∃ st'',E2 st1 st''∧A4 [.agg (R1 p++[svN])] st' [A8t p nets] st'':=by
 obtain ⟨h1,h2,h3,⟨h0,rfl⟩ | ⟨h0,bn,g,h4,h5,rfl,h6,h7⟩⟩:=h
 ·refine ⟨st',h1,A4.agg (A4.last (v':=B2 nets) ?_ (R1 p))⟩
  have:B2 nets=.arr 1 0 (fun k=>eI (gI nets k)):=by unfold B2 A5;rw [h0]
  rw [this]
  exact G5 1 _
 ·refine ⟨del st' bn,h1.del h5,A4.agg (A4.last (v':=B2 nets) ?_ (R1 p))⟩
  exact M1 h6 rfl (Nat.le_refl _) h7
theorem B1g {us:List A6} {mine:List Int} (hu:C0 us) (hm:I7 us mine):∀ k,k≤mine.length→∀ B,B≤us.length→(∀ i,i<k→(gI mine i).toNat<B)→A2 ((K2 us mine).take k)≤A2 ((C8 us).take B)
 | 0,_,B,_,_=>by
  rw [List.take_zero]
  exact B8 (fun x hx=>hu.nets0 x (List.take_subset _ _ hx))
 | k+1,hk,B,hB,h=>by
  have hj:=h k (by omega)
  have ih:=B1g hu hm k (by omega) (gI mine k).toNat (by omega) (fun i hi=>by
   have h1:=hm.lt i k hi (by omega)
   have h2:=(hm.rng i (by omega)).1
   omega)
  have e1:=I8 (l:=K2 us mine) (i:=k) (by unfold K2;rw [List.length_map];omega)
  have e2:gI (K2 us mine) k=(gU us (gI mine k).toNat).net:=E7 (fun i:Int=>(gU us i.toNat).net) mine (by omega)
  have e3:=I8 (l:=C8 us) (i:=(gI mine k).toNat) (by rw [List.length_map];omega)
  have e4:gI (C8 us) (gI mine k).toNat=(gU us (gI mine k).toNat).net:=E7 A6.net us (by omega)
  have e5:=E0 (((C8 us).take B).take ((gI mine k).toNat+1)) (((C8 us).take B).drop ((gI mine k).toNat+1))
  rw [List.take_append_drop,List.take_take,Nat.min_eq_left (by omega)] at e5
  have e6:=B8 (l:=((C8 us).take B).drop ((gI mine k).toNat+1)) (fun x hx=>hu.nets0 x (List.take_subset _ _ (List.drop_subset _ _ hx)))
  omega
def kf (p:A8):FuncId:=if p.kind=1 then 291 else if p.kind=2 then 292 else if p.kind=5 then 293 else 294
theorem C1M {p:A8} (hp:A3O p) (nets:List Int) (hl:nets.length≤100000) (h0:∀ x∈nets,0≤x) (hs:A2 nets≤10000000000000) (st:St):S P (kf p) [A8t p nets] st fun v st'=>v=B2 (K3 p nets)∧st'=st:=by
 unfold kf K3
 rcases hp.kind with e | e | e | e
 ·rw [if_pos e,if_pos e];exact B1Z p nets hl st
 ·rw [if_neg (by omega),if_pos e,if_neg (by omega),if_pos e];exact B2W p nets (hp.amount e).1 (hp.amount e).2 hl st
 ·rw [if_neg (by omega),if_neg (by omega),if_pos e,if_neg (by omega),if_neg (by omega),if_pos e];exact B5V p nets (hp.tiers (.inl e)) hl h0 hs st
 ·rw [if_neg (by omega),if_neg (by omega),if_neg (by omega),if_neg (by omega),if_neg (by omega),if_neg (by omega)];exact B4Z p nets (hp.tiers (.inr e)) hl st
theorem B0M {p:A8} (hp:A3O p) (K:AV→Prop) (h:K (.fn (.func (kf p)) [] [])):A3A [.nilf,.fn (.func 291) [] [],.fn (.func 292) [] [],.nilf,.nilf,.fn (.func 293) [] [],.fn (.func 294) [] []] (0+p.kind.toNat * 1) K:=by
 unfold kf at h
 rcases hp.kind with e | e | e | e
 ·rw [if_pos e] at h;rw [e];exact h
 ·rw [if_neg (by omega),if_pos e] at h;rw [e];exact h
 ·rw [if_neg (by omega),if_neg (by omega),if_pos e] at h;rw [e];exact h
 ·rw [if_neg (by omega),if_neg (by omega),if_neg (by omega)] at h;rw [e];exact h
theorem B4V (p:A8) (us:List A6) (mine:List Int) (hp:A3O p) (hu:C0 us) (hm:I7 us mine) (st:St) :
  S P 242 [B6 p,B9 us,B2 mine] st fun v st'=>v=.tuple [B9 (V8 p us mine).1,eI (V8 p us mine).2]∧st'=st:=by
 refine S.post (post:=fun v st'=>∃ sv,v=.tuple [sv,eI (V8 p us mine).2]∧A0X st (V8 p us mine).1 sv st') ?_
  (fun v st' ⟨sv,hv,hr⟩=>⟨_,st,⟨rfl,rfl⟩,by rw [hv];exact A4.tuple (A4.cons hr.shift (A4.keep _ _)) rfl⟩)
 have hul:=hu.len
 have hml:=hm.len
 have hnl:(K2 us mine).length=mine.length:=List.length_map ..
 have hn0:∀ x∈K2 us mine,0≤x:=fun x hx=>by
  obtain ⟨i,hi,rfl⟩:=List.mem_map.1 hx
  obtain ⟨k,hk,rfl⟩:=E4 hi
  exact hu.pos _ (A7 (hm.rng k hk).2)
 have hns:A2 (K2 us mine)≤10000000000000:=by
  have:=B1g hu hm mine.length (Nat.le_refl _) us.length (Nat.le_refl _) (fun i hi=>(hm.rng i hi).2)
  rw [←hnl,List.take_length,show (C8 us).take us.length=C8 us from by rw [←List.length_map (f:=A6.net),List.take_length]] at this
  have:=hu.sum
  omega
 obtain ⟨ob1,ob2,ob3⟩:=A2r hp hn0 hns (by omega)
 refine E3 [3,8] Tryz.func242 ?_
 refine call (A4W us hul st) (fun sv st1 hcol=>?_)
 have hres:=A0X.ofCol hcol
 conv=>whnf
 refine C1 (A4G p hp.fit _) ?_
 rw [hp.right];conv=>whnf
 refine B5 (fun h1=>?_) (fun h1=>?_)<;>rw [h1]<;>simp only [decide_eq_true_eq,decide_eq_false_iff_not] at h1
 ·exact absurd h1 (by rcases hp.kind with e | e | e | e<;>omega)
 conv=>whnf
 refine ⟨⟨by rcases hp.kind with e | e | e | e<;>omega,by rcases hp.kind with e | e | e | e<;>(rw [e];decide)⟩,?_⟩;conv=>whnf
 refine B0M hp _ ?_;conv=>whnf
 refine H9 (A4Y us mine hu hm _) ?_
 intro bc hbc;conv=>whnf
 refine stW (A0 ..) rfl ?_
 have hc0:B4L st1 p bc (K2 us mine) 0 .emp (upd (upd st1 bc ⟨343,16,1,fun _=>F9 B5J.zero⟩) bc ⟨343,16,1,L4 (fun _=>F9 B5J.zero) 0 (.agg (R1 p++[.emp]))⟩) :=
  ⟨((E2.refl st1).upd hbc).over hbc,hbc,⟨_,A0 ..,B3 ..⟩,.inl ⟨rfl,rfl⟩⟩
 refine ⟨[1,2,3,8,9,10,43,44,45],fun m vs st'=>∃ (i:Nat) (svN:AV),i≤mine.length∧m=mine.length - i∧vs=[B9 us,B2 mine,.fptr (B6 p) 0,.fptr (.agg [.nilf,.fn (.func 291) [] [],.fn (.func 292) [] [],.nilf,.nilf,.fn (.func 293) [] [],.fn (.func 294) [] []]) 0,sv,.optr 16 bc 0 0,B2 mine,eI mine.length,eI i]∧B4L st1 p bc (K2 us mine) i svN st',?_,?_⟩
 ·conv=>whnf
  exact ⟨_,0,.emp,Nat.zero_le _,rfl,rfl,hc0⟩
 ·clear hc0
  rintro m vs st' ⟨i,svN,hi,rfl,rfl,hcuts⟩
  obtain ⟨fc,hvc,hfc⟩:=hcuts.var
  conv=>whnf
  cases h:decide ((i:Int)<(mine.length:Int))
  ·have:=of_decide_eq_false h
   obtain rfl:i=mine.length:=by omega
   rw [←hnl] at hcuts
   obtain ⟨st2,hs2,hsh⟩:=hcuts.shift
   conv=>whnf
   refine ⟨[5],[],[0,1,2,3,4,7,5,6],by kernel_rfl,?_⟩;conv=>whnf
   refine ⟨⟨by rcases hp.kind with e | e | e | e<;>omega,by rcases hp.kind with e | e | e | e<;>(rw [e];decide)⟩,?_⟩;conv=>whnf
   refine B0M hp _ ?_;conv=>whnf
   refine J7 hvc hfc ?_
   refine F0 hsh (C1 (C1M hp (K2 us mine) (by omega) hn0 hns _) ?_);conv=>whnf
   generalize ho:K3 p (K2 us mine)=offs at *
   have hol:offs.length≤mine.length:=by omega
   have hsum0:∀ k,0≤A2 (offs.take k)∧A2 (offs.take k)≤10000000000000:=fun k=>by
    have h1:=J4 ob3 k
    have h2:=B8 (l:=offs.take k) (fun x hx=>ob3 x (List.take_subset _ _ hx))
    omega
   refine ⟨[2,3,9,13,65,66,67],fun m vs st'=>∃ k:Nat,k≤offs.length∧m=offs.length - k∧vs=[B2 mine,.fptr (B6 p) 0,sv,eI (A2 (offs.take k)),B2 offs,eI offs.length,eI k]∧E2 st st' ∧
    ((us=[]∧sv=.emp)∨∃ b,st b=none∧sv=.own 3 b 0 us.length∧A0V st' b (F5 us mine offs k)),?_,?_⟩
   ·conv=>whnf
    refine ⟨_,0,Nat.zero_le _,rfl,rfl,hres.1.trans hs2,?_⟩
    rcases hres.2 with h2 | ⟨b,h3,h4,f,h5,h6⟩
    ·exact .inl h2
    ·exact .inr ⟨b,h3,h4,f,hs2 b _ h5,h6⟩
   ·rintro m vs st' ⟨k,hk,rfl,rfl,hsup,hus⟩
    conv=>whnf
    cases h2:decide ((k:Int)<(offs.length:Int))
    ·have:=of_decide_eq_false h2
     obtain rfl:k=offs.length:=by omega
     rw [List.take_length];conv=>whnf
     have hA:∀ (b:Bool),(decide (A2 offs>0)&&p.closes)=b→V8 p us mine=(if b=true then closeB (F5 us mine offs offs.length) mine else F5 us mine offs offs.length,A2 offs):=fun b hb=>by
      unfold V8;rw [ho];simp only [hb]
     have fin:∀ us':List A6,us'.length=us.length→(us=[]∧sv=.emp∨∃ b,st b=none∧sv=.own 3 b 0 us.length∧A0V st' b us')→A0X st us' sv st':=fun us' hl hh=>by
      refine ⟨hsup,?_⟩
      rcases hh with ⟨h3,h4⟩ | ⟨b,h3,h4,h5⟩
      ·exact .inl ⟨List.eq_nil_of_length_eq_zero (by rw [hl,h3];rfl),h4⟩
      ·exact .inr ⟨b,h3,by rw [hl];exact h4,h5⟩
     refine B5 (fun h3=>?_) (fun h3=>?_)<;>rw [h3]
     ·conv=>whnf
      refine B5 (fun h4=>?_) (fun h4=>?_)<;>rw [h4]
      ·have hne:offs≠[]:=fun e=>by rw [e] at h3;simp [A2] at h3
       have hml0:0<mine.length:=by have:=List.length_pos_iff.2 hne;omega
       have hu0:=(hm.rng 0 hml0).2
       conv=>whnf
       rcases hus with ⟨rfl,rfl⟩ | ⟨b,hb0,rfl,hHas⟩
       ·exact absurd hu0 (by simp)
       rw [←J5 us mine offs offs.length]
       refine call (A7m b (F5 us mine offs offs.length) mine (fun x hx=>by
        obtain ⟨j,hj,rfl⟩:=E4 hx
        rw [J5];exact hm.rng j hj) (by omega) st' hHas) (fun v st3 hv=>?_)
       obtain ⟨rfl,hH3,hfr⟩:=hv
       conv=>whnf
       refine ⟨_,by rw [hA true (by rw [h3,h4];rfl)];rfl,?_⟩
       rw [hA true (by rw [h3,h4];rfl),if_pos rfl]
       refine ⟨fun c x hc=>?_,.inr ⟨b,hb0,by rw [A0r],hH3⟩⟩
       rw [hfr c (fun e=>by subst e;rw [hb0] at hc;cases hc)];exact hsup c x hc
      ·conv=>whnf
       refine ⟨_,by rw [hA false (by rw [h3,h4];rfl)];rfl,?_⟩
       rw [hA false (by rw [h3,h4];rfl),if_neg (by simp)]
       exact fin _ (J5 ..) hus
     ·conv=>whnf
      refine ⟨_,by rw [hA false (by rw [h3];rfl)];rfl,?_⟩
      rw [hA false (by rw [h3];rfl),if_neg (by simp)]
      exact fin _ (J5 ..) hus
    ·have hk':k<offs.length:=by have:=of_decide_eq_true h2;omega
     have hr:=hm.rng k (by omega)
     have hat:=B0m (offs:=offs) hm (show k<mine.length by omega)
     have hlen:=J5 us mine offs k
     have hnet0:0≤(gU us (gI mine k).toNat).net:=hu.pos _ (A7 hr.2)
     have hnet1:(gU us (gI mine k).toNat).net≤10000000000000:=hu.le (A7 hr.2)
     have hx0:0≤gI offs k:=ob3 _ (A7 hk')
     have hx1:=I8 hk'
     have hb1:=hsum0 k
     have hb2:=hsum0 (k+1)
     have hoff1:gI offs k≤10000000000000:=by omega
     conv=>whnf
     refine G9 ?_
     rcases hus with ⟨rfl,rfl⟩ | ⟨b,hb0,rfl,f,hst,hf⟩
     ·exact absurd hr.2 (by simp)
     refine G9 ?_
     refine ⟨rfl,⟨by show 0≤gI mine k;exact hr.1,by show gI mine k<(us.length:Int);have:=hr.2;have:=hr.1;omega⟩,?_⟩;conv=>whnf
     have hfm:f (0+(gI mine k).toNat)=U1 (gU (F5 us mine offs k) (gI mine k).toNat):=by rw [Nat.zero_add];exact hf _ (by rw [hlen];exact hr.2)
     refine ldV hst rfl (by show 0+(gI mine k).toNat<_;rw [hlen];have:=hr.2;omega) hfm ?_;conv=>whnf
     refine ⟨rfl,⟨by show 0≤gI mine k;exact hr.1,by show gI mine k<(us.length:Int);have:=hr.2;have:=hr.1;omega⟩,?_⟩;conv=>whnf
     refine stV hst rfl (by show 0+(gI mine k).toNat<_;rw [hlen];have:=hr.2;omega) hfm (by rfl) ?_;conv=>whnf
     refine H4 ?_
     refine ⟨offs.length - (k+1),by omega,k+1,by omega,rfl,?_,hsup.over hb0,.inr ⟨b,hb0,rfl,?_⟩⟩
     ·rw [B7 (by omega),hx1]
      have:IntKind.i64.wrap (A2 (offs.take k)+gI offs k)=A2 (offs.take k)+gI offs k:=B0 (by omega) (by omega)
      rw [←this];rfl
     ·refine A0V.set hf (by rw [hlen];exact hr.2) _ ?_
      rw [A0,Nat.zero_add]
      have w:IntKind.i64.wrap ((gU (F5 us mine offs k) (gI mine k).toNat).net - gI offs k)=(gU (F5 us mine offs k) (gI mine k).toNat).net - gI offs k:=by
       rw [hat];exact B0 (by omega) (by omega)
      rw [←w];rfl
  ·have hi':i<mine.length:=by have:=of_decide_eq_true h;omega
   have hr:=hm.rng i hi'
   have hgn:gI (K2 us mine) i=(gU us (gI mine i).toNat).net:=E7 (fun i:Int=>(gU us i.toNat).net) mine hi'
   conv=>whnf
   refine G9 ?_
   refine ⟨[8,10],[],[0,1,2,3,4,5,6,7,8,9,10],by kernel_rfl,?_⟩;conv=>whnf
   obtain ⟨c1,c2,c3,⟨rfl,rfl⟩ | ⟨hpos,bn,g,hbn,hb1,rfl,hst,hg⟩⟩:=hcuts
   ·refine J7 hvc hfc ?_
    refine ⟨rfl,⟨by show 0≤gI mine 0;exact hr.1,by show gI mine 0<(us.length:Int);have:=hr.2;have:=hr.1;omega⟩,?_⟩;conv=>whnf
    refine ⟨_,⟨rfl,rfl⟩,?_⟩;conv=>whnf
    refine apE rfl rfl rfl rfl (A3M ..) (by show 1 * 8≤_;omega) (fun h=>absurd h (by omega)) (fun _ bn hbn=>?_)
    have hne:bn≠bc:=fun e=>by subst e;rw [hvc] at hbn;cases hbn
    have hbn1:st1 bn=none:=c1.none hbn
    conv=>whnf
    refine stW (by rw [A3 hne.symm];exact hvc) hfc ?_
    refine H4 ?_
    refine ⟨mine.length - 1,by omega,1,.own 1 bn 0 1,by omega,rfl,rfl,⟨(c1.over hbn1).over c2,c2,⟨_,A0 ..,by rw [B3];rfl⟩,.inr ⟨by omega,bn,_,hne,hbn1,rfl,by rw [A3 hne,A0];rfl,fun k hk=>?_⟩⟩⟩
    have:k=0:=by omega
    subst this
    rw [hgn];rfl
   ·refine J7 hvc hfc ?_
    refine ⟨rfl,⟨by show 0≤gI mine i;exact hr.1,by show gI mine i<(us.length:Int);have:=hr.2;have:=hr.1;omega⟩,?_⟩;conv=>whnf
    refine ⟨_,⟨rfl,rfl⟩,?_⟩;conv=>whnf
    refine apO (q:=r2) (n:=i) rfl rfl rfl rfl (A3M ..) hst rfl rfl rfl (by show (i+1) * 8≤_;omega) (fun h=>absurd h (by omega)) (fun _ b' hb'=>?_)
    have hne:b'≠bc:=fun e=>by
     subst e
     rcases hb' with e | e
     ·exact hbn e.symm
     ·rw [hvc] at e;cases e
    have hb1':st1 b'=none:=by
     rcases hb' with rfl | e
     ·exact hb1
     ·exact c1.none e
    conv=>whnf
    refine stW (by rw [A3 hne.symm];unfold del;rw [if_neg hbn.symm];exact hvc) hfc ?_
    refine H4 ?_
    refine ⟨mine.length - (i+1),by omega,i+1,.own 1 b' 0 (i+1),by omega,rfl,by rw [B7 (by omega)],⟨((c1.del hb1).over hb1').over c2,c2,⟨_,A0 ..,by rw [B3];rfl⟩,.inr ⟨by omega,b',_,hne,hb1',rfl,by rw [A3 hne,A0];rfl,fun k hk=>?_⟩⟩⟩
    by_cases hki:k<i
    ·simp only [hki,if_true];exact hg k hki
    ·have:k=i:=by omega
     subst this
     simp only [hki,if_false,Nat.sub_self]
     rw [hgn];rfl
end Go.Proofs.YtbajhapmlfbelaaGreat
namespace Go.Proofs.YtbajhapmlfbelaaGreat
open Go Go.Ab Go.Proofs Go.RowKit Go.Shelf
attribute [local go_sem] Oper.semAt_some
def B1l (u:A6):Value:=.agg #[.int .i64 u.line,.int .i64 u.net,.bool u.opn]
def lnU (l:List G1) (i:Nat):A6:=⟨i,(l.getD i default).price,true⟩
def D3 (l:List G1):Nat→List A6
 | 0=>[]
 | k+1=>D3 l k++List.replicate (l.getD k default).qty.toNat (lnU l k)
structure KpL (n₀ : Nat) (W W':World):Prop where
 below:Below n₀ W W'
 lines:∀ (k:Nat) (cs:Array Value) (fr:Nat×Nat),W.heap[k]?=some (.cells cs 51 fr)→W'.heap[k]?=some (.cells cs 51 fr)
theorem KpL.trans {n₀ : Nat} {A B C:World} (h:KpL n₀ A B) (k:KpL n₀ B C):KpL n₀ A C:=⟨h.below.trans k.below,fun i cs fr hi=>k.lines i cs fr (h.lines i cs fr hi)⟩
theorem A1G {W:World} {b:Nat} {cs:Array Value} {t:TypeId} {fr:Nat×Nat} (h:W.heap[b]?=some (.cells cs t fr)) (o:Nat):W.cell? ⟨b,o,none⟩=cs[o]?:=by
 unfold World.cell?;rw [h];rfl
theorem A7f {B:Nat} {J:List A6→World→Prop} (h:AbidesFrom B J) {s:List A6} {W:World} (o:Obj) (hs:J s W):J s (W.alloc o) :=
 h s W _ none hs (World.grownBy_alloc W o none) (fun r e=>by cases e)
theorem B0p {l:List G1} {k m:Nat} (h:k≤m):(D3 l k).length≤(D3 l m).length:=by
 induction m with
 | zero=>have:k=0:=by omega
         subst this;exact Nat.le_refl _
 | succ m ih =>
  rcases Nat.lt_or_ge m k with h1 | h1
  ·have:k=m+1:=by omega
   subst this;exact Nat.le_refl _
  ·have:=ih h1
   unfold D3;rw [List.length_append]
   exact Nat.le_trans (by cases k<;>first | exact this | exact this) (Nat.le_add_right _ _)
theorem B0q {l:List G1} {k j:Nat} (hk:k<l.length) (hj:j<(l.getD k default).qty.toNat):(D3 l k++List.replicate j (lnU l k)).length<(D3 l l.length).length:=by
 have h1:=B0p (l:=l) (show k+1≤l.length from hk)
 have h2:(D3 l (k+1)).length=(D3 l k).length+(l.getD k default).qty.toNat:=by
  show (D3 l k++List.replicate (l.getD k default).qty.toNat (lnU l k)).length=_
  rw [List.length_append,List.length_replicate]
 rw [List.length_append,List.length_replicate]
 omega
theorem A3z {l:List G1} {k:Nat} (h:k<l.length):l[k]=l.getD k default:=by simp [h]
set_option maxRecDepth 100000 in
set_option maxHeartbeats 2000000 in
theorem B3s (F:Fence) (n:Nat) (hf:F.fn 235) (hro:F.round=none) (hn:1≤n) (lp Bs n₀ b off cap:Nat) (l:List G1) (hlen:l.length≤1000) (hb:b<n₀) (hq:∀ x∈l,0≤x.qty∧x.qty≤100000)
  (J Jx:List A6→World→Prop)
  (hY:∀ pre x W,J pre W→pre.length<(D3 l l.length).length→YieldAt F (n - 1) Tryz.prog lp #[B1l x] W fun e W' =>
   (e=.returned (.bool true)∧J (pre++[x]) W'∧KpL n₀ W W')∨(e=.returned (.bool false)∧Jx (pre++[x]) W'))
  (W:World) (hJ:AbidesFrom W.heap.size J) (hn₀ : n₀≤W.heap.size) (hBs:W.cell? ⟨Bs,0,none⟩=some (.slice (some ⟨b,off,none⟩) l.length cap))
  (hc:∀ j,j<l.length→W.cell? ⟨b,off+j * 3,none⟩=some (.string (l[j]?.getD default).sku)∧W.cell? ⟨b,off+j * 3+1,none⟩=some (.int .i64 (l[j]?.getD default).qty)∧W.cell? ⟨b,off+j * 3+2,none⟩=some (.int .i64 (l[j]?.getD default).price)) (h0:J [] W) :
  CallsIn F n Tryz.prog 235 #[.func (.yield lp) #[] #[],.pointer (some ⟨Bs,0,none⟩)] W fun e W'=>(∃ v,e=.returned v) ∧
   ((∃ ys,ys=D3 l l.length∧J ys W')∨(∃ pre,True∧Jx pre W')):=by
 refine callsIn_of_wp Tryz.func235 rfl hf ?_ hro
 simp only [Tryz.ntmps235,List.size_toArray,List.length_cons,List.length_nil,Nat.reduceAdd,Nat.reduceSub,Array.replicate_succ,Array.replicate_zero,List.push_toArray,List.append_toArray,List.nil_append,List.cons_append]
 gi_wp2
 gi_loopw [7] (fun i wr=>∃ k:Nat,k≤l.length∧i=.int .i64 k∧J (D3 l k) wr∧Below n₀ W wr∧W.heap.size≤wr.heap.size)
  (fun i _=>l.length - (intOf i).toNat)
 case atStart=>exact ⟨0,Nat.zero_le _,rfl,h0,Below.refl _ _,Nat.le_refl _⟩
 case round =>
  obtain ⟨k,hk,rfl,hJs,hnx,hsz⟩:=hrel
  by_cases hlt:k<l.length
  ·have hc1:=(hnx.cell (p:=⟨b,off+k * 3,none⟩) hb).trans (hc k hlt).1
   have hc2:=(hnx.cell (p:=⟨b,off+k * 3+1,none⟩) hb).trans (hc k hlt).2.1
   have hc3:=(hnx.cell (p:=⟨b,off+k * 3+2,none⟩) hb).trans (hc k hlt).2.2
   gi_wp2
   have hqk:=hq _ (List.getElem_mem hlt)
   have hnew:(wr.alloc (Obj.cells #[Value.string l[k].sku,Value.int IntKind.i64 l[k].qty,Value.int IntKind.i64 l[k].price] 51)).heap[wr.heap.size]?=some (.cells #[Value.string l[k].sku,Value.int IntKind.i64 l[k].qty,Value.int IntKind.i64 l[k].price] 51 (0,0)):=World.alloc_heap_new wr _
   have hJa:=A7f hJ (Obj.cells #[Value.string l[k].sku,Value.int IntKind.i64 l[k].qty,Value.int IntKind.i64 l[k].price] 51) hJs
   have hB1:Below n₀ W (wr.alloc (Obj.cells #[Value.string l[k].sku,Value.int IntKind.i64 l[k].qty,Value.int IntKind.i64 l[k].price] 51)):=hnx.alloc (by omega) _
   have hsz1:W.heap.size≤(wr.alloc (Obj.cells #[Value.string l[k].sku,Value.int IntKind.i64 l[k].qty,Value.int IntKind.i64 l[k].price] 51)).heap.size:=by simp;omega
   have hU:lnU l k=⟨k,l[k].price,true⟩:=by unfold lnU;rw [A3z hlt]
   have hup:D3 l (k+1)=D3 l k++List.replicate l[k].qty.toNat (lnU l k):=by
    show D3 l k++List.replicate (l.getD k default).qty.toNat (lnU l k)=_
    rw [A3z hlt]
   generalize hW2:wr.alloc (Obj.cells #[Value.string l[k].sku,Value.int IntKind.i64 l[k].qty,Value.int IntKind.i64 l[k].price] 51)=W2 at *
   generalize hsw:wr.heap.size=bl at *
   gi_loopw [14] (fun i wi=>∃ j:Nat,(j:Int)≤l[k].qty∧i=.int .i64 j∧J (D3 l k++List.replicate j (lnU l k)) wi∧Below n₀ W wi∧W.heap.size≤wi.heap.size∧wi.heap[bl]?=some (.cells #[Value.string l[k].sku,Value.int IntKind.i64 l[k].qty,Value.int IntKind.i64 l[k].price] 51 (0,0)))
    (fun i _=>l[k].qty.toNat - (intOf i).toNat)
   case atStart=>exact ⟨0,by omega,rfl,by simpa using hJa,hB1,hsz1,hnew⟩
   case round =>
    obtain ⟨j,hj,rfl,hJi,hBi,hsi,hli⟩:=hrel
    by_cases hlt2:(j:Int)<l[k].qty
    ·obtain ⟨fn,tmps,assign,body,hy,hR⟩:=hY _ (lnU l k) wr hJi (B0q hlt (by rw [←A3z hlt];omega))
     rw [hU] at hy
     simp only [B1l] at hy
     have hp:=A1G hli 2
     simp only [List.getElem?_toArray,List.getElem?_cons_succ,List.getElem?_cons_zero] at hp
     gi_wp2
     refine hR.mono ?_
     rintro e W3 (⟨rfl,hJ3,hk3⟩ | ⟨rfl,hJx3⟩)
     ·gi_wp2
      go_roundw
      case rel=>exact ⟨j+1,by omega,by simp,by rw [List.replicate_succ',←List.append_assoc];exact hJ3,hBi.trans hk3.below,Nat.le_trans hsi hk3.below.size,hk3.lines _ _ _ hli⟩
      case measure=>simp [intOf];omega
     ·gi_wp2
      refine bodyPost_ret (results_none rfl _ _ _) rfl ?_
      exact ⟨⟨_,rfl⟩,.inr ⟨_,trivial,hJx3⟩⟩
    ·have hje:j=l[k].qty.toNat:=by omega
     subst hje
     gi_wp2
     go_roundw
     case rel=>exact ⟨k+1,by omega,by simp,by rw [hup];exact hJi,hBi,hsi⟩
     case measure=>simp [intOf];omega
  ·obtain rfl:k=l.length:=by omega
   gi_wp2
   go_end0
   exact ⟨⟨_,rfl⟩,.inl ⟨_,rfl,hJs⟩⟩
set_option maxRecDepth 100000 in
set_option maxHeartbeats 1000000 in
theorem A7o (F:Fence) (n:Nat) (hf:F.fn 235) (hro:F.round=none) (lp Bs cap:Nat) (A:Option Addr) (J:List A6→World→Prop) (W:World) (hBs:W.cell? ⟨Bs,0,none⟩=some (.slice A 0 cap)) (h0:J [] W) :
  CallsIn F n Tryz.prog 235 #[.func (.yield lp) #[] #[],.pointer (some ⟨Bs,0,none⟩)] W fun e W'=>(∃ v,e=.returned v)∧J [] W':=by
 refine callsIn_of_wp Tryz.func235 rfl hf ?_ hro
 simp only [Tryz.ntmps235,List.size_toArray,List.length_cons,List.length_nil,Nat.reduceAdd,Nat.reduceSub,Array.replicate_succ,Array.replicate_zero,List.push_toArray,List.append_toArray,List.nil_append,List.cons_append]
 gi_wp2
 gi_loopw [7] (fun i wr=>i=.int .i64 0∧J [] wr) (fun _ _=>0)
 case atStart=>exact ⟨rfl,h0⟩
 case round =>
  obtain ⟨rfl,hJs⟩:=hrel
  gi_wp2
  go_end0
  exact ⟨⟨_,rfl⟩,hJs⟩
set_option maxHeartbeats 1000000 in
theorem B5d (F:Fence) (n:Nat) (hf:F.fn 145) (hro:F.round=none) (a:Option Addr) (len cap:Nat) (w:World) :
  CallsIn F n Tryz.prog 145 #[.slice a len cap] w fun e w'=>e=.returned (.func (.func 235) #[] #[.pointer (some ⟨w.heap.size,0,none⟩)])∧w'=w.alloc (.cells #[.slice a len cap] 35):=by
 refine callsIn_of_wp Tryz.func145 rfl hf ?_ hro
 simp only [Tryz.ntmps145,List.size_toArray,List.length_cons,List.length_nil,Nat.reduceAdd,Nat.reduceSub,Array.replicate_succ,Array.replicate_zero,List.push_toArray,List.append_toArray,List.nil_append,List.cons_append]
 gi_wp2
 go_ret
 exact ⟨rfl,rfl⟩
def A0k (n₀ : Nat) (W:World) (A:Option Addr) (l:List G1):Prop :=
 l=[]∨∃ b off,A=some ⟨b,off,none⟩∧b<n₀∧∀ j,j<l.length→W.cell? ⟨b,off+j * 3,none⟩=some (.string (l[j]?.getD default).sku)∧W.cell? ⟨b,off+j * 3+1,none⟩=some (.int .i64 (l[j]?.getD default).qty)∧W.cell? ⟨b,off+j * 3+2,none⟩=some (.int .i64 (l[j]?.getD default).price)
theorem A0k.below {n₀ : Nat} {X Y:World} {A:Option Addr} {l:List G1} (h:Below n₀ X Y):A0k n₀ X A l→A0k n₀ Y A l
 | .inl e=>.inl e
 | .inr ⟨b,off,e,hb,hc⟩=>.inr ⟨b,off,e,hb,fun j hj=>⟨(h.cell (p:=⟨b,off+j * 3,none⟩) hb).trans (hc j hj).1,(h.cell (p:=⟨b,off+j * 3+1,none⟩) hb).trans (hc j hj).2.1,(h.cell (p:=⟨b,off+j * 3+2,none⟩) hb).trans (hc j hj).2.2⟩⟩
theorem A9C (F:Fence) (n:Nat) (hf:F.fn 235) (hro:F.round=none) (hn:1≤n) (Bs n₀ cap:Nat) (A:Option Addr) (l:List G1) (hlen:l.length≤1000) (hq:∀ x∈l,0≤x.qty∧x.qty≤100000) (w:World) (hBs:Bs<w.heap.size) (hn₀ : n₀≤w.heap.size)
  (hc:w.cell? ⟨Bs,0,none⟩=some (.slice A l.length cap)) (hI:A0k n₀ w A l) :
  SeqStopsK F n Tryz.prog 235 #[.pointer (some ⟨Bs,0,none⟩)] (fun x:A6=>#[B1l x]) (KpL n₀) (fun ys=>ys=D3 l l.length) (fun _=>True) (D3 l l.length).length w:=fun lp J Jx W hW hJ _ hY h0=>by
 have hc':=(hW.cell (p:=⟨Bs,0,none⟩) hBs).trans hc
 rcases hI.below (hW.mono hn₀) with rfl | ⟨b,off,rfl,hb,hcs⟩
 ·exact (A7o F n hf hro lp Bs cap A J W hc' h0).mono fun e W' ⟨he,hj⟩=>⟨he,.inl ⟨_,rfl,hj⟩⟩
 ·refine (B3s F n hf hro hn lp Bs n₀ b off cap l hlen hb hq J Jx hY W hJ (Nat.le_trans hn₀ hW.size) hc' hcs h0).mono ?_
  rintro e W' ⟨he,h⟩
  exact ⟨he,h⟩
theorem B8h {n₀ lo:Nat} {W:World} {o o':Obj} (hlo:n₀≤lo) (ho:W.heap[lo]?=some o) (hc:o.isCells=false):KpL n₀ W (W.putObj lo o') :=
 ⟨(Below.refl n₀ W).grown (grownBy_putObj' W lo o') (by have:=(Array.getElem?_eq_some_iff.1 ho).1;omega) (fun k e=>by cases e;exact hlo),fun k cs fr hk=>(World.putObj_heap_other (fun e=>by subst e;rw [ho] at hk;cases hk;cases hc)).trans hk⟩
def M9 (u:A6):List Value:=[.int .i64 u.line,.int .i64 u.net,.bool u.opn]
theorem B2C (W:World) (x:A6):∀ (j:Nat) (u:Value),(M9 x)[j]?=some u→(W.alloc (.cells #[.int .i64 x.line,.int .i64 x.net,.bool x.opn] 152)).cell? ((⟨W.heap.size,0,none⟩:Addr).add j)=some u:=fun j u h=>by
 have hn:=World.alloc_heap_new W (.cells #[.int .i64 x.line,.int .i64 x.net,.bool x.opn] 152)
 have:((⟨W.heap.size,0,none⟩:Addr).add j)=⟨W.heap.size,j,none⟩:=by simp [Addr.add];intro h;omega
 rw [this,A1G hn]
 rw [←h]
 simp [M9]
theorem B0o (x:A6):∀ u∈M9 x,u.oneCell'=true:=fun u hu=>by
 simp only [M9,List.mem_cons,List.not_mem_nil,or_false] at hu
 rcases hu with rfl | rfl | rfl<;>rfl
theorem A9J {W w2:World} {n₀ B:Nat} {v:Value} {k:Nat} {xs:List Value} {tmp:Obj} (hv:Boxed W B 144 v) (hrow:W.ownsRow n₀ 152 3 v k xs) (hgrow:(W.alloc tmp).grownBy w2 v.ownBlock) (v':Value) :
  ∀ (k:Nat) (cs:Array Value) (fr:Nat×Nat),W.heap[k]?=some (.cells cs 51 fr)→(w2.setCell ⟨B,0,none⟩ v').heap[k]?=some (.cells cs 51 fr):=fun k cs fr hk=>by
 have hlt:=(Array.getElem?_eq_some_iff.1 hk).1
 have h1:k≠B:=fun e=>by
  subst e
  have:=(show W.heap[k]?=_ from hv).symm.trans hk
  simp at this
 rw [Below.heap_setCell _ _ _ _ h1,hgrow.block k (by simp;omega) (fun e=>?_),Below.heap_alloc _ _ _ hlt]
 ·exact hk
 ·rcases hrow.2 with ⟨rfl,_⟩ | ⟨g,cap,cur,rfl,_,hgb,_⟩
  ·simp [Value.ownBlock] at e
  ·obtain rfl:k=g:=by simpa [Value.ownBlock] using e
   rw [hgb] at hk;simp at hk
theorem C1w:(Tryz.prog.info? 152).map (fun i=>(i.zero,i.size,i.bytes))=some (some (.agg #[.int .i64 0,.int .i64 0,.bool false]),3,24):=by kernel_rfl
set_option maxRecDepth 100000 in
set_option maxHeartbeats 4000000 in
theorem B2Q (l:List G1) (hlen:l.length≤1000) (hq:∀ x∈l,0≤x.qty∧x.qty≤100000) (hN:(D3 l l.length).length≤100000) (A:Option Addr) (cap:Nat) (w:World)
  (R:World→Prop) (hmay:Calls Tryz.prog 144 #[.slice A l.length cap] w fun e w1=>e=.returned (.bool true)∧A0k w1.heap.size w1 A l∧R w1) :
  CallsIn Fence.wide 3 Tryz.prog 76 #[.slice A l.length cap] w fun e W'=>∃ v w1,R w1∧e=.returned v∧W'.ownsRow w1.heap.size 152 3 v (D3 l l.length).length ((D3 l l.length).flatMap M9)∧Below w1.heap.size w1 W':=by
 obtain ⟨i0,hi,hz0,hz1,hz2⟩:=info_parts C1w
 refine callsIn_of_wp_marks Tryz.func76 rfl trivial ?_ rfl
 simp only [Tryz.ntmps76,List.size_toArray,List.length_cons,List.length_nil,Nat.reduceAdd,Nat.reduceSub,Array.replicate_succ,Array.replicate_zero,List.push_toArray,List.append_toArray,List.nil_append,List.cons_append]
 gi_wp2_with first
  | (refine ⟨trivial,?_⟩;gi_at_call 144;refine (callsIn_wide.2 hmay).mono ?_;rintro e w1 ⟨rfl,hL,hR⟩)
  | (refine ⟨trivial,?_⟩;gi_at_call 145;refine (B5d Fence.wide _ trivial rfl _ _ _ _).mono ?_;rintro e w' ⟨rfl,rfl⟩)
 have bO:=Boxed.new w1 144 (.slice none 0 0)
 have bN:=Boxed.new (w1.alloc (.cells #[.slice none 0 0] 144)) 35 (.slice A l.length cap)
 rw [World.size_alloc] at bN
 have hB0:Below w1.heap.size w1 ((w1.alloc (.cells #[.slice none 0 0] 144)).alloc (.cells #[.slice A l.length cap] 35)):=((Below.refl _ w1).alloc (Nat.le_refl _) _).alloc (by simp) _
 refine wpIn_rangeFunc_ownH rfl (by omega) (gf:=235) (lb:=#[.pointer (some ⟨w1.heap.size+1,0,none⟩)]) rfl trivial (enters_of Tryz.func235 (by kernel_rfl) rfl)
  (A9C Fence.wide 2 trivial rfl (by omega) (w1.heap.size+1) w1.heap.size cap A l hlen hq _ (by simp) (by simp;omega) bN.cell (hL.below hB0)) (fun h k=>h.trans k)
  (fun W lo o o' hlo ho hc hw=>B8h (by simp at hlo;omega) ho hc) (Below.refl _ _) (fun _=>rfl)
  (fun pre W=>(∃ v,Boxed W w1.heap.size 144 v∧W.ownsRow w1.heap.size 152 3 v pre.length (pre.flatMap M9)∧True)∧Below w1.heap.size w1 W)
  (fun _ _ _=>False)
  (OwnFrom.and (Own.from (holdsRow_own w1.heap.size w1.heap.size 144 152 3 (fun pre:List A6=>pre.length) (fun pre=>pre.flatMap M9) (fun _ _=>True)) _) (ownFrom_below (Nat.le_refl _) (by simp;omega)))
  (fun _ _ _ _ _ hs _ _=>hs)
  ⟨⟨_,bO.alloc _,World.ownsRow_nil _ _ _ _,trivial⟩,hB0⟩
  (fun x a' W=>∃ Bx:Nat,W.heap[Bx]?=some (.cells #[.int .i64 x.line,.int .i64 x.net,.bool x.opn] 152 (0,0))∧a'={ tmps:=#[.slice A l.length cap,undef,.slice none 0 0,.pointer (some ⟨w1.heap.size,0,none⟩),.pointer (some ⟨Bx,0,none⟩),.slice A l.length cap,.bool true,.bool false,.slice A l.length cap,.func (.func 235) #[] #[.pointer (some ⟨w1.heap.size+1,0,none⟩)],.agg #[.int .i64 x.line,.int .i64 x.net,.bool x.opn],undef,undef,undef,undef,undef],defers:=[] })
  (fun x a'=>fun _ X Y row ⟨Bx,h1,h2⟩ hg hr=>⟨Bx,(hg.block Bx (Array.getElem?_eq_some_iff.1 h1).1 (fun e=>by
   obtain ⟨_,o,ho,hc⟩:=hr Bx e.symm
   rw [h1] at ho;cases ho;cases hc)).trans h1,h2⟩) ?assign ?body ?done ?stop
 case assign =>
  rintro lp pre x W K ⟨⟨v,hv,hrow,_⟩,hB⟩ hK
  have hBs:=hB.size
  simp only [B1l]
  gi_wp2
  refine hK _ _ ((KeepsOthers.alloc _ _).from _) ⟨(Below.refl _ W).alloc hBs _,fun k cs fr hk=>(Below.heap_alloc W _ k (Array.getElem?_eq_some_iff.1 hk).1).trans hk⟩ ⟨⟨v,hv.alloc _,hrow.alloc _,trivial⟩,hB.alloc hBs _⟩ ⟨W.heap.size,World.alloc_heap_new W _,rfl⟩
 case body =>
  rintro lp pre x a' W hl ⟨r,hr⟩ ⟨⟨v,hv,hrow,_⟩,hB⟩ ⟨Bx,hBx,rfl⟩ hlt
  have hc:=hv.cell
  have hx0:=A1G hBx 0
  have hx1:=A1G hBx 1
  have hx2:=A1G hBx 2
  simp only [List.getElem?_toArray,List.getElem?_cons_succ,List.getElem?_cons_zero] at hx0 hx1 hx2
  have hBs:=hB.size
  have hml:pre.length+1≤maxLen:=Nat.le_trans (show pre.length+1≤200000 by omega) (by decide)
  have hmb:(pre.length+1) * 24≤140737488355328:=by omega
  have hms:w1.heap.size≤(W.alloc (Obj.cells #[Value.int IntKind.i64 x.line,Value.int IntKind.i64 x.net,Value.bool x.opn] 152)).heap.size:=by simp;omega
  have hat:=B2C W x
  have hone:=B0o x
  have hra:=hrow.alloc (Obj.cells #[Value.int IntKind.i64 x.line,Value.int IntKind.i64 x.net,Value.bool x.opn] 152)
  gi_wp2_with (gi_at_builtin;refine wpListIn_append_own _ rfl _ _ 144 rfl w1.heap.size 152 i0 (.agg #[.int .i64 0,.int .i64 0,.bool false]) 3 24 Tryz.underlying144 hi hz0 hz1 hz2 rfl (by decide) _ _ _ rfl hra ⟨W.heap.size,0,none⟩ 1 1 (M9 x) rfl rfl hat hone hml hmb hms ?_;intro v' w2 hown' hgrow _;obtain ⟨g',cap',rfl⟩:=ownsRow_succ hown';obtain ⟨hv1,hv2,hr2,hk2,hb2⟩:=hv.appended (by decide) hrow hB.size (Nat.le_refl _) hown' hgrow;have hln:=A9J hv hrow hgrow (Value.slice (some { block:=g',off:=0 }) (pre.length+1) cap');have hc1:=hv1.cell;have hf1:=hv1.frozen)
  exact ⟨hk2.from _,⟨hb2,hln⟩,⟨⟨_,hv2,by simpa using hr2,trivial⟩,hB.trans hb2⟩⟩
 case done =>
  rintro D ys W hD rfl ⟨⟨v,hv,hrow,_⟩,hB⟩ hK
  have hc:=hv.cell
  gi_wp2
  refine ⟨by simp,.inl ⟨_,_,rfl,run_takeDeferred hK,?_⟩⟩
  exact ⟨_,results_tmp rfl _ _ _,v,w1,hR,rfl,ownsRow_putObj hrow _ hK rfl,hB.trans (belowK_b (w:=w1) (Nat.le_refl _) W D _ _ (by simp at hD;omega) hK rfl rfl)⟩
 case stop =>
  rintro D c pre W _ _ h _
  exact h.elim
end Go.Proofs.YtbajhapmlfbelaaGreat
namespace Go.Proofs.YtbajhapmlfbelaaGreat
open Go Go.Ab Go.Proofs
attribute [local irreducible] upd del
theorem B3v (us:List A6):∀ (i j:Nat),i<us.length→j<3→(us.flatMap M9)[i * 3+j]?=(M9 (gU us i))[j]?:=by
 induction us with
 | nil=>intro i j hi;simp at hi
 | cons u us ih =>
  intro i j hi hj
  rw [List.flatMap_cons]
  cases i with
  | zero =>
   rw [Nat.zero_mul,Nat.zero_add,List.getElem?_append_left (by simp [M9];omega)];rfl
  | succ i =>
   have e:(i+1) * 3+j=3+(i * 3+j):=by omega
   rw [e,List.getElem?_append_right (by simp [M9])]
   have:3+(i * 3+j) - (M9 u).length=i * 3+j:=by simp [M9]
   rw [this,ih i j (by simpa using hi) hj];rfl
theorem B2e {W:World} {st:St} {base:Nat} {v:Value} {us:List A6} (hn:∀ b,base≤b→st b=none) (h:W.ownsRow base 152 3 v us.length (us.flatMap M9)):E9 W st (B9 us) v:=by
 obtain ⟨hl,h | ⟨g,cap,cur,rfl,hg,hheap,hcap,hcm,hcs,htake⟩⟩:=h
 ·obtain ⟨rfl,h0⟩:=h
  have:us=[]:=List.eq_nil_of_length_eq_zero h0
  subst this
  exact .arr 3 0 _ none 0 (fun _ _=>undef) (Nat.le_refl _) (fun h=>absurd h (by omega)) (fun i hi=>absurd hi (by omega)) (fun i hi=>absurd hi (by omega)) (fun _ _ i j hi=>absurd hi (by omega)) (fun i j y hi=>absurd hi (by omega))
 ·refine .arr 3 us.length _ (some ⟨g,0,none⟩) cap (fun i j=>((M9 (gU us i))[j]?).getD undef) hcap (fun _=>⟨_,rfl⟩) (fun i hi=>rfl) (fun i hi=>rfl) (fun a ha i j hi hj=>?_) (fun i j y hi hy=>?_)
  ·cases ha
   have hadd:((⟨g,0,none⟩:Addr).add (i * 3+j))=⟨g,i * 3+j,none⟩:=by
    unfold Addr.add;split
    ·rename_i e;rw [e]
    ·simp
   rw [hadd]
   unfold A1i
   rw [show st (Addr.mk g (i * 3+j) none).block=none from hn g hg]
   show W.cell? ⟨g,i * 3+j,none⟩=_
   rw [A1G hheap]
   have h1:=B3v us i j hi hj
   rw [←htake,List.getElem?_take_of_lt (by omega)] at h1
   rw [Array.getElem?_toList] at h1
   rw [h1]
   have:j<(M9 (gU us i)).length:=hj
   rw [List.getElem?_eq_getElem this];rfl
  ·have hy':[eI (gU us i).line,eI (gU us i).net,eB (gU us i).opn][j]?=some y:=hy
   match j,hy' with
   | 0,hy'=>cases hy';exact .int _ _
   | 1,hy'=>cases hy';exact .int _ _
   | 2,hy'=>cases hy';exact .bool _
theorem B3C {w:World} {st:St} {l:List G1} {A:Option Addr} {c:Nat} (h:E9 w st (A5 3 F2 l) (.slice A l.length c)):A0k w.heap.size w A l:=by
 cases l with
 | nil=>exact .inl rfl
 | cons x0 l0 =>
  generalize hl:x0::l0=l at *
  have hpos:0<l.length:=by rw [←hl];simp
  right
  have hh:Rep (A1i w st) (P3 w) (.arr 3 l.length (fun i=>F2 (l.getD i default))) (.slice A l.length c):=h
  cases hh with
  | arr e n f A c g hc hA hle ho hr hg =>
   obtain ⟨a,rfl⟩:=hA hpos
   have hread:∀ i j,i<l.length→j<3→w.cell? (a.add (i * 3+j))=some (g i j)∧(a.add (i * 3+j)).spot=none:=fun i j hi hj=>by
    have h1:=hr a rfl i j hi hj
    unfold A1i at h1
    split at h1
    ·refine ⟨h1,?_⟩
     unfold World.cell? at h1
     split at h1
     ·split at h1
      ·cases h1
      ·rename_i hs;simpa using hs
     ·cases h1
    ·cases h1
   have h00:=hread 0 0 hpos (by omega)
   have ha0:a.add (0 * 3+0)=a:=by unfold Addr.add;simp
   rw [ha0] at h00
   have hsp:a=⟨a.block,a.off,none⟩:=by
    have:=h00.2
    cases a;simp at this;subst this;rfl
   have hadd:∀ k,a.add k=⟨a.block,a.off+k,none⟩:=fun k=>by
    unfold Addr.add
    split
    ·rename_i e;rw [e];exact hsp
    ·rfl
   have hval:∀ i,i<l.length→g i 0=.string (l[i]?.getD default).sku∧g i 1=.int .i64 (l[i]?.getD default).qty∧g i 2=.int .i64 (l[i]?.getD default).price:=fun i hi=>by
    have e:l.getD i default=l[i]?.getD default:=List.getD_eq_getElem?_getD
    have r0:=hg i 0 (eS (l.getD i default).sku) hi rfl
    have r1:=hg i 1 (eI (l.getD i default).qty) hi rfl
    have r2:=hg i 2 (eI (l.getD i default).price) hi rfl
    rw [e] at r0 r1 r2
    refine ⟨?_,?_,?_⟩
    ·generalize g i 0=u at r0;cases r0;rfl
    ·generalize g i 1=u at r1;cases r1;rfl
    ·generalize g i 2=u at r2;cases r2;rfl
   refine ⟨a.block,a.off,by rw [←hsp],?_,fun j hj=>?_⟩
   ·have:=h00.1
    unfold World.cell? at this
    split at this
    ·rename_i hb;exact (Array.getElem?_eq_some_iff.1 hb).1
    ·cases this
   ·obtain ⟨v0,v1,v2⟩:=hval j hj
    have a0:=(hread j 0 hj (by omega)).1
    have a1:=(hread j 1 hj (by omega)).1
    have a2:=(hread j 2 hj (by omega)).1
    rw [hadd] at a0 a1 a2
    rw [v0] at a0;rw [v1] at a1;rw [v2] at a2
    exact ⟨a0,a1,a2⟩
theorem B5Z (l:List G1) (hlen:l.length≤1000) (hq:∀ x∈l,0≤x.qty∧x.qty≤100000) (hN:(D3 l l.length).length≤100000) (hmay:(R3 (fun _=>true) l==0)=true) (st:St) :
  S P 76 [A5 3 F2 l] st fun v st'=>v=B9 (D3 l l.length)∧st'=st:=by
 refine ⟨enters_of Tryz.func76 (by kernel_rfl) rfl,fun cargs w hr hS=>?_⟩
 have hrr:=hr
 obtain ⟨hlenA,hr⟩:=hr
 have h0:0<cargs.size:=by rw [←hlenA];exact Nat.one_pos
 have ha:=hr 0 _ cargs[0] rfl (Array.getElem?_eq_getElem h0)
 have hc:∃ A c,cargs=#[.slice A l.length c]:=by
  have hh:Rep (A1i w st) (P3 w) (.arr 3 l.length (fun i=>F2 (l.getD i default))) cargs[0]:=ha
  generalize hv:cargs[0]=v at hh
  cases hh with
  | arr e n f A c g hc hA hle ho hr hg =>
   refine ⟨A,c,Array.ext (by rw [←hlenA];rfl) fun i h1 h2=>?_⟩
   have:i=0:=by simp at h2;exact h2
   subst this;rw [hv];rfl
 obtain ⟨A,c,rfl⟩:=hc
 have hm:Calls Tryz.prog 144 #[.slice A l.length c] w fun e w1=>e=.returned (.bool true)∧A0k w1.heap.size w1 A l∧(D0 st w1∧M7 st w st w1):=by
  refine ((B8k l st).2 _ w hrr hS).mono ?_
  rintro e w1 ⟨v,cv,st',⟨rfl,rfl⟩,rfl,h3,h4,h5⟩
  rw [hmay] at h3
  cases h3
  exact ⟨rfl,B3C (h5.rep ha),h4,h5⟩
 refine (callsIn_wide.1 (B2Q l hlen hq hN A c w _ hm)).mono ?_
 rintro e W' ⟨v,w1,⟨h4,h5⟩,rfl,hrow,hB⟩
 have hadds:A0i w1 W':=⟨hB.os,hB.tape,hB.output,hB.size,hB.block⟩
 exact ⟨_,v,st,⟨rfl,rfl⟩,rfl,B2e (fun b hb=>by
  cases hs:st b with
  | none=>rfl
  | some x =>
   obtain ⟨cs,hk⟩:=h4 b x hs
   have:=(Array.getElem?_eq_some_iff.1 hk.heap).1
   omega) hrow,h4.adds hadds,h5.trans (hadds.evo st)⟩
end Go.Proofs.YtbajhapmlfbelaaGreat
namespace Go.Proofs.YtbajhapmlfbelaaGreat
open Go Go.Proofs
def soF (x:Nat):Nat:=match x with
 | 5=>100
 | 8=>194
 | 7=>193
 | 19=>273
 | 20=>274
 | 10=>264
 | 11=>265
 | 12=>266
 | 13=>267
 | 14=>268
 | 15=>269
 | 16=>270
 | 17=>271
 | 18=>272
 | 30=>320
 | 31=>321
 | 32=>322
 | 33=>323
 | 34=>324
 | 35=>325
 | 40=>343
 | n=>n
def soT (x:Nat):Nat:=match x with
 | 23=>29
 | 25=>3
 | 3=>3
 | 32=>201
 | 22=>29
 | 0=>0
 | 44=>319
 | 46=>208
 | 4=>4
 | 36=>313
 | 35=>312
 | 41=>264
 | 5=>5
 | 9=>9
 | 53=>374
 | 57=>377
 | 63=>393
 | 64=>394
 | n=>n
def B9O:Go.Shelf.Ren:={ f:=soF,t:=soT,g:=fun n=>n }
theorem B1e:SlLaysM.n5 Tryz.prog B9O where
 mixed:=by kernel_rfl
 f5 := ⟨"slices.Sort[[]int,int]", by decide, Tryz.func100.trans (congrArg some (by kernel_rfl))⟩
 f7 := ⟨"slices.pdqsortOrdered[int]", by decide, Tryz.func193.trans (congrArg some (by kernel_rfl))⟩
 f8:=Tryz.func194.trans (congrArg some (by kernel_rfl))
 f10 := ⟨"slices.insertionSortOrdered[int]", by decide, Tryz.func264.trans (congrArg some (by kernel_rfl))⟩
 f11 := ⟨"slices.heapSortOrdered[int]", by decide, Tryz.func265.trans (congrArg some (by kernel_rfl))⟩
 f12 := ⟨"slices.breakPatternsOrdered[int]", by decide, Tryz.func266.trans (congrArg some (by kernel_rfl))⟩
 f13 := ⟨"slices.choosePivotOrdered[int]", by decide, Tryz.func267.trans (congrArg some (by kernel_rfl))⟩
 f14 := ⟨"slices.reverseRangeOrdered[int]", by decide, Tryz.func268.trans (congrArg some (by kernel_rfl))⟩
 f15 := ⟨"slices.partialInsertionSortOrdered[int]", by decide, Tryz.func269.trans (congrArg some (by kernel_rfl))⟩
 f16 := ⟨"cmp.Less[int]", by decide, Tryz.func270.trans (congrArg some (by kernel_rfl))⟩
 f17 := ⟨"slices.partitionEqualOrdered[int]", by decide, Tryz.func271.trans (congrArg some (by kernel_rfl))⟩
 f18 := ⟨"slices.partitionOrdered[int]", by decide, Tryz.func272.trans (congrArg some (by kernel_rfl))⟩
 f19:=Tryz.func273.trans (congrArg some (by kernel_rfl))
 f20:=Tryz.func274.trans (congrArg some (by kernel_rfl))
 f30 := ⟨"slices.siftDownOrdered[int]", by decide, Tryz.func320.trans (congrArg some (by kernel_rfl))⟩
 f31:=Tryz.func321.trans (congrArg some (by kernel_rfl))
 f32:=Tryz.func322.trans (congrArg some (by kernel_rfl))
 f33 := ⟨"slices.medianAdjacentOrdered[int]", by decide, Tryz.func323.trans (congrArg some (by kernel_rfl))⟩
 f34 := ⟨"slices.medianOrdered[int]", by decide, Tryz.func324.trans (congrArg some (by kernel_rfl))⟩
 f35 := ⟨"cmp.isNaN[int]", by decide, Tryz.func325.trans (congrArg some (by kernel_rfl))⟩
 f40 := ⟨"slices.order2Ordered[int]", by decide, Tryz.func343.trans (congrArg some (by kernel_rfl))⟩
 t0:=Tryz.underlying0
 a0:=Tryz.isAgg0
 z0:=Tryz.sizeOf0
 v0:=Tryz.zeroValue0
 t3:=Tryz.underlying3
 a3:=Tryz.isAgg3
 z3:=Tryz.sizeOf3
 v3:=Tryz.zeroValue3
 t4:=Tryz.underlying4
 a4:=Tryz.isAgg4
 z4:=Tryz.sizeOf4
 v4:=Tryz.zeroValue4
 t5:=Tryz.underlying5
 a5:=Tryz.isAgg5
 z5:=Tryz.sizeOf5
 v5:=Tryz.zeroValue5
 t9:=Tryz.underlying9
 a9:=Tryz.isAgg9
 z9:=Tryz.sizeOf9
 v9:=Tryz.zeroValue9
 t22:=Tryz.underlying29
 a22:=Tryz.isAgg29
 z22:=Tryz.sizeOf29
 v22:=Tryz.zeroValue29
 t23:=Tryz.underlying29
 a23:=Tryz.isAgg29
 z23:=Tryz.sizeOf29
 v23:=Tryz.zeroValue29
 t25:=Tryz.underlying3
 a25:=Tryz.isAgg3
 z25:=Tryz.sizeOf3
 v25:=Tryz.zeroValue3
 t32:=Tryz.underlying201
 a32:=Tryz.isAgg201
 z32:=Tryz.sizeOf201
 v32:=Tryz.zeroValue201
 t35:=Tryz.underlying312
 a35:=Tryz.isAgg312
 z35:=Tryz.sizeOf312
 v35:=Tryz.zeroValue312
 t36:=Tryz.underlying313
 a36:=Tryz.isAgg313
 z36:=Tryz.sizeOf313
 v36:=Tryz.zeroValue313
 t41:=Tryz.underlying264
 a41:=Tryz.isAgg264
 z41:=Tryz.sizeOf264
 v41:=Tryz.zeroValue264
 t44:=Tryz.underlying319
 a44:=Tryz.isAgg319
 z44:=Tryz.sizeOf319
 v44:=Tryz.zeroValue319
 t46:=Tryz.underlying208
 a46:=Tryz.isAgg208
 z46:=Tryz.sizeOf208
 v46:=Tryz.zeroValue208
 t53:=Tryz.underlying374
 a53:=Tryz.isAgg374
 z53:=Tryz.sizeOf374
 v53:=Tryz.zeroValue374
 t57:=Tryz.underlying377
 a57:=Tryz.isAgg377
 z57:=Tryz.sizeOf377
 v57:=Tryz.zeroValue377
 t63:=Tryz.underlying393
 a63:=Tryz.isAgg393
 z63:=Tryz.sizeOf393
 v63:=Tryz.zeroValue393
 t64:=Tryz.underlying394
 a64:=Tryz.isAgg394
 z64:=Tryz.sizeOf394
 v64:=Tryz.zeroValue394
end Go.Proofs.YtbajhapmlfbelaaGreat
namespace Go.Proofs.YtbajhapmlfbelaaGreat
open Go Go.Ab
attribute [local irreducible] upd del
theorem A7I {x rate:Int} (hx:0≤x) (h0:0≤rate) (h1:rate≤10000):L6 x rate≤x:=by
 unfold L6 U4
 rw [if_pos ⟨h0,h1⟩]
 split
 ·exact hx
 ·split
  ·exact hx
  ·split
   ·exact hx
   ·show M3 (x * rate / 10000) (x * rate % 10000) 10000 1≤x
    have e1:=Int.mul_ediv_add_emod (x * rate) 10000
    have e2:=Int.emod_nonneg (x * rate) (show (10000:Int)≠0 by decide)
    have e3:=Int.emod_lt_of_pos (x * rate) (show (0:Int)<10000 by decide)
    have e4:x * rate≤x * 10000:=Int.mul_le_mul_of_nonneg_left h1 hx
    unfold M3
    rw [if_neg (by decide),if_pos rfl]
    split<;>omega
structure Y8 (us us':List A6) (x:Int):Prop where
 len:us'.length=us.length
 line:∀ k,(gU us' k).line=(gU us k).line
 net:∀ k,0≤(gU us' k).net∧(gU us' k).net≤(gU us k).net
 opn:∀ k,(gU us' k).opn=true→(gU us k).opn=true
 sum:A2 (C8 us')+x=A2 (C8 us)
 pos:0≤x
theorem C0.at0 {us:List A6} (h:C0 us) (k:Nat):0≤(gU us k).net:=by
 by_cases hk:k<us.length
 ·exact h.pos _ (A7 hk)
 ·have:gU us k=default:=by unfold gU;rw [List.getD_eq_getElem?_getD,List.getElem?_eq_none (by omega)];rfl
  rw [this];exact Int.le_refl _
theorem Y8.refl {us:List A6} (h:C0 us):Y8 us us 0:=⟨rfl,fun _=>rfl,fun k=>⟨h.at0 k,Int.le_refl _⟩,fun _ h=>h,by omega,Int.le_refl _⟩
theorem Y8.trans {a b c:List A6} {x y:Int} (h:Y8 a b x) (k:Y8 b c y):Y8 a c (x+y) :=
 ⟨k.len.trans h.len,fun i=>(k.line i).trans (h.line i),fun i=>⟨(k.net i).1,Int.le_trans (k.net i).2 (h.net i).2⟩,fun i hi=>h.opn i (k.opn i hi),by have:=h.sum;have:=k.sum;omega,by have:=h.pos;have:=k.pos;omega⟩
theorem Y8.ok {us us':List A6} {x:Int} (h:Y8 us us' x) (hu:C0 us):C0 us' :=
 ⟨by rw [h.len];exact hu.len,fun u hm=>by obtain ⟨k,hk,rfl⟩:=E4 hm;exact (h.net k).1,by have:=h.sum;have:=h.pos;have:=hu.sum;omega⟩
theorem A6Y {l:List Int} {j:Nat} (hj:j<l.length) (x:Int):A2 (l.set j x)+(gI l j - x)=A2 l:=by rw [A9h hj];omega
theorem Y8.less1 {us:List A6} (h:C0 us) {i:Nat} {x:Int} (hi:i<us.length) (h0:0≤x) (h1:x≤(gU us i).net):Y8 us (less1 us i x) x:=by
 have hl:(Go.Proofs.YtbajhapmlfbelaaGreat.less1 us i x).length=us.length:=by unfold Go.Proofs.YtbajhapmlfbelaaGreat.less1;rw [List.length_set]
 have hg:∀ k,gU (Go.Proofs.YtbajhapmlfbelaaGreat.less1 us i x) k=if k=i then { gU us i with net:=(gU us i).net - x } else gU us k:=fun k=>by
  unfold Go.Proofs.YtbajhapmlfbelaaGreat.less1;exact A3y hi _ k
 refine ⟨hl,fun k=>?_,fun k=>?_,fun k hk=>?_,?_,h0⟩
 ·rw [hg];split
  ·rename_i e;subst e;rfl
  ·rfl
 ·rw [hg];split
  ·rename_i e;subst e
   show 0≤(gU us k).net - x∧(gU us k).net - x≤(gU us k).net
   omega
  ·exact ⟨h.at0 k,Int.le_refl _⟩
 ·rw [hg] at hk;split at hk
  ·rename_i e;subst e;exact hk
  ·exact hk
 ·have e1:C8 (Go.Proofs.YtbajhapmlfbelaaGreat.less1 us i x)=(C8 us).set i ((gU us i).net - x):=by
   unfold Go.Proofs.YtbajhapmlfbelaaGreat.less1 C8;rw [List.map_set]
  have e2:=A6Y (l:=C8 us) (j:=i) (by rw [List.length_map];exact hi) ((gU us i).net - x)
  have e3:gI (C8 us) i=(gU us i).net:=E7 A6.net us hi
  rw [e1];omega
theorem Y8.close1 {us:List A6} (h:C0 us) {i:Nat} (hi:i<us.length):Y8 us (close1 us i) 0:=by
 have hl:(Go.Proofs.YtbajhapmlfbelaaGreat.close1 us i).length=us.length:=by unfold Go.Proofs.YtbajhapmlfbelaaGreat.close1;rw [List.length_set]
 have hg:∀ k,gU (Go.Proofs.YtbajhapmlfbelaaGreat.close1 us i) k=if k=i then { gU us i with opn:=false } else gU us k:=fun k=>by
  unfold Go.Proofs.YtbajhapmlfbelaaGreat.close1;exact A3y hi _ k
 have hnet:∀ k,(gU (Go.Proofs.YtbajhapmlfbelaaGreat.close1 us i) k).net=(gU us k).net:=fun k=>by
  rw [hg];split
  ·rename_i e;subst e;rfl
  ·rfl
 refine ⟨hl,fun k=>?_,fun k=>?_,fun k hk=>?_,?_,Int.le_refl _⟩
 ·rw [hg];split
  ·rename_i e;subst e;rfl
  ·rfl
 ·rw [hnet];exact ⟨h.at0 k,Int.le_refl _⟩
 ·rw [hg] at hk;split at hk
  ·rename_i e;subst e;cases hk
  ·exact hk
 ·have e1:C8 (Go.Proofs.YtbajhapmlfbelaaGreat.close1 us i)=(C8 us).set i (gU us i).net:=by
   unfold Go.Proofs.YtbajhapmlfbelaaGreat.close1 C8;rw [List.map_set]
  have e2:=A6Y (l:=C8 us) (j:=i) (by rw [List.length_map];exact hi) (gU us i).net
  have e3:gI (C8 us) i=(gU us i).net:=E7 A6.net us hi
  rw [e1];omega
theorem Y8.closeB {us:List A6} (h:C0 us):∀ mine:List Int,(∀ x∈mine,x.toNat<us.length)→Y8 us (closeB us mine) 0:=by
 intro mine
 induction mine generalizing us with
 | nil=>intro _;exact Y8.refl h
 | cons x l ih =>
  intro hx
  have h1:=Y8.close1 h (hx x (List.mem_cons_self ..))
  have h2:=ih (h1.ok h) (fun y hy=>by rw [h1.len];exact hx y (List.mem_cons_of_mem _ hy))
  have:=h1.trans h2
  rw [Int.add_zero] at this
  exact this
theorem L0 {st:St} {a b:Nat} {x y:M6} (h:a≠b):upd (upd st a x) b y=upd (upd st b y) a x:=by
 funext c
 by_cases h1:c=a
 ·subst h1;rw [A3 h,A0,A0]
 ·by_cases h2:c=b
  ·subst h2;rw [A0,A3 h1,A0]
  ·rw [A3 h2,A3 h1,A3 h1,A3 h2]
theorem G7 {st:St} {a:Nat} {x y:M6}:upd (upd st a x) a y=upd st a y:=by
 funext c
 by_cases h:c=a
 ·subst h;rw [A0,A0]
 ·rw [A3 h,A3 h,A3 h]
theorem B4v {st:St} {a:Nat} {x:M6} (h:st a=some x):upd st a x=st:=by
 funext c
 by_cases e:c=a
 ·subst e;rw [A0,h]
 ·rw [A3 e]
theorem B7I {st st':St} {a:Nat} {x:M6} (h:st' a=some x) (hf:∀ c,c≠a→st' c=st c):st'=upd st a x:=by
 funext c
 by_cases e:c=a
 ·subst e;rw [A0,h]
 ·rw [A3 e,hf c e]
theorem E2.write {st0 st:St} {b:Nat} {y y':M6} (h:E2 st0 st):E2 (upd st0 b y') (upd st b y'):=fun c x hc=>by
 by_cases e:c=b
 ·subst e;rw [A0] at hc ⊢;exact hc
 ·rw [A3 e] at hc ⊢;exact h c x hc
theorem T5.write {st0 st:St} {q b:Nat} {f:Bool} {es:List QE} {y y':M6} (h:T5 st0 q f es st) (hb:st0 b=some y):T5 (upd st0 b y') q f es (upd st b y'):=by
 obtain ⟨h1,h2,sv,⟨fq,hqs,hq0⟩,h3⟩:=h
 have hqb:q≠b:=fun e=>by subst e;rw [h1] at hb;cases hb
 refine ⟨by rw [A3 hqb];exact h1,E2.write (y:=y) h2,sv,⟨fq,by rw [A3 hqb];exact hqs,hq0⟩,?_⟩
 rcases h3 with h3 | ⟨c,l,n,a1,a2,a3,a4,a5,a6,⟨fe,hes,hef⟩,a8,a9⟩
 ·exact .inl h3
 ·have hcb:c≠b:=fun e=>by subst e;rw [a2] at hb;cases hb
  exact .inr ⟨c,l,n,a1,by rw [A3 hcb];exact a2,a3,a4,a5,a6,⟨fe,by rw [A3 hcb];exact hes,hef⟩,a8,a9⟩
theorem T5.forget {st0 st:St} {q b:Nat} {f:Bool} {es:List QE} {y:M6} (h:T5 (upd st0 b y) q f es st) (hb:st0 b=none):T5 st0 q f es (del st b):=by
 obtain ⟨h1,h2,sv,⟨fq,hqs,hq0⟩,h3⟩:=h
 have hqb:q≠b:=fun e=>by subst e;rw [A0] at h1;cases h1
 have hd:∀ c,c≠b→del st b c=st c:=fun c hc=>by unfold del;rw [if_neg hc]
 refine ⟨by rw [A3 hqb] at h1;exact h1,fun c x hc=>?_,sv,⟨fq,by rw [hd q hqb];exact hqs,hq0⟩,?_⟩
 ·have hcb:c≠b:=fun e=>by subst e;rw [hb] at hc;cases hc
  rw [hd c hcb];exact h2 c x (by rw [A3 hcb];exact hc)
 ·rcases h3 with h3 | ⟨c,l,n,a1,a2,a3,a4,a5,a6,⟨fe,hes,hef⟩,a8,a9⟩
  ·exact .inl h3
  ·have hcb:c≠b:=fun e=>by subst e;rw [A0] at a2;cases a2
   rw [A3 hcb] at a2
   exact .inr ⟨c,l,n,a1,a2,a3,a4,a5,a6,⟨fe,by rw [hd c hcb];exact hes,hef⟩,a8,a9⟩
theorem N7.write {ty e:Nat} {fo:Nat→AV} {n:Nat} {st1:St} {q:Nat} {f:Bool} {es:List QE} {sv:AV} {st':St} {b:Nat} {y y':M6} (h:N7 ty e fo n st1 q f es sv st') (hb:st1 b=some y):N7 ty e fo n (upd st1 b y') q f es sv (upd st' b y'):=by
 rcases h with ⟨h1,h2,h⟩ | ⟨h0,bo,g,h1,h2,h3,h⟩
 ·exact .inl ⟨h1,h2,h.write hb⟩
 ·have hne:bo≠b:=fun e=>by subst e;rw [h1] at hb;cases hb
  refine .inr ⟨h0,bo,g,by rw [A3 hne];exact h1,h2,h3,?_⟩
  rw [←L0 hne]
  exact h.write (y:=y) (by rw [A3 hne.symm];exact hb)
theorem N7.shiftQ {ty e:Nat} {fo:Nat→AV} {n:Nat} {st1:St} {q:Nat} {f:Bool} {es:List QE} {sv:AV} {st':St} (h:N7 ty e fo n st1 q f es sv st'):∃ st'',A4 [sv] st' [.arr e n fo] st''∧T5 st1 q f es st'':=by
 rcases h with ⟨rfl,rfl,h⟩ | ⟨h0,bo,g,h1,rfl,h3,h⟩
 ·exact ⟨st',G5 e fo,h⟩
 ·exact ⟨del st' bo,M1 (h.sup bo _ (A0 ..)) rfl (Nat.le_refl _) h3,h.forget h1⟩
theorem N7.col {ty e:Nat} {fo:Nat→AV} {n:Nat} {st1:St} {q:Nat} {f:Bool} {es:List QE} {sv:AV} {st':St} (h:N7 ty e fo n st1 q f es sv st'):∃ st0,H6 ty e fo st1 n sv st0∧T5 st0 q f es st':=by
 rcases h with ⟨rfl,rfl,h⟩ | ⟨h0,bo,g,h1,rfl,h3,h⟩
 ·exact ⟨st1,H6.start _ _ _ _,h⟩
 ·exact ⟨_,.inr ⟨h0,bo,g,h1,rfl,rfl,h3⟩,h⟩
theorem N7.of {ty e:Nat} {fo:Nat→AV} {n:Nat} {st1 st0:St} {q:Nat} {f:Bool} {es:List QE} {sv:AV} {st':St} (h:H6 ty e fo st1 n sv st0) (hq:T5 st0 q f es st'):N7 ty e fo n st1 q f es sv st':=by
 rcases h with ⟨rfl,rfl,rfl⟩ | ⟨h0,bo,g,h1,rfl,rfl,h3⟩
 ·exact .inl ⟨rfl,rfl,hq⟩
 ·exact .inr ⟨h0,bo,g,h1,rfl,h3,hq⟩
theorem H6.write {ty e:Nat} {fo:Nat→AV} {n:Nat} {base st0:St} {sv:AV} {b:Nat} {y y':M6} (h:H6 ty e fo base n sv st0) (hb:base b=some y):H6 ty e fo (upd base b y') n sv (upd st0 b y'):=by
 rcases h with ⟨rfl,rfl,rfl⟩ | ⟨h0,bo,g,h1,rfl,rfl,h3⟩
 ·exact H6.start _ _ _ _
 ·have hne:bo≠b:=fun e=>by subst e;rw [h1] at hb;cases hb
  exact .inr ⟨h0,bo,g,by rw [A3 hne];exact h1,rfl,L0 hne,h3⟩
theorem N7.apps {T:C9} {t:TypeId} {x sv:AV} {st1 st':St} {k:KK} {r q:B4} {el n m qq:Nat} {fl:Bool} {es:List QE} {f g:Nat→AV} (hr:T t=some r) (hd:r.desc=.slice el) (hq:T el=some q)
  (hz:(Nat.blt 0 q.size&&Nat.blt 0 q.bytes&&Nat.beq q.zero.cells.size q.size)=true) (hs:T2 q.size st' x=some (m,g)) (hg:∀ i,i<m→g i=f (n+i)) (hb:(n+m) * q.bytes≤140737488355328)
  (hc:N7 el q.size f n st1 qq fl es sv st') (hk:∀ sv' st'',N7 el q.size f (n+m) st1 qq fl es sv' st''→k sv' st''):A3N T t sv x st' k:=by
 rcases hc with ⟨rfl,rfl,h⟩ | ⟨h0,bo,y,h1,rfl,h4,h⟩
 ·refine apE hr hd hq hz hs (by simpa using hb) (fun h0=>hk _ _ (.inl ⟨by omega,rfl,h⟩)) (fun hm b hb=>?_)
  obtain ⟨hb0,hn⟩:=h.begin (y:=⟨el,q.size,m,g⟩) hb
  refine hk _ _ ?_
  rw [Nat.zero_add]
  exact .inr ⟨hm,b,g,hb0,rfl,fun k hk=>by have:=hg k hk;rwa [Nat.zero_add] at this,hn⟩
 ·have hby:st' bo=some ⟨el,q.size,n,y⟩:=h.sup bo _ (A0 ..)
  refine apO hr hd hq hz hs hby rfl rfl rfl hb (fun h0'=>hk _ _ ?_) (fun _ b' hb'=>?_)
  ·subst h0';exact .inr ⟨h0,bo,y,h1,rfl,h4,h⟩
  obtain ⟨hb0,hn⟩:=h.grow (y':=⟨el,q.size,n+m,fun i=>if i<n then y i else g (i - n)⟩) h1 hb'
  refine hk _ _ (.inr ⟨by omega,b',_,hb0,rfl,fun k hk=>?_,hn⟩)
  by_cases hkn:k<n
  ·simp only [hkn,if_true];exact h4 k hkn
  ·simp only [hkn,if_false]
   rw [hg (k - n) (by omega)];congr 1;omega
def B5e (us:List A6) (i:Int):QE:=((gU us i.toNat).net,i)
def D4 (us:List A6) (mine:List Int):List QE:=(mine.map (B5e us)).mergeSort fun a b=>!D6 b a
theorem A2m (us:List A6) (mine:List Int):(D4 us mine).Perm (mine.map (B5e us)):=List.mergeSort_perm ..
theorem A6B (us:List A6) (mine:List Int):(D4 us mine).length=mine.length:=by rw [(A2m us mine).length_eq,List.length_map]
theorem A3c (l:List QE):(l.mergeSort fun a b=>!D6 b a).Pairwise fun a b=>D6 b a=false:=by
 have:=List.pairwise_mergeSort (le:=fun a b:QE=>!D6 b a) (fun a b c h1 h2=>by simp only [Bool.not_eq_true'] at *;exact Q0 h2 h1) (fun a b=>by
  cases h:D6 b a with
  | false=>rfl
  | true=>rw [Q1 h];rfl) l
 exact this.imp (fun h=>by simpa using h)
theorem A3v {us:List A6} {mine:List Int} (hm:∀ k,k<mine.length→0≤gI mine k∧(gI mine k).toNat<us.length) {e:QE} (h:e∈D4 us mine):0≤e.2∧e.2.toNat<us.length:=by
 obtain ⟨k,hk,rfl⟩:=List.mem_map.1 ((A2m us mine).subset h)
 obtain ⟨j,hj,rfl⟩:=E4 hk
 exact hm j hj
theorem A3w (us:List A6) (mine:List Int) (hl:us.length≤100000) (hml:mine.length≤100000) (hm:∀ k,k<mine.length→0≤gI mine k∧(gI mine k).toNat<us.length) (st:St) :
  S P 288 [B9 us,B2 mine] st fun v st'=>∃ q,v=.optr 1 q 0 0∧T5 st q true (D4 us mine) st':=by
 refine E3 [] Tryz.func288 ?_
 refine call (A7G st) (fun v st1 hv=>?_)
 obtain ⟨q,rfl,hq⟩:=hv
 conv=>whnf
 refine ⟨[0,5,9,10,11],fun m vs st'=>∃ i:Nat,i≤mine.length∧m=mine.length - i∧vs=[B9 us,.optr 1 q 0 0,B2 mine,eI mine.length,eI i]∧T5 st q true ((mine.take i).map (B5e us)) st',?_,?_⟩
 ·conv=>whnf
  exact ⟨_,0,Nat.zero_le _,rfl,rfl,hq⟩
 ·clear hq
  rintro m vs st' ⟨i,hi,rfl,rfl,hq⟩
  conv=>whnf
  cases h:decide ((i:Int)<(mine.length:Int))
  ·have:=of_decide_eq_false h
   obtain rfl:i=mine.length:=by omega
   rw [List.take_length] at hq;conv=>whnf
   exact ⟨q,rfl,hq.perm (A2m us mine).symm⟩
  ·have hi':i<mine.length:=by have:=of_decide_eq_true h;omega
   have hr:=hm i hi'
   conv=>whnf
   refine G9 ?_
   refine ⟨rfl,⟨by show 0≤gI mine i;omega,by show gI mine i<(us.length:Int);omega⟩,?_⟩;conv=>whnf
   refine call (A4H st q _ (gU us (gI mine i).toNat).net (gI mine i) _ hq (by rw [List.length_map,List.length_take];omega)) (fun v st'' hv=>?_)
   obtain ⟨rfl,hq'⟩:=hv
   conv=>whnf
   refine H4 ?_
   refine ⟨mine.length - (i+1),by omega,i+1,by omega,rfl,by rw [B7 (by omega)],?_⟩
   rw [I4 hi',List.map_append];exact hq'
def Q4 (p:A8) (us:List A6) (es:List QE):Nat→List A6×Int
 | 0=>(us,0)
 | k+1=>if (k:Int)<p.buy then Q4 p us es k else
  (less1 (Q4 p us es k).1 (at_ es k).2.toNat (L6 (gU (Q4 p us es k).1 (at_ es k).2.toNat).net p.rate),(Q4 p us es k).2+L6 (gU (Q4 p us es k).1 (at_ es k).2.toNat).net p.rate)
structure A6r (p:A8):Prop where
 buy:1≤p.buy∧p.buy≤100
 get:1≤p.get∧p.get≤100
 rate:0≤p.rate∧p.rate≤10000
theorem A2Z {p:A8} (hp:A6r p) {us:List A6} (hu:C0 us) {es:List QE} (hr:∀ e∈es,0≤e.2∧e.2.toNat<us.length):∀ k,k≤es.length→Y8 us (Q4 p us es k).1 (Q4 p us es k).2
 | 0,_=>Y8.refl hu
 | k+1,hk=>by
  have ih:=A2Z hp hu hr k (by omega)
  have hx:=hr (at_ es k) (A7 (by omega))
  unfold Q4
  split
  ·exact ih
  ·refine ih.trans (Y8.less1 (ih.ok hu) (by rw [ih.len];exact hx.2) (R5 _ _).1 (A7I (ih.net _).1 hp.rate.1 hp.rate.2))
theorem B9M (p:A8) (hp:A6r p) (us:List A6) (hu:C0 us) (es:List QE) (hr:∀ e∈es,0≤e.2∧e.2.toNat<us.length) (hs:es.Pairwise fun a b=>D6 b a=false) (m:Nat) (hm:(m:Int)=p.buy+p.get) (hme:m≤es.length)
  (st0 st:St) (bo q:Nat) (fl:Bool) (ho:A0V st0 bo us) (hq:T5 st0 q fl es st) :
  S P 289 [B6 p,.own 3 bo 0 us.length,.optr 1 q 0 0] st fun v st'=>v=.tuple [B2 ((es.take m).map (·.2)),eI (Q4 p us es m).2]∧∃ st1 fl',A0V st1 bo (Q4 p us es m).1∧(∀ c,c≠bo→st1 c=st0 c)∧T5 st1 q fl' (es.drop m) st':=by
 have hB:=hp.buy
 have hG:=hp.get
 have hul:=hu.len
 refine S.post (post:=fun v st'=>∃ sv st1 fl',v=.tuple [sv,eI (Q4 p us es m).2]∧A0V st1 bo (Q4 p us es m).1∧(∀ c,c≠bo→st1 c=st0 c)∧N7 3 1 (fun k=>eI (at_ es k).2) m st1 q fl' (es.drop m) sv st') ?_
  (fun v st' ⟨sv,st1,fl',hv,h1,h2,h3⟩=>by
   obtain ⟨st'',h4,h5⟩:=h3.shiftQ
   have e:B2 ((es.take m).map (·.2))=.arr 1 m (fun k=>eI (gI ((es.take m).map (·.2)) k)):=by unfold B2 A5;rw [List.length_map,List.length_take,Nat.min_eq_left hme]
   have e2:A4 [.arr 1 m (fun k=>eI (at_ es k).2)] st'' [B2 ((es.take m).map (·.2))] st'':=by
    rw [e]
    exact A4.arr fun i hi=>by
     have:gI ((es.take m).map (·.2)) i=(at_ es i).2:=by
      have h6:=E7 (fun e:QE=>e.2) (es.take m) (i:=i) (by rw [List.length_take];omega)
      rw [show gI ((es.take m).map (·.2)) i=((es.take m).map fun e:QE=>e.2).getD i default from rfl,h6]
      unfold at_
      rw [List.getD_eq_getElem?_getD,List.getD_eq_getElem?_getD,List.getElem?_take_of_lt hi]
     rw [this]
   exact ⟨_,st'',⟨rfl,st1,fl',h1,h2,h5⟩,by rw [hv];exact A4.tuple (A4.cons (h4.trans e2) (A4.keep _ _)) rfl⟩)
 refine E3 [3] Tryz.func289 ?_
 have w0:IntKind.i64.wrap (p.buy+p.get)=(m:Int):=by rw [B0 (by omega) (by omega)];omega
 rw [w0]
 refine ⟨[1,2,3,8,9,20,21],fun mm vs st'=>∃ (k:Nat) (sv:AV) (st1:St) (fl':Bool),k≤m∧mm=m - k∧vs=[.own 3 bo 0 us.length,.optr 1 q 0 0,.fptr (B6 p) 0,sv,eI (Q4 p us es k).2,eI m,eI k]∧A0V st1 bo (Q4 p us es k).1∧(∀ c,c≠bo→st1 c=st0 c)∧N7 3 1 (fun k=>eI (at_ es k).2) k st1 q fl' (es.drop k) sv st',?_,?_⟩
 ·conv=>whnf
  exact ⟨_,0,.emp,st0,fl,Nat.zero_le _,rfl,rfl,ho,fun _ _=>rfl,.inl ⟨rfl,rfl,hq⟩⟩
 ·clear ho hq
  rintro mm vs st' ⟨k,sv,st1,fl',hk,rfl,rfl,ho,hfr,hout⟩
  conv=>whnf
  cases h:decide ((k:Int)<(m:Int))
  ·have:=of_decide_eq_false h
   obtain rfl:k=m:=by omega
   conv=>whnf
   exact ⟨sv,st1,fl',rfl,ho,hfr,hout⟩
  ·have hk':k<m:=by have:=of_decide_eq_true h;omega
   have hsplit:es.drop k=at_ es k::es.drop (k+1):=by
    have:at_ es k=es[k]:=by unfold at_;simp [show k<es.length by omega]
    rw [this];exact List.drop_eq_getElem_cons (by omega)
   have htop:∀ y∈es.drop (k+1),D6 y (at_ es k)=false:=fun y hy=>by
    have:=hs.sublist (List.drop_sublist k _)
    rw [hsplit,List.pairwise_cons] at this
    exact this.1 y hy
   have hoff:=A2Z hp hu hr k (by omega)
   have hx:=hr (at_ es k) (A7 (by omega))
   have hF:Q4 p us es (k+1)=if (k:Int)<p.buy then Q4 p us es k else
    (less1 (Q4 p us es k).1 (at_ es k).2.toNat (L6 (gU (Q4 p us es k).1 (at_ es k).2.toNat).net p.rate),(Q4 p us es k).2+L6 (gU (Q4 p us es k).1 (at_ es k).2.toNat).net p.rate):=rfl
   rw [hsplit] at hout
   generalize hFk:Q4 p us es k=F at *
   conv=>whnf
   refine call (hout.pop_S htop) (fun v st'' hv=>?_)
   obtain ⟨rfl,hout'⟩:=hv
   conv=>whnf
   refine N7.app (q:=r3) rfl rfl rfl rfl rfl rfl (by show (k+1) * 8≤140737488355328;omega) hout' (fun sv' st3 hout3=>?_);conv=>whnf
   refine B5 (fun h1=>?_) (fun h1=>?_)<;>rw [h1]<;>simp only [decide_eq_true_eq,decide_eq_false_iff_not] at h1
   ·conv=>whnf
    refine H4 ?_
    refine ⟨m - (k+1),by omega,k+1,sv',st1,false,by omega,rfl,?_,?_,hfr,hout3⟩
    ·rw [B7 (by omega),hF,if_pos h1]
    ·rw [hF,if_pos h1];exact ho
   ·obtain ⟨f,hst,hf⟩:=ho
    have hst3:=hout3.sup bo _ hst
    have hlen:=hoff.len
    have hfm:f (0+(at_ es k).2.toNat)=U1 (gU F.1 (at_ es k).2.toNat):=by rw [Nat.zero_add];exact hf _ (by omega)
    have hn0:=hoff.net (at_ es k).2.toNat
    have hn1:(gU us (at_ es k).2.toNat).net≤10000000000000:=hu.le (A7 hx.2)
    have hb:=R5 (gU F.1 (at_ es k).2.toNat).net p.rate
    have hle:L6 (gU F.1 (at_ es k).2.toNat).net p.rate≤(gU F.1 (at_ es k).2.toNat).net:=A7I hn0.1 hp.rate.1 hp.rate.2
    have hp0:=hoff.pos
    have hps:=hoff.sum
    have hps2:=B8 (hoff.ok hu).nets0
    have hps3:=hu.sum
    conv=>whnf
    refine ⟨[],[],[0,1,2,3,4,5,6,7,8,9,10,11,12],by kernel_rfl,?_⟩;conv=>whnf
    refine G9 ?_
    refine J7 hst3 hfm ?_
    refine cqW (A9W _ _ _ _) ?_
    refine G9 ?_
    refine J7 hst3 hfm ?_
    refine G9 ?_
    refine stW hst3 hfm ?_
    refine H4 ?_
    refine ⟨m - (k+1),by omega,k+1,sv',_,false,by omega,rfl,?_,?_,?_,hout3.write hst⟩
    ·rw [B7 (by omega),hF,if_neg h1]
     have w:IntKind.i64.wrap (F.2+L6 (gU F.1 (at_ es k).2.toNat).net p.rate)=F.2+L6 (gU F.1 (at_ es k).2.toNat).net p.rate:=B0 (by omega) (by omega)
     show _=[AV.own 3 bo 0 us.length,AV.optr 1 q 0 0,AV.fptr (B6 p) 0,sv',eI (F.2+L6 (gU F.1 (at_ es k).2.toNat).net p.rate),eI m,eI (k+1:Nat)]
     rw [←w];rfl
    ·rw [hF,if_neg h1]
     refine A0V.set hf (by omega) _ ?_
     rw [A0,Nat.zero_add]
     have w:IntKind.i64.wrap ((gU F.1 (at_ es k).2.toNat).net - L6 (gU F.1 (at_ es k).2.toNat).net p.rate)=(gU F.1 (at_ es k).2.toNat).net - L6 (gU F.1 (at_ es k).2.toNat).net p.rate:=B0 (by omega) (by omega)
     rw [←w];rfl
    ·intro c hc
     rw [A3 hc];exact hfr c hc
def bgF (p:A8) (us:List A6) (d:List QE) (m:Nat):Nat→List A6×Int
 | 0=>(us,0)
 | r+1=>((Q4 p (bgF p us d m r).1 (d.drop (r * m)) m).1,(bgF p us d m r).2+(Q4 p (bgF p us d m r).1 (d.drop (r * m)) m).2)
theorem A4w {p:A8} (hp:A6r p) {us:List A6} (hu:C0 us) {d:List QE} {m:Nat} (hr:∀ e∈d,0≤e.2∧e.2.toNat<us.length):∀ r,r * m≤d.length→Y8 us (bgF p us d m r).1 (bgF p us d m r).2
 | 0,_=>Y8.refl hu
 | r+1,h=>by
  have e:(r+1) * m=r * m+m:=Nat.succ_mul r m
  have ih:=A4w hp hu (m:=m) hr r (by omega)
  unfold bgF
  exact ih.trans (A2Z hp (ih.ok hu) (fun x hx=>by rw [ih.len];exact hr x (List.drop_subset _ _ hx)) m (by rw [List.length_drop];omega))
def S2 (p:A8) (us:List A6) (mine:List Int):List A6×Int :=
 let d:=D4 us mine
 let m:=(p.buy+p.get).toNat
 let F:=bgF p us d m (d.length / m)
 (if (decide (F.2>0)&&p.closes)=true then closeB F.1 ((d.take (d.length / m * m)).map (·.2)) else F.1,F.2)
theorem A8p {p:A8} (hp:A6r p) {us:List A6} (hu:C0 us) {mine:List Int} (hm:I7 us mine):Y8 us (S2 p us mine).1 (S2 p us mine).2:=by
 have hr:∀ e∈D4 us mine,0≤e.2∧e.2.toNat<us.length:=fun e he=>A3v hm.rng he
 have h1:=A4w hp hu (m:=(p.buy+p.get).toNat) hr ((D4 us mine).length / (p.buy+p.get).toNat) (Nat.div_mul_le_self ..)
 unfold S2
 simp only
 split
 ·have h2:=Y8.closeB (h1.ok hu) (((D4 us mine).take ((D4 us mine).length / (p.buy+p.get).toNat * (p.buy+p.get).toNat)).map (·.2)) (fun x hx=>by
   obtain ⟨e,he,rfl⟩:=List.mem_map.1 hx
   rw [h1.len];exact (hr e (List.take_subset _ _ he)).2)
  have h3:=h1.trans h2
  rw [Int.add_zero] at h3;exact h3
 ·exact h1
theorem A8w (d:List QE) {n k:Nat} (hn:n≤d.length) (hk:k<n):gI ((d.take n).map (·.2)) k=(at_ d k).2:=by
 have h6:=E7 (fun e:QE=>e.2) (d.take n) (i:=k) (by rw [List.length_take];omega)
 rw [show gI ((d.take n).map (·.2)) k=((d.take n).map fun e:QE=>e.2).getD k default from rfl,h6]
 unfold at_
 rw [List.getD_eq_getElem?_getD,List.getD_eq_getElem?_getD,List.getElem?_take_of_lt hk]
theorem A9b (d:List QE) {n:Nat} (hn:n≤d.length) (st:St):A4 [.arr 1 n (fun k=>eI (at_ d k).2)] st [B2 ((d.take n).map (·.2))] st:=by
 have e:B2 ((d.take n).map (·.2))=.arr 1 n (fun k=>eI (gI ((d.take n).map (·.2)) k)):=by unfold B2 A5;rw [List.length_map,List.length_take,Nat.min_eq_left hn]
 rw [e]
 exact A4.arr fun i hi=>by rw [A8w d hn hi]
theorem A7X {L:List Int} {m:Nat} (h:L.length=m) (s:St):T2 1 s (B2 L)=some (m,fun k=>eI (gI L k)):=by
 subst h;exact A3M ..
theorem B3j (p:A8) (us:List A6) (mine:List Int) (hfit:I9 p) (hright:I2 p=true) (hk:p.kind=3) (hp:A6r p) (hu:C0 us) (hm:I7 us mine) (st:St) :
  S P 241 [B6 p,B9 us,B2 mine] st fun v st'=>v=.tuple [B9 (S2 p us mine).1,eI (S2 p us mine).2]∧st'=st:=by
 refine S.post (post:=fun v st'=>∃ sv,v=.tuple [sv,eI (S2 p us mine).2]∧A0X st (S2 p us mine).1 sv st') ?_
  (fun v st' ⟨sv,hv,hr⟩=>⟨_,st,⟨rfl,rfl⟩,by rw [hv];exact A4.tuple (A4.cons hr.shift (A4.keep _ _)) rfl⟩)
 have hul:=hu.len
 have hml:=hm.len
 have hB:=hp.buy
 have hG:=hp.get
 have hdl:=A6B us mine
 have hdr:∀ e∈D4 us mine,0≤e.2∧e.2.toNat<us.length:=fun e he=>A3v hm.rng he
 have hds:=A3c (mine.map (B5e us))
 have hM:S2 p us mine=(if (decide ((bgF p us (D4 us mine) (p.buy+p.get).toNat ((D4 us mine).length / (p.buy+p.get).toNat)).2>0)&&p.closes)=true then closeB (bgF p us (D4 us mine) (p.buy+p.get).toNat ((D4 us mine).length / (p.buy+p.get).toNat)).1 (((D4 us mine).take ((D4 us mine).length / (p.buy+p.get).toNat * (p.buy+p.get).toNat)).map (·.2)) else (bgF p us (D4 us mine) (p.buy+p.get).toNat ((D4 us mine).length / (p.buy+p.get).toNat)).1,(bgF p us (D4 us mine) (p.buy+p.get).toNat ((D4 us mine).length / (p.buy+p.get).toNat)).2):=rfl
 generalize hmm:(p.buy+p.get).toNat=m at *
 have hmI:(m:Int)=p.buy+p.get:=by omega
 have hm0:0<m:=by omega
 generalize hdd:(D4 us mine).length / m=c at *
 have hcm:c * m≤(D4 us mine).length:=by rw [←hdd];exact Nat.div_mul_le_self ..
 have hcl:c≤100000:=by rw [←hdd];exact Nat.le_trans (Nat.div_le_self ..) (by omega)
 refine E3 [3] Tryz.func241 ?_
 refine call (A4W us hul st) (fun sv st1 hcol=>?_)
 have hres:=A0X.ofCol hcol
 conv=>whnf
 refine B5 (fun h1=>?_) (fun h1=>?_)<;>rw [h1]<;>simp only [hk] at h1
 ·simp at h1
 conv=>whnf
 refine C1 (A4G p hfit _) ?_
 rw [hright];conv=>whnf
 refine H9 (A4Y us mine hu hm _) ?_
 refine call (A3w us mine hul (by omega) hm.rng _) (fun v st2 hv=>?_)
 obtain ⟨q,rfl,hq⟩:=hv
 conv=>whnf
 refine ⟨[],[],[0,1,2,3,4,5,6,7,8],by kernel_rfl,?_⟩;conv=>whnf
 refine cqW (A5w _ _ _ _ _ hq) ?_
 have w0:IntKind.i64.wrap (p.buy+p.get)=(m:Int):=by rw [B0 (by omega) (by omega)];omega
 rw [w0]
 refine B5 (fun h2=>absurd (of_decide_eq_true h2) (by omega)) (fun h2=>?_);conv=>whnf
 have w1:IntKind.i64.wrap (((D4 us mine).length:Int).tdiv (m:Int))=(c:Int):=by
  rw [Int.tdiv_eq_ediv_of_nonneg (by omega),←Int.natCast_ediv,hdd];exact B0 (by omega) (by omega)
 rw [w1]
 refine ⟨[3,8,9,10,11,41,42],fun mm vs st'=>∃ (r:Nat) (svT:AV) (base:St) (fl:Bool),r≤c∧mm=c - r∧vs=[.fptr (B6 p) 0,sv,.optr 1 q 0 0,svT,eI (bgF p us (D4 us mine) m r).2,eI c,eI r]∧A0X st (bgF p us (D4 us mine) m r).1 sv base∧N7 3 1 (fun k=>eI (at_ (D4 us mine) k).2) (r * m) base q fl ((D4 us mine).drop (r * m)) svT st',?_,?_⟩
 ·conv=>whnf
  exact ⟨_,0,.emp,st1,true,Nat.zero_le _,rfl,rfl,hres,.inl ⟨Nat.zero_mul _,rfl,by rw [Nat.zero_mul];exact hq⟩⟩
 ·clear hq hcol hres
  rintro mm vs st' ⟨r,svT,base,fl,hr,rfl,rfl,hres,hout⟩
  have hrm:r * m≤c * m:=Nat.mul_le_mul_right m hr
  have hoff:=A4w hp hu (m:=m) hdr r (by omega)
  conv=>whnf
  cases h:decide ((r:Int)<(c:Int))
  ·have:=of_decide_eq_false h
   obtain rfl:r=c:=by omega
   generalize bgF p us (D4 us mine) m r=F at *
   rw [hM]
   have hsup:E2 base st':=hout.sup
   have fin:A0X st F.1 sv st':=by
    refine ⟨hres.1.trans hsup,?_⟩
    rcases hres.2 with h3 | ⟨b,h3,h4,f,h5,h6⟩
    ·exact .inl h3
    ·exact .inr ⟨b,h3,h4,f,hsup b _ h5,h6⟩
   conv=>whnf
   refine B5 (fun h3=>?_) (fun h3=>?_)<;>rw [h3]
   ·conv=>whnf
    refine B5 (fun h4=>?_) (fun h4=>?_)<;>rw [h4]
    ·conv=>whnf
     rcases hres.2 with ⟨h5,rfl⟩ | ⟨b,hb0,rfl,hHas⟩
     ·exfalso
      have h6:=hoff.len
      rw [h5] at h6
      have h7:=of_decide_eq_true h3
      have h8:=hoff.sum
      have h9:us=[]:=List.eq_nil_of_length_eq_zero h6.symm
      rw [h5,h9] at h8
      simp [A2] at h8
      omega
     ·have hcl2:∀ x∈((D4 us mine).take (r * m)).map (·.2),0≤x∧x.toNat<F.1.length:=fun x hx=>by
       obtain ⟨e,he,rfl⟩:=List.mem_map.1 hx
       rw [hoff.len];exact hdr e (List.take_subset _ _ he)
      refine F0 (args':=[.own 3 b 0 F.1.length,B2 (((D4 us mine).take (r * m)).map (·.2))]) (A4.cons (A4.keep _ _) (hout.shift.trans (A9b _ hcm base))) (call (A7m b F.1 (((D4 us mine).take (r * m)).map (·.2)) hcl2 (by rw [List.length_map,List.length_take];omega) base hHas) (fun v st3 hv=>?_))
      obtain ⟨rfl,hH3,hfr⟩:=hv
      conv=>whnf
      refine ⟨_,rfl,?_⟩
      show A0X st (closeB F.1 (((D4 us mine).take (r * m)).map (·.2))) _ st3
      refine ⟨fun x y hx=>?_,.inr ⟨b,hb0,by rw [A0r],hH3⟩⟩
      rw [hfr x (fun e=>by subst e;rw [hb0] at hx;cases hx)];exact hres.1 x y hx
    ·conv=>whnf
     refine ⟨_,rfl,?_⟩
     exact fin
   ·conv=>whnf
    refine ⟨_,rfl,?_⟩
    exact fin
  ·have hr':r<c:=by have:=of_decide_eq_true h;omega
   have e1:(r+1) * m=r * m+m:=Nat.succ_mul r m
   have hrm2:(r+1) * m≤c * m:=Nat.mul_le_mul_right m hr'
   have hoff2:=A4w hp hu (m:=m) hdr (r+1) (by omega)
   have hF2:bgF p us (D4 us mine) m (r+1)=((Q4 p (bgF p us (D4 us mine) m r).1 ((D4 us mine).drop (r * m)) m).1,(bgF p us (D4 us mine) m r).2+(Q4 p (bgF p us (D4 us mine) m r).1 ((D4 us mine).drop (r * m)) m).2):=rfl
   rw [hF2] at hoff2
   have hrr:∀ e∈(D4 us mine).drop (r * m),0≤e.2∧e.2.toNat<(bgF p us (D4 us mine) m r).1.length:=fun e he=>by rw [hoff.len];exact hdr e (List.drop_subset _ _ he)
   have hss:((D4 us mine).drop (r * m)).Pairwise fun a b=>D6 b a=false:=hds.sublist (List.drop_sublist _ _)
   generalize bgF p us (D4 us mine) m r=F at *
   have hoffR:=A2Z hp (hoff.ok hu) hrr m (by rw [List.length_drop];omega)
   conv=>whnf
   obtain ⟨st0,hcolT,hq⟩:=hout.col
   rcases hres.2 with ⟨h5,rfl⟩ | ⟨b,hb0,rfl,f,hst,hf⟩
   ·exfalso
    have h6:=hoff.len
    rw [h5,List.length_nil] at h6
    omega
   have hHas0:A0V st0 b F.1:=⟨f,hcolT.sup b _ hst,hf⟩
   refine call (B9M p hp F.1 (hoff.ok hu) _ hrr hss m hmI (by rw [List.length_drop];omega) st0 st' b q fl hHas0 hq) (fun v st3 hv=>?_)
   obtain ⟨rfl,st4,fl',⟨f4,hst4,hf4⟩,hfr4,hq4⟩:=hv
   have e4:st4=upd st0 b _:=B7I hst4 hfr4
   have hcol4:=H6.write (y':=⟨152,3,(Q4 p F.1 ((D4 us mine).drop (r * m)) m).1.length,f4⟩) hcolT hst
   rw [←e4] at hcol4
   have hout4:=N7.of hcol4 hq4
   rw [List.drop_drop] at hout4
   have hX1:=hoffR.pos
   have hX2:=hoff.pos
   have hX3:=hoff2.sum
   have hX4:=B8 (hoff2.ok hu).nets0
   have hX5:=hu.sum
   have hX6:=hoffR.len
   have etl:(((D4 us mine).drop (r * m)).take m |>.map (·.2)).length=m:=by rw [List.length_map,List.length_take,List.length_drop];omega
   conv=>whnf
   refine N7.apps (q:=r3) (m:=m) (n:=r * m) rfl rfl rfl rfl (A7X etl st3) (fun i hi=>?_) (by show (r * m+m) * 8≤140737488355328;omega) hout4 (fun sv' st5 hout5=>?_)
   ·show eI (gI (((D4 us mine).drop (r * m)).take m |>.map (·.2)) i)=_
    rw [A8w _ (by rw [List.length_drop];omega) hi]
    unfold at_
    rw [List.getD_eq_getElem?_getD,List.getElem?_drop,←List.getD_eq_getElem?_getD]
   conv=>whnf
   refine H4 ?_
   refine ⟨c - (r+1),by omega,r+1,sv',upd base b ⟨152,3,(Q4 p F.1 ((D4 us mine).drop (r * m)) m).1.length,f4⟩,fl',by omega,rfl,?_,?_,?_⟩
   ·have w:IntKind.i64.wrap (F.2+(Q4 p F.1 ((D4 us mine).drop (r * m)) m).2)=F.2+(Q4 p F.1 ((D4 us mine).drop (r * m)) m).2:=B0 (by omega) (by omega)
    rw [B7 (by omega),hF2,w]
   ·rw [hF2]
    exact ⟨hres.1.over hb0,.inr ⟨b,hb0,by show AV.own 3 b 0 F.1.length=_;rw [hX6],f4,A0 ..,hf4⟩⟩
   ·rw [e1];exact hout5
end Go.Proofs.YtbajhapmlfbelaaGreat
