/- Part 22 of the proof: contracts of the functions that the law reaches -/
import Derived.Test.YtaapofnkmpiknaaGreatPl21
import Derived.RangeFuncBox
import Derived.RangeFuncLeaves
import Derived.Shelf.Abstract
import Derived.WalkKit
import Derived.OwnWalkIn
import Derived.TacticsInMore
import Derived.LoopNIn
import Derived.LoopIn
import Derived.Maps.AppendAt
import Derived.RangeFuncNested
import Derived.RangeFuncBound
import Derived.RangeFuncCalls
import Derived.Shelf.SortM.Plain
import Derived.Shelf.SortM.SortNone
set_option maxRecDepth 100000
set_option linter.unusedVariables false
set_option linter.unusedSimpArgs false
namespace Go.Proofs.YtaapofnkmpiknaaGreat
open Go Go.Ab
attribute [local irreducible] upd del
abbrev A1W (p:B1):List AV:=[eS p.id,eI p.kind,eI p.prio,eS p.group,eS p.code,eB p.closes,C7 p.scope.skus,C7 p.scope.cats,eI p.least,eI p.rate,eI p.amount,eI p.buy,eI p.get,A8 3 W6 p.parts,A8 3 R9 p.tiers]
structure C5N (st1:St) (p:B1) (bc:Nat) (nets:List Int) (i:Nat) (svN:AV) (st':St):Prop where
 sup:F1 st1 st'
 new:st1 bc=none
 var:∃ f,st' bc=some ⟨355,16,1,f⟩∧f 0=.agg (A1W p++[svN])
 nets:(i=0∧svN=.emp)∨(0<i∧∃ bn g,bn≠bc∧st1 bn=none∧svN=.own 1 bn 0 i∧st' bn=some ⟨2,1,i,g⟩∧∀ k,k<i→g k=eI (gI nets k))
theorem C5N.shift {st1:St} {p:B1} {bc:Nat} {nets:List Int} {svN:AV} {st':St} (h:C5N st1 p bc nets nets.length svN st'):∃ st'',F1 st1 st''∧A6 [.agg (A1W p++[svN])] st' [B6b p nets] st'':=by
 obtain ⟨h1,h2,h3,⟨h0,rfl⟩ | ⟨h0,bn,g,h4,h5,rfl,h6,h7⟩⟩:=h
 ·refine ⟨st',h1,A6.agg (A6.last (v':=B0 nets) ?_ (A1W p))⟩
  have:B0 nets=.arr 1 0 (fun k=>eI (gI nets k)):=by unfold B0 A8;rw [h0]
  rw [this]
  exact I9 1 _
 ·refine ⟨del st' bn,h1.del h5,A6.agg (A6.last (v':=B0 nets) ?_ (A1W p))⟩
  exact O4 h6 rfl (D6M _) h7
theorem C0u {us:List B2} {mine:List Int} (hu:E3 us) (hm:N7 us mine):∀ k,k≤mine.length→∀ B,B≤us.length→(∀ i,i<k→(gI mine i).toNat<B)→A2 ((E4 us mine).take k)≤A2 ((D9 us).take B)
 | 0,_,B,_,_=>by
  rw [D8h]
  exact C1 (fun x hx=>hu.nets0 x (D7G _ _ hx))
 | k+1,hk,B,hB,h=>by
  have hj:=h k (by omega)
  have ih:=C0u hu hm k (by omega) (gI mine k).toNat (by omega) (fun i hi=>by
   have h1:=hm.lt i k hi (by omega)
   have h2:=(hm.rng i (by omega)).1
   omega)
  have e1:=K9 (l:=E4 us mine) (i:=k) (by unfold E4;rw [D6J];omega)
  have e2:gI (E4 us mine) k=(gU us (gI mine k).toNat).net:=D4 (fun i:Int=>(gU us i.toNat).net) mine (by omega)
  have e3:=K9 (l:=D9 us) (i:=(gI mine k).toNat) (by rw [D6J];omega)
  have e4:gI (D9 us) (gI mine k).toNat=(gU us (gI mine k).toNat).net:=D4 B2.net us (by omega)
  have e5:=F5 (((D9 us).take B).take ((gI mine k).toNat+1)) (((D9 us).take B).drop ((gI mine k).toNat+1))
  rw [D8U,List.take_take,D9K (by omega)] at e5
  have e6:=C1 (l:=((D9 us).take B).drop ((gI mine k).toNat+1)) (fun x hx=>hu.nets0 x (D7G _ _ (List.drop_subset _ _ hx)))
  omega
def kf (p:B1):FuncId:=if p.kind=1 then 298 else if p.kind=2 then 299 else if p.kind=5 then 300 else 301
theorem D4a {p:B1} (hp:A5N p) (nets:List Int) (hl:nets.length≤100000) (h0:∀ x∈nets,0≤x) (hs:A2 nets≤10000000000000) (st:St):S P (kf p) [B6b p nets] st fun v st'=>v=B0 (O8 p nets)∧st'=st:=by
 unfold kf O8
 rcases hp.kind with e | e | e | e
 ·rw [if_pos e,if_pos e];exact C1E p nets hl st
 ·rw [if_neg (by omega),if_pos e,if_neg (by omega),if_pos e];exact C3e p nets (hp.amount e).1 (hp.amount e).2 hl st
 ·rw [if_neg (by omega),if_neg (by omega),if_pos e,if_neg (by omega),if_neg (by omega),if_pos e];exact C7x p nets (hp.tiers (.inl e)) hl h0 hs st
 ·rw [if_neg (by omega),if_neg (by omega),if_neg (by omega),if_neg (by omega),if_neg (by omega),if_neg (by omega)];exact C5Z p nets (hp.tiers (.inr e)) hl st
theorem B9Y {p:B1} (hp:A5N p) (K:AV→Prop) (h:K (.fn (.func (kf p)) [] [])):C3K [.nilf,.fn (.func 298) [] [],.fn (.func 299) [] [],.nilf,.nilf,.fn (.func 300) [] [],.fn (.func 301) [] []] (0+p.kind.toNat * 1) K:=by
 unfold kf at h
 rcases hp.kind with e | e | e | e
 ·rw [if_pos e] at h;rw [e];exact h
 ·rw [if_neg (by omega),if_pos e] at h;rw [e];exact h
 ·rw [if_neg (by omega),if_neg (by omega),if_pos e] at h;rw [e];exact h
 ·rw [if_neg (by omega),if_neg (by omega),if_neg (by omega)] at h;rw [e];exact h
theorem C5W (p:B1) (us:List B2) (mine:List Int) (hp:A5N p) (hu:E3 us) (hm:N7 us mine) (st:St) :
  S P 272 [B7 p,C6 us,B0 mine] st fun v st'=>v=.tuple [C6 (A0b p us mine).1,eI (A0b p us mine).2]∧st'=st:=by
 refine S.post (post:=fun v st'=>∃ sv,v=.tuple [sv,eI (A0b p us mine).2]∧A5I st (A0b p us mine).1 sv st') ?_
  (fun v st' ⟨sv,hv,hr⟩=>⟨_,st,⟨rfl,rfl⟩,by rw [hv];exact A6.tuple (A6.cons hr.shift (A6.keep _ _)) rfl⟩)
 have hul:=hu.len
 have hml:=hm.len
 have hnl:(E4 us mine).length=mine.length:=D6J ..
 have hn0:∀ x∈E4 us mine,0≤x:=fun x hx=>by
  obtain ⟨i,hi,rfl⟩:=D6Z.1 hx
  obtain ⟨k,hk,rfl⟩:=D5 hi
  exact hu.pos _ (A7 (hm.rng k hk).2)
 have hns:A2 (E4 us mine)≤10000000000000:=by
  have:=C0u hu hm mine.length (D6M _) us.length (D6M _) (fun i hi=>(hm.rng i hi).2)
  rw [←hnl,D6O,show (D9 us).take us.length=D9 us from by rw [←D6J (f:=B2.net),D6O]] at this
  have:=hu.sum
  omega
 obtain ⟨ob1,ob2,ob3⟩:=A5k hp hn0 hns (by omega)
 refine F4 [3,8] Tryz.func272 ?_
 refine call (B1j us hul st) (fun sv st1 hcol=>?_)
 have hres:=A5I.ofCol hcol
 conv=>whnf
 refine B3 (B0N p hp.fit _) ?_
 rw [hp.right];conv=>whnf
 refine B9 (fun h1=>?_) (fun h1=>?_)<;>rw [h1]<;>simp only [D6F,D6E] at h1
 ·exact absurd h1 (by rcases hp.kind with e | e | e | e<;>omega)
 conv=>whnf
 refine ⟨⟨by rcases hp.kind with e | e | e | e<;>omega,by rcases hp.kind with e | e | e | e<;>(rw [e];decide)⟩,?_⟩;conv=>whnf
 refine B9Y hp _ ?_;conv=>whnf
 refine I2 (B1n us mine hu hm _) ?_
 intro bc hbc;conv=>whnf
 refine Z7 (A0 ..) rfl ?_
 have hc0:C5N st1 p bc (E4 us mine) 0 .emp (upd (upd st1 bc ⟨355,16,1,fun _=>H7 C7d.zero⟩) bc ⟨355,16,1,I4 (fun _=>H7 C7d.zero) 0 (.agg (A1W p++[.emp]))⟩) :=
  ⟨((F1.refl st1).upd hbc).over hbc,hbc,⟨_,A0 ..,A4 ..⟩,.inl ⟨rfl,rfl⟩⟩
 refine ⟨[1,2,3,8,9,10,43,44,45],fun m vs st'=>∃ (i:Nat) (svN:AV),i≤mine.length∧m=mine.length - i∧vs=[C6 us,B0 mine,.fptr (B7 p) 0,.fptr (.agg [.nilf,.fn (.func 298) [] [],.fn (.func 299) [] [],.nilf,.nilf,.fn (.func 300) [] [],.fn (.func 301) [] []]) 0,sv,.optr 16 bc 0 0,B0 mine,eI mine.length,eI i]∧C5N st1 p bc (E4 us mine) i svN st',?_,?_⟩
 ·conv=>whnf
  exact ⟨_,0,.emp,D7e _,rfl,rfl,hc0⟩
 ·clear hc0
  rintro m vs st' ⟨i,svN,hi,rfl,rfl,hcuts⟩
  obtain ⟨fc,hvc,hfc⟩:=hcuts.var
  conv=>whnf
  cases h:decide ((i:Int)<(mine.length:Int))
  ·have:=D6G h
   obtain rfl:i=mine.length:=by omega
   rw [←hnl] at hcuts
   obtain ⟨st2,hs2,hsh⟩:=hcuts.shift
   conv=>whnf
   refine ⟨[5],[],[0,1,2,3,4,7,5,6],by kernel_rfl,?_⟩;conv=>whnf
   refine ⟨⟨by rcases hp.kind with e | e | e | e<;>omega,by rcases hp.kind with e | e | e | e<;>(rw [e];decide)⟩,?_⟩;conv=>whnf
   refine B9Y hp _ ?_;conv=>whnf
   refine J6 hvc hfc ?_
   refine E5 hsh (B3 (D4a hp (E4 us mine) (by omega) hn0 hns _) ?_);conv=>whnf
   generalize ho:O8 p (E4 us mine)=offs at *
   have hol:offs.length≤mine.length:=by omega
   have hsum0:∀ k,0≤A2 (offs.take k)∧A2 (offs.take k)≤10000000000000:=fun k=>by
    have h1:=N0 ob3 k
    have h2:=C1 (l:=offs.take k) (fun x hx=>ob3 x (D7G _ _ hx))
    omega
   refine ⟨[2,3,9,13,65,66,67],fun m vs st'=>∃ k:Nat,k≤offs.length∧m=offs.length - k∧vs=[B0 mine,.fptr (B7 p) 0,sv,eI (A2 (offs.take k)),B0 offs,eI offs.length,eI k]∧F1 st st' ∧
    ((us=[]∧sv=.emp)∨∃ b,st b=none∧sv=.own 3 b 0 us.length∧A5P st' b (D0 us mine offs k)),?_,?_⟩
   ·conv=>whnf
    refine ⟨_,0,D7e _,rfl,rfl,hres.1.trans hs2,?_⟩
    rcases hres.2 with h2 | ⟨b,h3,h4,f,h5,h6⟩
    ·exact .inl h2
    ·exact .inr ⟨b,h3,h4,f,hs2 b _ h5,h6⟩
   ·rintro m vs st' ⟨k,hk,rfl,rfl,hsup,hus⟩
    conv=>whnf
    cases h2:decide ((k:Int)<(offs.length:Int))
    ·have:=D6G h2
     obtain rfl:k=offs.length:=by omega
     rw [D6O];conv=>whnf
     have hA:∀ (b:Bool),(decide (A2 offs>0)&&p.closes)=b→A0b p us mine=(if b=true then closeB (D0 us mine offs offs.length) mine else D0 us mine offs offs.length,A2 offs):=fun b hb=>by
      unfold A0b;rw [ho];simp only [hb]
     have fin:∀ us':List B2,us'.length=us.length→(us=[]∧sv=.emp∨∃ b,st b=none∧sv=.own 3 b 0 us.length∧A5P st' b us')→A5I st us' sv st':=fun us' hl hh=>by
      refine ⟨hsup,?_⟩
      rcases hh with ⟨h3,h4⟩ | ⟨b,h3,h4,h5⟩
      ·exact .inl ⟨D7n (by rw [hl,h3];rfl),h4⟩
      ·exact .inr ⟨b,h3,by rw [hl];exact h4,h5⟩
     refine B9 (fun h3=>?_) (fun h3=>?_)<;>rw [h3]
     ·conv=>whnf
      refine B9 (fun h4=>?_) (fun h4=>?_)<;>rw [h4]
      ·have hne:offs≠[]:=fun e=>by rw [e] at h3;simp [A2] at h3
       have hml0:0<mine.length:=by have:=List.length_pos_iff.2 hne;omega
       have hu0:=(hm.rng 0 hml0).2
       conv=>whnf
       rcases hus with ⟨rfl,rfl⟩ | ⟨b,hb0,rfl,hHas⟩
       ·exact absurd hu0 (by simp)
       rw [←P8 us mine offs offs.length]
       refine call (B4A b (D0 us mine offs offs.length) mine (fun x hx=>by
        obtain ⟨j,hj,rfl⟩:=D5 hx
        rw [P8];exact hm.rng j hj) (by omega) st' hHas) (fun v st3 hv=>?_)
       obtain ⟨rfl,hH3,hfr⟩:=hv
       conv=>whnf
       refine ⟨_,by rw [hA true (by rw [h3,h4];rfl)];rfl,?_⟩
       rw [hA true (by rw [h3,h4];rfl),if_pos rfl]
       refine ⟨fun c x hc=>?_,.inr ⟨b,hb0,by rw [A1X],hH3⟩⟩
       rw [hfr c (fun e=>by subst e;rw [hb0] at hc;cases hc)];exact hsup c x hc
      ·conv=>whnf
       refine ⟨_,by rw [hA false (by rw [h3,h4];rfl)];rfl,?_⟩
       rw [hA false (by rw [h3,h4];rfl),if_neg (by simp)]
       exact fin _ (P8 ..) hus
     ·conv=>whnf
      refine ⟨_,by rw [hA false (by rw [h3];rfl)];rfl,?_⟩
      rw [hA false (by rw [h3];rfl),if_neg (by simp)]
      exact fin _ (P8 ..) hus
    ·have hk':k<offs.length:=by have:=D6H h2;omega
     have hr:=hm.rng k (by omega)
     have hat:=B9m (offs:=offs) hm (show k<mine.length by omega)
     have hlen:=P8 us mine offs k
     have hnet0:0≤(gU us (gI mine k).toNat).net:=hu.pos _ (A7 hr.2)
     have hnet1:(gU us (gI mine k).toNat).net≤10000000000000:=hu.le (A7 hr.2)
     have hx0:0≤gI offs k:=ob3 _ (A7 hk')
     have hx1:=K9 hk'
     have hb1:=hsum0 k
     have hb2:=hsum0 (k+1)
     have hoff1:gI offs k≤10000000000000:=by omega
     conv=>whnf
     refine E7 ?_
     rcases hus with ⟨rfl,rfl⟩ | ⟨b,hb0,rfl,f,hst,hf⟩
     ·exact absurd hr.2 (by simp)
     refine E7 ?_
     refine ⟨rfl,⟨by show 0≤gI mine k;exact hr.1,by show gI mine k<(us.length:Int);have:=hr.2;have:=hr.1;omega⟩,?_⟩;conv=>whnf
     have hfm:f (0+(gI mine k).toNat)=Z4 (gU (D0 us mine offs k) (gI mine k).toNat):=by rw [D6Q];exact hf _ (by rw [hlen];exact hr.2)
     refine ldV hst rfl (by show 0+(gI mine k).toNat<_;rw [hlen];have:=hr.2;omega) hfm ?_;conv=>whnf
     refine ⟨rfl,⟨by show 0≤gI mine k;exact hr.1,by show gI mine k<(us.length:Int);have:=hr.2;have:=hr.1;omega⟩,?_⟩;conv=>whnf
     refine stV hst rfl (by show 0+(gI mine k).toNat<_;rw [hlen];have:=hr.2;omega) hfm (by rfl) ?_;conv=>whnf
     refine G2 ?_
     refine ⟨offs.length - (k+1),by omega,k+1,by omega,rfl,?_,hsup.over hb0,.inr ⟨b,hb0,rfl,?_⟩⟩
     ·rw [B4 (by omega),hx1]
      have:IntKind.i64.wrap (A2 (offs.take k)+gI offs k)=A2 (offs.take k)+gI offs k:=A5 (by omega) (by omega)
      rw [←this];rfl
     ·refine A5P.set hf (by rw [hlen];exact hr.2) _ ?_
      rw [A0,D6Q]
      have w:IntKind.i64.wrap ((gU (D0 us mine offs k) (gI mine k).toNat).net - gI offs k)=(gU (D0 us mine offs k) (gI mine k).toNat).net - gI offs k:=by
       rw [hat];exact A5 (by omega) (by omega)
      rw [←w];rfl
  ·have hi':i<mine.length:=by have:=D6H h;omega
   have hr:=hm.rng i hi'
   have hgn:gI (E4 us mine) i=(gU us (gI mine i).toNat).net:=D4 (fun i:Int=>(gU us i.toNat).net) mine hi'
   conv=>whnf
   refine E7 ?_
   refine ⟨[8,10],[],[0,1,2,3,4,5,6,7,8,9,10],by kernel_rfl,?_⟩;conv=>whnf
   obtain ⟨c1,c2,c3,⟨rfl,rfl⟩ | ⟨hpos,bn,g,hbn,hb1,rfl,hst,hg⟩⟩:=hcuts
   ·refine J6 hvc hfc ?_
    refine ⟨rfl,⟨by show 0≤gI mine 0;exact hr.1,by show gI mine 0<(us.length:Int);have:=hr.2;have:=hr.1;omega⟩,?_⟩;conv=>whnf
    refine ⟨_,⟨rfl,rfl⟩,?_⟩;conv=>whnf
    refine apE rfl rfl rfl rfl (A3F ..) (by show 1 * 8≤_;omega) (fun h=>absurd h (by omega)) (fun _ bn hbn=>?_)
    have hne:bn≠bc:=fun e=>by subst e;rw [hvc] at hbn;cases hbn
    have hbn1:st1 bn=none:=c1.none hbn
    conv=>whnf
    refine Z7 (by rw [A9 hne.symm];exact hvc) hfc ?_
    refine G2 ?_
    refine ⟨mine.length - 1,by omega,1,.own 1 bn 0 1,by omega,rfl,rfl,⟨(c1.over hbn1).over c2,c2,⟨_,A0 ..,by rw [A4];rfl⟩,.inr ⟨by omega,bn,_,hne,hbn1,rfl,by rw [A9 hne,A0];rfl,fun k hk=>?_⟩⟩⟩
    have:k=0:=by omega
    subst this
    rw [hgn];rfl
   ·refine J6 hvc hfc ?_
    refine ⟨rfl,⟨by show 0≤gI mine i;exact hr.1,by show gI mine i<(us.length:Int);have:=hr.2;have:=hr.1;omega⟩,?_⟩;conv=>whnf
    refine ⟨_,⟨rfl,rfl⟩,?_⟩;conv=>whnf
    refine apO (q:=r2) (n:=i) rfl rfl rfl rfl (A3F ..) hst rfl rfl rfl (by show (i+1) * 8≤_;omega) (fun h=>absurd h (by omega)) (fun _ b' hb'=>?_)
    have hne:b'≠bc:=fun e=>by
     subst e
     rcases hb' with e | e
     ·exact hbn e.symm
     ·rw [hvc] at e;cases e
    have hb1':st1 b'=none:=by
     rcases hb' with rfl | e
     ·exact hb1
     ·exact c1.none e
    conv=>whnf
    refine Z7 (by rw [A9 hne.symm];unfold del;rw [if_neg hbn.symm];exact hvc) hfc ?_
    refine G2 ?_
    refine ⟨mine.length - (i+1),by omega,i+1,.own 1 b' 0 (i+1),by omega,rfl,by rw [B4 (by omega)],⟨((c1.del hb1).over hb1').over c2,c2,⟨_,A0 ..,by rw [A4];rfl⟩,.inr ⟨by omega,b',_,hne,hb1',rfl,by rw [A9 hne,A0];rfl,fun k hk=>?_⟩⟩⟩
    by_cases hki:k<i
    ·simp only [hki,if_true];exact hg k hki
    ·have:k=i:=by omega
     subst this
     simp only [hki,D9l,Nat.sub_self]
     rw [hgn];rfl
end Go.Proofs.YtaapofnkmpiknaaGreat
namespace Go.Proofs.YtaapofnkmpiknaaGreat
open Go Go.Ab Go.Proofs Go.RowKit Go.Shelf
attribute [local go_sem] Oper.semAt_some
def C0D (u:B2):Value:=.agg #[.int .i64 u.line,.int .i64 u.net,.bool u.opn]
def lnU (l:List E8) (i:Nat):B2:=⟨i,(l.getD i default).price,true⟩
def G5 (l:List E8):Nat→List B2
 | 0=>[]
 | k+1=>G5 l k++List.replicate (l.getD k default).qty.toNat (lnU l k)
structure KpL (n₀ : Nat) (W W':World):Prop where
 below:Below n₀ W W'
 lines:∀ (k:Nat) (cs:Array Value) (fr:Nat×Nat),W.heap[k]?=some (.cells cs 137 fr)→W'.heap[k]?=some (.cells cs 137 fr)
theorem KpL.trans {n₀ : Nat} {A B C:World} (h:KpL n₀ A B) (k:KpL n₀ B C):KpL n₀ A C:=⟨h.below.trans k.below,fun i cs fr hi=>k.lines i cs fr (h.lines i cs fr hi)⟩
theorem A6U {W:World} {b:Nat} {cs:Array Value} {t:TypeId} {fr:Nat×Nat} (h:W.heap[b]?=some (.cells cs t fr)) (o:Nat):W.cell? ⟨b,o,none⟩=cs[o]?:=by
 unfold World.cell?;rw [h];rfl
theorem B4s {B:Nat} {J:List B2→World→Prop} (h:AbidesFrom B J) {s:List B2} {W:World} (o:Obj) (hs:J s W):J s (W.alloc o) :=
 h s W _ none hs (World.grownBy_alloc W o none) (fun r e=>by cases e)
theorem B9t {l:List E8} {k m:Nat} (h:k≤m):(G5 l k).length≤(G5 l m).length:=by
 induction m with
 | zero=>have:k=0:=by omega
         subst this;exact D6M _
 | succ m ih =>
  rcases D8k m k with h1 | h1
  ·have:k=m+1:=by omega
   subst this;exact D6M _
  ·have:=ih h1
   unfold G5;rw [D6P]
   exact D7S (by cases k<;>first | exact this | exact this) (Nat.le_add_right _ _)
theorem B2I {l:List E8} {k j:Nat} (hk:k<l.length) (hj:j<(l.getD k default).qty.toNat):(G5 l k++List.replicate j (lnU l k)).length<(G5 l l.length).length:=by
 have h1:=B9t (l:=l) (show k+1≤l.length from hk)
 have h2:(G5 l (k+1)).length=(G5 l k).length+(l.getD k default).qty.toNat:=by
  show (G5 l k++List.replicate (l.getD k default).qty.toNat (lnU l k)).length=_
  rw [D6P,D7L]
 rw [D6P,D7L]
 omega
theorem A9r {l:List E8} {k:Nat} (h:k<l.length):l[k]=l.getD k default:=by simp [h]
set_option maxRecDepth 100000 in
set_option maxHeartbeats 2000000 in
theorem C3z (F:Fence) (n:Nat) (hf:F.fn 263) (hro:F.round=none) (hn:1≤n) (lp Bs n₀ b off cap:Nat) (l:List E8) (hlen:l.length≤1000) (hb:b<n₀) (hq:∀ x∈l,0≤x.qty∧x.qty≤100000)
  (J Jx:List B2→World→Prop)
  (hY:∀ pre x W,J pre W→pre.length<(G5 l l.length).length→YieldAt F (n - 1) Tryz.prog lp #[C0D x] W fun e W' =>
   (e=.returned (.bool true)∧J (pre++[x]) W'∧KpL n₀ W W')∨(e=.returned (.bool false)∧Jx (pre++[x]) W'))
  (W:World) (hJ:AbidesFrom W.heap.size J) (hn₀ : n₀≤W.heap.size) (hBs:W.cell? ⟨Bs,0,none⟩=some (.slice (some ⟨b,off,none⟩) l.length cap))
  (hc:∀ j,j<l.length→W.cell? ⟨b,off+j * 3,none⟩=some (.string (l[j]?.getD default).sku)∧W.cell? ⟨b,off+j * 3+1,none⟩=some (.int .i64 (l[j]?.getD default).qty)∧W.cell? ⟨b,off+j * 3+2,none⟩=some (.int .i64 (l[j]?.getD default).price)) (h0:J [] W) :
  CallsIn F n Tryz.prog 263 #[.func (.yield lp) #[] #[],.pointer (some ⟨Bs,0,none⟩)] W fun e W'=>(∃ v,e=.returned v) ∧
   ((∃ ys,ys=G5 l l.length∧J ys W')∨(∃ pre,True∧Jx pre W')):=by
 refine callsIn_of_wp Tryz.func263 rfl hf ?_ hro
 simp only [Tryz.ntmps263,List.size_toArray,D7o,D7X,Nat.reduceAdd,Nat.reduceSub,Array.replicate_succ,Array.replicate_zero,List.push_toArray,List.append_toArray,D9I,D8Z]
 gi_wp2
 gi_loopw [7] (fun i wr=>∃ k:Nat,k≤l.length∧i=.int .i64 k∧J (G5 l k) wr∧Below n₀ W wr∧W.heap.size≤wr.heap.size)
  (fun i _=>l.length - (intOf i).toNat)
 case atStart=>exact ⟨0,D7e _,rfl,h0,Below.refl _ _,D6M _⟩
 case round =>
  obtain ⟨k,hk,rfl,hJs,hnx,hsz⟩:=hrel
  by_cases hlt:k<l.length
  ·have hc1:=(hnx.cell (p:=⟨b,off+k * 3,none⟩) hb).trans (hc k hlt).1
   have hc2:=(hnx.cell (p:=⟨b,off+k * 3+1,none⟩) hb).trans (hc k hlt).2.1
   have hc3:=(hnx.cell (p:=⟨b,off+k * 3+2,none⟩) hb).trans (hc k hlt).2.2
   gi_wp2
   have hqk:=hq _ (D8c hlt)
   have hnew:(wr.alloc (Obj.cells #[Value.string l[k].sku,Value.int IntKind.i64 l[k].qty,Value.int IntKind.i64 l[k].price] 137)).heap[wr.heap.size]?=some (.cells #[Value.string l[k].sku,Value.int IntKind.i64 l[k].qty,Value.int IntKind.i64 l[k].price] 137 (0,0)):=World.alloc_heap_new wr _
   have hJa:=B4s hJ (Obj.cells #[Value.string l[k].sku,Value.int IntKind.i64 l[k].qty,Value.int IntKind.i64 l[k].price] 137) hJs
   have hB1:Below n₀ W (wr.alloc (Obj.cells #[Value.string l[k].sku,Value.int IntKind.i64 l[k].qty,Value.int IntKind.i64 l[k].price] 137)):=hnx.alloc (by omega) _
   have hsz1:W.heap.size≤(wr.alloc (Obj.cells #[Value.string l[k].sku,Value.int IntKind.i64 l[k].qty,Value.int IntKind.i64 l[k].price] 137)).heap.size:=by simp;omega
   have hU:lnU l k=⟨k,l[k].price,true⟩:=by unfold lnU;rw [A9r hlt]
   have hup:G5 l (k+1)=G5 l k++List.replicate l[k].qty.toNat (lnU l k):=by
    show G5 l k++List.replicate (l.getD k default).qty.toNat (lnU l k)=_
    rw [A9r hlt]
   generalize hW2:wr.alloc (Obj.cells #[Value.string l[k].sku,Value.int IntKind.i64 l[k].qty,Value.int IntKind.i64 l[k].price] 137)=W2 at *
   generalize hsw:wr.heap.size=bl at *
   gi_loopw [14] (fun i wi=>∃ j:Nat,(j:Int)≤l[k].qty∧i=.int .i64 j∧J (G5 l k++List.replicate j (lnU l k)) wi∧Below n₀ W wi∧W.heap.size≤wi.heap.size∧wi.heap[bl]?=some (.cells #[Value.string l[k].sku,Value.int IntKind.i64 l[k].qty,Value.int IntKind.i64 l[k].price] 137 (0,0)))
    (fun i _=>l[k].qty.toNat - (intOf i).toNat)
   case atStart=>exact ⟨0,by omega,rfl,by simpa using hJa,hB1,hsz1,hnew⟩
   case round =>
    obtain ⟨j,hj,rfl,hJi,hBi,hsi,hli⟩:=hrel
    by_cases hlt2:(j:Int)<l[k].qty
    ·obtain ⟨fn,tmps,assign,body,hy,hR⟩:=hY _ (lnU l k) wr hJi (B2I hlt (by rw [←A9r hlt];omega))
     rw [hU] at hy
     simp only [C0D] at hy
     have hp:=A6U hli 2
     simp only [List.getElem?_toArray,D9n,List.getElem?_cons_zero] at hp
     gi_wp2
     refine hR.mono ?_
     rintro e W3 (⟨rfl,hJ3,hk3⟩ | ⟨rfl,hJx3⟩)
     ·gi_wp2
      go_roundw
      case rel=>exact ⟨j+1,by omega,by simp,by rw [List.replicate_succ',←D8e];exact hJ3,hBi.trans hk3.below,D7S hsi hk3.below.size,hk3.lines _ _ _ hli⟩
      case measure=>simp [intOf];omega
     ·gi_wp2
      refine bodyPost_ret (results_none rfl _ _ _) rfl ?_
      exact ⟨⟨_,rfl⟩,.inr ⟨_,trivial,hJx3⟩⟩
    ·have hje:j=l[k].qty.toNat:=by omega
     subst hje
     gi_wp2
     go_roundw
     case rel=>exact ⟨k+1,by omega,by simp,by rw [hup];exact hJi,hBi,hsi⟩
     case measure=>simp [intOf];omega
  ·obtain rfl:k=l.length:=by omega
   gi_wp2
   go_end0
   exact ⟨⟨_,rfl⟩,.inl ⟨_,rfl,hJs⟩⟩
set_option maxRecDepth 100000 in
set_option maxHeartbeats 1000000 in
theorem B4C (F:Fence) (n:Nat) (hf:F.fn 263) (hro:F.round=none) (lp Bs cap:Nat) (A:Option Addr) (J:List B2→World→Prop) (W:World) (hBs:W.cell? ⟨Bs,0,none⟩=some (.slice A 0 cap)) (h0:J [] W) :
  CallsIn F n Tryz.prog 263 #[.func (.yield lp) #[] #[],.pointer (some ⟨Bs,0,none⟩)] W fun e W'=>(∃ v,e=.returned v)∧J [] W':=by
 refine callsIn_of_wp Tryz.func263 rfl hf ?_ hro
 simp only [Tryz.ntmps263,List.size_toArray,D7o,D7X,Nat.reduceAdd,Nat.reduceSub,Array.replicate_succ,Array.replicate_zero,List.push_toArray,List.append_toArray,D9I,D8Z]
 gi_wp2
 gi_loopw [7] (fun i wr=>i=.int .i64 0∧J [] wr) (fun _ _=>0)
 case atStart=>exact ⟨rfl,h0⟩
 case round =>
  obtain ⟨rfl,hJs⟩:=hrel
  gi_wp2
  go_end0
  exact ⟨⟨_,rfl⟩,hJs⟩
set_option maxHeartbeats 1000000 in
theorem C6i (F:Fence) (n:Nat) (hf:F.fn 225) (hro:F.round=none) (a:Option Addr) (len cap:Nat) (w:World) :
  CallsIn F n Tryz.prog 225 #[.slice a len cap] w fun e w'=>e=.returned (.func (.func 263) #[] #[.pointer (some ⟨w.heap.size,0,none⟩)])∧w'=w.alloc (.cells #[.slice a len cap] 104):=by
 refine callsIn_of_wp Tryz.func225 rfl hf ?_ hro
 simp only [Tryz.ntmps225,List.size_toArray,D7o,D7X,Nat.reduceAdd,Nat.reduceSub,Array.replicate_succ,Array.replicate_zero,List.push_toArray,List.append_toArray,D9I,D8Z]
 gi_wp2
 go_ret
 exact ⟨rfl,rfl⟩
def A4P (n₀ : Nat) (W:World) (A:Option Addr) (l:List E8):Prop :=
 l=[]∨∃ b off,A=some ⟨b,off,none⟩∧b<n₀∧∀ j,j<l.length→W.cell? ⟨b,off+j * 3,none⟩=some (.string (l[j]?.getD default).sku)∧W.cell? ⟨b,off+j * 3+1,none⟩=some (.int .i64 (l[j]?.getD default).qty)∧W.cell? ⟨b,off+j * 3+2,none⟩=some (.int .i64 (l[j]?.getD default).price)
theorem A4P.below {n₀ : Nat} {X Y:World} {A:Option Addr} {l:List E8} (h:Below n₀ X Y):A4P n₀ X A l→A4P n₀ Y A l
 | .inl e=>.inl e
 | .inr ⟨b,off,e,hb,hc⟩=>.inr ⟨b,off,e,hb,fun j hj=>⟨(h.cell (p:=⟨b,off+j * 3,none⟩) hb).trans (hc j hj).1,(h.cell (p:=⟨b,off+j * 3+1,none⟩) hb).trans (hc j hj).2.1,(h.cell (p:=⟨b,off+j * 3+2,none⟩) hb).trans (hc j hj).2.2⟩⟩
theorem B8d (F:Fence) (n:Nat) (hf:F.fn 263) (hro:F.round=none) (hn:1≤n) (Bs n₀ cap:Nat) (A:Option Addr) (l:List E8) (hlen:l.length≤1000) (hq:∀ x∈l,0≤x.qty∧x.qty≤100000) (w:World) (hBs:Bs<w.heap.size) (hn₀ : n₀≤w.heap.size)
  (hc:w.cell? ⟨Bs,0,none⟩=some (.slice A l.length cap)) (hI:A4P n₀ w A l) :
  SeqStopsK F n Tryz.prog 263 #[.pointer (some ⟨Bs,0,none⟩)] (fun x:B2=>#[C0D x]) (KpL n₀) (fun ys=>ys=G5 l l.length) (fun _=>True) (G5 l l.length).length w:=fun lp J Jx W hW hJ _ hY h0=>by
 have hc':=(hW.cell (p:=⟨Bs,0,none⟩) hBs).trans hc
 rcases hI.below (hW.mono hn₀) with rfl | ⟨b,off,rfl,hb,hcs⟩
 ·exact (B4C F n hf hro lp Bs cap A J W hc' h0).mono fun e W' ⟨he,hj⟩=>⟨he,.inl ⟨_,rfl,hj⟩⟩
 ·refine (C3z F n hf hro hn lp Bs n₀ b off cap l hlen hb hq J Jx hY W hJ (D7S hn₀ hW.size) hc' hcs h0).mono ?_
  rintro e W' ⟨he,h⟩
  exact ⟨he,h⟩
theorem C9X {n₀ lo:Nat} {W:World} {o o':Obj} (hlo:n₀≤lo) (ho:W.heap[lo]?=some o) (hc:o.isCells=false):KpL n₀ W (W.putObj lo o') :=
 ⟨(Below.refl n₀ W).grown (grownBy_putObj' W lo o') (by have:=(D7D.1 ho).1;omega) (fun k e=>by cases e;exact hlo),fun k cs fr hk=>(World.putObj_heap_other (fun e=>by subst e;rw [ho] at hk;cases hk;cases hc)).trans hk⟩
def A0t (u:B2):List Value:=[.int .i64 u.line,.int .i64 u.net,.bool u.opn]
theorem C2D (W:World) (x:B2):∀ (j:Nat) (u:Value),(A0t x)[j]?=some u→(W.alloc (.cells #[.int .i64 x.line,.int .i64 x.net,.bool x.opn] 223)).cell? ((⟨W.heap.size,0,none⟩:Addr).add j)=some u:=fun j u h=>by
 have hn:=World.alloc_heap_new W (.cells #[.int .i64 x.line,.int .i64 x.net,.bool x.opn] 223)
 have:((⟨W.heap.size,0,none⟩:Addr).add j)=⟨W.heap.size,j,none⟩:=by simp [Addr.add];intro h;omega
 rw [this,A6U hn]
 rw [←h]
 simp [A0t]
theorem B9s (x:B2):∀ u∈A0t x,u.oneCell'=true:=fun u hu=>by
 simp only [A0t,D8f,D8j,or_false] at hu
 rcases hu with rfl | rfl | rfl<;>rfl
theorem B8s {W w2:World} {n₀ B:Nat} {v:Value} {k:Nat} {xs:List Value} {tmp:Obj} (hv:Boxed W B 214 v) (hrow:W.ownsRow n₀ 223 3 v k xs) (hgrow:(W.alloc tmp).grownBy w2 v.ownBlock) (v':Value) :
  ∀ (k:Nat) (cs:Array Value) (fr:Nat×Nat),W.heap[k]?=some (.cells cs 137 fr)→(w2.setCell ⟨B,0,none⟩ v').heap[k]?=some (.cells cs 137 fr):=fun k cs fr hk=>by
 have hlt:=(D7D.1 hk).1
 have h1:k≠B:=fun e=>by
  subst e
  have:=(show W.heap[k]?=_ from hv).symm.trans hk
  simp at this
 rw [Below.heap_setCell _ _ _ _ h1,hgrow.block k (by simp;omega) (fun e=>?_),Below.heap_alloc _ _ _ hlt]
 ·exact hk
 ·rcases hrow.2 with ⟨rfl,_⟩ | ⟨g,cap,cur,rfl,_,hgb,_⟩
  ·simp [Value.ownBlock] at e
  ·obtain rfl:k=g:=by simpa [Value.ownBlock] using e
   rw [hgb] at hk;simp at hk
theorem D3F:(Tryz.prog.info? 223).map (fun i=>(i.zero,i.size,i.bytes))=some (some (.agg #[.int .i64 0,.int .i64 0,.bool false]),3,24):=by kernel_rfl
set_option maxRecDepth 100000 in
set_option maxHeartbeats 4000000 in
theorem C2Z (l:List E8) (hlen:l.length≤1000) (hq:∀ x∈l,0≤x.qty∧x.qty≤100000) (hN:(G5 l l.length).length≤100000) (A:Option Addr) (cap:Nat) (w:World)
  (R:World→Prop) (hmay:Calls Tryz.prog 224 #[.slice A l.length cap] w fun e w1=>e=.returned (.bool true)∧A4P w1.heap.size w1 A l∧R w1) :
  CallsIn Fence.wide 3 Tryz.prog 179 #[.slice A l.length cap] w fun e W'=>∃ v w1,R w1∧e=.returned v∧W'.ownsRow w1.heap.size 223 3 v (G5 l l.length).length ((G5 l l.length).flatMap A0t)∧Below w1.heap.size w1 W':=by
 obtain ⟨i0,hi,hz0,hz1,hz2⟩:=info_parts D3F
 refine callsIn_of_wp_marks Tryz.func179 rfl trivial ?_ rfl
 simp only [Tryz.ntmps179,List.size_toArray,D7o,D7X,Nat.reduceAdd,Nat.reduceSub,Array.replicate_succ,Array.replicate_zero,List.push_toArray,List.append_toArray,D9I,D8Z]
 gi_wp2_with first
  | (refine ⟨trivial,?_⟩;gi_at_call 224;refine (callsIn_wide.2 hmay).mono ?_;rintro e w1 ⟨rfl,hL,hR⟩)
  | (refine ⟨trivial,?_⟩;gi_at_call 225;refine (C6i Fence.wide _ trivial rfl _ _ _ _).mono ?_;rintro e w' ⟨rfl,rfl⟩)
 have bO:=Boxed.new w1 214 (.slice none 0 0)
 have bN:=Boxed.new (w1.alloc (.cells #[.slice none 0 0] 214)) 104 (.slice A l.length cap)
 rw [World.size_alloc] at bN
 have hB0:Below w1.heap.size w1 ((w1.alloc (.cells #[.slice none 0 0] 214)).alloc (.cells #[.slice A l.length cap] 104)):=((Below.refl _ w1).alloc (D6M _) _).alloc (by simp) _
 refine wpIn_rangeFunc_ownH rfl (by omega) (gf:=263) (lb:=#[.pointer (some ⟨w1.heap.size+1,0,none⟩)]) rfl trivial (enters_of Tryz.func263 (by kernel_rfl) rfl)
  (B8d Fence.wide 2 trivial rfl (by omega) (w1.heap.size+1) w1.heap.size cap A l hlen hq _ (by simp) (by simp;omega) bN.cell (hL.below hB0)) (fun h k=>h.trans k)
  (fun W lo o o' hlo ho hc hw=>C9X (by simp at hlo;omega) ho hc) (Below.refl _ _) (fun _=>rfl)
  (fun pre W=>(∃ v,Boxed W w1.heap.size 214 v∧W.ownsRow w1.heap.size 223 3 v pre.length (pre.flatMap A0t)∧True)∧Below w1.heap.size w1 W)
  (fun _ _ _=>False)
  (OwnFrom.and (Own.from (holdsRow_own w1.heap.size w1.heap.size 214 223 3 (fun pre:List B2=>pre.length) (fun pre=>pre.flatMap A0t) (fun _ _=>True)) _) (ownFrom_below (D6M _) (by simp;omega)))
  (fun _ _ _ _ _ hs _ _=>hs)
  ⟨⟨_,bO.alloc _,World.ownsRow_nil _ _ _ _,trivial⟩,hB0⟩
  (fun x a' W=>∃ Bx:Nat,W.heap[Bx]?=some (.cells #[.int .i64 x.line,.int .i64 x.net,.bool x.opn] 223 (0,0))∧a'={ tmps:=#[.slice A l.length cap,undef,.slice none 0 0,.pointer (some ⟨w1.heap.size,0,none⟩),.pointer (some ⟨Bx,0,none⟩),.slice A l.length cap,.bool true,.bool false,.slice A l.length cap,.func (.func 263) #[] #[.pointer (some ⟨w1.heap.size+1,0,none⟩)],.agg #[.int .i64 x.line,.int .i64 x.net,.bool x.opn],undef,undef,undef,undef,undef],defers:=[] })
  (fun x a'=>fun _ X Y row ⟨Bx,h1,h2⟩ hg hr=>⟨Bx,(hg.block Bx (D7D.1 h1).1 (fun e=>by
   obtain ⟨_,o,ho,hc⟩:=hr Bx e.symm
   rw [h1] at ho;cases ho;cases hc)).trans h1,h2⟩) ?assign ?body ?done ?stop
 case assign =>
  rintro lp pre x W K ⟨⟨v,hv,hrow,_⟩,hB⟩ hK
  have hBs:=hB.size
  simp only [C0D]
  gi_wp2
  refine hK _ _ ((KeepsOthers.alloc _ _).from _) ⟨(Below.refl _ W).alloc hBs _,fun k cs fr hk=>(Below.heap_alloc W _ k (D7D.1 hk).1).trans hk⟩ ⟨⟨v,hv.alloc _,hrow.alloc _,trivial⟩,hB.alloc hBs _⟩ ⟨W.heap.size,World.alloc_heap_new W _,rfl⟩
 case body =>
  rintro lp pre x a' W hl ⟨r,hr⟩ ⟨⟨v,hv,hrow,_⟩,hB⟩ ⟨Bx,hBx,rfl⟩ hlt
  have hc:=hv.cell
  have hx0:=A6U hBx 0
  have hx1:=A6U hBx 1
  have hx2:=A6U hBx 2
  simp only [List.getElem?_toArray,D9n,List.getElem?_cons_zero] at hx0 hx1 hx2
  have hBs:=hB.size
  have hml:pre.length+1≤maxLen:=D7S (show pre.length+1≤200000 by omega) (by decide)
  have hmb:(pre.length+1) * 24≤140737488355328:=by omega
  have hms:w1.heap.size≤(W.alloc (Obj.cells #[Value.int IntKind.i64 x.line,Value.int IntKind.i64 x.net,Value.bool x.opn] 223)).heap.size:=by simp;omega
  have hat:=C2D W x
  have hone:=B9s x
  have hra:=hrow.alloc (Obj.cells #[Value.int IntKind.i64 x.line,Value.int IntKind.i64 x.net,Value.bool x.opn] 223)
  gi_wp2_with (gi_at_builtin;refine wpListIn_append_own _ rfl _ _ 214 rfl w1.heap.size 223 i0 (.agg #[.int .i64 0,.int .i64 0,.bool false]) 3 24 Tryz.underlying214 hi hz0 hz1 hz2 rfl (by decide) _ _ _ rfl hra ⟨W.heap.size,0,none⟩ 1 1 (A0t x) rfl rfl hat hone hml hmb hms ?_;intro v' w2 hown' hgrow _;obtain ⟨g',cap',rfl⟩:=ownsRow_succ hown';obtain ⟨hv1,hv2,hr2,hk2,hb2⟩:=hv.appended (by decide) hrow hB.size (D6M _) hown' hgrow;have hln:=B8s hv hrow hgrow (Value.slice (some { block:=g',off:=0 }) (pre.length+1) cap');have hc1:=hv1.cell;have hf1:=hv1.frozen)
  exact ⟨hk2.from _,⟨hb2,hln⟩,⟨⟨_,hv2,by simpa using hr2,trivial⟩,hB.trans hb2⟩⟩
 case done =>
  rintro D ys W hD rfl ⟨⟨v,hv,hrow,_⟩,hB⟩ hK
  have hc:=hv.cell
  gi_wp2
  refine ⟨by simp,.inl ⟨_,_,rfl,run_takeDeferred hK,?_⟩⟩
  exact ⟨_,results_tmp rfl _ _ _,v,w1,hR,rfl,ownsRow_putObj hrow _ hK rfl,hB.trans (belowK_b (w:=w1) (D6M _) W D _ _ (by simp at hD;omega) hK rfl rfl)⟩
 case stop =>
  rintro D c pre W _ _ h _
  exact h.elim
end Go.Proofs.YtaapofnkmpiknaaGreat
namespace Go.Proofs.YtaapofnkmpiknaaGreat
open Go Go.Ab Go.Proofs
attribute [local irreducible] upd del
theorem C3G (us:List B2):∀ (i j:Nat),i<us.length→j<3→(us.flatMap A0t)[i * 3+j]?=(A0t (gU us i))[j]?:=by
 induction us with
 | nil=>intro i j hi;simp at hi
 | cons u us ih =>
  intro i j hi hj
  rw [List.flatMap_cons]
  cases i with
  | zero =>
   rw [Nat.zero_mul,D6Q,D7b (by simp [A0t];omega)];rfl
  | succ i =>
   have e:(i+1) * 3+j=3+(i * 3+j):=by omega
   rw [e,D7a (by simp [A0t])]
   have:3+(i * 3+j) - (A0t u).length=i * 3+j:=by simp [A0t]
   rw [this,ih i j (by simpa using hi) hj];rfl
theorem C1T {W:World} {st:St} {base:Nat} {v:Value} {us:List B2} (hn:∀ b,base≤b→st b=none) (h:W.ownsRow base 223 3 v us.length (us.flatMap A0t)):M0 W st (C6 us) v:=by
 obtain ⟨hl,h | ⟨g,cap,cur,rfl,hg,hheap,hcap,hcm,hcs,htake⟩⟩:=h
 ·obtain ⟨rfl,h0⟩:=h
  have:us=[]:=D7n h0
  subst this
  exact .arr 3 0 _ none 0 (fun _ _=>undef) (D6M _) (fun h=>absurd h (by omega)) (fun i hi=>absurd hi (by omega)) (fun i hi=>absurd hi (by omega)) (fun _ _ i j hi=>absurd hi (by omega)) (fun i j y hi=>absurd hi (by omega))
 ·refine .arr 3 us.length _ (some ⟨g,0,none⟩) cap (fun i j=>((A0t (gU us i))[j]?).getD undef) hcap (fun _=>⟨_,rfl⟩) (fun i hi=>rfl) (fun i hi=>rfl) (fun a ha i j hi hj=>?_) (fun i j y hi hy=>?_)
  ·cases ha
   have hadd:((⟨g,0,none⟩:Addr).add (i * 3+j))=⟨g,i * 3+j,none⟩:=by
    unfold Addr.add;split
    ·rename_i e;rw [e]
    ·simp
   rw [hadd]
   unfold A3D
   rw [show st (Addr.mk g (i * 3+j) none).block=none from hn g hg]
   show W.cell? ⟨g,i * 3+j,none⟩=_
   rw [A6U hheap]
   have h1:=C3G us i j hi hj
   rw [←htake,D6S (by omega)] at h1
   rw [D7t] at h1
   rw [h1]
   have:j<(A0t (gU us i)).length:=hj
   rw [D6K this];rfl
  ·have hy':[eI (gU us i).line,eI (gU us i).net,eB (gU us i).opn][j]?=some y:=hy
   match j,hy' with
   | 0,hy'=>cases hy';exact .int _ _
   | 1,hy'=>cases hy';exact .int _ _
   | 2,hy'=>cases hy';exact .bool _
theorem C3W {w:World} {st:St} {l:List E8} {A:Option Addr} {c:Nat} (h:M0 w st (A8 3 J1 l) (.slice A l.length c)):A4P w.heap.size w A l:=by
 cases l with
 | nil=>exact .inl rfl
 | cons x0 l0 =>
  generalize hl:x0::l0=l at *
  have hpos:0<l.length:=by rw [←hl];simp
  right
  have hh:Rep (A3D w st) (A1n w) (.arr 3 l.length (fun i=>J1 (l.getD i default))) (.slice A l.length c):=h
  cases hh with
  | arr e n f A c g hc hA hle ho hr hg =>
   obtain ⟨a,rfl⟩:=hA hpos
   have hread:∀ i j,i<l.length→j<3→w.cell? (a.add (i * 3+j))=some (g i j)∧(a.add (i * 3+j)).spot=none:=fun i j hi hj=>by
    have h1:=hr a rfl i j hi hj
    unfold A3D at h1
    split at h1
    ·refine ⟨h1,?_⟩
     unfold World.cell? at h1
     split at h1
     ·split at h1
      ·cases h1
      ·rename_i hs;simpa using hs
     ·cases h1
    ·cases h1
   have h00:=hread 0 0 hpos (by omega)
   have ha0:a.add (0 * 3+0)=a:=by unfold Addr.add;simp
   rw [ha0] at h00
   have hsp:a=⟨a.block,a.off,none⟩:=by
    have:=h00.2
    cases a;simp at this;subst this;rfl
   have hadd:∀ k,a.add k=⟨a.block,a.off+k,none⟩:=fun k=>by
    unfold Addr.add
    split
    ·rename_i e;rw [e];exact hsp
    ·rfl
   have hval:∀ i,i<l.length→g i 0=.string (l[i]?.getD default).sku∧g i 1=.int .i64 (l[i]?.getD default).qty∧g i 2=.int .i64 (l[i]?.getD default).price:=fun i hi=>by
    have e:l.getD i default=l[i]?.getD default:=D6D
    have r0:=hg i 0 (eS (l.getD i default).sku) hi rfl
    have r1:=hg i 1 (eI (l.getD i default).qty) hi rfl
    have r2:=hg i 2 (eI (l.getD i default).price) hi rfl
    rw [e] at r0 r1 r2
    refine ⟨?_,?_,?_⟩
    ·generalize g i 0=u at r0;cases r0;rfl
    ·generalize g i 1=u at r1;cases r1;rfl
    ·generalize g i 2=u at r2;cases r2;rfl
   refine ⟨a.block,a.off,by rw [←hsp],?_,fun j hj=>?_⟩
   ·have:=h00.1
    unfold World.cell? at this
    split at this
    ·rename_i hb;exact (D7D.1 hb).1
    ·cases this
   ·obtain ⟨v0,v1,v2⟩:=hval j hj
    have a0:=(hread j 0 hj (by omega)).1
    have a1:=(hread j 1 hj (by omega)).1
    have a2:=(hread j 2 hj (by omega)).1
    rw [hadd] at a0 a1 a2
    rw [v0] at a0;rw [v1] at a1;rw [v2] at a2
    exact ⟨a0,a1,a2⟩
theorem C7H (l:List E8) (hlen:l.length≤1000) (hq:∀ x∈l,0≤x.qty∧x.qty≤100000) (hN:(G5 l l.length).length≤100000) (hmay:(O6 (fun _=>true) l==0)=true) (st:St) :
  S P 179 [A8 3 J1 l] st fun v st'=>v=C6 (G5 l l.length)∧st'=st:=by
 refine ⟨enters_of Tryz.func179 (by kernel_rfl) rfl,fun cargs w hr hS=>?_⟩
 have hrr:=hr
 obtain ⟨hlenA,hr⟩:=hr
 have h0:0<cargs.size:=by rw [←hlenA];exact Nat.one_pos
 have ha:=hr 0 _ cargs[0] rfl (D6V h0)
 have hc:∃ A c,cargs=#[.slice A l.length c]:=by
  have hh:Rep (A3D w st) (A1n w) (.arr 3 l.length (fun i=>J1 (l.getD i default))) cargs[0]:=ha
  generalize hv:cargs[0]=v at hh
  cases hh with
  | arr e n f A c g hc hA hle ho hr hg =>
   refine ⟨A,c,Array.ext (by rw [←hlenA];rfl) fun i h1 h2=>?_⟩
   have:i=0:=by simp at h2;exact h2
   subst this;rw [hv];rfl
 obtain ⟨A,c,rfl⟩:=hc
 have hm:Calls Tryz.prog 224 #[.slice A l.length c] w fun e w1=>e=.returned (.bool true)∧A4P w1.heap.size w1 A l∧(I3 st w1∧Evo st w st w1):=by
  refine ((D0b l st).2 _ w hrr hS).mono ?_
  rintro e w1 ⟨v,cv,st',⟨rfl,rfl⟩,rfl,h3,h4,h5⟩
  rw [hmay] at h3
  cases h3
  exact ⟨rfl,C3W (h5.rep ha),h4,h5⟩
 refine (callsIn_wide.1 (C2Z l hlen hq hN A c w _ hm)).mono ?_
 rintro e W' ⟨v,w1,⟨h4,h5⟩,rfl,hrow,hB⟩
 have hadds:A3k w1 W':=⟨hB.os,hB.tape,hB.output,hB.size,hB.block⟩
 exact ⟨_,v,st,⟨rfl,rfl⟩,rfl,C1T (fun b hb=>by
  cases hs:st b with
  | none=>rfl
  | some x =>
   obtain ⟨cs,hk⟩:=h4 b x hs
   have:=(D7D.1 hk.heap).1
   omega) hrow,h4.adds hadds,h5.trans (hadds.evo st)⟩
end Go.Proofs.YtaapofnkmpiknaaGreat
namespace Go.Proofs.YtaapofnkmpiknaaGreat
open Go Go.Proofs
def soF (x:Nat):Nat:=match x with
 | 5=>273
 | 8=>303
 | 7=>302
 | 19=>326
 | 20=>284
 | 10=>317
 | 11=>318
 | 12=>319
 | 13=>320
 | 14=>321
 | 15=>322
 | 16=>323
 | 17=>324
 | 18=>325
 | 30=>334
 | 31=>335
 | 32=>336
 | 33=>337
 | 34=>338
 | 35=>339
 | 40=>344
 | n=>n
def soT (x:Nat):Nat:=match x with
 | 23=>29
 | 25=>3
 | 3=>3
 | 32=>128
 | 22=>29
 | 0=>0
 | 44=>384
 | 46=>129
 | 4=>4
 | 36=>378
 | 35=>377
 | 41=>234
 | 5=>5
 | 9=>9
 | 53=>389
 | 57=>392
 | 63=>397
 | 64=>398
 | n=>n
def D1M:Go.Shelf.Ren:={ f:=soF,t:=soT,g:=fun n=>n }
theorem C0r:SlLaysM.n5 Tryz.prog D1M where
 mixed:=by kernel_rfl
 f5 := ⟨"slices.Sort[[]int,int]", by decide, Tryz.func273.trans (D8E some (by kernel_rfl))⟩
 f7 := ⟨"slices.pdqsortOrdered[int]", by decide, Tryz.func302.trans (D8E some (by kernel_rfl))⟩
 f8:=Tryz.func303.trans (D8E some (by kernel_rfl))
 f10 := ⟨"slices.insertionSortOrdered[int]", by decide, Tryz.func317.trans (D8E some (by kernel_rfl))⟩
 f11 := ⟨"slices.heapSortOrdered[int]", by decide, Tryz.func318.trans (D8E some (by kernel_rfl))⟩
 f12 := ⟨"slices.breakPatternsOrdered[int]", by decide, Tryz.func319.trans (D8E some (by kernel_rfl))⟩
 f13 := ⟨"slices.choosePivotOrdered[int]", by decide, Tryz.func320.trans (D8E some (by kernel_rfl))⟩
 f14 := ⟨"slices.reverseRangeOrdered[int]", by decide, Tryz.func321.trans (D8E some (by kernel_rfl))⟩
 f15 := ⟨"slices.partialInsertionSortOrdered[int]", by decide, Tryz.func322.trans (D8E some (by kernel_rfl))⟩
 f16 := ⟨"cmp.Less[int]", by decide, Tryz.func323.trans (D8E some (by kernel_rfl))⟩
 f17 := ⟨"slices.partitionEqualOrdered[int]", by decide, Tryz.func324.trans (D8E some (by kernel_rfl))⟩
 f18 := ⟨"slices.partitionOrdered[int]", by decide, Tryz.func325.trans (D8E some (by kernel_rfl))⟩
 f19:=Tryz.func326.trans (D8E some (by kernel_rfl))
 f20:=Tryz.func284.trans (D8E some (by kernel_rfl))
 f30 := ⟨"slices.siftDownOrdered[int]", by decide, Tryz.func334.trans (D8E some (by kernel_rfl))⟩
 f31:=Tryz.func335.trans (D8E some (by kernel_rfl))
 f32:=Tryz.func336.trans (D8E some (by kernel_rfl))
 f33 := ⟨"slices.medianAdjacentOrdered[int]", by decide, Tryz.func337.trans (D8E some (by kernel_rfl))⟩
 f34 := ⟨"slices.medianOrdered[int]", by decide, Tryz.func338.trans (D8E some (by kernel_rfl))⟩
 f35 := ⟨"cmp.isNaN[int]", by decide, Tryz.func339.trans (D8E some (by kernel_rfl))⟩
 f40 := ⟨"slices.order2Ordered[int]", by decide, Tryz.func344.trans (D8E some (by kernel_rfl))⟩
 t0:=Tryz.underlying0
 a0:=Tryz.isAgg0
 z0:=Tryz.sizeOf0
 v0:=Tryz.zeroValue0
 t3:=Tryz.underlying3
 a3:=Tryz.isAgg3
 z3:=Tryz.sizeOf3
 v3:=Tryz.zeroValue3
 t4:=Tryz.underlying4
 a4:=Tryz.isAgg4
 z4:=Tryz.sizeOf4
 v4:=Tryz.zeroValue4
 t5:=Tryz.underlying5
 a5:=Tryz.isAgg5
 z5:=Tryz.sizeOf5
 v5:=Tryz.zeroValue5
 t9:=Tryz.underlying9
 a9:=Tryz.isAgg9
 z9:=Tryz.sizeOf9
 v9:=Tryz.zeroValue9
 t22:=Tryz.underlying29
 a22:=Tryz.isAgg29
 z22:=Tryz.sizeOf29
 v22:=Tryz.zeroValue29
 t23:=Tryz.underlying29
 a23:=Tryz.isAgg29
 z23:=Tryz.sizeOf29
 v23:=Tryz.zeroValue29
 t25:=Tryz.underlying3
 a25:=Tryz.isAgg3
 z25:=Tryz.sizeOf3
 v25:=Tryz.zeroValue3
 t32:=Tryz.underlying128
 a32:=Tryz.isAgg128
 z32:=Tryz.sizeOf128
 v32:=Tryz.zeroValue128
 t35:=Tryz.underlying377
 a35:=Tryz.isAgg377
 z35:=Tryz.sizeOf377
 v35:=Tryz.zeroValue377
 t36:=Tryz.underlying378
 a36:=Tryz.isAgg378
 z36:=Tryz.sizeOf378
 v36:=Tryz.zeroValue378
 t41:=Tryz.underlying234
 a41:=Tryz.isAgg234
 z41:=Tryz.sizeOf234
 v41:=Tryz.zeroValue234
 t44:=Tryz.underlying384
 a44:=Tryz.isAgg384
 z44:=Tryz.sizeOf384
 v44:=Tryz.zeroValue384
 t46:=Tryz.underlying129
 a46:=Tryz.isAgg129
 z46:=Tryz.sizeOf129
 v46:=Tryz.zeroValue129
 t53:=Tryz.underlying389
 a53:=Tryz.isAgg389
 z53:=Tryz.sizeOf389
 v53:=Tryz.zeroValue389
 t57:=Tryz.underlying392
 a57:=Tryz.isAgg392
 z57:=Tryz.sizeOf392
 v57:=Tryz.zeroValue392
 t63:=Tryz.underlying397
 a63:=Tryz.isAgg397
 z63:=Tryz.sizeOf397
 v63:=Tryz.zeroValue397
 t64:=Tryz.underlying398
 a64:=Tryz.isAgg398
 z64:=Tryz.sizeOf398
 v64:=Tryz.zeroValue398
end Go.Proofs.YtaapofnkmpiknaaGreat
namespace Go.Proofs.YtaapofnkmpiknaaGreat
open Go Go.Ab
attribute [local irreducible] upd del
theorem A5p {x rate:Int} (hx:0≤x) (h0:0≤rate) (h1:rate≤10000):J9 x rate≤x:=by
 unfold J9 W7
 rw [if_pos ⟨h0,h1⟩]
 split
 ·exact hx
 ·split
  ·exact hx
  ·split
   ·exact hx
   ·show U1 (x * rate / 10000) (x * rate % 10000) 10000 1≤x
    have e1:=D7M (x * rate) 10000
    have e2:=D8a (x * rate) (show (10000:Int)≠0 by decide)
    have e3:=D7N (x * rate) (show (0:Int)<10000 by decide)
    have e4:x * rate≤x * 10000:=D7y h1 hx
    unfold U1
    rw [if_neg (by decide),if_pos rfl]
    split<;>omega
structure Off (us us':List B2) (x:Int):Prop where
 len:us'.length=us.length
 line:∀ k,(gU us' k).line=(gU us k).line
 net:∀ k,0≤(gU us' k).net∧(gU us' k).net≤(gU us k).net
 opn:∀ k,(gU us' k).opn=true→(gU us k).opn=true
 sum:A2 (D9 us')+x=A2 (D9 us)
 pos:0≤x
theorem E3.at0 {us:List B2} (h:E3 us) (k:Nat):0≤(gU us k).net:=by
 by_cases hk:k<us.length
 ·exact h.pos _ (A7 hk)
 ·have:gU us k=default:=by unfold gU;rw [D6D,D9f (by omega)];rfl
  rw [this];exact D7l _
theorem Off.refl {us:List B2} (h:E3 us):Off us us 0:=⟨rfl,fun _=>rfl,fun k=>⟨h.at0 k,D7l _⟩,fun _ h=>h,by omega,D7l _⟩
theorem Off.trans {a b c:List B2} {x y:Int} (h:Off a b x) (k:Off b c y):Off a c (x+y) :=
 ⟨k.len.trans h.len,fun i=>(k.line i).trans (h.line i),fun i=>⟨(k.net i).1,D9z (k.net i).2 (h.net i).2⟩,fun i hi=>h.opn i (k.opn i hi),by have:=h.sum;have:=k.sum;omega,by have:=h.pos;have:=k.pos;omega⟩
theorem Off.ok {us us':List B2} {x:Int} (h:Off us us' x) (hu:E3 us):E3 us' :=
 ⟨by rw [h.len];exact hu.len,fun u hm=>by obtain ⟨k,hk,rfl⟩:=D5 hm;exact (h.net k).1,by have:=h.sum;have:=h.pos;have:=hu.sum;omega⟩
theorem B4f {l:List Int} {j:Nat} (hj:j<l.length) (x:Int):A2 (l.set j x)+(gI l j - x)=A2 l:=by rw [B7s hj];omega
theorem Off.less1 {us:List B2} (h:E3 us) {i:Nat} {x:Int} (hi:i<us.length) (h0:0≤x) (h1:x≤(gU us i).net):Off us (less1 us i x) x:=by
 have hl:(Go.Proofs.YtaapofnkmpiknaaGreat.less1 us i x).length=us.length:=by unfold Go.Proofs.YtaapofnkmpiknaaGreat.less1;rw [D7W]
 have hg:∀ k,gU (Go.Proofs.YtaapofnkmpiknaaGreat.less1 us i x) k=if k=i then { gU us i with net:=(gU us i).net - x } else gU us k:=fun k=>by
  unfold Go.Proofs.YtaapofnkmpiknaaGreat.less1;exact A6b hi _ k
 refine ⟨hl,fun k=>?_,fun k=>?_,fun k hk=>?_,?_,h0⟩
 ·rw [hg];split
  ·rename_i e;subst e;rfl
  ·rfl
 ·rw [hg];split
  ·rename_i e;subst e
   show 0≤(gU us k).net - x∧(gU us k).net - x≤(gU us k).net
   omega
  ·exact ⟨h.at0 k,D7l _⟩
 ·rw [hg] at hk;split at hk
  ·rename_i e;subst e;exact hk
  ·exact hk
 ·have e1:D9 (Go.Proofs.YtaapofnkmpiknaaGreat.less1 us i x)=(D9 us).set i ((gU us i).net - x):=by
   unfold Go.Proofs.YtaapofnkmpiknaaGreat.less1 D9;rw [List.map_set]
  have e2:=B4f (l:=D9 us) (j:=i) (by rw [D6J];exact hi) ((gU us i).net - x)
  have e3:gI (D9 us) i=(gU us i).net:=D4 B2.net us hi
  rw [e1];omega
theorem Off.close1 {us:List B2} (h:E3 us) {i:Nat} (hi:i<us.length):Off us (close1 us i) 0:=by
 have hl:(Go.Proofs.YtaapofnkmpiknaaGreat.close1 us i).length=us.length:=by unfold Go.Proofs.YtaapofnkmpiknaaGreat.close1;rw [D7W]
 have hg:∀ k,gU (Go.Proofs.YtaapofnkmpiknaaGreat.close1 us i) k=if k=i then { gU us i with opn:=false } else gU us k:=fun k=>by
  unfold Go.Proofs.YtaapofnkmpiknaaGreat.close1;exact A6b hi _ k
 have hnet:∀ k,(gU (Go.Proofs.YtaapofnkmpiknaaGreat.close1 us i) k).net=(gU us k).net:=fun k=>by
  rw [hg];split
  ·rename_i e;subst e;rfl
  ·rfl
 refine ⟨hl,fun k=>?_,fun k=>?_,fun k hk=>?_,?_,D7l _⟩
 ·rw [hg];split
  ·rename_i e;subst e;rfl
  ·rfl
 ·rw [hnet];exact ⟨h.at0 k,D7l _⟩
 ·rw [hg] at hk;split at hk
  ·rename_i e;subst e;cases hk
  ·exact hk
 ·have e1:D9 (Go.Proofs.YtaapofnkmpiknaaGreat.close1 us i)=(D9 us).set i (gU us i).net:=by
   unfold Go.Proofs.YtaapofnkmpiknaaGreat.close1 D9;rw [List.map_set]
  have e2:=B4f (l:=D9 us) (j:=i) (by rw [D6J];exact hi) (gU us i).net
  have e3:gI (D9 us) i=(gU us i).net:=D4 B2.net us hi
  rw [e1];omega
theorem Off.closeB {us:List B2} (h:E3 us):∀ mine:List Int,(∀ x∈mine,x.toNat<us.length)→Off us (closeB us mine) 0:=by
 intro mine
 induction mine generalizing us with
 | nil=>intro _;exact Off.refl h
 | cons x l ih =>
  intro hx
  have h1:=Off.close1 h (hx x (D7f ..))
  have h2:=ih (h1.ok h) (fun y hy=>by rw [h1.len];exact hx y (D7d _ hy))
  have:=h1.trans h2
  rw [D8R] at this
  exact this
theorem R1 {st:St} {a b:Nat} {x y:K4} (h:a≠b):upd (upd st a x) b y=upd (upd st b y) a x:=by
 funext c
 by_cases h1:c=a
 ·subst h1;rw [A9 h,A0,A0]
 ·by_cases h2:c=b
  ·subst h2;rw [A0,A9 h1,A0]
  ·rw [A9 h2,A9 h1,A9 h1,A9 h2]
theorem C0 {st:St} {a:Nat} {x y:K4}:upd (upd st a x) a y=upd st a y:=by
 funext c
 by_cases h:c=a
 ·subst h;rw [A0,A0]
 ·rw [A9 h,A9 h,A9 h]
theorem C5u {st:St} {a:Nat} {x:K4} (h:st a=some x):upd st a x=st:=by
 funext c
 by_cases e:c=a
 ·subst e;rw [A0,h]
 ·rw [A9 e]
theorem C9z {st st':St} {a:Nat} {x:K4} (h:st' a=some x) (hf:∀ c,c≠a→st' c=st c):st'=upd st a x:=by
 funext c
 by_cases e:c=a
 ·subst e;rw [A0,h]
 ·rw [A9 e,hf c e]
theorem F1.write {st0 st:St} {b:Nat} {y y':K4} (h:F1 st0 st):F1 (upd st0 b y') (upd st b y'):=fun c x hc=>by
 by_cases e:c=b
 ·subst e;rw [A0] at hc ⊢;exact hc
 ·rw [A9 e] at hc ⊢;exact h c x hc
theorem QSt.write {st0 st:St} {q b:Nat} {f:Bool} {es:List QE} {y y':K4} (h:QSt st0 q f es st) (hb:st0 b=some y):QSt (upd st0 b y') q f es (upd st b y'):=by
 obtain ⟨h1,h2,sv,⟨fq,hqs,hq0⟩,h3⟩:=h
 have hqb:q≠b:=fun e=>by subst e;rw [h1] at hb;cases hb
 refine ⟨by rw [A9 hqb];exact h1,F1.write (y:=y) h2,sv,⟨fq,by rw [A9 hqb];exact hqs,hq0⟩,?_⟩
 rcases h3 with h3 | ⟨c,l,n,a1,a2,a3,a4,a5,a6,⟨fe,hes,hef⟩,a8,a9⟩
 ·exact .inl h3
 ·have hcb:c≠b:=fun e=>by subst e;rw [a2] at hb;cases hb
  exact .inr ⟨c,l,n,a1,by rw [A9 hcb];exact a2,a3,a4,a5,a6,⟨fe,by rw [A9 hcb];exact hes,hef⟩,a8,a9⟩
theorem QSt.forget {st0 st:St} {q b:Nat} {f:Bool} {es:List QE} {y:K4} (h:QSt (upd st0 b y) q f es st) (hb:st0 b=none):QSt st0 q f es (del st b):=by
 obtain ⟨h1,h2,sv,⟨fq,hqs,hq0⟩,h3⟩:=h
 have hqb:q≠b:=fun e=>by subst e;rw [A0] at h1;cases h1
 have hd:∀ c,c≠b→del st b c=st c:=fun c hc=>by unfold del;rw [if_neg hc]
 refine ⟨by rw [A9 hqb] at h1;exact h1,fun c x hc=>?_,sv,⟨fq,by rw [hd q hqb];exact hqs,hq0⟩,?_⟩
 ·have hcb:c≠b:=fun e=>by subst e;rw [hb] at hc;cases hc
  rw [hd c hcb];exact h2 c x (by rw [A9 hcb];exact hc)
 ·rcases h3 with h3 | ⟨c,l,n,a1,a2,a3,a4,a5,a6,⟨fe,hes,hef⟩,a8,a9⟩
  ·exact .inl h3
  ·have hcb:c≠b:=fun e=>by subst e;rw [A0] at a2;cases a2
   rw [A9 hcb] at a2
   exact .inr ⟨c,l,n,a1,a2,a3,a4,a5,a6,⟨fe,by rw [hd c hcb];exact hes,hef⟩,a8,a9⟩
theorem A0K.write {ty e:Nat} {fo:Nat→AV} {n:Nat} {st1:St} {q:Nat} {f:Bool} {es:List QE} {sv:AV} {st':St} {b:Nat} {y y':K4} (h:A0K ty e fo n st1 q f es sv st') (hb:st1 b=some y):A0K ty e fo n (upd st1 b y') q f es sv (upd st' b y'):=by
 rcases h with ⟨h1,h2,h⟩ | ⟨h0,bo,g,h1,h2,h3,h⟩
 ·exact .inl ⟨h1,h2,h.write hb⟩
 ·have hne:bo≠b:=fun e=>by subst e;rw [h1] at hb;cases hb
  refine .inr ⟨h0,bo,g,by rw [A9 hne];exact h1,h2,h3,?_⟩
  rw [←R1 hne]
  exact h.write (y:=y) (by rw [A9 hne.symm];exact hb)
theorem A0K.shiftQ {ty e:Nat} {fo:Nat→AV} {n:Nat} {st1:St} {q:Nat} {f:Bool} {es:List QE} {sv:AV} {st':St} (h:A0K ty e fo n st1 q f es sv st'):∃ st'',A6 [sv] st' [.arr e n fo] st''∧QSt st1 q f es st'':=by
 rcases h with ⟨rfl,rfl,h⟩ | ⟨h0,bo,g,h1,rfl,h3,h⟩
 ·exact ⟨st',I9 e fo,h⟩
 ·exact ⟨del st' bo,O4 (h.sup bo _ (A0 ..)) rfl (D6M _) h3,h.forget h1⟩
theorem A0K.col {ty e:Nat} {fo:Nat→AV} {n:Nat} {st1:St} {q:Nat} {f:Bool} {es:List QE} {sv:AV} {st':St} (h:A0K ty e fo n st1 q f es sv st'):∃ st0,Col ty e fo st1 n sv st0∧QSt st0 q f es st':=by
 rcases h with ⟨rfl,rfl,h⟩ | ⟨h0,bo,g,h1,rfl,h3,h⟩
 ·exact ⟨st1,Col.start _ _ _ _,h⟩
 ·exact ⟨_,.inr ⟨h0,bo,g,h1,rfl,rfl,h3⟩,h⟩
theorem A0K.of {ty e:Nat} {fo:Nat→AV} {n:Nat} {st1 st0:St} {q:Nat} {f:Bool} {es:List QE} {sv:AV} {st':St} (h:Col ty e fo st1 n sv st0) (hq:QSt st0 q f es st'):A0K ty e fo n st1 q f es sv st':=by
 rcases h with ⟨rfl,rfl,rfl⟩ | ⟨h0,bo,g,h1,rfl,rfl,h3⟩
 ·exact .inl ⟨rfl,rfl,hq⟩
 ·exact .inr ⟨h0,bo,g,h1,rfl,h3,hq⟩
theorem Col.write {ty e:Nat} {fo:Nat→AV} {n:Nat} {base st0:St} {sv:AV} {b:Nat} {y y':K4} (h:Col ty e fo base n sv st0) (hb:base b=some y):Col ty e fo (upd base b y') n sv (upd st0 b y'):=by
 rcases h with ⟨rfl,rfl,rfl⟩ | ⟨h0,bo,g,h1,rfl,rfl,h3⟩
 ·exact Col.start _ _ _ _
 ·have hne:bo≠b:=fun e=>by subst e;rw [h1] at hb;cases hb
  exact .inr ⟨h0,bo,g,by rw [A9 hne];exact h1,rfl,R1 hne,h3⟩
theorem A0K.apps {T:G9} {t:TypeId} {x sv:AV} {st1 st':St} {k:KK} {r q:C2} {el n m qq:Nat} {fl:Bool} {es:List QE} {f g:Nat→AV} (hr:T t=some r) (hd:r.desc=.slice el) (hq:T el=some q)
  (hz:(Nat.blt 0 q.size&&Nat.blt 0 q.bytes&&Nat.beq q.zero.cells.size q.size)=true) (hs:A0g q.size st' x=some (m,g)) (hg:∀ i,i<m→g i=f (n+i)) (hb:(n+m) * q.bytes≤140737488355328)
  (hc:A0K el q.size f n st1 qq fl es sv st') (hk:∀ sv' st'',A0K el q.size f (n+m) st1 qq fl es sv' st''→k sv' st''):A5L T t sv x st' k:=by
 rcases hc with ⟨rfl,rfl,h⟩ | ⟨h0,bo,y,h1,rfl,h4,h⟩
 ·refine apE hr hd hq hz hs (by simpa using hb) (fun h0=>hk _ _ (.inl ⟨by omega,rfl,h⟩)) (fun hm b hb=>?_)
  obtain ⟨hb0,hn⟩:=h.begin (y:=⟨el,q.size,m,g⟩) hb
  refine hk _ _ ?_
  rw [D6Q]
  exact .inr ⟨hm,b,g,hb0,rfl,fun k hk=>by have:=hg k hk;rwa [D6Q] at this,hn⟩
 ·have hby:st' bo=some ⟨el,q.size,n,y⟩:=h.sup bo _ (A0 ..)
  refine apO hr hd hq hz hs hby rfl rfl rfl hb (fun h0'=>hk _ _ ?_) (fun _ b' hb'=>?_)
  ·subst h0';exact .inr ⟨h0,bo,y,h1,rfl,h4,h⟩
  obtain ⟨hb0,hn⟩:=h.grow (y':=⟨el,q.size,n+m,fun i=>if i<n then y i else g (i - n)⟩) h1 hb'
  refine hk _ _ (.inr ⟨by omega,b',_,hb0,rfl,fun k hk=>?_,hn⟩)
  by_cases hkn:k<n
  ·simp only [hkn,if_true];exact h4 k hkn
  ·simp only [hkn,D9l]
   rw [hg (k - n) (by omega)];congr 1;omega
def C0Z (us:List B2) (i:Int):QE:=((gU us i.toNat).net,i)
def E1 (us:List B2) (mine:List Int):List QE:=(mine.map (C0Z us)).mergeSort fun a b=>!G6 b a
theorem A3r (us:List B2) (mine:List Int):(E1 us mine).Perm (mine.map (C0Z us)):=D9r ..
theorem A1Y (us:List B2) (mine:List Int):(E1 us mine).length=mine.length:=by rw [(A3r us mine).length_eq,D6J]
theorem A5s (l:List QE):(l.mergeSort fun a b=>!G6 b a).Pairwise fun a b=>G6 b a=false:=by
 have:=D8W (le:=fun a b:QE=>!G6 b a) (fun a b c h1 h2=>by simp only [D6X] at *;exact A0D h2 h1) (fun a b=>by
  cases h:G6 b a with
  | false=>rfl
  | true=>rw [A0n h];rfl) l
 exact this.imp (fun h=>by simpa using h)
theorem A6S {us:List B2} {mine:List Int} (hm:∀ k,k<mine.length→0≤gI mine k∧(gI mine k).toNat<us.length) {e:QE} (h:e∈E1 us mine):0≤e.2∧e.2.toNat<us.length:=by
 obtain ⟨k,hk,rfl⟩:=D6Z.1 ((A3r us mine).subset h)
 obtain ⟨j,hj,rfl⟩:=D5 hk
 exact hm j hj
theorem A9n (us:List B2) (mine:List Int) (hl:us.length≤100000) (hml:mine.length≤100000) (hm:∀ k,k<mine.length→0≤gI mine k∧(gI mine k).toNat<us.length) (st:St) :
  S P 295 [C6 us,B0 mine] st fun v st'=>∃ q,v=.optr 1 q 0 0∧QSt st q true (E1 us mine) st':=by
 refine F4 [] Tryz.func295 ?_
 refine call (B2e st) (fun v st1 hv=>?_)
 obtain ⟨q,rfl,hq⟩:=hv
 conv=>whnf
 refine ⟨[0,5,9,10,11],fun m vs st'=>∃ i:Nat,i≤mine.length∧m=mine.length - i∧vs=[C6 us,.optr 1 q 0 0,B0 mine,eI mine.length,eI i]∧QSt st q true ((mine.take i).map (C0Z us)) st',?_,?_⟩
 ·conv=>whnf
  exact ⟨_,0,D7e _,rfl,rfl,hq⟩
 ·clear hq
  rintro m vs st' ⟨i,hi,rfl,rfl,hq⟩
  conv=>whnf
  cases h:decide ((i:Int)<(mine.length:Int))
  ·have:=D6G h
   obtain rfl:i=mine.length:=by omega
   rw [D6O] at hq;conv=>whnf
   exact ⟨q,rfl,hq.perm (A3r us mine).symm⟩
  ·have hi':i<mine.length:=by have:=D6H h;omega
   have hr:=hm i hi'
   conv=>whnf
   refine E7 ?_
   refine ⟨rfl,⟨by show 0≤gI mine i;omega,by show gI mine i<(us.length:Int);omega⟩,?_⟩;conv=>whnf
   refine call (A8O st q _ (gU us (gI mine i).toNat).net (gI mine i) _ hq (by rw [D6J,D6N];omega)) (fun v st'' hv=>?_)
   obtain ⟨rfl,hq'⟩:=hv
   conv=>whnf
   refine G2 ?_
   refine ⟨mine.length - (i+1),by omega,i+1,by omega,rfl,by rw [B4 (by omega)],?_⟩
   rw [L0 hi',D7k];exact hq'
def A0X (p:B1) (us:List B2) (es:List QE):Nat→List B2×Int
 | 0=>(us,0)
 | k+1=>if (k:Int)<p.buy then A0X p us es k else
  (less1 (A0X p us es k).1 (at_ es k).2.toNat (J9 (gU (A0X p us es k).1 (at_ es k).2.toNat).net p.rate),(A0X p us es k).2+J9 (gU (A0X p us es k).1 (at_ es k).2.toNat).net p.rate)
structure B0V (p:B1):Prop where
 buy:1≤p.buy∧p.buy≤100
 get:1≤p.get∧p.get≤100
 rate:0≤p.rate∧p.rate≤10000
theorem A8T {p:B1} (hp:B0V p) {us:List B2} (hu:E3 us) {es:List QE} (hr:∀ e∈es,0≤e.2∧e.2.toNat<us.length):∀ k,k≤es.length→Off us (A0X p us es k).1 (A0X p us es k).2
 | 0,_=>Off.refl hu
 | k+1,hk=>by
  have ih:=A8T hp hu hr k (by omega)
  have hx:=hr (at_ es k) (A7 (by omega))
  unfold A0X
  split
  ·exact ih
  ·refine ih.trans (Off.less1 (ih.ok hu) (by rw [ih.len];exact hx.2) (T7 _ _).1 (A5p (ih.net _).1 hp.rate.1 hp.rate.2))
theorem D1K (p:B1) (hp:B0V p) (us:List B2) (hu:E3 us) (es:List QE) (hr:∀ e∈es,0≤e.2∧e.2.toNat<us.length) (hs:es.Pairwise fun a b=>G6 b a=false) (m:Nat) (hm:(m:Int)=p.buy+p.get) (hme:m≤es.length)
  (st0 st:St) (bo q:Nat) (fl:Bool) (ho:A5P st0 bo us) (hq:QSt st0 q fl es st) :
  S P 296 [B7 p,.own 3 bo 0 us.length,.optr 1 q 0 0] st fun v st'=>v=.tuple [B0 ((es.take m).map (·.2)),eI (A0X p us es m).2]∧∃ st1 fl',A5P st1 bo (A0X p us es m).1∧(∀ c,c≠bo→st1 c=st0 c)∧QSt st1 q fl' (es.drop m) st':=by
 have hB:=hp.buy
 have hG:=hp.get
 have hul:=hu.len
 refine S.post (post:=fun v st'=>∃ sv st1 fl',v=.tuple [sv,eI (A0X p us es m).2]∧A5P st1 bo (A0X p us es m).1∧(∀ c,c≠bo→st1 c=st0 c)∧A0K 3 1 (fun k=>eI (at_ es k).2) m st1 q fl' (es.drop m) sv st') ?_
  (fun v st' ⟨sv,st1,fl',hv,h1,h2,h3⟩=>by
   obtain ⟨st'',h4,h5⟩:=h3.shiftQ
   have e:B0 ((es.take m).map (·.2))=.arr 1 m (fun k=>eI (gI ((es.take m).map (·.2)) k)):=by unfold B0 A8;rw [D6J,D6N,D9K hme]
   have e2:A6 [.arr 1 m (fun k=>eI (at_ es k).2)] st'' [B0 ((es.take m).map (·.2))] st'':=by
    rw [e]
    exact A6.arr fun i hi=>by
     have:gI ((es.take m).map (·.2)) i=(at_ es i).2:=by
      have h6:=D4 (fun e:QE=>e.2) (es.take m) (i:=i) (by rw [D6N];omega)
      rw [show gI ((es.take m).map (·.2)) i=((es.take m).map fun e:QE=>e.2).getD i default from rfl,h6]
      unfold at_
      rw [D6D,D6D,D6S hi]
     rw [this]
   exact ⟨_,st'',⟨rfl,st1,fl',h1,h2,h5⟩,by rw [hv];exact A6.tuple (A6.cons (h4.trans e2) (A6.keep _ _)) rfl⟩)
 refine F4 [3] Tryz.func296 ?_
 have w0:IntKind.i64.wrap (p.buy+p.get)=(m:Int):=by rw [A5 (by omega) (by omega)];omega
 rw [w0]
 refine ⟨[1,2,3,8,9,20,21],fun mm vs st'=>∃ (k:Nat) (sv:AV) (st1:St) (fl':Bool),k≤m∧mm=m - k∧vs=[.own 3 bo 0 us.length,.optr 1 q 0 0,.fptr (B7 p) 0,sv,eI (A0X p us es k).2,eI m,eI k]∧A5P st1 bo (A0X p us es k).1∧(∀ c,c≠bo→st1 c=st0 c)∧A0K 3 1 (fun k=>eI (at_ es k).2) k st1 q fl' (es.drop k) sv st',?_,?_⟩
 ·conv=>whnf
  exact ⟨_,0,.emp,st0,fl,D7e _,rfl,rfl,ho,fun _ _=>rfl,.inl ⟨rfl,rfl,hq⟩⟩
 ·clear ho hq
  rintro mm vs st' ⟨k,sv,st1,fl',hk,rfl,rfl,ho,hfr,hout⟩
  conv=>whnf
  cases h:decide ((k:Int)<(m:Int))
  ·have:=D6G h
   obtain rfl:k=m:=by omega
   conv=>whnf
   exact ⟨sv,st1,fl',rfl,ho,hfr,hout⟩
  ·have hk':k<m:=by have:=D6H h;omega
   have hsplit:es.drop k=at_ es k::es.drop (k+1):=by
    have:at_ es k=es[k]:=by unfold at_;simp [show k<es.length by omega]
    rw [this];exact D8I (by omega)
   have htop:∀ y∈es.drop (k+1),G6 y (at_ es k)=false:=fun y hy=>by
    have:=hs.sublist (D9q k _)
    rw [hsplit,D8p] at this
    exact this.1 y hy
   have hoff:=A8T hp hu hr k (by omega)
   have hx:=hr (at_ es k) (A7 (by omega))
   have hF:A0X p us es (k+1)=if (k:Int)<p.buy then A0X p us es k else
    (less1 (A0X p us es k).1 (at_ es k).2.toNat (J9 (gU (A0X p us es k).1 (at_ es k).2.toNat).net p.rate),(A0X p us es k).2+J9 (gU (A0X p us es k).1 (at_ es k).2.toNat).net p.rate):=rfl
   rw [hsplit] at hout
   generalize hFk:A0X p us es k=F at *
   conv=>whnf
   refine call (hout.pop_S htop) (fun v st'' hv=>?_)
   obtain ⟨rfl,hout'⟩:=hv
   conv=>whnf
   refine A0K.app (q:=r3) rfl rfl rfl rfl rfl rfl (by show (k+1) * 8≤140737488355328;omega) hout' (fun sv' st3 hout3=>?_);conv=>whnf
   refine B9 (fun h1=>?_) (fun h1=>?_)<;>rw [h1]<;>simp only [D6F,D6E] at h1
   ·conv=>whnf
    refine G2 ?_
    refine ⟨m - (k+1),by omega,k+1,sv',st1,false,by omega,rfl,?_,?_,hfr,hout3⟩
    ·rw [B4 (by omega),hF,if_pos h1]
    ·rw [hF,if_pos h1];exact ho
   ·obtain ⟨f,hst,hf⟩:=ho
    have hst3:=hout3.sup bo _ hst
    have hlen:=hoff.len
    have hfm:f (0+(at_ es k).2.toNat)=Z4 (gU F.1 (at_ es k).2.toNat):=by rw [D6Q];exact hf _ (by omega)
    have hn0:=hoff.net (at_ es k).2.toNat
    have hn1:(gU us (at_ es k).2.toNat).net≤10000000000000:=hu.le (A7 hx.2)
    have hb:=T7 (gU F.1 (at_ es k).2.toNat).net p.rate
    have hle:J9 (gU F.1 (at_ es k).2.toNat).net p.rate≤(gU F.1 (at_ es k).2.toNat).net:=A5p hn0.1 hp.rate.1 hp.rate.2
    have hp0:=hoff.pos
    have hps:=hoff.sum
    have hps2:=C1 (hoff.ok hu).nets0
    have hps3:=hu.sum
    conv=>whnf
    refine ⟨[],[],[0,1,2,3,4,5,6,7,8,9,10,11,12],by kernel_rfl,?_⟩;conv=>whnf
    refine E7 ?_
    refine J6 hst3 hfm ?_
    refine cqW (B5e _ _ _ _) ?_
    refine E7 ?_
    refine J6 hst3 hfm ?_
    refine E7 ?_
    refine Z7 hst3 hfm ?_
    refine G2 ?_
    refine ⟨m - (k+1),by omega,k+1,sv',_,false,by omega,rfl,?_,?_,?_,hout3.write hst⟩
    ·rw [B4 (by omega),hF,if_neg h1]
     have w:IntKind.i64.wrap (F.2+J9 (gU F.1 (at_ es k).2.toNat).net p.rate)=F.2+J9 (gU F.1 (at_ es k).2.toNat).net p.rate:=A5 (by omega) (by omega)
     show _=[AV.own 3 bo 0 us.length,AV.optr 1 q 0 0,AV.fptr (B7 p) 0,sv',eI (F.2+J9 (gU F.1 (at_ es k).2.toNat).net p.rate),eI m,eI (k+1:Nat)]
     rw [←w];rfl
    ·rw [hF,if_neg h1]
     refine A5P.set hf (by omega) _ ?_
     rw [A0,D6Q]
     have w:IntKind.i64.wrap ((gU F.1 (at_ es k).2.toNat).net - J9 (gU F.1 (at_ es k).2.toNat).net p.rate)=(gU F.1 (at_ es k).2.toNat).net - J9 (gU F.1 (at_ es k).2.toNat).net p.rate:=A5 (by omega) (by omega)
     rw [←w];rfl
    ·intro c hc
     rw [A9 hc];exact hfr c hc
def bgF (p:B1) (us:List B2) (d:List QE) (m:Nat):Nat→List B2×Int
 | 0=>(us,0)
 | r+1=>((A0X p (bgF p us d m r).1 (d.drop (r * m)) m).1,(bgF p us d m r).2+(A0X p (bgF p us d m r).1 (d.drop (r * m)) m).2)
theorem B0C {p:B1} (hp:B0V p) {us:List B2} (hu:E3 us) {d:List QE} {m:Nat} (hr:∀ e∈d,0≤e.2∧e.2.toNat<us.length):∀ r,r * m≤d.length→Off us (bgF p us d m r).1 (bgF p us d m r).2
 | 0,_=>Off.refl hu
 | r+1,h=>by
  have e:(r+1) * m=r * m+m:=Nat.succ_mul r m
  have ih:=B0C hp hu (m:=m) hr r (by omega)
  unfold bgF
  exact ih.trans (A8T hp (ih.ok hu) (fun x hx=>by rw [ih.len];exact hr x (List.drop_subset _ _ hx)) m (by rw [D9k];omega))
def W9 (p:B1) (us:List B2) (mine:List Int):List B2×Int :=
 let d:=E1 us mine
 let m:=(p.buy+p.get).toNat
 let F:=bgF p us d m (d.length / m)
 (if (decide (F.2>0)&&p.closes)=true then closeB F.1 ((d.take (d.length / m * m)).map (·.2)) else F.1,F.2)
theorem B5T {p:B1} (hp:B0V p) {us:List B2} (hu:E3 us) {mine:List Int} (hm:N7 us mine):Off us (W9 p us mine).1 (W9 p us mine).2:=by
 have hr:∀ e∈E1 us mine,0≤e.2∧e.2.toNat<us.length:=fun e he=>A6S hm.rng he
 have h1:=B0C hp hu (m:=(p.buy+p.get).toNat) hr ((E1 us mine).length / (p.buy+p.get).toNat) (Nat.div_mul_le_self ..)
 unfold W9
 simp only
 split
 ·have h2:=Off.closeB (h1.ok hu) (((E1 us mine).take ((E1 us mine).length / (p.buy+p.get).toNat * (p.buy+p.get).toNat)).map (·.2)) (fun x hx=>by
   obtain ⟨e,he,rfl⟩:=D6Z.1 hx
   rw [h1.len];exact (hr e (D7G _ _ he)).2)
  have h3:=h1.trans h2
  rw [D8R] at h3;exact h3
 ·exact h1
theorem B6e (d:List QE) {n k:Nat} (hn:n≤d.length) (hk:k<n):gI ((d.take n).map (·.2)) k=(at_ d k).2:=by
 have h6:=D4 (fun e:QE=>e.2) (d.take n) (i:=k) (by rw [D6N];omega)
 rw [show gI ((d.take n).map (·.2)) k=((d.take n).map fun e:QE=>e.2).getD k default from rfl,h6]
 unfold at_
 rw [D6D,D6D,D6S hk]
theorem B7h (d:List QE) {n:Nat} (hn:n≤d.length) (st:St):A6 [.arr 1 n (fun k=>eI (at_ d k).2)] st [B0 ((d.take n).map (·.2))] st:=by
 have e:B0 ((d.take n).map (·.2))=.arr 1 n (fun k=>eI (gI ((d.take n).map (·.2)) k)):=by unfold B0 A8;rw [D6J,D6N,D9K hn]
 rw [e]
 exact A6.arr fun i hi=>by rw [B6e d hn hi]
theorem B5w {L:List Int} {m:Nat} (h:L.length=m) (s:St):A0g 1 s (B0 L)=some (m,fun k=>eI (gI L k)):=by
 subst h;exact A3F ..
theorem C3n (p:B1) (us:List B2) (mine:List Int) (hfit:Q7 p) (hright:H2 p=true) (hk:p.kind=3) (hp:B0V p) (hu:E3 us) (hm:N7 us mine) (st:St) :
  S P 271 [B7 p,C6 us,B0 mine] st fun v st'=>v=.tuple [C6 (W9 p us mine).1,eI (W9 p us mine).2]∧st'=st:=by
 refine S.post (post:=fun v st'=>∃ sv,v=.tuple [sv,eI (W9 p us mine).2]∧A5I st (W9 p us mine).1 sv st') ?_
  (fun v st' ⟨sv,hv,hr⟩=>⟨_,st,⟨rfl,rfl⟩,by rw [hv];exact A6.tuple (A6.cons hr.shift (A6.keep _ _)) rfl⟩)
 have hul:=hu.len
 have hml:=hm.len
 have hB:=hp.buy
 have hG:=hp.get
 have hdl:=A1Y us mine
 have hdr:∀ e∈E1 us mine,0≤e.2∧e.2.toNat<us.length:=fun e he=>A6S hm.rng he
 have hds:=A5s (mine.map (C0Z us))
 have hM:W9 p us mine=(if (decide ((bgF p us (E1 us mine) (p.buy+p.get).toNat ((E1 us mine).length / (p.buy+p.get).toNat)).2>0)&&p.closes)=true then closeB (bgF p us (E1 us mine) (p.buy+p.get).toNat ((E1 us mine).length / (p.buy+p.get).toNat)).1 (((E1 us mine).take ((E1 us mine).length / (p.buy+p.get).toNat * (p.buy+p.get).toNat)).map (·.2)) else (bgF p us (E1 us mine) (p.buy+p.get).toNat ((E1 us mine).length / (p.buy+p.get).toNat)).1,(bgF p us (E1 us mine) (p.buy+p.get).toNat ((E1 us mine).length / (p.buy+p.get).toNat)).2):=rfl
 generalize hmm:(p.buy+p.get).toNat=m at *
 have hmI:(m:Int)=p.buy+p.get:=by omega
 have hm0:0<m:=by omega
 generalize hdd:(E1 us mine).length / m=c at *
 have hcm:c * m≤(E1 us mine).length:=by rw [←hdd];exact Nat.div_mul_le_self ..
 have hcl:c≤100000:=by rw [←hdd];exact D7S (Nat.div_le_self ..) (by omega)
 refine F4 [3] Tryz.func271 ?_
 refine call (B1j us hul st) (fun sv st1 hcol=>?_)
 have hres:=A5I.ofCol hcol
 conv=>whnf
 refine B9 (fun h1=>?_) (fun h1=>?_)<;>rw [h1]<;>simp only [hk] at h1
 ·simp at h1
 conv=>whnf
 refine B3 (B0N p hfit _) ?_
 rw [hright];conv=>whnf
 refine I2 (B1n us mine hu hm _) ?_
 refine call (A9n us mine hul (by omega) hm.rng _) (fun v st2 hv=>?_)
 obtain ⟨q,rfl,hq⟩:=hv
 conv=>whnf
 refine ⟨[],[],[0,1,2,3,4,5,6,7,8],by kernel_rfl,?_⟩;conv=>whnf
 refine cqW (A9J _ _ _ _ _ hq) ?_
 have w0:IntKind.i64.wrap (p.buy+p.get)=(m:Int):=by rw [A5 (by omega) (by omega)];omega
 rw [w0]
 refine B9 (fun h2=>absurd (D6H h2) (by omega)) (fun h2=>?_);conv=>whnf
 have w1:IntKind.i64.wrap (((E1 us mine).length:Int).tdiv (m:Int))=(c:Int):=by
  rw [D7Z (by omega),←Int.natCast_ediv,hdd];exact A5 (by omega) (by omega)
 rw [w1]
 refine ⟨[3,8,9,10,11,41,42],fun mm vs st'=>∃ (r:Nat) (svT:AV) (base:St) (fl:Bool),r≤c∧mm=c - r∧vs=[.fptr (B7 p) 0,sv,.optr 1 q 0 0,svT,eI (bgF p us (E1 us mine) m r).2,eI c,eI r]∧A5I st (bgF p us (E1 us mine) m r).1 sv base∧A0K 3 1 (fun k=>eI (at_ (E1 us mine) k).2) (r * m) base q fl ((E1 us mine).drop (r * m)) svT st',?_,?_⟩
 ·conv=>whnf
  exact ⟨_,0,.emp,st1,true,D7e _,rfl,rfl,hres,.inl ⟨Nat.zero_mul _,rfl,by rw [Nat.zero_mul];exact hq⟩⟩
 ·clear hq hcol hres
  rintro mm vs st' ⟨r,svT,base,fl,hr,rfl,rfl,hres,hout⟩
  have hrm:r * m≤c * m:=D7E m hr
  have hoff:=B0C hp hu (m:=m) hdr r (by omega)
  conv=>whnf
  cases h:decide ((r:Int)<(c:Int))
  ·have:=D6G h
   obtain rfl:r=c:=by omega
   generalize bgF p us (E1 us mine) m r=F at *
   rw [hM]
   have hsup:F1 base st':=hout.sup
   have fin:A5I st F.1 sv st':=by
    refine ⟨hres.1.trans hsup,?_⟩
    rcases hres.2 with h3 | ⟨b,h3,h4,f,h5,h6⟩
    ·exact .inl h3
    ·exact .inr ⟨b,h3,h4,f,hsup b _ h5,h6⟩
   conv=>whnf
   refine B9 (fun h3=>?_) (fun h3=>?_)<;>rw [h3]
   ·conv=>whnf
    refine B9 (fun h4=>?_) (fun h4=>?_)<;>rw [h4]
    ·conv=>whnf
     rcases hres.2 with ⟨h5,rfl⟩ | ⟨b,hb0,rfl,hHas⟩
     ·exfalso
      have h6:=hoff.len
      rw [h5] at h6
      have h7:=D6H h3
      have h8:=hoff.sum
      have h9:us=[]:=D7n h6.symm
      rw [h5,h9] at h8
      simp [A2] at h8
      omega
     ·have hcl2:∀ x∈((E1 us mine).take (r * m)).map (·.2),0≤x∧x.toNat<F.1.length:=fun x hx=>by
       obtain ⟨e,he,rfl⟩:=D6Z.1 hx
       rw [hoff.len];exact hdr e (D7G _ _ he)
      refine E5 (args':=[.own 3 b 0 F.1.length,B0 (((E1 us mine).take (r * m)).map (·.2))]) (A6.cons (A6.keep _ _) (hout.shift.trans (B7h _ hcm base))) (call (B4A b F.1 (((E1 us mine).take (r * m)).map (·.2)) hcl2 (by rw [D6J,D6N];omega) base hHas) (fun v st3 hv=>?_))
      obtain ⟨rfl,hH3,hfr⟩:=hv
      conv=>whnf
      refine ⟨_,rfl,?_⟩
      show A5I st (closeB F.1 (((E1 us mine).take (r * m)).map (·.2))) _ st3
      refine ⟨fun x y hx=>?_,.inr ⟨b,hb0,by rw [A1X],hH3⟩⟩
      rw [hfr x (fun e=>by subst e;rw [hb0] at hx;cases hx)];exact hres.1 x y hx
    ·conv=>whnf
     refine ⟨_,rfl,?_⟩
     exact fin
   ·conv=>whnf
    refine ⟨_,rfl,?_⟩
    exact fin
  ·have hr':r<c:=by have:=D6H h;omega
   have e1:(r+1) * m=r * m+m:=Nat.succ_mul r m
   have hrm2:(r+1) * m≤c * m:=D7E m hr'
   have hoff2:=B0C hp hu (m:=m) hdr (r+1) (by omega)
   have hF2:bgF p us (E1 us mine) m (r+1)=((A0X p (bgF p us (E1 us mine) m r).1 ((E1 us mine).drop (r * m)) m).1,(bgF p us (E1 us mine) m r).2+(A0X p (bgF p us (E1 us mine) m r).1 ((E1 us mine).drop (r * m)) m).2):=rfl
   rw [hF2] at hoff2
   have hrr:∀ e∈(E1 us mine).drop (r * m),0≤e.2∧e.2.toNat<(bgF p us (E1 us mine) m r).1.length:=fun e he=>by rw [hoff.len];exact hdr e (List.drop_subset _ _ he)
   have hss:((E1 us mine).drop (r * m)).Pairwise fun a b=>G6 b a=false:=hds.sublist (D9q _ _)
   generalize bgF p us (E1 us mine) m r=F at *
   have hoffR:=A8T hp (hoff.ok hu) hrr m (by rw [D9k];omega)
   conv=>whnf
   obtain ⟨st0,hcolT,hq⟩:=hout.col
   rcases hres.2 with ⟨h5,rfl⟩ | ⟨b,hb0,rfl,f,hst,hf⟩
   ·exfalso
    have h6:=hoff.len
    rw [h5,D7X] at h6
    omega
   have hHas0:A5P st0 b F.1:=⟨f,hcolT.sup b _ hst,hf⟩
   refine call (D1K p hp F.1 (hoff.ok hu) _ hrr hss m hmI (by rw [D9k];omega) st0 st' b q fl hHas0 hq) (fun v st3 hv=>?_)
   obtain ⟨rfl,st4,fl',⟨f4,hst4,hf4⟩,hfr4,hq4⟩:=hv
   have e4:st4=upd st0 b _:=C9z hst4 hfr4
   have hcol4:=Col.write (y':=⟨223,3,(A0X p F.1 ((E1 us mine).drop (r * m)) m).1.length,f4⟩) hcolT hst
   rw [←e4] at hcol4
   have hout4:=A0K.of hcol4 hq4
   rw [List.drop_drop] at hout4
   have hX1:=hoffR.pos
   have hX2:=hoff.pos
   have hX3:=hoff2.sum
   have hX4:=C1 (hoff2.ok hu).nets0
   have hX5:=hu.sum
   have hX6:=hoffR.len
   have etl:(((E1 us mine).drop (r * m)).take m |>.map (·.2)).length=m:=by rw [D6J,D6N,D9k];omega
   conv=>whnf
   refine A0K.apps (q:=r3) (m:=m) (n:=r * m) rfl rfl rfl rfl (B5w etl st3) (fun i hi=>?_) (by show (r * m+m) * 8≤140737488355328;omega) hout4 (fun sv' st5 hout5=>?_)
   ·show eI (gI (((E1 us mine).drop (r * m)).take m |>.map (·.2)) i)=_
    rw [B6e _ (by rw [D9k];omega) hi]
    unfold at_
    rw [D6D,D8o,←D6D]
   conv=>whnf
   refine G2 ?_
   refine ⟨c - (r+1),by omega,r+1,sv',upd base b ⟨223,3,(A0X p F.1 ((E1 us mine).drop (r * m)) m).1.length,f4⟩,fl',by omega,rfl,?_,?_,?_⟩
   ·have w:IntKind.i64.wrap (F.2+(A0X p F.1 ((E1 us mine).drop (r * m)) m).2)=F.2+(A0X p F.1 ((E1 us mine).drop (r * m)) m).2:=A5 (by omega) (by omega)
    rw [B4 (by omega),hF2,w]
   ·rw [hF2]
    exact ⟨hres.1.over hb0,.inr ⟨b,hb0,by show AV.own 3 b 0 F.1.length=_;rw [hX6],f4,A0 ..,hf4⟩⟩
   ·rw [e1];exact hout5
theorem A2F {st:St} {b c:Nat} (h:c≠b):del st b c=st c:=by unfold del;rw [if_neg h]
theorem A4s (st:St) (b:Nat):del st b b=none:=by unfold del;rw [if_pos rfl]
theorem F1.drop {s t:St} {b:Nat} {y:K4} (h:F1 (upd s b y) t) (hb:s b=none):F1 s t:=fun c x hc=>by
 have hne:c≠b:=fun e=>by subst e;rw [hb] at hc;cases hc
 exact h c x (by rw [A9 hne];exact hc)
structure L2 (R:St→St→Prop):Prop where
 sup:∀ {s t:St},R s t→F1 s t
 begin:∀ {s t:St} {b:Nat} {y:K4},R s t→t b=none→R (upd s b y) (upd t b y)
 grow:∀ {s t:St} {b b':Nat} {y y':K4},R (upd s b y) t→s b=none→(b'=b∨t b'=none)→s b'=none∧R (upd s b' y') (upd (del t b) b' y')
 write:∀ {s t:St} {b:Nat} {y y':K4},R s t→s b=some y→R (upd s b y') (upd t b y')
 forget:∀ {s t:St} {b:Nat} {y:K4},R (upd s b y) t→s b=none→R s (del t b)
 drop:∀ {s t:St} {b:Nat} {y:K4},R (upd s b y) t→s b=none→R s t
theorem QSt.drop {st0 st:St} {q b:Nat} {f:Bool} {es:List QE} {y:K4} (h:QSt (upd st0 b y) q f es st) (hb:st0 b=none):QSt st0 q f es st:=by
 obtain ⟨h1,h2,sv,hq,h3⟩:=h
 have hqb:q≠b:=fun e=>by subst e;rw [A0] at h1;cases h1
 refine ⟨by rw [A9 hqb] at h1;exact h1,F1.drop h2 hb,sv,hq,?_⟩
 rcases h3 with h3 | ⟨c,l,n,a1,a2,a3,a4,a5,a6,a7,a8,a9⟩
 ·exact .inl h3
 ·have hcb:c≠b:=fun e=>by subst e;rw [A0] at a2;cases a2
  rw [A9 hcb] at a2
  exact .inr ⟨c,l,n,a1,a2,a3,a4,a5,a6,a7,a8,a9⟩
theorem B9G (q:Nat) (f:Bool) (es:List QE):L2 fun s t=>QSt s q f es t :=
 ⟨fun h=>h.sup,fun h hb=>(h.begin hb).2,fun h h0 hb=>h.grow h0 hb,fun h hb=>h.write hb,fun h hb=>h.forget hb,fun h hb=>h.drop hb⟩
def Y7 (b:Nat) (Q:K4→Prop) (R:St→St→Prop) (s t:St):Prop:=s b=none∧∃ y,Q y∧R (upd s b y) t
theorem A0w {b:Nat} {Q:K4→Prop} {R:St→St→Prop} (hR:L2 R):L2 (Y7 b Q R) where
 sup:=fun ⟨h1,y,h2,h3⟩=>F1.drop (hR.sup h3) h1
 begin:=fun {s t c z} ⟨h1,y,h2,h3⟩ hc=>by
  have hbc:b≠c:=fun e=>by subst e;rw [hR.sup h3 b y (A0 ..)] at hc;cases hc
  refine ⟨by rw [A9 hbc];exact h1,y,h2,?_⟩
  rw [R1 hbc.symm];exact hR.begin h3 hc
 grow:=fun {s t c c' z z'} ⟨h1,y,h2,h3⟩ h0 hc=>by
  have hbc:b≠c:=fun e=>by subst e;rw [A0] at h1;cases h1
  rw [A9 hbc] at h1
  have hty:t b=some y:=hR.sup h3 b y (A0 ..)
  have hbc':b≠c':=fun e=>by
   subst e
   rcases hc with e | e
   ·exact hbc e
   ·rw [hty] at e;cases e
  rw [R1 hbc.symm] at h3
  obtain ⟨g1,g2⟩:=hR.grow (y':=z') h3 (by rw [A9 hbc.symm];exact h0) hc
  rw [A9 hbc'.symm] at g1
  exact ⟨g1,by rw [A9 hbc'];exact h1,y,h2,by rw [R1 hbc'.symm];exact g2⟩
 write:=fun {s t c z z'} ⟨h1,y,h2,h3⟩ hc=>by
  have hbc:b≠c:=fun e=>by subst e;rw [h1] at hc;cases hc
  refine ⟨by rw [A9 hbc];exact h1,y,h2,?_⟩
  rw [R1 hbc.symm];exact hR.write h3 (by rw [A9 hbc.symm];exact hc)
 forget:=fun {s t c z} ⟨h1,y,h2,h3⟩ h0=>by
  have hbc:b≠c:=fun e=>by subst e;rw [A0] at h1;cases h1
  rw [A9 hbc] at h1
  rw [R1 hbc.symm] at h3
  exact ⟨h1,y,h2,hR.forget h3 (by rw [A9 hbc.symm];exact h0)⟩
 drop:=fun {s t c z} ⟨h1,y,h2,h3⟩ h0=>by
  have hbc:b≠c:=fun e=>by subst e;rw [A0] at h1;cases h1
  rw [A9 hbc] at h1
  rw [R1 hbc.symm] at h3
  exact ⟨h1,y,h2,hR.drop h3 (by rw [A9 hbc.symm];exact h0)⟩
theorem Y7.at {b:Nat} {Q:K4→Prop} {R:St→St→Prop} (hR:L2 R) {s t:St} (h:Y7 b Q R s t):∃ y,Q y∧t b=some y:=by
 obtain ⟨h1,y,h2,h3⟩:=h
 exact ⟨y,h2,hR.sup h3 b y (A0 ..)⟩
theorem Y7.map {b:Nat} {Q:K4→Prop} {R R':St→St→Prop} {s t t':St} (h:Y7 b Q R s t) (hm:∀ s,R s t→R' s t'):Y7 b Q R' s t':=by
 obtain ⟨h1,y,h2,h3⟩:=h
 exact ⟨h1,y,h2,hm _ h3⟩
theorem Y7.set {b:Nat} {Q Q':K4→Prop} {R:St→St→Prop} (hR:L2 R) {s t:St} (h:Y7 b Q R s t) {y':K4} (hy:Q' y'):Y7 b Q' R s (upd t b y'):=by
 obtain ⟨h1,y,h2,h3⟩:=h
 have:=hR.write (y':=y') h3 (A0 ..)
 rw [C0] at this
 exact ⟨h1,y',hy,this⟩
theorem Y7.weak {b:Nat} {Q Q':K4→Prop} {R:St→St→Prop} {s t:St} (h:Y7 b Q R s t) (hw:∀ y,Q y→Q' y):Y7 b Q' R s t:=by
 obtain ⟨h1,y,h2,h3⟩:=h
 exact ⟨h1,y,hw _ h2,h3⟩
def A2B (q:Nat) (bo:Option Nat) (c:Nat):Prop:=c=q∨bo=some c
structure QF (q:Nat) (bo:Option Nat) (f:Bool) (es:List QE) (st:St):Prop where
 has:∃ sv,A4O st q sv∧((es=[]∧sv=.emp∧bo=none)∨∃ b l n,bo=some b∧q≠b∧sv=.own 2 b 0 n∧n≤l.length∧l.length<2305843009213∧A5Q l n∧A3l st b l∧(l.take n).Perm es∧(f=true→n=l.length))
theorem QF.frame {q:Nat} {bo:Option Nat} {f:Bool} {es:List QE} {st st':St} (h:QF q bo f es st) (hf:∀ c,A2B q bo c→st' c=st c):QF q bo f es st':=by
 obtain ⟨sv,⟨fq,hqs,hq0⟩,h3⟩:=h.has
 refine ⟨sv,⟨fq,by rw [hf q (.inl rfl)];exact hqs,hq0⟩,?_⟩
 rcases h3 with h3 | ⟨b,l,n,a0,a1,a3,a4,a5,a6,⟨fe,hes,hef⟩,a8,a9⟩
 ·exact .inl h3
 ·exact .inr ⟨b,l,n,a0,a1,a3,a4,a5,a6,⟨fe,by rw [hf b (.inr a0)];exact hes,hef⟩,a8,a9⟩
theorem QF.some {q:Nat} {bo:Option Nat} {f:Bool} {es:List QE} {st:St} (h:QF q bo f es st) {c:Nat} (hc:A2B q bo c):∃ x,st c=.some x:=by
 obtain ⟨sv,⟨fq,hqs,hq0⟩,h3⟩:=h.has
 rcases hc with rfl | hc
 ·exact ⟨_,hqs⟩
 ·rcases h3 with ⟨_,_,h4⟩ | ⟨b,l,n,a0,a1,a3,a4,a5,a6,⟨fe,hes,hef⟩,a8,a9⟩
  ·rw [h4] at hc;cases hc
  ·rw [a0] at hc;cases hc;exact ⟨_,hes⟩
theorem QSt.foot {s t:St} {q:Nat} {f:Bool} {es:List QE} (h:QSt s q f es t):∃ bo,QF q bo f es t∧∀ c,A2B q bo c→s c=none:=by
 obtain ⟨h1,h2,sv,hq,h3⟩:=h
 rcases h3 with ⟨h3,h4⟩ | ⟨b,l,n,a1,a2,a3,a4,a5,a6,a7,a8,a9⟩
 ·exact ⟨none,⟨sv,hq,.inl ⟨h3,h4,rfl⟩⟩,fun c hc=>by
   rcases hc with rfl | hc
   ·exact h1
   ·cases hc⟩
 ·exact ⟨.some b,⟨sv,hq,.inr ⟨b,l,n,rfl,a1,a3,a4,a5,a6,a7,a8,a9⟩⟩,fun c hc=>by
   rcases hc with rfl | hc
   ·exact h1
   ·cases hc;exact a2⟩
theorem QF.qst {s t:St} {q:Nat} {bo:Option Nat} {f:Bool} {es:List QE} (h:QF q bo f es t) (hs:F1 s t) (hn:∀ c,A2B q bo c→s c=none):QSt s q f es t:=by
 obtain ⟨sv,hq,h3⟩:=h.has
 refine ⟨hn q (.inl rfl),hs,sv,hq,?_⟩
 rcases h3 with ⟨h3,h4,_⟩ | ⟨b,l,n,a0,a1,a3,a4,a5,a6,a7,a8,a9⟩
 ·exact .inl ⟨h3,h4⟩
 ·exact .inr ⟨b,l,n,a1,hn b (.inr a0),a3,a4,a5,a6,a7,a8,a9⟩
structure QsA (s:St) (n:Nat) (q:Nat→Nat) (bo:Nat→Option Nat) (f:Nat→Bool) (es:Nat→List QE) (t:St):Prop where
 sup:F1 s t
 new:∀ i,i<n→∀ c,A2B (q i) (bo i) c→s c=none
 has:∀ i,i<n→QF (q i) (bo i) (f i) (es i) t
 dis:∀ i j,i<n→j<n→i≠j→∀ c,A2B (q i) (bo i) c→¬ A2B (q j) (bo j) c
def Qs (n:Nat) (q:Nat→Nat) (es:Nat→List QE) (s t:St):Prop:=∃ bo f,QsA s n q bo f es t
theorem QsA.off {s t:St} {n:Nat} {q:Nat→Nat} {bo:Nat→Option Nat} {f:Nat→Bool} {es:Nat→List QE} (h:QsA s n q bo f es t) {b:Nat} {y:K4} (hb:s b=some y) {i:Nat} (hi:i<n) {c:Nat} (hc:A2B (q i) (bo i) c):c≠b:=fun e=>by
 subst e;rw [h.new i hi c hc] at hb;cases hb
theorem A3p (n:Nat) (q:Nat→Nat) (es:Nat→List QE):L2 (Qs n q es) where
 sup:=fun ⟨bo,f,h⟩=>h.sup
 begin:=fun {s t b y} ⟨bo,f,h⟩ hb=>by
  have hne:∀ i,i<n→∀ c,A2B (q i) (bo i) c→c≠b:=fun i hi c hc e=>by
   subst e
   obtain ⟨x,hx⟩:=(h.has i hi).some hc
   rw [hx] at hb;cases hb
  exact ⟨bo,f,fun c x hc=>by
    by_cases e:c=b
    ·subst e;rw [A0] at hc ⊢;exact hc
    ·rw [A9 e] at hc ⊢;exact h.sup c x hc,
   fun i hi c hc=>by rw [A9 (hne i hi c hc)];exact h.new i hi c hc,
   fun i hi=>(h.has i hi).frame fun c hc=>A9 (hne i hi c hc),h.dis⟩
 grow:=fun {s t b b' y y'} ⟨bo,f,h⟩ h0 hb=>by
  have hne:∀ i,i<n→∀ c,A2B (q i) (bo i) c→c≠b:=fun i hi c hc=>h.off (A0 ..) hi hc
  have hne':∀ i,i<n→∀ c,A2B (q i) (bo i) c→c≠b':=fun i hi c hc e=>by
   subst e
   rcases hb with e | e
   ·exact hne i hi c hc e
   ·obtain ⟨x,hx⟩:=(h.has i hi).some hc
    rw [hx] at e;cases e
  have hsub:∀ c x,s c=some x→c≠b∧t c=some x:=fun c x hc=>by
   have hne:c≠b:=fun e=>by subst e;rw [h0] at hc;cases hc
   exact ⟨hne,h.sup c x (by rw [A9 hne];exact hc)⟩
  have hb':s b'=none:=by
   rcases hb with e | e
   ·rw [e];exact h0
   ·cases hx:s b' with
    | none=>rfl
    | some x=>rw [(hsub _ _ hx).2] at e;cases e
  refine ⟨hb',bo,f,fun c x hc=>?_,fun i hi c hc=>?_,fun i hi=>(h.has i hi).frame fun c hc=>?_,h.dis⟩
  ·by_cases e:c=b'
   ·subst e;rw [A0] at hc ⊢;exact hc
   ·rw [A9 e] at hc ⊢
    rw [A2F (hsub c x hc).1];exact (hsub c x hc).2
  ·have:=h.new i hi c hc
   rw [A9 (hne i hi c hc)] at this
   rw [A9 (hne' i hi c hc)];exact this
  ·rw [A9 (hne' i hi c hc),A2F (hne i hi c hc)]
 write:=fun {s t b y y'} ⟨bo,f,h⟩ hb=>by
  have hne:∀ i,i<n→∀ c,A2B (q i) (bo i) c→c≠b:=fun i hi c hc=>h.off hb hi hc
  exact ⟨bo,f,F1.write (y:=y) h.sup,fun i hi c hc=>by rw [A9 (hne i hi c hc)];exact h.new i hi c hc,
   fun i hi=>(h.has i hi).frame fun c hc=>A9 (hne i hi c hc),h.dis⟩
 forget:=fun {s t b y} ⟨bo,f,h⟩ h0=>by
  have hne:∀ i,i<n→∀ c,A2B (q i) (bo i) c→c≠b:=fun i hi c hc=>h.off (A0 ..) hi hc
  refine ⟨bo,f,fun c x hc=>?_,fun i hi c hc=>?_,fun i hi=>(h.has i hi).frame fun c hc=>?_,h.dis⟩
  ·have e:c≠b:=fun e=>by subst e;rw [h0] at hc;cases hc
   rw [A2F e];exact h.sup c x (by rw [A9 e];exact hc)
  ·have:=h.new i hi c hc
   rw [A9 (hne i hi c hc)] at this;exact this
  ·exact A2F (hne i hi c hc)
 drop:=fun {s t b y} ⟨bo,f,h⟩ h0=>by
  have hne:∀ i,i<n→∀ c,A2B (q i) (bo i) c→c≠b:=fun i hi c hc=>h.off (A0 ..) hi hc
  refine ⟨bo,f,F1.drop h.sup h0,fun i hi c hc=>?_,h.has,h.dis⟩
  have:=h.new i hi c hc
  rw [A9 (hne i hi c hc)] at this;exact this
theorem Qs.nil {s t:St} (h:F1 s t) {q:Nat→Nat} {es:Nat→List QE}:Qs 0 q es s t:=⟨fun _=>none,fun _=>true,h,fun i hi=>by omega,fun i hi=>by omega,fun i j hi=>by omega⟩
theorem Qs.congr {n:Nat} {q q':Nat→Nat} {es es':Nat→List QE} {s t:St} (h:Qs n q es s t) (hq:∀ i,i<n→q' i=q i) (he:∀ i,i<n→es' i=es i):Qs n q' es' s t:=by
 obtain ⟨bo,f,h⟩:=h
 exact ⟨bo,f,h.sup,fun i hi=>by rw [hq i hi];exact h.new i hi,fun i hi=>by rw [hq i hi,he i hi];exact h.has i hi,fun i j hi hj=>by rw [hq i hi,hq j hj];exact h.dis i j hi hj⟩
def A0k {α : Type} (f:Nat→α) (i:Nat) (v : α) (k:Nat) : α:=if k=i then v else f k
theorem H1 {α : Type} (f:Nat→α) (i:Nat) (v : α):A0k f i v i=v:=by simp [A0k]
theorem N4 {α : Type} {f:Nat→α} {i k:Nat} {v : α} (h:k≠i):A0k f i v k=f k:=by simp [A0k,h]
theorem Qs.add {n:Nat} {q:Nat→Nat} {es:Nat→List QE} {s t t':St} {q':Nat} {f':Bool} {es':List QE} (h:Qs n q es s t) (h':QSt t q' f' es' t'):Qs (n+1) (A0k q n q') (A0k es n es') s t':=by
 obtain ⟨bo,f,h⟩:=h
 obtain ⟨bo',g1,g2⟩:=h'.foot
 have hne:∀ i,i<n→∀ c,A2B (q i) (bo i) c→¬ A2B q' bo' c:=fun i hi c hc hc'=>by
  obtain ⟨x,hx⟩:=(h.has i hi).some hc
  rw [g2 c hc'] at hx;cases hx
 refine ⟨A0k bo n bo',A0k f n f',h.sup.trans h'.sup,fun i hi c hc=>?_,fun i hi=>?_,fun i j hi hj hij c hc=>?_⟩
 ·by_cases e:i=n
  ·subst e;rw [H1,H1] at hc;exact h.sup.none (g2 c hc)
  ·rw [N4 e,N4 e] at hc;exact h.new i (by omega) c hc
 ·by_cases e:i=n
  ·subst e;rw [H1,H1,H1,H1];exact g1
  ·rw [N4 e,N4 e,N4 e,N4 e]
   refine (h.has i (by omega)).frame fun c hc=>?_
   obtain ⟨x,hx⟩:=(h.has i (by omega)).some hc
   rw [hx,h'.sup c x hx]
 ·by_cases e:i=n
  ·subst e
   rw [H1,H1] at hc
   rw [N4 hij.symm,N4 hij.symm]
   exact fun hc'=>hne j (by omega) c hc' hc
  ·rw [N4 e,N4 e] at hc
   by_cases e2:j=n
   ·subst e2;rw [H1,H1];exact hne i (by omega) c hc
   ·rw [N4 e2,N4 e2];exact h.dis i j (by omega) (by omega) hij c hc
theorem Qs.turn {n:Nat} {q:Nat→Nat} {es:Nat→List QE} {s t:St} (h:Qs n q es s t) {k:Nat} (hk:k<n) :
  ∃ s1 f,F1 s s1∧QSt s1 (q k) f (es k) t∧∀ f' es' t',QSt s1 (q k) f' es' t'→Qs n q (A0k es k es') s t':=by
 obtain ⟨bo,f,h⟩:=h
 have hdec:∀ c,Decidable (A2B (q k) (bo k) c):=fun c=>inferInstanceAs (Decidable (_∨_))
 let s1:St:=fun c=>match hdec c with | isTrue _=>none | isFalse _=>t c
 have s1t:∀ c,A2B (q k) (bo k) c→s1 c=none:=fun c hc=>by
  show (match hdec c with | isTrue _=>none | isFalse _=>t c)=none
  cases hdec c with
  | isTrue _=>rfl
  | isFalse hn=>exact absurd hc hn
 have s1f:∀ c,¬ A2B (q k) (bo k) c→s1 c=t c:=fun c hc=>by
  show (match hdec c with | isTrue _=>none | isFalse _=>t c)=t c
  cases hdec c with
  | isTrue hn=>exact absurd hn hc
  | isFalse _=>rfl
 have s1s:F1 s1 t:=fun c x hc=>by
  by_cases e:A2B (q k) (bo k) c
  ·rw [s1t c e] at hc;cases hc
  ·rw [s1f c e] at hc;exact hc
 refine ⟨s1,f k,fun c x hc=>?_,(h.has k hk).qst s1s s1t,fun f' es' t' hq=>?_⟩
 ·have:¬ A2B (q k) (bo k) c:=fun e=>by rw [h.new k hk c e] at hc;cases hc
  rw [s1f c this];exact h.sup c x hc
 obtain ⟨bo',g1,g2⟩:=hq.foot
 have hfr:∀ c x,¬ A2B (q k) (bo k) c→t c=some x→t' c=some x:=fun c x hc hx=>hq.sup c x (by rw [s1f c hc];exact hx)
 have hne:∀ i,i<n→i≠k→∀ c,A2B (q i) (bo i) c→¬ A2B (q k) bo' c:=fun i hi hik c hc hc'=>by
  obtain ⟨x,hx⟩:=(h.has i hi).some hc
  have:=g2 c hc'
  rw [s1f c (h.dis i k hi hk hik c hc),hx] at this;cases this
 refine ⟨A0k bo k bo',A0k f k f',fun c x hc=>?_,fun i hi c hc=>?_,fun i hi=>?_,fun i j hi hj hij c hc=>?_⟩
 ·exact hfr c x (fun e=>by rw [h.new k hk c e] at hc;cases hc) (h.sup c x hc)
 ·by_cases e:i=k
  ·subst e
   rw [H1] at hc
   by_cases e2:A2B (q i) (bo i) c
   ·exact h.new i hi c e2
   ·have:=g2 c hc
    rw [s1f c e2] at this;exact h.sup.none this
  ·rw [N4 e] at hc;exact h.new i hi c hc
 ·by_cases e:i=k
  ·subst e;rw [H1,H1,H1];exact g1
  ·rw [N4 e,N4 e,N4 e]
   refine (h.has i hi).frame fun c hc=>?_
   obtain ⟨x,hx⟩:=(h.has i hi).some hc
   rw [hx,hfr c x (h.dis i k hi hk e c hc) hx]
 ·by_cases e:i=k
  ·subst e
   rw [H1] at hc
   rw [N4 hij.symm]
   exact fun hc'=>hne j hj hij.symm c hc' hc
  ·rw [N4 e] at hc
   by_cases e2:j=k
   ·subst e2;rw [H1];exact hne i hi hij c hc
   ·rw [N4 e2];exact h.dis i j hi hj hij c hc
theorem Qs.pop_S {n:Nat} {q:Nat→Nat} {es:Nat→List QE} {s t:St} (h:Qs n q es s t) {k:Nat} (hk:k<n) {x:QE} {rest:List QE} (he:es k=x::rest) (htop:∀ y∈rest,G6 y x=false) :
  S P 230 [.optr 1 (q k) 0 0] t fun v t'=>v=.tuple [eI x.1,eI x.2,.bool true]∧Qs n q (A0k es k rest) s t':=by
 obtain ⟨s1,f,_,hq,hb⟩:=h.turn hk
 rw [he] at hq
 exact (A9K s1 (q k) f x rest t hq htop).mono fun v t' hv=>⟨hv.1,hb _ _ _ hv.2⟩
theorem Qs.pop0_S {n:Nat} {q:Nat→Nat} {es:Nat→List QE} {s t:St} (h:Qs n q es s t) {k:Nat} (hk:k<n) (he:es k=[]) :
  S P 230 [.optr 1 (q k) 0 0] t fun v t'=>v=.tuple [eI 0,eI 0,.bool false]∧t'=t:=by
 obtain ⟨s1,f,_,hq,hb⟩:=h.turn hk
 rw [he] at hq
 exact C6V s1 (q k) f t hq
def ROut (R:St→St→Prop) (ty e:Nat) (fo:Nat→AV) (n:Nat) (s:St) (sv:AV) (t:St):Prop:=∃ s0,Col ty e fo s n sv s0∧R s0 t
section
variable {R:St→St→Prop} {ty e n:Nat} {fo:Nat→AV} {s t:St} {sv:AV}
theorem ROut.start (h:R s t) (ty e:Nat) (fo:Nat→AV):ROut R ty e fo 0 s .emp t:=⟨s,Col.start _ _ _ _,h⟩
theorem ROut.map {R':St→St→Prop} {t':St} (h:ROut R ty e fo n s sv t) (hm:∀ s,R s t→R' s t'):ROut R' ty e fo n s sv t':=by
 obtain ⟨s0,h1,h2⟩:=h
 exact ⟨s0,h1,hm _ h2⟩
theorem ROut.congr {fo':Nat→AV} (h:ROut R ty e fo n s sv t) (hf:∀ k,k<n→fo k=fo' k):ROut R ty e fo' n s sv t:=by
 obtain ⟨s0,h1,h2⟩:=h
 exact ⟨s0,Col.congr h1 hf,h2⟩
theorem ROut.head (h:ROut R ty e fo n s sv t):sv=.emp∨∃ b,sv=.own e b 0 n:=by
 obtain ⟨s0,⟨_,h1,_⟩ | ⟨_,b,_,_,h1,_⟩,h2⟩:=h
 ·exact .inl h1
 ·exact .inr ⟨b,h1⟩
theorem ROut.apps {T:G9} {tt:TypeId} {x:AV} {k:KK} {r q:C2} {el m:Nat} {f g:Nat→AV} (hR:L2 R) (hr:T tt=some r) (hd:r.desc=.slice el) (hq:T el=some q)
  (hz:(Nat.blt 0 q.size&&Nat.blt 0 q.bytes&&Nat.beq q.zero.cells.size q.size)=true) (hs:A0g q.size t x=some (m,g)) (hg:∀ i,i<m→g i=f (n+i)) (hb:(n+m) * q.bytes≤140737488355328)
  (hc:ROut R el q.size f n s sv t) (hk:∀ sv' t',ROut R el q.size f (n+m) s sv' t'→k sv' t'):A5L T tt sv x t k:=by
 obtain ⟨s0,hc,h⟩:=hc
 rcases hc with ⟨rfl,rfl,rfl⟩ | ⟨h0,bo,y,h1,rfl,rfl,h4⟩
 ·refine apE hr hd hq hz hs (by simpa using hb) (fun h0=>hk _ _ ⟨s0,.inl ⟨by omega,rfl,rfl⟩,h⟩) (fun hm b hb=>?_)
  refine hk _ _ ⟨_,?_,hR.begin (y:=⟨el,q.size,m,g⟩) h hb⟩
  rw [D6Q]
  exact .inr ⟨hm,b,g,(hR.sup h).none hb,rfl,rfl,fun k hk=>by have:=hg k hk;rwa [D6Q] at this⟩
 ·have hby:t bo=some ⟨el,q.size,n,y⟩:=hR.sup h bo _ (A0 ..)
  refine apO hr hd hq hz hs hby rfl rfl rfl hb (fun h0'=>hk _ _ ?_) (fun _ b' hb'=>?_)
  ·subst h0';exact ⟨_,.inr ⟨h0,bo,y,h1,rfl,rfl,h4⟩,h⟩
  obtain ⟨hb0,hn⟩:=hR.grow (y':=⟨el,q.size,n+m,fun i=>if i<n then y i else g (i - n)⟩) h h1 hb'
  refine hk _ _ ⟨_,.inr ⟨by omega,b',_,hb0,rfl,rfl,fun k hk=>?_⟩,hn⟩
  by_cases hkn:k<n
  ·simp only [hkn,if_true];exact h4 k hkn
  ·simp only [hkn,D9l]
   rw [hg (k - n) (by omega)];congr 1;omega
theorem ROut.app {T:G9} {tt:TypeId} {x:AV} {k:KK} {r q:C2} {el:Nat} {f g:Nat→AV} (hR:L2 R) (hr:T tt=some r) (hd:r.desc=.slice el) (hq:T el=some q)
  (hz:(Nat.blt 0 q.size&&Nat.blt 0 q.bytes&&Nat.beq q.zero.cells.size q.size)=true) (hs:A0g q.size t x=some (1,g)) (hg:g 0=f n) (hb:(n+1) * q.bytes≤140737488355328)
  (hc:ROut R el q.size f n s sv t) (hk:∀ sv' t',ROut R el q.size f (n+1) s sv' t'→k sv' t'):A5L T tt sv x t k :=
 ROut.apps hR hr hd hq hz hs (fun i hi=>by
  have:i=0:=by omega
  subst this;exact hg) hb hc hk
theorem ROut.write (hR:L2 R) {b:Nat} {y y':K4} (h:ROut R ty e fo n s sv t) (hb:s b=some y):ROut R ty e fo n (upd s b y') sv (upd t b y'):=by
 obtain ⟨s0,hc,h⟩:=h
 exact ⟨_,Col.write hc hb,hR.write h (hc.sup b y hb)⟩
theorem ROut.shift (hR:L2 R) (h:ROut R ty e fo n s sv t):∃ t',A6 [sv] t [.arr e n fo] t'∧R s t':=by
 obtain ⟨s0,hc,h⟩:=h
 rcases hc with ⟨rfl,rfl,rfl⟩ | ⟨h0,bo,g,h1,rfl,rfl,h3⟩
 ·exact ⟨t,I9 e fo,h⟩
 ·exact ⟨del t bo,O4 (hR.sup h bo _ (A0 ..)) rfl (D6M _) h3,hR.forget h h1⟩
theorem ROut.dropped (hR:L2 R) (h:ROut R ty e fo n s sv t):R s t:=by
 obtain ⟨s0,hc,h⟩:=h
 rcases hc with ⟨rfl,rfl,rfl⟩ | ⟨h0,bo,g,h1,rfl,rfl,h3⟩
 ·exact h
 ·exact hR.drop h h1
theorem ROut.sup (hR:L2 R) (h:ROut R ty e fo n s sv t):F1 s t:=hR.sup (h.dropped hR)
end
end Go.Proofs.YtaapofnkmpiknaaGreat
