/- Part 31 of the proof: contracts of the functions that the law reaches -/
import Derived.Test.YtaapofnkmpiknaaGreatRw30
import Derived.ChangeSlices
import Derived.ChangeArms
set_option maxRecDepth 100000
set_option linter.unusedVariables false
set_option linter.unusedSimpArgs false
namespace Go.Proofs.YtaapofnkmpiknaaGreat
open Go Go.Ab
structure A8E (Q:A1I) (n:Nat):Prop where
 goods:∀ i,i<n→0≤gI Q.goods i∧gI Q.goods i≤1000000000000
 taxes:∀ i,i<n→0≤gI Q.taxes i∧gI Q.taxes i≤1000000000000
 ngoods:Q.goods.length=n
 ntaxes:Q.taxes.length=n
 ship:0≤Q.ship∧Q.ship≤1000000000000
 shipTax:0≤Q.shipTax∧Q.shipTax≤1000000000000
 total:Q.total=A2 Q.goods+A2 Q.taxes+Q.ship+Q.shipTax
theorem C3R (f:Nat→A2Z) (n:Nat) (g:Nat→Int) (v:A2Z→Int) (h:∀ i,i<n→A0k (v (f i)) (f i).sold (f i).left=g i):((List.range n).map f).foldl (fun a x=>a+A0k (v x) x.sold x.left) 0=A2 ((List.range n).map g):=by
 induction n with
 | zero=>rfl
 | succ n ih =>
  rw [D6L,D5P,D5P,D7n,ih fun i hi=>h i (by omega)]
  show A2 _+A0k (v (f n)) (f n).sold (f n).left=A2 (_++[g n])
  rw [h n (by omega)]
  unfold A2;rw [D7n];rfl
theorem B7w (l:List Int):(List.range l.length).map (gI l)=l:=by
 refine D7S (by rw [D5p,D5O]) fun i h1 h2=>?_
 rw [List.getElem_map,List.getElem_range]
 unfold gI
 simp [D5l,h2]
theorem B0p {l:List Int} {n:Nat} (hn:l.length=n) {M:Int} (h:∀ i,i<n→0≤gI l i∧gI l i≤M):0≤A2 l∧A2 l≤M * n:=by
 subst hn
 have:∀ k,k≤l.length→0≤A2 ((List.range k).map (gI l))∧A2 ((List.range k).map (gI l))≤M * k:=by
  intro k
  induction k with
  | zero=>intro _;exact ⟨D5W 0,by show (0:Int)≤M * ((0:Nat):Int);simp⟩
  | succ k ih =>
   intro hk
   have h1:=ih (by omega)
   have h2:=h k (by omega)
   have e:A2 ((List.range (k+1)).map (gI l))=A2 ((List.range k).map (gI l))+gI l k:=by
    rw [D6L,D5P];unfold A2;rw [D7n];rfl
   have e2:M * ((k+1:Nat):Int)=M * (k:Int)+M:=by rw [show ((k+1:Nat):Int)=(k:Int)+1 from rfl,D7z,D8j]
   rw [e,e2]
   omega
 have:=this l.length (D5u _)
 rwa [B7w] at this
theorem B0T:∀ (l:List Pay) (a:Int),(l.map A2H).foldl (fun a x=>a+(x.taken - x.given)) a=l.foldl (fun a x=>a+x.amount) a
 | [],a=>rfl
 | x::l,a=>by
  simp only [D6q,D6C]
  rw [show a+((A2H x).taken - (A2H x).given)=a+x.amount by show a+(x.amount - 0)=_;omega]
  exact B0T l _
theorem B8i {L:List E8} {Q:A1I} (h:A8E Q L.length) (h1:1≤L.length∧L.length≤8) (hL:∀ x∈L,D2 x.sku=true∧(0≤x.price∧x.price≤1000000000)∧1≤x.qty∧x.qty≤100000)
  {id zone:C8} {set day:Int} {C:List C8} {pays:List Pay} (exempt:Bool) (hi:D2 id=true) (hz:D2 zone=true) (hs:1≤set∧set≤40) (hd:0≤day∧day≤100000) (hc:S4 C=true) (hp:A6X pays Q.total=true) :
  A2v (A9H id zone set exempt C day L Q (A2z Q) pays)=true∧A6I (A9H id zone set exempt C day L Q (A2z Q) pays)=A2z Q∧Z6 (A2z Q)=Q.total:=by
 have g1:=B0p h.ngoods h.goods
 have g2:=B0p h.ntaxes h.taxes
 have g3:=h.ship
 have g4:=h.shipTax
 have g5:=h.total
 have hn:(L.length:Int)≤8:=by omega
 have hbk:A5B (A2z Q)=true:=by
  unfold A5B U8 A2z K4
  simp only [List.all_cons,List.all_nil,D6g,D5r,E6]
  omega
 have hsum:Z6 (A2z Q)=Q.total:=by
  unfold Z6
  rw [if_pos hbk]
  show 0+A2 Q.goods+A2 Q.taxes+Q.ship+Q.shipTax+0=Q.total
  omega
 have hkept:∀ x∈O3 L Q,A2A x=true∧x.left=x.sold∧1≤x.sold:=by
  intro x hx
  unfold O3 at hx
  obtain ⟨i,hi,rfl⟩:=D5G.1 hx
  have hi:=D5B.1 hi
  have hl:=hL _ (A7 hi)
  have hg:=h.goods i hi
  have ht:=h.taxes i hi
  refine ⟨?_,rfl,hl.2.2.1⟩
  unfold A2A A1O A0G
  simp only [D5r,E6]
  exact ⟨⟨⟨⟨⟨hl.1,hl.2.1⟩,hl.2.2⟩,by omega⟩,by omega⟩,by omega⟩
 have hten:(pays.map A2H).all Go.Proofs.YtaapofnkmpiknaaGreat.tenderB=true∧pays.length≤6∧A2g (pays.map A2H)=Q.total:=by
  unfold A6X at hp
  simp only [D5r,D5n,D6k] at hp
  obtain ⟨⟨p1,p2⟩,p3⟩:=hp
  refine ⟨?_,by omega,?_⟩
  ·rw [D5I] at p2 ⊢
   intro x hx
   obtain ⟨y,hy,rfl⟩:=D5G.1 hx
   have:=p2 y hy
   unfold A3K K4 at this
   simp only [D5r,E6,D5n] at this
   unfold Go.Proofs.YtaapofnkmpiknaaGreat.tenderB A2H K4
   simp only [D5r,E6]
   omega
  ·rw [←p3];exact B0T pays 0
 have hlen:(O3 L Q).length=L.length:=by unfold O3;rw [D5p,D5O]
 have hright:A2v (A9H id zone set exempt C day L Q (A2z Q) pays)=true:=by
  unfold A2v A9A A4O A1p A5A A0h A9H A1O K4
  simp only [D5r,D5n,E6,D6k,D5p,hlen]
  exact ⟨⟨⟨⟨⟨by omega,⟨⟨⟨hi,hz⟩,hs⟩,hc⟩,hd⟩,⟨by omega,by omega⟩,D5I.2 fun x hx=>(hkept x hx).1⟩,⟨⟨by omega,by omega⟩,by omega⟩,by omega⟩,hbk,hsum⟩,hten.1,by omega,hten.2.2⟩
 refine ⟨hright,?_,hsum⟩
 unfold A6I
 rw [if_pos hright]
 have e1:shG (O3 L Q)=A2 Q.goods:=by
  show ((List.range L.length).map (A0G L Q)).foldl (fun a x=>a+A0k x.goods x.sold x.left) 0=_
  rw [C3R (A0G L Q) L.length (gI Q.goods) (fun x=>x.goods) fun i hi=>by
   have hq:=(hL _ (A7 hi)).2.2.1
   show gI Q.goods i * (L.getD i default).qty / (L.getD i default).qty=_
   rw [Int.mul_ediv_cancel _ (by omega)]]
  rw [←h.ngoods,B7w]
 have e2:shT (O3 L Q)=A2 Q.taxes:=by
  show ((List.range L.length).map (A0G L Q)).foldl (fun a x=>a+A0k x.tax x.sold x.left) 0=_
  rw [C3R (A0G L Q) L.length (gI Q.taxes) (fun x=>x.tax) fun i hi=>by
   have hq:=(hL _ (A7 hi)).2.2.1
   show gI Q.taxes i * (L.getD i default).qty / (L.getD i default).qty=_
   rw [Int.mul_ediv_cancel _ (by omega)]]
  rw [←h.ntaxes,B7w]
 have e3:T2 (O3 L Q)=true:=by
  unfold T2
  rw [D6Q]
  have hm:(O3 L Q).getD 0 default∈O3 L Q:=A7 (by omega)
  have:=hkept _ hm
  exact ⟨_,hm,D5U (by omega)⟩
 show (⟨shG (O3 L Q),shT (O3 L Q),if T2 (O3 L Q)=true then Q.ship else 0,if T2 (O3 L Q)=true then Q.shipTax else 0,0⟩:A5k)=_
 rw [e1,e2,e3];rfl
end Go.Proofs.YtaapofnkmpiknaaGreat
namespace Go.Proofs.YtaapofnkmpiknaaGreat
open Go Go.Ab
attribute [local irreducible] upd del
theorem B4r (t:Tax) (x rate:Int) (hr:0≤rate∧rate≤10000) (st:St):S P 167 [R5 t,eI x,eI rate] st fun v st'=>v=eI (N5 t x rate)∧st'=st:=by
 have hM:N5 t x rate=(X2 x rate (A8O t rate) t.round).1:=rfl
 have hw:IntKind.i64.wrap (10000+rate)=10000+rate:=A5 (by omega) (by omega)
 refine F1 [3] Tryz.func167 ?_
 cases hi:t.incl
 ·have hd:A8O t rate=10000:=by unfold A8O;rw [if_neg (by rw [hi];simp)];rfl
  conv=>whnf
  refine B4 (B1K x rate 10000 t.round st) ?_
  rw [hM,hd]
  generalize X2 x rate 10000 t.round=Y
  conv=>whnf
  exact ⟨rfl,rfl⟩
 ·have hd:A8O t rate=10000+rate:=by unfold A8O;rw [if_pos hi]
  conv=>whnf
  rw [hw]
  refine B4 (B1K x rate (10000+rate) t.round st) ?_
  rw [hM,hd]
  generalize X2 x rate (10000+rate) t.round=Y
  conv=>whnf
  exact ⟨rfl,rfl⟩
theorem C0T (z:K2) (c:C8) (hl:z.rates.length≤100000) (st:St):S P 168 [R8 z,eS c] st fun v st'=>v=eI (E9 z c)∧st'=st:=by
 refine F1 [2] Tryz.func168 ?_
 refine lp z.rates.length [1,2,5] (fun i vs t=>(∀ j,j<i→((z.rates.getD j default).cat.toList==c.toList)=false)∧vs=[eS c,.fptr (R8 z) 0,eI i]∧t=st) ?_ ?_
 ·conv=>whnf
  exact ⟨fun j hj=>absurd hj (by omega),rfl,rfl⟩
 ·rintro i vs t hi ⟨hno,rfl,rfl⟩
  conv=>whnf
  cases h1:decide ((i:Int)<(z.rates.length:Int))
  ·obtain rfl:=C5 h1 hi
   have hf:E9 z c=z.rest:=by unfold E9;rw [B0g hno]
   rw [hf];conv=>whnf
   exact ⟨rfl,rfl⟩
  ·have hi':=D9 h1
   conv=>whnf
   refine E4 ?_
   refine B8 (fun h2=>?_) (fun h2=>?_)<;>rw [h2]
   ·have hf:E9 z c=(z.rates.getD (i:Int).toNat default).rate:=by unfold E9;rw [B0f (p:=fun x:G4=>x.cat.toList==c.toList) hi' h2 hno];rfl
    rw [hf];conv=>whnf
    refine E4 ?_
    exact ⟨rfl,rfl⟩
   ·conv=>whnf
    refine F8 ?_
    exact nx hi' ⟨H4 hno h2,by rw [B3 (by omega)],rfl⟩
theorem C0U (t:Tax) (s:C8) (hl:t.zones.length≤100000) (st:St) :
  S P 166 [R5 t,eS s] st fun v st'=>v=.tuple [R8 ((Y7 t.zones s).getD C7a),.bool (Y7 t.zones s).isSome]∧st'=st:=by
 refine S.post (post:=fun v s'=>E5 st s'∧((∃ z,Y7 t.zones s=some z∧v=.tuple [R8 z,.bool true])∨(Y7 t.zones s=none∧v=.tuple [.agg [eS ⟨#[]⟩,.emp,eI 0,eI 0],.bool false]))) ?_ (fun v s' ⟨hs,h⟩=>⟨_,st,⟨rfl,rfl⟩,by
  rcases h with ⟨z,h1,rfl⟩ | ⟨h1,rfl⟩
  ·rw [h1];exact hs.shift _
  ·rw [h1]
   exact (A8.tuple (A8.cons (Le.shift (Le.agg (F0.cons (Le.refl _) (F0.cons (Le.emp _ _) (F0.refl _)))) _) (A8.keep _ _)) rfl).trans (hs.shift _)⟩)
 refine F1 [2] Tryz.func166 ?_
 intro b4 hb4;conv=>whnf
 refine lp t.zones.length [1,2,4,6] (fun i vs u=>(∀ j,j<i→((t.zones.getD j default).name.toList==s.toList)=false)∧vs=[eS s,.fptr (R5 t) 0,.optr 4 b4 0 0,eI i]∧u=upd st b4 ⟨103,4,1,fun _=>H1 C0O.zero⟩) ?_ ?_
 ·conv=>whnf
  exact ⟨fun j hj=>absurd hj (by omega),rfl,rfl⟩
 ·rintro i vs u hi ⟨hno,rfl,rfl⟩
  conv=>whnf
  cases h1:decide ((i:Int)<(t.zones.length:Int))
  ·obtain rfl:=C5 h1 hi
   have hf:Y7 t.zones s=none:=B0g hno
   conv=>whnf
   refine X1 (A0 ..) rfl ?_
   refine I1 (A0 ..) (A4 ..) ?_
   exact ⟨((E5.refl st).upd hb4).over hb4,.inr ⟨hf,rfl⟩⟩
  ·have hi':=D9 h1
   conv=>whnf
   refine E4 ?_
   refine B8 (fun h2=>?_) (fun h2=>?_)<;>rw [h2]
   ·have hf:Y7 t.zones s=some (t.zones.getD (i:Int).toNat default):=B0f (p:=fun z:K2=>z.name.toList==s.toList) hi' h2 hno
    conv=>whnf
    refine E4 ?_
    refine X1 (A0 ..) rfl ?_
    refine I1 (A0 ..) (A4 ..) ?_
    exact ⟨((E5.refl st).upd hb4).over hb4,.inl ⟨_,hf,rfl⟩⟩
   ·conv=>whnf
    refine F8 ?_
    exact nx hi' ⟨H4 hno h2,by rw [B3 (by omega)],rfl⟩
def IsF (n:Nat) (F:Nat→Bool) (y:L6):Prop:=∃ f,y=⟨4,1,n,f⟩∧∀ k,k<n→f k=eB (F k)
theorem IsF.set {n i:Nat} {F F':Nat→Bool} {f:Nat→AV} (h:∀ k,k<n→f k=eB (F k)) (h1:F' i=true) (h2:∀ k,k≠i→F' k=F k):IsF n F' ⟨4,1,n,H7 f i (eB true)⟩:=by
 refine ⟨_,rfl,fun k hk=>?_⟩
 by_cases e:k=i
 ·subst e;rw [A4,h1]
 ·rw [H3 e,h k hk,h2 k e]
def OD (bo bd:Nat) (L:List Int) (n:Nat) (F:Nat→Bool):St→St→Prop:=X4 bo (IsL L) (X4 bd (IsF n F) E5)
theorem A5z (bo bd:Nat) (L:List Int) (n:Nat) (F:Nat→Bool):K9 (OD bo bd L n F):=A0n (A0n J1)
section
variable {bo bd n:Nat} {L L':List Int} {F F':Nat→Bool} {s t:St} {y:L6}
theorem OD.setL (h:OD bo bd L n F s t) (hy:IsL L' y):OD bo bd L' n F s (upd t bo y):=X4.set (A0n J1) h hy
theorem OD.setD (h:OD bo bd L n F s t) (hy:IsF n F' y):OD bo bd L n F' s (upd t bd y):=X4.map h fun s h=>X4.set J1 h hy
theorem OD.atL (h:OD bo bd L n F s t):∃ y,IsL L y∧t bo=some y:=X4.at (A0n J1) h
theorem OD.atD (h:OD bo bd L n F s t):∃ y,IsF n F y∧t bd=some y:=by
 obtain ⟨_,y,_,h⟩:=h
 exact X4.at J1 h
theorem OD.congr (h:OD bo bd L n F s t) (hF:∀ k,k<n→F k=F' k):OD bo bd L n F' s t :=
 X4.map h fun s h=>X4.weak h fun y ⟨f,h1,h2⟩=>⟨f,h1,fun k hk=>by rw [h2 k hk,hF k hk]⟩
end
theorem C0b {t:Tax} {rates nets:List Int} {D:Int→Bool} {L:List Int} (h:B2R t rates nets D L) (hD:∀ i,i<nets.length→D (-(gI rates i))=true):L=G7 t rates nets:=by
 have hl:(G7 t rates nets).length=nets.length:=by unfold G7;rw [D5p,D5O]
 refine C2G (by rw [h.1,hl]) fun i h1=>?_
 have hi:i<nets.length:=by rw [←h.1];exact h1
 have h3:=h.2 i hi
 rw [if_pos (hD i hi)] at h3
 rw [h3]
 unfold G7 gI
 rw [D5l,D6j,D6P hi];rfl
def A7Q (rates:List Int) (k:Int) (m:Nat):Nat:=((List.range m).filter fun i=>-(gI rates i)==k).length
theorem C2u (rates:List Int) (k:Int) (m:Nat):A7Q rates k (m+1)=A7Q rates k m+(if (-(gI rates m)==k)=true then 1 else 0):=by
 unfold A7Q
 rw [D6L,D7h,D5x]
 congr 1
 by_cases h:(-(gI rates m)==k)=true
 ·rw [if_pos h,D6s (p:=fun i=>-(gI rates i)==k) h];rfl
 ·rw [if_neg h,D6x (p:=fun i=>-(gI rates i)==k) h];rfl
theorem C4U (rates:List Int) (k:Int):A7Q rates k rates.length=(K3 rates k).length:=rfl
theorem C7s {rates:List Int} {k:Int} {m:Nat} (hm:m≤rates.length):A7Q rates k m≤(K3 rates k).length:=by
 unfold A7Q K3
 exact (((List.range_sublist.2 hm).filter _).length_le)
theorem C7r {rates:List Int} {k:Int} {m:Nat} (hm:m<rates.length) (h:(-(gI rates m)==k)=true):A7Q rates k m<(K3 rates k).length∧gN (K3 rates k) (A7Q rates k m)=m:=by
 have hk : -(gI rates m)=k:=by simpa using h
 have hg:m∈K3 rates k:=D6o.2 ⟨D5B.2 hm,h⟩
 have e1:=A8d hm
 rw [(A0q hg).2.2] at e1
 have e2:A0s rates m=A7Q rates k m:=by
  unfold A0s A7Q
  congr 1
  refine List.filter_congr fun j _=>?_
  rw [D8r,D6k,D6k];omega
 rw [e2] at e1
 obtain ⟨e3,e4⟩:=D5D.1 e1
 refine ⟨e3,?_⟩
 show (((K3 rates k).getD (A7Q rates k m) 0:Nat):Int)=m
 rw [D5l,e1];rfl
set_option maxHeartbeats 8000000 in
theorem B6c (t:Tax) (rates nets:List Int) (hn:A4y nets) (hr:rates.length=nets.length) (hq:∀ x∈rates,0≤x∧x≤10000) (st:St) :
  S P 169 [R5 t,B0 rates,B0 nets] st fun v s=>∃ bo,v=.own 1 bo 0 nets.length∧st bo=none∧(∃ y,IsL (G7 t rates nets) y∧s bo=some y)∧E5 st s:=by
 have hnl:=hn.len
 have hns:=hn.sum
 have hol:(G7 t rates nets).length=nets.length:=by unfold G7;rw [D5p,D5O]
 refine F1 [3] Tryz.func169 ?_
 refine mkO rfl rfl rfl (by show 8 * nets.length≤_;omega) (by omega) (by rfl) (fun bo hbo=>?_);conv=>whnf
 refine mkO rfl rfl rfl (by show 1 * nets.length≤_;omega) (by omega) (by rfl) (fun bd hbd=>?_);conv=>whnf
 refine lp nets.length [1,2,3,7,8,9] (fun i vs u=>∃ (D:Int→Bool) (L:List Int),vs=[B0 rates,B0 nets,.fptr (R5 t) 0,.own 1 bo 0 nets.length,.own 1 bd 0 nets.length,eI i]∧B2R t rates nets D L∧(∀ j,j<i→D (-(gI rates j))=true)∧OD bo bd L nets.length (fun k=>D (-(gI rates k))) st u) ?_ ?_
 ·conv=>whnf
  exact ⟨fun _=>false,List.replicate nets.length 0,rfl,⟨D6u,fun i hi=>by
   rw [if_neg (by simp)];unfold gI
   rw [D5l,D7D];split<;>rfl⟩,fun j hj=>absurd hj (by omega),hbo,_,⟨fun _=>H1 r2.zero,by rw [D6u];rfl,fun i hi=>by
   unfold gI;rw [D5l,D7D];split<;>rfl⟩,hbd,_,⟨fun _=>H1 r4.zero,rfl,fun k hk=>rfl⟩,E5.refl _⟩
 rintro i vs u hi ⟨D,L,rfl,hdone,hall,hR⟩
 conv=>whnf
 cases h1:decide ((i:Int)<(nets.length:Int))
 case false =>
  obtain rfl:=C5 h1 hi
  have hL:=C0b hdone hall
  conv=>whnf
  obtain ⟨y,hy,hb⟩:=hR.atL
  have hsup:=(A5z ..).sup hR
  exact ⟨bo,rfl,hbo,⟨y,by rw [←hL];exact hy,hb⟩,hsup⟩
 have hi':=D9 h1
 obtain ⟨yd,⟨fd,rfl,hfd⟩,hbd2⟩:=hR.atD
 conv=>whnf
 refine E4 ?_
 refine ldV hbd2 rfl (by omega) (v:=eB (D (-(gI rates i)))) (by rw [show 0+((i:Nat):Int).toNat=i by omega];exact hfd i hi') ?_;conv=>whnf
 cases hD:D (-(gI rates i))
 case true =>
  conv=>whnf
  refine F8 ?_
  exact nx hi' ⟨D,L,by rw [B3 (by omega)],hdone,fun j hj=>by
   by_cases e:j=i
   ·rw [e];exact hD
   ·exact hall j (by omega),hR⟩
 clear hbd2 hfd
 obtain ⟨key,hkey⟩:∃ key,key = -(gI rates i):=⟨_,rfl⟩
 have hil:i<rates.length:=by omega
 have hrate:0≤gI rates i∧gI rates i≤10000:=hq (gI rates i) (A7 hil)
 have him:i∈K3 rates key:=D6o.2 ⟨D5B.2 hil,by rw [hkey];exact D7v _⟩
 have hnext:=B2S (k:=key) hdone hr
 have hcl:=fun m (hm:m≤rates.length)=>C7s (k:=key) hm
 have hca:=fun m (hm:m<rates.length) h=>C7r (k:=key) hm h
 have hcn:=C2u rates key
 have hce:=C4U rates key
 have hc0:A7Q rates key i=0:=by
  unfold A7Q
  rw [List.length_eq_zero_iff,List.filter_eq_nil_iff]
  intro j hj hk
  have hj:=D5B.1 hj
  have h2:=hall j hj
  rw [show -(gI rates j) = -(gI rates i) by rw [←hkey];simpa using hk,hD] at h2
  cases h2
 have hparts:(A2w t rates nets key).length=(K3 rates key).length∧(∀ st,S P 220 [eI (N5 t (A2 ((K3 rates key).map (gI nets))) (gI rates i)),B0 ((K3 rates key).map (gI nets))] st fun v st'=>v=.tuple [B0 (A2w t rates nets key),eI 0]∧st'=st):=by
  have hw:=A2M (t:=t) hn hr (i:=i) hrate
  have e:I7 rates nets i=(K3 rates key).map (gI nets):=by unfold I7;rw [(A0q him).2.2]
  rw [e] at hw
  have h3:=(R9 hw).2.1
  have e2:A2w t rates nets key=D1 (N5 t (A2 ((K3 rates key).map (gI nets))) (gI rates i)) ((K3 rates key).map (gI nets)):=by unfold A2w;rw [hkey,show - -(gI rates i)=gI rates i by omega]
  rw [e2]
  refine ⟨by rw [h3,D5p],fun st=>?_⟩
  exact A7v _ _ hw st
 have hGok:=fun j=>C6J (rates:=rates) (k:=key) (j:=j)
 have hsub:((K3 rates key).map (gI nets)).Sublist nets:=by
  have h1:((K3 rates key).map (gI nets)).Sublist ((List.range nets.length).map (gI nets)):=by
   refine List.Sublist.map _ ?_
   unfold K3;rw [hr];exact D7m
  rw [A5Z] at h1;exact h1
 have hw0:∀ v∈(K3 rates key).map (gI nets),0≤v:=fun v hv=>hn.pos v (hsub.subset hv)
 have hws:A2 ((K3 rates key).map (gI nets))≤10000000000000:=by have:=B1U hsub hn.pos;omega
 have hGl:(K3 rates key).length≤nets.length:=by have:=hsub.length_le;rwa [D5p] at this
 have hGp:0<(K3 rates key).length:=List.length_pos_of_mem him
 have hgm:∀ j,j<(K3 rates key).length→gI ((K3 rates key).map (gI nets)) j=gI nets (gN (K3 rates key) j).toNat:=fun j hj=>by
  show gI ((K3 rates key).map (gI nets)) j=gI nets ((((K3 rates key).getD j 0:Nat):Int)).toNat
  rw [D5y]
  unfold gI
  rw [D5l,D6j,D5l (l:=K3 rates key),D5s hj];rfl
 generalize K3 rates key=G at *
 generalize A2w t rates nets key=X at *
 generalize hCnt:A7Q rates key=cnt at *
 conv=>whnf
 refine lp (nets.length - i) [1,2,3,7,8,9,10,11,12] (fun j vs u=>∃ (lv wv:AV),vs=[B0 rates,B0 nets,.fptr (R5 t) 0,.own 1 bo 0 nets.length,.own 1 bd 0 nets.length,eI i,lv,wv,eI ((i+j:Nat):Int)]∧ROut (fun s t=>ROut (OD bo bd L nets.length (fun m=>D (-(gI rates m))||(decide (m<i+j)&&(-(gI rates m)==key)))) 3 1 (fun x=>eI (gN G x)) (cnt (i+j)) s lv t) 2 1 (fun x=>eI (gI (G.map (gI nets)) x)) (cnt (i+j)) st wv u) ?_ ?_
 ·conv=>whnf
  refine ⟨.emp,.emp,rfl,?_⟩
  rw [D7F,hc0]
  refine ROut.start (show ROut _ _ _ _ 0 st .emp u from ROut.start (show OD _ _ _ _ _ st u from hR.congr fun m hm=>?_) _ _ _) _ _ _
  by_cases e:m<i
  ·rw [hall m e,D6f]
  ·rw [D5t e,D5K,D6d]
 clear hR
 rintro j vs w hj ⟨lv,wv,rfl,hR⟩
 conv=>whnf
 cases h2:decide ((((i+j:Nat)):Int)<(nets.length:Int))
 case true =>
  have hj':i+j<nets.length:=by have:=D5o h2;omega
  have hcj:=hcn (i+j)
  conv=>whnf
  refine ⟨[],[],List.range 9,by kernel_rfl,?_⟩;conv=>whnf
  refine E4 ?_
  refine E4 ?_
  have hk3:(rates.getD (((i+j:Nat):Int)).toNat default==rates.getD ((i:Nat):Int).toNat default)=(-(gI rates (i+j))==key):=by
   rw [D5y,D5y,hkey,D8r,D6k,D6k]
   show gI rates (i+j)=gI rates i↔-(gI rates (i+j)) = -(gI rates i)
   omega
  rw [hk3]
  cases h3:(-(gI rates (i+j))==key)
  case false =>
   rw [h3,if_neg (by simp)] at hcj;conv=>whnf
   refine F8 ?_
   refine nx (n:=nets.length - i) (by omega) ⟨lv,wv,by rw [B3 (by omega)];rfl,?_⟩
   rw [show i+(j+1)=i+j+1 from rfl,hcj]
   refine ROut.map hR fun s h=>ROut.map h fun s h=>OD.congr h fun m hm=>?_
   by_cases e:m=i+j
   ·subst e;rw [h3,D5R,D5R]
   ·rw [show decide (m<i+j+1)=decide (m<i+j) from D7a.2 (by omega)]
  rw [h3,if_pos rfl] at hcj
  obtain ⟨hc1,hc2⟩:=hca (i+j) (by omega) h3
  obtain ⟨s0,hw0,s1,hl0,hOD⟩:=hR
  obtain ⟨yd,⟨fd,rfl,hfd⟩,hbd2⟩:=hOD.atD
  conv=>whnf
  refine E4 ?_
  refine stU hbd2 (hfd (0+((i+j:Nat):Int).toNat) (by omega)) ?_
  have hOD2:OD bo bd L nets.length (fun m=>D (-(gI rates m))||(decide (m<i+j+1)&&(-(gI rates m)==key))) s1 _:=hOD.setD (IsF.set (i:=0+((i+j:Nat):Int).toNat) hfd (by rw [show 0+((i+j:Nat):Int).toNat=i+j by omega,h3,D5U (by omega),D6g,D6c]) (fun k hk=>by
   rw [show decide (k<i+j+1)=decide (k<i+j) from D7a.2 (by omega)]))
  have hB1:=A5z bo bd L nets.length (fun m=>D (-(gI rates m))||(decide (m<i+j+1)&&(-(gI rates m)==key)))
  have hin:ROut (OD bo bd L nets.length (fun m=>D (-(gI rates m))||(decide (m<i+j+1)&&(-(gI rates m)==key)))) 3 1 (fun x=>eI (gN G x)) (cnt (i+j)) s0 lv _:=⟨s1,hl0,hOD2⟩
  have hout:ROut (fun s t=>ROut (OD bo bd L nets.length (fun m=>D (-(gI rates m))||(decide (m<i+j+1)&&(-(gI rates m)==key)))) 3 1 (fun x=>eI (gN G x)) (cnt (i+j)) s lv t) 2 1 (fun x=>eI (gI (G.map (gI nets)) x)) (cnt (i+j)) st wv _:=⟨s0,hw0,hin⟩
  have hwv:=ROut.head hout
  have hlv:=ROut.head hin
  have hgc:=hgm _ hc1
  rw [hc2] at hgc
  have hcl2:=hcl (i+j) (by omega)
  rcases hlv with rfl | ⟨bl,rfl⟩<;>rcases hwv with rfl | ⟨bw,rfl⟩
  all_goals
   conv=>whnf
   refine ⟨[2,3,8,9,10],[],[],.qui 0 (.qui 1 (.qui 4 (.qui 5 (.qui 6 (.qui 7 (.two 2 8 (.two 3 8 (.gen 8 (.gen 9 (.gen 10 (.qui 11 (.qui 12 .done))))) (.two 3 9 (.gen 9 (.gen 10 (.qui 11 (.qui 12 .done)))) (.gen 3 (.gen 10 (.qui 11 (.qui 12 .done)))))) (.two 2 9 (.two 3 9 (.gen 9 (.gen 10 (.qui 11 (.qui 12 .done)))) (.gen 3 (.gen 10 (.qui 11 (.qui 12 .done))))) (.gen 2 (.gen 3 (.gen 10 (.qui 11 (.qui 12 .done)))))))))))),by kernel_rfl,?_⟩;conv=>whnf
   refine E4 ?_
   repeat' (refine And.intro ?_ ?_<;>(conv=>whnf))
   all_goals
    refine ROut.app (q:=r3) hB1 rfl rfl rfl rfl rfl (f:=fun x=>eI (gN G x)) (by show _=eI _;rw [hc2];rfl) (by show (cnt (i+j)+1) * 8≤140737488355328;omega) hin (fun lv' w2 hin2=>?_)
    have hout2:ROut (fun s t=>ROut (OD bo bd L nets.length (fun m=>D (-(gI rates m))||(decide (m<i+j+1)&&(-(gI rates m)==key)))) 3 1 (fun x=>eI (gN G x)) (cnt (i+j)+1) s lv' t) 2 1 (fun x=>eI (gI (G.map (gI nets)) x)) (cnt (i+j)) st _ w2:=⟨s0,hw0,hin2⟩
    conv=>whnf
    refine ROut.app (q:=r2) (T7 hB1 _ _ _ _ _) rfl rfl rfl rfl rfl (f:=fun x=>eI (gI (G.map (gI nets)) x)) (by show _=eI _;rw [hgc];rfl) (by show (cnt (i+j)+1) * 8≤140737488355328;omega) hout2 (fun wv' w3 hout3=>?_);conv=>whnf
    refine F8 ?_
    refine nx (n:=nets.length - i) (by omega) ⟨lv',wv',by rw [B3 (by omega)];rfl,?_⟩
    rw [show i+(j+1)=i+j+1 from rfl,hcj]
    exact hout3
 have hije:i+j=rates.length:=by have:=D5q h2;omega
 rw [hije,hce] at hR
 obtain ⟨w2,hsh,hR2⟩:=ROut.shift (T7 (A5z ..) _ _ _ _ _) hR
 have e0:AV.arr 1 G.length (fun x=>eI (gI (G.map (gI nets)) x))=B0 (G.map (gI nets)):=by unfold B0 A6;rw [D5p]
 rw [e0] at hsh
 have hsm:S P 118 [wv] w fun v s=>v=eI (A2 (G.map (gI nets)))∧s=w :=
  S.lends (A9k (G.map (gI nets)) (by rw [D5p];omega) hw0 (by omega) st0) (hsh.trans ((C6n _).shift _)) fun v hv=>⟨_,rfl,by rw [hv];exact So.int _ _⟩
 have hpt:=fun s=>B4r t (A2 (G.map (gI nets))) (gI rates i) hrate s
 generalize A2 (G.map (gI nets))=W at hsm hpt hparts
 generalize N5 t W (gI rates i)=M at hpt hparts
 obtain ⟨bw,rfl⟩:∃ b,wv=.own 1 b 0 G.length:=by
  rcases ROut.head hR with rfl | h
  ·obtain ⟨s0,⟨h0,_⟩ | ⟨_,b,_,_,h1,_⟩,_⟩:=hR
   ·omega
   ·cases h1
  ·exact h
 conv=>whnf
 refine ⟨[9],[],List.range 15,by kernel_rfl,?_⟩;conv=>whnf
 refine cqW hsm ?_
 refine E4 ?_
 refine cqW (hpt _) ?_
 refine F4 (args':=[eI M,B0 (G.map (gI nets))]) (A8.cons (A8.keep _ _) hsh) (B4 (hparts.2 _) ?_);conv=>whnf
 obtain ⟨bl,rfl⟩:∃ b,lv=.own 1 b 0 G.length:=by
  rcases ROut.head hR2 with rfl | h
  ·obtain ⟨s0,⟨h0,_⟩ | ⟨_,b,_,_,h1,_⟩,_⟩:=hR2
   ·omega
   ·cases h1
  ·exact h
 refine lp G.length [1,2,3,7,8,9,10,13,15] (fun j vs u=>vs=[B0 rates,B0 nets,.fptr (R5 t) 0,.own 1 bo 0 nets.length,.own 1 bd 0 nets.length,eI i,.own 1 bl 0 G.length,B0 X,eI j]∧ROut (OD bo bd (A4l L G X j) nets.length (fun m=>D (-(gI rates m))||(decide (m<rates.length)&&(-(gI rates m)==key)))) 3 1 (fun x=>eI (gN G x)) G.length st (.own 1 bl 0 G.length) u) ?_ ?_
 ·conv=>whnf
  exact ⟨rfl,hR2⟩
 clear hR hR2 hsm hsh
 rintro j vs v hjx ⟨rfl,hR3⟩
 have hPl:=A8m L G X j
 have hdl:=hdone.1
 have hXl:=hparts.1
 conv=>whnf
 cases h5:decide ((j:Int)<(G.length:Int))
 case true =>
  have hj5:=D9 h5
  have hGj:=hGok j (by omega)
  obtain ⟨s0,hcl,hOD⟩:=hR3
  obtain ⟨g,hb3,h4⟩:∃ g,v bl=some ⟨3,1,G.length,g⟩∧∀ k,k<G.length→g k=eI (gN G k):=by
   rcases hcl with ⟨h0,_⟩ | ⟨_,b,g,h3,h4,h5,h6⟩
   ·omega
   ·injection h4 with _ h4 _ _
    subst h4
    exact ⟨g,(A5z ..).sup hOD bl _ (by rw [h5];exact A0 ..),h6⟩
  obtain ⟨yo,⟨fo,rfl,hfo⟩,hbo3⟩:=hOD.atL
  conv=>whnf
  refine ⟨[10],[],List.range 11,by kernel_rfl,?_⟩;conv=>whnf
  refine E4 ?_
  refine ldV hb3 rfl (by show 0+((j:Nat):Int).toNat<G.length;omega) (v:=eI (gN G j)) (by show g (0+((j:Nat):Int).toNat)=_;rw [show 0+((j:Nat):Int).toNat=j by omega];exact h4 j (by omega)) ?_;conv=>whnf
  refine E4 ?_
  refine E4 ?_
  refine stV hbo3 rfl (by show 0+(gN G j).toNat<(A4l L G X j).length;omega) (hfo (0+(gN G j).toNat) (by omega)) (by rfl) ?_;conv=>whnf
  refine F8 ?_
  have hset:IsL (A4l L G X (j+1)) ⟨2,1,(A4l L G X j).length,H7 fo (0+(gN G j).toNat) (eI (gI X (j:Int).toNat))⟩:=by
   have:=IsL.set (i:=(gN G j).toNat) (v:=gI X j) hfo
   rw [show 0+(gN G j).toNat=(gN G j).toNat by omega,show (j:Int).toNat=j by omega]
   exact this
  exact nx hj5 ⟨by rw [B3 (by omega)],⟨_,hcl,hOD.setL hset⟩⟩
 obtain rfl:=C5 h5 hjx
 have hfin:=ROut.dropped (A5z ..) hR3
 conv=>whnf
 refine F8 ?_
 refine nx hi' ⟨fun y=>D y||y==key,A4l L G X G.length,by rw [B3 (by omega)],hnext,fun j hj=>?_,hfin.congr fun m hm=>?_⟩
 ·show (D (-(gI rates j))||(-(gI rates j)==key))=true
  by_cases e:j=i
  ·subst e;rw [hkey,D7v,D6c]
  ·rw [hall j (by omega),D6f]
 ·rw [D5U (by omega),D5C]
end Go.Proofs.YtaapofnkmpiknaaGreat
namespace Go.Ab
open Go
inductive At {α : Type}:List α→Nat→α→Prop
 | z {a : α} {l:List α}:At (a::l) 0 a
 | s {a b : α} {l:List α} {n:Nat} (h:At l n a):At (b::l) (n+1) a
def Has (s:St) (b:Nat) (y:L6):Prop:=∃ g,s b=some ⟨y.ty,y.e,y.n,g⟩∧∀ k,k<y.n→g k=y.f k
def H5 (st:St):List (Nat×L6)→St→Prop
 | [],s=>E5 st s
 | x::L,s=>(x.2.n=0∨(st x.1=none∧Has s x.1 x.2∧∀ j p,At L j p→p.2.n=0∨p.1≠x.1))∧H5 st L s
theorem H5.sup {st:St}:∀ {L:List (Nat×L6)} {s:St},H5 st L s→E5 st s
 | [],_,h=>h
 | _::_,_,h=>H5.sup h.2
theorem H5.get {st s:St}:∀ {L:List (Nat×L6)} {j:Nat} {p:Nat×L6},H5 st L s→At L j p→p.2.n=0∨(st p.1=none∧Has s p.1 p.2)
 | _,_,_,h,.z=>h.1.imp id fun h=>⟨h.1,h.2.1⟩
 | _,_,_,h,.s k=>H5.get h.2 k
theorem H5.other {st s:St} {L:List (Nat×L6)} (h:H5 st L s) {b:Nat} (hb:s b=none) (j:Nat) (p:Nat×L6) (hp:At L j p):p.2.n=0∨p.1≠b :=
 (h.get hp).imp id fun ⟨_,g,hg,_⟩ e=>by subst e;rw [hb] at hg;cases hg
theorem H5.frame {st s s':St}:∀ {L:List (Nat×L6)},H5 st L s→E5 st s'→(∀ j p,At L j p→p.2.n=0∨s' p.1=s p.1)→H5 st L s'
 | [],_,hs,_=>hs
 | x::L,h,hs,hf=>⟨h.1.elim .inl fun ⟨h1,⟨g,h2,h3⟩,h4⟩=>(hf 0 x .z).imp id fun e=>⟨h1,⟨g,e.trans h2,h3⟩,h4⟩,H5.frame h.2 hs fun j p hp=>hf (j+1) p (.s hp)⟩
theorem H5.new {st s:St} {L:List (Nat×L6)} (h:H5 st L s) {b:Nat} (hb:s b=none) (y:L6):H5 st ((b,y)::L) (upd s b y) :=
 ⟨.inr ⟨h.sup.none hb,⟨y.f,A0 ..,fun _ _=>rfl⟩,h.other hb⟩,h.frame (h.sup.upd hb) fun j p hp=>(h.other hb j p hp).imp id A9⟩
theorem H5.new' {st s s':St} {L:List (Nat×L6)} {b:Nat} {y:L6} (hs:upd s b y=s') (h:H5 st L s) (hb:s b=none):H5 st ((b,y)::L) s':=hs▸h.new hb y
theorem H5.soft {st s:St} {L:List (Nat×L6)} (h:H5 st L s) (b ty e:Nat) (f:Nat→AV):H5 st ((b,⟨ty,e,0,f⟩)::L) s:=⟨.inl rfl,h⟩
theorem At.of_set {α : Type}:∀ {L:List α} {j i:Nat} {p q : α},At (L.set j q) i p→p=q∨∃ i,At L i p
 | _::_,0,_,_,_,.z=>.inl rfl
 | _::_,0,_,_,_,.s k=>.inr ⟨_,.s k⟩
 | _::_,_+1,_,_,_,.z=>.inr ⟨_,.z⟩
 | _::_,_+1,_,_,_,.s k=>(At.of_set k).imp id fun ⟨_,h⟩=>⟨_,.s h⟩
theorem H5.chg {st s s':St} {b b':Nat} {y y':L6} (hS:E5 st s') (hst:st b'=none) (hH:Has s' b' y') (ho:∀ c x,(y.n=0∨c≠b)→s c=some x→s' c=some x∧c≠b') :
  ∀ {L:List (Nat×L6)} {j:Nat},H5 st L s→At L j (b,y)→H5 st (L.set j (b',y')) s'
 | _::L,_,h,.z=>by
  have ho':∀ j p,At L j p→p.2.n=0∨(s' p.1=s p.1∧p.1≠b'):=fun j p hp=>by
   rcases h.2.get hp with h0 | ⟨_,g,hg,_⟩
   ·exact .inl h0
   ·rcases h.1 with h1 | h1
    ·obtain ⟨e1,e2⟩:=ho _ _ (.inl h1) hg
     exact .inr ⟨e1.trans hg.symm,e2⟩
    ·rcases h1.2.2 j p hp with h0 | h0
     ·exact .inl h0
     ·obtain ⟨e1,e2⟩:=ho _ _ (.inr h0) hg
      exact .inr ⟨e1.trans hg.symm,e2⟩
  exact ⟨.inr ⟨hst,hH,fun j p hp=>(ho' j p hp).imp id And.right⟩,h.2.frame hS fun j p hp=>(ho' j p hp).imp id And.left⟩
 | x::L,_,h,.s k=>by
  refine ⟨?_,H5.chg hS hst hH ho h.2 k⟩
  rcases h.1 with h0 | ⟨h1,⟨g,h2,h3⟩,h4⟩
  ·exact .inl h0
  ·obtain ⟨e1,e2⟩:=ho _ _ ((h4 _ _ k).imp id Ne.symm) h2
   refine .inr ⟨h1,⟨g,e1,h3⟩,fun j p hp=>?_⟩
   rcases At.of_set hp with rfl | ⟨i,hi⟩
   ·exact .inr (Ne.symm e2)
   ·exact h4 i p hi
theorem H5.put {st s:St} {L:List (Nat×L6)} {j b:Nat} {y y':L6} (h:H5 st L s) (k:At L j (b,y)) (hn:0<y.n) {g:Nat→AV} (hg:∀ k,k<y'.n→g k=y'.f k):H5 st (L.set j (b,y')) (upd s b ⟨y'.ty,y'.e,y'.n,g⟩):=by
 have h1:=((h.get k).resolve_left (by show ¬ y.n=0;omega)).1
 exact H5.chg (h.sup.over h1) h1 ⟨g,A0 ..,hg⟩ (fun c x hc hx=>by
  have hc:=hc.resolve_left (by omega)
  exact ⟨(A9 hc).trans hx,hc⟩) h k
theorem At.of_erase {α : Type}:∀ {L:List α} {j i:Nat} {p : α},At (L.eraseIdx j) i p→∃ i,At L i p
 | _::_,0,_,_,k=>⟨_,.s k⟩
 | _::_,_+1,_,_,.z=>⟨_,.z⟩
 | _::_,_+1,_,_,.s k=>let ⟨_,h⟩:=At.of_erase k;⟨_,.s h⟩
theorem H5.drop {st s:St}:∀ {L:List (Nat×L6)} (j:Nat),H5 st L s→H5 st (L.eraseIdx j) s
 | [],_,h=>h
 | _::_,0,h=>h.2
 | _::_,j+1,h=>⟨h.1.imp id fun h=>⟨h.1,h.2.1,fun i p hp=>let ⟨_,hq⟩:=At.of_erase hp;h.2.2 _ p hq⟩,H5.drop j h.2⟩
theorem H5.apart {st s:St} {b:Nat} {y:L6} (hn:0<y.n):∀ {L:List (Nat×L6)} {j:Nat},H5 st L s→At L j (b,y)→∀ i p,At (L.eraseIdx j) i p→p.2.n=0∨p.1≠b
 | _::_,_,h,.z,i,p,hp=>(h.1.resolve_left (by show ¬ y.n=0;omega)).2.2 i p hp
 | _::_,_,h,.s k,_,_,.z=>h.1.imp id fun h=>((h.2.2 _ _ k).resolve_left (by show ¬ y.n=0;omega)).symm
 | _::_,_,h,.s k,_,_,.s hp=>H5.apart hn h.2 k _ _ hp
theorem H5.zero {st s:St} {b b':Nat} {y y':L6} (hy:y'.n=0):∀ {L:List (Nat×L6)} {j:Nat},H5 st L s→At L j (b,y)→H5 st (L.set j (b',y')) s
 | _::_,_,h,.z=>⟨.inl hy,h.2⟩
 | _::_,_,h,.s k=>⟨h.1.imp id fun h=>⟨h.1,h.2.1,fun i p hp=>by
   rcases At.of_set hp with rfl | ⟨i,hi⟩
   ·exact .inl hy
   ·exact h.2.2 i p hi⟩,H5.zero hy h.2 k⟩
theorem H5.as {st s:St} {L:List (Nat×L6)} {j b ty e n:Nat} {f:Nat→AV} (f':Nat→AV) (h:H5 st L s) (k:At L j (b,⟨ty,e,n,f⟩)) (hf:∀ k,k<n→f k=f' k):H5 st (L.set j (b,⟨ty,e,n,f'⟩)) s:=by
 rcases D6N n with h0 | h0
 ·exact H5.zero h0 h k
 ·obtain ⟨h1,g,hg,hh⟩:=(h.get k).resolve_left (by show ¬ n=0;omega)
  have:=h.put (y':=⟨ty,e,n,f'⟩) k h0 (g:=g) fun i hi=>(hh i hi).trans (hf i hi)
  rwa [upd_self' hg] at this
where
 upd_self' {st:St} {a:Nat} {x:L6} (h:st a=some x):upd st a x=st:=funext fun c=>by
  unfold upd;split
  ·rename_i e;subst e;exact h.symm
  ·rfl
def OV (e b n:Nat) (v:AV):Prop:=(n=0∧v=.emp)∨(0<n∧v=.own e b 0 n)
theorem OV.nil (e b:Nat):OV e b 0 .emp:=.inl ⟨rfl,rfl⟩
theorem OV.one {e b n:Nat} {v:AV} (h:OV e b n v):v.one=true:=by rcases h with ⟨_,rfl⟩ | ⟨_,rfl⟩<;>rfl
theorem OV.own {e b n:Nat} {v:AV} (h:OV e b n v) (hn:0<n):v=.own e b 0 n:=h.elim (fun h=>by omega) And.right
theorem own0 {rd:Addr→Option Value} {sz:Nat→Nat} {e b off:Nat} {c:Value} (f:Nat→AV) (h:Rep rd sz (.own e b off 0) c):Rep rd sz (.arr e 0 f) c:=by
 cases h with
 | own e b off n c hc hs=>exact .arr e 0 f _ c (fun _ _=>undef) (D5L _) (fun h=>absurd h (by omega)) (fun i hi=>absurd hi (by omega)) (fun i hi=>absurd hi (by omega)) (fun _ _ i j hi=>absurd hi (by omega)) (fun i j y hi=>absurd hi (by omega))
theorem H5.frzO {st s:St} {L:List (Nat×L6)} {j b ty e n:Nat} {f:Nat→AV} (h:H5 st L s) (k:At L j (b,⟨ty,e,n,f⟩)):∃ s',H5 st (L.eraseIdx j) s'∧A8 [.own e b 0 n] s [.arr e n f] s':=by
 rcases D6N n with h0 | h0
 ·subst h0
  exact ⟨s,h.drop j,Le.shift (fun rd sz c hr=>own0 f hr) s⟩
 ·obtain ⟨h1,g,hg,hh⟩:=(h.get k).resolve_left (by show ¬ n=0;omega)
  refine ⟨del s b,(h.drop j).frame (h.sup.del h1) fun i p hp=>(h.apart h0 k i p hp).imp id fun hne=>?_,N4 hg rfl (D5u _) hh⟩
  unfold del;rw [if_neg hne]
theorem H5.frz {st s:St} {L:List (Nat×L6)} {j b ty e n:Nat} {f:Nat→AV} {v:AV} (h:H5 st L s) (k:At L j (b,⟨ty,e,n,f⟩)) (hv:OV e b n v):∃ s',H5 st (L.eraseIdx j) s'∧A8 [v] s [.arr e n f] s':=by
 rcases hv with ⟨rfl,rfl⟩ | ⟨hn,rfl⟩
 ·exact ⟨s,h.drop j,H9 e f⟩
 ·exact h.frzO k
def LV (e b n:Nat) (v:AV):Prop:=(n=0∧(v=.emp∨v=.own e b 0 0))∨(0<n∧v=.own e b 0 n)
theorem LV.own {e b n:Nat} {v:AV} (h:LV e b n v) (hn:0<n):v=.own e b 0 n:=h.elim (fun h=>by omega) And.right
theorem LV.one {e b n:Nat} {v:AV} (h:LV e b n v):v.one=true:=by rcases h with ⟨_,rfl | rfl⟩ | ⟨_,rfl⟩<;>rfl
theorem LV.of (e b n:Nat):LV e b n (.own e b 0 n):=by
 rcases D6N n with rfl | h
 ·exact .inl ⟨rfl,.inr rfl⟩
 ·exact .inr ⟨h,rfl⟩
theorem OV.lv {e b n:Nat} {v:AV} (h:OV e b n v):LV e b n v:=h.imp (fun h=>⟨h.1,.inl h.2⟩) id
theorem H5.frzL {st s:St} {L:List (Nat×L6)} {j b ty e n:Nat} {f:Nat→AV} {v:AV} (h:H5 st L s) (k:At L j (b,⟨ty,e,n,f⟩)) (hv:LV e b n v):∃ s',H5 st (L.eraseIdx j) s'∧A8 [v] s [.arr e n f] s':=by
 rcases hv with ⟨rfl,rfl | rfl⟩ | ⟨hn,rfl⟩
 ·exact ⟨s,h.drop j,H9 e f⟩
 ·exact h.frzO k
 ·exact h.frzO k
theorem H5.fin {st s:St} {L:List (Nat×L6)} (h:H5 st L s) (vs:List AV):A8 vs s vs st:=h.sup.shift vs
def setL:List (Nat×L6)→Nat→Nat×L6→(List (Nat×L6)→Prop)→Prop
 | [],_,_,k=>k []
 | _::l,0,x,k=>k (x::l)
 | a::l,n+1,x,k=>setL l n x fun l'=>k (a::l')
theorem B0m:∀ (l:List (Nat×L6)) (n:Nat) (x:Nat×L6) (k:List (Nat×L6)→Prop),setL l n x k=k (l.set n x)
 | [],_,_,_=>rfl
 | _::_,0,_,_=>rfl
 | _::l,n+1,x,_=>B0m l n x _
def C3t (v:AV) (o:Nat) (us:List AV) (k:AV→Prop):Prop :=
 match v with
 | .agg cs=>(match Nat.ble (o+us.length) cs.length with | true=>A6L cs o us fun r=>k (.agg r) | false=>False)
 | _=>(match us with | []=>False | u::_=>k u)
theorem B9n {v:AV} {o:Nat} {us:List AV} {k:AV→Prop} (h:C3t v o us k):k (P3 v o us):=by
 unfold C3t at h
 split at h
 ·split at h
  ·rename_i hb
   rw [A7x _ _ _ _ (by simpa using hb)] at h;exact h
  ·exact h.elim
 ·rename_i hv
  split at h
  ·exact h.elim
  ·unfold P3
   split
   ·rename_i ds;exact absurd rfl (hv ds)
   ·exact h
theorem H5.has1 {st s:St} {L:List (Nat×L6)} {j b ty e:Nat} {f:Nat→AV} (h:H5 st L s) (hj:At L j (b,⟨ty,e,1,f⟩)):Has s b ⟨ty,e,1,f⟩:=((h.get hj).resolve_left (by show ¬ 1=0;omega)).2
theorem C7P {T:G5} {t:TypeId} {e b i o ty n j:Nat} {st s:St} {L:List (Nat×L6)} {k:KK} {r:C3} {f:Nat→AV} {v:AV} (h:H5 st L s) (hj:At L j (b,⟨ty,e,n,f⟩)) (hr:T t=some r) (hi:i<n) (hv:f i=v)
  (hk:A8B r (cellsOf v) o (fun y=>k y s)):C1G T t e b i o s k:=by
 obtain ⟨_,g,hg,hh⟩:=(h.get hj).resolve_left (by show ¬ n=0;omega)
 exact ldV hg hr hi ((hh i hi).trans hv) hk
theorem D2F {T:G5} {t:TypeId} {e b i o ty n j:Nat} {st s:St} {L:List (Nat×L6)} {k:KK} {r:C3} {f:Nat→AV} {u v:AV} (h:H5 st L s) (hj:At L j (b,⟨ty,e,n,f⟩)) (hr:T t=some r) (hi:i<n) (hv:f i=v)
  (hc:(Nat.blt 0 r.size&&Nat.beq (cellsOf u).length r.size&&(cellsOf u).all AV.one&&Nat.ble (o+r.size) e)=true)
  (hk:C3t v o (cellsOf u) fun w=>setL L j (b,⟨ty,e,n,H7 f i w⟩) fun L'=>∀ s',H5 st L' s'→k (.tuple []) s'):B4O T t e b i o u s k:=by
 obtain ⟨_,g,hg,hh⟩:=(h.get hj).resolve_left (by show ¬ n=0;omega)
 have hk:=B9n hk
 rw [B0m] at hk
 refine stV hg hr hi ((hh i hi).trans hv) hc (hk _ (h.put (y':=⟨ty,e,n,H7 f i _⟩) hj (by show 0<n;omega) fun m hm=>?_))
 by_cases hm':m=i
 ·subst hm';rw [A4];exact (A4 ..).symm
 ·rw [H3 hm',hh m hm];exact (H3 hm').symm
theorem A9C {T:G5} {t:TypeId} {e b o ty j:Nat} {st s:St} {L:List (Nat×L6)} {k:KK} {r:C3} {f:Nat→AV} {u v:AV} (h:H5 st L s) (hj:At L j (b,⟨ty,e,1,f⟩)) (hr:T t=some r) (hv:f 0=v)
  (hc:(Nat.blt 0 r.size&&Nat.beq (cellsOf u).length r.size&&(cellsOf u).all AV.one&&Nat.ble (o+r.size) e)=true)
  (hk:C3t v o (cellsOf u) fun w=>setL L j (b,⟨ty,e,1,fun _=>w⟩) fun L'=>∀ s',H5 st L' s'→k (.tuple []) s'):B4O T t e b 0 o u s k:=by
 obtain ⟨_,g,hg,hh⟩:=(h.get hj).resolve_left (by show ¬ 1=0;omega)
 have hk:=B9n hk
 rw [B0m] at hk
 refine stV hg hr (by show 0<1;omega) ((hh 0 (by show 0<1;omega)).trans hv) hc (hk _ (h.put (y':=⟨ty,e,1,fun _=>_⟩) hj (by show 0<1;omega) fun m hm=>?_))
 obtain rfl:m=0:=by have:m<1:=hm;omega
 exact A4 ..
theorem A4S {u:AV} (hu:u.one=true):cellsOf u=[u]:=by cases u<;>first | rfl | cases hu
theorem B9l {u:AV} (hu:u.one=true):[u].all AV.one=true:=by simp [hu]
theorem C5G {u:AV} (hu:u.one=true) {r:C3} {o e:Nat} (h1:r.size=1) (ho:o+1≤e):(Nat.blt 0 r.size&&Nat.beq (cellsOf u).length r.size&&(cellsOf u).all AV.one&&Nat.ble (o+r.size) e)=true:=by
 rw [A4S hu,h1]
 simp [hu,ho,Nat.blt]
theorem D2G {T:G5} {t:TypeId} {e b o ty j:Nat} {st s:St} {L:List (Nat×L6)} {k:KK} {r:C3} {f:Nat→AV} {u v:AV} (h:H5 st L s) (hj:At L j (b,⟨ty,e,1,f⟩)) (hr:T t=some r) (hv:f 0=v) (h1:r.size=1) (hu:u.one=true) (ho:o+1≤e)
  (hk:C3t v o [u] fun w=>setL L j (b,⟨ty,e,1,fun _=>w⟩) fun L'=>∀ s',H5 st L' s'→k (.tuple []) s'):B4O T t e b 0 o u s k :=
 A9C h hj hr hv (C5G hu h1 ho) (by rw [A4S hu];exact hk)
theorem C5L {T:G5} {t:TypeId} {st s:St} {L:List (Nat×L6)} {k:KK} {r q:C3} {el e j b n m:Nat} {f g f':Nat→AV} {sv x:AV} (h:H5 st L s) (hv:OV e b n sv) (hj:At L j (b,⟨el,e,n,f⟩)) (hr:T t=some r) (hd:r.desc=.slice el) (hq:T el=some q) (he:q.size=e)
  (hz:(Nat.blt 0 q.size&&Nat.blt 0 q.bytes&&Nat.beq q.zero.cells.size q.size)=true) (hs:Z5 e s x=some (m,g)) (hb:(n+m) * q.bytes≤140737488355328) (hf:∀ k,k<n+m→(if k<n then f k else g (k - n))=f' k)
  (hk:∀ sv' b',OV e b' (n+m) sv'→setL L j (b',⟨el,e,n+m,f'⟩) fun L'=>∀ s',H5 st L' s'→k sv' s'):A5p T t sv x s k:=by
 subst he
 have hk:∀ sv' b' s',OV q.size b' (n+m) sv'→H5 st (L.set j (b',⟨el,q.size,n+m,f'⟩)) s'→k sv' s':=fun sv' b' s' h1 h2=>by have:=hk sv' b' h1;rw [B0m] at this;exact this s' h2
 have h0:m=0→k sv s:=fun hm=>by
  subst hm
  exact hk sv b s hv (h.as f' hj fun i hi=>by have:=hf i hi;rwa [if_pos (show i<n from hi)] at this)
 rcases hv with ⟨rfl,rfl⟩ | ⟨hn,rfl⟩
 ·refine apE hr hd hq hz hs (by simpa using hb) h0 fun hm b' hb'=>?_
  refine hk _ b' _ (.inr ⟨by omega,by rw [D5A]⟩) (H5.chg (h.sup.upd hb') (h.sup.none hb') ⟨g,by rw [A0,D5A],fun i hi=>?_⟩ (fun c z _ hc=>?_) h hj)
  ·have:=hf i hi;rw [if_neg (by omega)] at this;simpa using this
  ·have hne:c≠b':=fun e=>by subst e;rw [hb'] at hc;cases hc
   exact ⟨(A9 hne).trans hc,hne⟩
 ·obtain ⟨hst,y,hy,hh⟩:=(h.get hj).resolve_left (by show ¬ n=0;omega)
  refine apO hr hd hq hz hs hy rfl rfl rfl hb h0 fun hm b' hb'=>?_
  have hst':st b'=none:=hb'.elim (fun e=>e▸hst) h.sup.none
  refine hk _ b' _ (.inr ⟨by omega,rfl⟩) (H5.chg ((h.sup.del hst).over hst') hst' ⟨_,A0 ..,fun i hi=>?_⟩ (fun c z hc hcz=>?_) h hj)
  ·show (if i<n then y i else _)=f' i
   rw [←hf i hi]
   split
   ·rename_i hin;exact hh i hin
   ·rfl
  ·have hcb:c≠b:=hc.resolve_left (by show ¬ n=0;omega)
   have hne:c≠b':=fun e=>by
    subst e
    rcases hb' with e | e
    ·exact hcb e
    ·rw [e] at hcz;cases hcz
   exact ⟨(A9 hne).trans (by unfold del;rw [if_neg hcb];exact hcz),hne⟩
theorem D2E {T:G5} {t:TypeId} {kk kk':IntKind} {n:Nat} {st s:St} {L:List (Nat×L6)} {k:KK} {r q:C3} {el e:Nat} (h:H5 st L s) (hr:T t=some r) (hd:r.desc=.slice el) (hq:T el=some q) (he:q.size=e)
  (hb:q.bytes * n≤281474976710656) (hn:n≤281474976710656) (hz:(Nat.beq q.zero.cells.size q.size&&(cellsOf (H1 q.zero)).all AV.one)=true)
  (hk:∀ b s',H5 st ((b,⟨el,e,n,fun _=>H1 q.zero⟩)::L) s'→k (.own e b 0 n) s'):xMk T t (.int kk (n:Int)) (.int kk' (n:Int)) s k:=by
 subst he
 exact mkO hr hd hq hb hn hz fun b hb'=>hk b _ (h.new hb' _)
theorem H5.up {st s s':St} {L:List (Nat×L6)} (h:H5 st L s) (hS:E5 s s'):H5 st L s':=h.frame (h.sup.trans hS) fun j p hp=>(h.get hp).imp id fun ⟨_,g,hg,_⟩=>(hS _ _ hg).trans hg.symm
theorem H5.got {st s s':St} {L:List (Nat×L6)} {b:Nat} {y:L6} (h:H5 st L s) (hb:s b=none) (hS:E5 s s') (hH:Has s' b y):H5 st ((b,y)::L) s':=⟨.inr ⟨h.sup.none hb,hH,h.other hb⟩,h.up hS⟩
theorem C5M (st:St):H5 st [] st:=E5.refl st
theorem H5.has {st s:St} {L:List (Nat×L6)} {j b:Nat} {y:L6} (h:H5 st L s) (hj:At L j (b,y)) (hn:0<y.n):Has s b y:=((h.get hj).resolve_left (by show ¬ y.n=0;omega)).2
theorem quT {v:AV} {s:St} {Q:AV→St→Prop} {K:AV→(St→Prop)→Prop} (hQ:∀ s',Q v s') (hk:K v fun _=>True):∃ (v:AV) (C:St→Prop),C s∧(∀ s',C s'→Q v s')∧K v C:=⟨v,_,trivial,fun s' _=>hQ s',hk⟩
theorem quL {v:AV} {s:St} {Q:AV→St→Prop} {K:AV→(St→Prop)→Prop} {b:Nat} {y:L6} (hC:Has s b y) (hQ:∀ s',Has s' b y→Q v s') (hk:K v fun u=>Has u b y):∃ (v:AV) (C:St→Prop),C s∧(∀ s',C s'→Q v s')∧K v C:=⟨v,_,hC,hQ,hk⟩
theorem B2V {T:G5} {t:TypeId} {e b i o ty n:Nat} {s:St} {k:KK} {r:C3} {f:Nat→AV} {x:AV} (h:Has s b ⟨ty,e,n,f⟩) (hr:T t=some r) (hi:i<n) (hv:f i=x) (hk:A8B r (cellsOf x) o (fun y=>k y s)):C1G T t e b i o s k:=by
 obtain ⟨g,hg,hh⟩:=h
 exact ldV hg hr hi ((hh i hi).trans hv) hk
end Go.Ab
namespace Go.Proofs.YtaapofnkmpiknaaGreat
open Go Go.Ab
attribute [local irreducible] upd del
def B8S (v:B6M):AV:=.agg [B0 v.goods,B0 v.taxes,eI v.ship,eI v.shipTax]
def Z4 (nets taxes:List Int) (j k:Nat):Int:=if k<j then gI nets k - gI taxes k else gI nets k
set_option maxHeartbeats 8000000 in
theorem C5X {t:Tax} {z:K2} {s:C8} {cats:List C8} {nets:List Int} {ship:Int} (h:A2o t z cats nets ship) (hsm:B2D t) (hz:Y7 t.zones s=some z) (exempt:Bool) (st:St) :
  S P 117 [R5 t,eS s,eB exempt,C7 cats,B0 nets,eI ship] st fun v st' =>
   v=.tuple [B8S (L1 t z exempt cats nets ship),eI 0]∧st'=st:=by
 obtain ⟨hr1,hr2⟩:=A3o h
 obtain ⟨t1,t2⟩:=A6i (t:=t) h.nets hr1 hr2
 obtain ⟨l1,l2⟩:=B3t h.tax
 have hzm:z∈t.zones:=D7K hz
 have hzr:=l2 z hzm
 have hn:=h.nets.len
 have hns:=h.nets.sum
 have hnp:=h.nets.pos
 have hcl:=h.cats
 have hq:=(A4u h.zone).2.1
 have hm:=A2N (t:=t) h.ship.1 hq
 have hs:=h.ship
 have hT:∀ s,S P 135 [R5 t] s fun v st'=>v=.bool true∧st'=s:=fun s=>by
  have:=C3E t hsm s
  rw [h.tax] at this;exact this
 have hZ:∀ st,S P 166 [R5 t,eS s] st fun v st'=>v=.tuple [R8 z,.bool true]∧st'=st:=fun st=>by
  have:=C0U t s (by omega) st
  rw [hz] at this;exact this
 have hR':=fun c st=>C0T z c (by omega) st
 have hU:=fun st=>B4r t ship z.ship hq st
 have hL:L1 t z exempt cats nets ship=⟨(List.range nets.length).map (Y0 t (K5 t (cats.map (E9 z)) nets) nets),if exempt=true then List.replicate nets.length 0 else K5 t (cats.map (E9 z)) nets,if t.incl=true then ship - N5 t ship z.ship else ship,if exempt=true then 0 else N5 t ship z.ship⟩:=rfl
 rw [hL]
 have hnx:∀ i,i<nets.length→0≤gI nets i∧gI nets i≤10000000000000:=fun i hi=>by
  have h1:=h.nets.pos _ (show gI nets i∈nets from A7 hi)
  have h2:=J0 h.nets.pos (show gI nets i∈nets from A7 hi)
  exact ⟨h1,by omega⟩
 have htx:∀ i,i<nets.length→0≤gI (K5 t (cats.map (E9 z)) nets) i∧gI (K5 t (cats.map (E9 z)) nets) i≤10000000000000:=fun i hi=>t2 _ (A7 (by omega))
 obtain ⟨MS,hMS⟩:∃ MS,MS=N5 t ship z.ship:=⟨_,rfl⟩
 obtain ⟨TX,hTX⟩:∃ TX,TX=K5 t (cats.map (E9 z)) nets:=⟨_,rfl⟩
 rw [←hMS] at hm hU ⊢
 rw [←hTX] at t1 htx ⊢
 obtain ⟨SH,hSH⟩:∃ SH,SH=if t.incl=true then ship - MS else ship:=⟨_,rfl⟩
 rw [←hSH]
 clear t2 hL
 refine S.post (post:=fun v s=>∃ gv tv bg bt,v=.tuple [.agg [gv,tv,eI SH,eI (if exempt=true then 0 else MS)],eI 0]∧LV 1 bg nets.length gv∧LV 1 bt nets.length tv ∧
   H5 st [(bt,⟨2,1,nets.length,fun k=>eI (gI (if exempt=true then List.replicate nets.length 0 else TX) k)⟩),(bg,⟨2,1,nets.length,fun k=>eI (gI ((List.range nets.length).map (Y0 t TX nets)) k)⟩)] s) ?_
  (fun v s ⟨gv,tv,bg,bt,h1,h2,h3,h4⟩=>by
   obtain ⟨s1,h5,h6⟩:=h4.frzL (.s .z) h2
   obtain ⟨s2,h7,h8⟩:=h5.frzL .z h3
   rw [show AV.arr 1 nets.length _=B0 ((List.range nets.length).map (Y0 t TX nets)) by unfold B0 A6;rw [D5p,D5O]] at h6
   rw [show AV.arr 1 nets.length _=B0 (if exempt=true then List.replicate nets.length 0 else TX) by unfold B0 A6;rw [show (if exempt=true then List.replicate nets.length 0 else TX).length=nets.length by cases exempt<;>simp [t1]]] at h8
   refine ⟨_,st,⟨rfl,rfl⟩,?_⟩
   rw [h1]
   exact (A8.tuple (A8.cons (A8.agg (A8.cons h6 (A8.cons h8 (A8.keep _ _)))) (A8.keep _ _)) rfl).trans (h7.fin _))
 refine B6N [6] C0k mixed Tryz.func117 (by rfl) rfl rfl rfl ?_;conv=>whnf
 intro b12 hb12
 generalize hs:(upd st b12 _:St)=w
 have h9:=H5.new' hs (C5M st) hb12
 clear hs hb12
 have d1:((nets.length:Int) != (nets.length:Int))=false:=bne_self_eq_false _
 have d2:decide ((nets.length:Int)>1000)=false:=D5t (by omega)
 have d3:decide (ship<0)=false:=D5t (by omega)
 have d4:decide (ship>10000000000000)=false:=D5t (by omega)
 repeat' ((conv=>whnf);first | refine B4 (hT _) ?_ | rw [hcl,d1] | rw [d2] | rw [d3] | rw [d4] | fail)
 conv=>whnf
 refine lp nets.length [1,2,3,4,5,6,12,14,15] (fun i vs u=>vs=[eS s,eB exempt,C7 cats,B0 nets,eI ship,.fptr (R5 t) 0,.optr 4 b12 0 0,eI (A2 (nets.take i)),eI i]∧u=w) ?_ ?_
 ·conv=>whnf
  exact ⟨rfl,rfl⟩
 rintro i vs u hi ⟨rfl,rfl⟩
 conv=>whnf
 cases h1:decide ((i:Int)<(nets.length:Int))
 case true =>
  have hi':=D9 h1
  have hx:0≤gI nets (i:Int).toNat:=hnp _ (A7 hi')
  have hs1:=M8 hnp (i+1)
  have hs2:0≤A2 (nets.take i):=C1 fun x hx=>hnp x (D8k hx)
  have hst:A2 (nets.take (i+1))=A2 (nets.take i)+gI nets (i:Int).toNat:=K7 hi'
  have d5:decide (gI nets (i:Int).toNat<0)=false:=D5t (by omega)
  have hw1:IntKind.i64.wrap (10000000000000 - A2 (nets.take i))=10000000000000 - A2 (nets.take i):=A5 (by omega) (by omega)
  have d6:decide (gI nets (i:Int).toNat>10000000000000 - A2 (nets.take i))=false:=D5t (by omega)
  have hw2:IntKind.i64.wrap (A2 (nets.take i)+gI nets (i:Int).toNat)=A2 (nets.take (i+1)):=(A5 (by omega) (by omega)).trans hst.symm
  change decide (nets.getD (i:Int).toNat default<0)=false at d5
  change decide (nets.getD (i:Int).toNat default>10000000000000 - A2 (nets.take i))=false at d6
  repeat' ((conv=>whnf);first | refine ⟨rfl,⟨by omega,by omega⟩,?_⟩ | rw [d5] | rw [hw1,d6] | rw [hw2] | fail)
  refine F8 ?_
  exact nx hi' ⟨by rw [B3 (by omega)],rfl⟩
 obtain rfl:=C5 h1 hi
 conv=>whnf
 refine H8 (hZ _) ?_
 intro b16 hb16;conv=>whnf
 generalize hs:(upd u b16 _:St)=w
 have h9:=H5.new' hs h9 hb16
 clear hs hb16
 refine A9C h9 .z rfl rfl (by rfl) ?_;conv=>whnf
 intro w h9
 have h9:=h9.soft 0 2 1 (fun k=>eI (Z4 nets TX 0 k))
 conv=>whnf
 refine .inr ⟨[2,10,11],.qui 0 (.qui 1 (.qui 3 (.qui 4 (.qui 5 (.qui 6 (.qui 7 (.two 2 10 [4,7] [0,4,7] (.qui 8 (.qui 9 (.eff 10 [0,4,7,8] (.eff 11 [] (.done))))) (.eff 2 [4,7] (.qui 8 (.qui 9 (.eff 11 [] (.done)))))))))))),by kernel_rfl,?_⟩
 have hb:=h9.has1 (.s .z)
 repeat' ((conv=>whnf);first | refine quT (fun _=>⟨rfl,rfl⟩) ?_ | refine quL hb (fun _ hs=>B2V hs rfl Nat.one_pos rfl ⟨rfl,rfl⟩) ?_ | fail)
 refine ⟨?A,?B⟩
 case' A =>
  conv=>whnf
  refine C5L (q:=r2) (m:=nets.length) (g:=fun k=>eI (gI nets k)) h9 (OV.nil 1 0) .z rfl rfl rfl rfl (by rfl) (A3O ..) (f':=fun k=>eI (Z4 nets TX 0 k)) (by show (0+nets.length) * 8≤140737488355328;omega) (fun i _=>by unfold Z4;rw [if_neg (by omega),if_neg (by omega)];rfl) (fun gv bg hg=>?_);conv=>whnf
  intro w h9
  rw [D5A nets.length] at hg h9
  have hb:=h9.has1 (.s .z)
  have e1:=A4S hg.one
  have e2:=B9l hg.one
  repeat' ((conv=>whnf);first | refine ⟨fun _=>trivial,?_⟩ | refine ⟨fun _=>hb,?_⟩ | refine quT (fun s=>I5 (hU s)) ?_ | rw [e1] | rw [e2] | fail)
  conv=>whnf
  intro b18 hb18
  generalize hs:(upd w b18 _:St)=w2
  have h9:=H5.new' hs h9 hb18
  clear hs hb18
  have hb:=h9.has1 (.s (.s .z))
  repeat' ((conv=>whnf);first | refine ⟨fun _=>trivial,?_⟩ | refine ⟨fun _=>hb,?_⟩ | fail)
 case' B =>
  conv=>whnf
  intro b18 hb18
  generalize hs:(upd w b18 _:St)=w2
  have h9:=H5.new' hs h9 hb18
  clear hs hb18
  have hb:=h9.has1 (.s (.s .z))
  repeat' ((conv=>whnf);first | refine ⟨fun _=>trivial,?_⟩ | refine ⟨fun _=>hb,?_⟩ | fail)
  conv=>whnf
  refine C5L (q:=r2) (m:=nets.length) (g:=fun k=>eI (gI nets k)) h9 (OV.nil 1 0) (.s .z) rfl rfl rfl rfl (by rfl) (A3O ..) (f':=fun k=>eI (Z4 nets TX 0 k)) (by show (0+nets.length) * 8≤140737488355328;omega) (fun i _=>by unfold Z4;rw [if_neg (by omega),if_neg (by omega)];rfl) (fun gv bg hg=>?_);conv=>whnf
  intro w2 h9
  rw [D5A nets.length] at hg h9
  have hb:=h9.has1 (.s (.s .z))
  have e1:=A4S hg.one
  have e2:=B9l hg.one
  repeat' ((conv=>whnf);first | refine ⟨fun _=>trivial,?_⟩ | refine ⟨fun _=>hb,?_⟩ | refine quT (fun s=>I5 (hU s)) ?_ | rw [e1] | rw [e2] | fail)
 all_goals
  conv=>whnf
  refine A9C h9 .z rfl rfl (by show (_&&_&&(gv.one&&_)&&_)=true;rw [hg.one];rfl) ?_;conv=>whnf
  intro w3 h9;conv=>whnf
  clear hb e1 e2
  refine lp nets.length [2,3,4,5,6,12,16,18,19,20] (fun i vs u=>∃ sv bs tv bt,vs=[eB exempt,C7 cats,B0 nets,eI ship,.fptr (R5 t) 0,.optr 4 b12 0 0,.optr 4 b16 0 0,.optr 4 b18 0 0,sv,eI i]∧OV 1 bs i sv∧OV 1 bt i tv ∧
   H5 st [(bs,⟨2,1,i,fun k=>eI (gI (cats.map (E9 z)) k)⟩),(bt,⟨2,1,i,fun k=>eI (gI (W0 t (cats.map (E9 z)) nets) k)⟩),(b18,⟨175,4,1,fun _=>.agg [gv,tv,eI ship,eI MS]⟩),(bg,⟨2,1,nets.length,fun k=>eI (Z4 nets TX 0 k)⟩),(b16,⟨103,4,1,fun _=>R8 z⟩),(b12,⟨175,4,1,fun _=>H1 C5R.zero⟩)] u) ?_ ?_
  ·conv=>whnf
   exact ⟨_,0,_,0,rfl,OV.nil ..,OV.nil ..,(h9.soft ..).soft ..⟩
  clear h9
  rintro i vs u hi ⟨sv,bs,tv,bt,rfl,hsv,htv,h9⟩
  have hb16:=h9.has1 (.s (.s (.s (.s .z))))
  conv=>whnf
  cases h1:decide ((i:Int)<(nets.length:Int))
  case true =>
   have hi':=D9 h1
   have hRi:=fun st=>hR' (cats.getD (i:Int).toNat default) st
   have hgR:gI (cats.map (E9 z)) i=E9 z (cats.getD (i:Int).toNat default):=D4 (E9 z) cats (by omega)
   have hgL:gI (W0 t (cats.map (E9 z)) nets) i=N5 t (gI nets i) (gI (cats.map (E9 z)) i):=by
    unfold W0;unfold gI
    rw [D5l,D6j,D6P hi'];rfl
   have hrt:0≤E9 z (cats.getD (i:Int).toNat default)∧E9 z (cats.getD (i:Int).toNat default)≤10000:=B6b h.zone _
   have hU2:=fun st=>B4r t (gI nets (i:Int).toNat) (E9 z (cats.getD (i:Int).toNat default)) hrt st
   rw [hgR] at hgL
   generalize E9 z (cats.getD (i:Int).toNat default)=RT at hRi hgR hgL hU2
   conv=>whnf
   refine .inl ⟨[7,8],[],List.range 10,by kernel_rfl,?_⟩
   repeat' ((conv=>whnf);first | refine B2V hb16 rfl Nat.one_pos rfl ?_ | refine ⟨rfl,⟨by omega,by omega⟩,?_⟩ | refine ⟨_,I5 (hRi _),?_⟩ | fail)
   conv=>whnf
   refine C5L (q:=r2) (m:=1) (g:=fun j=>[eI RT].getD j AV.junk) h9 hsv .z rfl rfl rfl rfl (by rfl) rfl (f':=fun k=>eI (gI (cats.map (E9 z)) k)) (by show (i+1) * 8≤140737488355328;omega) (fun k hk=>?_) (fun sv bs hsv=>?_)
   ·split
    ·rfl
    ·rw [show k=i by omega,Nat.sub_self,hgR];rfl
   conv=>whnf
   intro w h9;conv=>whnf
   obtain rfl:=hsv.own (Nat.succ_pos i)
   have hb18:=h9.has1 (.s (.s .z))
   have hbs:=h9.has .z (Nat.succ_pos i)
   refine .inr ⟨[12,13,15],.qui 0 (.qui 1 (.qui 2 (.qui 3 (.qui 4 (.qui 5 (.qui 6 (.qui 7 (.qui 8 (.qui 9 (.qui 10 (.qui 11 (.eff 12 [1] (.eff 13 [] (.qui 14 (.eff 15 [] (.done)))))))))))))))),by kernel_rfl,?_⟩
   repeat' ((conv=>whnf);first | refine quT (fun _=>⟨rfl,rfl⟩) ?_ | refine quL hb18 (fun _ hs=>B2V hs rfl Nat.one_pos rfl ⟨rfl,rfl⟩) ?_ | refine ⟨rfl,⟨by omega,by omega⟩,?_⟩ | refine quL hbs (fun _ hs=>B2V hs rfl (show 0+(i:Int).toNat<i+1 by omega) (x:=eI RT) (by show eI (gI _ (0+(i:Int).toNat))=_;rw [show 0+(i:Int).toNat=i by omega,hgR]) ⟨rfl,rfl⟩) ?_ | refine quT (fun s=>I5 (hU2 s)) ?_ | refine ⟨fun h=>h,?_⟩ | fail)
   conv=>whnf
   refine C5L (q:=r2) (m:=1) (g:=fun j=>[eI (N5 t (gI nets i) RT)].getD j AV.junk) h9 htv (.s .z) rfl rfl rfl rfl (by rfl) rfl (f':=fun k=>eI (gI (W0 t (cats.map (E9 z)) nets) k)) (by show (i+1) * 8≤140737488355328;omega) (fun k hk=>?_) (fun tv bt htv=>?_)
   ·split
    ·rfl
    ·rw [show k=i by omega,Nat.sub_self,hgL];rfl
   conv=>whnf
   intro w h9;conv=>whnf
   refine D2G h9 (.s (.s .z)) rfl rfl rfl htv.one (by decide) ?_;conv=>whnf
   intro w h9;conv=>whnf
   refine F8 ?_
   exact nx hi' ⟨_,_,_,_,by rw [B3 (by omega)],hsv,htv,h9⟩
  obtain rfl:=C5 h1 hi
  clear hb16
  conv=>whnf
  cases hbo:t.byOrder
  case' false =>
   have e0:TX=W0 t (cats.map (E9 z)) nets:=by rw [hTX];exact if_neg (by rw [hbo];simp)
   rw [←e0] at h9
   replace htv:=htv.lv
   replace h9:=h9.drop 0
  case' true =>
   have e0:TX=G7 t (cats.map (E9 z)) nets:=by rw [hTX];exact if_pos hbo
   obtain ⟨w,h9,hsh⟩:=h9.frz .z hsv
   rw [show AV.arr 1 nets.length _=B0 (cats.map (E9 z)) by unfold B0 A6;rw [hr1]] at hsh;conv=>whnf
   refine F4 (args':=[R5 t,B0 (cats.map (E9 z)),B0 nets]) (A8.cons (A8.keep _ _) (A8.cons hsh (A8.keep _ _))) (call (B6c t _ nets h.nets hr1 hr2 _) (fun v w2 hv=>?_))
   obtain ⟨bt,rfl,hbt0,⟨y,⟨f,rfl,hf⟩,hbt1⟩,hsup⟩:=hv
   rw [←e0,t1] at hbt1 hf
   replace h9:=h9.got (y:=⟨2,1,nets.length,fun k=>eI (gI TX k)⟩) hbt0 hsup ⟨f,hbt1,hf⟩
   conv=>whnf
   refine A9C h9 (.s (.s .z)) rfl rfl (by rfl) ?_;conv=>whnf
   intro w h9
   replace h9:=h9.drop 1
   replace htv:=LV.of 1 bt nets.length
   generalize AV.own 1 bt 0 nets.length=tv at *
  all_goals
   dsimp only [List.eraseIdx] at h9
   conv=>whnf
   refine lp nets.length [2,4,5,6,12,18,21] (fun j vs u=>vs=[eB exempt,B0 nets,eI ship,.fptr (R5 t) 0,.optr 4 b12 0 0,.optr 4 b18 0 0,eI j]∧(t.incl=false→j=0) ∧
    H5 st [(bt,⟨2,1,nets.length,fun k=>eI (gI TX k)⟩),(b18,⟨175,4,1,fun _=>.agg [gv,tv,eI ship,eI MS]⟩),(bg,⟨2,1,nets.length,fun k=>eI (Z4 nets TX j k)⟩),(b16,⟨103,4,1,fun _=>R8 z⟩),(b12,⟨175,4,1,fun _=>H1 C5R.zero⟩)] u) ?_ ?_
   ·conv=>whnf
    exact ⟨rfl,fun _=>rfl,h9⟩
   clear h9
   rintro j vs u hj ⟨rfl,hj0,h9⟩
   conv=>whnf
   cases h5:decide ((j:Int)<(nets.length:Int))<;>cases hin:t.incl
   case' true.true =>
    have hj5:=D9 h5
    obtain rfl:=hg.own (by omega)
    obtain rfl:=htv.own (by omega)
    have hb18:=h9.has1 (.s .z)
    have hbt:=h9.has .z (show 0<nets.length by omega)
    have hbg:=h9.has (.s (.s .z)) (show 0<nets.length by omega)
    have hx1:=hnx j hj5
    have hx2:=htx j hj5
    have hw:IntKind.i64.wrap (gI nets (j:Int).toNat - gI TX (j:Int).toNat)=gI nets j - gI TX j:=A5 (by show _≤gI nets j - gI TX j;omega) (by show gI nets j - gI TX j≤_;omega)
    conv=>whnf
    rw [hin];conv=>whnf
    refine .inl ⟨[14],[],List.range 15,by kernel_rfl,?_⟩
    repeat' ((conv=>whnf);first | refine B2V hb18 rfl Nat.one_pos rfl ?_ | refine ⟨rfl,⟨by omega,by omega⟩,?_⟩ | refine B2V hbt rfl (show 0+(j:Int).toNat<nets.length by omega) (x:=eI (gI TX (j:Int).toNat)) (by show eI (gI TX (0+(j:Int).toNat))=_;rw [D5A]) ?_ | rw [hw] | fail)
    conv=>whnf
    refine D2F h9 (.s (.s .z)) rfl (show 0+(j:Int).toNat<nets.length by omega) rfl (by rfl) ?_;conv=>whnf
    intro w h9;conv=>whnf
    refine F8 ?_
    refine nx hj5 ⟨by rw [B3 (by omega)],fun e=>(by cases e),h9.as (fun k=>eI (Z4 nets TX (j+1) k)) (.s (.s .z)) fun k hk=>?_⟩
    show H7 (fun k=>eI (Z4 nets TX j k)) (0+(j:Int).toNat) (eI (gI nets j - gI TX j)) k=eI (Z4 nets TX (j+1) k)
    rw [show 0+(j:Int).toNat=j by omega]
    by_cases e:k=j
    ·subst e;rw [A4];unfold Z4;rw [if_pos (by omega)]
    ·rw [H3 e];unfold Z4
     by_cases hh:k<j
     ·rw [if_pos hh,if_pos (by omega)]
     ·rw [if_neg hh,if_neg (by omega)]
   all_goals
    have hx:∀ k,k<nets.length→eI (Z4 nets TX j k)=eI (gI ((List.range nets.length).map (Y0 t TX nets)) k):=fun k hk=>by
     rw [show gI ((List.range nets.length).map (Y0 t TX nets)) k=Y0 t TX nets k by unfold gI;simp [D5l,hk]]
     unfold Z4 Y0
     rcases (by first | exact .inl ⟨hin,C5 h5 hj⟩ | exact .inr ⟨hin,hj0 hin⟩:(t.incl=true∧j=nets.length)∨(t.incl=false∧j=0)) with ⟨e,rfl⟩ | ⟨e,rfl⟩
     ·rw [if_pos hk,if_pos e]
     ·rw [if_neg (by omega),if_neg (by rw [e];simp)]
    replace h9:=h9.as (fun k=>eI (gI ((List.range nets.length).map (Y0 t TX nets)) k)) (.s (.s .z)) hx
    dsimp only [List.set] at h9
   case' false.true =>
    have hwS:IntKind.i64.wrap (ship - MS)=SH:=by rw [hSH,if_pos hin];exact A5 (by omega) (by omega)
    repeat' ((conv=>whnf);first | rw [hin] | refine C7P h9 (.s .z) rfl Nat.one_pos rfl ?_ | fail)
    conv=>whnf
    rw [hwS]
    refine A9C h9 (.s .z) rfl rfl (by rfl) ?_;conv=>whnf
    intro w h9
   case' false.false=>obtain rfl:SH=ship:=by rw [hSH,if_neg (by rw [hin];simp)]
   case' true.false=>obtain rfl:SH=ship:=by rw [hSH,if_neg (by rw [hin];simp)]
   all_goals
    repeat' ((conv=>whnf);first | rw [hin] | fail)
    conv=>whnf
    cases exempt
    case' true =>
     conv=>whnf
     refine D2E (e:=1) h9 rfl rfl rfl rfl (by show 8 * nets.length≤_;omega) (by omega) (by rfl) (fun bz w h9=>?_)
     replace h9:=h9.as (fun k=>eI (gI (List.replicate nets.length 0) k)) .z fun k _=>by unfold gI;rw [B6J];rfl
     conv=>whnf
     refine A9C h9 (.s (.s .z)) rfl rfl (by rfl) ?_;conv=>whnf
     intro w h9;conv=>whnf
     refine A9C h9 (.s (.s .z)) rfl rfl (by rfl) ?_;conv=>whnf
     intro w h9
     replace h9:=h9.drop 1
     replace htv:=LV.of 1 bz nets.length
     generalize AV.own 1 bz 0 nets.length=tv at *
     dsimp only [List.eraseIdx] at h9
    all_goals
     conv=>whnf
     refine C7P h9 (.s .z) rfl Nat.one_pos rfl ?_;conv=>whnf
     refine A9C h9 (.s (.s (.s (.s .z)))) rfl rfl (by show (_&&_&&(gv.one&&(tv.one&&_))&&_)=true;rw [hg.one,htv.one];rfl) ?_;conv=>whnf
     intro w h9;conv=>whnf
     refine C7P h9 (.s (.s (.s (.s .z)))) rfl Nat.one_pos rfl ?_;conv=>whnf
     exact ⟨gv,tv,bg,_,rfl,hg.lv,htv,((h9.drop 4).drop 3).drop 1⟩
theorem B9r (l:List Int) (h:L7 l) (st:St):S P 118 [B0 l] st fun v st'=>v=eI (A2 l)∧st'=st:=by
 have hn:=h.len
 refine F1 [] Tryz.func118 ?_
 refine lp l.length [0,3,4] (fun i vs t=>vs=[B0 l,eI (A2 (l.take i)),eI i]∧t=st) ?_ ?_
 ·conv=>whnf
  exact ⟨rfl,rfl⟩
 ·rintro i vs t hi ⟨rfl,rfl⟩
  conv=>whnf
  cases h1:decide ((i:Int)<(l.length:Int))
  ·obtain rfl:=C5 h1 hi
   rw [D5w];conv=>whnf
   exact ⟨rfl,rfl⟩
  ·have hi':=D9 h1
   have hs:IntKind.i64.wrap (A2 (l.take i)+gI l (i:Int).toNat)=A2 (l.take (i+1)):=h.step hi'
   conv=>whnf
   refine E4 ?_
   rw [hs]
   refine F8 ?_
   exact nx hi' ⟨by rw [B3 (by omega)],rfl⟩
set_option maxHeartbeats 8000000 in
theorem C3C {r:G6} {codes:List C8} {l:List E8} {Pr:A3G} {z:K2} {zone:C8} (exempt:Bool)
  (hP:∀ st,S P 115 [G9 r,C7 codes,A6 3 I0 l] st fun v s=>v=.tuple [A0T Pr,eI 0]∧s=st)
  (hI:∀ st,S P 116 [A6 4 E3 r.items,A6 3 I0 l] st fun v s=>v=A6 4 E3 (C2 r.items l)∧s=st)
  (hln:l.length≤1000) (hV:A2o r.tax z (M9 r l) Pr.nets Pr.ship) (hsm:B2D r.tax) (hz:Y7 r.tax.zones zone=some z) (st:St) :
  S P 56 [G9 r,eS zone,eB exempt,C7 codes,A6 3 I0 l] st fun v st'=>v=.tuple [A0E (A9j r z exempt l Pr),eI 0]∧st'=st:=by
 have hQ:=B0j hV exempt Pr.deals
 have hlv:=fun s=>C5X hV hsm hz exempt s
 have hq:A9j r z exempt l Pr=⟨(L1 r.tax z exempt (M9 r l) Pr.nets Pr.ship).goods,(L1 r.tax z exempt (M9 r l) Pr.nets Pr.ship).taxes,(L1 r.tax z exempt (M9 r l) Pr.nets Pr.ship).ship,(L1 r.tax z exempt (M9 r l) Pr.nets Pr.ship).shipTax,A2 (L1 r.tax z exempt (M9 r l) Pr.nets Pr.ship).goods+A2 (L1 r.tax z exempt (M9 r l) Pr.nets Pr.ship).taxes+(L1 r.tax z exempt (M9 r l) Pr.nets Pr.ship).ship+(L1 r.tax z exempt (M9 r l) Pr.nets Pr.ship).shipTax,Pr.deals⟩:=rfl
 rw [hq]
 obtain ⟨q1,q2,q3,q4,q5,q6,q7,_⟩:=hQ
 have q1:L7 (L1 r.tax z exempt (M9 r l) Pr.nets Pr.ship).goods:=q1
 have q2:L7 (L1 r.tax z exempt (M9 r l) Pr.nets Pr.ship).taxes:=q2
 have q6:0≤(L1 r.tax z exempt (M9 r l) Pr.nets Pr.ship).ship∧(L1 r.tax z exempt (M9 r l) Pr.nets Pr.ship).ship≤10000000000000:=q6
 have q7:0≤(L1 r.tax z exempt (M9 r l) Pr.nets Pr.ship).shipTax∧(L1 r.tax z exempt (M9 r l) Pr.nets Pr.ship).shipTax≤10000000000000:=q7
 clear hq q3 q4 q5 hV hz
 generalize L1 r.tax z exempt (M9 r l) Pr.nets Pr.ship=V at *
 have s1:=fun s=>B9r V.goods q1 s
 have s2:=fun s=>B9r V.taxes q2 s
 have g1:=q1.sum
 have g2:=q2.sum
 have w1:IntKind.i64.wrap (A2 V.goods+A2 V.taxes)=A2 V.goods+A2 V.taxes:=A5 (by omega) (by omega)
 have w2:IntKind.i64.wrap (A2 V.goods+A2 V.taxes+V.ship)=A2 V.goods+A2 V.taxes+V.ship:=A5 (by omega) (by omega)
 have w3:IntKind.i64.wrap (A2 V.goods+A2 V.taxes+V.ship+V.shipTax)=A2 V.goods+A2 V.taxes+V.ship+V.shipTax:=A5 (by omega) (by omega)
 have hil:(C2 r.items l).length=l.length:=D5p ..
 have hcb:M9 r l=(C2 r.items l).map Ab.Item.cat:=rfl
 rw [hcb] at hlv
 generalize C2 r.items l=IT at hI hil hlv
 clear hcb
 refine A2c ?_
 refine F1 [5] Tryz.func56 ?_
 intro b10 hb10;conv=>whnf
 refine H8 (hP _) ?_
 intro b12 hb12
 have h02:b10≠b12:=fun e=>by subst e;rw [A0] at hb12;cases hb12
 conv=>whnf
 refine stU (A0 ..) rfl ?_
 rw [B6];conv=>whnf
 refine H8 (hI _) ?_
 generalize hst:(upd (upd st b10 _) b12 _:St)=S0
 obtain ⟨f12,at12,hf12⟩:∃ f12:Nat→AV,S0 b12=some ⟨170,4,1,f12⟩∧f12 0=A0T Pr:=by rw [←hst];exact ⟨_,A0 ..,by rw [A4];rfl⟩
 obtain ⟨f10,at10,hf10⟩:∃ f10:Nat→AV,S0 b10=some ⟨113,6,1,f10⟩∧f10 0=H1 C5Q.zero:=by rw [←hst,A9 h02];exact ⟨_,A0 ..,rfl⟩
 have hs0:E5 st S0:=by rw [←hst];exact ((E5.refl st).upd hb10).upd hb12
 have n12:st b12=none:=by rw [A9 h02.symm] at hb12;exact hb12
 clear hst
 refine lp IT.length [1,2,5,10,12,14,15,16] (fun i vs u=>∃ sv,vs=[eS zone,eB exempt,.fptr (G9 r) 0,.optr 6 b10 0 0,.optr 4 b12 0 0,A6 4 E3 IT,sv,eI i]∧E0 9 1 eS ((IT.take i).map Ab.Item.cat) S0 sv u) ?_ ?_
 ·conv=>whnf
  exact ⟨.emp,rfl,E0.start _ _ _ _⟩
 rintro i vs u hi ⟨sv,rfl,hc⟩
 have hcs:=hc.sup
 conv=>whnf
 cases h1:decide ((i:Int)<(IT.length:Int))
 case true =>
  have hi':=D9 h1
  have hln2:((IT.take i).map Ab.Item.cat).length=i:=by rw [D5p,D5v];omega
  have htk:(IT.take (i+1)).map Ab.Item.cat=(IT.take i).map Ab.Item.cat++[(IT.getD (i:Int).toNat default).cat]:=by rw [K1 hi',D5P];rfl
  conv=>whnf
  refine E4 ?_
  refine E0.app (y:=(IT.getD (i:Int).toNat default).cat) (q:=r9) rfl rfl rfl rfl rfl (by rfl) (by rw [hln2];show (i+1) * 16≤140737488355328;omega) hc (fun sv' t' hc'=>?_);conv=>whnf
  refine F8 ?_
  exact nx hi' ⟨sv',by rw [B3 (by omega)],by rw [htk];exact hc'⟩
 obtain rfl:=C5 h1 hi
 rw [D5w] at hc;conv=>whnf
 refine I1 (hcs b12 _ at12) hf12 ?_
 refine I1 (hcs b12 _ at12) hf12 ?_
 have hTS:A8 [R5 r.tax,eS zone,eB exempt,sv,B0 Pr.nets,eI Pr.ship] u [R5 r.tax,eS zone,eB exempt,C7 (IT.map Ab.Item.cat),B0 Pr.nets,eI Pr.ship] S0 :=
  A8.cons (A8.keep [R5 r.tax] _) (A8.cons (A8.keep [eS zone] _) (A8.cons (A8.keep [eB exempt] _) (A8.cons hc.shift (A8.keep _ _))))
 refine F4 hTS (B4 (hlv _) ?_);conv=>whnf
 intro b17 hb17
 have h12n:b12≠b17:=fun e=>by subst e;rw [at12] at hb17;cases hb17
 have h10n:b10≠b17:=fun e=>by subst e;rw [at10] at hb17;cases hb17
 conv=>whnf
 refine stU (A0 ..) rfl ?_
 rw [B6];conv=>whnf
 generalize hst:(upd S0 b17 _:St)=S1
 obtain ⟨f17,at17,hf17⟩:∃ f17:Nat→AV,S1 b17=some ⟨175,4,1,f17⟩∧f17 0=B8S V:=by rw [←hst];exact ⟨_,A0 ..,by rw [A4];rfl⟩
 have at12':S1 b12=some ⟨170,4,1,f12⟩:=by rw [←hst,A9 h12n];exact at12
 have at10':S1 b10=some ⟨113,6,1,f10⟩:=by rw [←hst,A9 h10n];exact at10
 have hs1:E5 st S1:=by rw [←hst];exact hs0.upd hb17
 clear hst
 refine ⟨[24],[],List.range 26,by kernel_rfl,?_⟩
 repeat' ((conv=>whnf);first | refine ldV at17 rfl (by omega) hf17 ?_ | refine ldV at12' rfl (by omega) hf12 ?_ | refine ⟨_,I5 (s1 _),?_⟩ | refine ⟨_,I5 (s2 _),?_⟩)
 all_goals
  conv=>whnf
  rw [w1,w2,w3]
  refine X1 at10' hf10 ?_
  refine I1 (A0 ..) (A4 ..) ?_
  exact ⟨rfl,hs1.over hb10⟩
end Go.Proofs.YtaapofnkmpiknaaGreat
namespace Go.Proofs.YtaapofnkmpiknaaGreat
open Go Go.Ab
theorem C7B (f:Nat→Int) {n i:Nat} (hi:i<n):gI ((List.range n).map f) i=f i:=by
 unfold gI;simp [D5l,hi]
theorem C0t {t:Tax} {z:K2} {cats:List C8} {nets:List Int} {ship:Int} (h:A2o t z cats nets ship) (hn:∀ i,i<nets.length→0≤gI nets i∧gI nets i≤1000000000000) (hs:ship≤1000000000000) (exempt:Bool) (deals:List A1G) :
  A8E (B4m (L1 t z exempt cats nets ship) deals) nets.length:=by
 have hq:=B0j h exempt deals
 obtain ⟨r1,r2⟩:=A3o h
 obtain ⟨t1,t2⟩:=A6i (t:=t) h.nets r1 r2
 have hm:=A2N (t:=t) h.ship.1 (A4u h.zone).2.1
 have tl:=fun i (hi:i<nets.length)=>B6A (t:=t) h.nets r1 r2 hi
 have tp:∀ i,i<nets.length→0≤gI (K5 t (cats.map (E9 z)) nets) i:=fun i hi=>(t2 _ (A7 (by omega))).1
 refine ⟨fun i hi=>?_,fun i hi=>?_,hq.ngoods,hq.ntaxes,⟨hq.ship.1,?_⟩,⟨hq.shipTax.1,?_⟩,hq.total⟩
 ·show 0≤gI (A2s _ _ _) i∧gI (A2s _ _ _) i≤_
  unfold A2s
  rw [C7B _ hi]
  have h1:=hn i hi
  have h2:=tl i hi
  have h3:=tp i hi
  split<;>omega
 ·show 0≤gI (if exempt=true then List.replicate nets.length 0 else _) i∧gI (if exempt=true then List.replicate nets.length 0 else _) i≤_
  have h1:=hn i hi
  have h2:=tl i hi
  have h3:=tp i hi
  split
  ·have:gI (List.replicate nets.length 0) i=0:=by unfold gI;simp [D5l,hi]
   rw [this];omega
  ·omega
 ·show (if t.incl=true then ship - N5 t ship z.ship else ship)≤_
  split<;>omega
 ·show (if exempt=true then 0 else N5 t ship z.ship)≤_
  split<;>omega
theorem Q1.sold {R:G6} {C:List C8} {L:List E8} (h:Q1 R C L) {z:K2} {s:C8} (hz:Y7 R.tax.zones s=some z) (exempt:Bool):A8E (B1z R C L z exempt) L.length:=by
 have hN:=h.nets
 have hf:=h.fee
 have hsh:=hN.ship
 have:=C0t (h.levy hz) (fun i hi=>by
  have hi:i<L.length:=by rw [←hN.len];exact hi
  have h1:=hN.at' i hi
  have h2:=h.lines.line _ (A7 hi)
  have h9:(L.getD i default).qty * (L.getD i default).price≤9 * 4000:=D7J h2.1.2 (by omega) h2.2.1 (by omega)
  omega) (by omega) exempt (A3n R C L).deals
 rw [hN.len] at this;exact this
theorem Q1.rquote_S {R:G6} {C:List C8} {L:List E8} (h:Q1 R C L) {z:K2} {s:C8} (hz:Y7 R.tax.zones s=some z) (exempt:Bool) (st:St) :
  S P 56 [G9 R,eS s,eB exempt,C7 C,A6 3 I0 L] st fun v st'=>v=.tuple [A0E (B1z R C L z exempt),eI 0]∧st'=st:=by
 have hk:=(A6v h.check).lines.known
 have hi:=h.items
 have hl:=h.lines.len
 have hRI:=fun st=>B5X R.items L (by show R.items.length≤_;omega) (by omega) hk st
 exact C3C exempt (fun st=>h.ref_S st) hRI (by omega) (h.levy hz) h.sm.tax hz st
theorem A8E.total_in {Q:A1I} {n:Nat} (h:A8E Q n) (hn:n≤8):0≤Q.total∧Q.total≤100000000000000:=by
 have g1:=B0p h.ngoods h.goods
 have g2:=B0p h.ntaxes h.taxes
 have g3:=h.ship
 have g4:=h.shipTax
 have g5:=h.total
 have hn':(n:Int)≤8:=by omega
 omega
theorem B8C (n:Int):D2 (P7 (B9 n 3))=true:=by
 have:=D0 n (n:=3) (by decide)
 obtain ⟨k,hk⟩:∃ k:Nat,B9 n 3=k:=⟨(B9 n 3).toNat,by omega⟩
 rw [hk]
 have hk3:k<3:=by omega
 exact D5I.1 A7D k (D5B.2 hk3)
structure C7j (R:G6) (Z:C8) (exempt:Bool) (C:List C8) (A:List Add) (L:List E8) (Q:A1I) (pays:List Pay):Prop where
 lines:W1 R.items A=(L,0)
 len:1≤L.length∧L.length≤8
 same:L=A.map (J4 R.items)
 sold:A8E Q L.length
 paid:A6X pays Q.total=true
 npays:pays.length≤3
 zone:D2 Z=true
 codes:S4 C=true
 ncodes:C.length≤3
 scodes:∀ s∈C,s.size≤12
 line:∀ x∈L,D2 x.sku=true∧(0≤x.price∧x.price≤1000000000)∧1≤x.qty∧x.qty≤100000
 right:U6 R=true
 fit:A0J R
 items:R.items.length≤8
 amounts:L7 Q.goods∧L7 Q.taxes
 prog:∀ st,S P 60 [G9 R,eS Z,eB exempt,C7 C,A6 3 I0 L] st fun v st'=>v=.tuple [A0E Q,eI 0]∧st'=st
 ref:∀ st,S P 56 [G9 R,eS Z,eB exempt,C7 C,A6 3 I0 L] st fun v st'=>v=.tuple [A0E Q,eI 0]∧st'=st
theorem C7X (s:B4T):∃ L Q,C7j (J2 s.rules) (S9 s) s.exempt (J9 s.codes) (F6 s.adds) L Q (P0 Q.total s.pays):=by
 have hb:=B4Y s.rules.items s.adds
 have h:=(C7R s.rules s.codes []).relines hb
 obtain ⟨z,hz⟩:=B2t s.rules s.zone
 have hq:=h.quoteIn hz s.exempt
 have hs:=h.sold hz s.exempt
 obtain ⟨⟨a1,a2⟩,a3⟩:=A5U s.adds
 have hln:((F6 s.adds).map (J4 (F9 s.rules.items))).length≤8:=hb.len
 have hT:=hs.total_in hln
 have hp:=B2q hT.1 hT.2 s.pays
 refine ⟨_,B1z (J2 s.rules) (J9 s.codes) ((F6 s.adds).map (J4 (F9 s.rules.items))) z s.exempt,B5J s.rules.items s.adds,?_,rfl,hs,hp.1,hp.2,B8C s.zone,h.codes,h.ncodes,h.scodes,fun x hx=>?_,h.right,h.fit,h.items,⟨hq.goods,hq.taxes⟩,fun st=>h.quote_S hz s.exempt st,fun st=>h.rquote_S hz s.exempt st⟩
 ·show 1≤((F6 s.adds).map (J4 (F9 s.rules.items))).length∧((F6 s.adds).map (J4 (F9 s.rules.items))).length≤8
  rw [D5p];omega
 ·have hx:x∈(F6 s.adds).map (J4 (F9 s.rules.items)):=hx
  have l1:=hb.line x hx
  obtain ⟨n,hn⟩:=hb.sku x hx
  obtain ⟨y,hy,rfl⟩:=D5G.1 hx
  have l2:=(a3 y hy).1
  refine ⟨by rw [hn];exact A9l n,by omega,?_⟩
  show 1≤y.qty∧y.qty≤100000
  omega
end Go.Proofs.YtaapofnkmpiknaaGreat
namespace Go.Proofs.YtaapofnkmpiknaaGreat
open Go Go.Ab
attribute [local irreducible] upd del
theorem C2c:B2C aqO:=⟨by decide,by decide,by decide,fun s hs=>(by cases hs),by decide,fun x hx=>by rw [D5Q.1 hx];decide,by decide⟩
set_option maxHeartbeats 2000000 in
theorem B9P (st:St):S P 15 [] st fun v st'=>v=.bool true∧st'=st:=by
 have n1:=fun s=>B1B aqO C2c s
 rw [show A2v aqO=true by kernel_rfl] at n1
 have n2:=fun s=>B3k aqO C2c s
 rw [show A6I aqO=⟨100,10,0,0,0⟩ by kernel_rfl] at n2
 have n3:=fun s=>B4G ⟨100,10,0,0,0⟩ s
 rw [show Z6 ⟨100,10,0,0,0⟩=110 by kernel_rfl] at n3
 have n4:=fun s=>C3I aqO (by decide) s
 refine A2c ?_
 refine F1 [1] Tryz.func15 ?_
 refine F4 ?_ (B4 (C2d st) ?_)
 ·refine A8.cons (Le.shift (Le.agg ?_) _) (A8.cons (A8.keep [eI 1] _) (A8.cons (Le.shift (Le.agg ?_) _) (A8.keep _ _)))
  all_goals repeat' first | exact F0.nil | refine F0.cons ?_ ?_ | exact Le.refl _ | exact Le.emp _ _ | refine Le.arr1 ?_ rfl
 conv=>whnf
 intro b hb;conv=>whnf
 refine stU (A0 ..) rfl ?_
 rw [B6]
 repeat' ((conv=>whnf);first | refine ldV (A0 ..) rfl (by omega) (A4 ..) ?_ | refine B4 (n1 _) ?_ | refine B4 (n2 _) ?_ | refine B4 (n3 _) ?_ | refine B4 (n4 _) ?_)
 exact ⟨rfl,(E5.refl st).upd hb⟩
set_option maxHeartbeats 4000000 in
theorem B1E (s:B4T) (st:St):S P 3 [B2T s] st fun v st'=>v=.bool true:=by
 obtain ⟨L,Q,hO⟩:=C7X s
 have hT:=hO.sold.total_in hO.len.2
 have nF:=fun u=>C1e s u
 have nA:=fun u=>B9P u
 have hid:D2 ⟨#[111]⟩=true:=by kernel_rfl
 have cC:A7U s=true→∀ u,S P 16 [B2T s,eS ⟨#[111]⟩,eS ⟨#[107]⟩] u fun v st'=>v=.tuple [G9 (J2 s.rules),A9w ⟨#[111]⟩ ⟨#[107]⟩ (S9 s) s.exempt (J9 s.codes) (F6 s.adds) (P0 Q.total s.pays)]∧st'=u:=fun hF u=>by
  have hi:=hO.items
  refine B9Z s _ _ Q 0 (by show _≤_;omega) ?_ hT (fun w=>?_) u
  ·unfold A7U at hF
   simp only [D5r,D5n] at hF
   omega
  ·have:=hO.ref w
   rw [hO.lines];exact this
 have hA:∀ u,S P 58 [G9 (J2 s.rules),eI 3,A9w ⟨#[111]⟩ ⟨#[107]⟩ (S9 s) s.exempt (J9 s.codes) (F6 s.adds) (P0 Q.total s.pays),eI 5] u fun v st'=>v=eI 0∧st'=u:=fun u=>by
  have n1:=B8P 5 u
  rw [show O6 0 100000 5=true by kernel_rfl] at n1
  have n2:=A1w ⟨#[111]⟩ u
  rw [hid] at n2
  have n3:=A1w (S9 s) u
  rw [hO.zone] at n3
  have n4:=B4t _ hO.fit u
  rw [hO.right] at n4
  have n5:=B0b (J9 s.codes) (by have:=hO.ncodes;show _≤_;unfold Big;omega) u
  rw [hO.codes] at n5
  exact C4T _ 3 5 _ _ _ _ _ _ _ ⟨by decide,by decide⟩ u n1 n2 n3 n4 n5
 have cL:=fun u=>B5V (J2 s.rules).items (F6 s.adds) (by have:=hO.items;omega) u
 rw [hO.lines] at cL
 have cS:=fun u=>C7Z (J2 s.rules) 3 5 ⟨#[111]⟩ ⟨#[107]⟩ (S9 s) s.exempt (J9 s.codes) (F6 s.adds) (P0 Q.total s.pays) L Q (A2z Q) u (by have:=hO.ncodes;omega) (by have:=hO.len;omega) hO.sold.ngoods hO.sold.ntaxes hO.paid (by have:=hO.npays;omega) hA cL hO.prog (fun w=>C2n Q hO.amounts.1 hO.amounts.2 w)
 have hW:=B8i hO.sold hO.len hO.line (id:=⟨#[111]⟩) (zone:=S9 s) (set:=3) (day:=5) s.exempt hid hO.zone ⟨by decide,by decide⟩ ⟨by decide,by decide⟩ hO.codes hO.paid
 have hkl:(O3 L Q).length=L.length:=by unfold O3;rw [D5p,D5O]
 have hsm:B2C (A9H ⟨#[111]⟩ (S9 s) 3 s.exempt (J9 s.codes) 5 L Q (A2z Q) (P0 Q.total s.pays)):=by
  have h1:=U5 hO.zone
  have h2:=hO.ncodes
  have h3:=hO.len
  have h4:=hO.npays
  refine ⟨by show (1:Nat)≤9223372036854775807;omega,by show (S9 s).size≤9223372036854775807;omega,by show (J9 s.codes).length≤9223372036854775807;omega,fun c hc=>by have:=hO.scodes c hc;show c.size≤9223372036854775807;omega,by show (O3 L Q).length≤_;omega,fun x hx=>?_,by show ((P0 Q.total s.pays).map A2H).length≤_;rw [D5p];omega⟩
  obtain ⟨i,hi,rfl⟩:=D5G.1 (show x∈(List.range L.length).map (A0G L Q) from hx)
  have:=U5 (hO.line _ (A7 (D5B.1 hi))).1
  show (L.getD i default).sku.size≤9223372036854775807
  omega
 have cR:=fun u=>B1B _ hsm u
 rw [hW.1] at cR
 have cB:=fun u=>B3k _ hsm u
 rw [hW.2.1] at cB
 have cM:=fun u=>B4G (A2z Q) u
 rw [hW.2.2] at cM
 have hla:L.length=(F6 s.adds).length:=by rw [hO.same,D5p]
 have hat:∀ i,i<(F6 s.adds).length→((O3 L Q).getD i default).sold=((F6 s.adds).getD i default).qty∧((O3 L Q).getD i default).left=((F6 s.adds).getD i default).qty∧((O3 L Q).getD i default).sku=((F6 s.adds).getD i default).sku:=fun i hi=>by
  have e1:(O3 L Q).getD i default=A0G L Q i:=by
   unfold O3
   rw [D4 (A0G L Q) (List.range L.length) (by rw [D5O];omega)]
   congr 1
   simp [D5l,show i<L.length by omega]
  have e2:L.getD i default=J4 (J2 s.rules).items ((F6 s.adds).getD i default):=by rw [hO.same];exact D4 _ _ hi
  rw [e1]
  unfold A0G
  rw [e2]
  exact ⟨rfl,rfl,rfl⟩
 have hnA:(F6 s.adds).length≤8:=by have:=hO.len;omega
 have hkA:(O3 L Q).length=(F6 s.adds).length:=hkl.trans hla
 have hpl:((P0 Q.total s.pays).map A2H).length=(P0 Q.total s.pays).length:=D5p ..
 have eO:U4 (A9H ⟨#[111]⟩ (S9 s) 3 s.exempt (J9 s.codes) 5 L Q (A2z Q) (P0 Q.total s.pays))=.agg [eS ⟨#[111]⟩,eI 3,eS (S9 s),eB s.exempt,C7 (J9 s.codes),eI 5,.arr 6 (F6 s.adds).length (fun i=>Z3 ((O3 L Q).getD i default)),eI Q.ship,eI Q.shipTax,eI 0,eI Q.total,eI (A2 Q.goods),eI (A2 Q.taxes),eI Q.ship,eI Q.shipTax,eI 0,.arr 3 (P0 Q.total s.pays).length (fun i=>A1W (((P0 Q.total s.pays).map A2H).getD i default))]:=by
  rw [←hkA,←hpl];rfl
 have eB:A5E (A2z Q)=.agg [eI (A2 Q.goods),eI (A2 Q.taxes),eI Q.ship,eI Q.shipTax,eI 0]:=rfl
 rw [eO] at cS cR cB
 rw [eB] at cB cM
 clear hW hsm hO hA cL hla hkl eO eB hpl hkA
 generalize J2 s.rules=R at *
 generalize S9 s=Z at *
 generalize J9 s.codes=C at *
 generalize F6 s.adds=A at *
 generalize P0 Q.total s.pays=PP at *
 generalize O3 L Q=KK at *
 generalize A2 Q.goods=SG at *
 generalize A2 Q.taxes=STx at *
 obtain ⟨qg,qt,qs,qst,qtot,qd⟩:=Q
 dsimp only at *
 refine F1 [] Tryz.func3 ?_
 intro b1 hb1;conv=>whnf
 refine I1 (A0 ..) rfl ?_
 refine H8 (nF _) ?_
 cases hF:A7U s
 ·conv=>whnf
  refine H8 (nA _) ?_
  exact rfl
 conv=>whnf
 refine I1 (A0 ..) rfl ?_
 refine H8 (cC hF _) ?_
 intro b3 hb3;conv=>whnf
 intro b4 hb4
 have h34:b3≠b4:=fun e=>by subst e;rw [A0] at hb4;cases hb4
 conv=>whnf
 refine X1 ((A9 h34).trans (A0 ..)) rfl ?_
 refine X1 ((A9 h34.symm).trans (A0 ..)) rfl ?_
 refine I1 ((A9 h34).trans (A0 ..)) (A4 ..) ?_
 refine I1 (A0 ..) (A4 ..) ?_
 refine H8 (cS _) ?_
 generalize hst:(upd (upd (upd (upd (upd st b1 _) b3 _) b4 _) b3 _) b4 _:St)=S0
 obtain ⟨f4,at4,hf4⟩:∃ f4:Nat→AV,S0 b4=some ⟨42,27,1,f4⟩∧f4 0=A9w ⟨#[111]⟩ ⟨#[107]⟩ Z s.exempt C A PP:=by rw [←hst];exact ⟨_,A0 ..,by rw [A4];rfl⟩
 clear hst hb1 hb3 hb4
 intro b5 hb5
 have h45:b4≠b5:=fun e=>by subst e;rw [at4] at hb5;cases hb5
 conv=>whnf
 refine stU (A0 ..) rfl ?_
 rw [B6];conv=>whnf
 generalize hst:(upd S0 b5 _:St)=S1
 obtain ⟨f5,at5,hf5⟩:∃ f5:Nat→AV,S1 b5=some ⟨50,17,1,f5⟩∧f5 0=.agg [eS ⟨#[111]⟩,eI 3,eS Z,eB s.exempt,C7 C,eI 5,.arr 6 A.length (fun i=>Z3 (KK.getD i default)),eI qs,eI qst,eI 0,eI qtot,eI SG,eI STx,eI qs,eI qst,eI 0,.arr 3 PP.length (fun i=>A1W ((PP.map A2H).getD i default))]:=by rw [←hst];exact ⟨_,A0 ..,by rw [A4];rfl⟩
 have at4:S1 b4=some ⟨42,27,1,f4⟩:=by rw [←hst,A9 h45];exact at4
 clear hst hb5
 have e1:∀ z:Int,(z != z)=false:=fun z=>bne_self_eq_false z
 refine B4 (nA _) ?_
 repeat' ((conv=>whnf);first | refine ldV at5 rfl (by omega) hf5 ?_ | refine ldV at4 rfl (by omega) hf4 ?_ | rw [e1] | fail)
 refine lp A.length [4,5,7] (fun i vs u=>vs=[.optr 27 b4 0 0,.optr 17 b5 0 0,eI i]∧u=S1) ?_ ?_
 ·conv=>whnf
  exact ⟨rfl,rfl⟩
 rintro i vs u hi ⟨rfl,rfl⟩
 conv=>whnf
 refine I1 at5 hf5 ?_
 cases h:decide ((i:Int)<(A.length:Int))
 ·conv=>whnf
  refine I1 at5 hf5 ?_
  refine H8 (cB _) ?_
  intro b8 hb8
  have h58:b5≠b8:=fun e=>by subst e;rw [at5] at hb8;cases hb8
  conv=>whnf
  refine stU (A0 ..) rfl ?_
  rw [B6];conv=>whnf
  generalize hst:(upd u b8 _:St)=S2
  obtain ⟨f8,at8,hf8⟩:∃ f8:Nat→AV,S2 b8=some ⟨47,5,1,f8⟩∧f8 0=.agg [eI SG,eI STx,eI qs,eI qst,eI 0]:=by rw [←hst];exact ⟨_,A0 ..,by rw [A4];rfl⟩
  have at5:S2 b5=some ⟨50,17,1,f5⟩:=by rw [←hst,A9 h58];exact at5
  clear hst hb8
  have e2:∀ z:Int,(z==z)=true:=fun z=>D7v z
  repeat' ((conv=>whnf);first | refine ldV at5 rfl (by omega) hf5 ?_ | refine ldV at8 rfl (by omega) hf8 ?_ | refine B4 (cR _) ?_ | refine B4 (cM _) ?_ | rw [e2] | fail)
  refine ⟨[],[],List.range 31,by kernel_rfl,?_⟩
  repeat' ((conv=>whnf);first | refine ldV at5 rfl (by omega) hf5 ?_ | refine ldV at8 rfl (by omega) hf8 ?_ | refine ⟨_,I5 (cR _),?_⟩ | refine ⟨_,I5 (cM _),?_⟩ | rw [e2] | fail)
  exact rfl
 have hi':=D9 h
 obtain ⟨k1,k2,k3⟩:=hat i hi'
 have k1:(KK.getD (i:Int).toNat default).sold=(A.getD (i:Int).toNat default).qty:=k1
 have k2:(KK.getD (i:Int).toNat default).left=(A.getD (i:Int).toNat default).qty:=k2
 have k3:(KK.getD (i:Int).toNat default).sku=(A.getD (i:Int).toNat default).sku:=k3
 repeat' ((conv=>whnf);first | refine ldV at5 rfl (by omega) hf5 ?_ | refine ldV at4 rfl (by omega) hf4 ?_ | refine ⟨rfl,⟨by omega,by omega⟩,?_⟩ | rw [k1] | rw [k2] | rw [k3] | rw [e1] | fail)
 refine ⟨[],[],List.range 43,by kernel_rfl,?_⟩
 repeat' ((conv=>whnf);first | refine ldV at5 rfl (by omega) hf5 ?_ | refine ldV at4 rfl (by omega) hf4 ?_ | refine ⟨rfl,⟨by omega,by omega⟩,?_⟩ | rw [k1] | rw [k2] | rw [k3] | rw [e1] | fail)
 conv=>whnf
 rw [show ((A.getD (i:Int).toNat default).sku.toList==(A.getD (i:Int).toNat default).sku.toList)=true from D7v _];conv=>whnf
 refine F8 ?_
 exact nx hi' ⟨by rw [B3 (by omega)],rfl⟩
end Go.Proofs.YtaapofnkmpiknaaGreat
namespace Go.Ab
open Go Go.ChangeShapes
inductive LK where
 | bool
 | int (k:IntKind)
 | str
 | sl (ks:List LK)
def B2G (l:List AV):AV:=match l with | [v]=>v | l=>.agg l
inductive Fit:LK→AV→Prop
 | bool (b:Bool):Fit .bool (.bool b)
 | int (k:IntKind) (n:Int) (h:(Lit.int k n).wf=true):Fit (.int k) (.int k n)
 | str (s:ByteArray) (h:s.size≤maxLen):Fit .str (.str s)
 | sl (ks:List LK) (n:Nat) (L:Nat→List AV) (hn:n≤maxLen) (hl:∀ i,i<n→(L i).length=ks.length) (hf:∀ (i j:Nat) (y:AV) (k:LK),i<n→(L i)[j]?=some y→ks[j]?=some k→Fit k y):Fit (.sl ks) (.arr ks.length n fun i=>B2G (L i))
theorem Fit.one {k:LK} {v:AV} (h:Fit k v):v.one=true:=by cases h<;>rfl
theorem B9V {v:AV} (h:v.one=true):cellsOf v=[v]:=by cases v<;>first | rfl | cases h
theorem B2M {l:List AV} (h:∀ v∈l,v.one=true):cellsOf (B2G l)=l:=by
 unfold B2G
 split
 ·exact B9V (h _ (D5Q.2 rfl))
 ·rfl
theorem C1Y (a:Addr) (n m:Nat):a.add (n+m)=(a.add n).add m:=by
 unfold Addr.add
 by_cases h:n=0
 ·subst h;simp
 ·by_cases k:m=0
  ·subst k;simp [h]
  ·simp [h,k,D7U]
def B0d (P:Program) (r:TypeId→Option (List LK)):List Field→Nat→Option (List LK)
 | [],_=>some []
 | f::fs,o=>match Nat.beq f.offset o,r f.type with
  | true,some ks=>(match Nat.beq (P.cellsOf f.type) ks.length,B0d P r fs (o+ks.length) with
   | true,some l=>some (ks++l)
   | _,_=>none)
  | _,_=>none
def A6y (P:Program):Nat→TypeId→Option (List LK)
 | 0,_=>none
 | n+1,t=>match P.underlying t with
  | some .bool=>some [.bool]
  | some (.int k)=>some [.int k]
  | some .string=>some [.str]
  | some (.slice e)=>(match A6y P n e with
   | some ks=>(match Nat.beq (P.cellsOf e) ks.length with | true=>some [.sl ks] | false=>none)
   | none=>none)
  | some (.struct fs)=>(match B0d P (A6y P n) fs.toList 0 with
   | some ks=>(match Nat.beq (P.cellsOf t) ks.length with | true=>some ks | false=>none)
   | none=>none)
  | _=>none
structure FitL (w:World) (ks:List LK) (l:List AV) (cs:List Value):Prop where
 len:l.length=ks.length
 clen:cs.length=ks.length
 fit:∀ (j:Nat) (y:AV) (k:LK),l[j]?=some y→ks[j]?=some k→Fit k y
 rep:∀ (j:Nat) (y:AV) (c:Value),l[j]?=some y→cs[j]?=some c→L8 w st0 y c
theorem FitL.one {w:World} {ks:List LK} {l:List AV} {cs:List Value} (h:FitL w ks l cs):∀ v∈l,v.one=true:=fun v hv=>by
 obtain ⟨j,hj,rfl⟩:=D7k hv
 exact (h.fit j _ (ks[j]'(by rw [←h.len];exact hj)) (D5s hj) (D5s (by rw [←h.len];exact hj))).one
theorem FitL.nil (w:World):FitL w [] [] []:=⟨rfl,rfl,fun j y k h=>by simp at h,fun j y c h=>by simp at h⟩
theorem FitL.app {w:World} {ks ks':List LK} {l l':List AV} {cs cs':List Value} (h:FitL w ks l cs) (h':FitL w ks' l' cs'):FitL w (ks++ks') (l++l') (cs++cs'):=by
 have h1:=h.len;have h2:=h.clen;have h3:=h'.len;have h4:=h'.clen
 refine ⟨by simp [h1,h3],by simp [h2,h4],fun j y k hy hk=>?_,fun j y c hy hc=>?_⟩
 ·by_cases hj:j<l.length
  ·rw [D5J hj] at hy;rw [D5J (by omega)] at hk;exact h.fit j y k hy hk
  ·rw [D5H (by omega)] at hy;rw [D5H (by omega)] at hk
   rw [show j - l.length=j - ks.length by omega] at hy;exact h'.fit _ y k hy hk
 ·by_cases hj:j<l.length
  ·rw [D5J hj] at hy;rw [D5J (by omega)] at hc;exact h.rep j y c hy hc
  ·rw [D5H (by omega)] at hy;rw [D5H (by omega)] at hc
   rw [show j - l.length=j - cs.length by omega] at hy;exact h'.rep _ y c hy hc
theorem FitL.single {w:World} {k:LK} {v:AV} {c:Value} (h:Fit k v) (hr:L8 w st0 v c):FitL w [k] [v] [c] :=
 ⟨rfl,rfl,fun j y k' hy hk=>by cases j<;>simp at hy hk;subst hy;subst hk;exact h,fun j y c' hy hc=>by cases j<;>simp at hy hc;subst hy;subst hc;exact hr⟩
section
variable {H:Type} {enc:TypeId×Value→H} {P:Program} {w:World} {base:Nat} {spare:Nat→Bool} {held:Bool}
theorem A9B {n m:Nat} (ih:∀ (t:TypeId) (ks:List LK) (cs:List Value) (x:DataW H×List MemPlace),A6y P n t=some ks→DataW.trod enc P w base spare held m t cs=some x→∃ l,FitL w ks l cs) {cs:List Value} :
  ∀ (fs:List Field) (o:Nat) (ks:List LK),B0d P (A6y P n) fs o=some ks→(∀ f∈fs,∃ x,DataW.trod enc P w base spare held m f.type ((cs.drop f.offset).take (P.cellsOf f.type))=some x)→∃ l,FitL w ks l ((cs.drop o).take ks.length)
 | [],o,ks,h,_=>by cases h;exact ⟨[],by simpa using FitL.nil w⟩
 | f::fs,o,ks,h,hx=>by
  unfold B0d at h
  split at h
  ·rename_i k1 ho hk1
   split at h
   ·rename_i k2 hc hk2
    cases h
    have ho:=D7i ho
    have hc:=D7i hc
    obtain ⟨x,h1⟩:=hx f (D5N ..)
    rw [ho,hc] at h1
    obtain ⟨l1,g1⟩:=ih f.type k1 _ x hk1 h1
    obtain ⟨l2,g2⟩:=A9B ih fs (o+k1.length) k2 hk2 fun f' hf=>hx f' (D5M _ hf)
    refine ⟨l1++l2,?_⟩
    have e:(cs.drop o).take (k1++k2).length=(cs.drop o).take k1.length++(cs.drop (o+k1.length)).take k2.length:=by
     rw [D5x,List.take_add,List.drop_drop]
    rw [e];exact g1.app g2
   ·cases h
  ·cases h
theorem open_kinds:∀ (n m:Nat) (t:TypeId) (ks:List LK) (cs:List Value) (x:DataW H×List MemPlace),A6y P n t=some ks→DataW.trod enc P w base spare held m t cs=some x→∃ l,FitL w ks l cs
 | 0,m,t,ks,cs,x,h,_=>by cases h
 | n+1,m,t,ks,cs,x,h,hx=>by
  unfold A6y at h
  split at h
  ·rename_i ht;cases h;obtain ⟨b,rfl,_⟩:=DataW.trod_bool ht hx;exact ⟨[.bool b],.single (.bool b) (.bool b)⟩
  ·rename_i k ht;cases h;obtain ⟨i,rfl,_,hw⟩:=DataW.trod_int ht hx;exact ⟨[.int k i],.single (.int k i hw) (.int k i)⟩
  ·rename_i ht;cases h;obtain ⟨s,rfl,_,hs⟩:=DataW.trod_string ht hx;exact ⟨[.str s],.single (.str s hs) (.str s)⟩
  ·rename_i e ht
   split at h
   case h_2=>cases h
   rename_i ks' hk
   split at h
   case h_2=>cases h
   rename_i hb
   cases h
   have hb:=D7i hb
   rcases DataW.trod_slice ht hx with ⟨rfl,_⟩ | ⟨a,len,cap,elems,rest,m',rfl,rfl,_,hba,hl,hm,hlen,hel,_,_⟩
   ·exact ⟨[.arr ks'.length 0 (fun _=>B2G [])],.single (.sl ks' 0 (fun _=>[]) (D5L _) (fun i hi=>absurd hi (by omega)) (fun i j y k hi=>absurd hi (by omega))) (.arr _ 0 _ none 0 (fun _ _=>undef) (D5u _) (fun h=>absurd h (by omega)) (fun i hi=>absurd hi (by omega)) (fun i hi=>absurd hi (by omega)) (fun a ha=>by cases ha) (fun i j y hi=>absurd hi (by omega)))⟩
   ·have hall:∀ i,∃ p:List AV×List Value,i<len→w.cells? base (a.add (i * P.cellsOf e)) (P.cellsOf e)=some p.2∧FitL w ks' p.1 p.2:=fun i=>by
     by_cases hi:i<len
     ·have h1:=hel i hi
      rw [D5s (by omega),D6y] at h1
      obtain ⟨c1,h2,h3⟩:=h1
      obtain ⟨l,h4⟩:=open_kinds n m' e ks' c1 _ hk h3
      exact ⟨(l,c1),fun _=>⟨h2,h4⟩⟩
     ·exact ⟨([],[]),fun h=>absurd h hi⟩
    obtain ⟨p,hp⟩:=Classical.axiomOfChoice hall
    refine ⟨[.arr ks'.length len (fun i=>B2G (p i).1)],.single (.sl ks' len (fun i=>(p i).1) (by omega) (fun i hi=>(hp i hi).2.len) (fun i j y k hi=>(hp i hi).2.fit j y k)) ?_⟩
    have hc:∀ i,i<len→cellsOf (B2G (p i).1)=(p i).1:=fun i hi=>B2M (hp i hi).2.one
    refine .arr _ len _ (some a) cap (fun i j=>(p i).2.getD j undef) hl (fun _=>⟨a,rfl⟩) (fun i hi=>by rw [hc i hi];exact (hp i hi).2.len) (fun i hi=>by rw [hc i hi];exact D5I.2 (hp i hi).2.one) (fun b hb' i j hi hj=>?_) (fun i j y hi hy=>?_)
    ·cases hb'
     have h5:=(World.cells?_some (hp i hi).1)
     have h6:=h5.2.2 j (by omega)
     have hj2:j<(p i).2.length:=by rw [(hp i hi).2.clen];exact hj
     show w.cell? _=_
     rw [D5l,D5s hj2,Option.getD_some]
     rw [D5s hj2] at h6
     rw [←h6,hb];show w.cell? _=w.cell? _;rw [C1Y]
    ·rw [hc i hi] at hy
     have hj:j<(p i).1.length:=(D5D.1 hy).1
     have hj2:j<(p i).2.length:=by rw [(hp i hi).2.clen,←(hp i hi).2.len];exact hj
     rw [D5l,D5s hj2,Option.getD_some]
     exact (hp i hi).2.rep j y _ hy (D5s hj2)
  ·rename_i fs ht
   split at h
   case h_2=>cases h
   rename_i ks' hk
   split at h
   case h_2=>cases h
   rename_i hb
   cases h
   have hb:=D7i hb
   obtain ⟨xs,m',rfl,_,hlen,hxl,hf⟩:=DataW.trod_struct ht hx
   obtain ⟨l,hl⟩:=A9B (fun t ks cs x=>open_kinds n m' t ks cs x) (cs:=cs) fs.toList 0 ks hk fun f hfm=>by
    obtain ⟨i,hi,rfl⟩:=D7k hfm
    have:=hf i fs[i] (by simp at hi;simp [hi])
    rw [D5s (by simp at hi;omega)] at this
    exact ⟨_,by simpa using this⟩
   refine ⟨l,?_⟩
   rw [List.drop_zero,D7p (by omega)] at hl
   exact hl
  ·cases h
end
end Go.Ab
