/- Part 24 of the proof: contracts -/
import Derived.Test.YtaapofnkmpiknaaGreatPt23
set_option maxRecDepth 100000
set_option linter.unusedVariables false
set_option linter.unusedSimpArgs false
namespace Go.Proofs.YtaapofnkmpiknaaGreat
open Go Go.Ab
attribute [local irreducible] upd del
theorem PxR.more {bx:Nat} {items:List Ab.Item} {p:PSt} {s t t':St} (h:PxR bx items p s t) (hs:F8 t t'):PxR bx items p s t':=by
 obtain ⟨v,h1,y,h2,s1,h3,s2,h4,h5⟩:=h
 exact ⟨v,h1,y,h2,s1,h3,s2,h4,h5.trans hs⟩
structure A7t (items:List Ab.Item) (us:List B3):Prop where
 ok:E5 us
 few:items.length≤100000
 line:∀ u∈us,0≤u.line∧u.line.toNat<items.length
theorem A7t.off {items:List Ab.Item} {us us':List B3} {x:Int} (h:A7t items us) (ho:Off us us' x):A7t items us' :=
 ⟨ho.ok h.ok,h.few,fun u hu=>by
  obtain ⟨k,hk,rfl⟩:=D2 hu
  have h1:=ho.line k
  have h2:=h.line (gU us k) (A5 (by rw [←ho.len];exact hk))
  show 0≤(gU us' k).line∧(gU us' k).line.toNat<items.length
  rw [h1];exact h2⟩
def A2E (items:List Ab.Item) (us:List B3) (pr:B1):List B3×Int :=
 if A2p us (K0 pr.scope items us us.length)<pr.least then ([],0)
 else if pr.kind=3 then X7 pr us (K0 pr.scope items us us.length) else A0p pr us (K0 pr.scope items us us.length)
theorem C8Y {P:Program} {f:FuncId} {args:List AV} {st st1:St} {v:AV} {K:KK} (h:S P f args st fun v' st'=>v'=v∧st'=st1) (hK:K v st1):A2l P f args st K:=call h fun v' st' ⟨e1,e2⟩=>by rw [e1,e2];exact hK
theorem C5x (bx:Nat) (items:List Ab.Item) (p:PSt) (pr:B1) (hfit:R5 pr) (hright:I0 pr=true) (hk:pr.kind≠4∧pr.kind≠7) (hu:A7t items p.us) (s t:St) (h:PxR bx items p s t) :
  S P 232 [.optr 4 bx 0 0,B8 pr] t fun v t'=>v=.tuple [C4 (A2E items p.us pr).1,eI (A2E items p.us pr).2]∧t'=t:=by
 have hok:=A4b hright
 have hm:=A2b pr.scope items p.us
 have hml:=hm.len
 have hul:=hu.ok.len
 refine S.post (post:=fun v t'=>(v=.tuple [C4 (A2E items p.us pr).1,eI (A2E items p.us pr).2]∨(A2E items p.us pr=([],0)∧v=.tuple [.emp,eI 0]))∧t'=t) ?_ (fun v t' ⟨hv,ht⟩=>by
  subst ht
  rcases hv with rfl | ⟨h1,rfl⟩
  ·exact ⟨_,_,⟨rfl,rfl⟩,A7.refl _ _⟩
  ·exact ⟨_,_,⟨rfl,rfl⟩,by rw [h1];exact A7.tuple (A7.cons (I5 3 _) (A7.keep _ _)) rfl⟩)
 obtain ⟨dv,gv,fx,hx,hx0,hdv,hgv⟩:=h.at
 refine F7 [3] Tryz.func232 ?_
 refine I3 (C4w bx items p pr.scope hok.skus hok.cats hul hu.few hu.line s t h) ?_
 refine ⟨[],[],[0,1,2,3,4,5],by kernel_rfl,?_⟩;conv=>whnf
 refine ⟨_,F3 (D1c bx items p hu.ok _ (by omega) hm.rng s t h),?_⟩
 have hS:A2E items p.us pr=if A2p p.us (K0 pr.scope items p.us p.us.length)<pr.least then ([],0) else if pr.kind=3 then X7 pr p.us (K0 pr.scope items p.us p.us.length) else A0p pr p.us (K0 pr.scope items p.us p.us.length):=rfl
 conv=>whnf
 refine B7 (fun h1=>?_) (fun h1=>?_)<;>rw [h1]<;>simp only [D7d,D7e] at h1
 ·rw [if_pos h1] at hS;conv=>whnf
  exact ⟨.inr ⟨hS,rfl⟩,rfl⟩
 rw [if_neg h1] at hS;conv=>whnf
 refine B7 (fun h2=>?_) (fun h2=>?_)<;>rw [h2]<;>simp only [D7Z,D7P] at h2
 ·rw [if_pos h2] at hS;conv=>whnf
  refine ⟨[],[],[0,1,2,3,4,5,6,7,8,9,10],by kernel_rfl,?_⟩;conv=>whnf
  refine L1 hx hx0 ?_
  refine cqW (C3L pr p.us _ hfit hright h2 (hok.buy h2) hu.ok hm t) ?_
  exact ⟨.inl (by rw [hS];rfl),rfl⟩
 ·rw [if_neg h2] at hS
  have hask:A5X pr:=hok.ask hfit (by have:=hok.kind;have:=hk.1;have:=hk.2;omega)
  conv=>whnf
  refine ⟨[],[],[0,1,2,3,4,5,6,7,8,9,10],by kernel_rfl,?_⟩;conv=>whnf
  refine L1 hx hx0 ?_
  refine cqW (C6y pr p.us _ hask hu.ok hm t) ?_
  exact ⟨.inl (by rw [hS];rfl),rfl⟩
theorem C4f (a b:List Int) (j:Nat):gI (a++b) (a.length+j)=gI b j:=by
 unfold gI
 rw [D7c,D7c,D7A (by omega),Nat.add_sub_cancel_left]
theorem C9q (bx:Nat) (t:St):S P 270 [.optr 4 bx 0 0,.emp] t fun v t'=>v=eI 0∧t'=t:=by
 refine F7 [] Tryz.func270 ?_
 refine B2g [0,5,8,9,10] ?_;conv=>whnf
 intro I;conv=>whnf
 exact ⟨rfl,rfl⟩
def R8 (items:List Ab.Item) (us:List B3) (pr:B1):List (List Int):=pr.parts.map fun x=>K0 x.scope items us us.length
def A0L (items:List Ab.Item) (us:List B3) (pr:B1) (i:Nat):List Int:=((R8 items us pr).take i).flatten
def A1r (items:List Ab.Item) (us:List B3) (pr:B1):List B3×Int :=
 if A2p us (Z5 (C3 (A0L items us pr pr.parts.length)))<pr.least then ([],0) else S5 pr us (R8 items us pr)
theorem A9t (items:List Ab.Item) (us:List B3) (pr:B1) {i:Nat} (hi:i<pr.parts.length):A0L items us pr (i+1)=A0L items us pr i++K0 (pr.parts.getD i default).scope items us us.length:=by
 unfold A0L
 have hl:(R8 items us pr).length=pr.parts.length:=D7i ..
 rw [L6 (by omega),List.flatten_append]
 congr 1
 have:(R8 items us pr).getD i default=K0 (pr.parts.getD i default).scope items us us.length:=D4 (fun x:A2H=>K0 x.scope items us us.length) pr.parts hi
 rw [this];simp
theorem B1u (items:List Ab.Item) (us:List B3) (pr:B1):∀ i,i≤pr.parts.length→(A0L items us pr i).length≤i * us.length
 | 0,_=>by simp [A0L]
 | i+1,h=>by
  have ih:=B1u items us pr i (by omega)
  rw [A9t items us pr (by omega),D7p]
  have:=A3w (pr.parts.getD i default).scope items us us.length
  have e:(i+1) * us.length=i * us.length+us.length:=Nat.succ_mul i us.length
  omega
theorem B3T {l:List Int} {x:Int} (h:x∈Z5 l):x∈l:=by
 unfold Z5 Go.Lib.compactUpTo at h
 obtain ⟨k,hk,rfl⟩:=D7y.1 h
 have hk2:k<l.length:=D7t.1 (D8d.1 hk).1
 have:l.toArray[k]! = l[k]:=by rw [getElem!_pos _ k (by simpa using hk2)];simp
 rw [this];exact D8y hk2
theorem B1v {items:List Ab.Item} {us:List B3} {pr:B1} {i:Nat} {x:Int} (h:x∈A0L items us pr i):0≤x∧x.toNat<us.length:=by
 unfold A0L at h
 obtain ⟨l,hl,hx⟩:=List.mem_flatten.1 h
 obtain ⟨q,hq,rfl⟩:=D7y.1 (D8e _ _ hl)
 obtain ⟨k,hk,rfl⟩:=D2 hx
 exact (A2b q.scope items us).rng k hk
theorem C2c (bx:Nat) (items:List Ab.Item) (p:PSt) (pr:B1) (hfit:R5 pr) (hright:I0 pr=true) (hk:pr.kind=4) (hu:A7t items p.us) (s t:St) (h:PxR bx items p s t) :
  S P 233 [.optr 4 bx 0 0,B8 pr] t fun v t'=>v=.tuple [C4 (A1r items p.us pr).1,eI (A1r items p.us pr).2]∧t'=t:=by
 have hok:=A4b hright
 obtain ⟨hbun,hsc⟩:=hok.bun hk
 have hn8:=hbun.n8
 have hul:=hu.ok.len
 have hpl:(R8 items p.us pr).length=pr.parts.length:=D7i ..
 have hpm:∀ x∈R8 items p.us pr,O4 p.us x:=fun x hx=>by
  obtain ⟨q,hq,rfl⟩:=D7y.1 hx
  exact A2b _ _ _
 refine S.post (post:=fun v t'=>(v=.tuple [C4 (A1r items p.us pr).1,eI (A1r items p.us pr).2]∨(A1r items p.us pr=([],0)∧v=.tuple [.emp,eI 0]))∧F8 t t') ?_ (fun v t' ⟨hv,ht⟩=>by
  rcases hv with rfl | ⟨h1,rfl⟩
  ·exact ⟨_,_,⟨rfl,rfl⟩,ht.shift _⟩
  ·exact ⟨_,_,⟨rfl,rfl⟩,by rw [h1];exact (ht.shift _).trans (A7.tuple (A7.cons (I5 3 _) (A7.keep _ _)) rfl)⟩)
 have hBi:=fun (n:Nat) (sv:AV) (fo:Nat→AV)=>W0 Q1 3 1 fo n sv
 refine F7 [3,9] Tryz.func233 ?_
 refine ⟨[0,3,6,7,12,13,14],fun m vs t'=>∃ (i:Nat) (sv1 sv2:AV),i≤pr.parts.length∧m=pr.parts.length - i∧vs=[.optr 4 bx 0 0,.fptr (B8 pr) 0,sv1,sv2,A8 3 A1L pr.parts,eI pr.parts.length,eI i] ∧
  ROut (fun s t'=>ROut F8 3 1 (fun k=>eI (gI (A0L items p.us pr i) k)) (A0L items p.us pr i).length s sv2 t') 29 1 (fun k=>A9 ((R8 items p.us pr).getD k default)) i t sv1 t',?_,?_⟩
 ·conv=>whnf
  exact ⟨_,0,.emp,.emp,D7C _,rfl,rfl,ROut.start (ROut.start (F8.refl _) _ _ _) _ _ _⟩
 ·rintro m vs t' ⟨i,sv1,sv2,hi,rfl,rfl,hout⟩
  have hal:=B1u items p.us pr i hi
  have hal2:i * p.us.length≤8 * 100000:=Nat.mul_le_mul (by omega) hul
  have hsup:F8 t t':=hout.sup (hBi _ _ _)
  conv=>whnf
  cases hd:decide ((i:Int)<(pr.parts.length:Int))
  ·have:=D7g hd
   obtain rfl:i=pr.parts.length:=by omega
   obtain ⟨s1,hc1,hout2⟩:=hout
   generalize hA:A0L items p.us pr pr.parts.length=A at *
   have hAm:∀ x∈A,0≤x∧x.toNat<p.us.length:=fun x hx=>B1v (by rw [hA];exact hx)
   have hSl:(C3 A).length=A.length:=Z2 A
   have hCl:=A9x (C3 A)
   have hCm:∀ k,k<(Z5 (C3 A)).length→0≤gI (Z5 (C3 A)) k∧(gI (Z5 (C3 A)) k).toNat<p.us.length:=fun k hk=>hAm _ (W5.1 (B3T (A5 hk)))
   conv=>whnf
   refine call (B4A Q1 (by omega) hout2) (fun v t2 hv=>?_)
   obtain ⟨rfl,hout3⟩:=hv
   have hsup2:F8 s1 t2:=hout3.sup Q1
   have hB:A1r items p.us pr=if A2p p.us (Z5 (C3 A))<pr.least then ([],0) else S5 pr p.us (R8 items p.us pr):=by unfold A1r;rw [hA]
   -- what is behind the two,with the store as it is then
   have fin:∀ t3,F8 s1 t3→∀ K:KK,(∀ v,v=.tuple [C4 (S5 pr p.us (R8 items p.us pr)).1,eI (S5 pr p.us (R8 items p.us pr)).2]→K v t)→A2l P 275 [B8 pr,C4 p.us,sv1] t3 K:=fun t3 h3 K hK=>by
    have hsh:A7 [B8 pr,C4 p.us,sv1] t3 [B8 pr,C4 p.us,A8 1 A9 (R8 items p.us pr)] t:=by
     refine A7.cons (A7.keep _ _) (A7.cons (A7.keep _ _) ?_)
     have e:A8 1 A9 (R8 items p.us pr)=.arr 1 pr.parts.length (fun k=>A9 ((R8 items p.us pr).getD k default)):=by unfold A8;rw [hpl]
     rw [e]
     exact (h3.shift _).trans hc1.shift
    refine E2 hsh (call (C3K pr p.us (R8 items p.us pr) hfit hright hk hbun hu.ok hpl hpm t) (fun v t4 hv=>?_))
    rw [hv.2];exact hK v hv.1
   have hpx:∀ t3,F8 s1 t3→PxR bx items p s t3:=fun t3 h3=>h.more (hc1.sup.trans h3)
   conv=>whnf
   refine ⟨[2,5],[],[],.qui 0 (.qui 1 (.qui 4 (.two 2 5 (.qui 5 (.qui 3 (.qui 6 .done))) (.gen 2 (.qui 3 (.qui 6 .done)))))),by kernel_rfl,?_⟩
   obtain ⟨s2,hc2,hs2⟩:=hout3
   rcases hc2 with ⟨h0,rfl,rfl⟩ | ⟨h0,b2,g2,hb2,rfl,rfl,hg2⟩
   ·have hA0:A=[]:=D7O h0
    have hnet:A2p p.us (Z5 (C3 A))=0:=by
     have:Z5 (C3 A)=[]:=D7O (by omega)
     rw [this];rfl
    rw [hnet] at hB;conv=>whnf
    constructor
    all_goals conv=>whnf
    all_goals refine B2 (B8u _) ?_
    all_goals conv=>whnf
    all_goals refine ⟨_,F3 (C9q bx _),?_⟩
    all_goals conv=>whnf
    all_goals refine B7 (fun h1=>?_) (fun h1=>?_)<;>rw [h1]<;>simp only [D7d,D7e] at h1
    all_goals first
     | (rw [if_pos h1] at hB
        conv=>whnf
        exact ⟨.inr ⟨hB,rfl⟩,hc1.sup.trans hs2⟩)
     | (rw [if_neg h1] at hB
        obtain ⟨dv,gv,fx,hx,hx0,_,_⟩:=(hpx _ hs2).at
        conv=>whnf
        refine ⟨[6],[],[0,1,2,3,4,5,6,7,8,9,10],by kernel_rfl,?_⟩;conv=>whnf
        refine L1 hx hx0 ?_
        refine fin _ hs2 _ (fun v hv=>?_)
        subst hv;conv=>whnf
        exact ⟨.inl (by rw [hB];rfl),F8.refl _⟩)
   ·have hb2t:=hs2 b2 _ (A0 ..)
    have hC:=C1u b2 (C3 A) (by omega) t2 ⟨g2,by rw [hb2t,hSl],fun k hk=>hg2 k (by omega)⟩
    rw [hSl] at hC
    have hs3:∀ y,F8 s1 (upd t2 b2 y):=fun y=>hsup2.over hb2
    have hN:=fun t3 (h3:F8 s1 t3) (e3:t3=upd t2 b2 (A6D (A8x (C3 A))))=>C9r bx items p hu.ok (Z5 (C3 A)) (by omega) hCm s t3 (hpx t3 h3) b2 (A8x (C3 A)).length (fun k=>eI (gI (A8x (C3 A)) k)) (by rw [B3U];omega) (by rw [e3,A0];rfl) (fun k hk=>by rw [C6P hk])
    conv=>whnf
    constructor
    all_goals conv=>whnf
    all_goals refine C8Y hC ?_
    all_goals conv=>whnf
    all_goals refine ⟨_,F3 (hN _ (hs3 _) rfl),?_⟩
    all_goals conv=>whnf
    all_goals refine B7 (fun h1=>?_) (fun h1=>?_)<;>rw [h1]<;>simp only [D7d,D7e] at h1
    all_goals first
     | (rw [if_pos h1] at hB
        conv=>whnf
        exact ⟨.inr ⟨hB,rfl⟩,hc1.sup.trans (hs3 _)⟩)
     | (rw [if_neg h1] at hB
        obtain ⟨dv,gv,fx,hx,hx0,_,_⟩:=(hpx _ (hs3 (A6D (A8x (C3 A))))).at
        conv=>whnf
        refine ⟨[6],[],[0,1,2,3,4,5,6,7,8,9,10],by kernel_rfl,?_⟩;conv=>whnf
        refine L1 hx hx0 ?_
        refine fin _ (hs3 _) _ (fun v hv=>?_)
        subst hv;conv=>whnf
        exact ⟨.inl (by rw [hB];rfl),F8.refl _⟩)
  ·have hi':i<pr.parts.length:=by have:=D7h hd;omega
   have hq:=hsc (pr.parts.getD i default) (A5 hi')
   have hpk:(R8 items p.us pr).getD i default=K0 (pr.parts.getD i default).scope items p.us p.us.length:=D4 (fun x:A2H=>K0 x.scope items p.us p.us.length) pr.parts hi'
   have hls:=A9t items p.us pr hi'
   have hml:=A3w (pr.parts.getD i default).scope items p.us p.us.length
   conv=>whnf
   refine E9 ?_
   refine I3 (C4w bx items p (pr.parts.getD i default).scope hq.1 hq.2 hul hu.few hu.line s t' (h.more hsup)) ?_
   refine ROut.app (q:=r29) (hBi _ _ _) rfl rfl rfl rfl rfl (by simp only [hpk];rfl) (by show (i+1) * 24≤140737488355328;omega) hout (fun sv1' t2 hout2=>?_);conv=>whnf
   obtain ⟨s1,hc1,hin⟩:=hout2
   refine ROut.apps (q:=r3) (n:=(A0L items p.us pr i).length) (m:=(K0 (pr.parts.getD i default).scope items p.us p.us.length).length) Q1 rfl rfl rfl rfl (B5R rfl _) (f:=fun k=>eI (gI (A0L items p.us pr (i+1)) k)) (fun j hj=>?_) (by show ((A0L items p.us pr i).length+(K0 (pr.parts.getD i default).scope items p.us p.us.length).length) * 8≤140737488355328;omega) (hin.congr fun k hk=>by rw [hls,O1 hk]) (fun sv2' t3 hout3=>?_)
   ·rw [hls]
    show eI (gI (K0 (pr.parts.getD i default).scope items p.us p.us.length) j)=eI (gI _ _)
    rw [C4f]
   conv=>whnf
   refine G3 ?_
   refine ⟨pr.parts.length - (i+1),by omega,i+1,sv1',sv2',by omega,rfl,by rw [B4 (by omega)],s1,hc1,?_⟩
   rw [hls,D7p,←hls];exact hout3
def A0x (items:List Ab.Item) (us:List B3) (pr:B1):List B3×Int:=if pr.kind=4 then A1r items us pr else A2E items us pr
def A5i (items:List Ab.Item) (p:PSt) (pr:B1):PSt :=
 if (A0x items p.us pr).2>0 then A2c ⟨(A0x items p.us pr).1,p.deals,p.groups⟩ pr (A0x items p.us pr).2 else p
theorem C1c {items:List Ab.Item} {us:List B3} (hu:A7t items us) {pr:B1} (hfit:R5 pr) (hright:I0 pr=true) (hk:pr.kind≠7):A0x items us pr=([],0)∨Off us (A0x items us pr).1 (A0x items us pr).2:=by
 have hok:=A4b hright
 unfold A0x
 split
 ·rename_i h4
  unfold A1r
  split
  ·exact .inl rfl
  ·right
   have hpl:(R8 items us pr).length=pr.parts.length:=D7i ..
   exact B6p (hok.bun h4).1 hu.ok hpl fun k hk=>by
    have hm:=A5 (l:=R8 items us pr) hk
    obtain ⟨q,hq,he⟩:=D7y.1 hm
    rw [show (R8 items us pr).getD k []=(R8 items us pr).getD k default from rfl,←he]
    exact A2b _ _ _
 ·rename_i h4
  unfold A2E
  split
  ·exact .inl rfl
  ·right
   split
   ·rename_i h3
    exact B6q (hok.buy h3) hu.ok (A2b _ _ _)
   ·rename_i h3
    exact B8n (hok.ask hfit (by have:=hok.kind;omega)) hu.ok (A2b _ _ _)
theorem B6m {items:List Ab.Item} {p:PSt} (hu:A7t items p.us) {pr:B1} (hfit:R5 pr) (hright:I0 pr=true) (hk:pr.kind≠7):∃ x,Off p.us (A5i items p pr).us x:=by
 unfold A5i
 split
 ·rename_i h0
  rcases C1c hu hfit hright hk with e | e
  ·rw [e] at h0;exact absurd h0 (by decide)
  ·exact ⟨_,e⟩
 ·exact ⟨0,Off.refl hu.ok⟩
theorem D0J (bx:Nat) (items:List Ab.Item) (p:PSt) (pr:B1) (hfit:R5 pr) (hright:I0 pr=true) (hk:pr.kind≠7) (hu:A7t items p.us) (hd:p.deals.length≤1000) (hg:p.groups.length≤1000) (s t:St) (h:PxR bx items p s t) :
  S P 183 [.optr 4 bx 0 0,B8 pr] t fun v t'=>v=.tuple []∧PxR bx items (A5i items p pr) s t':=by
 have key:∀ K:KK,(∀ v,v=.tuple [C4 (A0x items p.us pr).1,eI (A0x items p.us pr).2]→K v t)→A2l P (if pr.kind=4 then 233 else 232) [.optr 4 bx 0 0,B8 pr] t K:=fun K hK=>by
  unfold A0x at hK
  split
  ·rename_i h4
   rw [if_pos h4] at hK
   exact call (C2c bx items p pr hfit hright h4 hu s t h) (fun v t' hv=>by rw [hv.2];exact hK v hv.1)
  ·rename_i h4
   rw [if_neg h4] at hK
   exact call (C5x bx items p pr hfit hright ⟨h4,hk⟩ hu s t h) (fun v t' hv=>by rw [hv.2];exact hK v hv.1)
 obtain ⟨⟨dv,gv⟩,hbx,y,⟨f,rfl,hf⟩,hRD⟩:=h
 simp only at hf hRD
 have hA:A5i items p pr=if (A0x items p.us pr).2>0 then A2c ⟨(A0x items p.us pr).1,p.deals,p.groups⟩ pr (A0x items p.us pr).2 else p:=rfl
 have h0:PxR bx items p s t:=⟨(dv,gv),hbx,_,⟨f,rfl,hf⟩,hRD⟩
 refine F7 [3] Tryz.func183 ?_
 refine B7 (fun h4=>?_) (fun h4=>?_)<;>rw [h4]<;>simp only [D7Z,D7P] at h4
 ·rw [if_pos h4] at key;conv=>whnf
  refine key _ (fun v hv=>?_)
  subst hv;conv=>whnf
  refine B7 (fun h5=>?_) (fun h5=>?_)<;>rw [h5]<;>simp only [D7d,D7e] at h5
  ·rw [if_pos h5] at hA
   rw [hA];conv=>whnf
   refine stW hRD.at hf ?_
   refine call (B8Z bx items ⟨(A0x items p.us pr).1,p.deals,p.groups⟩ pr _ hd hg s _ (PxR.fin hbx hRD _ (by rw [A6];rfl))) (fun v t' hv=>?_)
   obtain ⟨rfl,h6⟩:=hv
   conv=>whnf
   exact ⟨rfl,h6⟩
  ·rw [if_neg h5] at hA
   rw [hA];conv=>whnf
   exact ⟨rfl,h0⟩
 ·rw [if_neg h4] at key;conv=>whnf
  refine key _ (fun v hv=>?_)
  subst hv;conv=>whnf
  refine B7 (fun h5=>?_) (fun h5=>?_)<;>rw [h5]<;>simp only [D7d,D7e] at h5
  ·rw [if_pos h5] at hA
   rw [hA];conv=>whnf
   refine stW hRD.at hf ?_
   refine call (B8Z bx items ⟨(A0x items p.us pr).1,p.deals,p.groups⟩ pr _ hd hg s _ (PxR.fin hbx hRD _ (by rw [A6];rfl))) (fun v t' hv=>?_)
   obtain ⟨rfl,h6⟩:=hv
   conv=>whnf
   exact ⟨rfl,h6⟩
  ·rw [if_neg h5] at hA
   rw [hA];conv=>whnf
   exact ⟨rfl,h0⟩
def A7B (p:PSt) (pr:B1) (net ship:Int):Int×PSt :=
 if net<pr.least then (ship,p) else (ship - J9 ship pr.rate,if J9 ship pr.rate>0 then A2c p pr (J9 ship pr.rate) else p)
theorem B9z (bx:Nat) (items:List Ab.Item) (p:PSt) (pr:B1) (net ship:Int) (h0:0≤ship) (h1:ship≤10000000000000) (hd:p.deals.length≤1000) (hg:p.groups.length≤1000) (s t:St) (h:PxR bx items p s t) :
  S P 186 [.optr 4 bx 0 0,B8 pr,eI net,eI ship] t fun v t'=>v=eI (A7B p pr net ship).1∧PxR bx items (A7B p pr net ship).2 s t':=by
 have hS:A7B p pr net ship=if net<pr.least then (ship,p) else (ship - J9 ship pr.rate,if J9 ship pr.rate>0 then A2c p pr (J9 ship pr.rate) else p):=rfl
 have hb:=U7 ship pr.rate
 have w:IntKind.i64.wrap (ship - J9 ship pr.rate)=ship - J9 ship pr.rate:=A4 (by omega) (by omega)
 refine F7 [5] Tryz.func186 ?_
 refine B7 (fun h2=>?_) (fun h2=>?_)<;>rw [h2]<;>simp only [D7d,D7e] at h2
 ·rw [if_pos h2] at hS
  rw [hS];conv=>whnf
  exact ⟨rfl,h⟩
 rw [if_neg h2] at hS
 rw [hS];conv=>whnf
 refine I3 (B5z ship pr.rate 1 t) ?_
 refine B7 (fun h3=>?_) (fun h3=>?_)<;>rw [h3]<;>simp only [D7d,D7e] at h3
 ·conv=>whnf
  refine call (B8Z bx items p pr _ hd hg s t h) (fun v t' hv=>?_)
  obtain ⟨rfl,h4⟩:=hv
  conv=>whnf
  have h3':J9 ship pr.rate>0:=h3
  rw [if_pos h3']
  refine ⟨?_,h4⟩
  show AV.int .i64 (IntKind.i64.wrap (ship - J9 ship pr.rate))=_
  rw [w]
 ·conv=>whnf
  have h3':¬ J9 ship pr.rate>0:=h3
  rw [if_neg h3']
  refine ⟨?_,h⟩
  show AV.int .i64 (IntKind.i64.wrap (ship - J9 ship pr.rate))=_
  rw [w]
def A1y (s:Ab.Ship) (units net:Int):Int:=if units=0∨(s.free>0∧net≥s.free) then 0 else s.fee
theorem D0P (s:Ab.Ship) (units net:Int) (t:St):S P 184 [C8p s,eI units,eI net] t fun v t'=>v=eI (A1y s units net)∧t'=t:=by
 refine F7 [3] Tryz.func184 ?_
 refine B7 (fun h1=>?_) (fun h1=>?_)<;>rw [h1]<;>simp only [D7Z,D7P] at h1
 ·conv=>whnf
  exact ⟨by unfold A1y;rw [if_pos (.inl h1)];rfl,rfl⟩
 conv=>whnf
 refine B7 (fun h2=>?_) (fun h2=>?_)<;>rw [h2]<;>simp only [D7d,D7e] at h2
 ·conv=>whnf
  refine B7 (fun h3=>?_) (fun h3=>?_)<;>rw [h3]<;>simp only [D7d,D7e] at h3
  ·conv=>whnf
   exact ⟨by unfold A1y;rw [if_pos (.inr ⟨h2,h3⟩)];rfl,rfl⟩
  ·conv=>whnf
   exact ⟨by unfold A1y;rw [if_neg (by rintro (e | ⟨_,e⟩)<;>contradiction)];rfl,rfl⟩
 ·conv=>whnf
  exact ⟨by unfold A1y;rw [if_neg (by rintro (e | ⟨e,_⟩)<;>contradiction)];rfl,rfl⟩
theorem B6I (pr:B1) (t:St):S P 180 [B8 pr] t fun v t'=>v=.bool (pr.kind==7)∧t'=t:=by
 refine F7 [1] Tryz.func180 ?_
 exact ⟨rfl,rfl⟩
theorem C4B (pr:B1) (t:St):S P 182 [B8 pr,.fptr (.fn (.func 180) [] []) 0] t fun v t'=>v=.bool (!(pr.kind==7))∧t'=t:=by
 refine F7 [2] Tryz.func182 ?_
 refine I3 (B6I pr t) ?_
 exact ⟨rfl,rfl⟩
theorem B7p {R R':St→St→Prop} (hR:K7 R) (hm:∀ s t t',R s t→F8 t t'→R s t') (hR':K7 R') {f:FuncId} {args:List AV} {w:AV} {s t0 t:St} {q:Nat} {fl:Bool} {es:List QE} (h:R s t0) (hq:QSt t0 q fl es t)
  (hS:∀ u,R u t→S P f args t fun v t'=>v=w∧R' u t'):S P f args t fun v t'=>v=w∧∃ t0',R' s t0'∧QSt t0' q fl es t':=by
 obtain ⟨bo,hF,hn⟩:=hq.foot
 obtain ⟨y1,hy1⟩:=hF.some (.inl rfl)
 have hq0:=hn q (.inl rfl)
 have hsq:s q=none:=(hR.sup h).none hq0
 cases bo with
 | none =>
  have h1:R (upd s q y1) t:=hm _ _ _ (hR.begin (y:=y1) h hq0) (fun c x hc=>by
   by_cases e:c=q
   ·subst e;rw [A0] at hc;rw [hy1];exact hc
   ·rw [B0 e] at hc;exact hq.sup c x hc)
  refine (hS _ h1).mono fun v t' hv=>⟨hv.1,del t' q,hR'.forget hv.2 hsq,?_⟩
  have hF':QF q none fl es t':=hF.frame fun c hc=>by
   rcases hc with rfl | hc
   ·rw [hR'.sup hv.2 c y1 (A0 ..),hy1]
   ·cases hc
  exact hF'.qst (fun c x hc=>by
   by_cases e:c=q
   ·subst e;rw [A4B] at hc;cases hc
   ·rw [A2U e] at hc;exact hc) (fun c hc=>by
    rcases hc with rfl | hc
    ·exact A4B ..
    ·cases hc)
 | some b =>
  obtain ⟨y2,hy2⟩:=hF.some (c:=b) (.inr rfl)
  have hb0:=hn b (.inr rfl)
  have hqb:q≠b:=by
   obtain ⟨sv,_,h3⟩:=hF.has
   rcases h3 with ⟨_,_,e⟩ | ⟨b',l,n,e,hne,_⟩
   ·cases e
   ·cases e;exact hne
  have hsb:s b=none:=(hR.sup h).none hb0
  have h1:R (upd (upd s b y2) q y1) t:=hm _ _ _ (hR.begin (y:=y1) (hR.begin (y:=y2) h hb0) (by rw [B0 hqb];exact hq0)) (fun c x hc=>by
   by_cases e:c=q
   ·subst e;rw [A0] at hc;rw [hy1];exact hc
   ·rw [B0 e] at hc
    by_cases e2:c=b
    ·subst e2;rw [A0] at hc;rw [hy2];exact hc
    ·rw [B0 e2] at hc;exact hq.sup c x hc)
  refine (hS _ h1).mono fun v t' hv=>⟨hv.1,del (del t' q) b,hR'.forget (hR'.forget hv.2 (by rw [B0 hqb];exact hsq)) hsb,?_⟩
  have hs':=hR'.sup hv.2
  have hF':QF q (some b) fl es t':=hF.frame fun c hc=>by
   rcases hc with rfl | hc
   ·rw [hs' c y1 (A0 ..),hy1]
   ·cases hc
    rw [hs' b y2 (by rw [B0 hqb.symm,A0]),hy2]
  exact hF'.qst (fun c x hc=>by
   by_cases e:c=b
   ·subst e;rw [A4B] at hc;cases hc
   ·rw [A2U e] at hc
    by_cases e2:c=q
    ·subst e2;rw [A4B] at hc;cases hc
    ·rw [A2U e2] at hc;exact hc) (fun c hc=>by
    rcases hc with rfl | hc
    ·rw [A2U hqb];exact A4B ..
    ·cases hc;exact A4B ..)
theorem B5T (l:List C8) (hl:l.length≤100000) (v:C8) (st:St) (b:Nat) (f:Nat→AV) (hb:st b=some ⟨9,1,l.length,f⟩) (hf:∀ k,k<l.length→f k=A7w l k) :
  S P 268 [.own 1 b 0 l.length,eS v] st fun r st'=>r=eI (idx (fun y:C8=>v.toList==y.toList) l)∧st'=st:=by
 refine F7 [] Tryz.func268 ?_
 refine ⟨[0,1,7,8],fun m vs st'=>∃ i:Nat,i≤l.length∧(∀ k,k<i→(v.toList==(l.getD k default).toList)=false)∧m=l.length - i∧vs=[.own 1 b 0 l.length,eS v,eI l.length,eI i]∧st'=st,?_,?_⟩
 ·conv=>whnf
  exact ⟨_,0,D7C _,fun k hk=>absurd hk (by omega),rfl,rfl,rfl⟩
 ·rintro m vs st' ⟨i,hi,hok,rfl,rfl,rfl⟩
  conv=>whnf
  cases h:decide ((i:Int)<(l.length:Int))
  ·have:=D7g h
   conv=>whnf
   refine ⟨?_,rfl⟩
   rw [U8 (p:=fun y:C8=>v.toList==y.toList) fun k hk=>hok k (by omega)];rfl
  ·have hi':i<l.length:=by have:=D7h h;omega
   conv=>whnf
   refine E9 ?_
   refine ldV hb rfl (by omega) (v:=eS (l.getD i default)) (by rw [show 0+(i:Int).toNat=i by omega];exact hf i hi') ?_;conv=>whnf
   cases hp:(v.toList==(l.getD i default).toList)
   ·conv=>whnf
    refine G3 ?_
    refine ⟨l.length - (i+1),by omega,i+1,by omega,fun k hk=>?_,rfl,by rw [B4 (by omega)],rfl⟩
    rcases D7Y.1 hk with h' | h'
    ·exact hok k h'
    ·rw [h'];exact hp
   ·conv=>whnf
    refine ⟨?_,rfl⟩
    rw [A1V (p:=fun y:C8=>v.toList==y.toList) hi' hok hp];rfl
theorem C2R (l:List C8) (hl:l.length≤100000) (v:C8) (st:St) (b:Nat) (f:Nat→AV) (hb:st b=some ⟨9,1,l.length,f⟩) (hf:∀ k,k<l.length→f k=A7w l k) :
  S P 231 [.own 1 b 0 l.length,eS v] st fun r st'=>r=.bool (inB l v)∧st'=st:=by
 refine F7 [] Tryz.func231 ?_
 refine I3 (B5T l hl v st b f hb hf) ?_
 refine ⟨?_,rfl⟩
 unfold inB
 rw [←A1U];rfl
theorem B5S (v:C8) (st:St):S P 268 [.emp,eS v] st fun r st'=>r=eI (-1)∧st'=st:=by
 refine F7 [] Tryz.func268 ?_
 refine B2g [0,1,7,8] ?_;conv=>whnf
 intro I;conv=>whnf
 exact ⟨rfl,rfl⟩
theorem C2Q (v:C8) (st:St):S P 231 [.emp,eS v] st fun r st'=>r=.bool false∧st'=st:=by
 refine F7 [] Tryz.func231 ?_
 refine I3 (B5S v st) ?_
 exact ⟨rfl,rfl⟩
theorem PxR.groups {bx:Nat} {items:List Ab.Item} {p:PSt} {s t:St} (h:PxR bx items p s t) (hg:p.groups.length≤1000):∃ dv gv f,t bx=some ⟨239,4,1,f⟩∧f 0=.agg [A8 4 F2 items,C4 p.us,dv,gv]∧(gv=.emp∨∃ b,gv=.own 1 b 0 p.groups.length) ∧
  ∀ (g:C8),S P 231 [gv,eS g] t fun r t'=>r=.bool (inB p.groups g)∧t'=t:=by
 obtain ⟨⟨dv,gv⟩,h⟩:=h
 obtain ⟨y,⟨f,rfl,hf⟩,hy⟩:=Z9.at (A3V _ _ _ _) h
 obtain ⟨_,_,_,hd⟩:=h
 obtain ⟨s0,hc,hg0⟩:=hd
 refine ⟨dv,gv,f,hy,hf,hg0.head,fun g=>?_⟩
 obtain ⟨s1,hc1,hs1⟩:=hg0
 rcases hc1 with ⟨h0,h1,rfl⟩ | ⟨h0,b,g0,hb,h1,rfl,hgg⟩
 ·have:p.groups=[]:=D7O h0
  subst h1
  rw [this]
  exact C2Q g t
 ·subst h1
  exact C2R p.groups (by omega) g t b g0 (hs1 b _ (A0 ..)) hgg
def goB {σ : Type} (px : σ→PSt) (step : σ→B1→σ) (a : σ) (pr:B1) : σ:=if N7 pr.group||!inB (px a).groups pr.group then step a pr else a
def A0j {σ : Type} (px : σ→PSt) (step : σ→B1→σ) (sm:B1→Bool) (l:List B1) (a : σ) (o:List Int) : σ:=(o.filter fun x=>sm (F6 l x)).foldl (fun a x=>goB px step a (F6 l x)) a
def A3a (sm:B1→Bool) (l:List B1) (o:List Int) (i:Nat):List QE:=((List.range i).filter fun k=>sm (F6 l (gI o k))).map fun (k:Nat)=>(-(k:Int),gI o k)
theorem B0x (sm:B1→Bool) (l:List B1) (o:List Int) (i:Nat):A3a sm l o (i+1)=A3a sm l o i++(if sm (F6 l (gI o i))=true then [(-(i:Int),gI o i)] else []):=by
 unfold A3a
 rw [D8G,D8Z,D7M]
 congr 1
 by_cases h:sm (F6 l (gI o i))=true
 ·rw [if_pos h,D8f (p:=fun k=>sm (F6 l (gI o k))) h];rfl
 ·rw [if_neg h,D8l (p:=fun k=>sm (F6 l (gI o k))) h];rfl
theorem B9l (sm:B1→Bool) (l:List B1) (o:List Int) (i:Nat):(A3a sm l o i).length≤i:=by
 unfold A3a
 rw [D7i]
 exact D8r (D9D ..) (by simp)
theorem B2x (sm:B1→Bool) (l:List B1) (o:List Int):∀ i,i≤o.length→(A3a sm l o i).map (·.2)=(o.take i).filter fun x=>sm (F6 l x)
 | 0,_=>by simp [A3a]
 | i+1,h=>by
  rw [B0x,D7M,B2x sm l o i (by omega),L6 (show i<o.length by omega),D8Z]
  congr 1
  show List.map (fun x=>x.2) (if sm (F6 l (gI o i))=true then [(-(i:Int),gI o i)] else [])=List.filter (fun x=>sm (F6 l x)) [gI o i]
  by_cases hs:sm (F6 l (gI o i))=true
  ·rw [if_pos hs,D8f (p:=fun x=>sm (F6 l x)) hs];rfl
  ·rw [if_neg hs,D8l (p:=fun x=>sm (F6 l x)) hs];rfl
theorem B3D (sm:B1→Bool) (l:List B1) (o:List Int) (i:Nat):(A3a sm l o i).Pairwise fun a b=>H2 b a=false:=by
 unfold A3a
 refine List.Pairwise.map _ (fun a b h=>?_) ((List.pairwise_lt_range (n:=i)).filter _)
 rw [T2]
 show ¬(-(b:Int) > -(a:Int)∨(-(b:Int) = -(a:Int)∧_))
 omega
theorem B7x {l:List B1} {codes:List C8} {o:List Int} (ho:B0L l codes o) {x:Int} (hx:x∈P9 l o):0≤x∧x.toNat<l.length:=by
 obtain ⟨e,he,rfl⟩:=D7y.1 hx
 have h:=A5A he
 exact A0U (ho.1.subset (A5 h.2))
theorem C0F {σ : Type} {N:Nat} (hN:A6e N) (bx:Nat) (items:List Ab.Item) (R : σ→St→St→Prop) (px : σ→PSt) (hR:∀ a,K7 (R a)) (hmore:∀ a s t t',R a s t→F8 t t'→R a s t') (hP:∀ a s t,R a s t→∃ s',PxR bx items (px a) s' t)
  (l:List B1) (codes:List C8) (hl:l.length≤60) (hc:codes.length≤9223372036854775807) (h20:(places l codes l.length).length≤N)
  (g:FuncId) (cs:List AV) (sm:B1→Bool) (hsome:∀ (pr:B1) (t:St),S P g (B8 pr::cs) t fun v t'=>v=.bool (sm pr)∧t'=t)
  (f:FuncId) (fs ds:List AV) (step : σ→B1→σ) (Inv : σ→Nat→Prop) (hgr:∀ a n,Inv a n→(px a).groups.length≤1000) (hle:∀ a n,Inv a (n+1)→Inv a n)
  (hdo:∀ (a : σ) (n:Nat) (pr:B1) (s t:St),pr∈l→sm pr=true→Inv a (n+1)→R a s t→S P f (fs++[B8 pr]++ds) t fun v t'=>v=.tuple []∧R (step a pr) s t')
  (hinv:∀ (a : σ) (n:Nat) (pr:B1),pr∈l→sm pr=true→Inv a (n+1)→Inv (step a pr) n) (a0 : σ) (hI:Inv a0 60) (s t:St) (h:R a0 s t) :
  S P 181 [.optr 4 bx 0 0,A8 15 B8 l,D5 codes,.fn (.func g) [] cs,.fn (.func f) fs ds] t fun v t'=>v=.tuple []∧∃ o,B0L l codes o∧R (A0j px step sm l a0 (P9 l o)) s t':=by
 refine F7 [] Tryz.func181 ?_
 refine call (B2y t) (fun v t1 hv=>?_)
 obtain ⟨q,rfl,hq⟩:=hv
 conv=>whnf
 refine call (C7s hN l codes hl hc h20 t1) (fun v t2 hv=>?_)
 obtain ⟨⟨o,ho,rfl⟩,rfl⟩:=hv
 have hmem:=fun {x:Int} (hx:x∈P9 l o)=>B7x ho hx
 have hrl:(P9 l o).length≤60:=by
  rw [D7i,A5z,ho.1.length_eq]
  have:=A1C l codes l.length;omega
 obtain ⟨r,hr⟩:∃ r:List Int,r=P9 l o:=⟨_,rfl⟩
 rw [←hr] at hrl
 have hmem':∀ x∈r,0≤x∧x.toNat<l.length:=fun x hx=>hmem (by rw [←hr];exact hx)
 have hInvle:∀ (a : σ) (n m:Nat),m≤n→Inv a n→Inv a m:=fun a n m hmn h=>by
  induction n with
  | zero=>have:m=0:=by omega
          subst this;exact h
  | succ n ih =>
   rcases D8E n m with h1 | h1
   ·have:m=n+1:=by omega
    subst this;exact h
   ·exact ih h1 (hle a n h)
 have hfin:∀ t',R (A0j px step sm l a0 r) s t'→∃ o,B0L l codes o∧R (A0j px step sm l a0 (P9 l o)) s t':=fun t' h=>⟨o,ho,by rw [←hr];exact h⟩
 have hv:A9 (P9 l o)=A9 r:=by rw [hr]
 rw [hv]
 clear hv
 conv=>whnf
 refine ⟨[0,1,3,4,10,19,20,21],fun m vs t'=>∃ i:Nat,i≤r.length∧m=r.length - i∧vs=[.optr 4 bx 0 0,A8 15 B8 l,.fn (.func g) [] cs,.fn (.func f) fs ds,.optr 1 q 0 0,A9 r,eI r.length,eI i]∧QSt t q true (A3a sm l r i) t',?_,?_⟩
 ·conv=>whnf
  exact ⟨_,0,D7C _,rfl,rfl,hq⟩
 ·clear hq
  rintro m vs t' ⟨i,hi,rfl,rfl,hq⟩
  have hpl:=B9l sm l r i
  conv=>whnf
  cases hd:decide ((i:Int)<(r.length:Int))
  ·have:=D7g hd
   obtain rfl:i=r.length:=by omega
   have hsnd:=B2x sm l r r.length (D7l _)
   rw [D7m] at hsnd;conv=>whnf
   refine ⟨[0,1,4,10],fun m vs t'=>∃ (a : σ) (rest:List QE) (fl:Bool) (t0:St),m=rest.length∧vs=[.optr 4 bx 0 0,A8 15 B8 l,.fn (.func f) fs ds,.optr 1 q 0 0]∧(rest.map (·.2)).foldl (fun a x=>goB px step a (F6 l x)) a=A0j px step sm l a0 r∧(∀ e∈rest,(0≤e.2∧e.2.toNat<l.length)∧sm (F6 l e.2)=true)∧(rest.Pairwise fun a b=>H2 b a=false)∧Inv a rest.length∧R a s t0∧QSt t0 q fl rest t',?_,?_⟩
   ·conv=>whnf
    refine ⟨_,a0,A3a sm l r r.length,true,t,rfl,rfl,by rw [hsnd];rfl,fun e he=>?_,B3D sm l r r.length,hInvle a0 60 _ (by omega) hI,h,hq⟩
    have:e.2∈(A3a sm l r r.length).map (·.2):=D9R he
    rw [hsnd] at this
    obtain ⟨h1,h2⟩:=D8d.1 this
    exact ⟨hmem' _ h1,h2⟩
   ·clear hq
    rintro m vs t' ⟨a,rest,fl,t0,rfl,rfl,hF,hrm,hsort,hIa,hRa,hq⟩
    conv=>whnf
    refine I3 (A9X _ _ _ _ _ hq) ?_
    cases rest with
    | nil =>
     conv=>whnf
     refine ⟨rfl,hfin t' ?_⟩
     rw [←hF]
     exact hmore _ _ _ _ hRa hq.sup
    | cons x rest =>
     rw [D8K] at hsort
     have hx:=hrm x (D7G ..)
     have hlen0:decide (((x::rest).length:Int)>0)=true:=D7D (by rw [D7N];omega)
     rw [hlen0];conv=>whnf
     refine call (A9Y _ _ _ _ _ _ hq hsort.1) (fun v t2 hv=>?_)
     obtain ⟨rfl,hq2⟩:=hv
     have hpr:F6 l x.2∈l:=A5 hx.1.2
     have hgl:=hgr a _ hIa
     obtain ⟨s',hpx⟩:=hP a s t2 (hmore _ _ _ _ hRa hq2.sup)
     obtain ⟨dv,gv,fx,hbx,hfx,hgv,hcont⟩:=hpx.groups hgl
     conv=>whnf
     -- what is behind the round
     have hgo:goB px step a (F6 l x.2)=if N7 (F6 l x.2).group||!inB (px a).groups (F6 l x.2).group then step a (F6 l x.2) else a:=rfl
     have hF2:(rest.map (·.2)).foldl (fun a x=>goB px step a (F6 l x)) (goB px step a (F6 l x.2))=A0j px step sm l a0 r:=by rw [←hF];rfl
     have round:∀ (b : σ) (t3:St),b=goB px step a (F6 l x.2)→Inv b rest.length→(∃ t0',R b s t0'∧QSt t0' q false rest t3)→∃ m',m'<rest.length+1∧∃ (a : σ) (rest_1:List QE) (fl:Bool) (t0:St),m'=rest_1.length∧[AV.optr 4 bx 0 0,A8 15 B8 l,.fn (.func f) fs ds,.optr 1 q 0 0]=[AV.optr 4 bx 0 0,A8 15 B8 l,.fn (.func f) fs ds,.optr 1 q 0 0]∧(rest_1.map (·.2)).foldl (fun a x=>goB px step a (F6 l x)) a=A0j px step sm l a0 r∧(∀ e∈rest_1,(0≤e.2∧e.2.toNat<l.length)∧sm (F6 l e.2)=true)∧(rest_1.Pairwise fun a b=>H2 b a=false)∧Inv a rest_1.length∧R a s t0∧QSt t0 q fl rest_1 t3 :=
      fun b t3 hb hib ⟨t0',h1,h2⟩=>⟨rest.length,D9J _,b,rest,false,t0',rfl,rfl,by rw [hb];exact hF2,fun e he=>hrm e (D7E _ he),hsort.2,hib,h1,h2⟩
     -- the call itself
     have doit:∀ K:KK,(∀ t3,(∃ t0',R (step a (F6 l x.2)) s t0'∧QSt t0' q false rest t3)→K (.tuple []) t3)→A2l P f (fs++[B8 (F6 l x.2)]++ds) t2 K:=fun K hK=>by
      refine call (B7p (hR a) (hmore a) (hR _) hRa hq2 (fun u hu=>hdo a rest.length (F6 l x.2) u t2 hpr hx.2 (by simpa using hIa) hu)) (fun v t3 hv=>?_)
      rw [hv.1];exact hK t3 hv.2
     refine ⟨[],[],[0,1,2,3,4,5,6,7,8,9,10,11,12,13,14,15,16,17,18],by kernel_rfl,?_⟩;conv=>whnf
     refine E9 ?_
     have hnil:(ByteArray.toList (l.getD x.2.toNat default).group==ByteArray.toList ⟨#[]⟩)=N7 (F6 l x.2).group:=rfl
     have hyes:(N7 (F6 l x.2).group||!inB (px a).groups (F6 l x.2).group)=true→∀ K:KK,(∀ t3,(∃ (b : σ),b=goB px step a (F6 l x.2)∧Inv b rest.length∧∃ t0',R b s t0'∧QSt t0' q false rest t3)→K (.tuple []) t3)→A2l P f (fs++[B8 (F6 l x.2)]++ds) t2 K:=fun hy K hK =>
      doit K fun t3 h3=>hK t3 ⟨_,by rw [hgo,if_pos hy],hinv a _ _ hpr hx.2 (by simpa using hIa),h3⟩
     rw [hnil]
     cases hg:N7 (F6 l x.2).group with
     | true =>
      conv=>whnf
      refine E9 ?_
      rw [A5h,A5h]
      refine hyes (by rw [hg];rfl) _ (fun t3 h3=>?_);conv=>whnf
      refine G3 ?_
      obtain ⟨b,h4,h5,h6⟩:=h3
      exact round b t3 h4 h5 h6
     | false =>
      rcases hgv with rfl | ⟨bg,rfl⟩
      all_goals
       conv=>whnf
       refine L1 hbx hfx ?_
       refine E9 ?_
       refine cqW (hcont (F6 l x.2).group) ?_
       cases hi:inB (px a).groups (F6 l x.2).group with
       | false =>
        conv=>whnf
        refine E9 ?_
        rw [A5h,A5h]
        refine hyes (by rw [hi];simp) _ (fun t3 h3=>?_);conv=>whnf
        refine G3 ?_
        obtain ⟨b,h4,h5,h6⟩:=h3
        exact round b t3 h4 h5 h6
       | true =>
        conv=>whnf
        refine G3 ?_
        refine round a t2 (by rw [hgo,if_neg (by rw [hg,hi];simp)]) (hle a _ (by simpa using hIa)) ⟨t0,hRa,hq2⟩
  ·have hi':i<r.length:=by have:=D7h hd;omega
   have hm:=hmem' _ (A5 hi')
   have es:=B0x sm l r i
   conv=>whnf
   refine E9 ?_
   refine ⟨rfl,⟨by show 0≤gI r i;exact hm.1,by show gI r i<(l.length:Int);have h1:=hm.1;have h2:=hm.2;show gI r i<_;have:(gI r i).toNat<l.length:=h2;have:0≤gI r i:=h1;omega⟩,?_⟩;conv=>whnf
   refine I3 (hsome (F6 l (gI r i)) t') ?_
   refine B7 (fun h3=>?_) (fun h3=>?_)<;>rw [h3]
   ·rw [if_pos h3] at es
    have w:IntKind.i64.wrap (0 - (i:Int)) = -(i:Int):=by rw [show 0 - (i:Int) = -(i:Int) by omega];exact A4 (by omega) (by omega)
    conv=>whnf
    rw [w]
    refine call (A8W t q _ (-(i:Int)) (gI r i) _ hq (by omega)) (fun v t2 hv=>?_)
    obtain ⟨rfl,hq'⟩:=hv
    conv=>whnf
    refine G3 ?_
    exact ⟨r.length - (i+1),by omega,i+1,by omega,rfl,by rw [B4 (by omega)],by rw [es];exact hq'⟩
   ·have h3':¬ sm (F6 l (gI r i))=true:=by rw [h3];simp
    rw [if_neg h3',D8X] at es;conv=>whnf
    refine G3 ?_
    exact ⟨r.length - (i+1),by omega,i+1,by omega,rfl,by rw [B4 (by omega)],by rw [es];exact hq⟩
def D8 (r:E0) (codes:List C8) (l:List E6):Int :=
 if K1 r=false then 10 else if R6 codes=false then 2 else P5 (known r.items) l
theorem C4P (r:E0) (codes:List C8) (l:List E6) (hf:X9 r) (hc:codes.length≤Big) (hi:r.items.length≤9223372036854775807) (st:St) :
  S P 178 [F4 r,D5 codes,A8 3 I7 l] st fun v st'=>v=eI (D8 r codes l)∧st'=st:=by
 refine F7 [3] Tryz.func178 ?_
 refine I3 (B5F r hf st) ?_
 have hP:D8 r codes l=if K1 r=false then 10 else if R6 codes=false then 2 else P5 (known r.items) l:=rfl
 cases h1:K1 r
 ·rw [if_pos h1] at hP;conv=>whnf
  exact ⟨by rw [hP];rfl,rfl⟩
 ·rw [if_neg (by rw [h1];simp)] at hP;conv=>whnf
  refine I3 (C0i codes hc st) ?_
  cases h2:R6 codes
  ·rw [if_pos h2] at hP;conv=>whnf
   exact ⟨by rw [hP];rfl,rfl⟩
  ·rw [if_neg (by rw [h2];simp)] at hP;conv=>whnf
   refine I3 (C6o r.items l hi st) ?_
   exact ⟨by rw [hP];rfl,rfl⟩
abbrev X6 (l:List E6):List B3:=H1 l l.length
structure A8n (items:List Ab.Item) (l:List E6):Prop where
 len:l.length≤1000
 line:∀ x∈l,lineC x=true
 known:∀ x∈l,known items x.sku=true
 units:N2 l≤100000
 gross:K5 l≤10000000000000
theorem C7f {items:List Ab.Item} {l:List E6} (h:P5 (known items) l=0):A8n items l:=by
 unfold P5 at h
 split at h
 ·cases h
 ·rename_i hl
  split at h
  ·rename_i x hx
   split at h<;>cases h
  ·rename_i hf
   have hall:∀ x∈l,K2 (Go.Proofs.YtaapofnkmpiknaaGreat.known items) x=false:=fun x hx=>D8O.2 (D9G.1 hf x hx)
   have hb:∀ x∈l,Go.Proofs.YtaapofnkmpiknaaGreat.known items x.sku=true∧lineC x=true:=fun x hx=>by
    have:=hall x hx
    unfold K2 at this
    simpa using this
   split at h
   ·cases h
   ·rename_i hg
    simp only [D8g,D7d,not_or] at hg
    exact ⟨by omega,fun x hx=>(hb x hx).2,fun x hx=>(hb x hx).1,by omega,by omega⟩
theorem A8n.may {items:List Ab.Item} {l:List E6} (h:A8n items l):(P5 (fun _=>true) l==0)=true:=by
 have:P5 (fun _=>true) l=0:=by
  unfold P5
  rw [if_neg (by have:=h.len;omega)]
  have hf:l.find? (K2 fun _=>true)=none:=D9G.2 fun x hx=>by
   unfold K2;rw [h.line x hx];simp
  rw [hf]
  simp only
  rw [if_neg]
  have:=h.units
  have:=h.gross
  simp only [D8g,D7d,not_or]
  omega
 rw [this];rfl
theorem A2P (l:List E6) (hl:∀ x∈l,lineC x=true):∀ k,k≤l.length→((H1 l k).length:Int)=N2 (l.take k)∧A2 (D9 (H1 l k))=K5 (l.take k)∧(∀ u∈H1 l k,0≤u.net∧0≤u.line∧u.line.toNat<k∧u.opn=true)
 | 0,_=>⟨rfl,rfl,fun u hu=>by simp [H1] at hu⟩
 | k+1,h=>by
  obtain ⟨h1,h2,h3⟩:=A2P l hl k (by omega)
  have hx:=(A0Q _).1 (hl _ (A5 (show k<l.length by omega)))
  have eN:N2 (l.take (k+1))=N2 (l.take k)+(l.getD k default).qty:=G8 (by omega) _ _
  have eG:K5 (l.take (k+1))=K5 (l.take k)+(l.getD k default).qty * (l.getD k default).price:=G8 (by omega) _ _
  have hup:H1 l (k+1)=H1 l k++List.replicate (l.getD k default).qty.toNat (lnU l k):=rfl
  have hsr:∀ (n:Nat) (c:Int),A2 (List.replicate n c)=n * c:=fun n c=>by
   induction n with
   | zero=>simp [A2]
   | succ n ih=>rw [List.replicate_succ,L5,ih,show ((n+1:Nat):Int)=(n:Int)+1 by omega,D9H,Int.one_mul];omega
  refine ⟨?_,?_,fun u hu=>?_⟩
  ·rw [hup,D7p,D8i,eN,←h1];omega
  ·unfold D9 at h2 ⊢
   rw [hup,D7M,G2,h2,List.map_replicate,hsr,eG]
   show _+((l.getD k default).qty.toNat:Int) * (l.getD k default).price=_
   rw [D8S hx.1.1]
  ·rw [hup] at hu
   rcases D8s.1 hu with hu | hu
   ·have:=h3 u hu;exact ⟨this.1,this.2.1,by omega,this.2.2.2⟩
   ·rw [List.eq_of_mem_replicate hu]
    refine ⟨hx.2.1,?_,?_,rfl⟩
    ·show (0:Int)≤(k:Int);omega
    ·show ((k:Int)).toNat<k+1;omega
theorem B5Y {items:List Ab.Item} {l:List E6} (h:A8n items l):A7t (C2 items l) (X6 l):=by
 obtain ⟨h1,h2,h3⟩:=A2P l h.line l.length (D7l _)
 rw [D7m] at h1 h2
 have hN:=h.units
 have hG:=h.gross
 have hlen:(C2 items l).length=l.length:=D7i ..
 exact ⟨⟨by show (H1 l l.length).length≤100000;omega,fun u hu=>(h3 u hu).1,by show A2 (D9 (H1 l l.length))≤_;omega⟩,by rw [hlen];have:=h.len;omega,fun u hu=>⟨(h3 u hu).2.1,by rw [hlen];exact (h3 u hu).2.2.1⟩⟩
def D4s (bn n:Nat) (net ship:Int) (y:L7):Prop:=∃ f,y=⟨170,4,1,f⟩∧f 0=.agg [.own 1 bn 0 n,eI net,eI ship,.emp]
def R2 (bx bp bn n:Nat) (items:List Ab.Item) (net:Int) (a:PSt×Int):St→St→Prop:=Z9 bp (D4s bn n net a.2) (PxR bx items a.1)
theorem C3I (bx bp bn n:Nat) (items:List Ab.Item) (net:Int) (a:PSt×Int):K7 (R2 bx bp bn n items net a):=A0M (A5l _ _ _)
theorem R2.more {bx bp bn n:Nat} {items:List Ab.Item} {net:Int} {a:PSt×Int} {s t t':St} (h:R2 bx bp bn n items net a s t) (hs:F8 t t'):R2 bx bp bn n items net a s t':=by
 obtain ⟨h1,y,h2,h3⟩:=h
 exact ⟨h1,y,h2,h3.more hs⟩
def X0 (net:Int) (a:PSt×Int) (pr:B1):PSt×Int:=((A7B a.1 pr net a.2).2,(A7B a.1 pr net a.2).1)
theorem B2Q (bx bp bn n:Nat) (items:List Ab.Item) (net:Int) (a:PSt×Int) (pr:B1) (h0:0≤a.2) (h1:a.2≤10000000000000) (hd:a.1.deals.length≤1000) (hg:a.1.groups.length≤1000) (s t:St) (h:R2 bx bp bn n items net a s t) :
  S P 185 [B8 pr,.fptr (.optr 4 bx 0 0) 0,.optr 4 bp 0 0] t fun v t'=>v=.tuple []∧R2 bx bp bn n items net (X0 net a pr) s t':=by
 obtain ⟨hbp,y,⟨f,rfl,hf⟩,hP⟩:=h
 have hat:t bp=some ⟨170,4,1,f⟩:=(A5l _ _ _).sup hP bp _ (A0 ..)
 refine F7 [3] Tryz.func185 ?_
 refine L1 hat hf ?_
 refine L1 hat hf ?_
 refine call (B9z bx items a.1 pr net a.2 h0 h1 hd hg _ t hP) (fun v t2 hv=>?_)
 obtain ⟨rfl,hP2⟩:=hv
 have hat2:t2 bp=some ⟨170,4,1,f⟩:=(A5l _ _ _).sup hP2 bp _ (A0 ..)
 conv=>whnf
 refine stW hat2 hf ?_
 refine ⟨rfl,?_⟩
 exact Z9.set (A5l _ _ _) (Q:=fun y=>y=⟨170,4,1,f⟩) ⟨hbp,_,rfl,hP2⟩ ⟨_,rfl,by rw [A6];rfl⟩
def G4 (us:List B3) (j:Nat):Int:=A2 ((us.filter fun u=>u.line.toNat==j).map B3.net)
def Y5 (n:Nat) (us:List B3):List Int:=(List.range n).map (G4 us)
theorem A0c {us:List B3} {k:Nat} (hk:k<us.length) (j:Nat):G4 (us.take (k+1)) j=if (gU us k).line.toNat=j then G4 (us.take k) j+(gU us k).net else G4 (us.take k) j:=by
 unfold G4
 rw [L6 hk,D8Z,D7M,G2]
 by_cases h:(gU us k).line.toNat=j
 ·rw [if_pos h,D8f (by show ((gU us k).line.toNat==j)=true;rw [h];simp)]
  simp [A2]
 ·rw [if_neg h,D8l (by show ¬((gU us k).line.toNat==j)=true;simpa using h)]
  simp [A2]
theorem A1k {us:List B3} (h:E5 us) (k j:Nat):0≤G4 (us.take k) j∧G4 (us.take k) j≤A2 (D9 us):=by
 have hsub:((us.take k).filter fun u=>u.line.toNat==j).Sublist us:=D9f.trans (List.take_sublist _ _)
 have hgen:∀ {a b:List B3},a.Sublist b→(∀ u∈b,0≤u.net)→0≤A2 (a.map B3.net)∧A2 (a.map B3.net)≤A2 (b.map B3.net):=fun {a b} hs=>by
  induction hs with
  | slnil=>intro _;exact ⟨D7L _,D7L _⟩
  | cons x _ ih =>
   intro hb
   have h1:=ih fun u hu=>hb u (D7E _ hu)
   have h2:=hb x (D7G ..)
   rw [D8k,L5];omega
  | cons_cons x _ ih =>
   intro hb
   have h1:=ih fun u hu=>hb u (D7E _ hu)
   have h2:=hb x (D7G ..)
   rw [D8k,D8k,L5,L5];omega
 exact hgen hsub h.pos
def V0 (pr:B1):Bool:=!(pr.kind==7)
def A0D (pr:B1):Bool:=pr.kind==7
def p1B (r:E0) (l:List E6) (o:List Int):PSt:=A0j (fun p=>p) (A5i (C2 r.items l)) V0 r.promos ⟨X6 l,[],[]⟩ o
def O6 (p:PSt):Int:=A2 (D9 p.us)
def p2B (r:E0) (l:List E6) (p1:PSt) (o:List Int):PSt×Int:=A0j (fun a=>a.1) (X0 (O6 p1)) A0D r.promos (p1,A1y r.ship (X6 l).length (O6 p1)) o
def A0q (r:E0) (l:List E6) (o1 o2:List Int):A6c:=⟨Y5 l.length (p1B r l o1).us,O6 (p1B r l o1),(p2B r l (p1B r l o1) o2).2,(p2B r l (p1B r l o1) o2).1.deals⟩
theorem C1w {σ : Type} {px : σ→PSt} {step : σ→B1→σ} {sm:B1→Bool} {l:List B1} {Inv : σ→Nat→Prop} (hle:∀ a n,Inv a (n+1)→Inv a n) (hinv:∀ (a : σ) (n:Nat) (pr:B1),pr∈l→sm pr=true→Inv a (n+1)→Inv (step a pr) n) :
  ∀ (o:List Int) (a : σ) (n:Nat),(∀ x∈o,x.toNat<l.length)→Inv a (n+o.length)→Inv (A0j px step sm l a o) n:=by
 intro o
 unfold A0j
 induction o with
 | nil=>intro a n _ h;exact h
 | cons x o ih =>
  intro a n hm h
  have hm':∀ y∈o,y.toNat<l.length:=fun y hy=>hm y (D7E _ hy)
  have hx:F6 l x∈l:=A5 (hm x (D7G ..))
  have h':Inv a ((n+o.length)+1):=by rw [D7N] at h;exact h
  by_cases hs:sm (F6 l x)=true
  ·rw [D8f (p:=fun x=>sm (F6 l x)) hs,D8o]
   refine ih _ _ hm' ?_
   unfold goB
   split
   ·exact hinv a _ _ hx hs h'
   ·exact hle _ _ h'
  ·rw [D8l (p:=fun x=>sm (F6 l x)) hs]
   exact ih _ _ hm' (hle _ _ h')
def C6r (items:List Ab.Item) (us0:List B3) (p:PSt) (n:Nat):Prop:=A7t items p.us∧p.deals.length+n≤100∧p.groups.length+n≤100∧∃ x,Off us0 p.us x
def C8L (a:PSt×Int) (n:Nat):Prop:=a.1.deals.length+n≤200∧a.1.groups.length+n≤200∧0≤a.2∧a.2≤10000000000000
theorem B4d {items:List Ab.Item} {us0:List B3} {a:PSt} {n:Nat} {pr:B1} (hfit:R5 pr) (hright:I0 pr=true) (hk:V0 pr=true) (h:C6r items us0 a (n+1)):C6r items us0 (A5i items a pr) n:=by
 obtain ⟨h1,h2,h3,x,h4⟩:=h
 obtain ⟨y,h5⟩:=B6m h1 hfit hright (by simpa [V0] using hk)
 refine ⟨h1.off h5,?_,?_,x+y,h4.trans h5⟩
 ·unfold A5i;split
  ·simp only [A2c,D7p,D7N,D8u];omega
  ·omega
 ·unfold A5i;split
  ·simp only [A2c,D7p]
   split<;>simp<;>omega
  ·omega
theorem B4e {net:Int} {a:PSt×Int} {n:Nat} {pr:B1} (hright:I0 pr=true) (hk:A0D pr=true) (h:C8L a (n+1)):C8L (X0 net a pr) n:=by
 obtain ⟨h1,h2,h3,h4⟩:=h
 have hk7:pr.kind=7:=by simpa [A0D] using hk
 have hr:=(A4b hright).ship hk7
 have hb:=U7 a.2 pr.rate
 have hle:=A5B h3 (show 0≤pr.rate by omega) hr.2
 unfold X0 A7B
 split
 ·exact ⟨by show a.1.deals.length+n≤200;omega,by show a.1.groups.length+n≤200;omega,h3,h4⟩
 ·refine ⟨?_,?_,by show 0≤a.2 - J9 a.2 pr.rate;omega,by show a.2 - J9 a.2 pr.rate≤_;omega⟩
  ·show (if J9 a.2 pr.rate>0 then A2c a.1 pr (J9 a.2 pr.rate) else a.1).deals.length+n≤200
   split
   ·simp only [A2c,D7p,D7N,D8u];omega
   ·omega
  ·show (if J9 a.2 pr.rate>0 then A2c a.1 pr (J9 a.2 pr.rate) else a.1).groups.length+n≤200
   split
   ·simp only [A2c,D7p]
    split<;>simp<;>omega
   ·omega
theorem PxR.deals' {bx:Nat} {items:List Ab.Item} {p:PSt} {s t:St} (h:PxR bx items p s t):∃ dv gv f,t bx=some ⟨239,4,1,f⟩∧f 0=.agg [A8 4 F2 items,C4 p.us,dv,gv] ∧
  ((p.deals=[]∧dv=.emp)∨∃ bd g,dv=.own 2 bd 0 p.deals.length∧s bd=none∧t bd=some ⟨221,2,p.deals.length,g⟩∧∀ k,k<p.deals.length→g k=A1S p.deals k):=by
 obtain ⟨⟨dv,gv⟩,h⟩:=h
 obtain ⟨y,⟨f,rfl,hf⟩,hy⟩:=Z9.at (A3V _ _ _ _) h
 obtain ⟨hbx,_,_,hd⟩:=h
 obtain ⟨s0,hc,hg0⟩:=hd
 refine ⟨dv,gv,f,hy,hf,?_⟩
 rcases hc with ⟨h0,h1,rfl⟩ | ⟨h0,b,g0,hb,h1,rfl,hgg⟩
 ·exact .inl ⟨D7O h0,h1⟩
 ·refine .inr ⟨b,g0,h1,?_,(A8v _ _).sup hg0 b _ (A0 ..),hgg⟩
  by_cases e:b=bx
  ·subst e;rw [A0] at hb;cases hb
  ·rw [B0 e] at hb;exact hb
structure C6n (r:E0) (codes:List C8) (l:List E6):Prop where
 rules:K1 r=true
 codes:R6 codes=true
 lines:A8n r.items l
 few:r.promos.length≤60
 promo:∀ p∈r.promos,I0 p=true
 fee:0≤r.ship.fee∧r.ship.fee≤1000000000
theorem A6Y {r:E0} {codes:List C8} {l:List E6} (h:D8 r codes l=0):C6n r codes l:=by
 unfold D8 at h
 split at h
 ·cases h
 ·rename_i h1
  split at h
  ·cases h
  ·rename_i h2
   have hr:K1 r=true:=by simpa using h1
   have hr':=hr
   unfold K1 at hr'
   simp only [D7f] at hr'
   obtain ⟨⟨⟨⟨_,hp⟩,_⟩,hs⟩,_⟩:=hr'
   unfold promosC at hp
   simp only [D7f,D7d] at hp
   have hs':J8 0 1000000000 r.ship.fee=true:=by
    unfold B0A at hs
    simp only [D7f] at hs
    exact hs.1
   refine ⟨hr,by simpa using h2,C7f h,by omega,fun p hm=>?_,D3.1 hs'⟩
   obtain ⟨k,hk,rfl⟩:=D2 hm
   have:=A4y.1 hp.2 k hk
   unfold X8 at this
   simp only [D7f] at this
   exact this.1
def C8Q (r:E0) (codes:List C8) (l:List E6) (v:AV):Prop :=
 (D8 r codes l≠0∧v=.tuple [A1t ⟨[],0,0,[]⟩,eI (D8 r codes l)]) ∨
 (D8 r codes l=0∧∃ o1 o2,B0L r.promos codes o1∧B0L r.promos codes o2∧v=.tuple [A1t (A0q r l (P9 r.promos o1) (P9 r.promos o2)),eI 0])
theorem price_S {N:Nat} (hN:A6e N) (r:E0) (codes:List C8) (l:List E6) (hf:X9 r) (hc:codes.length≤Big) (hi:r.items.length≤9223372036854775807) (h20:(places r.promos codes r.promos.length).length≤N) (st:St) :
  S P 122 [F4 r,D5 codes,A8 3 I7 l] st fun v st'=>C8Q r codes l v∧st'=st:=by
 refine S.post (post:=fun v st'=>(D8 r codes l≠0∧v=.tuple [.agg [.emp,eI 0,eI 0,.emp],eI (D8 r codes l)]∧F8 st st') ∨
   (D8 r codes l=0∧∃ o1 o2 bn fn dv,B0L r.promos codes o1∧B0L r.promos codes o2∧v=.tuple [.agg [.own 1 bn 0 l.length,eI (A0q r l (P9 r.promos o1) (P9 r.promos o2)).net,eI (A0q r l (P9 r.promos o1) (P9 r.promos o2)).ship,dv],eI 0] ∧
    st bn=none∧st' bn=some ⟨2,1,l.length,fn⟩∧(∀ k,k<l.length→fn k=eI (gI (A0q r l (P9 r.promos o1) (P9 r.promos o2)).nets k))∧F8 st st' ∧
    (((A0q r l (P9 r.promos o1) (P9 r.promos o2)).deals=[]∧dv=.emp)∨∃ bd g,dv=.own 2 bd 0 (A0q r l (P9 r.promos o1) (P9 r.promos o2)).deals.length∧st bd=none∧bd≠bn∧st' bd=some ⟨221,2,(A0q r l (P9 r.promos o1) (P9 r.promos o2)).deals.length,g⟩∧∀ k,k<(A0q r l (P9 r.promos o1) (P9 r.promos o2)).deals.length→g k=A1S (A0q r l (P9 r.promos o1) (P9 r.promos o2)).deals k))) ?_
  (fun v st' hv=>by
   rcases hv with ⟨h1,rfl,hs⟩ | ⟨h1,o1,o2,bn,fn,dv,h2,h3,rfl,h4,h5,h6,hs,h7⟩
   ·refine ⟨_,st,⟨.inl ⟨h1,rfl⟩,rfl⟩,(hs.shift _).trans (A7.tuple (A7.cons (A7.agg ?_) (A7.keep _ _)) rfl)⟩
    exact A7.cons (I5 1 _) (A7.cons (A7.keep [eI 0] _) (A7.cons (A7.keep [eI 0] _) (I5 2 _)))
   ·refine ⟨_,st,⟨.inr ⟨h1,o1,o2,h2,h3,rfl⟩,rfl⟩,A7.tuple (A7.cons (A7.agg ?_) (A7.keep _ _)) rfl⟩
    have hnl:(A0q r l (P9 r.promos o1) (P9 r.promos o2)).nets.length=l.length:=by show (Y5 _ _).length=_;unfold Y5;rw [D7i,D7F]
    generalize A0q r l (P9 r.promos o1) (P9 r.promos o2)=X at *
    have e1:A9 X.nets=.arr 1 l.length (fun k=>eI (gI X.nets k)):=by unfold A9 A8;rw [hnl]
    refine A7.cons (t:=del st' bn) ?_ (A7.cons (A7.keep [eI X.net] _) (A7.cons (A7.keep [eI X.ship] _) ?_))
    ·rw [e1];exact P1 h5 rfl (D7l _) h6
    ·rcases h7 with ⟨h8,rfl⟩ | ⟨bd,g,rfl,h8,h9,h10,h11⟩
     ·rw [h8]
      exact ((F8.del hs h4).shift _).trans (I5 2 _)
     ·refine (P1 (b:=bd) (y:=⟨221,2,X.deals.length,g⟩) (f:=A1S X.deals) (by rw [A2U h9];exact h10) rfl (D7l _) h11).trans ?_
      exact (F8.del (F8.del hs h4) h8).shift _)
 refine F7 [3,9,10,13] Tryz.func122 ?_
 intro b6 hb6;conv=>whnf
 refine I3 (C4P r codes l hf hc hi _) ?_
 have h6s:∀ x:L7,F8 st (upd st b6 x):=fun x=>(F8.refl st).upd hb6
 cases h1:(D8 r codes l != 0)
 ·have hk0:D8 r codes l=0:=by simpa using h1
  have hck:=A6Y hk0
  have hln:=hck.lines
  have hlen:=hln.len
  have hus0:=B5Y hln
  obtain ⟨u1,u2,u3⟩:=A2P l hln.line l.length (D7l _)
  have hitl:(C2 r.items l).length=l.length:=D7i ..
  have hmo:=fun {o:List Int} (ho:B0L r.promos codes o)=>(show (P9 r.promos o).length≤60 by
   rw [D7i,A5z,ho.1.length_eq]
   have:=A1C r.promos codes r.promos.length
   have:=hck.few;omega)
  conv=>whnf
  refine I3 (A9I r.items l hi hlen hln.known _) ?_
  refine I3 (C8g l hlen (fun x hx=>((A0Q x).1 (hln.line x hx)).1) hus0.ok.len hln.may _) ?_
  generalize hs6:(upd st b6 _)=s6 at *
  have h6:s6 b6=some ⟨170,4,1,fun _=>I1 B9m.zero⟩:=by rw [←hs6];exact A0 ..
  have hBig:(Big:Nat)≤9223372036854775807:=by decide
  have hst6:F8 st s6:=by rw [←hs6];exact h6s _
  intro bx hbx;conv=>whnf
  have hP0:PxR bx (C2 r.items l) ⟨X6 l,[],[]⟩ s6 (upd s6 bx ⟨239,4,1,fun _=>.agg [A8 4 F2 (C2 r.items l),C4 (X6 l),.emp,.emp]⟩) :=
   PxR.mk' hbx rfl (ROut.start (ROut.start (F8.refl _) _ _ _) _ _ _)
  refine call (C0F (σ:=PSt) hN bx (C2 r.items l) (PxR bx (C2 r.items l)) (fun p=>p) (A5l bx (C2 r.items l)) (fun a s t t' h hs=>h.more hs) (fun a s t h=>⟨s,h⟩) r.promos codes hck.few (D8r hc hBig) h20 182 [.fptr (.fn (.func 180) [] []) 0] V0 (fun pr t=>C4B pr t)
   183 [.optr 4 bx 0 0] [] (A5i (C2 r.items l)) (C6r (C2 r.items l) (X6 l)) (fun a n h=>by have:=h.2.2.1;omega) (fun a n h=>⟨h.1,by have:=h.2.1;omega,by have:=h.2.2.1;omega,h.2.2.2⟩)
   (fun a n pr s t hm hs hI h=>D0J bx (C2 r.items l) a pr (hf.fit pr hm) (hck.promo pr hm) (by simpa [V0] using hs) hI.1 (by have:=hI.2.1;omega) (by have:=hI.2.2.1;omega) s t h)
   (fun a n pr hm hs hI=>B4d (hf.fit pr hm) (hck.promo pr hm) hs hI) ⟨X6 l,[],[]⟩ ⟨hus0,by simp,by simp,0,Off.refl hus0.ok⟩ s6 _ hP0) (fun v t1 hv=>?_)
  obtain ⟨rfl,o1,ho1,hP1⟩:=hv
  have hp1:A0j (fun p=>p) (A5i (C2 r.items l)) V0 r.promos ⟨X6 l,[],[]⟩ (P9 r.promos o1)=p1B r l (P9 r.promos o1):=rfl
  have hI1:C6r (C2 r.items l) (X6 l) (p1B r l (P9 r.promos o1)) 40:=C1w (fun a n h=>⟨h.1,by have:=h.2.1;omega,by have:=h.2.2.1;omega,h.2.2.2⟩) (fun a n pr hm hs hI=>B4d (hf.fit pr hm) (hck.promo pr hm) hs hI) (P9 r.promos o1) ⟨X6 l,[],[]⟩ 40 (fun x hx=>(B7x ho1 hx).2) ⟨hus0,by have:=hmo ho1;show 0+(40+(P9 r.promos o1).length)≤100;omega,by have:=hmo ho1;show 0+(40+(P9 r.promos o1).length)≤100;omega,0,Off.refl hus0.ok⟩
  rw [hp1] at hP1
  have hQ:∀ o2,A0q r l (P9 r.promos o1) (P9 r.promos o2)=⟨Y5 l.length (p1B r l (P9 r.promos o1)).us,O6 (p1B r l (P9 r.promos o1)),(p2B r l (p1B r l (P9 r.promos o1)) (P9 r.promos o2)).2,(p2B r l (p1B r l (P9 r.promos o1)) (P9 r.promos o2)).1.deals⟩:=fun _=>rfl
  generalize p1B r l (P9 r.promos o1)=p1 at *
  obtain ⟨hus1,hd1,hg1,xoff,hoff⟩:=hI1
  have hul1:p1.us.length=(X6 l).length:=hoff.len
  have hu1:=hus1.ok
  have hul:=hu1.len
  have hus:=hu1.sum
  have hnet0:=C1 hu1.nets0
  have hBP:=A5l bx (C2 r.items l) p1
  conv=>whnf
  refine mkO rfl rfl rfl (by show 8 * l.length≤_;omega) (by omega) (by rfl) (fun bn hbn=>?_);conv=>whnf
  intro bp hbp
  have hnb:bn≠bp:=fun e=>by subst e;rw [A0] at hbp;cases hbp
  have hbp1:t1 bp=none:=by rw [B0 hnb.symm] at hbp;exact hbp
  have hbn6:s6 bn=none:=(hBP.sup hP1).none hbn
  have hbp6:s6 bp=none:=(hBP.sup hP1).none hbp1
  conv=>whnf
  refine stW (A0 ..) rfl ?_
  -- the pricer,what the lines come to,what is made of it
  have hP2:=fun (Y Z:L7)=>hBP.begin (y:=Z) (hBP.begin (y:=Y) hP1 hbn) (by rw [B0 hnb.symm];exact hbp1)
  have hload:∀ {Y Z:L7} {t:St},PxR bx (C2 r.items l) p1 (upd (upd s6 bn Y) bp Z) t→t bn=some Y∧t bp=some Z:=fun h=>⟨hBP.sup h bn _ (by rw [B0 hnb,A0]),hBP.sup h bp _ (A0 ..)⟩
  have hwn:∀ {Y Z Y':L7} {t:St},PxR bx (C2 r.items l) p1 (upd (upd s6 bn Y) bp Z) t→PxR bx (C2 r.items l) p1 (upd (upd s6 bn Y') bp Z) (upd t bn Y'):=fun {Y Z Y' t} h=>by
   have:=hBP.write (b:=bn) (y':=Y') h (by rw [B0 hnb,A0])
   rw [R9 hnb.symm,C5] at this;exact this
  have hwp:∀ {Y Z Z':L7} {t:St},PxR bx (C2 r.items l) p1 (upd (upd s6 bn Y) bp Z) t→PxR bx (C2 r.items l) p1 (upd (upd s6 bn Y) bp Z') (upd t bp Z'):=fun {Y Z Z' t} h=>by
   have:=hBP.write (b:=bp) (y':=Z') h (A0 ..)
   rw [C5] at this;exact this
  have hP3:=hP2 ⟨2,1,l.length,fun _=>I1 r2.zero⟩ ⟨170,4,1,fun _=>I1 B9m.zero⟩
  have hP4:=hwp (Z':=⟨170,4,1,I6 (fun _=>I1 B9m.zero) 0 (.agg [.own 1 bn 0 l.length,eI 0,eI 0,.emp])⟩) hP3
  obtain ⟨dv1,gv1,fx1,hx1,hfx1,_,_⟩:=hP4.at
  refine L1 hx1 hfx1 ?_
  have hline:∀ k,k<p1.us.length→0≤(gU p1.us k).line∧(gU p1.us k).line.toNat<l.length:=fun k hk=>by
   have:=hus1.line _ (A5 hk)
   rw [hitl] at this;exact this
  refine ⟨[1,3,6,9,10,11,45,46,47],fun m vs t=>∃ (k:Nat) (fn fp:Nat→AV),k≤p1.us.length∧m=p1.us.length - k∧vs=[D5 codes,.fptr (F4 r) 0,.optr 4 b6 0 0,.fptr (.optr 4 bx 0 0) 0,.fptr (.fn (.func 180) [] []) 0,.optr 4 bp 0 0,C4 p1.us,eI p1.us.length,eI k] ∧
   PxR bx (C2 r.items l) p1 (upd (upd s6 bn ⟨2,1,l.length,fn⟩) bp ⟨170,4,1,fp⟩) t∧fp 0=.agg [.own 1 bn 0 l.length,eI (A2 ((D9 p1.us).take k)),eI 0,.emp]∧∀ j,j<l.length→fn j=eI (G4 (p1.us.take k) j),?_,?_⟩
  ·conv=>whnf
   exact ⟨_,0,_,_,D7C _,rfl,rfl,hP4,A6 ..,fun j _=>rfl⟩
  ·clear hP4 hP3 hx1 hfx1 hP2
   rintro m vs t ⟨k,fn,fp,hk,rfl,rfl,hP,hfp,hfn⟩
   obtain ⟨htn,htp⟩:=hload hP
   conv=>whnf
   cases hd:decide ((k:Int)<(p1.us.length:Int))
   ·have:=D7g hd
    obtain rfl:k=p1.us.length:=by omega
    rw [D7m] at hfn
    have htk:(D9 p1.us).take p1.us.length=D9 p1.us:=by rw [←D7i (f:=B3.net),D7m]
    rw [htk] at hfp;conv=>whnf
    obtain ⟨dv1,gv1,fx1,hx1,hfx1,_,_⟩:=hP.at
    refine ⟨[11],[],[0,1,2,3,4,5,6,7,8,9,10,11],by kernel_rfl,?_⟩;conv=>whnf
    refine L1 hx1 hfx1 ?_
    refine L1 htp hfp ?_
    refine cqW (D0P r.ship p1.us.length (O6 p1) t) ?_
    refine stW htp hfp ?_
    have hP5:=hwp (Z':=⟨170,4,1,I6 fp 0 (.agg [.own 1 bn 0 l.length,eI (O6 p1),eI (A1y r.ship p1.us.length (O6 p1)),.emp])⟩) hP
    have hfee:0≤A1y r.ship p1.us.length (O6 p1)∧A1y r.ship p1.us.length (O6 p1)≤10000000000000:=by
     have:=hck.fee
     unfold A1y;split<;>omega
    generalize hfe:A1y r.ship p1.us.length (O6 p1)=fee at *
    have hR2:R2 bx bp bn l.length (C2 r.items l) (O6 p1) (p1,fee) (upd s6 bn ⟨2,1,l.length,fn⟩) (upd t bp ⟨170,4,1,I6 fp 0 (.agg [.own 1 bn 0 l.length,eI (O6 p1),eI fee,.emp])⟩):=⟨by rw [B0 hnb.symm];exact hbp6,_,⟨_,rfl,A6 ..⟩,hP5⟩
    refine call (C0F (σ:=PSt×Int) hN bx (C2 r.items l) (R2 bx bp bn l.length (C2 r.items l) (O6 p1)) (fun a=>a.1) (C3I bx bp bn l.length (C2 r.items l) (O6 p1)) (fun a s t t' h hs=>h.more hs) (fun a s t h=>⟨_,h.2.choose_spec.2⟩) r.promos codes hck.few (D8r hc hBig) h20 180 [] A0D (fun pr t=>B6I pr t)
     185 [] [.fptr (.optr 4 bx 0 0) 0,.optr 4 bp 0 0] (X0 (O6 p1)) C8L (fun a n h=>by have:=h.2.1;omega) (fun a n h=>⟨by have:=h.1;omega,by have:=h.2.1;omega,h.2.2⟩)
     (fun a n pr s t hm hs hI h=>B2Q bx bp bn l.length (C2 r.items l) (O6 p1) a pr hI.2.2.1 hI.2.2.2 (by have:=hI.1;omega) (by have:=hI.2.1;omega) s t h)
     (fun a n pr hm hs hI=>B4e (hck.promo pr hm) hs hI) (p1,fee) ⟨by show p1.deals.length+60≤200;omega,by show p1.groups.length+60≤200;omega,hfee⟩ (upd s6 bn ⟨2,1,l.length,fn⟩) _ hR2) (fun v t2 hv=>?_)
    obtain ⟨rfl,o2,ho2,hR3⟩:=hv
    have hp2:A0j (fun a:PSt×Int=>a.1) (X0 (O6 p1)) A0D r.promos (p1,fee) (P9 r.promos o2)=p2B r l p1 (P9 r.promos o2):=by
     unfold p2B;rw [←hfe,hul1]
    rw [hp2] at hR3
    have hQ2:=hQ o2
    generalize p2B r l p1 (P9 r.promos o2)=a2 at *
    obtain ⟨hbp7,y,⟨f7,rfl,hf7⟩,hP7⟩:=hR3
    have hBP7:=A5l bx (C2 r.items l) a2.1
    have h7p:t2 bp=some ⟨170,4,1,f7⟩:=hBP7.sup hP7 bp _ (A0 ..)
    have h7n:t2 bn=some ⟨2,1,l.length,fn⟩:=hBP7.sup hP7 bn _ (by rw [B0 hnb,A0])
    have h76:F8 s6 t2:=fun c x hc=>hBP7.sup hP7 c x (by
     have e1:c≠bp:=fun e=>by subst e;rw [hbp6] at hc;cases hc
     have e2:c≠bn:=fun e=>by subst e;rw [hbn6] at hc;cases hc
     rw [B0 e1,B0 e2];exact hc)
    have h6b:=h76 b6 _ h6
    have hb6p:b6≠bp:=fun e=>by subst e;rw [h6] at hbp6;cases hbp6
    have hb6n:b6≠bn:=fun e=>by subst e;rw [h6] at hbn6;cases hbn6
    have hstn:st bn=none:=hst6.none hbn6
    have hstp:st bp=none:=hst6.none hbp6
    obtain ⟨dv,gv,fx,hx2,hfx2,hdl⟩:=hP7.deals'
    have hS2:F8 st t2:=hst6.trans h76
    conv=>whnf
    refine ldV hx2 rfl (by omega) hfx2 ?_
    rcases hdl with ⟨hd0,rfl⟩ | ⟨bd,gd,rfl,hbd,hbt,hgd⟩
    ·conv=>whnf
     refine stW h7p hf7 ?_
     refine L1 (A0 ..) (A6 ..) ?_
     refine stW (by rw [B0 hb6p];exact h6b) rfl ?_
     refine L1 (A0 ..) (A6 ..) ?_
     refine .inr ⟨hk0,o1,o2,bn,fn,.emp,ho1,ho2,?_,hstn,?_,?_,((hS2.over hstp).over hb6),.inl ⟨?_,rfl⟩⟩
     ·rw [hQ2];rfl
     ·rw [B0 hb6n.symm,B0 hnb];exact h7n
     ·intro k hk
      rw [hQ2,hfn k hk]
      show eI _=eI (gI (Y5 l.length p1.us) k)
      unfold Y5
      rw [N3 _ hk]
     ·rw [hQ2];exact hd0
    ·have hbdp:bd≠bp:=fun e=>by subst e;rw [A0] at hbd;cases hbd
     rw [B0 hbdp] at hbd
     have hbdn:bd≠bn:=fun e=>by subst e;rw [A0] at hbd;cases hbd
     rw [B0 hbdn] at hbd
     have hbd6:bd≠b6:=fun e=>by subst e;rw [h6] at hbd;cases hbd
     conv=>whnf
     refine stW h7p hf7 ?_
     refine L1 (A0 ..) (A6 ..) ?_
     refine stW (by rw [B0 hb6p];exact h6b) rfl ?_
     refine L1 (A0 ..) (A6 ..) ?_
     refine .inr ⟨hk0,o1,o2,bn,fn,.own 2 bd 0 a2.1.deals.length,ho1,ho2,?_,hstn,?_,?_,((hS2.over hstp).over hb6),.inr ⟨bd,gd,?_,hst6.none hbd,hbdn,?_,?_⟩⟩
     ·rw [hQ2];rfl
     ·rw [B0 hb6n.symm,B0 hnb];exact h7n
     ·intro k hk
      rw [hQ2,hfn k hk]
      show eI _=eI (gI (Y5 l.length p1.us) k)
      unfold Y5
      rw [N3 _ hk]
     ·rw [hQ2]
     ·rw [B0 hbd6,B0 hbdp,hQ2];exact hbt
     ·rw [hQ2];exact hgd
   ·have hk':k<p1.us.length:=by have:=D7h hd;omega
    have hlk:=hline k hk'
    have hn0:0≤(gU p1.us k).net:=hu1.at0 k
    have hn1:(gU p1.us k).net≤10000000000000:=hu1.le (A5 hk')
    have e1:=K4 (l:=D9 p1.us) (i:=k) (by rw [D7i];exact hk')
    have e4:gI (D9 p1.us) k=(gU p1.us k).net:=D4 B3.net p1.us hk'
    have e2:=N5 hu1.nets0 (k+1)
    have e3:=C1 (l:=(D9 p1.us).take k) (fun x hx=>hu1.nets0 x (D8e _ _ hx))
    have hlb:=A1k hu1 k (gU p1.us k).line.toNat
    have hlb2:=A1k hu1 (k+1) (gU p1.us k).line.toNat
    have hln1:=A0c hk' (gU p1.us k).line.toNat
    rw [if_pos rfl] at hln1
    have hfl:fn (0+(gU p1.us k).line.toNat)=eI (G4 (p1.us.take k) (gU p1.us k).line.toNat):=by rw [D7o];exact hfn _ hlk.2
    have w1:IntKind.i64.wrap (G4 (p1.us.take k) (gU p1.us k).line.toNat+(gU p1.us k).net)=G4 (p1.us.take (k+1)) (gU p1.us k).line.toNat:=by rw [hln1];exact A4 (by omega) (by omega)
    have w2:IntKind.i64.wrap (A2 ((D9 p1.us).take k)+(gU p1.us k).net)=A2 ((D9 p1.us).take (k+1)):=by rw [e1,e4];exact A4 (by omega) (by omega)
    conv=>whnf
    refine E9 ?_
    refine ⟨[10],[],[0,1,2,3,4,5,6,7,8,9,10],by kernel_rfl,?_⟩;conv=>whnf
    refine L1 htp hfp ?_
    refine ⟨rfl,⟨by show 0≤(gU p1.us k).line;exact hlk.1,by show (gU p1.us k).line<(l.length:Int);have:=hlk.2;have:=hlk.1;omega⟩,?_⟩;conv=>whnf
    refine ldV htn rfl (by show 0+(gU p1.us k).line.toNat<_;have:=hlk.2;omega) hfl ?_;conv=>whnf
    refine ⟨rfl,⟨by show 0≤(gU p1.us k).line;exact hlk.1,by show (gU p1.us k).line<(l.length:Int);have:=hlk.2;have:=hlk.1;omega⟩,?_⟩;conv=>whnf
    refine stV htn rfl (by show 0+(gU p1.us k).line.toNat<_;have:=hlk.2;omega) hfl (by rfl) ?_
    have hP5:=hwn (Y':=⟨2,1,l.length,I6 fn (0+(gU p1.us k).line.toNat) (eI (G4 (p1.us.take (k+1)) (gU p1.us k).line.toNat))⟩) hP
    rw [←w1] at hP5
    obtain ⟨_,htp2⟩:=hload hP5
    conv=>whnf
    refine L1 htp2 hfp ?_
    refine stW htp2 hfp ?_
    refine G3 ?_
    refine ⟨p1.us.length - (k+1),by omega,k+1,_,_,by omega,rfl,by rw [B4 (by omega)],hwp hP5,?_,fun j hj=>?_⟩
    ·rw [A6,←w2];rfl
    ·show I6 fn (0+(gU p1.us k).line.toNat) _ j=_
     rw [D7o]
     rw [A0c hk' j]
     by_cases hj2:j=(gU p1.us k).line.toNat
     ·subst hj2
      rw [if_pos rfl,A6,w1,hln1]
     ·rw [H7 hj2,if_neg (fun e=>hj2 e.symm)];exact hfn j hj
 ·have hk0:D8 r codes l≠0:=by simpa using h1
  conv=>whnf
  refine stW (A0 ..) rfl ?_
  refine L1 (A0 ..) (A6 ..) ?_
  exact .inl ⟨hk0,rfl,(h6s _).over hb6⟩
theorem D0c (s:Z4) (x:Ab.Item) (h1:Sm s.skus.length) (h2:Sm s.cats.length) (st:St):S P 252 [A4h s,F2 x] st fun v st'=>v=.bool (B0N s x)∧st'=st:=by
 have e:B0N s x=(((s.skus.length:Int)==0&&(s.cats.length:Int)==0)||(s.skus.any fun y=>y.toList==x.sku.toList)||(s.cats.any fun y=>y.toList==x.cat.toList)):=by
  unfold B0N inB
  rw [A3Z,A3Z]
  congr 1
  ·congr 1
   ·rw [←D9l];simp only [D7f,D7Z];omega
   ·congr 1;funext y;exact E0k
  ·congr 1;funext y;exact E0k
 rw [e]
 have n1:=B9p s.skus x.sku h1 st
 have n2:=B9p s.cats x.cat h2 st
 generalize (s.skus.any fun y=>y.toList==x.sku.toList)=b1 at *
 generalize (s.cats.any fun y=>y.toList==x.cat.toList)=b2 at *
 refine SyW [2,3] Tryz.func252 ?_
 clear e
 repeat' ((conv=>whnf);first | refine B2 n1 ?_ | refine B2 n2 ?_ | (refine B7 (fun h=>?_) (fun h=>?_)<;>rw [h]))
 all_goals (conv=>whnf)
 all_goals (refine ⟨?_,rfl⟩;show AV.bool _=AV.bool _;simp only [*,D7u,D7z,D7U,D7V,D7X,D7R])
theorem B9S {l:List E6} (h:∀ x∈l,lineC x=true) {i:Nat} (hi:i≤l.length):N2 (l.take i)≤N2 l∧K5 (l.take i)≤K5 l:=by
 have:∀ j,i+j≤l.length→N2 (l.take i)≤N2 (l.take (i+j))∧K5 (l.take i)≤K5 (l.take (i+j)):=by
  intro j
  induction j with
  | zero=>intro _;exact ⟨D7L _,D7L _⟩
  | succ j ih =>
   intro hj
   obtain ⟨h1,h2⟩:=ih (by omega)
   have hm:=A5 (l:=l) (i:=i+j) (by omega)
   have e1:N2 (l.take (i+j+1))=N2 (l.take (i+j))+(l.getD (i+j) default).qty:=G8 (by omega) _ _
   have e2:K5 (l.take (i+j+1))=K5 (l.take (i+j))+(l.getD (i+j) default).qty * (l.getD (i+j) default).price:=G8 (by omega) _ _
   have h3:=B1W (h _ hm)
   have h4:=(A0Q _).1 (h _ hm)
   rw [show i+(j+1)=i+j+1 by omega,e1,e2];omega
 have h2:=this (l.length - i) (by omega)
 rw [show i+(l.length - i)=l.length by omega,D7m] at h2;exact h2
theorem B9r (l:List E6) (st:St):S P 212 [A8 3 I7 l] st fun v st'=>v=eI (P5 (fun _=>true) l)∧st'=st:=by
 refine F7 [] Tryz.func212 ?_
 refine B7 (fun h=>?_) (fun h=>?_)<;>rw [h]<;>simp only [D7d,D7e] at h
 ·conv=>whnf
  exact ⟨by rw [show P5 (fun _=>true) l=6 from if_pos (by omega)];rfl,rfl⟩
 have hs:l.length≤1000:=by omega
 have hc:P5 (fun _=>true) l=match l.find? (K2 (fun _=>true)) with
  | some x=>if (fun _=>true) x.sku=true then 2 else 7
  | none=>if (decide (N2 l>100000)||decide (K5 l>10000000000000))=true then 5 else 0:=if_neg (by omega)
 conv=>whnf
 refine lp l.length [0,3] (fun i vs s=>(∀ k,k<i→lineC (l.getD k default)=true)∧vs=[A8 3 I7 l,eI i]∧s=st) ?_ ?_
 ·conv=>whnf
  exact ⟨fun k hk=>absurd hk (by omega),rfl,rfl⟩
 ·rintro i vs st' hi ⟨hok,rfl,rfl⟩
  conv=>whnf
  cases h:decide ((i:Int)<(l.length:Int))
  ·obtain rfl:=B9 h hi
   have hall:∀ x∈l,lineC x=true:=fun x hx=>by obtain ⟨k,hk,rfl⟩:=D2 hx;exact hok k hk
   rw [A9B fun k hk=>by unfold K2;rw [hok k hk];rfl] at hc
   simp only at hc
   conv=>whnf
   refine lp l.length [0,4,5,6] (fun i vs s=>(0≤N2 (l.take i)∧N2 (l.take i)≤100000)∧(0≤K5 (l.take i)∧K5 (l.take i)≤10000000000000)∧vs=[A8 3 I7 l,eI (N2 (l.take i)),eI (K5 (l.take i)),eI i]∧s=st') ?_ ?_
   ·conv=>whnf
    exact ⟨⟨D7L _,by rw [D8B];decide⟩,⟨D7L _,by rw [D8B];decide⟩,rfl,rfl⟩
   ·rintro i vs st' hi ⟨hu,hg,rfl,rfl⟩
    conv=>whnf
    cases h:decide ((i:Int)<(l.length:Int))
    ·obtain rfl:=B9 h hi
     rw [D7m] at hu hg
     rw [if_neg (by rw [D7j (show ¬ N2 l>100000 by omega),D7j (show ¬ K5 l>10000000000000 by omega)];simp)] at hc;conv=>whnf
     exact ⟨by rw [hc];rfl,rfl⟩
    ·have hi':=D6 h
     have hx:lineC (l.getD (i:Int).toNat default)=true:=hall _ (A5 hi')
     obtain ⟨⟨q0,q1⟩,_⟩:=(A0Q _).1 hx
     obtain ⟨m0,m1⟩:=B1W hx
     have eu:N2 (l.take (i+1))=N2 (l.take i)+(l.getD (i:Int).toNat default).qty:=G8 hi' _ _
     have eg:K5 (l.take (i+1))=K5 (l.take i)+(l.getD (i:Int).toNat default).qty * (l.getD (i:Int).toNat default).price:=G8 hi' _ _
     have w1:IntKind.i64.wrap (N2 (l.take i)+(l.getD (i:Int).toNat default).qty)=N2 (l.take (i+1)):=by rw [eu];exact A4 (by omega) (by omega)
     have w2:IntKind.i64.wrap ((l.getD (i:Int).toNat default).qty * (l.getD (i:Int).toNat default).price)=(l.getD (i:Int).toNat default).qty * (l.getD (i:Int).toNat default).price:=A4 (by omega) (by omega)
     have w3:IntKind.i64.wrap (K5 (l.take i)+(l.getD (i:Int).toNat default).qty * (l.getD (i:Int).toNat default).price)=K5 (l.take (i+1)):=by rw [eg];exact A4 (by omega) (by omega)
     have hmono:=B9S hall (show i+1≤l.length from hi')
     have bad:N2 (l.take (i+1))>100000∨K5 (l.take (i+1))>10000000000000→P5 (fun _=>true) l=5:=fun hb=>by
      rw [hc]
      refine if_pos ?_
      rw [D8g,D7d,D7d];omega
     conv=>whnf
     refine E9 ?_
     rw [w1]
     refine ⟨[],[],List.range 14,by kernel_rfl,?_⟩;conv=>whnf
     refine E9 ?_
     refine E9 ?_
     rw [w2,w3]
     refine B7 (fun h1=>?_) (fun h1=>?_)<;>rw [h1]
     ·conv=>whnf
      exact ⟨by rw [bad (.inl (D7h h1))];rfl,rfl⟩
     ·conv=>whnf
      refine B7 (fun h2=>?_) (fun h2=>?_)<;>rw [h2]
      ·conv=>whnf
       exact ⟨by rw [bad (.inr (D7h h2))];rfl,rfl⟩
      ·conv=>whnf
       refine G3 ?_
       have:=D7g h1
       have:=D7g h2
       exact nx hi' ⟨⟨by rw [eu];omega,by omega⟩,⟨by rw [eg];omega,by omega⟩,by rw [B4 (by omega)],rfl⟩
  ·have hi':=D6 h
   have n3:=A3g (l.getD (i:Int).toNat default).price 1000000000 st'
   have yes:lineC (l.getD (i:Int).toNat default)=true→∀ k,k<i+1→lineC (l.getD k default)=true:=fun h=>G9 hok h
   have no:lineC (l.getD (i:Int).toNat default)=false→P5 (fun _=>true) l=2:=fun h=>by
    rw [hc,A4C hi' (fun k hk=>by unfold K2;rw [hok k hk];rfl) (by unfold K2;rw [show lineC (l.getD i default)=false from h];rfl)]
    exact if_pos rfl
   have e:lineC (l.getD (i:Int).toNat default)=(!decide ((l.getD (i:Int).toNat default).qty<0)&&!decide ((l.getD (i:Int).toNat default).qty>100000)&&J8 0 1000000000 (l.getD (i:Int).toNat default).price):=by
    unfold lineC;congr 1;unfold J8;congr 1<;>(rw [←decide_not];exact D8P.2 (by omega))
   rw [e] at yes no
   generalize J8 0 1000000000 (l.getD (i:Int).toNat default).price=b3 at n3 yes no
   clear e hc
   repeat' ((conv=>whnf);first | refine ⟨rfl,⟨by omega,by omega⟩,?_⟩ | refine B2 n3 ?_ | cases b3 | (refine B7 (fun h=>?_) (fun h=>?_)<;>rw [h]))
   all_goals (conv=>whnf)
   all_goals first
    | (refine ⟨?_,rfl⟩;rw [no (by simp only [*,D7S,D7z,D7H])];rfl)
    | (refine ⟨rfl,?_⟩;conv=>whnf
       exact nx hi' ⟨yes (by simp only [*,D7K,D7Q]),by rw [B4 (by omega)],rfl⟩)
theorem B8p {kn:C8→Bool} {l:List E6} (h:∀ x∈l,K2 kn x=false):P5 kn l=P5 (fun _=>true) l:=by
 unfold P5
 rw [D9G.2 fun x hx=>by rw [h x hx];simp,D9G.2 fun x hx=>by
  have:=h x hx
  simp only [K2,D7J,D7f] at this
  unfold K2;rw [this.2];simp]
theorem C5d (items:List Ab.Item) (l:List E6) (hi:Sm items.length) (hl:Sm l.length) (st:St):S P 160 [A8 4 F2 items,A8 3 I7 l] st fun v st'=>v=eI (P5 (known items) l)∧st'=st:=by
 refine F7 [] Tryz.func160 ?_
 refine lp l.length [0,1,5] (fun i vs s=>(∀ k,k<i→K2 (known items) (l.getD k default)=false)∧vs=[A8 4 F2 items,A8 3 I7 l,eI i]∧s=st) ?_ ?_
 ·conv=>whnf
  exact ⟨fun k hk=>absurd hk (by omega),rfl,rfl⟩
 ·rintro i vs st' hi2 ⟨hok,rfl,rfl⟩
  conv=>whnf
  cases h:decide ((i:Int)<(l.length:Int))
  ·obtain rfl:=B9 h hi2
   conv=>whnf
   refine I3 (B9r l _) ?_
   rw [B8p (kn:=known items) fun x hx=>by obtain ⟨k,hk,rfl⟩:=D2 hx;exact hok k hk]
   exact ⟨rfl,rfl⟩
  ·have hi':=D6 h
   conv=>whnf
   refine B7 (fun h1=>?_) (fun h1=>?_)<;>rw [h1]
   ·have hs:l.length≤1000:=by have:=D7h h1;omega
    have hc:P5 (known items) l=match l.find? (K2 (known items)) with
     | some x=>if known items x.sku=true then 2 else 7
     | none=>if (decide (N2 l>100000)||decide (K5 l>10000000000000))=true then 5 else 0:=if_neg (by omega)
    have n1:=B5y items (l.getD (i:Int).toNat default).sku hi st'
    have n3:=A3g (l.getD (i:Int).toNat default).price 1000000000 st'
    have yes:K2 (known items) (l.getD (i:Int).toNat default)=false→∀ k,k<i+1→K2 (known items) (l.getD k default)=false:=fun h=>G9 hok h
    have no:K2 (known items) (l.getD (i:Int).toNat default)=true→P5 (known items) l=if known items (l.getD i default).sku=true then 2 else 7:=fun h=>by
     rw [hc,A4C hi' hok h]
    have e:K2 (known items) (l.getD (i:Int).toNat default)=!(!decide (Q7 items (l.getD (i:Int).toNat default).sku<0)&&(!decide ((l.getD (i:Int).toNat default).qty<0)&&!decide ((l.getD (i:Int).toNat default).qty>100000)&&J8 0 1000000000 (l.getD (i:Int).toNat default).price)):=by
     unfold K2 lineC known;congr 1;congr 1
     ·rw [←decide_not];exact D8P.2 (by omega)
     ·congr 1;unfold J8;congr 1<;>(rw [←decide_not];exact D8P.2 (by omega))
    have e2:known items (l.getD i default).sku=!decide (Q7 items (l.getD (i:Int).toNat default).sku<0):=by
     unfold known;rw [←decide_not];exact D8P.2 (by rw [D7q];omega)
    rw [e] at yes no
    rw [e2] at no
    generalize Q7 items (l.getD (i:Int).toNat default).sku=F at *
    generalize J8 0 1000000000 (l.getD (i:Int).toNat default).price=b3 at n3 yes no
    clear e e2 hc
    repeat' ((conv=>whnf);first | refine ⟨rfl,⟨by omega,by omega⟩,?_⟩ | refine B2 n1 ?_ | refine B2 n3 ?_ | cases b3 | (refine B7 (fun h=>?_) (fun h=>?_)<;>rw [h]))
    all_goals (conv=>whnf)
    all_goals first
     | (refine ⟨?_,rfl⟩;rw [no (by simp only [*,D7S,D7z,D7H,D7K]),if_neg (by simp only [*];simp)];rfl)
     | (refine ⟨?_,rfl⟩;rw [no (by simp only [*,D7S,D7z,D7H,D7K]),if_pos (by simp only [*,D7K])];rfl)
     | (refine ⟨rfl,?_⟩;conv=>whnf
        exact nx hi' ⟨yes (by simp only [*,D7K,D7Q,D7S]),by rw [B4 (by omega)],rfl⟩)
   ·have:=D7g h1
    conv=>whnf
    refine I3 (B9r l _) ?_
    exact ⟨by rw [show P5 (known items) l=6 from if_pos (by omega),show P5 (fun _=>true) l=6 from if_pos (by omega)];rfl,rfl⟩
theorem C5j (l:List E6) (hl:l.length≤1000) (hok:∀ x∈l,lineC x=true) (hm:P5 (fun _=>true) l=0) (hN:(X6 l).length≤100000) (st:St):S P 161 [A8 3 I7 l] st fun v st'=>v=C4 (X6 l)∧st'=st:=by
 refine A0y (ty:=223) ?_
 refine F7 [] Tryz.func161 ?_
 refine B2 (B9r l _) ?_
 rw [hm];conv=>whnf
 refine lp l.length [0,3,4] (fun i vs s=>∃ sv,vs=[A8 3 I7 l,sv,eI i]∧E8 223 3 A0i (H1 l i) st sv s) ?_ ?_
 ·conv=>whnf
  exact ⟨.emp,rfl,E8.start _ _ _ _⟩
 ·rintro i vs st' hi ⟨sv,rfl,hc⟩
  conv=>whnf
  cases h:decide ((i:Int)<(l.length:Int))
  ·obtain rfl:=B9 h hi
   conv=>whnf
   exact hc
  ·have hi':=D6 h
   have hx:lineC (l.getD (i:Int).toNat default)=true:=hok _ (A5 hi')
   obtain ⟨⟨q0,q1⟩,_⟩:=(A0Q _).1 hx
   have hq:(l.getD (i:Int).toNat default).qty=((l.getD i default).qty.toNat:Int):=by rw [D7q] at *;omega
   have hlt:=fun {j} (hj:j<(l.getD i default).qty.toNat)=>B3d hi' hj
   generalize hn:(l.getD i default).qty.toNat=n at *
   conv=>whnf
   refine lp n [0,3,4,5] (fun j vs s=>∃ sv,vs=[A8 3 I7 l,sv,eI i,eI j]∧E8 223 3 A0i (H1 l i++List.replicate j (lnU l i)) st sv s) ?_ ?_
   ·conv=>whnf
    exact ⟨sv,rfl,by rw [List.replicate_zero,D8X];exact hc⟩
   ·clear hc
    rintro j vs s hj ⟨sv,rfl,hc⟩
    conv=>whnf
    refine E9 ?_
    rw [hq]
    cases h:decide ((j:Int)<(n:Int))
    ·obtain rfl:=B9 h hj
     conv=>whnf
     refine G3 ?_
     refine nx hi' ⟨sv,by rw [B4 (by omega)],?_⟩
     unfold H1;rw [hn];exact hc
    ·have hj':=D6 h
     have h5:=hlt hj'
     have h6:(H1 l l.length).length≤100000:=hN
     conv=>whnf
     refine E9 ?_
     refine E8.app (q:=C2k) (y:=lnU l i) rfl rfl rfl rfl rfl rfl (by show (_+1) * 24≤140737488355328;omega) hc (fun sv' s' hc'=>?_);conv=>whnf
     refine G3 ?_
     exact nx hj' ⟨sv',by rw [B4 (by omega)],by rw [List.replicate_succ',←D8z];exact hc'⟩
theorem B7q (items:List Ab.Item) (l:List E6) (hi:Sm items.length) (hl:l.length≤1000) (hk:∀ x∈l,known items x.sku=true) (st:St):S P 116 [A8 4 F2 items,A8 3 I7 l] st fun v st'=>v=A8 4 F2 (C2 items l)∧st'=st:=by
 refine A0y (ty:=86) ?_
 refine F7 [] Tryz.func116 ?_
 refine lp l.length [0,1,5,6] (fun i vs s=>∃ sv,vs=[A8 4 F2 items,A8 3 I7 l,sv,eI i]∧E8 86 4 F2 (C2 items (l.take i)) st sv s) ?_ ?_
 ·conv=>whnf
  exact ⟨.emp,rfl,E8.start _ _ _ _⟩
 ·rintro i vs st' hi2 ⟨sv,rfl,hc⟩
  conv=>whnf
  cases h:decide ((i:Int)<(l.length:Int))
  ·obtain rfl:=B9 h hi2
   rw [D7m] at hc;conv=>whnf
   exact hc
  ·have hi':=D6 h
   have hmem:l.getD (i:Int).toNat default∈l:=A5 hi'
   have hkn:=hk _ hmem
   simp only [known,D7d] at hkn
   have hlt:Q7 items (l.getD (i:Int).toNat default).sku<(items.length:Int):=(A9G (fun x:Ab.Item=>x.sku.toList==(l.getD (i:Int).toNat default).sku.toList) items).2
   have hlen:(C2 items (l.take i)).length=i:=by unfold C2;rw [D7i,D7n];omega
   conv=>whnf
   refine E9 ?_
   refine I3 (B5y items (l.getD (i:Int).toNat default).sku (by omega) _) ?_
   refine B7 (fun h1=>?_) (fun h1=>?_)
   ·exact absurd (D7h h1) (by omega)
   ·rw [h1];conv=>whnf
    refine E9 ?_
    refine E8.app (q:=r86) (y:=items.getD (Q7 items (l.getD (i:Int).toNat default).sku).toNat default) rfl rfl rfl rfl rfl rfl (by show (_+1) * 48≤140737488355328;omega) hc (fun sv' s' hc'=>?_);conv=>whnf
    refine G3 ?_
    refine nx hi' ⟨sv',by rw [B4 (by omega)],?_⟩
    unfold C2 at hc' ⊢
    rw [A1q hi'];exact hc'
end Go.Proofs.YtaapofnkmpiknaaGreat
namespace Go.Proofs.YtaapofnkmpiknaaGreat
open Go Go.Ab
theorem B0b (l:List B1) (o:List Int):(P9 l o).Perm o:=by
 have h:=(A1O l o).map fun e:QE=>gI o e.2.toNat
 rw [D9B] at h
 have e:(List.range o.length).map ((fun e:QE=>gI o e.2.toNat) ∘ B2F l o)=o:=by
  refine D9K (by simp) fun k h1 h2=>?_
  rw [List.getElem_map,List.getElem_range]
  show o.getD k default=_
  rw [D7c,D7k h2];rfl
 rw [e] at h;exact h
end Go.Proofs.YtaapofnkmpiknaaGreat
namespace Go.Proofs.YtaapofnkmpiknaaGreat
open Go Go.Ab
attribute [local irreducible] upd del
def B5 (v n:Int):Int:=v % 18446744073709551616 % n
theorem C7 (v:Int) {n:Int} (h:0<n):0≤B5 v n∧B5 v n<n:=⟨D8F _ (by omega),D8t _ h⟩
theorem C1d (x:Int):IntKind.u64.wrap x=x % 18446744073709551616:=rfl
theorem C4x (v:Int) {n:Int} (h0:0<n) (h1:n≤9223372036854775807):IntKind.i64.wrap (Int.tmod (IntKind.u64.wrap v) (IntKind.u64.wrap n))=B5 v n:=by
 have h2:=C7 v h0
 have e1:IntKind.u64.wrap n=n:=by rw [C1d];omega
 have e2:Int.tmod (IntKind.u64.wrap v) n=B5 v n:=by rw [D8M (by rw [C1d];omega)];rfl
 rw [e1,e2,A4 (by omega) (by omega)]
theorem A1l (v n:Int) (h0:0<n) (h1:n≤9223372036854775807) (st:St):S P 22 [eI v,eI n] st fun r st'=>r=eI (B5 v n)∧st'=st:=by
 refine F7 [] Tryz.func22 ?_
 rw [D7j (show ¬ IntKind.u64.wrap n=0 by rw [C1d];omega)];conv=>whnf
 refine ⟨?_,rfl⟩
 rw [←C4x v h0 h1];rfl
theorem W6 (v n:Int) (h0:0<n) (h1:n≤9223372036854775807) (st:St):S P 24 [eI v,eI n] st fun r st'=>r=eI (B5 v n)∧st'=st:=by
 refine F7 [] Tryz.func24 ?_
 rw [D7j (show ¬ IntKind.u64.wrap n=0 by rw [C1d];omega)];conv=>whnf
 refine ⟨?_,rfl⟩
 rw [←C4x v h0 h1];rfl
def A0h (c:Int):C8:=B2W [IntKind.u8.wrap c]
def A1o (n:Int):C8:=A0h (97+B5 n 8)
def A5U (n:Int):C8:=A0h (120+B5 n 3)
def idN (n:Int):C8:=(⟨#[112]⟩:C8)++A0h (48+B5 n 10)
def A5K (n:Int):C8:=(⟨#[99]⟩:C8)++A0h (48+B5 n 3)
theorem B3g (c x:Int):IntKind.u8.wrap (c+IntKind.u8.wrap x)=IntKind.u8.wrap (c+x):=by
 show (c+x % 256) % 256=(c+x) % 256
 omega
theorem C5z (n:Int) (st:St):S P 36 [eI n] st fun r st'=>r=eS (A1o n)∧st'=st:=by
 refine F7 [] Tryz.func36 ?_
 refine I3 (A1l n 8 (by decide) (by decide) _) ?_
 refine ⟨?_,rfl⟩
 show AV.str (B2W [IntKind.u8.wrap (97+IntKind.u8.wrap (B5 n 8))])=_
 rw [B3g];rfl
theorem A5n (n:Int) (st:St):S P 155 [eI n] st fun r st'=>r=eS (A5U n)∧st'=st:=by
 refine F7 [] Tryz.func155 ?_
 refine I3 (A1l n 3 (by decide) (by decide) _) ?_
 refine ⟨?_,rfl⟩
 show AV.str (B2W [IntKind.u8.wrap (120+IntKind.u8.wrap (B5 n 3))])=_
 rw [B3g];rfl
theorem D4y (n:Int) (st:St):S P 207 [eI n] st fun r st'=>r=eS (idN n)∧st'=st:=by
 refine F7 [] Tryz.func207 ?_
 refine I3 (A1l n 10 (by decide) (by decide) _) ?_
 refine ⟨?_,rfl⟩
 show AV.str ((⟨#[112]⟩:C8)++B2W [IntKind.u8.wrap (48+IntKind.u8.wrap (B5 n 10))])=_
 rw [B3g];rfl
theorem C3R (n:Int) (st:St):S P 113 [eI n] st fun r st'=>r=eS (A5K n)∧st'=st:=by
 refine F7 [] Tryz.func113 ?_
 refine I3 (A1l n 3 (by decide) (by decide) _) ?_
 refine ⟨?_,rfl⟩
 show AV.str ((⟨#[99]⟩:C8)++B2W [IntKind.u8.wrap (48+IntKind.u8.wrap (B5 n 3))])=_
 rw [B3g];rfl
def B5p (s:C8):Nat→Int
 | 0=>s.size
 | i+1=>IntKind.i64.wrap (IntKind.i64.wrap (7 * B5p s i)+chr s i)
def A3f (s:C8):Int:=B5p s (min s.size 8)
theorem C3O (s:C8) (i:Nat):0≤chr s i∧chr s i<256:=by
 unfold chr;split
 ·rename_i h;have:=(s[i]'h).toNat_lt;omega
 ·omega
theorem B2n (s:C8) (st:St):S P 114 [eS s] st fun r st'=>r=eI (A3f s)∧st'=st:=by
 refine F7 [] Tryz.func114 ?_
 refine lp (min s.size 8) [0,3,4] (fun i vs t=>vs=[eS s,eI (B5p s i),eI i]∧t=st) ?_ ?_
 ·conv=>whnf
  exact ⟨rfl,rfl⟩
 ·rintro i vs t hi ⟨rfl,rfl⟩
  conv=>whnf
  refine B7 (fun h1=>?_) (fun h1=>?_)<;>rw [h1]<;>simp only [D7d,D7e] at h1
  ·conv=>whnf
   refine B7 (fun h2=>?_) (fun h2=>?_)<;>rw [h2]<;>simp only [D7d,D7e] at h2
   ·have hi':i<min s.size 8:=by omega
    conv=>whnf
    refine C7a (i:=i) rfl (by omega) ?_;conv=>whnf
    refine G3 ?_
    refine nx hi' ⟨?_,rfl⟩
    rw [B4 (by omega)]
    have hc:IntKind.i64.wrap (chr s i)=chr s i:=A4 (by have:=C3O s i;omega) (by have:=C3O s i;omega)
    show [eS s,eI (IntKind.i64.wrap (IntKind.i64.wrap (7 * B5p s i)+IntKind.i64.wrap (chr s i))),eI ((i+1:Nat):Int)]=_
    rw [hc];rfl
   ·obtain rfl:i=min s.size 8:=by omega
    conv=>whnf
    exact ⟨rfl,rfl⟩
  ·obtain rfl:i=min s.size 8:=by omega
   conv=>whnf
   exact ⟨rfl,rfl⟩
def C4b (r:E0):Bool:=decide ((r.items.length:Int)<60)&&decide ((r.promos.length:Int)<30)&&decide ((r.tax.zones.length:Int)<30)&&decide ((r.policy.order.length:Int)<30)&&decide ((r.policy.credit.length:Int)<30)
theorem D0Q (r:E0) (st:St):S P 43 [F4 r] st fun v st'=>v=.bool (C4b r)∧st'=st:=by
 refine SyW [1] Tryz.func43 ?_
 unfold C4b
 repeat' ((conv=>whnf);first | (refine B7 (fun h=>?_) (fun h=>?_)<;>rw [h]))
 all_goals (conv=>whnf)
 all_goals exact ⟨by simp only [D7u,D7z];rfl,rfl⟩
def A6G (l:List C8) (most:Nat) (kinds:Int) (name:Int→C8) (out:List C8) (k:Nat):List C8 :=
 if (decide (out.length<most)&&(l.take 4).any fun s=>B5 (A3f s) kinds==k)=true then out++[name k] else out
def T9 (l:List C8) (most:Nat) (kinds:Int) (name:Int→C8) (k:Nat):List C8:=(List.range k).foldl (A6G l most kinds name) []
theorem A6H (l:List C8) (most:Nat) (kinds:Int) (name:Int→C8) (k:Nat):T9 l most kinds name (k+1)=A6G l most kinds name (T9 l most kinds name k) k:=by
 unfold T9;rw [D8G,D9g];rfl
theorem B9E (l:List C8) (most:Nat) (kinds:Int) (name:Int→C8) (k:Nat):(T9 l most kinds name k).length≤k:=by
 induction k with
 | zero=>exact D7l _
 | succ k ih =>
  rw [A6H];unfold A6G
  split
  ·rw [D7p];show _+1≤_;omega
  ·omega
theorem B9F (l:List C8) (most kinds:Nat) (name:Int→C8) (g:FuncId) (hk:0<kinds) (hk2:kinds≤100) (hg:∀ (n:Int) (st:St),S P g [eI n] st fun v st'=>v=eS (name n)∧st'=st) (st:St) :
  S P 112 [D5 l,eI most,eI kinds,.fn (.func g) [] []] st fun v st'=>v=D5 (T9 l most kinds name kinds)∧st'=st:=by
 refine A0y (ty:=9) ?_
 refine F7 [] Tryz.func112 ?_
 refine lp kinds [0,1,2,3,9,10] (fun k vs s=>∃ sv,vs=[D5 l,eI most,eI kinds,.fn (.func g) [] [],sv,eI k]∧E8 9 1 eS (T9 l most kinds name k) st sv s) ?_ ?_
 ·conv=>whnf
  exact ⟨.emp,rfl,E8.start _ _ _ _⟩
 ·rintro k vs s hk1 ⟨sv,rfl,hc⟩
  conv=>whnf
  cases hd:decide ((k:Int)<(kinds:Int))
  ·obtain rfl:=B9 hd hk1
   conv=>whnf
   exact hc
  ·have hk':=D6 hd
   have hlen:=B9E l most kinds name k
   have hS:=A6H l most kinds name k
   unfold A6G at hS;conv=>whnf
   refine lp (min l.length 4) [0,1,2,3,9,10,11] (fun i vs t=>(∀ j,j<i→(B5 (A3f (l.getD j default)) kinds==k)=false)∧vs=[D5 l,eI most,eI kinds,.fn (.func g) [] [],sv,eI k,eI i]∧t=s) ?_ ?_
   ·conv=>whnf
    exact ⟨fun j hj=>absurd hj (by omega),rfl,rfl⟩
   ·rintro i vs t hi ⟨hok,rfl,rfl⟩
    have hstop:i=min l.length 4→((l.take 4).any fun s=>B5 (A3f s) kinds==k)=false:=fun e=>by
     refine D8q.2 fun x hx=>?_
     obtain ⟨j,hj,rfl⟩:=D2 hx
     rw [D7n] at hj
     rw [show (l.take 4).getD j default=l.getD j default by rw [D7c,D7c,D7r (by omega)],hok j (by omega)]
     simp
    have hsv:(sv=.emp∧(T9 l most kinds name k).length=0)∨∃ b,sv=.own 1 b 0 (T9 l most kinds name k).length:=by
     rcases hc with ⟨h0,h1,_⟩ | ⟨_,b,_,_,h1,_⟩
     ·exact .inl ⟨h1,h0⟩
     ·exact .inr ⟨b,h1⟩
    have hrun:∀ {t':St} {sv':AV},E8 9 1 eS (T9 l most kinds name (k+1)) st sv' t'→∃ sv,[D5 l,eI most,eI kinds,.fn (.func g) [] [],sv',eI (IntKind.i64.wrap ((k:Int)+1))]=[D5 l,eI most,eI kinds,.fn (.func g) [] [],sv,eI ((k+1:Nat):Int)]∧E8 9 1 eS (T9 l most kinds name (k+1)) st sv t':=fun {t' sv'} h=>⟨sv',by rw [B4 (by omega)],h⟩
    conv=>whnf
    refine B7 (fun h1=>?_) (fun h1=>?_)<;>rw [h1]<;>simp only [D7d,D7e] at h1
    ·conv=>whnf
     refine B7 (fun h2=>?_) (fun h2=>?_)<;>rw [h2]<;>simp only [D7d,D7e] at h2
     ·have hi':i<min l.length 4:=by omega
      rcases hsv with ⟨rfl,hl0⟩ | ⟨b,rfl⟩
      all_goals
       conv=>whnf
       refine B7 (fun h3=>?_) (fun h3=>?_)<;>rw [h3]<;>simp only [D7d,D7e] at h3
       ·conv=>whnf
        refine E9 ?_
        refine I3 (B2n _ _) ?_
        refine I3 (A1l _ (kinds:Int) (by omega) (by omega) _) ?_
        cases h4:(B5 (A3f (l.getD (i:Int).toNat default)) (kinds:Int)==(k:Int))
        ·conv=>whnf
         refine G3 ?_
         exact nx hi' ⟨G9 hok h4,by rw [B4 (by omega)],rfl⟩
        ·have hm:(decide ((T9 l most kinds name k).length<most)&&(l.take 4).any fun s=>B5 (A3f s) kinds==k)=true:=by
          rw [D7f,D7d,D8N]
          refine ⟨by omega,l.getD (i:Int).toNat default,?_,h4⟩
          rw [show l.getD (i:Int).toNat default=(l.take 4).getD i default by rw [D7c,D7c,D7r (by omega)];rfl]
          exact A5 (by rw [D7n];omega)
         rw [if_pos hm] at hS;conv=>whnf
         refine I3 (hg _ _) ?_
         refine E8.app (q:=r9) rfl rfl rfl rfl rfl (by rfl) (by show ((T9 l most kinds name k).length+1) * 16≤140737488355328;omega) hc (fun sv' t' hc'=>?_);conv=>whnf
         refine G3 ?_
         exact nx hk' (hrun (by rw [hS];exact hc'))
       ·rw [if_neg (by rw [D7j (by omega)];simp)] at hS;conv=>whnf
        refine G3 ?_
        exact nx hk' (hrun (by rw [hS];exact hc))
     ·rw [if_neg (by rw [hstop (by omega)];simp)] at hS;conv=>whnf
      refine G3 ?_
      exact nx hk' (hrun (by rw [hS];exact hc))
    ·rw [if_neg (by rw [hstop (by omega)];simp)] at hS;conv=>whnf
     refine G3 ?_
     exact nx hk' (hrun (by rw [hS];exact hc))
end Go.Proofs.YtaapofnkmpiknaaGreat
