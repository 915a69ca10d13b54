/- Part 24 of the proof: contracts of the functions that the law reaches -/
import Derived.Test.YtaapofnkmpiknaaGreatRw23
set_option maxRecDepth 100000
set_option linter.unusedVariables false
set_option linter.unusedSimpArgs false
namespace Go.Proofs.YtaapofnkmpiknaaGreat
open Go Go.Ab
attribute [local irreducible] upd del
def A1H (us:List B2) (l:List Int):Int:=A2 (l.map fun i=>(gU us i.toNat).net)
theorem B3c {us:List B2} (hu:E1 us) {l:List Int} (hl:∀ k,k<l.length→0≤gI l k∧(gI l k).toNat<us.length) (hn:l.length≤800000) {i:Nat} (hi:i<l.length) :
  IntKind.i64.wrap (A1H us (l.take i)+(gU us (gI l i).toNat).net)=A1H us (l.take (i+1)):=by
 have hc:=A1j hu (l.take i) (fun x hx=>by obtain ⟨k,hk,rfl⟩:=D3 (D6p _ _ hx);exact hl k hk)
 have h3:0≤(gU us (gI l i).toNat).net:=hu.pos _ (A7 (hl i hi).2)
 have h4:(gU us (gI l i).toNat).net≤10000000000000:=hu.le (A7 (hl i hi).2)
 have e:A1H us (l.take (i+1))=A1H us (l.take i)+(gU us (gI l i).toNat).net:=by
  unfold A1H;rw [K1 hi,D5P,F2];simp [A2]
 have hcl:(l.take i).length≤800000:=by rw [D5v];omega
 have e2:H6 us (l.take i)=A1H us (l.take i):=rfl
 rw [e]
 exact A5 (by omega) (by omega)
theorem C8S (bx:Nat) (items:List Ab.Item) (p:PSt) (hu:E1 p.us) (l:List Int) (hn:l.length≤800000) (hl:∀ k,k<l.length→0≤gI l k∧(gI l k).toNat<p.us.length) (s t:St) (h:PxR bx items p s t) :
  S P 270 [.optr 4 bx 0 0,B0 l] t fun v t'=>v=eI (A1H p.us l)∧t'=t:=by
 obtain ⟨dv,gv,fx,hx,hx0,hdv,hgv⟩:=h.at
 refine F1 [] Tryz.func270 ?_
 refine ⟨[0,5,8,9,10],fun m vs t'=>∃ i:Nat,i≤l.length∧m=l.length - i∧vs=[.optr 4 bx 0 0,eI (A1H p.us (l.take i)),B0 l,eI l.length,eI i]∧t'=t,?_,?_⟩
 ·conv=>whnf
  exact ⟨_,0,D5L _,rfl,rfl,rfl⟩
 ·rintro m vs t' ⟨i,hi,rfl,rfl,rfl⟩
  conv=>whnf
  cases h2:decide ((i:Int)<(l.length:Int))
  ·have:=D5q h2
   obtain rfl:i=l.length:=by omega
   rw [D5w];conv=>whnf
   exact ⟨rfl,rfl⟩
  ·have hi':i<l.length:=by have:=D5o h2;omega
   have hr:=hl i hi'
   conv=>whnf
   refine E4 ?_
   refine I1 hx hx0 ?_
   refine ⟨rfl,⟨by show 0≤gI l i;exact hr.1,by show gI l i<(p.us.length:Int);have:=hr.2;have:=hr.1;omega⟩,?_⟩;conv=>whnf
   refine F8 ?_
   exact ⟨l.length - (i+1),by omega,i+1,by omega,rfl,by rw [B3 (by omega),←B3c hu hl hn hi'];rfl,rfl⟩
theorem C7J (bx:Nat) (items:List Ab.Item) (p:PSt) (hu:E1 p.us) (l:List Int) (hn:l.length≤800000) (hl:∀ k,k<l.length→0≤gI l k∧(gI l k).toNat<p.us.length) (s t:St) (h:PxR bx items p s t)
  (b:Nat) (m0:Nat) (f:Nat→AV) (hm0:l.length≤m0) (hb:t b=some ⟨3,1,m0,f⟩) (hf:∀ k,k<l.length→f k=eI (gI l k)) :
  S P 270 [.optr 4 bx 0 0,.own 1 b 0 l.length] t fun v t'=>v=eI (A1H p.us l)∧t'=t:=by
 obtain ⟨dv,gv,fx,hx,hx0,hdv,hgv⟩:=h.at
 refine F1 [] Tryz.func270 ?_
 refine ⟨[0,5,8,9,10],fun m vs t'=>∃ i:Nat,i≤l.length∧m=l.length - i∧vs=[.optr 4 bx 0 0,eI (A1H p.us (l.take i)),.own 1 b 0 l.length,eI l.length,eI i]∧t'=t,?_,?_⟩
 ·conv=>whnf
  exact ⟨_,0,D5L _,rfl,rfl,rfl⟩
 ·rintro m vs t' ⟨i,hi,rfl,rfl,rfl⟩
  conv=>whnf
  cases h2:decide ((i:Int)<(l.length:Int))
  ·have:=D5q h2
   obtain rfl:i=l.length:=by omega
   rw [D5w];conv=>whnf
   exact ⟨rfl,rfl⟩
  ·have hi':i<l.length:=by have:=D5o h2;omega
   have hr:=hl i hi'
   conv=>whnf
   refine E4 ?_
   refine ldV hb rfl (by omega) (v:=eI (gI l i)) (by rw [show 0+(i:Int).toNat=i by omega];exact hf i hi') ?_;conv=>whnf
   refine I1 hx hx0 ?_
   refine ⟨rfl,⟨by show 0≤gI l i;exact hr.1,by show gI l i<(p.us.length:Int);have:=hr.2;have:=hr.1;omega⟩,?_⟩;conv=>whnf
   refine F8 ?_
   exact ⟨l.length - (i+1),by omega,i+1,by omega,rfl,by rw [B3 (by omega),←B3c hu hl hn hi'],rfl⟩
def A1x (p:PSt) (pr:B1) (off:Int):PSt:=⟨p.us,p.deals++[⟨pr.id,off⟩],p.groups++(if N0 pr.group=true then [] else [pr.group])⟩
theorem A4e {α : Type} [Inhabited α] {a b:List α} {k:Nat} (h:k<a.length):(a++b).getD k default=a.getD k default:=by
 rw [D5l,D5l,D5J h]
theorem A7X {α : Type} [Inhabited α] (a:List α) (x : α):(a++[x]).getD a.length default=x:=by
 simp [D5l]
theorem RD.at {bx:Nat} {dl:List A1G} {gr:List C8} {dv gv:AV} {s t:St} {f:Nat→AV} (h:RD dl gr dv gv (upd s bx ⟨239,4,1,f⟩) t):t bx=some ⟨239,4,1,f⟩:=(A3u _ _ _ _).sup h bx _ (A0 ..)
theorem RD.put {bx:Nat} {dl:List A1G} {gr:List C8} {dv gv:AV} {s t:St} {f f':Nat→AV} (h:RD dl gr dv gv (upd s bx ⟨239,4,1,f⟩) t):RD dl gr dv gv (upd s bx ⟨239,4,1,f'⟩) (upd t bx ⟨239,4,1,f'⟩):=by
 have:=(A3u dl gr dv gv).write (y':=⟨239,4,1,f'⟩) h (A0 ..)
 rw [B6] at this;exact this
theorem RD.of {dl:List A1G} {gr:List C8} {dv gv:AV} {s t:St} {d:A1G} (h:ROut (RG gr gv) 221 2 (A1q (dl++[d])) (dl.length+1) s dv t):RD (dl++[d]) gr dv gv s t:=by
 unfold RD;rw [D5x];exact h
theorem RD.grp {K:KK} {X:Prop} {dl:List A1G} {gr:List C8} {dv gv:AV} {s t:St} (h:RD dl gr dv gv s t) (g:C8)
  (happ:∀ {s1:St},ROut E5 9 1 (A6U (gr++[g])) gr.length s1 gv t→(∀ gv' t',ROut E5 9 1 (A6U (gr++[g])) (gr.length+1) s1 gv' t'→K gv' t')→X)
  (hk:∀ gv' t',RD dl (gr++[g]) dv gv' s t'→(gv'=.emp∨∃ b,gv'=.own 1 b 0 (gr++[g]).length)→K gv' t'):X:=by
 obtain ⟨s1,hc,hg⟩:=h
 refine happ (s1:=s1) (hg.congr fun k hk=>by simp only [A6U];rw [A4e hk]) (fun gv' t' hg'=>?_)
 have hg2:RG (gr++[g]) gv' s1 t':=by unfold RG;rw [D5x];exact hg'
 exact hk gv' t' ⟨s1,hc,hg2⟩ (ROut.head hg2)
theorem PxR.mk' {bx:Nat} {items:List Ab.Item} {p:PSt} {dv gv:AV} {s t:St} {f:Nat→AV} (hbx:s bx=none) (hf:f 0=.agg [A6 4 E3 items,C6 p.us,dv,gv]) (h:RD p.deals p.groups dv gv (upd s bx ⟨239,4,1,f⟩) t):PxR bx items p s t :=
 ⟨(dv,gv),hbx,_,⟨f,rfl,hf⟩,h⟩
theorem PxR.fin {bx:Nat} {items:List Ab.Item} {us:List B2} {dl:List A1G} {gr:List C8} {dv gv:AV} {s t:St} {f:Nat→AV} (hbx:s bx=none) (h:RD dl gr dv gv (upd s bx ⟨239,4,1,f⟩) t) (f':Nat→AV) (hf:f' 0=.agg [A6 4 E3 items,C6 us,dv,gv]) :
  PxR bx items ⟨us,dl,gr⟩ s (upd t bx ⟨239,4,1,f'⟩):=PxR.mk' hbx hf (RD.put h)
theorem B7C (bx:Nat) (items:List Ab.Item) (p:PSt) (pr:B1) (off:Int) (hd:p.deals.length≤1000) (hg:p.groups.length≤1000) (s t:St) (h:PxR bx items p s t) :
  S P 234 [.optr 4 bx 0 0,B7 pr,eI off] t fun v t'=>v=.tuple []∧PxR bx items (A1x p pr off) s t':=by
 obtain ⟨⟨dv,gv⟩,hbx,y,⟨f,rfl,hf⟩,hRD⟩:=h
 simp only at hf hRD
 refine F1 [4] Tryz.func234 ?_
 refine ⟨[10,13],[],[0,1,2,3,4,5,6,7,8,9,10,11,12,13],by kernel_rfl,?_⟩
 have hdv:dv=.emp∨∃ b,dv=.own 2 b 0 p.deals.length:=ROut.head hRD
 have hgv:gv=.emp∨∃ b,gv=.own 1 b 0 p.groups.length:=by obtain ⟨s0,hc,hgg⟩:=hRD;exact ROut.head hgg
 rcases hdv with rfl | ⟨bd,rfl⟩<;>rcases hgv with rfl | ⟨bg,rfl⟩
 all_goals
  conv=>whnf
  refine I1 hRD.at hf ?_
  refine ⟨_,⟨rfl,rfl⟩,?_⟩;conv=>whnf
  refine ROut.app (q:=C5T) (A7P _ _) rfl rfl rfl rfl rfl (f:=A1q (p.deals++[⟨pr.id,off⟩])) (by simp only [A1q,A7X];rfl) (by show (p.deals.length+1) * 24≤140737488355328;omega) (hRD.congr fun k hk=>by simp only [A1q];rw [A4e hk]) (fun dv' t2 hRD2=>?_)
  have hRD2':=RD.of hRD2
  rcases ROut.head hRD2' with rfl | ⟨bd',rfl⟩
  all_goals
   conv=>whnf
   refine X1 hRD2'.at hf ?_
   have hnil:(ByteArray.toList pr.group==ByteArray.toList ⟨#[]⟩)=N0 pr.group:=rfl
   rw [hnil]
   cases hgr:N0 pr.group
   ·conv=>whnf
    refine ⟨[8,11],[],[0,1,2,3,4,5,6,7,8,9,10,11],by kernel_rfl,?_⟩;conv=>whnf
    refine I1 (RD.put hRD2').at (by rw [A4]) ?_
    refine ⟨_,⟨rfl,rfl⟩,?_⟩;conv=>whnf
    refine RD.grp (RD.put hRD2') pr.group (fun happ=>ROut.app (q:=r9) J1 rfl rfl rfl rfl rfl (by simp only [A6U,A7X];rfl) (by show (p.groups.length+1) * 16≤140737488355328;omega) happ) (fun gv' t4 hRD4 hh=>?_)
    rcases hh with rfl | ⟨bg',rfl⟩
    all_goals
     conv=>whnf
     refine X1 hRD4.at (by rw [A4]) ?_
     refine ⟨rfl,?_⟩
     unfold A1x
     rw [hgr]
     exact PxR.fin hbx hRD4 _ (by rw [A4];rfl)
   ·conv=>whnf
    refine ⟨rfl,?_⟩
    unfold A1x
    rw [hgr]
    simp only [if_true,D7f]
    exact PxR.fin hbx hRD2' _ (by rw [A4];rfl)
end Go.Proofs.YtaapofnkmpiknaaGreat
namespace Go.Proofs.YtaapofnkmpiknaaGreat
open Go Go.Ab
theorem E6 {lo hi x:Int}:O6 lo hi x=true↔lo≤x∧x≤hi:=by
 unfold O6;simp only [D5r,D5n,ge_iff_le]
theorem A4a {α : Type} [Inhabited α] {l:List α} {p:Nat→α→Bool}:L0 l p=true↔∀ k,k<l.length→p k (l.getD k default)=true:=by
 unfold L0
 rw [D5I]
 exact ⟨fun h k hk=>h k (D5B.2 hk),fun h k hk=>h k (D5B.1 hk)⟩
structure C4L (p:B1):Prop where
 kind:1≤p.kind∧p.kind<8
 skus:p.scope.skus.length≤20
 cats:p.scope.cats.length≤20
 least:0≤p.least∧p.least≤10000000000000
 buy:p.kind=3→B0t p
 bun:p.kind=4→A3U p∧∀ x∈p.parts,x.scope.skus.length≤20∧x.scope.cats.length≤20
 ask:Q2 p→p.kind=1∨p.kind=2∨p.kind=5∨p.kind=6→A5r p
 ship:p.kind=7→1≤p.rate∧p.rate≤10000
theorem C1x {l:List A0L} (h:Z2 l=true):A7K l:=by
 unfold Z2 at h
 simp only [D5r,D5F,D6z,D5m] at h
 refine ⟨by omega,fun t ht=>?_⟩
 obtain ⟨k,hk,rfl⟩:=D3 ht
 have h2:=A4a.1 h.2 k hk
 unfold A3Q at h2
 simp only [D5F,D6z,D5m] at h2
 omega
theorem A3B {p:B1} (h:H0 p=true):C4L p:=by
 have h0:=h
 unfold H0 at h
 simp only [D5r,D5n] at h
 obtain ⟨⟨⟨⟨hk1,hk2⟩,hh⟩,hp⟩,hkd⟩:=h
 have hl:=B3d hh
 simp only [A6V,D5r,E6] at hh
 unfold A6W at hkd
 refine ⟨⟨hk1,hk2⟩,hl.1,hl.2,hh.2,fun e=>?_,fun e=>?_,fun hf e=>?_,fun e=>?_⟩
 ·rw [e] at hkd
  simp [A8h,A8i,E6] at hkd
  exact ⟨hkd.2.1,hkd.2.2,⟨by omega,hkd.1.2⟩⟩
 ·rw [e] at hkd
  simp only [show ¬(4:Int)=1 by decide,show ¬(4:Int)=2 by decide,show ¬(4:Int)=3 by decide,D7T,if_true] at hkd
  unfold A6B at hkd
  simp only [D5r,D5F,D6z,D5m,D6r] at hkd
  obtain ⟨⟨⟨⟨a1,a2⟩,a3⟩,a4⟩,a5⟩:=hkd
  have hpt:∀ x∈p.parts,A0P x=true:=fun x hx=>by simpa using a5 x hx
  refine ⟨⟨by omega,by omega,fun x hx=>?_,by omega,by omega⟩,fun x hx=>?_⟩
  ·have:=hpt x hx
   unfold A0P at this
   simp only [D5r,D5F,D6z,D5m] at this
   omega
  ·have:=hpt x hx
   unfold A0P at this
   simp only [D5r] at this
   exact B1L this.1
 ·refine ⟨hf,h0,e,fun e2=>?_,fun e2=>?_⟩
  ·rcases e2 with e2 | e2<;>rw [e2] at hkd<;>simp at hkd<;>exact C1x hkd
  ·rw [e2] at hkd
   simp [A8g,E6] at hkd
   omega
 ·rw [e] at hkd
  simp [A8i,E6] at hkd
  exact hkd
theorem B9k {p:B1} (hp:A5r p) {nets:List Int} (h0:∀ x∈nets,0≤x) (hs:A2 nets≤10000000000000) (hl:nets.length≤100000):∀ k,k<(O4 p nets).length→gI (O4 p nets) k≤gI nets k:=fun k hk=>by
 have hn:=C1 h0
 have hlen:=(A4R hp h0 hs hl).2.1
 have hx:0≤gI nets k:=h0 _ (A7 (by omega))
 have hkn:k<nets.length:=by omega
 unfold O4 at hk ⊢
 have hmap:∀ (r a:Int),0≤a→gI (nets.map fun x=>P8 x r a) k≤gI nets k:=fun r a ha=>by
  rw [show gI (nets.map fun x=>P8 x r a) k=P8 (gI nets k) r a from D4 (fun x=>P8 x r a) nets hkn]
  exact (A0c hx ha).2
 rcases hp.kind with e | e | e | e
 ·rw [if_pos e] at hk ⊢;exact hmap _ _ (D5W _)
 ·rw [if_neg (by omega),if_pos e] at hk ⊢;exact hmap _ _ (hp.amount e).1
 ·rw [if_neg (by omega),if_neg (by omega),if_pos e] at hk ⊢
  have hok:=A0e (hp.tiers (.inl e)) (A2 nets)
  unfold A5h at hk ⊢
  split at hk
  ·simp at hk
  ·rename_i t hr
   rw [hr] at hok
   have hob:0≤P8 (A2 nets) t.rate t.amount∧P8 (A2 nets) t.rate t.amount≤A2 nets:=A0c hn hok.1
   have hW:Q6 (P8 (A2 nets) t.rate t.amount) nets:=⟨hob.1,by omega,hl,h0,by omega,fun e=>by omega⟩
   have hll:=(R9 hW).2.1
   exact A3g hW hob.2 (by omega)
 ·rw [if_neg (by omega),if_neg (by omega),if_neg (by omega)] at hk ⊢
  have hok:=A0e (hp.tiers (.inr e)) nets.length
  unfold A5g at hk ⊢
  split at hk
  ·simp at hk
  ·rename_i t hr
   rw [hr] at hok
   exact hmap _ _ hok.1
theorem A8f (us:List B2) (mine:List Int):E2 us mine=I8 us mine:=rfl
theorem B6S {p:B1} (hp:A5r p) {us:List B2} (hu:E1 us) {mine:List Int} (hm:N6 us mine):Off us (Z0 p us mine).1 (Z0 p us mine).2:=by
 have hnl:(E2 us mine).length=mine.length:=D5p ..
 have hml:=hm.len
 have hul:=hu.len
 have hn0:∀ x∈E2 us mine,0≤x:=fun x hx=>by
  obtain ⟨i,hi,rfl⟩:=D5G.1 hx
  exact hu.at0 _
 have hwl:=B2b hu hm.places
 have hus:=hu.sum
 have hns:A2 (E2 us mine)≤10000000000000:=by rw [A8f];omega
 obtain ⟨ob1,ob2,ob3⟩:=A4R hp hn0 hns (by omega)
 have hle:=B9k hp hn0 hns (by omega)
 have h1:=A2l hu hm.places (offs:=O4 p (E2 us mine)) (by omega) (fun k hk=>⟨ob3 _ (A7 hk),by
  have:=hle k hk
  rw [show gI (E2 us mine) k=(gU us (gI mine k).toNat).net from D4 (fun i:Int=>(gU us i.toNat).net) mine (by omega)] at this
  exact this⟩) (O4 p (E2 us mine)).length (D5u _)
 rw [D5w] at h1
 unfold Z0
 simp only
 split
 ·have h2:=Off.closeB (h1.ok hu) mine (fun x hx=>by
   obtain ⟨k,hk,rfl⟩:=D3 hx
   rw [h1.len];exact (hm.rng k hk).2)
  have h3:=h1.trans h2
  rw [D7A] at h3;exact h3
 ·exact h1
end Go.Proofs.YtaapofnkmpiknaaGreat
namespace Go.Proofs.YtaapofnkmpiknaaGreat
open Go Go.Ab
attribute [local irreducible] upd del
theorem PxR.more {bx:Nat} {items:List Ab.Item} {p:PSt} {s t t':St} (h:PxR bx items p s t) (hs:E5 t t'):PxR bx items p s t':=by
 obtain ⟨v,h1,y,h2,s1,h3,s2,h4,h5⟩:=h
 exact ⟨v,h1,y,h2,s1,h3,s2,h4,h5.trans hs⟩
structure A6Q (items:List Ab.Item) (us:List B2):Prop where
 ok:E1 us
 few:items.length≤100000
 line:∀ u∈us,0≤u.line∧u.line.toNat<items.length
theorem A6Q.off {items:List Ab.Item} {us us':List B2} {x:Int} (h:A6Q items us) (ho:Off us us' x):A6Q items us' :=
 ⟨ho.ok h.ok,h.few,fun u hu=>by
  obtain ⟨k,hk,rfl⟩:=D3 hu
  have h1:=ho.line k
  have h2:=h.line (gU us k) (A7 (by rw [←ho.len];exact hk))
  show 0≤(gU us' k).line∧(gU us' k).line.toNat<items.length
  rw [h1];exact h2⟩
def A1Y (items:List Ab.Item) (us:List B2) (pr:B1):List B2×Int :=
 if A1H us (J7 pr.scope items us us.length)<pr.least then ([],0)
 else if pr.kind=3 then V0 pr us (J7 pr.scope items us us.length) else Z0 pr us (J7 pr.scope items us us.length)
theorem C7p {P:Program} {f:FuncId} {args:List AV} {st st1:St} {v:AV} {K:KK} (h:S P f args st fun v' st'=>v'=v∧st'=st1) (hK:K v st1):A1E P f args st K:=call h fun v' st' ⟨e1,e2⟩=>by rw [e1,e2];exact hK
theorem C3S (bx:Nat) (items:List Ab.Item) (p:PSt) (pr:B1) (hfit:Q2 pr) (hright:H0 pr=true) (hk:pr.kind≠4∧pr.kind≠7) (hu:A6Q items p.us) (s t:St) (h:PxR bx items p s t) :
  S P 232 [.optr 4 bx 0 0,B7 pr] t fun v t'=>v=.tuple [C6 (A1Y items p.us pr).1,eI (A1Y items p.us pr).2]∧t'=t:=by
 have hok:=A3B hright
 have hm:=A1v pr.scope items p.us
 have hml:=hm.len
 have hul:=hu.ok.len
 refine S.post (post:=fun v t'=>(v=.tuple [C6 (A1Y items p.us pr).1,eI (A1Y items p.us pr).2]∨(A1Y items p.us pr=([],0)∧v=.tuple [.emp,eI 0]))∧t'=t) ?_ (fun v t' ⟨hv,ht⟩=>by
  subst ht
  rcases hv with rfl | ⟨h1,rfl⟩
  ·exact ⟨_,_,⟨rfl,rfl⟩,A8.refl _ _⟩
  ·exact ⟨_,_,⟨rfl,rfl⟩,by rw [h1];exact A8.tuple (A8.cons (H9 3 _) (A8.keep _ _)) rfl⟩)
 obtain ⟨dv,gv,fx,hx,hx0,hdv,hgv⟩:=h.at
 refine F1 [3] Tryz.func232 ?_
 refine H8 (C2W bx items p pr.scope hok.skus hok.cats hul hu.few hu.line s t h) ?_
 refine ⟨[],[],[0,1,2,3,4,5],by kernel_rfl,?_⟩;conv=>whnf
 refine ⟨_,I5 (C8S bx items p hu.ok _ (by omega) hm.rng s t h),?_⟩
 have hS:A1Y items p.us pr=if A1H p.us (J7 pr.scope items p.us p.us.length)<pr.least then ([],0) else if pr.kind=3 then V0 pr p.us (J7 pr.scope items p.us p.us.length) else Z0 pr p.us (J7 pr.scope items p.us p.us.length):=rfl
 conv=>whnf
 refine B8 (fun h1=>?_) (fun h1=>?_)<;>rw [h1]<;>simp only [D5n,D5m] at h1
 ·rw [if_pos h1] at hS;conv=>whnf
  exact ⟨.inr ⟨hS,rfl⟩,rfl⟩
 rw [if_neg h1] at hS;conv=>whnf
 refine B8 (fun h2=>?_) (fun h2=>?_)<;>rw [h2]<;>simp only [D6k,D5X] at h2
 ·rw [if_pos h2] at hS;conv=>whnf
  refine ⟨[],[],[0,1,2,3,4,5,6,7,8,9,10],by kernel_rfl,?_⟩;conv=>whnf
  refine I1 hx hx0 ?_
  refine cqW (C2p pr p.us _ hfit hright h2 (hok.buy h2) hu.ok hm t) ?_
  exact ⟨.inl (by rw [hS];rfl),rfl⟩
 ·rw [if_neg h2] at hS
  have hask:A5r pr:=hok.ask hfit (by have:=hok.kind;have:=hk.1;have:=hk.2;omega)
  conv=>whnf
  refine ⟨[],[],[0,1,2,3,4,5,6,7,8,9,10],by kernel_rfl,?_⟩;conv=>whnf
  refine I1 hx hx0 ?_
  refine cqW (C4R pr p.us _ hask hu.ok hm t) ?_
  exact ⟨.inl (by rw [hS];rfl),rfl⟩
theorem C2H (a b:List Int) (j:Nat):gI (a++b) (a.length+j)=gI b j:=by
 unfold gI
 rw [D5l,D5l,D5H (by omega),Nat.add_sub_cancel_left]
theorem C7I (bx:Nat) (t:St):S P 270 [.optr 4 bx 0 0,.emp] t fun v t'=>v=eI 0∧t'=t:=by
 refine F1 [] Tryz.func270 ?_
 refine B1g [0,5,8,9,10] ?_;conv=>whnf
 intro I;conv=>whnf
 exact ⟨rfl,rfl⟩
def Q4 (items:List Ab.Item) (us:List B2) (pr:B1):List (List Int):=pr.parts.map fun x=>J7 x.scope items us us.length
def A0m (items:List Ab.Item) (us:List B2) (pr:B1) (i:Nat):List Int:=((Q4 items us pr).take i).flatten
def A0S (items:List Ab.Item) (us:List B2) (pr:B1):List B2×Int :=
 if A1H us (W9 (C4 (A0m items us pr pr.parts.length)))<pr.least then ([],0) else Q7 pr us (Q4 items us pr)
theorem A8J (items:List Ab.Item) (us:List B2) (pr:B1) {i:Nat} (hi:i<pr.parts.length):A0m items us pr (i+1)=A0m items us pr i++J7 (pr.parts.getD i default).scope items us us.length:=by
 unfold A0m
 have hl:(Q4 items us pr).length=pr.parts.length:=D5p ..
 rw [K1 (by omega),List.flatten_append]
 congr 1
 have:(Q4 items us pr).getD i default=J7 (pr.parts.getD i default).scope items us us.length:=D4 (fun x:A2b=>J7 x.scope items us us.length) pr.parts hi
 rw [this];simp
theorem B0z (items:List Ab.Item) (us:List B2) (pr:B1):∀ i,i≤pr.parts.length→(A0m items us pr i).length≤i * us.length
 | 0,_=>by simp [A0m]
 | i+1,h=>by
  have ih:=B0z items us pr i (by omega)
  rw [A8J items us pr (by omega),D5x]
  have:=A2V (pr.parts.getD i default).scope items us us.length
  have e:(i+1) * us.length=i * us.length+us.length:=Nat.succ_mul i us.length
  omega
theorem B2N {l:List Int} {x:Int} (h:x∈W9 l):x∈l:=by
 unfold W9 Go.Lib.compactUpTo at h
 obtain ⟨k,hk,rfl⟩:=D5G.1 h
 have hk2:k<l.length:=D5B.1 (D6o.1 hk).1
 have:l.toArray[k]! = l[k]:=by rw [getElem!_pos _ k (by simpa using hk2)];simp
 rw [this];exact D6J hk2
theorem B0A {items:List Ab.Item} {us:List B2} {pr:B1} {i:Nat} {x:Int} (h:x∈A0m items us pr i):0≤x∧x.toNat<us.length:=by
 unfold A0m at h
 obtain ⟨l,hl,hx⟩:=List.mem_flatten.1 h
 obtain ⟨q,hq,rfl⟩:=D5G.1 (D6p _ _ hl)
 obtain ⟨k,hk,rfl⟩:=D3 hx
 exact (A1v q.scope items us).rng k hk
theorem C0I (bx:Nat) (items:List Ab.Item) (p:PSt) (pr:B1) (hfit:Q2 pr) (hright:H0 pr=true) (hk:pr.kind=4) (hu:A6Q items p.us) (s t:St) (h:PxR bx items p s t) :
  S P 233 [.optr 4 bx 0 0,B7 pr] t fun v t'=>v=.tuple [C6 (A0S items p.us pr).1,eI (A0S items p.us pr).2]∧t'=t:=by
 have hok:=A3B hright
 obtain ⟨hbun,hsc⟩:=hok.bun hk
 have hn8:=hbun.n8
 have hul:=hu.ok.len
 have hpl:(Q4 items p.us pr).length=pr.parts.length:=D5p ..
 have hpm:∀ x∈Q4 items p.us pr,N6 p.us x:=fun x hx=>by
  obtain ⟨q,hq,rfl⟩:=D5G.1 hx
  exact A1v _ _ _
 refine S.post (post:=fun v t'=>(v=.tuple [C6 (A0S items p.us pr).1,eI (A0S items p.us pr).2]∨(A0S items p.us pr=([],0)∧v=.tuple [.emp,eI 0]))∧E5 t t') ?_ (fun v t' ⟨hv,ht⟩=>by
  rcases hv with rfl | ⟨h1,rfl⟩
  ·exact ⟨_,_,⟨rfl,rfl⟩,ht.shift _⟩
  ·exact ⟨_,_,⟨rfl,rfl⟩,by rw [h1];exact (ht.shift _).trans (A8.tuple (A8.cons (H9 3 _) (A8.keep _ _)) rfl)⟩)
 have hBi:=fun (n:Nat) (sv:AV) (fo:Nat→AV)=>T7 J1 3 1 fo n sv
 refine F1 [3,9] Tryz.func233 ?_
 refine ⟨[0,3,6,7,12,13,14],fun m vs t'=>∃ (i:Nat) (sv1 sv2:AV),i≤pr.parts.length∧m=pr.parts.length - i∧vs=[.optr 4 bx 0 0,.fptr (B7 pr) 0,sv1,sv2,A6 3 U9 pr.parts,eI pr.parts.length,eI i] ∧
  ROut (fun s t'=>ROut E5 3 1 (fun k=>eI (gI (A0m items p.us pr i) k)) (A0m items p.us pr i).length s sv2 t') 29 1 (fun k=>B0 ((Q4 items p.us pr).getD k default)) i t sv1 t',?_,?_⟩
 ·conv=>whnf
  exact ⟨_,0,.emp,.emp,D5L _,rfl,rfl,ROut.start (ROut.start (E5.refl _) _ _ _) _ _ _⟩
 ·rintro m vs t' ⟨i,sv1,sv2,hi,rfl,rfl,hout⟩
  have hal:=B0z items p.us pr i hi
  have hal2:i * p.us.length≤8 * 100000:=Nat.mul_le_mul (by omega) hul
  have hsup:E5 t t':=hout.sup (hBi _ _ _)
  conv=>whnf
  cases hd:decide ((i:Int)<(pr.parts.length:Int))
  ·have:=D5q hd
   obtain rfl:i=pr.parts.length:=by omega
   obtain ⟨s1,hc1,hout2⟩:=hout
   generalize hA:A0m items p.us pr pr.parts.length=A at *
   have hAm:∀ x∈A,0≤x∧x.toNat<p.us.length:=fun x hx=>B0A (by rw [hA];exact hx)
   have hSl:(C4 A).length=A.length:=W8 A
   have hCl:=A8M (C4 A)
   have hCm:∀ k,k<(W9 (C4 A)).length→0≤gI (W9 (C4 A)) k∧(gI (W9 (C4 A)) k).toNat<p.us.length:=fun k hk=>hAm _ (T9.1 (B2N (A7 hk)))
   conv=>whnf
   refine call (B3q J1 (by omega) hout2) (fun v t2 hv=>?_)
   obtain ⟨rfl,hout3⟩:=hv
   have hsup2:E5 s1 t2:=hout3.sup J1
   have hB:A0S items p.us pr=if A1H p.us (W9 (C4 A))<pr.least then ([],0) else Q7 pr p.us (Q4 items p.us pr):=by unfold A0S;rw [hA]
   -- what is behind the two,with the store as it is then
   have fin:∀ t3,E5 s1 t3→∀ K:KK,(∀ v,v=.tuple [C6 (Q7 pr p.us (Q4 items p.us pr)).1,eI (Q7 pr p.us (Q4 items p.us pr)).2]→K v t)→A1E P 275 [B7 pr,C6 p.us,sv1] t3 K:=fun t3 h3 K hK=>by
    have hsh:A8 [B7 pr,C6 p.us,sv1] t3 [B7 pr,C6 p.us,A6 1 B0 (Q4 items p.us pr)] t:=by
     refine A8.cons (A8.keep _ _) (A8.cons (A8.keep _ _) ?_)
     have e:A6 1 B0 (Q4 items p.us pr)=.arr 1 pr.parts.length (fun k=>B0 ((Q4 items p.us pr).getD k default)):=by unfold A6;rw [hpl]
     rw [e]
     exact (h3.shift _).trans hc1.shift
    refine F4 hsh (call (C2o pr p.us (Q4 items p.us pr) hfit hright hk hbun hu.ok hpl hpm t) (fun v t4 hv=>?_))
    rw [hv.2];exact hK v hv.1
   have hpx:∀ t3,E5 s1 t3→PxR bx items p s t3:=fun t3 h3=>h.more (hc1.sup.trans h3)
   conv=>whnf
   refine ⟨[2,5],[],[],.qui 0 (.qui 1 (.qui 4 (.two 2 5 (.qui 5 (.qui 3 (.qui 6 .done))) (.gen 2 (.qui 3 (.qui 6 .done)))))),by kernel_rfl,?_⟩
   obtain ⟨s2,hc2,hs2⟩:=hout3
   rcases hc2 with ⟨h0,rfl,rfl⟩ | ⟨h0,b2,g2,hb2,rfl,rfl,hg2⟩
   ·have hA0:A=[]:=D5V h0
    have hnet:A1H p.us (W9 (C4 A))=0:=by
     have:W9 (C4 A)=[]:=D5V (by omega)
     rw [this];rfl
    rw [hnet] at hB;conv=>whnf
    constructor
    all_goals conv=>whnf
    all_goals refine B4 (B6Y _) ?_
    all_goals conv=>whnf
    all_goals refine ⟨_,I5 (C7I bx _),?_⟩
    all_goals conv=>whnf
    all_goals refine B8 (fun h1=>?_) (fun h1=>?_)<;>rw [h1]<;>simp only [D5n,D5m] at h1
    all_goals first
     | (rw [if_pos h1] at hB
        conv=>whnf
        exact ⟨.inr ⟨hB,rfl⟩,hc1.sup.trans hs2⟩)
     | (rw [if_neg h1] at hB
        obtain ⟨dv,gv,fx,hx,hx0,_,_⟩:=(hpx _ hs2).at
        conv=>whnf
        refine ⟨[6],[],[0,1,2,3,4,5,6,7,8,9,10],by kernel_rfl,?_⟩;conv=>whnf
        refine I1 hx hx0 ?_
        refine fin _ hs2 _ (fun v hv=>?_)
        subst hv;conv=>whnf
        exact ⟨.inl (by rw [hB];rfl),E5.refl _⟩)
   ·have hb2t:=hs2 b2 _ (A0 ..)
    have hC:=C0a b2 (C4 A) (by omega) t2 ⟨g2,by rw [hb2t,hSl],fun k hk=>hg2 k (by omega)⟩
    rw [hSl] at hC
    have hs3:∀ y,E5 s1 (upd t2 b2 y):=fun y=>hsup2.over hb2
    have hN:=fun t3 (h3:E5 s1 t3) (e3:t3=upd t2 b2 (A6a (A7R (C4 A))))=>C7J bx items p hu.ok (W9 (C4 A)) (by omega) hCm s t3 (hpx t3 h3) b2 (A7R (C4 A)).length (fun k=>eI (gI (A7R (C4 A)) k)) (by rw [B2O];omega) (by rw [e3,A0];rfl) (fun k hk=>by rw [C5j hk])
    conv=>whnf
    constructor
    all_goals conv=>whnf
    all_goals refine C7p hC ?_
    all_goals conv=>whnf
    all_goals refine ⟨_,I5 (hN _ (hs3 _) rfl),?_⟩
    all_goals conv=>whnf
    all_goals refine B8 (fun h1=>?_) (fun h1=>?_)<;>rw [h1]<;>simp only [D5n,D5m] at h1
    all_goals first
     | (rw [if_pos h1] at hB
        conv=>whnf
        exact ⟨.inr ⟨hB,rfl⟩,hc1.sup.trans (hs3 _)⟩)
     | (rw [if_neg h1] at hB
        obtain ⟨dv,gv,fx,hx,hx0,_,_⟩:=(hpx _ (hs3 (A6a (A7R (C4 A))))).at
        conv=>whnf
        refine ⟨[6],[],[0,1,2,3,4,5,6,7,8,9,10],by kernel_rfl,?_⟩;conv=>whnf
        refine I1 hx hx0 ?_
        refine fin _ (hs3 _) _ (fun v hv=>?_)
        subst hv;conv=>whnf
        exact ⟨.inl (by rw [hB];rfl),E5.refl _⟩)
  ·have hi':i<pr.parts.length:=by have:=D5o hd;omega
   have hq:=hsc (pr.parts.getD i default) (A7 hi')
   have hpk:(Q4 items p.us pr).getD i default=J7 (pr.parts.getD i default).scope items p.us p.us.length:=D4 (fun x:A2b=>J7 x.scope items p.us p.us.length) pr.parts hi'
   have hls:=A8J items p.us pr hi'
   have hml:=A2V (pr.parts.getD i default).scope items p.us p.us.length
   conv=>whnf
   refine E4 ?_
   refine H8 (C2W bx items p (pr.parts.getD i default).scope hq.1 hq.2 hul hu.few hu.line s t' (h.more hsup)) ?_
   refine ROut.app (q:=r29) (hBi _ _ _) rfl rfl rfl rfl rfl (by simp only [hpk];rfl) (by show (i+1) * 24≤140737488355328;omega) hout (fun sv1' t2 hout2=>?_);conv=>whnf
   obtain ⟨s1,hc1,hin⟩:=hout2
   refine ROut.apps (q:=r3) (n:=(A0m items p.us pr i).length) (m:=(J7 (pr.parts.getD i default).scope items p.us p.us.length).length) J1 rfl rfl rfl rfl (B4D rfl _) (f:=fun k=>eI (gI (A0m items p.us pr (i+1)) k)) (fun j hj=>?_) (by show ((A0m items p.us pr i).length+(J7 (pr.parts.getD i default).scope items p.us p.us.length).length) * 8≤140737488355328;omega) (hin.congr fun k hk=>by rw [hls,N3 hk]) (fun sv2' t3 hout3=>?_)
   ·rw [hls]
    show eI (gI (J7 (pr.parts.getD i default).scope items p.us p.us.length) j)=eI (gI _ _)
    rw [C2H]
   conv=>whnf
   refine F8 ?_
   refine ⟨pr.parts.length - (i+1),by omega,i+1,sv1',sv2',by omega,rfl,by rw [B3 (by omega)],s1,hc1,?_⟩
   rw [hls,D5x,←hls];exact hout3
def Z7 (items:List Ab.Item) (us:List B2) (pr:B1):List B2×Int:=if pr.kind=4 then A0S items us pr else A1Y items us pr
def A4D (items:List Ab.Item) (p:PSt) (pr:B1):PSt :=
 if (Z7 items p.us pr).2>0 then A1x ⟨(Z7 items p.us pr).1,p.deals,p.groups⟩ pr (Z7 items p.us pr).2 else p
theorem B9F {items:List Ab.Item} {us:List B2} (hu:A6Q items us) {pr:B1} (hfit:Q2 pr) (hright:H0 pr=true) (hk:pr.kind≠7):Z7 items us pr=([],0)∨Off us (Z7 items us pr).1 (Z7 items us pr).2:=by
 have hok:=A3B hright
 unfold Z7
 split
 ·rename_i h4
  unfold A0S
  split
  ·exact .inl rfl
  ·right
   have hpl:(Q4 items us pr).length=pr.parts.length:=D5p ..
   exact B5b (hok.bun h4).1 hu.ok hpl fun k hk=>by
    have hm:=A7 (l:=Q4 items us pr) hk
    obtain ⟨q,hq,he⟩:=D5G.1 hm
    rw [show (Q4 items us pr).getD k []=(Q4 items us pr).getD k default from rfl,←he]
    exact A1v _ _ _
 ·rename_i h4
  unfold A1Y
  split
  ·exact .inl rfl
  ·right
   split
   ·rename_i h3
    exact B5c (hok.buy h3) hu.ok (A1v _ _ _)
   ·rename_i h3
    exact B6S (hok.ask hfit (by have:=hok.kind;omega)) hu.ok (A1v _ _ _)
theorem B4Z {items:List Ab.Item} {p:PSt} (hu:A6Q items p.us) {pr:B1} (hfit:Q2 pr) (hright:H0 pr=true) (hk:pr.kind≠7):∃ x,Off p.us (A4D items p pr).us x:=by
 unfold A4D
 split
 ·rename_i h0
  rcases B9F hu hfit hright hk with e | e
  ·rw [e] at h0;exact absurd h0 (by decide)
  ·exact ⟨_,e⟩
 ·exact ⟨0,Off.refl hu.ok⟩
theorem C8B (bx:Nat) (items:List Ab.Item) (p:PSt) (pr:B1) (hfit:Q2 pr) (hright:H0 pr=true) (hk:pr.kind≠7) (hu:A6Q items p.us) (hd:p.deals.length≤1000) (hg:p.groups.length≤1000) (s t:St) (h:PxR bx items p s t) :
  S P 183 [.optr 4 bx 0 0,B7 pr] t fun v t'=>v=.tuple []∧PxR bx items (A4D items p pr) s t':=by
 have key:∀ K:KK,(∀ v,v=.tuple [C6 (Z7 items p.us pr).1,eI (Z7 items p.us pr).2]→K v t)→A1E P (if pr.kind=4 then 233 else 232) [.optr 4 bx 0 0,B7 pr] t K:=fun K hK=>by
  unfold Z7 at hK
  split
  ·rename_i h4
   rw [if_pos h4] at hK
   exact call (C0I bx items p pr hfit hright h4 hu s t h) (fun v t' hv=>by rw [hv.2];exact hK v hv.1)
  ·rename_i h4
   rw [if_neg h4] at hK
   exact call (C3S bx items p pr hfit hright ⟨h4,hk⟩ hu s t h) (fun v t' hv=>by rw [hv.2];exact hK v hv.1)
 obtain ⟨⟨dv,gv⟩,hbx,y,⟨f,rfl,hf⟩,hRD⟩:=h
 simp only at hf hRD
 have hA:A4D items p pr=if (Z7 items p.us pr).2>0 then A1x ⟨(Z7 items p.us pr).1,p.deals,p.groups⟩ pr (Z7 items p.us pr).2 else p:=rfl
 have h0:PxR bx items p s t:=⟨(dv,gv),hbx,_,⟨f,rfl,hf⟩,hRD⟩
 refine F1 [3] Tryz.func183 ?_
 refine B8 (fun h4=>?_) (fun h4=>?_)<;>rw [h4]<;>simp only [D6k,D5X] at h4
 ·rw [if_pos h4] at key;conv=>whnf
  refine key _ (fun v hv=>?_)
  subst hv;conv=>whnf
  refine B8 (fun h5=>?_) (fun h5=>?_)<;>rw [h5]<;>simp only [D5n,D5m] at h5
  ·rw [if_pos h5] at hA
   rw [hA];conv=>whnf
   refine X1 hRD.at hf ?_
   refine call (B7C bx items ⟨(Z7 items p.us pr).1,p.deals,p.groups⟩ pr _ hd hg s _ (PxR.fin hbx hRD _ (by rw [A4];rfl))) (fun v t' hv=>?_)
   obtain ⟨rfl,h6⟩:=hv
   conv=>whnf
   exact ⟨rfl,h6⟩
  ·rw [if_neg h5] at hA
   rw [hA];conv=>whnf
   exact ⟨rfl,h0⟩
 ·rw [if_neg h4] at key;conv=>whnf
  refine key _ (fun v hv=>?_)
  subst hv;conv=>whnf
  refine B8 (fun h5=>?_) (fun h5=>?_)<;>rw [h5]<;>simp only [D5n,D5m] at h5
  ·rw [if_pos h5] at hA
   rw [hA];conv=>whnf
   refine X1 hRD.at hf ?_
   refine call (B7C bx items ⟨(Z7 items p.us pr).1,p.deals,p.groups⟩ pr _ hd hg s _ (PxR.fin hbx hRD _ (by rw [A4];rfl))) (fun v t' hv=>?_)
   obtain ⟨rfl,h6⟩:=hv
   conv=>whnf
   exact ⟨rfl,h6⟩
  ·rw [if_neg h5] at hA
   rw [hA];conv=>whnf
   exact ⟨rfl,h0⟩
def A7a (p:PSt) (pr:B1) (net ship:Int):Int×PSt :=
 if net<pr.least then (ship,p) else (ship - J6 ship pr.rate,if J6 ship pr.rate>0 then A1x p pr (J6 ship pr.rate) else p)
theorem B8e (bx:Nat) (items:List Ab.Item) (p:PSt) (pr:B1) (net ship:Int) (h0:0≤ship) (h1:ship≤10000000000000) (hd:p.deals.length≤1000) (hg:p.groups.length≤1000) (s t:St) (h:PxR bx items p s t) :
  S P 186 [.optr 4 bx 0 0,B7 pr,eI net,eI ship] t fun v t'=>v=eI (A7a p pr net ship).1∧PxR bx items (A7a p pr net ship).2 s t':=by
 have hS:A7a p pr net ship=if net<pr.least then (ship,p) else (ship - J6 ship pr.rate,if J6 ship pr.rate>0 then A1x p pr (J6 ship pr.rate) else p):=rfl
 have hb:=S5 ship pr.rate
 have w:IntKind.i64.wrap (ship - J6 ship pr.rate)=ship - J6 ship pr.rate:=A5 (by omega) (by omega)
 refine F1 [5] Tryz.func186 ?_
 refine B8 (fun h2=>?_) (fun h2=>?_)<;>rw [h2]<;>simp only [D5n,D5m] at h2
 ·rw [if_pos h2] at hS
  rw [hS];conv=>whnf
  exact ⟨rfl,h⟩
 rw [if_neg h2] at hS
 rw [hS];conv=>whnf
 refine H8 (B7S ship pr.rate 1 t) ?_
 refine B8 (fun h3=>?_) (fun h3=>?_)<;>rw [h3]<;>simp only [D5n,D5m] at h3
 ·conv=>whnf
  refine call (B7C bx items p pr _ hd hg s t h) (fun v t' hv=>?_)
  obtain ⟨rfl,h4⟩:=hv
  conv=>whnf
  have h3':J6 ship pr.rate>0:=h3
  rw [if_pos h3']
  refine ⟨?_,h4⟩
  show AV.int .i64 (IntKind.i64.wrap (ship - J6 ship pr.rate))=_
  rw [w]
 ·conv=>whnf
  have h3':¬ J6 ship pr.rate>0:=h3
  rw [if_neg h3']
  refine ⟨?_,h⟩
  show AV.int .i64 (IntKind.i64.wrap (ship - J6 ship pr.rate))=_
  rw [w]
def A0F (s:Ab.Ship) (units net:Int):Int:=if units=0∨(s.free>0∧net≥s.free) then 0 else s.fee
theorem C8G (s:Ab.Ship) (units net:Int) (t:St):S P 184 [C6F s,eI units,eI net] t fun v t'=>v=eI (A0F s units net)∧t'=t:=by
 refine F1 [3] Tryz.func184 ?_
 refine B8 (fun h1=>?_) (fun h1=>?_)<;>rw [h1]<;>simp only [D6k,D5X] at h1
 ·conv=>whnf
  exact ⟨by unfold A0F;rw [if_pos (.inl h1)];rfl,rfl⟩
 conv=>whnf
 refine B8 (fun h2=>?_) (fun h2=>?_)<;>rw [h2]<;>simp only [D5n,D5m] at h2
 ·conv=>whnf
  refine B8 (fun h3=>?_) (fun h3=>?_)<;>rw [h3]<;>simp only [D5n,D5m] at h3
  ·conv=>whnf
   exact ⟨by unfold A0F;rw [if_pos (.inr ⟨h2,h3⟩)];rfl,rfl⟩
  ·conv=>whnf
   exact ⟨by unfold A0F;rw [if_neg (by rintro (e | ⟨_,e⟩)<;>contradiction)];rfl,rfl⟩
 ·conv=>whnf
  exact ⟨by unfold A0F;rw [if_neg (by rintro (e | ⟨e,_⟩)<;>contradiction)];rfl,rfl⟩
theorem B5q (pr:B1) (t:St):S P 180 [B7 pr] t fun v t'=>v=.bool (pr.kind==7)∧t'=t:=by
 refine F1 [1] Tryz.func180 ?_
 exact ⟨rfl,rfl⟩
theorem C3b (pr:B1) (t:St):S P 182 [B7 pr,.fptr (.fn (.func 180) [] []) 0] t fun v t'=>v=.bool (!(pr.kind==7))∧t'=t:=by
 refine F1 [2] Tryz.func182 ?_
 refine H8 (B5q pr t) ?_
 exact ⟨rfl,rfl⟩
theorem B5W {R R':St→St→Prop} (hR:K9 R) (hm:∀ s t t',R s t→E5 t t'→R s t') (hR':K9 R') {f:FuncId} {args:List AV} {w:AV} {s t0 t:St} {q:Nat} {fl:Bool} {es:List QE} (h:R s t0) (hq:QSt t0 q fl es t)
  (hS:∀ u,R u t→S P f args t fun v t'=>v=w∧R' u t'):S P f args t fun v t'=>v=w∧∃ t0',R' s t0'∧QSt t0' q fl es t':=by
 obtain ⟨bo,hF,hn⟩:=hq.foot
 obtain ⟨y1,hy1⟩:=hF.some (.inl rfl)
 have hq0:=hn q (.inl rfl)
 have hsq:s q=none:=(hR.sup h).none hq0
 cases bo with
 | none =>
  have h1:R (upd s q y1) t:=hm _ _ _ (hR.begin (y:=y1) h hq0) (fun c x hc=>by
   by_cases e:c=q
   ·subst e;rw [A0] at hc;rw [hy1];exact hc
   ·rw [A9 e] at hc;exact hq.sup c x hc)
  refine (hS _ h1).mono fun v t' hv=>⟨hv.1,del t' q,hR'.forget hv.2 hsq,?_⟩
  have hF':QF q none fl es t':=hF.frame fun c hc=>by
   rcases hc with rfl | hc
   ·rw [hR'.sup hv.2 c y1 (A0 ..),hy1]
   ·cases hc
  exact hF'.qst (fun c x hc=>by
   by_cases e:c=q
   ·subst e;rw [A4c] at hc;cases hc
   ·rw [A2r e] at hc;exact hc) (fun c hc=>by
    rcases hc with rfl | hc
    ·exact A4c ..
    ·cases hc)
 | some b =>
  obtain ⟨y2,hy2⟩:=hF.some (c:=b) (.inr rfl)
  have hb0:=hn b (.inr rfl)
  have hqb:q≠b:=by
   obtain ⟨sv,_,h3⟩:=hF.has
   rcases h3 with ⟨_,_,e⟩ | ⟨b',l,n,e,hne,_⟩
   ·cases e
   ·cases e;exact hne
  have hsb:s b=none:=(hR.sup h).none hb0
  have h1:R (upd (upd s b y2) q y1) t:=hm _ _ _ (hR.begin (y:=y1) (hR.begin (y:=y2) h hb0) (by rw [A9 hqb];exact hq0)) (fun c x hc=>by
   by_cases e:c=q
   ·subst e;rw [A0] at hc;rw [hy1];exact hc
   ·rw [A9 e] at hc
    by_cases e2:c=b
    ·subst e2;rw [A0] at hc;rw [hy2];exact hc
    ·rw [A9 e2] at hc;exact hq.sup c x hc)
  refine (hS _ h1).mono fun v t' hv=>⟨hv.1,del (del t' q) b,hR'.forget (hR'.forget hv.2 (by rw [A9 hqb];exact hsq)) hsb,?_⟩
  have hs':=hR'.sup hv.2
  have hF':QF q (some b) fl es t':=hF.frame fun c hc=>by
   rcases hc with rfl | hc
   ·rw [hs' c y1 (A0 ..),hy1]
   ·cases hc
    rw [hs' b y2 (by rw [A9 hqb.symm,A0]),hy2]
  exact hF'.qst (fun c x hc=>by
   by_cases e:c=b
   ·subst e;rw [A4c] at hc;cases hc
   ·rw [A2r e] at hc
    by_cases e2:c=q
    ·subst e2;rw [A4c] at hc;cases hc
    ·rw [A2r e2] at hc;exact hc) (fun c hc=>by
    rcases hc with rfl | hc
    ·rw [A2r hqb];exact A4c ..
    ·cases hc;exact A4c ..)
theorem B4F (l:List C8) (hl:l.length≤100000) (v:C8) (st:St) (b:Nat) (f:Nat→AV) (hb:st b=some ⟨9,1,l.length,f⟩) (hf:∀ k,k<l.length→f k=A6U l k) :
  S P 268 [.own 1 b 0 l.length,eS v] st fun r st'=>r=eI (idx (fun y:C8=>v.toList==y.toList) l)∧st'=st:=by
 refine F1 [] Tryz.func268 ?_
 refine ⟨[0,1,7,8],fun m vs st'=>∃ i:Nat,i≤l.length∧(∀ k,k<i→(v.toList==(l.getD k default).toList)=false)∧m=l.length - i∧vs=[.own 1 b 0 l.length,eS v,eI l.length,eI i]∧st'=st,?_,?_⟩
 ·conv=>whnf
  exact ⟨_,0,D5L _,fun k hk=>absurd hk (by omega),rfl,rfl,rfl⟩
 ·rintro m vs st' ⟨i,hi,hok,rfl,rfl,rfl⟩
  conv=>whnf
  cases h:decide ((i:Int)<(l.length:Int))
  ·have:=D5q h
   conv=>whnf
   refine ⟨?_,rfl⟩
   rw [S6 (p:=fun y:C8=>v.toList==y.toList) fun k hk=>hok k (by omega)];rfl
  ·have hi':i<l.length:=by have:=D5o h;omega
   conv=>whnf
   refine E4 ?_
   refine ldV hb rfl (by omega) (v:=eS (l.getD i default)) (by rw [show 0+(i:Int).toNat=i by omega];exact hf i hi') ?_;conv=>whnf
   cases hp:(v.toList==(l.getD i default).toList)
   ·conv=>whnf
    refine F8 ?_
    refine ⟨l.length - (i+1),by omega,i+1,by omega,fun k hk=>?_,rfl,by rw [B3 (by omega)],rfl⟩
    rcases D6h.1 hk with h' | h'
    ·exact hok k h'
    ·rw [h'];exact hp
   ·conv=>whnf
    refine ⟨?_,rfl⟩
    rw [A1s (p:=fun y:C8=>v.toList==y.toList) hi' hok hp];rfl
theorem C1r (l:List C8) (hl:l.length≤100000) (v:C8) (st:St) (b:Nat) (f:Nat→AV) (hb:st b=some ⟨9,1,l.length,f⟩) (hf:∀ k,k<l.length→f k=A6U l k) :
  S P 231 [.own 1 b 0 l.length,eS v] st fun r st'=>r=.bool (inB l v)∧st'=st:=by
 refine F1 [] Tryz.func231 ?_
 refine H8 (B4F l hl v st b f hb hf) ?_
 refine ⟨?_,rfl⟩
 unfold inB
 rw [←A1r];rfl
theorem B4E (v:C8) (st:St):S P 268 [.emp,eS v] st fun r st'=>r=eI (-1)∧st'=st:=by
 refine F1 [] Tryz.func268 ?_
 refine B1g [0,1,7,8] ?_;conv=>whnf
 intro I;conv=>whnf
 exact ⟨rfl,rfl⟩
theorem C1q (v:C8) (st:St):S P 231 [.emp,eS v] st fun r st'=>r=.bool false∧st'=st:=by
 refine F1 [] Tryz.func231 ?_
 refine H8 (B4E v st) ?_
 exact ⟨rfl,rfl⟩
theorem PxR.groups {bx:Nat} {items:List Ab.Item} {p:PSt} {s t:St} (h:PxR bx items p s t) (hg:p.groups.length≤1000):∃ dv gv f,t bx=some ⟨239,4,1,f⟩∧f 0=.agg [A6 4 E3 items,C6 p.us,dv,gv]∧(gv=.emp∨∃ b,gv=.own 1 b 0 p.groups.length) ∧
  ∀ (g:C8),S P 231 [gv,eS g] t fun r t'=>r=.bool (inB p.groups g)∧t'=t:=by
 obtain ⟨⟨dv,gv⟩,h⟩:=h
 obtain ⟨y,⟨f,rfl,hf⟩,hy⟩:=X4.at (A3u _ _ _ _) h
 obtain ⟨_,_,_,hd⟩:=h
 obtain ⟨s0,hc,hg0⟩:=hd
 refine ⟨dv,gv,f,hy,hf,hg0.head,fun g=>?_⟩
 obtain ⟨s1,hc1,hs1⟩:=hg0
 rcases hc1 with ⟨h0,h1,rfl⟩ | ⟨h0,b,g0,hb,h1,rfl,hgg⟩
 ·have:p.groups=[]:=D5V h0
  subst h1
  rw [this]
  exact C1q g t
 ·subst h1
  exact C1r p.groups (by omega) g t b g0 (hs1 b _ (A0 ..)) hgg
def goB {σ : Type} (px : σ→PSt) (step : σ→B1→σ) (a : σ) (pr:B1) : σ:=if N0 pr.group||!inB (px a).groups pr.group then step a pr else a
def Y5 {σ : Type} (px : σ→PSt) (step : σ→B1→σ) (sm:B1→Bool) (l:List B1) (a : σ) (o:List Int) : σ:=(o.filter fun x=>sm (E7 l x)).foldl (fun a x=>goB px step a (E7 l x)) a
def A2x (sm:B1→Bool) (l:List B1) (o:List Int) (i:Nat):List QE:=((List.range i).filter fun k=>sm (E7 l (gI o k))).map fun (k:Nat)=>(-(k:Int),gI o k)
theorem A9F (sm:B1→Bool) (l:List B1) (o:List Int) (i:Nat):A2x sm l o (i+1)=A2x sm l o i++(if sm (E7 l (gI o i))=true then [(-(i:Int),gI o i)] else []):=by
 unfold A2x
 rw [D6L,D7h,D5P]
 congr 1
 by_cases h:sm (E7 l (gI o i))=true
 ·rw [if_pos h,D6s (p:=fun k=>sm (E7 l (gI o k))) h];rfl
 ·rw [if_neg h,D6x (p:=fun k=>sm (E7 l (gI o k))) h];rfl
theorem B7N (sm:B1→Bool) (l:List B1) (o:List Int) (i:Nat):(A2x sm l o i).length≤i:=by
 unfold A2x
 rw [D5p]
 exact D6A (D7N ..) (by simp)
theorem B1w (sm:B1→Bool) (l:List B1) (o:List Int):∀ i,i≤o.length→(A2x sm l o i).map (·.2)=(o.take i).filter fun x=>sm (E7 l x)
 | 0,_=>by simp [A2x]
 | i+1,h=>by
  rw [A9F,D5P,B1w sm l o i (by omega),K1 (show i<o.length by omega),D7h]
  congr 1
  show List.map (fun x=>x.2) (if sm (E7 l (gI o i))=true then [(-(i:Int),gI o i)] else [])=List.filter (fun x=>sm (E7 l x)) [gI o i]
  by_cases hs:sm (E7 l (gI o i))=true
  ·rw [if_pos hs,D6s (p:=fun x=>sm (E7 l x)) hs];rfl
  ·rw [if_neg hs,D6x (p:=fun x=>sm (E7 l x)) hs];rfl
theorem B2v (sm:B1→Bool) (l:List B1) (o:List Int) (i:Nat):(A2x sm l o i).Pairwise fun a b=>G3 b a=false:=by
 unfold A2x
 refine List.Pairwise.map _ (fun a b h=>?_) ((List.pairwise_lt_range (n:=i)).filter _)
 rw [R3]
 show ¬(-(b:Int) > -(a:Int)∨(-(b:Int) = -(a:Int)∧_))
 omega
theorem B6d {l:List B1} {codes:List C8} {o:List Int} (ho:A8D l codes o) {x:Int} (hx:x∈P2 l o):0≤x∧x.toNat<l.length:=by
 obtain ⟨e,he,rfl⟩:=D5G.1 hx
 have h:=A4V he
 exact A0v (ho.1.subset (A7 h.2))
theorem B9m {σ : Type} {N:Nat} (hN:A5y N) (bx:Nat) (items:List Ab.Item) (R : σ→St→St→Prop) (px : σ→PSt) (hR:∀ a,K9 (R a)) (hmore:∀ a s t t',R a s t→E5 t t'→R a s t') (hP:∀ a s t,R a s t→∃ s',PxR bx items (px a) s' t)
  (l:List B1) (codes:List C8) (hl:l.length≤60) (hc:codes.length≤9223372036854775807) (h20:(places l codes l.length).length≤N)
  (g:FuncId) (cs:List AV) (sm:B1→Bool) (hsome:∀ (pr:B1) (t:St),S P g (B7 pr::cs) t fun v t'=>v=.bool (sm pr)∧t'=t)
  (f:FuncId) (fs ds:List AV) (step : σ→B1→σ) (Inv : σ→Nat→Prop) (hgr:∀ a n,Inv a n→(px a).groups.length≤1000) (hle:∀ a n,Inv a (n+1)→Inv a n)
  (hdo:∀ (a : σ) (n:Nat) (pr:B1) (s t:St),pr∈l→sm pr=true→Inv a (n+1)→R a s t→S P f (fs++[B7 pr]++ds) t fun v t'=>v=.tuple []∧R (step a pr) s t')
  (hinv:∀ (a : σ) (n:Nat) (pr:B1),pr∈l→sm pr=true→Inv a (n+1)→Inv (step a pr) n) (a0 : σ) (hI:Inv a0 60) (s t:St) (h:R a0 s t) :
  S P 181 [.optr 4 bx 0 0,A6 15 B7 l,C7 codes,.fn (.func g) [] cs,.fn (.func f) fs ds] t fun v t'=>v=.tuple []∧∃ o,A8D l codes o∧R (Y5 px step sm l a0 (P2 l o)) s t':=by
 refine F1 [] Tryz.func181 ?_
 refine call (B1x t) (fun v t1 hv=>?_)
 obtain ⟨q,rfl,hq⟩:=hv
 conv=>whnf
 refine call (C5K hN l codes hl hc h20 t1) (fun v t2 hv=>?_)
 obtain ⟨⟨o,ho,rfl⟩,rfl⟩:=hv
 have hmem:=fun {x:Int} (hx:x∈P2 l o)=>B6d ho hx
 have hrl:(P2 l o).length≤60:=by
  rw [D5p,A4U,ho.1.length_eq]
  have:=A1b l codes l.length;omega
 obtain ⟨r,hr⟩:∃ r:List Int,r=P2 l o:=⟨_,rfl⟩
 rw [←hr] at hrl
 have hmem':∀ x∈r,0≤x∧x.toNat<l.length:=fun x hx=>hmem (by rw [←hr];exact hx)
 have hInvle:∀ (a : σ) (n m:Nat),m≤n→Inv a n→Inv a m:=fun a n m hmn h=>by
  induction n with
  | zero=>have:m=0:=by omega
          subst this;exact h
  | succ n ih =>
   rcases D6S n m with h1 | h1
   ·have:m=n+1:=by omega
    subst this;exact h
   ·exact ih h1 (hle a n h)
 have hfin:∀ t',R (Y5 px step sm l a0 r) s t'→∃ o,A8D l codes o∧R (Y5 px step sm l a0 (P2 l o)) s t':=fun t' h=>⟨o,ho,by rw [←hr];exact h⟩
 have hv:B0 (P2 l o)=B0 r:=by rw [hr]
 rw [hv]
 clear hv
 conv=>whnf
 refine ⟨[0,1,3,4,10,19,20,21],fun m vs t'=>∃ i:Nat,i≤r.length∧m=r.length - i∧vs=[.optr 4 bx 0 0,A6 15 B7 l,.fn (.func g) [] cs,.fn (.func f) fs ds,.optr 1 q 0 0,B0 r,eI r.length,eI i]∧QSt t q true (A2x sm l r i) t',?_,?_⟩
 ·conv=>whnf
  exact ⟨_,0,D5L _,rfl,rfl,hq⟩
 ·clear hq
  rintro m vs t' ⟨i,hi,rfl,rfl,hq⟩
  have hpl:=B7N sm l r i
  conv=>whnf
  cases hd:decide ((i:Int)<(r.length:Int))
  ·have:=D5q hd
   obtain rfl:i=r.length:=by omega
   have hsnd:=B1w sm l r r.length (D5u _)
   rw [D5w] at hsnd;conv=>whnf
   refine ⟨[0,1,4,10],fun m vs t'=>∃ (a : σ) (rest:List QE) (fl:Bool) (t0:St),m=rest.length∧vs=[.optr 4 bx 0 0,A6 15 B7 l,.fn (.func f) fs ds,.optr 1 q 0 0]∧(rest.map (·.2)).foldl (fun a x=>goB px step a (E7 l x)) a=Y5 px step sm l a0 r∧(∀ e∈rest,(0≤e.2∧e.2.toNat<l.length)∧sm (E7 l e.2)=true)∧(rest.Pairwise fun a b=>G3 b a=false)∧Inv a rest.length∧R a s t0∧QSt t0 q fl rest t',?_,?_⟩
   ·conv=>whnf
    refine ⟨_,a0,A2x sm l r r.length,true,t,rfl,rfl,by rw [hsnd];rfl,fun e he=>?_,B2v sm l r r.length,hInvle a0 60 _ (by omega) hI,h,hq⟩
    have:e.2∈(A2x sm l r r.length).map (·.2):=D8a he
    rw [hsnd] at this
    obtain ⟨h1,h2⟩:=D6o.1 this
    exact ⟨hmem' _ h1,h2⟩
   ·clear hq
    rintro m vs t' ⟨a,rest,fl,t0,rfl,rfl,hF,hrm,hsort,hIa,hRa,hq⟩
    conv=>whnf
    refine H8 (A9h _ _ _ _ _ hq) ?_
    cases rest with
    | nil =>
     conv=>whnf
     refine ⟨rfl,hfin t' ?_⟩
     rw [←hF]
     exact hmore _ _ _ _ hRa hq.sup
    | cons x rest =>
     rw [D6X] at hsort
     have hx:=hrm x (D5N ..)
     have hlen0:decide (((x::rest).length:Int)>0)=true:=D5U (by rw [D5Y];omega)
     rw [hlen0];conv=>whnf
     refine call (A9i _ _ _ _ _ _ hq hsort.1) (fun v t2 hv=>?_)
     obtain ⟨rfl,hq2⟩:=hv
     have hpr:E7 l x.2∈l:=A7 hx.1.2
     have hgl:=hgr a _ hIa
     obtain ⟨s',hpx⟩:=hP a s t2 (hmore _ _ _ _ hRa hq2.sup)
     obtain ⟨dv,gv,fx,hbx,hfx,hgv,hcont⟩:=hpx.groups hgl
     conv=>whnf
     -- what is behind the round
     have hgo:goB px step a (E7 l x.2)=if N0 (E7 l x.2).group||!inB (px a).groups (E7 l x.2).group then step a (E7 l x.2) else a:=rfl
     have hF2:(rest.map (·.2)).foldl (fun a x=>goB px step a (E7 l x)) (goB px step a (E7 l x.2))=Y5 px step sm l a0 r:=by rw [←hF];rfl
     have round:∀ (b : σ) (t3:St),b=goB px step a (E7 l x.2)→Inv b rest.length→(∃ t0',R b s t0'∧QSt t0' q false rest t3)→∃ m',m'<rest.length+1∧∃ (a : σ) (rest_1:List QE) (fl:Bool) (t0:St),m'=rest_1.length∧[AV.optr 4 bx 0 0,A6 15 B7 l,.fn (.func f) fs ds,.optr 1 q 0 0]=[AV.optr 4 bx 0 0,A6 15 B7 l,.fn (.func f) fs ds,.optr 1 q 0 0]∧(rest_1.map (·.2)).foldl (fun a x=>goB px step a (E7 l x)) a=Y5 px step sm l a0 r∧(∀ e∈rest_1,(0≤e.2∧e.2.toNat<l.length)∧sm (E7 l e.2)=true)∧(rest_1.Pairwise fun a b=>G3 b a=false)∧Inv a rest_1.length∧R a s t0∧QSt t0 q fl rest_1 t3 :=
      fun b t3 hb hib ⟨t0',h1,h2⟩=>⟨rest.length,D8e _,b,rest,false,t0',rfl,rfl,by rw [hb];exact hF2,fun e he=>hrm e (D5M _ he),hsort.2,hib,h1,h2⟩
     -- the call itself
     have doit:∀ K:KK,(∀ t3,(∃ t0',R (step a (E7 l x.2)) s t0'∧QSt t0' q false rest t3)→K (.tuple []) t3)→A1E P f (fs++[B7 (E7 l x.2)]++ds) t2 K:=fun K hK=>by
      refine call (B5W (hR a) (hmore a) (hR _) hRa hq2 (fun u hu=>hdo a rest.length (E7 l x.2) u t2 hpr hx.2 (by simpa using hIa) hu)) (fun v t3 hv=>?_)
      rw [hv.1];exact hK t3 hv.2
     refine ⟨[],[],[0,1,2,3,4,5,6,7,8,9,10,11,12,13,14,15,16,17,18],by kernel_rfl,?_⟩;conv=>whnf
     refine E4 ?_
     have hnil:(ByteArray.toList (l.getD x.2.toNat default).group==ByteArray.toList ⟨#[]⟩)=N0 (E7 l x.2).group:=rfl
     have hyes:(N0 (E7 l x.2).group||!inB (px a).groups (E7 l x.2).group)=true→∀ K:KK,(∀ t3,(∃ (b : σ),b=goB px step a (E7 l x.2)∧Inv b rest.length∧∃ t0',R b s t0'∧QSt t0' q false rest t3)→K (.tuple []) t3)→A1E P f (fs++[B7 (E7 l x.2)]++ds) t2 K:=fun hy K hK =>
      doit K fun t3 h3=>hK t3 ⟨_,by rw [hgo,if_pos hy],hinv a _ _ hpr hx.2 (by simpa using hIa),h3⟩
     rw [hnil]
     cases hg:N0 (E7 l x.2).group with
     | true =>
      conv=>whnf
      refine E4 ?_
      rw [A4C,A4C]
      refine hyes (by rw [hg];rfl) _ (fun t3 h3=>?_);conv=>whnf
      refine F8 ?_
      obtain ⟨b,h4,h5,h6⟩:=h3
      exact round b t3 h4 h5 h6
     | false =>
      rcases hgv with rfl | ⟨bg,rfl⟩
      all_goals
       conv=>whnf
       refine I1 hbx hfx ?_
       refine E4 ?_
       refine cqW (hcont (E7 l x.2).group) ?_
       cases hi:inB (px a).groups (E7 l x.2).group with
       | false =>
        conv=>whnf
        refine E4 ?_
        rw [A4C,A4C]
        refine hyes (by rw [hi];simp) _ (fun t3 h3=>?_);conv=>whnf
        refine F8 ?_
        obtain ⟨b,h4,h5,h6⟩:=h3
        exact round b t3 h4 h5 h6
       | true =>
        conv=>whnf
        refine F8 ?_
        refine round a t2 (by rw [hgo,if_neg (by rw [hg,hi];simp)]) (hle a _ (by simpa using hIa)) ⟨t0,hRa,hq2⟩
  ·have hi':i<r.length:=by have:=D5o hd;omega
   have hm:=hmem' _ (A7 hi')
   have es:=A9F sm l r i
   conv=>whnf
   refine E4 ?_
   refine ⟨rfl,⟨by show 0≤gI r i;exact hm.1,by show gI r i<(l.length:Int);have h1:=hm.1;have h2:=hm.2;show gI r i<_;have:(gI r i).toNat<l.length:=h2;have:0≤gI r i:=h1;omega⟩,?_⟩;conv=>whnf
   refine H8 (hsome (E7 l (gI r i)) t') ?_
   refine B8 (fun h3=>?_) (fun h3=>?_)<;>rw [h3]
   ·rw [if_pos h3] at es
    have w:IntKind.i64.wrap (0 - (i:Int)) = -(i:Int):=by rw [show 0 - (i:Int) = -(i:Int) by omega];exact A5 (by omega) (by omega)
    conv=>whnf
    rw [w]
    refine call (A8n t q _ (-(i:Int)) (gI r i) _ hq (by omega)) (fun v t2 hv=>?_)
    obtain ⟨rfl,hq'⟩:=hv
    conv=>whnf
    refine F8 ?_
    exact ⟨r.length - (i+1),by omega,i+1,by omega,rfl,by rw [B3 (by omega)],by rw [es];exact hq'⟩
   ·have h3':¬ sm (E7 l (gI r i))=true:=by rw [h3];simp
    rw [if_neg h3',D7f] at es;conv=>whnf
    refine F8 ?_
    exact ⟨r.length - (i+1),by omega,i+1,by omega,rfl,by rw [B3 (by omega)],by rw [es];exact hq⟩
def D7 (r:G6) (codes:List C8) (l:List E8):Int :=
 if U6 r=false then 10 else if S4 codes=false then 2 else O2 (known r.items) l
theorem C3n (r:G6) (codes:List C8) (l:List E8) (hf:A0J r) (hc:codes.length≤Big) (hi:r.items.length≤9223372036854775807) (st:St) :
  S P 178 [G9 r,C7 codes,A6 3 I0 l] st fun v st'=>v=eI (D7 r codes l)∧st'=st:=by
 refine F1 [3] Tryz.func178 ?_
 refine H8 (B4t r hf st) ?_
 have hP:D7 r codes l=if U6 r=false then 10 else if S4 codes=false then 2 else O2 (known r.items) l:=rfl
 cases h1:U6 r
 ·rw [if_pos h1] at hP;conv=>whnf
  exact ⟨by rw [hP];rfl,rfl⟩
 ·rw [if_neg (by rw [h1];simp)] at hP;conv=>whnf
  refine H8 (B0b codes hc st) ?_
  cases h2:S4 codes
  ·rw [if_pos h2] at hP;conv=>whnf
   exact ⟨by rw [hP];rfl,rfl⟩
  ·rw [if_neg (by rw [h2];simp)] at hP;conv=>whnf
   refine H8 (C4H r.items l hi st) ?_
   exact ⟨by rw [hP];rfl,rfl⟩
abbrev U3 (l:List E8):List B2:=G2 l l.length
structure A7H (items:List Ab.Item) (l:List E8):Prop where
 len:l.length≤1000
 line:∀ x∈l,lineC x=true
 known:∀ x∈l,known items x.sku=true
 units:L5 l≤100000
 gross:J5 l≤10000000000000
theorem C5y {items:List Ab.Item} {l:List E8} (h:O2 (known items) l=0):A7H items l:=by
 unfold O2 at h
 split at h
 ·cases h
 ·rename_i hl
  split at h
  ·rename_i x hx
   split at h<;>cases h
  ·rename_i hf
   have hall:∀ x∈l,J8 (Go.Proofs.YtaapofnkmpiknaaGreat.known items) x=false:=fun x hx=>D6Z.2 (D7P.1 hf x hx)
   have hb:∀ x∈l,Go.Proofs.YtaapofnkmpiknaaGreat.known items x.sku=true∧lineC x=true:=fun x hx=>by
    have:=hall x hx
    unfold J8 at this
    simpa using this
   split at h
   ·cases h
   ·rename_i hg
    simp only [D6t,D5n,not_or] at hg
    exact ⟨by omega,fun x hx=>(hb x hx).2,fun x hx=>(hb x hx).1,by omega,by omega⟩
theorem A7H.may {items:List Ab.Item} {l:List E8} (h:A7H items l):(O2 (fun _=>true) l==0)=true:=by
 have:O2 (fun _=>true) l=0:=by
  unfold O2
  rw [if_neg (by have:=h.len;omega)]
  have hf:l.find? (J8 fun _=>true)=none:=D7P.2 fun x hx=>by
   unfold J8;rw [h.line x hx];simp
  rw [hf]
  simp only
  rw [if_neg]
  have:=h.units
  have:=h.gross
  simp only [D6t,D5n,not_or]
  omega
 rw [this];rfl
theorem A2m (l:List E8) (hl:∀ x∈l,lineC x=true):∀ k,k≤l.length→((G2 l k).length:Int)=L5 (l.take k)∧A2 (D6 (G2 l k))=J5 (l.take k)∧(∀ u∈G2 l k,0≤u.net∧0≤u.line∧u.line.toNat<k∧u.opn=true)
 | 0,_=>⟨rfl,rfl,fun u hu=>by simp [G2] at hu⟩
 | k+1,h=>by
  obtain ⟨h1,h2,h3⟩:=A2m l hl k (by omega)
  have hx:=(A0r _).1 (hl _ (A7 (show k<l.length by omega)))
  have eN:L5 (l.take (k+1))=L5 (l.take k)+(l.getD k default).qty:=I6 (by omega) _ _
  have eG:J5 (l.take (k+1))=J5 (l.take k)+(l.getD k default).qty * (l.getD k default).price:=I6 (by omega) _ _
  have hup:G2 l (k+1)=G2 l k++List.replicate (l.getD k default).qty.toNat (lnU l k):=rfl
  have hsr:∀ (n:Nat) (c:Int),A2 (List.replicate n c)=n * c:=fun n c=>by
   induction n with
   | zero=>simp [A2]
   | succ n ih=>rw [List.replicate_succ,J3,ih,show ((n+1:Nat):Int)=(n:Int)+1 by omega,D7Q,Int.one_mul];omega
  refine ⟨?_,?_,fun u hu=>?_⟩
  ·rw [hup,D5x,D6u,eN,←h1];omega
  ·unfold D6 at h2 ⊢
   rw [hup,D5P,F2,h2,List.map_replicate,hsr,eG]
   show _+((l.getD k default).qty.toNat:Int) * (l.getD k default).price=_
   rw [D7c hx.1.1]
  ·rw [hup] at hu
   rcases D6B.1 hu with hu | hu
   ·have:=h3 u hu;exact ⟨this.1,this.2.1,by omega,this.2.2.2⟩
   ·rw [List.eq_of_mem_replicate hu]
    refine ⟨hx.2.1,?_,?_,rfl⟩
    ·show (0:Int)≤(k:Int);omega
    ·show ((k:Int)).toNat<k+1;omega
theorem B4K {items:List Ab.Item} {l:List E8} (h:A7H items l):A6Q (C2 items l) (U3 l):=by
 obtain ⟨h1,h2,h3⟩:=A2m l h.line l.length (D5u _)
 rw [D5w] at h1 h2
 have hN:=h.units
 have hG:=h.gross
 have hlen:(C2 items l).length=l.length:=D5p ..
 exact ⟨⟨by show (G2 l l.length).length≤100000;omega,fun u hu=>(h3 u hu).1,by show A2 (D6 (G2 l l.length))≤_;omega⟩,by rw [hlen];have:=h.len;omega,fun u hu=>⟨(h3 u hu).2.1,by rw [hlen];exact (h3 u hu).2.2.1⟩⟩
def D2t (bn n:Nat) (net ship:Int) (y:L6):Prop:=∃ f,y=⟨170,4,1,f⟩∧f 0=.agg [.own 1 bn 0 n,eI net,eI ship,.emp]
def R2 (bx bp bn n:Nat) (items:List Ab.Item) (net:Int) (a:PSt×Int):St→St→Prop:=X4 bp (D2t bn n net a.2) (PxR bx items a.1)
theorem C2l (bx bp bn n:Nat) (items:List Ab.Item) (net:Int) (a:PSt×Int):K9 (R2 bx bp bn n items net a):=A0n (A4F _ _ _)
theorem R2.more {bx bp bn n:Nat} {items:List Ab.Item} {net:Int} {a:PSt×Int} {s t t':St} (h:R2 bx bp bn n items net a s t) (hs:E5 t t'):R2 bx bp bn n items net a s t':=by
 obtain ⟨h1,y,h2,h3⟩:=h
 exact ⟨h1,y,h2,h3.more hs⟩
def U2 (net:Int) (a:PSt×Int) (pr:B1):PSt×Int:=((A7a a.1 pr net a.2).2,(A7a a.1 pr net a.2).1)
theorem B1O (bx bp bn n:Nat) (items:List Ab.Item) (net:Int) (a:PSt×Int) (pr:B1) (h0:0≤a.2) (h1:a.2≤10000000000000) (hd:a.1.deals.length≤1000) (hg:a.1.groups.length≤1000) (s t:St) (h:R2 bx bp bn n items net a s t) :
  S P 185 [B7 pr,.fptr (.optr 4 bx 0 0) 0,.optr 4 bp 0 0] t fun v t'=>v=.tuple []∧R2 bx bp bn n items net (U2 net a pr) s t':=by
 obtain ⟨hbp,y,⟨f,rfl,hf⟩,hP⟩:=h
 have hat:t bp=some ⟨170,4,1,f⟩:=(A4F _ _ _).sup hP bp _ (A0 ..)
 refine F1 [3] Tryz.func185 ?_
 refine I1 hat hf ?_
 refine I1 hat hf ?_
 refine call (B8e bx items a.1 pr net a.2 h0 h1 hd hg _ t hP) (fun v t2 hv=>?_)
 obtain ⟨rfl,hP2⟩:=hv
 have hat2:t2 bp=some ⟨170,4,1,f⟩:=(A4F _ _ _).sup hP2 bp _ (A0 ..)
 conv=>whnf
 refine X1 hat2 hf ?_
 refine ⟨rfl,?_⟩
 exact X4.set (A4F _ _ _) (Q:=fun y=>y=⟨170,4,1,f⟩) ⟨hbp,_,rfl,hP2⟩ ⟨_,rfl,by rw [A4];rfl⟩
def F5 (us:List B2) (j:Nat):Int:=A2 ((us.filter fun u=>u.line.toNat==j).map B2.net)
def V9 (n:Nat) (us:List B2):List Int:=(List.range n).map (F5 us)
theorem X7 {us:List B2} {k:Nat} (hk:k<us.length) (j:Nat):F5 (us.take (k+1)) j=if (gU us k).line.toNat=j then F5 (us.take k) j+(gU us k).net else F5 (us.take k) j:=by
 unfold F5
 rw [K1 hk,D7h,D5P,F2]
 by_cases h:(gU us k).line.toNat=j
 ·rw [if_pos h,D6s (by show ((gU us k).line.toNat==j)=true;rw [h];simp)]
  simp [A2]
 ·rw [if_neg h,D6x (by show ¬((gU us k).line.toNat==j)=true;simpa using h)]
  simp [A2]
theorem A0O {us:List B2} (h:E1 us) (k j:Nat):0≤F5 (us.take k) j∧F5 (us.take k) j≤A2 (D6 us):=by
 have hsub:((us.take k).filter fun u=>u.line.toNat==j).Sublist us:=D7m.trans (List.take_sublist _ _)
 have hgen:∀ {a b:List B2},a.Sublist b→(∀ u∈b,0≤u.net)→0≤A2 (a.map B2.net)∧A2 (a.map B2.net)≤A2 (b.map B2.net):=fun {a b} hs=>by
  induction hs with
  | slnil=>intro _;exact ⟨D5W _,D5W _⟩
  | cons x _ ih =>
   intro hb
   have h1:=ih fun u hu=>hb u (D5M _ hu)
   have h2:=hb x (D5N ..)
   rw [D6q,J3];omega
  | cons_cons x _ ih =>
   intro hb
   have h1:=ih fun u hu=>hb u (D5M _ hu)
   have h2:=hb x (D5N ..)
   rw [D6q,D6q,J3,J3];omega
 exact hgen hsub h.pos
def T3 (pr:B1):Bool:=!(pr.kind==7)
def A0b (pr:B1):Bool:=pr.kind==7
def p1B (r:G6) (l:List E8) (o:List Int):PSt:=Y5 (fun p=>p) (A4D (C2 r.items l)) T3 r.promos ⟨U3 l,[],[]⟩ o
def N7 (p:PSt):Int:=A2 (D6 p.us)
def p2B (r:G6) (l:List E8) (p1:PSt) (o:List Int):PSt×Int:=Y5 (fun a=>a.1) (U2 (N7 p1)) A0b r.promos (p1,A0F r.ship (U3 l).length (N7 p1)) o
def Z1 (r:G6) (l:List E8) (o1 o2:List Int):A3G:=⟨V9 l.length (p1B r l o1).us,N7 (p1B r l o1),(p2B r l (p1B r l o1) o2).2,(p2B r l (p1B r l o1) o2).1.deals⟩
theorem C0c {σ : Type} {px : σ→PSt} {step : σ→B1→σ} {sm:B1→Bool} {l:List B1} {Inv : σ→Nat→Prop} (hle:∀ a n,Inv a (n+1)→Inv a n) (hinv:∀ (a : σ) (n:Nat) (pr:B1),pr∈l→sm pr=true→Inv a (n+1)→Inv (step a pr) n) :
  ∀ (o:List Int) (a : σ) (n:Nat),(∀ x∈o,x.toNat<l.length)→Inv a (n+o.length)→Inv (Y5 px step sm l a o) n:=by
 intro o
 unfold Y5
 induction o with
 | nil=>intro a n _ h;exact h
 | cons x o ih =>
  intro a n hm h
  have hm':∀ y∈o,y.toNat<l.length:=fun y hy=>hm y (D5M _ hy)
  have hx:E7 l x∈l:=A7 (hm x (D5N ..))
  have h':Inv a ((n+o.length)+1):=by rw [D5Y] at h;exact h
  by_cases hs:sm (E7 l x)=true
  ·rw [D6s (p:=fun x=>sm (E7 l x)) hs,D6C]
   refine ih _ _ hm' ?_
   unfold goB
   split
   ·exact hinv a _ _ hx hs h'
   ·exact hle _ _ h'
  ·rw [D6x (p:=fun x=>sm (E7 l x)) hs]
   exact ih _ _ hm' (hle _ _ h')
def C4K (items:List Ab.Item) (us0:List B2) (p:PSt) (n:Nat):Prop:=A6Q items p.us∧p.deals.length+n≤100∧p.groups.length+n≤100∧∃ x,Off us0 p.us x
def C7c (a:PSt×Int) (n:Nat):Prop:=a.1.deals.length+n≤200∧a.1.groups.length+n≤200∧0≤a.2∧a.2≤10000000000000
theorem B2W {items:List Ab.Item} {us0:List B2} {a:PSt} {n:Nat} {pr:B1} (hfit:Q2 pr) (hright:H0 pr=true) (hk:T3 pr=true) (h:C4K items us0 a (n+1)):C4K items us0 (A4D items a pr) n:=by
 obtain ⟨h1,h2,h3,x,h4⟩:=h
 obtain ⟨y,h5⟩:=B4Z h1 hfit hright (by simpa [T3] using hk)
 refine ⟨h1.off h5,?_,?_,x+y,h4.trans h5⟩
 ·unfold A4D;split
  ·simp only [A1x,D5x,D5Y,D6E];omega
  ·omega
 ·unfold A4D;split
  ·simp only [A1x,D5x]
   split<;>simp<;>omega
  ·omega
theorem B2X {net:Int} {a:PSt×Int} {n:Nat} {pr:B1} (hright:H0 pr=true) (hk:A0b pr=true) (h:C7c a (n+1)):C7c (U2 net a pr) n:=by
 obtain ⟨h1,h2,h3,h4⟩:=h
 have hk7:pr.kind=7:=by simpa [A0b] using hk
 have hr:=(A3B hright).ship hk7
 have hb:=S5 a.2 pr.rate
 have hle:=A4W h3 (show 0≤pr.rate by omega) hr.2
 unfold U2 A7a
 split
 ·exact ⟨by show a.1.deals.length+n≤200;omega,by show a.1.groups.length+n≤200;omega,h3,h4⟩
 ·refine ⟨?_,?_,by show 0≤a.2 - J6 a.2 pr.rate;omega,by show a.2 - J6 a.2 pr.rate≤_;omega⟩
  ·show (if J6 a.2 pr.rate>0 then A1x a.1 pr (J6 a.2 pr.rate) else a.1).deals.length+n≤200
   split
   ·simp only [A1x,D5x,D5Y,D6E];omega
   ·omega
  ·show (if J6 a.2 pr.rate>0 then A1x a.1 pr (J6 a.2 pr.rate) else a.1).groups.length+n≤200
   split
   ·simp only [A1x,D5x]
    split<;>simp<;>omega
   ·omega
theorem PxR.deals' {bx:Nat} {items:List Ab.Item} {p:PSt} {s t:St} (h:PxR bx items p s t):∃ dv gv f,t bx=some ⟨239,4,1,f⟩∧f 0=.agg [A6 4 E3 items,C6 p.us,dv,gv] ∧
  ((p.deals=[]∧dv=.emp)∨∃ bd g,dv=.own 2 bd 0 p.deals.length∧s bd=none∧t bd=some ⟨221,2,p.deals.length,g⟩∧∀ k,k<p.deals.length→g k=A1q p.deals k):=by
 obtain ⟨⟨dv,gv⟩,h⟩:=h
 obtain ⟨y,⟨f,rfl,hf⟩,hy⟩:=X4.at (A3u _ _ _ _) h
 obtain ⟨hbx,_,_,hd⟩:=h
 obtain ⟨s0,hc,hg0⟩:=hd
 refine ⟨dv,gv,f,hy,hf,?_⟩
 rcases hc with ⟨h0,h1,rfl⟩ | ⟨h0,b,g0,hb,h1,rfl,hgg⟩
 ·exact .inl ⟨D5V h0,h1⟩
 ·refine .inr ⟨b,g0,h1,?_,(A7P _ _).sup hg0 b _ (A0 ..),hgg⟩
  by_cases e:b=bx
  ·subst e;rw [A0] at hb;cases hb
  ·rw [A9 e] at hb;exact hb
structure C4G (r:G6) (codes:List C8) (l:List E8):Prop where
 rules:U6 r=true
 codes:S4 codes=true
 lines:A7H r.items l
 few:r.promos.length≤60
 promo:∀ p∈r.promos,H0 p=true
 fee:0≤r.ship.fee∧r.ship.fee≤1000000000
theorem A6v {r:G6} {codes:List C8} {l:List E8} (h:D7 r codes l=0):C4G r codes l:=by
 unfold D7 at h
 split at h
 ·cases h
 ·rename_i h1
  split at h
  ·cases h
  ·rename_i h2
   have hr:U6 r=true:=by simpa using h1
   have hr':=hr
   unfold U6 at hr'
   simp only [D5r] at hr'
   obtain ⟨⟨⟨⟨_,hp⟩,_⟩,hs⟩,_⟩:=hr'
   unfold promosC at hp
   simp only [D5r,D5n] at hp
   have hs':O6 0 1000000000 r.ship.fee=true:=by
    unfold A9G at hs
    simp only [D5r] at hs
    exact hs.1
   refine ⟨hr,by simpa using h2,C5y h,by omega,fun p hm=>?_,E6.1 hs'⟩
   obtain ⟨k,hk,rfl⟩:=D3 hm
   have:=A4a.1 hp.2 k hk
   unfold V6 at this
   simp only [D5r] at this
   exact this.1
def C7h (r:G6) (codes:List C8) (l:List E8) (v:AV):Prop :=
 (D7 r codes l≠0∧v=.tuple [A0T ⟨[],0,0,[]⟩,eI (D7 r codes l)]) ∨
 (D7 r codes l=0∧∃ o1 o2,A8D r.promos codes o1∧A8D r.promos codes o2∧v=.tuple [A0T (Z1 r l (P2 r.promos o1) (P2 r.promos o2)),eI 0])
theorem price_S {N:Nat} (hN:A5y N) (r:G6) (codes:List C8) (l:List E8) (hf:A0J r) (hc:codes.length≤Big) (hi:r.items.length≤9223372036854775807) (h20:(places r.promos codes r.promos.length).length≤N) (st:St) :
  S P 122 [G9 r,C7 codes,A6 3 I0 l] st fun v st'=>C7h r codes l v∧st'=st:=by
 refine S.post (post:=fun v st'=>(D7 r codes l≠0∧v=.tuple [.agg [.emp,eI 0,eI 0,.emp],eI (D7 r codes l)]∧E5 st st') ∨
   (D7 r codes l=0∧∃ o1 o2 bn fn dv,A8D r.promos codes o1∧A8D r.promos codes o2∧v=.tuple [.agg [.own 1 bn 0 l.length,eI (Z1 r l (P2 r.promos o1) (P2 r.promos o2)).net,eI (Z1 r l (P2 r.promos o1) (P2 r.promos o2)).ship,dv],eI 0] ∧
    st bn=none∧st' bn=some ⟨2,1,l.length,fn⟩∧(∀ k,k<l.length→fn k=eI (gI (Z1 r l (P2 r.promos o1) (P2 r.promos o2)).nets k))∧E5 st st' ∧
    (((Z1 r l (P2 r.promos o1) (P2 r.promos o2)).deals=[]∧dv=.emp)∨∃ bd g,dv=.own 2 bd 0 (Z1 r l (P2 r.promos o1) (P2 r.promos o2)).deals.length∧st bd=none∧bd≠bn∧st' bd=some ⟨221,2,(Z1 r l (P2 r.promos o1) (P2 r.promos o2)).deals.length,g⟩∧∀ k,k<(Z1 r l (P2 r.promos o1) (P2 r.promos o2)).deals.length→g k=A1q (Z1 r l (P2 r.promos o1) (P2 r.promos o2)).deals k))) ?_
  (fun v st' hv=>by
   rcases hv with ⟨h1,rfl,hs⟩ | ⟨h1,o1,o2,bn,fn,dv,h2,h3,rfl,h4,h5,h6,hs,h7⟩
   ·refine ⟨_,st,⟨.inl ⟨h1,rfl⟩,rfl⟩,(hs.shift _).trans (A8.tuple (A8.cons (A8.agg ?_) (A8.keep _ _)) rfl)⟩
    exact A8.cons (H9 1 _) (A8.cons (A8.keep [eI 0] _) (A8.cons (A8.keep [eI 0] _) (H9 2 _)))
   ·refine ⟨_,st,⟨.inr ⟨h1,o1,o2,h2,h3,rfl⟩,rfl⟩,A8.tuple (A8.cons (A8.agg ?_) (A8.keep _ _)) rfl⟩
    have hnl:(Z1 r l (P2 r.promos o1) (P2 r.promos o2)).nets.length=l.length:=by show (V9 _ _).length=_;unfold V9;rw [D5p,D5O]
    generalize Z1 r l (P2 r.promos o1) (P2 r.promos o2)=X at *
    have e1:B0 X.nets=.arr 1 l.length (fun k=>eI (gI X.nets k)):=by unfold B0 A6;rw [hnl]
    refine A8.cons (t:=del st' bn) ?_ (A8.cons (A8.keep [eI X.net] _) (A8.cons (A8.keep [eI X.ship] _) ?_))
    ·rw [e1];exact N4 h5 rfl (D5u _) h6
    ·rcases h7 with ⟨h8,rfl⟩ | ⟨bd,g,rfl,h8,h9,h10,h11⟩
     ·rw [h8]
      exact ((E5.del hs h4).shift _).trans (H9 2 _)
     ·refine (N4 (b:=bd) (y:=⟨221,2,X.deals.length,g⟩) (f:=A1q X.deals) (by rw [A2r h9];exact h10) rfl (D5u _) h11).trans ?_
      exact (E5.del (E5.del hs h4) h8).shift _)
 refine F1 [3,9,10,13] Tryz.func122 ?_
 intro b6 hb6;conv=>whnf
 refine H8 (C3n r codes l hf hc hi _) ?_
 have h6s:∀ x:L6,E5 st (upd st b6 x):=fun x=>(E5.refl st).upd hb6
 cases h1:(D7 r codes l != 0)
 ·have hk0:D7 r codes l=0:=by simpa using h1
  have hck:=A6v hk0
  have hln:=hck.lines
  have hlen:=hln.len
  have hus0:=B4K hln
  obtain ⟨u1,u2,u3⟩:=A2m l hln.line l.length (D5u _)
  have hitl:(C2 r.items l).length=l.length:=D5p ..
  have hmo:=fun {o:List Int} (ho:A8D r.promos codes o)=>(show (P2 r.promos o).length≤60 by
   rw [D5p,A4U,ho.1.length_eq]
   have:=A1b r.promos codes r.promos.length
   have:=hck.few;omega)
  conv=>whnf
  refine H8 (A8V r.items l hi hlen hln.known _) ?_
  refine H8 (C6u l hlen (fun x hx=>((A0r x).1 (hln.line x hx)).1) hus0.ok.len hln.may _) ?_
  generalize hs6:(upd st b6 _)=s6 at *
  have h6:s6 b6=some ⟨170,4,1,fun _=>H1 B7O.zero⟩:=by rw [←hs6];exact A0 ..
  have hBig:(Big:Nat)≤9223372036854775807:=by decide
  have hst6:E5 st s6:=by rw [←hs6];exact h6s _
  intro bx hbx;conv=>whnf
  have hP0:PxR bx (C2 r.items l) ⟨U3 l,[],[]⟩ s6 (upd s6 bx ⟨239,4,1,fun _=>.agg [A6 4 E3 (C2 r.items l),C6 (U3 l),.emp,.emp]⟩) :=
   PxR.mk' hbx rfl (ROut.start (ROut.start (E5.refl _) _ _ _) _ _ _)
  refine call (B9m (σ:=PSt) hN bx (C2 r.items l) (PxR bx (C2 r.items l)) (fun p=>p) (A4F bx (C2 r.items l)) (fun a s t t' h hs=>h.more hs) (fun a s t h=>⟨s,h⟩) r.promos codes hck.few (D6A hc hBig) h20 182 [.fptr (.fn (.func 180) [] []) 0] T3 (fun pr t=>C3b pr t)
   183 [.optr 4 bx 0 0] [] (A4D (C2 r.items l)) (C4K (C2 r.items l) (U3 l)) (fun a n h=>by have:=h.2.2.1;omega) (fun a n h=>⟨h.1,by have:=h.2.1;omega,by have:=h.2.2.1;omega,h.2.2.2⟩)
   (fun a n pr s t hm hs hI h=>C8B bx (C2 r.items l) a pr (hf.fit pr hm) (hck.promo pr hm) (by simpa [T3] using hs) hI.1 (by have:=hI.2.1;omega) (by have:=hI.2.2.1;omega) s t h)
   (fun a n pr hm hs hI=>B2W (hf.fit pr hm) (hck.promo pr hm) hs hI) ⟨U3 l,[],[]⟩ ⟨hus0,by simp,by simp,0,Off.refl hus0.ok⟩ s6 _ hP0) (fun v t1 hv=>?_)
  obtain ⟨rfl,o1,ho1,hP1⟩:=hv
  have hp1:Y5 (fun p=>p) (A4D (C2 r.items l)) T3 r.promos ⟨U3 l,[],[]⟩ (P2 r.promos o1)=p1B r l (P2 r.promos o1):=rfl
  have hI1:C4K (C2 r.items l) (U3 l) (p1B r l (P2 r.promos o1)) 40:=C0c (fun a n h=>⟨h.1,by have:=h.2.1;omega,by have:=h.2.2.1;omega,h.2.2.2⟩) (fun a n pr hm hs hI=>B2W (hf.fit pr hm) (hck.promo pr hm) hs hI) (P2 r.promos o1) ⟨U3 l,[],[]⟩ 40 (fun x hx=>(B6d ho1 hx).2) ⟨hus0,by have:=hmo ho1;show 0+(40+(P2 r.promos o1).length)≤100;omega,by have:=hmo ho1;show 0+(40+(P2 r.promos o1).length)≤100;omega,0,Off.refl hus0.ok⟩
  rw [hp1] at hP1
  have hQ:∀ o2,Z1 r l (P2 r.promos o1) (P2 r.promos o2)=⟨V9 l.length (p1B r l (P2 r.promos o1)).us,N7 (p1B r l (P2 r.promos o1)),(p2B r l (p1B r l (P2 r.promos o1)) (P2 r.promos o2)).2,(p2B r l (p1B r l (P2 r.promos o1)) (P2 r.promos o2)).1.deals⟩:=fun _=>rfl
  generalize p1B r l (P2 r.promos o1)=p1 at *
  obtain ⟨hus1,hd1,hg1,xoff,hoff⟩:=hI1
  have hul1:p1.us.length=(U3 l).length:=hoff.len
  have hu1:=hus1.ok
  have hul:=hu1.len
  have hus:=hu1.sum
  have hnet0:=C1 hu1.nets0
  have hBP:=A4F bx (C2 r.items l) p1
  conv=>whnf
  refine mkO rfl rfl rfl (by show 8 * l.length≤_;omega) (by omega) (by rfl) (fun bn hbn=>?_);conv=>whnf
  intro bp hbp
  have hnb:bn≠bp:=fun e=>by subst e;rw [A0] at hbp;cases hbp
  have hbp1:t1 bp=none:=by rw [A9 hnb.symm] at hbp;exact hbp
  have hbn6:s6 bn=none:=(hBP.sup hP1).none hbn
  have hbp6:s6 bp=none:=(hBP.sup hP1).none hbp1
  conv=>whnf
  refine X1 (A0 ..) rfl ?_
  -- the pricer,what the lines come to,what is made of it
  have hP2:=fun (Y Z:L6)=>hBP.begin (y:=Z) (hBP.begin (y:=Y) hP1 hbn) (by rw [A9 hnb.symm];exact hbp1)
  have hload:∀ {Y Z:L6} {t:St},PxR bx (C2 r.items l) p1 (upd (upd s6 bn Y) bp Z) t→t bn=some Y∧t bp=some Z:=fun h=>⟨hBP.sup h bn _ (by rw [A9 hnb,A0]),hBP.sup h bp _ (A0 ..)⟩
  have hwn:∀ {Y Z Y':L6} {t:St},PxR bx (C2 r.items l) p1 (upd (upd s6 bn Y) bp Z) t→PxR bx (C2 r.items l) p1 (upd (upd s6 bn Y') bp Z) (upd t bn Y'):=fun {Y Z Y' t} h=>by
   have:=hBP.write (b:=bn) (y':=Y') h (by rw [A9 hnb,A0])
   rw [Q5 hnb.symm,B6] at this;exact this
  have hwp:∀ {Y Z Z':L6} {t:St},PxR bx (C2 r.items l) p1 (upd (upd s6 bn Y) bp Z) t→PxR bx (C2 r.items l) p1 (upd (upd s6 bn Y) bp Z') (upd t bp Z'):=fun {Y Z Z' t} h=>by
   have:=hBP.write (b:=bp) (y':=Z') h (A0 ..)
   rw [B6] at this;exact this
  have hP3:=hP2 ⟨2,1,l.length,fun _=>H1 r2.zero⟩ ⟨170,4,1,fun _=>H1 B7O.zero⟩
  have hP4:=hwp (Z':=⟨170,4,1,H7 (fun _=>H1 B7O.zero) 0 (.agg [.own 1 bn 0 l.length,eI 0,eI 0,.emp])⟩) hP3
  obtain ⟨dv1,gv1,fx1,hx1,hfx1,_,_⟩:=hP4.at
  refine I1 hx1 hfx1 ?_
  have hline:∀ k,k<p1.us.length→0≤(gU p1.us k).line∧(gU p1.us k).line.toNat<l.length:=fun k hk=>by
   have:=hus1.line _ (A7 hk)
   rw [hitl] at this;exact this
  refine ⟨[1,3,6,9,10,11,45,46,47],fun m vs t=>∃ (k:Nat) (fn fp:Nat→AV),k≤p1.us.length∧m=p1.us.length - k∧vs=[C7 codes,.fptr (G9 r) 0,.optr 4 b6 0 0,.fptr (.optr 4 bx 0 0) 0,.fptr (.fn (.func 180) [] []) 0,.optr 4 bp 0 0,C6 p1.us,eI p1.us.length,eI k] ∧
   PxR bx (C2 r.items l) p1 (upd (upd s6 bn ⟨2,1,l.length,fn⟩) bp ⟨170,4,1,fp⟩) t∧fp 0=.agg [.own 1 bn 0 l.length,eI (A2 ((D6 p1.us).take k)),eI 0,.emp]∧∀ j,j<l.length→fn j=eI (F5 (p1.us.take k) j),?_,?_⟩
  ·conv=>whnf
   exact ⟨_,0,_,_,D5L _,rfl,rfl,hP4,A4 ..,fun j _=>rfl⟩
  ·clear hP4 hP3 hx1 hfx1 hP2
   rintro m vs t ⟨k,fn,fp,hk,rfl,rfl,hP,hfp,hfn⟩
   obtain ⟨htn,htp⟩:=hload hP
   conv=>whnf
   cases hd:decide ((k:Int)<(p1.us.length:Int))
   ·have:=D5q hd
    obtain rfl:k=p1.us.length:=by omega
    rw [D5w] at hfn
    have htk:(D6 p1.us).take p1.us.length=D6 p1.us:=by rw [←D5p (f:=B2.net),D5w]
    rw [htk] at hfp;conv=>whnf
    obtain ⟨dv1,gv1,fx1,hx1,hfx1,_,_⟩:=hP.at
    refine ⟨[11],[],[0,1,2,3,4,5,6,7,8,9,10,11],by kernel_rfl,?_⟩;conv=>whnf
    refine I1 hx1 hfx1 ?_
    refine I1 htp hfp ?_
    refine cqW (C8G r.ship p1.us.length (N7 p1) t) ?_
    refine X1 htp hfp ?_
    have hP5:=hwp (Z':=⟨170,4,1,H7 fp 0 (.agg [.own 1 bn 0 l.length,eI (N7 p1),eI (A0F r.ship p1.us.length (N7 p1)),.emp])⟩) hP
    have hfee:0≤A0F r.ship p1.us.length (N7 p1)∧A0F r.ship p1.us.length (N7 p1)≤10000000000000:=by
     have:=hck.fee
     unfold A0F;split<;>omega
    generalize hfe:A0F r.ship p1.us.length (N7 p1)=fee at *
    have hR2:R2 bx bp bn l.length (C2 r.items l) (N7 p1) (p1,fee) (upd s6 bn ⟨2,1,l.length,fn⟩) (upd t bp ⟨170,4,1,H7 fp 0 (.agg [.own 1 bn 0 l.length,eI (N7 p1),eI fee,.emp])⟩):=⟨by rw [A9 hnb.symm];exact hbp6,_,⟨_,rfl,A4 ..⟩,hP5⟩
    refine call (B9m (σ:=PSt×Int) hN bx (C2 r.items l) (R2 bx bp bn l.length (C2 r.items l) (N7 p1)) (fun a=>a.1) (C2l bx bp bn l.length (C2 r.items l) (N7 p1)) (fun a s t t' h hs=>h.more hs) (fun a s t h=>⟨_,h.2.choose_spec.2⟩) r.promos codes hck.few (D6A hc hBig) h20 180 [] A0b (fun pr t=>B5q pr t)
     185 [] [.fptr (.optr 4 bx 0 0) 0,.optr 4 bp 0 0] (U2 (N7 p1)) C7c (fun a n h=>by have:=h.2.1;omega) (fun a n h=>⟨by have:=h.1;omega,by have:=h.2.1;omega,h.2.2⟩)
     (fun a n pr s t hm hs hI h=>B1O bx bp bn l.length (C2 r.items l) (N7 p1) a pr hI.2.2.1 hI.2.2.2 (by have:=hI.1;omega) (by have:=hI.2.1;omega) s t h)
     (fun a n pr hm hs hI=>B2X (hck.promo pr hm) hs hI) (p1,fee) ⟨by show p1.deals.length+60≤200;omega,by show p1.groups.length+60≤200;omega,hfee⟩ (upd s6 bn ⟨2,1,l.length,fn⟩) _ hR2) (fun v t2 hv=>?_)
    obtain ⟨rfl,o2,ho2,hR3⟩:=hv
    have hp2:Y5 (fun a:PSt×Int=>a.1) (U2 (N7 p1)) A0b r.promos (p1,fee) (P2 r.promos o2)=p2B r l p1 (P2 r.promos o2):=by
     unfold p2B;rw [←hfe,hul1]
    rw [hp2] at hR3
    have hQ2:=hQ o2
    generalize p2B r l p1 (P2 r.promos o2)=a2 at *
    obtain ⟨hbp7,y,⟨f7,rfl,hf7⟩,hP7⟩:=hR3
    have hBP7:=A4F bx (C2 r.items l) a2.1
    have h7p:t2 bp=some ⟨170,4,1,f7⟩:=hBP7.sup hP7 bp _ (A0 ..)
    have h7n:t2 bn=some ⟨2,1,l.length,fn⟩:=hBP7.sup hP7 bn _ (by rw [A9 hnb,A0])
    have h76:E5 s6 t2:=fun c x hc=>hBP7.sup hP7 c x (by
     have e1:c≠bp:=fun e=>by subst e;rw [hbp6] at hc;cases hc
     have e2:c≠bn:=fun e=>by subst e;rw [hbn6] at hc;cases hc
     rw [A9 e1,A9 e2];exact hc)
    have h6b:=h76 b6 _ h6
    have hb6p:b6≠bp:=fun e=>by subst e;rw [h6] at hbp6;cases hbp6
    have hb6n:b6≠bn:=fun e=>by subst e;rw [h6] at hbn6;cases hbn6
    have hstn:st bn=none:=hst6.none hbn6
    have hstp:st bp=none:=hst6.none hbp6
    obtain ⟨dv,gv,fx,hx2,hfx2,hdl⟩:=hP7.deals'
    have hS2:E5 st t2:=hst6.trans h76
    conv=>whnf
    refine ldV hx2 rfl (by omega) hfx2 ?_
    rcases hdl with ⟨hd0,rfl⟩ | ⟨bd,gd,rfl,hbd,hbt,hgd⟩
    ·conv=>whnf
     refine X1 h7p hf7 ?_
     refine I1 (A0 ..) (A4 ..) ?_
     refine X1 (by rw [A9 hb6p];exact h6b) rfl ?_
     refine I1 (A0 ..) (A4 ..) ?_
     refine .inr ⟨hk0,o1,o2,bn,fn,.emp,ho1,ho2,?_,hstn,?_,?_,((hS2.over hstp).over hb6),.inl ⟨?_,rfl⟩⟩
     ·rw [hQ2];rfl
     ·rw [A9 hb6n.symm,A9 hnb];exact h7n
     ·intro k hk
      rw [hQ2,hfn k hk]
      show eI _=eI (gI (V9 l.length p1.us) k)
      unfold V9
      rw [L9 _ hk]
     ·rw [hQ2];exact hd0
    ·have hbdp:bd≠bp:=fun e=>by subst e;rw [A0] at hbd;cases hbd
     rw [A9 hbdp] at hbd
     have hbdn:bd≠bn:=fun e=>by subst e;rw [A0] at hbd;cases hbd
     rw [A9 hbdn] at hbd
     have hbd6:bd≠b6:=fun e=>by subst e;rw [h6] at hbd;cases hbd
     conv=>whnf
     refine X1 h7p hf7 ?_
     refine I1 (A0 ..) (A4 ..) ?_
     refine X1 (by rw [A9 hb6p];exact h6b) rfl ?_
     refine I1 (A0 ..) (A4 ..) ?_
     refine .inr ⟨hk0,o1,o2,bn,fn,.own 2 bd 0 a2.1.deals.length,ho1,ho2,?_,hstn,?_,?_,((hS2.over hstp).over hb6),.inr ⟨bd,gd,?_,hst6.none hbd,hbdn,?_,?_⟩⟩
     ·rw [hQ2];rfl
     ·rw [A9 hb6n.symm,A9 hnb];exact h7n
     ·intro k hk
      rw [hQ2,hfn k hk]
      show eI _=eI (gI (V9 l.length p1.us) k)
      unfold V9
      rw [L9 _ hk]
     ·rw [hQ2]
     ·rw [A9 hbd6,A9 hbdp,hQ2];exact hbt
     ·rw [hQ2];exact hgd
   ·have hk':k<p1.us.length:=by have:=D5o hd;omega
    have hlk:=hline k hk'
    have hn0:0≤(gU p1.us k).net:=hu1.at0 k
    have hn1:(gU p1.us k).net≤10000000000000:=hu1.le (A7 hk')
    have e1:=K7 (l:=D6 p1.us) (i:=k) (by rw [D5p];exact hk')
    have e4:gI (D6 p1.us) k=(gU p1.us k).net:=D4 B2.net p1.us hk'
    have e2:=M8 hu1.nets0 (k+1)
    have e3:=C1 (l:=(D6 p1.us).take k) (fun x hx=>hu1.nets0 x (D6p _ _ hx))
    have hlb:=A0O hu1 k (gU p1.us k).line.toNat
    have hlb2:=A0O hu1 (k+1) (gU p1.us k).line.toNat
    have hln1:=X7 hk' (gU p1.us k).line.toNat
    rw [if_pos rfl] at hln1
    have hfl:fn (0+(gU p1.us k).line.toNat)=eI (F5 (p1.us.take k) (gU p1.us k).line.toNat):=by rw [D5A];exact hfn _ hlk.2
    have w1:IntKind.i64.wrap (F5 (p1.us.take k) (gU p1.us k).line.toNat+(gU p1.us k).net)=F5 (p1.us.take (k+1)) (gU p1.us k).line.toNat:=by rw [hln1];exact A5 (by omega) (by omega)
    have w2:IntKind.i64.wrap (A2 ((D6 p1.us).take k)+(gU p1.us k).net)=A2 ((D6 p1.us).take (k+1)):=by rw [e1,e4];exact A5 (by omega) (by omega)
    conv=>whnf
    refine E4 ?_
    refine ⟨[10],[],[0,1,2,3,4,5,6,7,8,9,10],by kernel_rfl,?_⟩;conv=>whnf
    refine I1 htp hfp ?_
    refine ⟨rfl,⟨by show 0≤(gU p1.us k).line;exact hlk.1,by show (gU p1.us k).line<(l.length:Int);have:=hlk.2;have:=hlk.1;omega⟩,?_⟩;conv=>whnf
    refine ldV htn rfl (by show 0+(gU p1.us k).line.toNat<_;have:=hlk.2;omega) hfl ?_;conv=>whnf
    refine ⟨rfl,⟨by show 0≤(gU p1.us k).line;exact hlk.1,by show (gU p1.us k).line<(l.length:Int);have:=hlk.2;have:=hlk.1;omega⟩,?_⟩;conv=>whnf
    refine stV htn rfl (by show 0+(gU p1.us k).line.toNat<_;have:=hlk.2;omega) hfl (by rfl) ?_
    have hP5:=hwn (Y':=⟨2,1,l.length,H7 fn (0+(gU p1.us k).line.toNat) (eI (F5 (p1.us.take (k+1)) (gU p1.us k).line.toNat))⟩) hP
    rw [←w1] at hP5
    obtain ⟨_,htp2⟩:=hload hP5
    conv=>whnf
    refine I1 htp2 hfp ?_
    refine X1 htp2 hfp ?_
    refine F8 ?_
    refine ⟨p1.us.length - (k+1),by omega,k+1,_,_,by omega,rfl,by rw [B3 (by omega)],hwp hP5,?_,fun j hj=>?_⟩
    ·rw [A4,←w2];rfl
    ·show H7 fn (0+(gU p1.us k).line.toNat) _ j=_
     rw [D5A]
     rw [X7 hk' j]
     by_cases hj2:j=(gU p1.us k).line.toNat
     ·subst hj2
      rw [if_pos rfl,A4,w1,hln1]
     ·rw [H3 hj2,if_neg (fun e=>hj2 e.symm)];exact hfn j hj
 ·have hk0:D7 r codes l≠0:=by simpa using h1
  conv=>whnf
  refine X1 (A0 ..) rfl ?_
  refine I1 (A0 ..) (A4 ..) ?_
  exact .inl ⟨hk0,rfl,(h6s _).over hb6⟩
theorem C7U (s:U7) (x:Ab.Item) (h1:Sm s.skus.length) (h2:Sm s.cats.length) (st:St):S P 252 [A3I s,E3 x] st fun v st'=>v=.bool (A9T s x)∧st'=st:=by
 have e:A9T s x=(((s.skus.length:Int)==0&&(s.cats.length:Int)==0)||(s.skus.any fun y=>y.toList==x.sku.toList)||(s.cats.any fun y=>y.toList==x.cat.toList)):=by
  unfold A9T inB
  rw [A3z,A3z]
  congr 1
  ·congr 1
   ·rw [←D7u];simp only [D5r,D6k];omega
   ·congr 1;funext y;exact D8t
  ·congr 1;funext y;exact D8t
 rw [e]
 have n1:=B7U s.skus x.sku h1 st
 have n2:=B7U s.cats x.cat h2 st
 generalize (s.skus.any fun y=>y.toList==x.sku.toList)=b1 at *
 generalize (s.cats.any fun y=>y.toList==x.cat.toList)=b2 at *
 refine SyW [2,3] Tryz.func252 ?_
 clear e
 repeat' ((conv=>whnf);first | refine B4 n1 ?_ | refine B4 n2 ?_ | (refine B8 (fun h=>?_) (fun h=>?_)<;>rw [h]))
 all_goals (conv=>whnf)
 all_goals (refine ⟨?_,rfl⟩;show AV.bool _=AV.bool _;simp only [*,D5C,D5K,D6c,D6d,D6f,D5Z])
theorem B8w {l:List E8} (h:∀ x∈l,lineC x=true) {i:Nat} (hi:i≤l.length):L5 (l.take i)≤L5 l∧J5 (l.take i)≤J5 l:=by
 have:∀ j,i+j≤l.length→L5 (l.take i)≤L5 (l.take (i+j))∧J5 (l.take i)≤J5 (l.take (i+j)):=by
  intro j
  induction j with
  | zero=>intro _;exact ⟨D5W _,D5W _⟩
  | succ j ih =>
   intro hj
   obtain ⟨h1,h2⟩:=ih (by omega)
   have hm:=A7 (l:=l) (i:=i+j) (by omega)
   have e1:L5 (l.take (i+j+1))=L5 (l.take (i+j))+(l.getD (i+j) default).qty:=I6 (by omega) _ _
   have e2:J5 (l.take (i+j+1))=J5 (l.take (i+j))+(l.getD (i+j) default).qty * (l.getD (i+j) default).price:=I6 (by omega) _ _
   have h3:=B0Y (h _ hm)
   have h4:=(A0r _).1 (h _ hm)
   rw [show i+(j+1)=i+j+1 by omega,e1,e2];omega
 have h2:=this (l.length - i) (by omega)
 rw [show i+(l.length - i)=l.length by omega,D5w] at h2;exact h2
theorem B7W (l:List E8) (st:St):S P 212 [A6 3 I0 l] st fun v st'=>v=eI (O2 (fun _=>true) l)∧st'=st:=by
 refine F1 [] Tryz.func212 ?_
 refine B8 (fun h=>?_) (fun h=>?_)<;>rw [h]<;>simp only [D5n,D5m] at h
 ·conv=>whnf
  exact ⟨by rw [show O2 (fun _=>true) l=6 from if_pos (by omega)];rfl,rfl⟩
 have hs:l.length≤1000:=by omega
 have hc:O2 (fun _=>true) l=match l.find? (J8 (fun _=>true)) with
  | some x=>if (fun _=>true) x.sku=true then 2 else 7
  | none=>if (decide (L5 l>100000)||decide (J5 l>10000000000000))=true then 5 else 0:=if_neg (by omega)
 conv=>whnf
 refine lp l.length [0,3] (fun i vs s=>(∀ k,k<i→lineC (l.getD k default)=true)∧vs=[A6 3 I0 l,eI i]∧s=st) ?_ ?_
 ·conv=>whnf
  exact ⟨fun k hk=>absurd hk (by omega),rfl,rfl⟩
 ·rintro i vs st' hi ⟨hok,rfl,rfl⟩
  conv=>whnf
  cases h:decide ((i:Int)<(l.length:Int))
  ·obtain rfl:=C5 h hi
   have hall:∀ x∈l,lineC x=true:=fun x hx=>by obtain ⟨k,hk,rfl⟩:=D3 hx;exact hok k hk
   rw [A8P fun k hk=>by unfold J8;rw [hok k hk];rfl] at hc
   simp only at hc
   conv=>whnf
   refine lp l.length [0,4,5,6] (fun i vs s=>(0≤L5 (l.take i)∧L5 (l.take i)≤100000)∧(0≤J5 (l.take i)∧J5 (l.take i)≤10000000000000)∧vs=[A6 3 I0 l,eI (L5 (l.take i)),eI (J5 (l.take i)),eI i]∧s=st') ?_ ?_
   ·conv=>whnf
    exact ⟨⟨D5W _,by rw [D7d];decide⟩,⟨D5W _,by rw [D7d];decide⟩,rfl,rfl⟩
   ·rintro i vs st' hi ⟨hu,hg,rfl,rfl⟩
    conv=>whnf
    cases h:decide ((i:Int)<(l.length:Int))
    ·obtain rfl:=C5 h hi
     rw [D5w] at hu hg
     rw [if_neg (by rw [D5t (show ¬ L5 l>100000 by omega),D5t (show ¬ J5 l>10000000000000 by omega)];simp)] at hc;conv=>whnf
     exact ⟨by rw [hc];rfl,rfl⟩
    ·have hi':=D9 h
     have hx:lineC (l.getD (i:Int).toNat default)=true:=hall _ (A7 hi')
     obtain ⟨⟨q0,q1⟩,_⟩:=(A0r _).1 hx
     obtain ⟨m0,m1⟩:=B0Y hx
     have eu:L5 (l.take (i+1))=L5 (l.take i)+(l.getD (i:Int).toNat default).qty:=I6 hi' _ _
     have eg:J5 (l.take (i+1))=J5 (l.take i)+(l.getD (i:Int).toNat default).qty * (l.getD (i:Int).toNat default).price:=I6 hi' _ _
     have w1:IntKind.i64.wrap (L5 (l.take i)+(l.getD (i:Int).toNat default).qty)=L5 (l.take (i+1)):=by rw [eu];exact A5 (by omega) (by omega)
     have w2:IntKind.i64.wrap ((l.getD (i:Int).toNat default).qty * (l.getD (i:Int).toNat default).price)=(l.getD (i:Int).toNat default).qty * (l.getD (i:Int).toNat default).price:=A5 (by omega) (by omega)
     have w3:IntKind.i64.wrap (J5 (l.take i)+(l.getD (i:Int).toNat default).qty * (l.getD (i:Int).toNat default).price)=J5 (l.take (i+1)):=by rw [eg];exact A5 (by omega) (by omega)
     have hmono:=B8w hall (show i+1≤l.length from hi')
     have bad:L5 (l.take (i+1))>100000∨J5 (l.take (i+1))>10000000000000→O2 (fun _=>true) l=5:=fun hb=>by
      rw [hc]
      refine if_pos ?_
      rw [D6t,D5n,D5n];omega
     conv=>whnf
     refine E4 ?_
     rw [w1]
     refine ⟨[],[],List.range 14,by kernel_rfl,?_⟩;conv=>whnf
     refine E4 ?_
     refine E4 ?_
     rw [w2,w3]
     refine B8 (fun h1=>?_) (fun h1=>?_)<;>rw [h1]
     ·conv=>whnf
      exact ⟨by rw [bad (.inl (D5o h1))];rfl,rfl⟩
     ·conv=>whnf
      refine B8 (fun h2=>?_) (fun h2=>?_)<;>rw [h2]
      ·conv=>whnf
       exact ⟨by rw [bad (.inr (D5o h2))];rfl,rfl⟩
      ·conv=>whnf
       refine F8 ?_
       have:=D5q h1
       have:=D5q h2
       exact nx hi' ⟨⟨by rw [eu];omega,by omega⟩,⟨by rw [eg];omega,by omega⟩,by rw [B3 (by omega)],rfl⟩
  ·have hi':=D9 h
   have n3:=A2D (l.getD (i:Int).toNat default).price 1000000000 st'
   have yes:lineC (l.getD (i:Int).toNat default)=true→∀ k,k<i+1→lineC (l.getD k default)=true:=fun h=>H4 hok h
   have no:lineC (l.getD (i:Int).toNat default)=false→O2 (fun _=>true) l=2:=fun h=>by
    rw [hc,A4d hi' (fun k hk=>by unfold J8;rw [hok k hk];rfl) (by unfold J8;rw [show lineC (l.getD i default)=false from h];rfl)]
    exact if_pos rfl
   have e:lineC (l.getD (i:Int).toNat default)=(!decide ((l.getD (i:Int).toNat default).qty<0)&&!decide ((l.getD (i:Int).toNat default).qty>100000)&&O6 0 1000000000 (l.getD (i:Int).toNat default).price):=by
    unfold lineC;congr 1;unfold O6;congr 1<;>(rw [←decide_not];exact D7a.2 (by omega))
   rw [e] at yes no
   generalize O6 0 1000000000 (l.getD (i:Int).toNat default).price=b3 at n3 yes no
   clear e hc
   repeat' ((conv=>whnf);first | refine ⟨rfl,⟨by omega,by omega⟩,?_⟩ | refine B4 n3 ?_ | cases b3 | (refine B8 (fun h=>?_) (fun h=>?_)<;>rw [h]))
   all_goals (conv=>whnf)
   all_goals first
    | (refine ⟨?_,rfl⟩;rw [no (by simp only [*,D6a,D5K,D5R])];rfl)
    | (refine ⟨rfl,?_⟩;conv=>whnf
       exact nx hi' ⟨yes (by simp only [*,D5S,D6g]),by rw [B3 (by omega)],rfl⟩)
end Go.Proofs.YtaapofnkmpiknaaGreat
