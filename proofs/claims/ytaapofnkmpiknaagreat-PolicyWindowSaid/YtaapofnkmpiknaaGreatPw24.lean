/- Part 24 of the proof: contracts of the functions that the law reaches -/
import Derived.Test.YtaapofnkmpiknaaGreatPw23
set_option maxRecDepth 100000
set_option linter.unusedVariables false
set_option linter.unusedSimpArgs false
namespace Go.Proofs.YtaapofnkmpiknaaGreat
open Go Go.Ab
attribute [local irreducible] upd del
def A4b (us:List A9) (l:List Int):Int:=A3 (l.map fun i=>(gU us i.toNat).net)
theorem A8P {us:List A9} (hu:C4 us) {l:List Int} (hl:∀ k,k<l.length→0≤gI l k∧(gI l k).toNat<us.length) (hn:l.length≤800000) {i:Nat} (hi:i<l.length) :
  IntKind.i64.wrap (A4b us (l.take i)+(gU us (gI l i).toNat).net)=A4b us (l.take (i+1)):=by
 have hc:=A0M hu (l.take i) (fun x hx=>by obtain ⟨k,hk,rfl⟩:=F2 (D0m _ _ hx);exact hl k hk)
 have h3:0≤(gU us (gI l i).toNat).net:=hu.pos _ (A7 (hl i hi).2)
 have h4:(gU us (gI l i).toNat).net≤10000000000000:=hu.le (A7 (hl i hi).2)
 have e:A4b us (l.take (i+1))=A4b us (l.take i)+(gU us (gI l i).toNat).net:=by
  unfold A4b;rw [N5 hi,C9P,D1];simp [A3]
 have hcl:(l.take i).length≤800000:=by rw [C9D];omega
 have e2:F4 us (l.take i)=A4b us (l.take i):=rfl
 rw [e]
 exact A6 (by omega) (by omega)
theorem C2z (bx:Nat) (items:List Ab.Item) (p:Z7) (hu:C4 p.us) (l:List Int) (hn:l.length≤800000) (hl:∀ k,k<l.length→0≤gI l k∧(gI l k).toNat<p.us.length) (s t:St) (h:PxR bx items p s t) :
  S P 270 [.optr 4 bx 0 0,B2 l] t fun v t'=>v=eI (A4b p.us l)∧t'=t:=by
 obtain ⟨dv,gv,fx,hx,hx0,hdv,hgv⟩:=h.at
 refine F5 [] Tryz.func270 ?_
 refine ⟨[0,5,8,9,10],fun m vs t'=>∃ i:Nat,i≤l.length∧m=l.length - i∧vs=[.optr 4 bx 0 0,eI (A4b p.us (l.take i)),B2 l,eI l.length,eI i]∧t'=t,?_,?_⟩
 ·conv=>whnf
  exact ⟨_,0,C9v _,rfl,rfl,rfl⟩
 ·rintro m vs t' ⟨i,hi,rfl,rfl,rfl⟩
  conv=>whnf
  cases h2:decide ((i:Int)<(l.length:Int))
  ·have:=C9k h2
   obtain rfl:i=l.length:=by omega
   rw [C9u];conv=>whnf
   exact ⟨rfl,rfl⟩
  ·have hi':i<l.length:=by have:=C9j h2;omega
   have hr:=hl i hi'
   conv=>whnf
   refine I8 ?_
   refine K9 hx hx0 ?_
   refine ⟨rfl,⟨by show 0≤gI l i;exact hr.1,by show gI l i<(p.us.length:Int);have:=hr.2;have:=hr.1;omega⟩,?_⟩;conv=>whnf
   refine I9 ?_
   exact ⟨l.length - (i+1),by omega,i+1,by omega,rfl,by rw [C1 (by omega),←A8P hu hl hn hi'];rfl,rfl⟩
theorem C1l (bx:Nat) (items:List Ab.Item) (p:Z7) (hu:C4 p.us) (l:List Int) (hn:l.length≤800000) (hl:∀ k,k<l.length→0≤gI l k∧(gI l k).toNat<p.us.length) (s t:St) (h:PxR bx items p s t)
  (b:Nat) (m0:Nat) (f:Nat→AV) (hm0:l.length≤m0) (hb:t b=some ⟨3,1,m0,f⟩) (hf:∀ k,k<l.length→f k=eI (gI l k)) :
  S P 270 [.optr 4 bx 0 0,.own 1 b 0 l.length] t fun v t'=>v=eI (A4b p.us l)∧t'=t:=by
 obtain ⟨dv,gv,fx,hx,hx0,hdv,hgv⟩:=h.at
 refine F5 [] Tryz.func270 ?_
 refine ⟨[0,5,8,9,10],fun m vs t'=>∃ i:Nat,i≤l.length∧m=l.length - i∧vs=[.optr 4 bx 0 0,eI (A4b p.us (l.take i)),.own 1 b 0 l.length,eI l.length,eI i]∧t'=t,?_,?_⟩
 ·conv=>whnf
  exact ⟨_,0,C9v _,rfl,rfl,rfl⟩
 ·rintro m vs t' ⟨i,hi,rfl,rfl,rfl⟩
  conv=>whnf
  cases h2:decide ((i:Int)<(l.length:Int))
  ·have:=C9k h2
   obtain rfl:i=l.length:=by omega
   rw [C9u];conv=>whnf
   exact ⟨rfl,rfl⟩
  ·have hi':i<l.length:=by have:=C9j h2;omega
   have hr:=hl i hi'
   conv=>whnf
   refine I8 ?_
   refine ldV hb rfl (by omega) (v:=eI (gI l i)) (by rw [show 0+(i:Int).toNat=i by omega];exact hf i hi') ?_;conv=>whnf
   refine K9 hx hx0 ?_
   refine ⟨rfl,⟨by show 0≤gI l i;exact hr.1,by show gI l i<(p.us.length:Int);have:=hr.2;have:=hr.1;omega⟩,?_⟩;conv=>whnf
   refine I9 ?_
   exact ⟨l.length - (i+1),by omega,i+1,by omega,rfl,by rw [C1 (by omega),←A8P hu hl hn hi'],rfl⟩
def A1t (p:Z7) (pr:A8) (off:Int):Z7:=⟨p.us,p.deals++[⟨pr.id,off⟩],p.groups++(if Q3 pr.group=true then [] else [pr.group])⟩
theorem A4G {α : Type} [Inhabited α] {a b:List α} {k:Nat} (h:k<a.length):(a++b).getD k default=a.getD k default:=by
 rw [C9i,C9i,C9z h]
theorem B1e {α : Type} [Inhabited α] (a:List α) (x : α):(a++[x]).getD a.length default=x:=by
 simp [C9i]
theorem RD.at {bx:Nat} {dl:List A0Z} {gr:List C9} {dv gv:AV} {s t:St} {f:Nat→AV} (h:RD dl gr dv gv (upd s bx ⟨239,4,1,f⟩) t):t bx=some ⟨239,4,1,f⟩:=(A1N _ _ _ _).sup h bx _ (A0 ..)
theorem RD.put {bx:Nat} {dl:List A0Z} {gr:List C9} {dv gv:AV} {s t:St} {f f':Nat→AV} (h:RD dl gr dv gv (upd s bx ⟨239,4,1,f⟩) t):RD dl gr dv gv (upd s bx ⟨239,4,1,f'⟩) (upd t bx ⟨239,4,1,f'⟩):=by
 have:=(A1N dl gr dv gv).write (y':=⟨239,4,1,f'⟩) h (A0 ..)
 rw [I2] at this;exact this
theorem RD.of {dl:List A0Z} {gr:List C9} {dv gv:AV} {s t:St} {d:A0Z} (h:ROut (RG gr gv) 221 2 (A1U (dl++[d])) (dl.length+1) s dv t):RD (dl++[d]) gr dv gv s t:=by
 unfold RD;rw [C9E];exact h
theorem RD.grp {K:KK} {X:Prop} {dl:List A0Z} {gr:List C9} {dv gv:AV} {s t:St} (h:RD dl gr dv gv s t) (g:C9)
  (happ:∀ {s1:St},ROut E9 9 1 (A7c (gr++[g])) gr.length s1 gv t→(∀ gv' t',ROut E9 9 1 (A7c (gr++[g])) (gr.length+1) s1 gv' t'→K gv' t')→X)
  (hk:∀ gv' t',RD dl (gr++[g]) dv gv' s t'→(gv'=.emp∨∃ b,gv'=.own 1 b 0 (gr++[g]).length)→K gv' t'):X:=by
 obtain ⟨s1,hc,hg⟩:=h
 refine happ (s1:=s1) (hg.congr fun k hk=>by simp only [A7c];rw [A4G hk]) (fun gv' t' hg'=>?_)
 have hg2:RG (gr++[g]) gv' s1 t':=by unfold RG;rw [C9E];exact hg'
 exact hk gv' t' ⟨s1,hc,hg2⟩ (ROut.head hg2)
theorem PxR.mk' {bx:Nat} {items:List Ab.Item} {p:Z7} {dv gv:AV} {s t:St} {f:Nat→AV} (hbx:s bx=none) (hf:f 0=.agg [B0 4 H2 items,C5 p.us,dv,gv]) (h:RD p.deals p.groups dv gv (upd s bx ⟨239,4,1,f⟩) t):PxR bx items p s t :=
 ⟨(dv,gv),hbx,_,⟨f,rfl,hf⟩,h⟩
theorem PxR.fin {bx:Nat} {items:List Ab.Item} {us:List A9} {dl:List A0Z} {gr:List C9} {dv gv:AV} {s t:St} {f:Nat→AV} (hbx:s bx=none) (h:RD dl gr dv gv (upd s bx ⟨239,4,1,f⟩) t) (f':Nat→AV) (hf:f' 0=.agg [B0 4 H2 items,C5 us,dv,gv]) :
  PxR bx items ⟨us,dl,gr⟩ s (upd t bx ⟨239,4,1,f'⟩):=PxR.mk' hbx hf (RD.put h)
theorem B2J (bx:Nat) (items:List Ab.Item) (p:Z7) (pr:A8) (off:Int) (hd:p.deals.length≤1000) (hg:p.groups.length≤1000) (s t:St) (h:PxR bx items p s t) :
  S P 234 [.optr 4 bx 0 0,B9 pr,eI off] t fun v t'=>v=.tuple []∧PxR bx items (A1t p pr off) s t':=by
 obtain ⟨⟨dv,gv⟩,hbx,y,⟨f,rfl,hf⟩,hRD⟩:=h
 simp only at hf hRD
 refine F5 [4] Tryz.func234 ?_
 refine ⟨[10,13],[],[0,1,2,3,4,5,6,7,8,9,10,11,12,13],by kernel_rfl,?_⟩
 have hdv:dv=.emp∨∃ b,dv=.own 2 b 0 p.deals.length:=ROut.head hRD
 have hgv:gv=.emp∨∃ b,gv=.own 1 b 0 p.groups.length:=by obtain ⟨s0,hc,hgg⟩:=hRD;exact ROut.head hgg
 rcases hdv with rfl | ⟨bd,rfl⟩<;>rcases hgv with rfl | ⟨bg,rfl⟩
 all_goals
  conv=>whnf
  refine K9 hRD.at hf ?_
  refine ⟨_,⟨rfl,rfl⟩,?_⟩;conv=>whnf
  refine ROut.app (q:=C1x) (A6u _ _) rfl rfl rfl rfl rfl (f:=A1U (p.deals++[⟨pr.id,off⟩])) (by simp only [A1U,B1e];rfl) (by show (p.deals.length+1) * 24≤140737488355328;omega) (hRD.congr fun k hk=>by simp only [A1U];rw [A4G hk]) (fun dv' t2 hRD2=>?_)
  have hRD2':=RD.of hRD2
  rcases ROut.head hRD2' with rfl | ⟨bd',rfl⟩
  all_goals
   conv=>whnf
   refine stW hRD2'.at hf ?_
   have hnil:(ByteArray.toList pr.group==ByteArray.toList ⟨#[]⟩)=Q3 pr.group:=rfl
   rw [hnil]
   cases hgr:Q3 pr.group
   ·conv=>whnf
    refine ⟨[8,11],[],[0,1,2,3,4,5,6,7,8,9,10,11],by kernel_rfl,?_⟩;conv=>whnf
    refine K9 (RD.put hRD2').at (by rw [B4]) ?_
    refine ⟨_,⟨rfl,rfl⟩,?_⟩;conv=>whnf
    refine RD.grp (RD.put hRD2') pr.group (fun happ=>ROut.app (q:=r9) O1 rfl rfl rfl rfl rfl (by simp only [A7c,B1e];rfl) (by show (p.groups.length+1) * 16≤140737488355328;omega) happ) (fun gv' t4 hRD4 hh=>?_)
    rcases hh with rfl | ⟨bg',rfl⟩
    all_goals
     conv=>whnf
     refine stW hRD4.at (by rw [B4]) ?_
     refine ⟨rfl,?_⟩
     unfold A1t
     rw [hgr]
     exact PxR.fin hbx hRD4 _ (by rw [B4];rfl)
   ·conv=>whnf
    refine ⟨rfl,?_⟩
    unfold A1t
    rw [hgr]
    simp only [if_true,D1R]
    exact PxR.fin hbx hRD2' _ (by rw [B4];rfl)
end Go.Proofs.YtaapofnkmpiknaaGreat
namespace Go.Proofs.YtaapofnkmpiknaaGreat
open Go Go.Ab
theorem G2 {lo hi x:Int}:R1 lo hi x=true↔lo≤x∧x≤hi:=by
 unfold R1;simp only [C9l,C9n,ge_iff_le]
theorem A1n {α : Type} [Inhabited α] {l:List α} {p:Nat→α→Bool}:Z0 l p=true↔∀ k,k<l.length→p k (l.getD k default)=true:=by
 unfold Z0
 rw [C9O]
 exact ⟨fun h k hk=>h k (C9S.2 hk),fun h k hk=>h k (C9S.1 hk)⟩
structure B8R (p:A8):Prop where
 kind:1≤p.kind∧p.kind<8
 skus:p.scope.skus.length≤20
 cats:p.scope.cats.length≤20
 least:0≤p.least∧p.least≤10000000000000
 buy:p.kind=3→A8u p
 bun:p.kind=4→A2H p∧∀ x∈p.parts,x.scope.skus.length≤20∧x.scope.cats.length≤20
 ask:K2 p→p.kind=1∨p.kind=2∨p.kind=5∨p.kind=6→A5N p
 ship:p.kind=7→1≤p.rate∧p.rate≤10000
theorem B5X {l:List A4t} (h:A2o l=true):A4u l:=by
 unfold A2o at h
 simp only [C9l,C9F,D0S,C9m] at h
 refine ⟨by omega,fun t ht=>?_⟩
 obtain ⟨k,hk,rfl⟩:=F2 ht
 have h2:=A1n.1 h.2 k hk
 unfold A3e at h2
 simp only [C9F,D0S,C9m] at h2
 omega
theorem A4N {p:A8} (h:I6 p=true):B8R p:=by
 have h0:=h
 unfold I6 at h
 simp only [C9l,C9n] at h
 obtain ⟨⟨⟨⟨hk1,hk2⟩,hh⟩,hp⟩,hkd⟩:=h
 have hl:=A8S hh
 simp only [A8R,C9l,G2] at hh
 unfold A8T at hkd
 refine ⟨⟨hk1,hk2⟩,hl.1,hl.2,hh.2,fun e=>?_,fun e=>?_,fun hf e=>?_,fun e=>?_⟩
 ·rw [e] at hkd
  simp [A6C,A7t,G2] at hkd
  exact ⟨hkd.2.1,hkd.2.2,⟨by omega,hkd.1.2⟩⟩
 ·rw [e] at hkd
  simp only [show ¬(4:Int)=1 by decide,show ¬(4:Int)=2 by decide,show ¬(4:Int)=3 by decide,D1x,if_true] at hkd
  unfold A6B at hkd
  simp only [C9l,C9F,D0S,C9m,D2d] at hkd
  obtain ⟨⟨⟨⟨a1,a2⟩,a3⟩,a4⟩,a5⟩:=hkd
  have hpt:∀ x∈p.parts,A7v x=true:=fun x hx=>by simpa using a5 x hx
  refine ⟨⟨by omega,by omega,fun x hx=>?_,by omega,by omega⟩,fun x hx=>?_⟩
  ·have:=hpt x hx
   unfold A7v at this
   simp only [C9l,C9F,D0S,C9m] at this
   omega
  ·have:=hpt x hx
   unfold A7v at this
   simp only [C9l] at this
   exact A7J this.1
 ·refine ⟨hf,h0,e,fun e2=>?_,fun e2=>?_⟩
  ·rcases e2 with e2 | e2<;>rw [e2] at hkd<;>simp at hkd<;>exact B5X hkd
  ·rw [e2] at hkd
   simp [A6A,G2] at hkd
   omega
 ·rw [e] at hkd
  simp [A7t,G2] at hkd
  exact hkd
theorem B9F {p:A8} (hp:A5N p) {nets:List Int} (h0:∀ x∈nets,0≤x) (hs:A3 nets≤10000000000000) (hl:nets.length≤100000):∀ k,k<(N0 p nets).length→gI (N0 p nets) k≤gI nets k:=fun k hk=>by
 have hn:=B8 h0
 have hlen:=(A4c hp h0 hs hl).2.1
 have hx:0≤gI nets k:=h0 _ (A7 (by omega))
 have hkn:k<nets.length:=by omega
 unfold N0 at hk ⊢
 have hmap:∀ (r a:Int),0≤a→gI (nets.map fun x=>Q8 x r a) k≤gI nets k:=fun r a ha=>by
  rw [show gI (nets.map fun x=>Q8 x r a) k=Q8 (gI nets k) r a from F7 (fun x=>Q8 x r a) nets hkn]
  exact (S6 hx ha).2
 rcases hp.kind with e | e | e | e
 ·rw [if_pos e] at hk ⊢;exact hmap _ _ (C9R _)
 ·rw [if_neg (by omega),if_pos e] at hk ⊢;exact hmap _ _ (hp.amount e).1
 ·rw [if_neg (by omega),if_neg (by omega),if_pos e] at hk ⊢
  have hok:=V8 (hp.tiers (.inl e)) (A3 nets)
  unfold A2Y at hk ⊢
  split at hk
  ·simp at hk
  ·rename_i t hr
   rw [hr] at hok
   have hob:0≤Q8 (A3 nets) t.rate t.amount∧Q8 (A3 nets) t.rate t.amount≤A3 nets:=S6 hn hok.1
   have hW:M4 (Q8 (A3 nets) t.rate t.amount) nets:=⟨hob.1,by omega,hl,h0,by omega,fun e=>by omega⟩
   have hll:=(P1 hW).2.1
   exact A0v hW hob.2 (by omega)
 ·rw [if_neg (by omega),if_neg (by omega),if_neg (by omega)] at hk ⊢
  have hok:=V8 (hp.tiers (.inr e)) nets.length
  unfold A2X at hk ⊢
  split at hk
  ·simp at hk
  ·rename_i t hr
   rw [hr] at hok
   exact hmap _ _ hok.1
theorem A9Q (us:List A9) (mine:List Int):G9 us mine=E5 us mine:=rfl
theorem B2f {p:A8} (hp:A5N p) {us:List A9} (hu:C4 us) {mine:List Int} (hm:L2 us mine):Off us (A0q p us mine).1 (A0q p us mine).2:=by
 have hnl:(G9 us mine).length=mine.length:=C9o ..
 have hml:=hm.len
 have hul:=hu.len
 have hn0:∀ x∈G9 us mine,0≤x:=fun x hx=>by
  obtain ⟨i,hi,rfl⟩:=C9H.1 hx
  exact hu.at0 _
 have hwl:=B1U hu hm.places
 have hus:=hu.sum
 have hns:A3 (G9 us mine)≤10000000000000:=by rw [A9Q];omega
 obtain ⟨ob1,ob2,ob3⟩:=A4c hp hn0 hns (by omega)
 have hle:=B9F hp hn0 hns (by omega)
 have h1:=A0X hu hm.places (offs:=N0 p (G9 us mine)) (by omega) (fun k hk=>⟨ob3 _ (A7 hk),by
  have:=hle k hk
  rw [show gI (G9 us mine) k=(gU us (gI mine k).toNat).net from F7 (fun i:Int=>(gU us i.toNat).net) mine (by omega)] at this
  exact this⟩) (N0 p (G9 us mine)).length (C9q _)
 rw [C9u] at h1
 unfold A0q
 simp only
 split
 ·have h2:=Off.closeB (h1.ok hu) mine (fun x hx=>by
   obtain ⟨k,hk,rfl⟩:=F2 hx
   rw [h1.len];exact (hm.rng k hk).2)
  have h3:=h1.trans h2
  rw [D1C] at h3;exact h3
 ·exact h1
end Go.Proofs.YtaapofnkmpiknaaGreat
namespace Go.Proofs.YtaapofnkmpiknaaGreat
open Go Go.Ab
attribute [local irreducible] upd del
theorem PxR.more {bx:Nat} {items:List Ab.Item} {p:Z7} {s t t':St} (h:PxR bx items p s t) (hs:E9 t t'):PxR bx items p s t':=by
 obtain ⟨v,h1,y,h2,s1,h3,s2,h4,h5⟩:=h
 exact ⟨v,h1,y,h2,s1,h3,s2,h4,h5.trans hs⟩
structure A6m (items:List Ab.Item) (us:List A9):Prop where
 ok:C4 us
 few:items.length≤100000
 line:∀ u∈us,0≤u.line∧u.line.toNat<items.length
theorem A6m.off {items:List Ab.Item} {us us':List A9} {x:Int} (h:A6m items us) (ho:Off us us' x):A6m items us' :=
 ⟨ho.ok h.ok,h.few,fun u hu=>by
  obtain ⟨k,hk,rfl⟩:=F2 hu
  have h1:=ho.line k
  have h2:=h.line (gU us k) (A7 (by rw [←ho.len];exact hk))
  show 0≤(gU us' k).line∧(gU us' k).line.toNat<items.length
  rw [h1];exact h2⟩
def A0W (items:List Ab.Item) (us:List A9) (pr:A8):List A9×Int :=
 if A4b us (H3 pr.scope items us us.length)<pr.least then ([],0)
 else if pr.kind=3 then W0 pr us (H3 pr.scope items us us.length) else A0q pr us (H3 pr.scope items us us.length)
theorem C0X {P:Program} {f:FuncId} {args:List AV} {st st1:St} {v:AV} {K:KK} (h:S P f args st fun v' st'=>v'=v∧st'=st1) (hK:K v st1):U8 P f args st K:=call h fun v' st' ⟨e1,e2⟩=>by rw [e1,e2];exact hK
theorem B8f (bx:Nat) (items:List Ab.Item) (p:Z7) (pr:A8) (hfit:K2 pr) (hright:I6 pr=true) (hk:pr.kind≠4∧pr.kind≠7) (hu:A6m items p.us) (s t:St) (h:PxR bx items p s t) :
  S P 232 [.optr 4 bx 0 0,B9 pr] t fun v t'=>v=.tuple [C5 (A0W items p.us pr).1,eI (A0W items p.us pr).2]∧t'=t:=by
 have hok:=A4N hright
 have hm:=A1s pr.scope items p.us
 have hml:=hm.len
 have hul:=hu.ok.len
 refine S.post (post:=fun v t'=>(v=.tuple [C5 (A0W items p.us pr).1,eI (A0W items p.us pr).2]∨(A0W items p.us pr=([],0)∧v=.tuple [.emp,eI 0]))∧t'=t) ?_ (fun v t' ⟨hv,ht⟩=>by
  subst ht
  rcases hv with rfl | ⟨h1,rfl⟩
  ·exact ⟨_,_,⟨rfl,rfl⟩,A4.refl _ _⟩
  ·exact ⟨_,_,⟨rfl,rfl⟩,by rw [h1];exact A4.tuple (A4.cons (I1 3 _) (A4.keep _ _)) rfl⟩)
 obtain ⟨dv,gv,fx,hx,hx0,hdv,hgv⟩:=h.at
 refine F5 [3] Tryz.func232 ?_
 refine J0 (B7o bx items p pr.scope hok.skus hok.cats hul hu.few hu.line s t h) ?_
 refine ⟨[],[],[0,1,2,3,4,5],by kernel_rfl,?_⟩;conv=>whnf
 refine ⟨_,A3H (C2z bx items p hu.ok _ (by omega) hm.rng s t h),?_⟩
 have hS:A0W items p.us pr=if A4b p.us (H3 pr.scope items p.us p.us.length)<pr.least then ([],0) else if pr.kind=3 then W0 pr p.us (H3 pr.scope items p.us p.us.length) else A0q pr p.us (H3 pr.scope items p.us p.us.length):=rfl
 conv=>whnf
 refine B7 (fun h1=>?_) (fun h1=>?_)<;>rw [h1]<;>simp only [C9n,C9m] at h1
 ·rw [if_pos h1] at hS;conv=>whnf
  exact ⟨.inr ⟨hS,rfl⟩,rfl⟩
 rw [if_neg h1] at hS;conv=>whnf
 refine B7 (fun h2=>?_) (fun h2=>?_)<;>rw [h2]<;>simp only [D0Q,C9W] at h2
 ·rw [if_pos h2] at hS;conv=>whnf
  refine ⟨[],[],[0,1,2,3,4,5,6,7,8,9,10],by kernel_rfl,?_⟩;conv=>whnf
  refine K9 hx hx0 ?_
  refine cqW (B6M pr p.us _ hfit hright h2 (hok.buy h2) hu.ok hm t) ?_
  exact ⟨.inl (by rw [hS];rfl),rfl⟩
 ·rw [if_neg h2] at hS
  have hask:A5N pr:=hok.ask hfit (by have:=hok.kind;have:=hk.1;have:=hk.2;omega)
  conv=>whnf
  refine ⟨[],[],[0,1,2,3,4,5,6,7,8,9,10],by kernel_rfl,?_⟩;conv=>whnf
  refine K9 hx hx0 ?_
  refine cqW (B8Z pr p.us _ hask hu.ok hm t) ?_
  exact ⟨.inl (by rw [hS];rfl),rfl⟩
theorem B7a (a b:List Int) (j:Nat):gI (a++b) (a.length+j)=gI b j:=by
 unfold gI
 rw [C9i,C9i,C9B (by omega),Nat.add_sub_cancel_left]
theorem C1k (bx:Nat) (t:St):S P 270 [.optr 4 bx 0 0,.emp] t fun v t'=>v=eI 0∧t'=t:=by
 refine F5 [] Tryz.func270 ?_
 refine A8l [0,5,8,9,10] ?_;conv=>whnf
 intro I;conv=>whnf
 exact ⟨rfl,rfl⟩
def O0 (items:List Ab.Item) (us:List A9) (pr:A8):List (List Int):=pr.parts.map fun x=>H3 x.scope items us us.length
def A4z (items:List Ab.Item) (us:List A9) (pr:A8) (i:Nat):List Int:=((O0 items us pr).take i).flatten
def Z9 (items:List Ab.Item) (us:List A9) (pr:A8):List A9×Int :=
 if A4b us (T3 (C0 (A4z items us pr pr.parts.length)))<pr.least then ([],0) else P8 pr us (O0 items us pr)
theorem A8x (items:List Ab.Item) (us:List A9) (pr:A8) {i:Nat} (hi:i<pr.parts.length):A4z items us pr (i+1)=A4z items us pr i++H3 (pr.parts.getD i default).scope items us us.length:=by
 unfold A4z
 have hl:(O0 items us pr).length=pr.parts.length:=C9o ..
 rw [N5 (by omega),List.flatten_append]
 congr 1
 have:(O0 items us pr).getD i default=H3 (pr.parts.getD i default).scope items us us.length:=F7 (fun x:A4r=>H3 x.scope items us us.length) pr.parts hi
 rw [this];simp
theorem B0O (items:List Ab.Item) (us:List A9) (pr:A8):∀ i,i≤pr.parts.length→(A4z items us pr i).length≤i * us.length
 | 0,_=>by simp [A4z]
 | i+1,h=>by
  have ih:=B0O items us pr i (by omega)
  rw [A8x items us pr (by omega),C9E]
  have:=A5y (pr.parts.getD i default).scope items us us.length
  have e:(i+1) * us.length=i * us.length+us.length:=Nat.succ_mul i us.length
  omega
theorem B4J {l:List Int} {x:Int} (h:x∈T3 l):x∈l:=by
 unfold T3 Go.Lib.compactUpTo at h
 obtain ⟨k,hk,rfl⟩:=C9H.1 h
 have hk2:k<l.length:=C9S.1 (D0C.1 hk).1
 have:l.toArray[k]! = l[k]:=by rw [getElem!_pos _ k (by simpa using hk2)];simp
 rw [this];exact D0t hk2
theorem B6B {items:List Ab.Item} {us:List A9} {pr:A8} {i:Nat} {x:Int} (h:x∈A4z items us pr i):0≤x∧x.toNat<us.length:=by
 unfold A4z at h
 obtain ⟨l,hl,hx⟩:=List.mem_flatten.1 h
 obtain ⟨q,hq,rfl⟩:=C9H.1 (D0m _ _ hl)
 obtain ⟨k,hk,rfl⟩:=F2 hx
 exact (A1s q.scope items us).rng k hk
theorem B5j (bx:Nat) (items:List Ab.Item) (p:Z7) (pr:A8) (hfit:K2 pr) (hright:I6 pr=true) (hk:pr.kind=4) (hu:A6m items p.us) (s t:St) (h:PxR bx items p s t) :
  S P 233 [.optr 4 bx 0 0,B9 pr] t fun v t'=>v=.tuple [C5 (Z9 items p.us pr).1,eI (Z9 items p.us pr).2]∧t'=t:=by
 have hok:=A4N hright
 obtain ⟨hbun,hsc⟩:=hok.bun hk
 have hn8:=hbun.n8
 have hul:=hu.ok.len
 have hpl:(O0 items p.us pr).length=pr.parts.length:=C9o ..
 have hpm:∀ x∈O0 items p.us pr,L2 p.us x:=fun x hx=>by
  obtain ⟨q,hq,rfl⟩:=C9H.1 hx
  exact A1s _ _ _
 refine S.post (post:=fun v t'=>(v=.tuple [C5 (Z9 items p.us pr).1,eI (Z9 items p.us pr).2]∨(Z9 items p.us pr=([],0)∧v=.tuple [.emp,eI 0]))∧E9 t t') ?_ (fun v t' ⟨hv,ht⟩=>by
  rcases hv with rfl | ⟨h1,rfl⟩
  ·exact ⟨_,_,⟨rfl,rfl⟩,ht.shift _⟩
  ·exact ⟨_,_,⟨rfl,rfl⟩,by rw [h1];exact (ht.shift _).trans (A4.tuple (A4.cons (I1 3 _) (A4.keep _ _)) rfl)⟩)
 have hBi:=fun (n:Nat) (sv:AV) (fo:Nat→AV)=>V2 O1 3 1 fo n sv
 refine F5 [3,9] Tryz.func233 ?_
 refine ⟨[0,3,6,7,12,13,14],fun m vs t'=>∃ (i:Nat) (sv1 sv2:AV),i≤pr.parts.length∧m=pr.parts.length - i∧vs=[.optr 4 bx 0 0,.fptr (B9 pr) 0,sv1,sv2,B0 3 A2t pr.parts,eI pr.parts.length,eI i] ∧
  ROut (fun s t'=>ROut E9 3 1 (fun k=>eI (gI (A4z items p.us pr i) k)) (A4z items p.us pr i).length s sv2 t') 29 1 (fun k=>B2 ((O0 items p.us pr).getD k default)) i t sv1 t',?_,?_⟩
 ·conv=>whnf
  exact ⟨_,0,.emp,.emp,C9v _,rfl,rfl,ROut.start (ROut.start (E9.refl _) _ _ _) _ _ _⟩
 ·rintro m vs t' ⟨i,sv1,sv2,hi,rfl,rfl,hout⟩
  have hal:=B0O items p.us pr i hi
  have hal2:i * p.us.length≤8 * 100000:=Nat.mul_le_mul (by omega) hul
  have hsup:E9 t t':=hout.sup (hBi _ _ _)
  conv=>whnf
  cases hd:decide ((i:Int)<(pr.parts.length:Int))
  ·have:=C9k hd
   obtain rfl:i=pr.parts.length:=by omega
   obtain ⟨s1,hc1,hout2⟩:=hout
   generalize hA:A4z items p.us pr pr.parts.length=A at *
   have hAm:∀ x∈A,0≤x∧x.toNat<p.us.length:=fun x hx=>B6B (by rw [hA];exact hx)
   have hSl:(C0 A).length=A.length:=O4 A
   have hCl:=A5m (C0 A)
   have hCm:∀ k,k<(T3 (C0 A)).length→0≤gI (T3 (C0 A)) k∧(gI (T3 (C0 A)) k).toNat<p.us.length:=fun k hk=>hAm _ (V9.1 (B4J (A7 hk)))
   conv=>whnf
   refine call (A9b O1 (by omega) hout2) (fun v t2 hv=>?_)
   obtain ⟨rfl,hout3⟩:=hv
   have hsup2:E9 s1 t2:=hout3.sup O1
   have hB:Z9 items p.us pr=if A4b p.us (T3 (C0 A))<pr.least then ([],0) else P8 pr p.us (O0 items p.us pr):=by unfold Z9;rw [hA]
   -- what is behind the two,with the store as it is then
   have fin:∀ t3,E9 s1 t3→∀ K:KK,(∀ v,v=.tuple [C5 (P8 pr p.us (O0 items p.us pr)).1,eI (P8 pr p.us (O0 items p.us pr)).2]→K v t)→U8 P 275 [B9 pr,C5 p.us,sv1] t3 K:=fun t3 h3 K hK=>by
    have hsh:A4 [B9 pr,C5 p.us,sv1] t3 [B9 pr,C5 p.us,B0 1 B2 (O0 items p.us pr)] t:=by
     refine A4.cons (A4.keep _ _) (A4.cons (A4.keep _ _) ?_)
     have e:B0 1 B2 (O0 items p.us pr)=.arr 1 pr.parts.length (fun k=>B2 ((O0 items p.us pr).getD k default)):=by unfold B0;rw [hpl]
     rw [e]
     exact (h3.shift _).trans hc1.shift
    refine D3 hsh (call (B6L pr p.us (O0 items p.us pr) hfit hright hk hbun hu.ok hpl hpm t) (fun v t4 hv=>?_))
    rw [hv.2];exact hK v hv.1
   have hpx:∀ t3,E9 s1 t3→PxR bx items p s t3:=fun t3 h3=>h.more (hc1.sup.trans h3)
   conv=>whnf
   refine ⟨[2,5],[],[],.qui 0 (.qui 1 (.qui 4 (.two 2 5 (.qui 5 (.qui 3 (.qui 6 .done))) (.gen 2 (.qui 3 (.qui 6 .done)))))),by kernel_rfl,?_⟩
   obtain ⟨s2,hc2,hs2⟩:=hout3
   rcases hc2 with ⟨h0,rfl,rfl⟩ | ⟨h0,b2,g2,hb2,rfl,rfl,hg2⟩
   ·have hA0:A=[]:=C9M h0
    have hnet:A4b p.us (T3 (C0 A))=0:=by
     have:T3 (C0 A)=[]:=C9M (by omega)
     rw [this];rfl
    rw [hnet] at hB;conv=>whnf
    constructor
    all_goals conv=>whnf
    all_goals refine B6 (B2i _) ?_
    all_goals conv=>whnf
    all_goals refine ⟨_,A3H (C1k bx _),?_⟩
    all_goals conv=>whnf
    all_goals refine B7 (fun h1=>?_) (fun h1=>?_)<;>rw [h1]<;>simp only [C9n,C9m] at h1
    all_goals first
     | (rw [if_pos h1] at hB
        conv=>whnf
        exact ⟨.inr ⟨hB,rfl⟩,hc1.sup.trans hs2⟩)
     | (rw [if_neg h1] at hB
        obtain ⟨dv,gv,fx,hx,hx0,_,_⟩:=(hpx _ hs2).at
        conv=>whnf
        refine ⟨[6],[],[0,1,2,3,4,5,6,7,8,9,10],by kernel_rfl,?_⟩;conv=>whnf
        refine K9 hx hx0 ?_
        refine fin _ hs2 _ (fun v hv=>?_)
        subst hv;conv=>whnf
        exact ⟨.inl (by rw [hB];rfl),E9.refl _⟩)
   ·have hb2t:=hs2 b2 _ (A0 ..)
    have hC:=B4K b2 (C0 A) (by omega) t2 ⟨g2,by rw [hb2t,hSl],fun k hk=>hg2 k (by omega)⟩
    rw [hSl] at hC
    have hs3:∀ y,E9 s1 (upd t2 b2 y):=fun y=>hsup2.over hb2
    have hN:=fun t3 (h3:E9 s1 t3) (e3:t3=upd t2 b2 (A3a (A4B (C0 A))))=>C1l bx items p hu.ok (T3 (C0 A)) (by omega) hCm s t3 (hpx t3 h3) b2 (A4B (C0 A)).length (fun k=>eI (gI (A4B (C0 A)) k)) (by rw [A8C];omega) (by rw [e3,A0];rfl) (fun k hk=>by rw [B9l hk])
    conv=>whnf
    constructor
    all_goals conv=>whnf
    all_goals refine C0X hC ?_
    all_goals conv=>whnf
    all_goals refine ⟨_,A3H (hN _ (hs3 _) rfl),?_⟩
    all_goals conv=>whnf
    all_goals refine B7 (fun h1=>?_) (fun h1=>?_)<;>rw [h1]<;>simp only [C9n,C9m] at h1
    all_goals first
     | (rw [if_pos h1] at hB
        conv=>whnf
        exact ⟨.inr ⟨hB,rfl⟩,hc1.sup.trans (hs3 _)⟩)
     | (rw [if_neg h1] at hB
        obtain ⟨dv,gv,fx,hx,hx0,_,_⟩:=(hpx _ (hs3 (A3a (A4B (C0 A))))).at
        conv=>whnf
        refine ⟨[6],[],[0,1,2,3,4,5,6,7,8,9,10],by kernel_rfl,?_⟩;conv=>whnf
        refine K9 hx hx0 ?_
        refine fin _ (hs3 _) _ (fun v hv=>?_)
        subst hv;conv=>whnf
        exact ⟨.inl (by rw [hB];rfl),E9.refl _⟩)
  ·have hi':i<pr.parts.length:=by have:=C9j hd;omega
   have hq:=hsc (pr.parts.getD i default) (A7 hi')
   have hpk:(O0 items p.us pr).getD i default=H3 (pr.parts.getD i default).scope items p.us p.us.length:=F7 (fun x:A4r=>H3 x.scope items p.us p.us.length) pr.parts hi'
   have hls:=A8x items p.us pr hi'
   have hml:=A5y (pr.parts.getD i default).scope items p.us p.us.length
   conv=>whnf
   refine I8 ?_
   refine J0 (B7o bx items p (pr.parts.getD i default).scope hq.1 hq.2 hul hu.few hu.line s t' (h.more hsup)) ?_
   refine ROut.app (q:=r29) (hBi _ _ _) rfl rfl rfl rfl rfl (by simp only [hpk];rfl) (by show (i+1) * 24≤140737488355328;omega) hout (fun sv1' t2 hout2=>?_);conv=>whnf
   obtain ⟨s1,hc1,hin⟩:=hout2
   refine ROut.apps (q:=r3) (n:=(A4z items p.us pr i).length) (m:=(H3 (pr.parts.getD i default).scope items p.us p.us.length).length) O1 rfl rfl rfl rfl (B0s rfl _) (f:=fun k=>eI (gI (A4z items p.us pr (i+1)) k)) (fun j hj=>?_) (by show ((A4z items p.us pr i).length+(H3 (pr.parts.getD i default).scope items p.us p.us.length).length) * 8≤140737488355328;omega) (hin.congr fun k hk=>by rw [hls,O2 hk]) (fun sv2' t3 hout3=>?_)
   ·rw [hls]
    show eI (gI (H3 (pr.parts.getD i default).scope items p.us p.us.length) j)=eI (gI _ _)
    rw [B7a]
   conv=>whnf
   refine I9 ?_
   refine ⟨pr.parts.length - (i+1),by omega,i+1,sv1',sv2',by omega,rfl,by rw [C1 (by omega)],s1,hc1,?_⟩
   rw [hls,C9E,←hls];exact hout3
def A3C (items:List Ab.Item) (us:List A9) (pr:A8):List A9×Int:=if pr.kind=4 then Z9 items us pr else A0W items us pr
def A6n (items:List Ab.Item) (p:Z7) (pr:A8):Z7 :=
 if (A3C items p.us pr).2>0 then A1t ⟨(A3C items p.us pr).1,p.deals,p.groups⟩ pr (A3C items p.us pr).2 else p
theorem B4x {items:List Ab.Item} {us:List A9} (hu:A6m items us) {pr:A8} (hfit:K2 pr) (hright:I6 pr=true) (hk:pr.kind≠7):A3C items us pr=([],0)∨Off us (A3C items us pr).1 (A3C items us pr).2:=by
 have hok:=A4N hright
 unfold A3C
 split
 ·rename_i h4
  unfold Z9
  split
  ·exact .inl rfl
  ·right
   have hpl:(O0 items us pr).length=pr.parts.length:=C9o ..
   exact B0R (hok.bun h4).1 hu.ok hpl fun k hk=>by
    have hm:=A7 (l:=O0 items us pr) hk
    obtain ⟨q,hq,he⟩:=C9H.1 hm
    rw [show (O0 items us pr).getD k []=(O0 items us pr).getD k default from rfl,←he]
    exact A1s _ _ _
 ·rename_i h4
  unfold A0W
  split
  ·exact .inl rfl
  ·right
   split
   ·rename_i h3
    exact B0S (hok.buy h3) hu.ok (A1s _ _ _)
   ·rename_i h3
    exact B2f (hok.ask hfit (by have:=hok.kind;omega)) hu.ok (A1s _ _ _)
theorem B6F {items:List Ab.Item} {p:Z7} (hu:A6m items p.us) {pr:A8} (hfit:K2 pr) (hright:I6 pr=true) (hk:pr.kind≠7):∃ x,Off p.us (A6n items p pr).us x:=by
 unfold A6n
 split
 ·rename_i h0
  rcases B4x hu hfit hright hk with e | e
  ·rw [e] at h0;exact absurd h0 (by decide)
  ·exact ⟨_,e⟩
 ·exact ⟨0,Off.refl hu.ok⟩
theorem C2i (bx:Nat) (items:List Ab.Item) (p:Z7) (pr:A8) (hfit:K2 pr) (hright:I6 pr=true) (hk:pr.kind≠7) (hu:A6m items p.us) (hd:p.deals.length≤1000) (hg:p.groups.length≤1000) (s t:St) (h:PxR bx items p s t) :
  S P 183 [.optr 4 bx 0 0,B9 pr] t fun v t'=>v=.tuple []∧PxR bx items (A6n items p pr) s t':=by
 have key:∀ K:KK,(∀ v,v=.tuple [C5 (A3C items p.us pr).1,eI (A3C items p.us pr).2]→K v t)→U8 P (if pr.kind=4 then 233 else 232) [.optr 4 bx 0 0,B9 pr] t K:=fun K hK=>by
  unfold A3C at hK
  split
  ·rename_i h4
   rw [if_pos h4] at hK
   exact call (B5j bx items p pr hfit hright h4 hu s t h) (fun v t' hv=>by rw [hv.2];exact hK v hv.1)
  ·rename_i h4
   rw [if_neg h4] at hK
   exact call (B8f bx items p pr hfit hright ⟨h4,hk⟩ hu s t h) (fun v t' hv=>by rw [hv.2];exact hK v hv.1)
 obtain ⟨⟨dv,gv⟩,hbx,y,⟨f,rfl,hf⟩,hRD⟩:=h
 simp only at hf hRD
 have hA:A6n items p pr=if (A3C items p.us pr).2>0 then A1t ⟨(A3C items p.us pr).1,p.deals,p.groups⟩ pr (A3C items p.us pr).2 else p:=rfl
 have h0:PxR bx items p s t:=⟨(dv,gv),hbx,_,⟨f,rfl,hf⟩,hRD⟩
 refine F5 [3] Tryz.func183 ?_
 refine B7 (fun h4=>?_) (fun h4=>?_)<;>rw [h4]<;>simp only [D0Q,C9W] at h4
 ·rw [if_pos h4] at key;conv=>whnf
  refine key _ (fun v hv=>?_)
  subst hv;conv=>whnf
  refine B7 (fun h5=>?_) (fun h5=>?_)<;>rw [h5]<;>simp only [C9n,C9m] at h5
  ·rw [if_pos h5] at hA
   rw [hA];conv=>whnf
   refine stW hRD.at hf ?_
   refine call (B2J bx items ⟨(A3C items p.us pr).1,p.deals,p.groups⟩ pr _ hd hg s _ (PxR.fin hbx hRD _ (by rw [B4];rfl))) (fun v t' hv=>?_)
   obtain ⟨rfl,h6⟩:=hv
   conv=>whnf
   exact ⟨rfl,h6⟩
  ·rw [if_neg h5] at hA
   rw [hA];conv=>whnf
   exact ⟨rfl,h0⟩
 ·rw [if_neg h4] at key;conv=>whnf
  refine key _ (fun v hv=>?_)
  subst hv;conv=>whnf
  refine B7 (fun h5=>?_) (fun h5=>?_)<;>rw [h5]<;>simp only [C9n,C9m] at h5
  ·rw [if_pos h5] at hA
   rw [hA];conv=>whnf
   refine stW hRD.at hf ?_
   refine call (B2J bx items ⟨(A3C items p.us pr).1,p.deals,p.groups⟩ pr _ hd hg s _ (PxR.fin hbx hRD _ (by rw [B4];rfl))) (fun v t' hv=>?_)
   obtain ⟨rfl,h6⟩:=hv
   conv=>whnf
   exact ⟨rfl,h6⟩
  ·rw [if_neg h5] at hA
   rw [hA];conv=>whnf
   exact ⟨rfl,h0⟩
def A7N (p:Z7) (pr:A8) (net ship:Int):Int×Z7 :=
 if net<pr.least then (ship,p) else (ship - K0 ship pr.rate,if K0 ship pr.rate>0 then A1t p pr (K0 ship pr.rate) else p)
theorem B2X (bx:Nat) (items:List Ab.Item) (p:Z7) (pr:A8) (net ship:Int) (h0:0≤ship) (h1:ship≤10000000000000) (hd:p.deals.length≤1000) (hg:p.groups.length≤1000) (s t:St) (h:PxR bx items p s t) :
  S P 186 [.optr 4 bx 0 0,B9 pr,eI net,eI ship] t fun v t'=>v=eI (A7N p pr net ship).1∧PxR bx items (A7N p pr net ship).2 s t':=by
 have hS:A7N p pr net ship=if net<pr.least then (ship,p) else (ship - K0 ship pr.rate,if K0 ship pr.rate>0 then A1t p pr (K0 ship pr.rate) else p):=rfl
 have hb:=S4 ship pr.rate
 have w:IntKind.i64.wrap (ship - K0 ship pr.rate)=ship - K0 ship pr.rate:=A6 (by omega) (by omega)
 refine F5 [5] Tryz.func186 ?_
 refine B7 (fun h2=>?_) (fun h2=>?_)<;>rw [h2]<;>simp only [C9n,C9m] at h2
 ·rw [if_pos h2] at hS
  rw [hS];conv=>whnf
  exact ⟨rfl,h⟩
 rw [if_neg h2] at hS
 rw [hS];conv=>whnf
 refine J0 (B0a ship pr.rate 1 t) ?_
 refine B7 (fun h3=>?_) (fun h3=>?_)<;>rw [h3]<;>simp only [C9n,C9m] at h3
 ·conv=>whnf
  refine call (B2J bx items p pr _ hd hg s t h) (fun v t' hv=>?_)
  obtain ⟨rfl,h4⟩:=hv
  conv=>whnf
  have h3':K0 ship pr.rate>0:=h3
  rw [if_pos h3']
  refine ⟨?_,h4⟩
  show AV.int .i64 (IntKind.i64.wrap (ship - K0 ship pr.rate))=_
  rw [w]
 ·conv=>whnf
  have h3':¬ K0 ship pr.rate>0:=h3
  rw [if_neg h3']
  refine ⟨?_,h⟩
  show AV.int .i64 (IntKind.i64.wrap (ship - K0 ship pr.rate))=_
  rw [w]
def A2T (s:Ab.Ship) (units net:Int):Int:=if units=0∨(s.free>0∧net≥s.free) then 0 else s.fee
theorem C2o (s:Ab.Ship) (units net:Int) (t:St):S P 184 [C0s s,eI units,eI net] t fun v t'=>v=eI (A2T s units net)∧t'=t:=by
 refine F5 [3] Tryz.func184 ?_
 refine B7 (fun h1=>?_) (fun h1=>?_)<;>rw [h1]<;>simp only [D0Q,C9W] at h1
 ·conv=>whnf
  exact ⟨by unfold A2T;rw [if_pos (.inl h1)];rfl,rfl⟩
 conv=>whnf
 refine B7 (fun h2=>?_) (fun h2=>?_)<;>rw [h2]<;>simp only [C9n,C9m] at h2
 ·conv=>whnf
  refine B7 (fun h3=>?_) (fun h3=>?_)<;>rw [h3]<;>simp only [C9n,C9m] at h3
  ·conv=>whnf
   exact ⟨by unfold A2T;rw [if_pos (.inr ⟨h2,h3⟩)];rfl,rfl⟩
  ·conv=>whnf
   exact ⟨by unfold A2T;rw [if_neg (by rintro (e | ⟨_,e⟩)<;>contradiction)];rfl,rfl⟩
 ·conv=>whnf
  exact ⟨by unfold A2T;rw [if_neg (by rintro (e | ⟨e,_⟩)<;>contradiction)];rfl,rfl⟩
theorem B1i (pr:A8) (t:St):S P 180 [B9 pr] t fun v t'=>v=.bool (pr.kind==7)∧t'=t:=by
 refine F5 [1] Tryz.func180 ?_
 exact ⟨rfl,rfl⟩
theorem B7u (pr:A8) (t:St):S P 182 [B9 pr,.fptr (.fn (.func 180) [] []) 0] t fun v t'=>v=.bool (!(pr.kind==7))∧t'=t:=by
 refine F5 [2] Tryz.func182 ?_
 refine J0 (B1i pr t) ?_
 exact ⟨rfl,rfl⟩
theorem B1v {R R':St→St→Prop} (hR:G4 R) (hm:∀ s t t',R s t→E9 t t'→R s t') (hR':G4 R') {f:FuncId} {args:List AV} {w:AV} {s t0 t:St} {q:Nat} {fl:Bool} {es:List QE} (h:R s t0) (hq:T8 t0 q fl es t)
  (hS:∀ u,R u t→S P f args t fun v t'=>v=w∧R' u t'):S P f args t fun v t'=>v=w∧∃ t0',R' s t0'∧T8 t0' q fl es t':=by
 obtain ⟨bo,hF,hn⟩:=hq.foot
 obtain ⟨y1,hy1⟩:=hF.some (.inl rfl)
 have hq0:=hn q (.inl rfl)
 have hsq:s q=none:=(hR.sup h).none hq0
 cases bo with
 | none =>
  have h1:R (upd s q y1) t:=hm _ _ _ (hR.begin (y:=y1) h hq0) (fun c x hc=>by
   by_cases e:c=q
   ·subst e;rw [A0] at hc;rw [hy1];exact hc
   ·rw [A5 e] at hc;exact hq.sup c x hc)
  refine (hS _ h1).mono fun v t' hv=>⟨hv.1,del t' q,hR'.forget hv.2 hsq,?_⟩
  have hF':QF q none fl es t':=hF.frame fun c hc=>by
   rcases hc with rfl | hc
   ·rw [hR'.sup hv.2 c y1 (A0 ..),hy1]
   ·cases hc
  exact hF'.qst (fun c x hc=>by
   by_cases e:c=q
   ·subst e;rw [A1q] at hc;cases hc
   ·rw [A0s e] at hc;exact hc) (fun c hc=>by
    rcases hc with rfl | hc
    ·exact A1q ..
    ·cases hc)
 | some b =>
  obtain ⟨y2,hy2⟩:=hF.some (c:=b) (.inr rfl)
  have hb0:=hn b (.inr rfl)
  have hqb:q≠b:=by
   obtain ⟨sv,_,h3⟩:=hF.has
   rcases h3 with ⟨_,_,e⟩ | ⟨b',l,n,e,hne,_⟩
   ·cases e
   ·cases e;exact hne
  have hsb:s b=none:=(hR.sup h).none hb0
  have h1:R (upd (upd s b y2) q y1) t:=hm _ _ _ (hR.begin (y:=y1) (hR.begin (y:=y2) h hb0) (by rw [A5 hqb];exact hq0)) (fun c x hc=>by
   by_cases e:c=q
   ·subst e;rw [A0] at hc;rw [hy1];exact hc
   ·rw [A5 e] at hc
    by_cases e2:c=b
    ·subst e2;rw [A0] at hc;rw [hy2];exact hc
    ·rw [A5 e2] at hc;exact hq.sup c x hc)
  refine (hS _ h1).mono fun v t' hv=>⟨hv.1,del (del t' q) b,hR'.forget (hR'.forget hv.2 (by rw [A5 hqb];exact hsq)) hsb,?_⟩
  have hs':=hR'.sup hv.2
  have hF':QF q (some b) fl es t':=hF.frame fun c hc=>by
   rcases hc with rfl | hc
   ·rw [hs' c y1 (A0 ..),hy1]
   ·cases hc
    rw [hs' b y2 (by rw [A5 hqb.symm,A0]),hy2]
  exact hF'.qst (fun c x hc=>by
   by_cases e:c=b
   ·subst e;rw [A1q] at hc;cases hc
   ·rw [A0s e] at hc
    by_cases e2:c=q
    ·subst e2;rw [A1q] at hc;cases hc
    ·rw [A0s e2] at hc;exact hc) (fun c hc=>by
    rcases hc with rfl | hc
    ·rw [A0s hqb];exact A1q ..
    ·cases hc;exact A1q ..)
theorem B0u (l:List C9) (hl:l.length≤100000) (v:C9) (st:St) (b:Nat) (f:Nat→AV) (hb:st b=some ⟨9,1,l.length,f⟩) (hf:∀ k,k<l.length→f k=A7c l k) :
  S P 268 [.own 1 b 0 l.length,eS v] st fun r st'=>r=eI (idx (fun y:C9=>v.toList==y.toList) l)∧st'=st:=by
 refine F5 [] Tryz.func268 ?_
 refine ⟨[0,1,7,8],fun m vs st'=>∃ i:Nat,i≤l.length∧(∀ k,k<i→(v.toList==(l.getD k default).toList)=false)∧m=l.length - i∧vs=[.own 1 b 0 l.length,eS v,eI l.length,eI i]∧st'=st,?_,?_⟩
 ·conv=>whnf
  exact ⟨_,0,C9v _,fun k hk=>absurd hk (by omega),rfl,rfl,rfl⟩
 ·rintro m vs st' ⟨i,hi,hok,rfl,rfl,rfl⟩
  conv=>whnf
  cases h:decide ((i:Int)<(l.length:Int))
  ·have:=C9k h
   conv=>whnf
   refine ⟨?_,rfl⟩
   rw [L4 (p:=fun y:C9=>v.toList==y.toList) fun k hk=>hok k (by omega)];rfl
  ·have hi':i<l.length:=by have:=C9j h;omega
   conv=>whnf
   refine I8 ?_
   refine ldV hb rfl (by omega) (v:=eS (l.getD i default)) (by rw [show 0+(i:Int).toNat=i by omega];exact hf i hi') ?_;conv=>whnf
   cases hp:(v.toList==(l.getD i default).toList)
   ·conv=>whnf
    refine I9 ?_
    refine ⟨l.length - (i+1),by omega,i+1,by omega,fun k hk=>?_,rfl,by rw [C1 (by omega)],rfl⟩
    rcases C9T.1 hk with h' | h'
    ·exact hok k h'
    ·rw [h'];exact hp
   ·conv=>whnf
    refine ⟨?_,rfl⟩
    rw [V5 (p:=fun y:C9=>v.toList==y.toList) hi' hok hp];rfl
theorem B5Q (l:List C9) (hl:l.length≤100000) (v:C9) (st:St) (b:Nat) (f:Nat→AV) (hb:st b=some ⟨9,1,l.length,f⟩) (hf:∀ k,k<l.length→f k=A7c l k) :
  S P 231 [.own 1 b 0 l.length,eS v] st fun r st'=>r=.bool (inB l v)∧st'=st:=by
 refine F5 [] Tryz.func231 ?_
 refine J0 (B0u l hl v st b f hb hf) ?_
 refine ⟨?_,rfl⟩
 unfold inB
 rw [←W1];rfl
theorem B0t (v:C9) (st:St):S P 268 [.emp,eS v] st fun r st'=>r=eI (-1)∧st'=st:=by
 refine F5 [] Tryz.func268 ?_
 refine A8l [0,1,7,8] ?_;conv=>whnf
 intro I;conv=>whnf
 exact ⟨rfl,rfl⟩
theorem B5P (v:C9) (st:St):S P 231 [.emp,eS v] st fun r st'=>r=.bool false∧st'=st:=by
 refine F5 [] Tryz.func231 ?_
 refine J0 (B0t v st) ?_
 exact ⟨rfl,rfl⟩
theorem PxR.groups {bx:Nat} {items:List Ab.Item} {p:Z7} {s t:St} (h:PxR bx items p s t) (hg:p.groups.length≤1000):∃ dv gv f,t bx=some ⟨239,4,1,f⟩∧f 0=.agg [B0 4 H2 items,C5 p.us,dv,gv]∧(gv=.emp∨∃ b,gv=.own 1 b 0 p.groups.length) ∧
  ∀ (g:C9),S P 231 [gv,eS g] t fun r t'=>r=.bool (inB p.groups g)∧t'=t:=by
 obtain ⟨⟨dv,gv⟩,h⟩:=h
 obtain ⟨y,⟨f,rfl,hf⟩,hy⟩:=R8.at (A1N _ _ _ _) h
 obtain ⟨_,_,_,hd⟩:=h
 obtain ⟨s0,hc,hg0⟩:=hd
 refine ⟨dv,gv,f,hy,hf,hg0.head,fun g=>?_⟩
 obtain ⟨s1,hc1,hs1⟩:=hg0
 rcases hc1 with ⟨h0,h1,rfl⟩ | ⟨h0,b,g0,hb,h1,rfl,hgg⟩
 ·have:p.groups=[]:=C9M h0
  subst h1
  rw [this]
  exact B5P g t
 ·subst h1
  exact B5Q p.groups (by omega) g t b g0 (hs1 b _ (A0 ..)) hgg
def goB {σ : Type} (px : σ→Z7) (step : σ→A8→σ) (a : σ) (pr:A8) : σ:=if Q3 pr.group||!inB (px a).groups pr.group then step a pr else a
def A0P {σ : Type} (px : σ→Z7) (step : σ→A8→σ) (sm:A8→Bool) (l:List A8) (a : σ) (o:List Int) : σ:=(o.filter fun x=>sm (D2 l x)).foldl (fun a x=>goB px step a (D2 l x)) a
def Y8 (sm:A8→Bool) (l:List A8) (o:List Int) (i:Nat):List QE:=((List.range i).filter fun k=>sm (D2 l (gI o k))).map fun (k:Nat)=>(-(k:Int),gI o k)
theorem A5Y (sm:A8→Bool) (l:List A8) (o:List Int) (i:Nat):Y8 sm l o (i+1)=Y8 sm l o i++(if sm (D2 l (gI o i))=true then [(-(i:Int),gI o i)] else []):=by
 unfold Y8
 rw [D1m,D1g,C9P]
 congr 1
 by_cases h:sm (D2 l (gI o i))=true
 ·rw [if_pos h,D0o (p:=fun k=>sm (D2 l (gI o k))) h];rfl
 ·rw [if_neg h,D0w (p:=fun k=>sm (D2 l (gI o k))) h];rfl
theorem B2R (sm:A8→Bool) (l:List A8) (o:List Int) (i:Nat):(Y8 sm l o i).length≤i:=by
 unfold Y8
 rw [C9o]
 exact D0l (D1B ..) (by simp)
theorem A7B (sm:A8→Bool) (l:List A8) (o:List Int):∀ i,i≤o.length→(Y8 sm l o i).map (·.2)=(o.take i).filter fun x=>sm (D2 l x)
 | 0,_=>by simp [Y8]
 | i+1,h=>by
  rw [A5Y,C9P,A7B sm l o i (by omega),N5 (show i<o.length by omega),D1g]
  congr 1
  show List.map (fun x=>x.2) (if sm (D2 l (gI o i))=true then [(-(i:Int),gI o i)] else [])=List.filter (fun x=>sm (D2 l x)) [gI o i]
  by_cases hs:sm (D2 l (gI o i))=true
  ·rw [if_pos hs,D0o (p:=fun x=>sm (D2 l x)) hs];rfl
  ·rw [if_neg hs,D0w (p:=fun x=>sm (D2 l x)) hs];rfl
theorem A8n (sm:A8→Bool) (l:List A8) (o:List Int) (i:Nat):(Y8 sm l o i).Pairwise fun a b=>D0 b a=false:=by
 unfold Y8
 refine List.Pairwise.map _ (fun a b h=>?_) ((List.pairwise_lt_range (n:=i)).filter _)
 rw [P3]
 show ¬(-(b:Int) > -(a:Int)∨(-(b:Int) = -(a:Int)∧_))
 omega
theorem B1w {l:List A8} {codes:List C9} {o:List Int} (ho:A6l l codes o) {x:Int} (hx:x∈H5 l o):0≤x∧x.toNat<l.length:=by
 obtain ⟨e,he,rfl⟩:=C9H.1 hx
 have h:=A2i he
 exact V7 (ho.1.subset (A7 h.2))
theorem B4f {σ : Type} {N:Nat} (hN:A2P N) (bx:Nat) (items:List Ab.Item) (R : σ→St→St→Prop) (px : σ→Z7) (hR:∀ a,G4 (R a)) (hmore:∀ a s t t',R a s t→E9 t t'→R a s t') (hP:∀ a s t,R a s t→∃ s',PxR bx items (px a) s' t)
  (l:List A8) (codes:List C9) (hl:l.length≤60) (hc:codes.length≤9223372036854775807) (h20:(places l codes l.length).length≤N)
  (g:FuncId) (cs:List AV) (sm:A8→Bool) (hsome:∀ (pr:A8) (t:St),S P g (B9 pr::cs) t fun v t'=>v=.bool (sm pr)∧t'=t)
  (f:FuncId) (fs ds:List AV) (step : σ→A8→σ) (Inv : σ→Nat→Prop) (hgr:∀ a n,Inv a n→(px a).groups.length≤1000) (hle:∀ a n,Inv a (n+1)→Inv a n)
  (hdo:∀ (a : σ) (n:Nat) (pr:A8) (s t:St),pr∈l→sm pr=true→Inv a (n+1)→R a s t→S P f (fs++[B9 pr]++ds) t fun v t'=>v=.tuple []∧R (step a pr) s t')
  (hinv:∀ (a : σ) (n:Nat) (pr:A8),pr∈l→sm pr=true→Inv a (n+1)→Inv (step a pr) n) (a0 : σ) (hI:Inv a0 60) (s t:St) (h:R a0 s t) :
  S P 181 [.optr 4 bx 0 0,B0 15 B9 l,E3 codes,.fn (.func g) [] cs,.fn (.func f) fs ds] t fun v t'=>v=.tuple []∧∃ o,A6l l codes o∧R (A0P px step sm l a0 (H5 l o)) s t':=by
 refine F5 [] Tryz.func181 ?_
 refine call (A7D t) (fun v t1 hv=>?_)
 obtain ⟨q,rfl,hq⟩:=hv
 conv=>whnf
 refine call (B9K hN l codes hl hc h20 t1) (fun v t2 hv=>?_)
 obtain ⟨⟨o,ho,rfl⟩,rfl⟩:=hv
 have hmem:=fun {x:Int} (hx:x∈H5 l o)=>B1w ho hx
 have hrl:(H5 l o).length≤60:=by
  rw [C9o,A2h,ho.1.length_eq]
  have:=A0x l codes l.length;omega
 obtain ⟨r,hr⟩:∃ r:List Int,r=H5 l o:=⟨_,rfl⟩
 rw [←hr] at hrl
 have hmem':∀ x∈r,0≤x∧x.toNat<l.length:=fun x hx=>hmem (by rw [←hr];exact hx)
 have hInvle:∀ (a : σ) (n m:Nat),m≤n→Inv a n→Inv a m:=fun a n m hmn h=>by
  induction n with
  | zero=>have:m=0:=by omega
          subst this;exact h
  | succ n ih =>
   rcases D0D n m with h1 | h1
   ·have:m=n+1:=by omega
    subst this;exact h
   ·exact ih h1 (hle a n h)
 have hfin:∀ t',R (A0P px step sm l a0 r) s t'→∃ o,A6l l codes o∧R (A0P px step sm l a0 (H5 l o)) s t':=fun t' h=>⟨o,ho,by rw [←hr];exact h⟩
 have hv:B2 (H5 l o)=B2 r:=by rw [hr]
 rw [hv]
 clear hv
 conv=>whnf
 refine ⟨[0,1,3,4,10,19,20,21],fun m vs t'=>∃ i:Nat,i≤r.length∧m=r.length - i∧vs=[.optr 4 bx 0 0,B0 15 B9 l,.fn (.func g) [] cs,.fn (.func f) fs ds,.optr 1 q 0 0,B2 r,eI r.length,eI i]∧T8 t q true (Y8 sm l r i) t',?_,?_⟩
 ·conv=>whnf
  exact ⟨_,0,C9v _,rfl,rfl,hq⟩
 ·clear hq
  rintro m vs t' ⟨i,hi,rfl,rfl,hq⟩
  have hpl:=B2R sm l r i
  conv=>whnf
  cases hd:decide ((i:Int)<(r.length:Int))
  ·have:=C9k hd
   obtain rfl:i=r.length:=by omega
   have hsnd:=A7B sm l r r.length (C9q _)
   rw [C9u] at hsnd;conv=>whnf
   refine ⟨[0,1,4,10],fun m vs t'=>∃ (a : σ) (rest:List QE) (fl:Bool) (t0:St),m=rest.length∧vs=[.optr 4 bx 0 0,B0 15 B9 l,.fn (.func f) fs ds,.optr 1 q 0 0]∧(rest.map (·.2)).foldl (fun a x=>goB px step a (D2 l x)) a=A0P px step sm l a0 r∧(∀ e∈rest,(0≤e.2∧e.2.toNat<l.length)∧sm (D2 l e.2)=true)∧(rest.Pairwise fun a b=>D0 b a=false)∧Inv a rest.length∧R a s t0∧T8 t0 q fl rest t',?_,?_⟩
   ·conv=>whnf
    refine ⟨_,a0,Y8 sm l r r.length,true,t,rfl,rfl,by rw [hsnd];rfl,fun e he=>?_,A8n sm l r r.length,hInvle a0 60 _ (by omega) hI,h,hq⟩
    have:e.2∈(Y8 sm l r r.length).map (·.2):=D1X he
    rw [hsnd] at this
    obtain ⟨h1,h2⟩:=D0C.1 this
    exact ⟨hmem' _ h1,h2⟩
   ·clear hq
    rintro m vs t' ⟨a,rest,fl,t0,rfl,rfl,hF,hrm,hsort,hIa,hRa,hq⟩
    conv=>whnf
    refine J0 (A5E _ _ _ _ _ hq) ?_
    cases rest with
    | nil =>
     conv=>whnf
     refine ⟨rfl,hfin t' ?_⟩
     rw [←hF]
     exact hmore _ _ _ _ hRa hq.sup
    | cons x rest =>
     rw [D0F] at hsort
     have hx:=hrm x (C9C ..)
     have hlen0:decide (((x::rest).length:Int)>0)=true:=D0r (by rw [C9G];omega)
     rw [hlen0];conv=>whnf
     refine call (A5F _ _ _ _ _ _ hq hsort.1) (fun v t2 hv=>?_)
     obtain ⟨rfl,hq2⟩:=hv
     have hpr:D2 l x.2∈l:=A7 hx.1.2
     have hgl:=hgr a _ hIa
     obtain ⟨s',hpx⟩:=hP a s t2 (hmore _ _ _ _ hRa hq2.sup)
     obtain ⟨dv,gv,fx,hbx,hfx,hgv,hcont⟩:=hpx.groups hgl
     conv=>whnf
     -- what is behind the round
     have hgo:goB px step a (D2 l x.2)=if Q3 (D2 l x.2).group||!inB (px a).groups (D2 l x.2).group then step a (D2 l x.2) else a:=rfl
     have hF2:(rest.map (·.2)).foldl (fun a x=>goB px step a (D2 l x)) (goB px step a (D2 l x.2))=A0P px step sm l a0 r:=by rw [←hF];rfl
     have round:∀ (b : σ) (t3:St),b=goB px step a (D2 l x.2)→Inv b rest.length→(∃ t0',R b s t0'∧T8 t0' q false rest t3)→∃ m',m'<rest.length+1∧∃ (a : σ) (rest_1:List QE) (fl:Bool) (t0:St),m'=rest_1.length∧[AV.optr 4 bx 0 0,B0 15 B9 l,.fn (.func f) fs ds,.optr 1 q 0 0]=[AV.optr 4 bx 0 0,B0 15 B9 l,.fn (.func f) fs ds,.optr 1 q 0 0]∧(rest_1.map (·.2)).foldl (fun a x=>goB px step a (D2 l x)) a=A0P px step sm l a0 r∧(∀ e∈rest_1,(0≤e.2∧e.2.toNat<l.length)∧sm (D2 l e.2)=true)∧(rest_1.Pairwise fun a b=>D0 b a=false)∧Inv a rest_1.length∧R a s t0∧T8 t0 q fl rest_1 t3 :=
      fun b t3 hb hib ⟨t0',h1,h2⟩=>⟨rest.length,D1Z _,b,rest,false,t0',rfl,rfl,by rw [hb];exact hF2,fun e he=>hrm e (C9x _ he),hsort.2,hib,h1,h2⟩
     -- the call itself
     have doit:∀ K:KK,(∀ t3,(∃ t0',R (step a (D2 l x.2)) s t0'∧T8 t0' q false rest t3)→K (.tuple []) t3)→U8 P f (fs++[B9 (D2 l x.2)]++ds) t2 K:=fun K hK=>by
      refine call (B1v (hR a) (hmore a) (hR _) hRa hq2 (fun u hu=>hdo a rest.length (D2 l x.2) u t2 hpr hx.2 (by simpa using hIa) hu)) (fun v t3 hv=>?_)
      rw [hv.1];exact hK t3 hv.2
     refine ⟨[],[],[0,1,2,3,4,5,6,7,8,9,10,11,12,13,14,15,16,17,18],by kernel_rfl,?_⟩;conv=>whnf
     refine I8 ?_
     have hnil:(ByteArray.toList (l.getD x.2.toNat default).group==ByteArray.toList ⟨#[]⟩)=Q3 (D2 l x.2).group:=rfl
     have hyes:(Q3 (D2 l x.2).group||!inB (px a).groups (D2 l x.2).group)=true→∀ K:KK,(∀ t3,(∃ (b : σ),b=goB px step a (D2 l x.2)∧Inv b rest.length∧∃ t0',R b s t0'∧T8 t0' q false rest t3)→K (.tuple []) t3)→U8 P f (fs++[B9 (D2 l x.2)]++ds) t2 K:=fun hy K hK =>
      doit K fun t3 h3=>hK t3 ⟨_,by rw [hgo,if_pos hy],hinv a _ _ hpr hx.2 (by simpa using hIa),h3⟩
     rw [hnil]
     cases hg:Q3 (D2 l x.2).group with
     | true =>
      conv=>whnf
      refine I8 ?_
      rw [A1L,A1L]
      refine hyes (by rw [hg];rfl) _ (fun t3 h3=>?_);conv=>whnf
      refine I9 ?_
      obtain ⟨b,h4,h5,h6⟩:=h3
      exact round b t3 h4 h5 h6
     | false =>
      rcases hgv with rfl | ⟨bg,rfl⟩
      all_goals
       conv=>whnf
       refine K9 hbx hfx ?_
       refine I8 ?_
       refine cqW (hcont (D2 l x.2).group) ?_
       cases hi:inB (px a).groups (D2 l x.2).group with
       | false =>
        conv=>whnf
        refine I8 ?_
        rw [A1L,A1L]
        refine hyes (by rw [hi];simp) _ (fun t3 h3=>?_);conv=>whnf
        refine I9 ?_
        obtain ⟨b,h4,h5,h6⟩:=h3
        exact round b t3 h4 h5 h6
       | true =>
        conv=>whnf
        refine I9 ?_
        refine round a t2 (by rw [hgo,if_neg (by rw [hg,hi];simp)]) (hle a _ (by simpa using hIa)) ⟨t0,hRa,hq2⟩
  ·have hi':i<r.length:=by have:=C9j hd;omega
   have hm:=hmem' _ (A7 hi')
   have es:=A5Y sm l r i
   conv=>whnf
   refine I8 ?_
   refine ⟨rfl,⟨by show 0≤gI r i;exact hm.1,by show gI r i<(l.length:Int);have h1:=hm.1;have h2:=hm.2;show gI r i<_;have:(gI r i).toNat<l.length:=h2;have:0≤gI r i:=h1;omega⟩,?_⟩;conv=>whnf
   refine J0 (hsome (D2 l (gI r i)) t') ?_
   refine B7 (fun h3=>?_) (fun h3=>?_)<;>rw [h3]
   ·rw [if_pos h3] at es
    have w:IntKind.i64.wrap (0 - (i:Int)) = -(i:Int):=by rw [show 0 - (i:Int) = -(i:Int) by omega];exact A6 (by omega) (by omega)
    conv=>whnf
    rw [w]
    refine call (A4O t q _ (-(i:Int)) (gI r i) _ hq (by omega)) (fun v t2 hv=>?_)
    obtain ⟨rfl,hq'⟩:=hv
    conv=>whnf
    refine I9 ?_
    exact ⟨r.length - (i+1),by omega,i+1,by omega,rfl,by rw [C1 (by omega)],by rw [es];exact hq'⟩
   ·have h3':¬ sm (D2 l (gI r i))=true:=by rw [h3];simp
    rw [if_neg h3',D1R] at es;conv=>whnf
    refine I9 ?_
    exact ⟨r.length - (i+1),by omega,i+1,by omega,rfl,by rw [C1 (by omega)],by rw [es];exact hq⟩
def F8 (r:D4) (codes:List C9) (l:List E6):Int :=
 if J4 r=false then 10 else if U0 codes=false then 2 else S1 (known r.items) l
theorem B7G (r:D4) (codes:List C9) (l:List E6) (hf:R3 r) (hc:codes.length≤Big) (hi:r.items.length≤9223372036854775807) (st:St) :
  S P 178 [M0 r,E3 codes,B0 3 M2 l] st fun v st'=>v=eI (F8 r codes l)∧st'=st:=by
 refine F5 [3] Tryz.func178 ?_
 refine J0 (B0e r hf st) ?_
 have hP:F8 r codes l=if J4 r=false then 10 else if U0 codes=false then 2 else S1 (known r.items) l:=rfl
 cases h1:J4 r
 ·rw [if_pos h1] at hP;conv=>whnf
  exact ⟨by rw [hP];rfl,rfl⟩
 ·rw [if_neg (by rw [h1];simp)] at hP;conv=>whnf
  refine J0 (B3B codes hc st) ?_
  cases h2:U0 codes
  ·rw [if_pos h2] at hP;conv=>whnf
   exact ⟨by rw [hP];rfl,rfl⟩
  ·rw [if_neg (by rw [h2];simp)] at hP;conv=>whnf
   refine J0 (B8N r.items l hi st) ?_
   exact ⟨by rw [hP];rfl,rfl⟩
abbrev A2p (l:List E6):List A9:=D9 l l.length
structure A4q (items:List Ab.Item) (l:List E6):Prop where
 len:l.length≤1000
 line:∀ x∈l,lineC x=true
 known:∀ x∈l,known items x.sku=true
 units:O6 l≤100000
 gross:M8 l≤10000000000000
theorem B9x {items:List Ab.Item} {l:List E6} (h:S1 (known items) l=0):A4q items l:=by
 unfold S1 at h
 split at h
 ·cases h
 ·rename_i hl
  split at h
  ·rename_i x hx
   split at h<;>cases h
  ·rename_i hf
   have hall:∀ x∈l,M5 (Go.Proofs.YtaapofnkmpiknaaGreat.known items) x=false:=fun x hx=>D0R.2 (D1N.1 hf x hx)
   have hb:∀ x∈l,Go.Proofs.YtaapofnkmpiknaaGreat.known items x.sku=true∧lineC x=true:=fun x hx=>by
    have:=hall x hx
    unfold M5 at this
    simpa using this
   split at h
   ·cases h
   ·rename_i hg
    simp only [D0A,C9n,not_or] at hg
    exact ⟨by omega,fun x hx=>(hb x hx).2,fun x hx=>(hb x hx).1,by omega,by omega⟩
theorem A4q.may {items:List Ab.Item} {l:List E6} (h:A4q items l):(S1 (fun _=>true) l==0)=true:=by
 have:S1 (fun _=>true) l=0:=by
  unfold S1
  rw [if_neg (by have:=h.len;omega)]
  have hf:l.find? (M5 fun _=>true)=none:=D1N.2 fun x hx=>by
   unfold M5;rw [h.line x hx];simp
  rw [hf]
  simp only
  rw [if_neg]
  have:=h.units
  have:=h.gross
  simp only [D0A,C9n,not_or]
  omega
 rw [this];rfl
theorem A0Y (l:List E6) (hl:∀ x∈l,lineC x=true):∀ k,k≤l.length→((D9 l k).length:Int)=O6 (l.take k)∧A3 (C6 (D9 l k))=M8 (l.take k)∧(∀ u∈D9 l k,0≤u.net∧0≤u.line∧u.line.toNat<k∧u.opn=true)
 | 0,_=>⟨rfl,rfl,fun u hu=>by simp [D9] at hu⟩
 | k+1,h=>by
  obtain ⟨h1,h2,h3⟩:=A0Y l hl k (by omega)
  have hx:=(A0g _).1 (hl _ (A7 (show k<l.length by omega)))
  have eN:O6 (l.take (k+1))=O6 (l.take k)+(l.getD k default).qty:=K3 (by omega) _ _
  have eG:M8 (l.take (k+1))=M8 (l.take k)+(l.getD k default).qty * (l.getD k default).price:=K3 (by omega) _ _
  have hup:D9 l (k+1)=D9 l k++List.replicate (l.getD k default).qty.toNat (lnU l k):=rfl
  have hsr:∀ (n:Nat) (c:Int),A3 (List.replicate n c)=n * c:=fun n c=>by
   induction n with
   | zero=>simp [A3]
   | succ n ih=>rw [List.replicate_succ,F6,ih,show ((n+1:Nat):Int)=(n:Int)+1 by omega,D1t,Int.one_mul];omega
  refine ⟨?_,?_,fun u hu=>?_⟩
  ·rw [hup,C9E,D0i,eN,←h1];omega
  ·unfold C6 at h2 ⊢
   rw [hup,C9P,D1,h2,List.map_replicate,hsr,eG]
   show _+((l.getD k default).qty.toNat:Int) * (l.getD k default).price=_
   rw [D0N hx.1.1]
  ·rw [hup] at hu
   rcases D0V.1 hu with hu | hu
   ·have:=h3 u hu;exact ⟨this.1,this.2.1,by omega,this.2.2.2⟩
   ·rw [List.eq_of_mem_replicate hu]
    refine ⟨hx.2.1,?_,?_,rfl⟩
    ·show (0:Int)≤(k:Int);omega
    ·show ((k:Int)).toNat<k+1;omega
theorem B4w {items:List Ab.Item} {l:List E6} (h:A4q items l):A6m (C2 items l) (A2p l):=by
 obtain ⟨h1,h2,h3⟩:=A0Y l h.line l.length (C9q _)
 rw [C9u] at h1 h2
 have hN:=h.units
 have hG:=h.gross
 have hlen:(C2 items l).length=l.length:=C9o ..
 exact ⟨⟨by show (D9 l l.length).length≤100000;omega,fun u hu=>(h3 u hu).1,by show A3 (C6 (D9 l l.length))≤_;omega⟩,by rw [hlen];have:=h.len;omega,fun u hu=>⟨(h3 u hu).2.1,by rw [hlen];exact (h3 u hu).2.2.1⟩⟩
def C6o (bn n:Nat) (net ship:Int) (y:H1):Prop:=∃ f,y=⟨170,4,1,f⟩∧f 0=.agg [.own 1 bn 0 n,eI net,eI ship,.emp]
def R2 (bx bp bn n:Nat) (items:List Ab.Item) (net:Int) (a:Z7×Int):St→St→Prop:=R8 bp (C6o bn n net a.2) (PxR bx items a.1)
theorem B6J (bx bp bn n:Nat) (items:List Ab.Item) (net:Int) (a:Z7×Int):G4 (R2 bx bp bn n items net a):=Z8 (A1O _ _ _)
theorem R2.more {bx bp bn n:Nat} {items:List Ab.Item} {net:Int} {a:Z7×Int} {s t t':St} (h:R2 bx bp bn n items net a s t) (hs:E9 t t'):R2 bx bp bn n items net a s t':=by
 obtain ⟨h1,y,h2,h3⟩:=h
 exact ⟨h1,y,h2,h3.more hs⟩
def X8 (net:Int) (a:Z7×Int) (pr:A8):Z7×Int:=((A7N a.1 pr net a.2).2,(A7N a.1 pr net a.2).1)
theorem A7O (bx bp bn n:Nat) (items:List Ab.Item) (net:Int) (a:Z7×Int) (pr:A8) (h0:0≤a.2) (h1:a.2≤10000000000000) (hd:a.1.deals.length≤1000) (hg:a.1.groups.length≤1000) (s t:St) (h:R2 bx bp bn n items net a s t) :
  S P 185 [B9 pr,.fptr (.optr 4 bx 0 0) 0,.optr 4 bp 0 0] t fun v t'=>v=.tuple []∧R2 bx bp bn n items net (X8 net a pr) s t':=by
 obtain ⟨hbp,y,⟨f,rfl,hf⟩,hP⟩:=h
 have hat:t bp=some ⟨170,4,1,f⟩:=(A1O _ _ _).sup hP bp _ (A0 ..)
 refine F5 [3] Tryz.func185 ?_
 refine K9 hat hf ?_
 refine K9 hat hf ?_
 refine call (B2X bx items a.1 pr net a.2 h0 h1 hd hg _ t hP) (fun v t2 hv=>?_)
 obtain ⟨rfl,hP2⟩:=hv
 have hat2:t2 bp=some ⟨170,4,1,f⟩:=(A1O _ _ _).sup hP2 bp _ (A0 ..)
 conv=>whnf
 refine stW hat2 hf ?_
 refine ⟨rfl,?_⟩
 exact R8.set (A1O _ _ _) (Q:=fun y=>y=⟨170,4,1,f⟩) ⟨hbp,_,rfl,hP2⟩ ⟨_,rfl,by rw [B4];rfl⟩
def E1 (us:List A9) (j:Nat):Int:=A3 ((us.filter fun u=>u.line.toNat==j).map A9.net)
def X5 (n:Nat) (us:List A9):List Int:=(List.range n).map (E1 us)
theorem U2 {us:List A9} {k:Nat} (hk:k<us.length) (j:Nat):E1 (us.take (k+1)) j=if (gU us k).line.toNat=j then E1 (us.take k) j+(gU us k).net else E1 (us.take k) j:=by
 unfold E1
 rw [N5 hk,D1g,C9P,D1]
 by_cases h:(gU us k).line.toNat=j
 ·rw [if_pos h,D0o (by show ((gU us k).line.toNat==j)=true;rw [h];simp)]
  simp [A3]
 ·rw [if_neg h,D0w (by show ¬((gU us k).line.toNat==j)=true;simpa using h)]
  simp [A3]
theorem A1d {us:List A9} (h:C4 us) (k j:Nat):0≤E1 (us.take k) j∧E1 (us.take k) j≤A3 (C6 us):=by
 have hsub:((us.take k).filter fun u=>u.line.toNat==j).Sublist us:=D0X.trans (List.take_sublist _ _)
 have hgen:∀ {a b:List A9},a.Sublist b→(∀ u∈b,0≤u.net)→0≤A3 (a.map A9.net)∧A3 (a.map A9.net)≤A3 (b.map A9.net):=fun {a b} hs=>by
  induction hs with
  | slnil=>intro _;exact ⟨C9R _,C9R _⟩
  | cons x _ ih =>
   intro hb
   have h1:=ih fun u hu=>hb u (C9x _ hu)
   have h2:=hb x (C9C ..)
   rw [D0j,F6];omega
  | cons_cons x _ ih =>
   intro hb
   have h1:=ih fun u hu=>hb u (C9x _ hu)
   have h2:=hb x (C9C ..)
   rw [D0j,D0j,F6,F6];omega
 exact hgen hsub h.pos
def W4 (pr:A8):Bool:=!(pr.kind==7)
def A1Z (pr:A8):Bool:=pr.kind==7
def p1B (r:D4) (l:List E6) (o:List Int):Z7:=A0P (fun p=>p) (A6n (C2 r.items l)) W4 r.promos ⟨A2p l,[],[]⟩ o
def A0L (p:Z7):Int:=A3 (C6 p.us)
def p2B (r:D4) (l:List E6) (p1:Z7) (o:List Int):Z7×Int:=A0P (fun a=>a.1) (X8 (A0L p1)) A1Z r.promos (p1,A2T r.ship (A2p l).length (A0L p1)) o
def Q9 (r:D4) (l:List E6) (o1 o2:List Int):A3N:=⟨X5 l.length (p1B r l o1).us,A0L (p1B r l o1),(p2B r l (p1B r l o1) o2).2,(p2B r l (p1B r l o1) o2).1.deals⟩
theorem B4N {σ : Type} {px : σ→Z7} {step : σ→A8→σ} {sm:A8→Bool} {l:List A8} {Inv : σ→Nat→Prop} (hle:∀ a n,Inv a (n+1)→Inv a n) (hinv:∀ (a : σ) (n:Nat) (pr:A8),pr∈l→sm pr=true→Inv a (n+1)→Inv (step a pr) n) :
  ∀ (o:List Int) (a : σ) (n:Nat),(∀ x∈o,x.toNat<l.length)→Inv a (n+o.length)→Inv (A0P px step sm l a o) n:=by
 intro o
 unfold A0P
 induction o with
 | nil=>intro a n _ h;exact h
 | cons x o ih =>
  intro a n hm h
  have hm':∀ y∈o,y.toNat<l.length:=fun y hy=>hm y (C9x _ hy)
  have hx:D2 l x∈l:=A7 (hm x (C9C ..))
  have h':Inv a ((n+o.length)+1):=by rw [C9G] at h;exact h
  by_cases hs:sm (D2 l x)=true
  ·rw [D0o (p:=fun x=>sm (D2 l x)) hs,D0E]
   refine ih _ _ hm' ?_
   unfold goB
   split
   ·exact hinv a _ _ hx hs h'
   ·exact hle _ _ h'
  ·rw [D0w (p:=fun x=>sm (D2 l x)) hs]
   exact ih _ _ hm' (hle _ _ h')
def B8Q (items:List Ab.Item) (us0:List A9) (p:Z7) (n:Nat):Prop:=A6m items p.us∧p.deals.length+n≤100∧p.groups.length+n≤100∧∃ x,Off us0 p.us x
def C0F (a:Z7×Int) (n:Nat):Prop:=a.1.deals.length+n≤200∧a.1.groups.length+n≤200∧0≤a.2∧a.2≤10000000000000
theorem A8J {items:List Ab.Item} {us0:List A9} {a:Z7} {n:Nat} {pr:A8} (hfit:K2 pr) (hright:I6 pr=true) (hk:W4 pr=true) (h:B8Q items us0 a (n+1)):B8Q items us0 (A6n items a pr) n:=by
 obtain ⟨h1,h2,h3,x,h4⟩:=h
 obtain ⟨y,h5⟩:=B6F h1 hfit hright (by simpa [W4] using hk)
 refine ⟨h1.off h5,?_,?_,x+y,h4.trans h5⟩
 ·unfold A6n;split
  ·simp only [A1t,C9E,C9G,D0B];omega
  ·omega
 ·unfold A6n;split
  ·simp only [A1t,C9E]
   split<;>simp<;>omega
  ·omega
theorem B4U {net:Int} {a:Z7×Int} {n:Nat} {pr:A8} (hright:I6 pr=true) (hk:A1Z pr=true) (h:C0F a (n+1)):C0F (X8 net a pr) n:=by
 obtain ⟨h1,h2,h3,h4⟩:=h
 have hk7:pr.kind=7:=by simpa [A1Z] using hk
 have hr:=(A4N hright).ship hk7
 have hb:=S4 a.2 pr.rate
 have hle:=A6E h3 (show 0≤pr.rate by omega) hr.2
 unfold X8 A7N
 split
 ·exact ⟨by show a.1.deals.length+n≤200;omega,by show a.1.groups.length+n≤200;omega,h3,h4⟩
 ·refine ⟨?_,?_,by show 0≤a.2 - K0 a.2 pr.rate;omega,by show a.2 - K0 a.2 pr.rate≤_;omega⟩
  ·show (if K0 a.2 pr.rate>0 then A1t a.1 pr (K0 a.2 pr.rate) else a.1).deals.length+n≤200
   split
   ·simp only [A1t,C9E,C9G,D0B];omega
   ·omega
  ·show (if K0 a.2 pr.rate>0 then A1t a.1 pr (K0 a.2 pr.rate) else a.1).groups.length+n≤200
   split
   ·simp only [A1t,C9E]
    split<;>simp<;>omega
   ·omega
theorem PxR.deals' {bx:Nat} {items:List Ab.Item} {p:Z7} {s t:St} (h:PxR bx items p s t):∃ dv gv f,t bx=some ⟨239,4,1,f⟩∧f 0=.agg [B0 4 H2 items,C5 p.us,dv,gv] ∧
  ((p.deals=[]∧dv=.emp)∨∃ bd g,dv=.own 2 bd 0 p.deals.length∧s bd=none∧t bd=some ⟨221,2,p.deals.length,g⟩∧∀ k,k<p.deals.length→g k=A1U p.deals k):=by
 obtain ⟨⟨dv,gv⟩,h⟩:=h
 obtain ⟨y,⟨f,rfl,hf⟩,hy⟩:=R8.at (A1N _ _ _ _) h
 obtain ⟨hbx,_,_,hd⟩:=h
 obtain ⟨s0,hc,hg0⟩:=hd
 refine ⟨dv,gv,f,hy,hf,?_⟩
 rcases hc with ⟨h0,h1,rfl⟩ | ⟨h0,b,g0,hb,h1,rfl,hgg⟩
 ·exact .inl ⟨C9M h0,h1⟩
 ·refine .inr ⟨b,g0,h1,?_,(A6u _ _).sup hg0 b _ (A0 ..),hgg⟩
  by_cases e:b=bx
  ·subst e;rw [A0] at hb;cases hb
  ·rw [A5 e] at hb;exact hb
structure B8M (r:D4) (codes:List C9) (l:List E6):Prop where
 rules:J4 r=true
 codes:U0 codes=true
 lines:A4q r.items l
 few:r.promos.length≤60
 promo:∀ p∈r.promos,I6 p=true
 fee:0≤r.ship.fee∧r.ship.fee≤1000000000
theorem A9v {r:D4} {codes:List C9} {l:List E6} (h:F8 r codes l=0):B8M r codes l:=by
 unfold F8 at h
 split at h
 ·cases h
 ·rename_i h1
  split at h
  ·cases h
  ·rename_i h2
   have hr:J4 r=true:=by simpa using h1
   have hr':=hr
   unfold J4 at hr'
   simp only [C9l] at hr'
   obtain ⟨⟨⟨⟨_,hp⟩,_⟩,hs⟩,_⟩:=hr'
   unfold promosC at hp
   simp only [C9l,C9n] at hp
   have hs':R1 0 1000000000 r.ship.fee=true:=by
    unfold B4j at hs
    simp only [C9l] at hs
    exact hs.1
   refine ⟨hr,by simpa using h2,B9x h,by omega,fun p hm=>?_,G2.1 hs'⟩
   obtain ⟨k,hk,rfl⟩:=F2 hm
   have:=A1n.1 hp.2 k hk
   unfold W5 at this
   simp only [C9l] at this
   exact this.1
def C0L (r:D4) (codes:List C9) (l:List E6) (v:AV):Prop :=
 (F8 r codes l≠0∧v=.tuple [A1S ⟨[],0,0,[]⟩,eI (F8 r codes l)]) ∨
 (F8 r codes l=0∧∃ o1 o2,A6l r.promos codes o1∧A6l r.promos codes o2∧v=.tuple [A1S (Q9 r l (H5 r.promos o1) (H5 r.promos o2)),eI 0])
theorem price_S {N:Nat} (hN:A2P N) (r:D4) (codes:List C9) (l:List E6) (hf:R3 r) (hc:codes.length≤Big) (hi:r.items.length≤9223372036854775807) (h20:(places r.promos codes r.promos.length).length≤N) (st:St) :
  S P 122 [M0 r,E3 codes,B0 3 M2 l] st fun v st'=>C0L r codes l v∧st'=st:=by
 refine S.post (post:=fun v st'=>(F8 r codes l≠0∧v=.tuple [.agg [.emp,eI 0,eI 0,.emp],eI (F8 r codes l)]∧E9 st st') ∨
   (F8 r codes l=0∧∃ o1 o2 bn fn dv,A6l r.promos codes o1∧A6l r.promos codes o2∧v=.tuple [.agg [.own 1 bn 0 l.length,eI (Q9 r l (H5 r.promos o1) (H5 r.promos o2)).net,eI (Q9 r l (H5 r.promos o1) (H5 r.promos o2)).ship,dv],eI 0] ∧
    st bn=none∧st' bn=some ⟨2,1,l.length,fn⟩∧(∀ k,k<l.length→fn k=eI (gI (Q9 r l (H5 r.promos o1) (H5 r.promos o2)).nets k))∧E9 st st' ∧
    (((Q9 r l (H5 r.promos o1) (H5 r.promos o2)).deals=[]∧dv=.emp)∨∃ bd g,dv=.own 2 bd 0 (Q9 r l (H5 r.promos o1) (H5 r.promos o2)).deals.length∧st bd=none∧bd≠bn∧st' bd=some ⟨221,2,(Q9 r l (H5 r.promos o1) (H5 r.promos o2)).deals.length,g⟩∧∀ k,k<(Q9 r l (H5 r.promos o1) (H5 r.promos o2)).deals.length→g k=A1U (Q9 r l (H5 r.promos o1) (H5 r.promos o2)).deals k))) ?_
  (fun v st' hv=>by
   rcases hv with ⟨h1,rfl,hs⟩ | ⟨h1,o1,o2,bn,fn,dv,h2,h3,rfl,h4,h5,h6,hs,h7⟩
   ·refine ⟨_,st,⟨.inl ⟨h1,rfl⟩,rfl⟩,(hs.shift _).trans (A4.tuple (A4.cons (A4.agg ?_) (A4.keep _ _)) rfl)⟩
    exact A4.cons (I1 1 _) (A4.cons (A4.keep [eI 0] _) (A4.cons (A4.keep [eI 0] _) (I1 2 _)))
   ·refine ⟨_,st,⟨.inr ⟨h1,o1,o2,h2,h3,rfl⟩,rfl⟩,A4.tuple (A4.cons (A4.agg ?_) (A4.keep _ _)) rfl⟩
    have hnl:(Q9 r l (H5 r.promos o1) (H5 r.promos o2)).nets.length=l.length:=by show (X5 _ _).length=_;unfold X5;rw [C9o,D0h]
    generalize Q9 r l (H5 r.promos o1) (H5 r.promos o2)=X at *
    have e1:B2 X.nets=.arr 1 l.length (fun k=>eI (gI X.nets k)):=by unfold B2 B0;rw [hnl]
    refine A4.cons (t:=del st' bn) ?_ (A4.cons (A4.keep [eI X.net] _) (A4.cons (A4.keep [eI X.ship] _) ?_))
    ·rw [e1];exact K1 h5 rfl (C9q _) h6
    ·rcases h7 with ⟨h8,rfl⟩ | ⟨bd,g,rfl,h8,h9,h10,h11⟩
     ·rw [h8]
      exact ((E9.del hs h4).shift _).trans (I1 2 _)
     ·refine (K1 (b:=bd) (y:=⟨221,2,X.deals.length,g⟩) (f:=A1U X.deals) (by rw [A0s h9];exact h10) rfl (C9q _) h11).trans ?_
      exact (E9.del (E9.del hs h4) h8).shift _)
 refine F5 [3,9,10,13] Tryz.func122 ?_
 intro b6 hb6;conv=>whnf
 refine J0 (B7G r codes l hf hc hi _) ?_
 have h6s:∀ x:H1,E9 st (upd st b6 x):=fun x=>(E9.refl st).upd hb6
 cases h1:(F8 r codes l != 0)
 ·have hk0:F8 r codes l=0:=by simpa using h1
  have hck:=A9v hk0
  have hln:=hck.lines
  have hlen:=hln.len
  have hus0:=B4w hln
  obtain ⟨u1,u2,u3⟩:=A0Y l hln.line l.length (C9q _)
  have hitl:(C2 r.items l).length=l.length:=C9o ..
  have hmo:=fun {o:List Int} (ho:A6l r.promos codes o)=>(show (H5 r.promos o).length≤60 by
   rw [C9o,A2h,ho.1.length_eq]
   have:=A0x r.promos codes r.promos.length
   have:=hck.few;omega)
  conv=>whnf
  refine J0 (A5u r.items l hi hlen hln.known _) ?_
  refine J0 (C0j l hlen (fun x hx=>((A0g x).1 (hln.line x hx)).1) hus0.ok.len hln.may _) ?_
  generalize hs6:(upd st b6 _)=s6 at *
  have h6:s6 b6=some ⟨170,4,1,fun _=>H4 B7U.zero⟩:=by rw [←hs6];exact A0 ..
  have hBig:(Big:Nat)≤9223372036854775807:=by decide
  have hst6:E9 st s6:=by rw [←hs6];exact h6s _
  intro bx hbx;conv=>whnf
  have hP0:PxR bx (C2 r.items l) ⟨A2p l,[],[]⟩ s6 (upd s6 bx ⟨239,4,1,fun _=>.agg [B0 4 H2 (C2 r.items l),C5 (A2p l),.emp,.emp]⟩) :=
   PxR.mk' hbx rfl (ROut.start (ROut.start (E9.refl _) _ _ _) _ _ _)
  refine call (B4f (σ:=Z7) hN bx (C2 r.items l) (PxR bx (C2 r.items l)) (fun p=>p) (A1O bx (C2 r.items l)) (fun a s t t' h hs=>h.more hs) (fun a s t h=>⟨s,h⟩) r.promos codes hck.few (D0l hc hBig) h20 182 [.fptr (.fn (.func 180) [] []) 0] W4 (fun pr t=>B7u pr t)
   183 [.optr 4 bx 0 0] [] (A6n (C2 r.items l)) (B8Q (C2 r.items l) (A2p l)) (fun a n h=>by have:=h.2.2.1;omega) (fun a n h=>⟨h.1,by have:=h.2.1;omega,by have:=h.2.2.1;omega,h.2.2.2⟩)
   (fun a n pr s t hm hs hI h=>C2i bx (C2 r.items l) a pr (hf.fit pr hm) (hck.promo pr hm) (by simpa [W4] using hs) hI.1 (by have:=hI.2.1;omega) (by have:=hI.2.2.1;omega) s t h)
   (fun a n pr hm hs hI=>A8J (hf.fit pr hm) (hck.promo pr hm) hs hI) ⟨A2p l,[],[]⟩ ⟨hus0,by simp,by simp,0,Off.refl hus0.ok⟩ s6 _ hP0) (fun v t1 hv=>?_)
  obtain ⟨rfl,o1,ho1,hP1⟩:=hv
  have hp1:A0P (fun p=>p) (A6n (C2 r.items l)) W4 r.promos ⟨A2p l,[],[]⟩ (H5 r.promos o1)=p1B r l (H5 r.promos o1):=rfl
  have hI1:B8Q (C2 r.items l) (A2p l) (p1B r l (H5 r.promos o1)) 40:=B4N (fun a n h=>⟨h.1,by have:=h.2.1;omega,by have:=h.2.2.1;omega,h.2.2.2⟩) (fun a n pr hm hs hI=>A8J (hf.fit pr hm) (hck.promo pr hm) hs hI) (H5 r.promos o1) ⟨A2p l,[],[]⟩ 40 (fun x hx=>(B1w ho1 hx).2) ⟨hus0,by have:=hmo ho1;show 0+(40+(H5 r.promos o1).length)≤100;omega,by have:=hmo ho1;show 0+(40+(H5 r.promos o1).length)≤100;omega,0,Off.refl hus0.ok⟩
  rw [hp1] at hP1
  have hQ:∀ o2,Q9 r l (H5 r.promos o1) (H5 r.promos o2)=⟨X5 l.length (p1B r l (H5 r.promos o1)).us,A0L (p1B r l (H5 r.promos o1)),(p2B r l (p1B r l (H5 r.promos o1)) (H5 r.promos o2)).2,(p2B r l (p1B r l (H5 r.promos o1)) (H5 r.promos o2)).1.deals⟩:=fun _=>rfl
  generalize p1B r l (H5 r.promos o1)=p1 at *
  obtain ⟨hus1,hd1,hg1,xoff,hoff⟩:=hI1
  have hul1:p1.us.length=(A2p l).length:=hoff.len
  have hu1:=hus1.ok
  have hul:=hu1.len
  have hus:=hu1.sum
  have hnet0:=B8 hu1.nets0
  have hBP:=A1O bx (C2 r.items l) p1
  conv=>whnf
  refine mkO rfl rfl rfl (by show 8 * l.length≤_;omega) (by omega) (by rfl) (fun bn hbn=>?_);conv=>whnf
  intro bp hbp
  have hnb:bn≠bp:=fun e=>by subst e;rw [A0] at hbp;cases hbp
  have hbp1:t1 bp=none:=by rw [A5 hnb.symm] at hbp;exact hbp
  have hbn6:s6 bn=none:=(hBP.sup hP1).none hbn
  have hbp6:s6 bp=none:=(hBP.sup hP1).none hbp1
  conv=>whnf
  refine stW (A0 ..) rfl ?_
  -- the pricer,what the lines come to,what is made of it
  have hP2:=fun (Y Z:H1)=>hBP.begin (y:=Z) (hBP.begin (y:=Y) hP1 hbn) (by rw [A5 hnb.symm];exact hbp1)
  have hload:∀ {Y Z:H1} {t:St},PxR bx (C2 r.items l) p1 (upd (upd s6 bn Y) bp Z) t→t bn=some Y∧t bp=some Z:=fun h=>⟨hBP.sup h bn _ (by rw [A5 hnb,A0]),hBP.sup h bp _ (A0 ..)⟩
  have hwn:∀ {Y Z Y':H1} {t:St},PxR bx (C2 r.items l) p1 (upd (upd s6 bn Y) bp Z) t→PxR bx (C2 r.items l) p1 (upd (upd s6 bn Y') bp Z) (upd t bn Y'):=fun {Y Z Y' t} h=>by
   have:=hBP.write (b:=bn) (y':=Y') h (by rw [A5 hnb,A0])
   rw [L8 hnb.symm,I2] at this;exact this
  have hwp:∀ {Y Z Z':H1} {t:St},PxR bx (C2 r.items l) p1 (upd (upd s6 bn Y) bp Z) t→PxR bx (C2 r.items l) p1 (upd (upd s6 bn Y) bp Z') (upd t bp Z'):=fun {Y Z Z' t} h=>by
   have:=hBP.write (b:=bp) (y':=Z') h (A0 ..)
   rw [I2] at this;exact this
  have hP3:=hP2 ⟨2,1,l.length,fun _=>H4 r2.zero⟩ ⟨170,4,1,fun _=>H4 B7U.zero⟩
  have hP4:=hwp (Z':=⟨170,4,1,G8 (fun _=>H4 B7U.zero) 0 (.agg [.own 1 bn 0 l.length,eI 0,eI 0,.emp])⟩) hP3
  obtain ⟨dv1,gv1,fx1,hx1,hfx1,_,_⟩:=hP4.at
  refine K9 hx1 hfx1 ?_
  have hline:∀ k,k<p1.us.length→0≤(gU p1.us k).line∧(gU p1.us k).line.toNat<l.length:=fun k hk=>by
   have:=hus1.line _ (A7 hk)
   rw [hitl] at this;exact this
  refine ⟨[1,3,6,9,10,11,45,46,47],fun m vs t=>∃ (k:Nat) (fn fp:Nat→AV),k≤p1.us.length∧m=p1.us.length - k∧vs=[E3 codes,.fptr (M0 r) 0,.optr 4 b6 0 0,.fptr (.optr 4 bx 0 0) 0,.fptr (.fn (.func 180) [] []) 0,.optr 4 bp 0 0,C5 p1.us,eI p1.us.length,eI k] ∧
   PxR bx (C2 r.items l) p1 (upd (upd s6 bn ⟨2,1,l.length,fn⟩) bp ⟨170,4,1,fp⟩) t∧fp 0=.agg [.own 1 bn 0 l.length,eI (A3 ((C6 p1.us).take k)),eI 0,.emp]∧∀ j,j<l.length→fn j=eI (E1 (p1.us.take k) j),?_,?_⟩
  ·conv=>whnf
   exact ⟨_,0,_,_,C9v _,rfl,rfl,hP4,B4 ..,fun j _=>rfl⟩
  ·clear hP4 hP3 hx1 hfx1 hP2
   rintro m vs t ⟨k,fn,fp,hk,rfl,rfl,hP,hfp,hfn⟩
   obtain ⟨htn,htp⟩:=hload hP
   conv=>whnf
   cases hd:decide ((k:Int)<(p1.us.length:Int))
   ·have:=C9k hd
    obtain rfl:k=p1.us.length:=by omega
    rw [C9u] at hfn
    have htk:(C6 p1.us).take p1.us.length=C6 p1.us:=by rw [←C9o (f:=A9.net),C9u]
    rw [htk] at hfp;conv=>whnf
    obtain ⟨dv1,gv1,fx1,hx1,hfx1,_,_⟩:=hP.at
    refine ⟨[11],[],[0,1,2,3,4,5,6,7,8,9,10,11],by kernel_rfl,?_⟩;conv=>whnf
    refine K9 hx1 hfx1 ?_
    refine K9 htp hfp ?_
    refine cqW (C2o r.ship p1.us.length (A0L p1) t) ?_
    refine stW htp hfp ?_
    have hP5:=hwp (Z':=⟨170,4,1,G8 fp 0 (.agg [.own 1 bn 0 l.length,eI (A0L p1),eI (A2T r.ship p1.us.length (A0L p1)),.emp])⟩) hP
    have hfee:0≤A2T r.ship p1.us.length (A0L p1)∧A2T r.ship p1.us.length (A0L p1)≤10000000000000:=by
     have:=hck.fee
     unfold A2T;split<;>omega
    generalize hfe:A2T r.ship p1.us.length (A0L p1)=fee at *
    have hR2:R2 bx bp bn l.length (C2 r.items l) (A0L p1) (p1,fee) (upd s6 bn ⟨2,1,l.length,fn⟩) (upd t bp ⟨170,4,1,G8 fp 0 (.agg [.own 1 bn 0 l.length,eI (A0L p1),eI fee,.emp])⟩):=⟨by rw [A5 hnb.symm];exact hbp6,_,⟨_,rfl,B4 ..⟩,hP5⟩
    refine call (B4f (σ:=Z7×Int) hN bx (C2 r.items l) (R2 bx bp bn l.length (C2 r.items l) (A0L p1)) (fun a=>a.1) (B6J bx bp bn l.length (C2 r.items l) (A0L p1)) (fun a s t t' h hs=>h.more hs) (fun a s t h=>⟨_,h.2.choose_spec.2⟩) r.promos codes hck.few (D0l hc hBig) h20 180 [] A1Z (fun pr t=>B1i pr t)
     185 [] [.fptr (.optr 4 bx 0 0) 0,.optr 4 bp 0 0] (X8 (A0L p1)) C0F (fun a n h=>by have:=h.2.1;omega) (fun a n h=>⟨by have:=h.1;omega,by have:=h.2.1;omega,h.2.2⟩)
     (fun a n pr s t hm hs hI h=>A7O bx bp bn l.length (C2 r.items l) (A0L p1) a pr hI.2.2.1 hI.2.2.2 (by have:=hI.1;omega) (by have:=hI.2.1;omega) s t h)
     (fun a n pr hm hs hI=>B4U (hck.promo pr hm) hs hI) (p1,fee) ⟨by show p1.deals.length+60≤200;omega,by show p1.groups.length+60≤200;omega,hfee⟩ (upd s6 bn ⟨2,1,l.length,fn⟩) _ hR2) (fun v t2 hv=>?_)
    obtain ⟨rfl,o2,ho2,hR3⟩:=hv
    have hp2:A0P (fun a:Z7×Int=>a.1) (X8 (A0L p1)) A1Z r.promos (p1,fee) (H5 r.promos o2)=p2B r l p1 (H5 r.promos o2):=by
     unfold p2B;rw [←hfe,hul1]
    rw [hp2] at hR3
    have hQ2:=hQ o2
    generalize p2B r l p1 (H5 r.promos o2)=a2 at *
    obtain ⟨hbp7,y,⟨f7,rfl,hf7⟩,hP7⟩:=hR3
    have hBP7:=A1O bx (C2 r.items l) a2.1
    have h7p:t2 bp=some ⟨170,4,1,f7⟩:=hBP7.sup hP7 bp _ (A0 ..)
    have h7n:t2 bn=some ⟨2,1,l.length,fn⟩:=hBP7.sup hP7 bn _ (by rw [A5 hnb,A0])
    have h76:E9 s6 t2:=fun c x hc=>hBP7.sup hP7 c x (by
     have e1:c≠bp:=fun e=>by subst e;rw [hbp6] at hc;cases hc
     have e2:c≠bn:=fun e=>by subst e;rw [hbn6] at hc;cases hc
     rw [A5 e1,A5 e2];exact hc)
    have h6b:=h76 b6 _ h6
    have hb6p:b6≠bp:=fun e=>by subst e;rw [h6] at hbp6;cases hbp6
    have hb6n:b6≠bn:=fun e=>by subst e;rw [h6] at hbn6;cases hbn6
    have hstn:st bn=none:=hst6.none hbn6
    have hstp:st bp=none:=hst6.none hbp6
    obtain ⟨dv,gv,fx,hx2,hfx2,hdl⟩:=hP7.deals'
    have hS2:E9 st t2:=hst6.trans h76
    conv=>whnf
    refine ldV hx2 rfl (by omega) hfx2 ?_
    rcases hdl with ⟨hd0,rfl⟩ | ⟨bd,gd,rfl,hbd,hbt,hgd⟩
    ·conv=>whnf
     refine stW h7p hf7 ?_
     refine K9 (A0 ..) (B4 ..) ?_
     refine stW (by rw [A5 hb6p];exact h6b) rfl ?_
     refine K9 (A0 ..) (B4 ..) ?_
     refine .inr ⟨hk0,o1,o2,bn,fn,.emp,ho1,ho2,?_,hstn,?_,?_,((hS2.over hstp).over hb6),.inl ⟨?_,rfl⟩⟩
     ·rw [hQ2];rfl
     ·rw [A5 hb6n.symm,A5 hnb];exact h7n
     ·intro k hk
      rw [hQ2,hfn k hk]
      show eI _=eI (gI (X5 l.length p1.us) k)
      unfold X5
      rw [Q0 _ hk]
     ·rw [hQ2];exact hd0
    ·have hbdp:bd≠bp:=fun e=>by subst e;rw [A0] at hbd;cases hbd
     rw [A5 hbdp] at hbd
     have hbdn:bd≠bn:=fun e=>by subst e;rw [A0] at hbd;cases hbd
     rw [A5 hbdn] at hbd
     have hbd6:bd≠b6:=fun e=>by subst e;rw [h6] at hbd;cases hbd
     conv=>whnf
     refine stW h7p hf7 ?_
     refine K9 (A0 ..) (B4 ..) ?_
     refine stW (by rw [A5 hb6p];exact h6b) rfl ?_
     refine K9 (A0 ..) (B4 ..) ?_
     refine .inr ⟨hk0,o1,o2,bn,fn,.own 2 bd 0 a2.1.deals.length,ho1,ho2,?_,hstn,?_,?_,((hS2.over hstp).over hb6),.inr ⟨bd,gd,?_,hst6.none hbd,hbdn,?_,?_⟩⟩
     ·rw [hQ2];rfl
     ·rw [A5 hb6n.symm,A5 hnb];exact h7n
     ·intro k hk
      rw [hQ2,hfn k hk]
      show eI _=eI (gI (X5 l.length p1.us) k)
      unfold X5
      rw [Q0 _ hk]
     ·rw [hQ2]
     ·rw [A5 hbd6,A5 hbdp,hQ2];exact hbt
     ·rw [hQ2];exact hgd
   ·have hk':k<p1.us.length:=by have:=C9j hd;omega
    have hlk:=hline k hk'
    have hn0:0≤(gU p1.us k).net:=hu1.at0 k
    have hn1:(gU p1.us k).net≤10000000000000:=hu1.le (A7 hk')
    have e1:=J2 (l:=C6 p1.us) (i:=k) (by rw [C9o];exact hk')
    have e4:gI (C6 p1.us) k=(gU p1.us k).net:=F7 A9.net p1.us hk'
    have e2:=L6 hu1.nets0 (k+1)
    have e3:=B8 (l:=(C6 p1.us).take k) (fun x hx=>hu1.nets0 x (D0m _ _ hx))
    have hlb:=A1d hu1 k (gU p1.us k).line.toNat
    have hlb2:=A1d hu1 (k+1) (gU p1.us k).line.toNat
    have hln1:=U2 hk' (gU p1.us k).line.toNat
    rw [if_pos rfl] at hln1
    have hfl:fn (0+(gU p1.us k).line.toNat)=eI (E1 (p1.us.take k) (gU p1.us k).line.toNat):=by rw [C9y];exact hfn _ hlk.2
    have w1:IntKind.i64.wrap (E1 (p1.us.take k) (gU p1.us k).line.toNat+(gU p1.us k).net)=E1 (p1.us.take (k+1)) (gU p1.us k).line.toNat:=by rw [hln1];exact A6 (by omega) (by omega)
    have w2:IntKind.i64.wrap (A3 ((C6 p1.us).take k)+(gU p1.us k).net)=A3 ((C6 p1.us).take (k+1)):=by rw [e1,e4];exact A6 (by omega) (by omega)
    conv=>whnf
    refine I8 ?_
    refine ⟨[10],[],[0,1,2,3,4,5,6,7,8,9,10],by kernel_rfl,?_⟩;conv=>whnf
    refine K9 htp hfp ?_
    refine ⟨rfl,⟨by show 0≤(gU p1.us k).line;exact hlk.1,by show (gU p1.us k).line<(l.length:Int);have:=hlk.2;have:=hlk.1;omega⟩,?_⟩;conv=>whnf
    refine ldV htn rfl (by show 0+(gU p1.us k).line.toNat<_;have:=hlk.2;omega) hfl ?_;conv=>whnf
    refine ⟨rfl,⟨by show 0≤(gU p1.us k).line;exact hlk.1,by show (gU p1.us k).line<(l.length:Int);have:=hlk.2;have:=hlk.1;omega⟩,?_⟩;conv=>whnf
    refine stV htn rfl (by show 0+(gU p1.us k).line.toNat<_;have:=hlk.2;omega) hfl (by rfl) ?_
    have hP5:=hwn (Y':=⟨2,1,l.length,G8 fn (0+(gU p1.us k).line.toNat) (eI (E1 (p1.us.take (k+1)) (gU p1.us k).line.toNat))⟩) hP
    rw [←w1] at hP5
    obtain ⟨_,htp2⟩:=hload hP5
    conv=>whnf
    refine K9 htp2 hfp ?_
    refine stW htp2 hfp ?_
    refine I9 ?_
    refine ⟨p1.us.length - (k+1),by omega,k+1,_,_,by omega,rfl,by rw [C1 (by omega)],hwp hP5,?_,fun j hj=>?_⟩
    ·rw [B4,←w2];rfl
    ·show G8 fn (0+(gU p1.us k).line.toNat) _ j=_
     rw [C9y]
     rw [U2 hk' j]
     by_cases hj2:j=(gU p1.us k).line.toNat
     ·subst hj2
      rw [if_pos rfl,B4,w1,hln1]
     ·rw [J1 hj2,if_neg (fun e=>hj2 e.symm)];exact hfn j hj
 ·have hk0:F8 r codes l≠0:=by simpa using h1
  conv=>whnf
  refine stW (A0 ..) rfl ?_
  refine K9 (A0 ..) (B4 ..) ?_
  exact .inl ⟨hk0,rfl,(h6s _).over hb6⟩
end Go.Proofs.YtaapofnkmpiknaaGreat
namespace Go.Proofs.YtaapofnkmpiknaaGreat
open Go Go.Ab
def B0Y (t:Y6) (rate:Int):Int:=10000+(if t.incl=true then rate else 0)
def J6 (t:Y6) (x rate:Int):Int:=(N6 x rate (B0Y t rate) t.round).1
theorem B5w {q r den round x:Int} (h:q * den+r≤x * den) (h0:0≤r) (h1:r<den):q≤x∧K5 q r den round≤x:=by
 have hq:q≤x:=by
  rcases Int.lt_or_le x q with e | e
  ·have:(x+1) * den≤q * den:=D0L (by omega) (by omega)
   rw [D1t,Int.one_mul] at this;omega
  ·exact e
 refine ⟨hq,?_⟩
 by_cases e:q=x
 ·subst e
  have hr:r=0:=by omega
  subst hr
  unfold K5
  split
  ·omega
  ·split
   ·split<;>omega
   ·split
    ·rename_i h2;omega
    ·omega
 ·unfold K5
  split
  ·omega
  ·split<;>split<;>omega
theorem B5v {q r den round:Int} (h:0≤q):0≤K5 q r den round:=by
 unfold K5
 split
 ·omega
 ·split<;>split<;>omega
theorem B1S {x num den round:Int} (hx:0≤x) (hn:0≤num) (hd:num≤den) (h0:0<den):0≤(N6 x num den round).1∧(N6 x num den round).1≤x:=by
 have h1:0≤x * num:=D0x hx hn
 have h2:x * num≤x * den:=C9N hd hx
 have e1:=D0b (x * num) den
 have e2:=D0k (x * num) (show den≠0 by omega)
 have e3:=D0c (x * num) h0
 have e4:0≤x * num / den:=D0v h1 (by omega)
 have h3:=B5w (q:=x * num / den) (r:=x * num % den) (den:=den) (round:=round) (x:=x) (by rw [D1f (x * num / den) den];omega) e2 e3
 have h4:=B5v (q:=x * num / den) (r:=x * num % den) (den:=den) (round:=round) e4
 unfold N6
 split
 ·exact ⟨C9R _,hx⟩
 ·split
  ·exact ⟨C9R _,hx⟩
  ·split
   ·exact ⟨C9R _,hx⟩
   ·exact ⟨h4,h3.2⟩
theorem A0T {t:Y6} {x rate:Int} (hx:0≤x) (hr:0≤rate∧rate≤10000):0≤J6 t x rate∧J6 t x rate≤x:=by
 refine B1S hx hr.1 ?_ ?_
 ·unfold B0Y;split<;>omega
 ·unfold B0Y;split<;>omega
def A2A (l:List J9) (s:C9):Option J9:=l.find? fun z=>z.name.toList==s.toList
def F9 (z:J9) (c:C9):Int:=match z.rates.find? (fun x=>x.cat.toList==c.toList) with
 | some x=>x.rate
 | none=>z.rest
theorem A3m {z:J9} (h:Y3 z=true):(0≤z.rest∧z.rest≤10000)∧(0≤z.ship∧z.ship≤10000)∧z.rates.length≤40∧∀ x∈z.rates,0≤x.rate∧x.rate≤10000:=by
 unfold Y3 at h
 simp only [C9l,C9F,D0S,C9m,D0q] at h
 obtain ⟨⟨⟨⟨h1,h2⟩,h3⟩,h4⟩,h5,h6⟩:=h
 refine ⟨G2.1 h2,G2.1 h3,by omega,fun x hx=>?_⟩
 obtain ⟨k,hk,rfl⟩:=F2 hx
 have:=A1n.1 h5 k hk
 unfold A5Z at this
 simp only [C9F,D0S,D0q] at this
 exact G2.1 this.2
theorem B7V {z:J9} (h:Y3 z=true) (c:C9):0≤F9 z c∧F9 z c≤10000:=by
 obtain ⟨h1,h2,h3,h4⟩:=A3m h
 unfold F9
 split
 ·rename_i x hx;exact h4 x (D1E hx)
 ·exact h1
def A0h (t:Y6) (rates nets:List Int):List Int:=(List.range nets.length).map fun i=>J6 t (gI nets i) (gI rates i)
def A4L (rates:List Int) (i:Nat):List Nat:=(List.range rates.length).filter fun k=>gI rates k==gI rates i
def F1 (rates nets:List Int) (i:Nat):List Int:=(A4L rates i).map (gI nets)
def U3 (rates:List Int) (i:Nat):Nat:=((List.range i).filter fun k=>gI rates k==gI rates i).length
def U4 (t:Y6) (rates nets:List Int) (i:Nat):Int:=gI (C3 (J6 t (A3 (F1 rates nets i)) (gI rates i)) (F1 rates nets i)) (U3 rates i)
def G6 (t:Y6) (rates nets:List Int):List Int:=(List.range nets.length).map (U4 t rates nets)
def G7 (t:Y6) (rates nets:List Int):List Int:=if t.byOrder=true then G6 t rates nets else A0h t rates nets
structure A2L (nets:List Int):Prop where
 len:nets.length≤1000
 pos:∀ x∈nets,0≤x
 sum:A3 nets≤10000000000000
theorem B1N {a b:List Int} (hs:a.Sublist b) (hb:∀ x∈b,0≤x):A3 a≤A3 b:=by
 induction hs with
 | slnil=>exact C9R _
 | cons x _ ih =>
  have h1:=ih fun u hu=>hb u (C9x _ hu)
  have h2:=hb x (C9C ..)
  rw [F6];omega
 | cons_cons x _ ih =>
  have h1:=ih fun u hu=>hb u (C9x _ hu)
  rw [F6,F6];omega
theorem A4Q (l:List Int):(List.range l.length).map (gI l)=l:=by
 refine D2f (by rw [C9o,D0h]) fun i h1 h2=>?_
 rw [List.getElem_map,List.getElem_range];unfold gI;rw [C9i,C9p h2];rfl
theorem A2W {rates nets:List Int} (hn:A2L nets) (hr:rates.length=nets.length) (i:Nat):(F1 rates nets i).length≤1000∧(∀ x∈F1 rates nets i,0≤x)∧0≤A3 (F1 rates nets i)∧A3 (F1 rates nets i)≤10000000000000:=by
 have hsub:(F1 rates nets i).Sublist nets:=by
  have h1:(F1 rates nets i).Sublist ((List.range nets.length).map (gI nets)):=by
   unfold F1 A4L
   rw [hr]
   exact D0X.map _
  rw [A4Q] at h1;exact h1
 have hp:∀ x∈F1 rates nets i,0≤x:=fun x hx=>hn.pos x (hsub.subset hx)
 have h2:=hsub.length_le
 have h3:=hn.len
 have h4:=B1N hsub hn.pos
 have h5:=hn.sum
 exact ⟨by omega,hp,B8 hp,by omega⟩
theorem A2b {t:Y6} {rates nets:List Int} (hn:A2L nets) (hr:rates.length=nets.length) {i:Nat} (hq:0≤gI rates i∧gI rates i≤10000):M4 (J6 t (A3 (F1 rates nets i)) (gI rates i)) (F1 rates nets i):=by
 obtain ⟨h1,h2,h3,h4⟩:=A2W hn hr i
 have hm:=A0T (t:=t) h3 hq
 exact ⟨hm.1,by omega,by omega,h2,by omega,fun e=>by rw [e] at hm;rw [e];omega⟩
theorem B5q {n i:Nat} (hi:i<n):List.range n=List.range i++(i::(List.range (n - i - 1)).map (fun k=>i+1+k)):=by
 have h1:n=i+(1+(n - i - 1)):=by omega
 conv=>lhs;rw [h1]
 rw [List.range_add,show 1+(n - i - 1)=(n - i - 1)+1 by omega,List.range_succ_eq_map]
 simp only [D0j,D2c,D1p]
 congr 2
 refine D1d fun k _=>?_
 show i+(k+1)=i+1+k
 omega
theorem A7n {rates:List Int} {i:Nat} (hi:i<rates.length):(A4L rates i)[U3 rates i]?=some i:=by
 unfold U3 A4L
 rw [B5q hi,D1g,C9B (C9q _),Nat.sub_self,D0o (by simp)];rfl
theorem A7m {rates:List Int} {i:Nat} (hi:i<rates.length):U3 rates i<(A4L rates i).length:=by
 exact (C9t.1 (A7n hi)).1
theorem B1q {t:Y6} {rates nets:List Int} (hn:A2L nets) (hr:rates.length=nets.length) (hq:∀ x∈rates,0≤x∧x≤10000) {i:Nat} (hi:i<nets.length):0≤U4 t rates nets i∧U4 t rates nets i≤10000000000000:=by
 have hqi:=hq (gI rates i) (A7 (by omega))
 have hw:=A2b (t:=t) hn hr hqi
 obtain ⟨h1,h2,h3,h4⟩:=A2W hn hr i
 have hm:=A0T (t:=t) h3 hqi
 have hp:=A7m (rates:=rates) (i:=i) (by omega)
 have hml:(F1 rates nets i).length=(A4L rates i).length:=C9o ..
 obtain ⟨l1,l2,l3⟩:=P1 hw
 have hle:=A0v hw hm.2 (k:=U3 rates i) (by omega)
 have hg:gI (C3 (J6 t (A3 (F1 rates nets i)) (gI rates i)) (F1 rates nets i)) (U3 rates i)∈C3 (J6 t (A3 (F1 rates nets i)) (gI rates i)) (F1 rates nets i):=A7 (by omega)
 have h0:=l3 _ hg
 have hmem:gI (F1 rates nets i) (U3 rates i)∈F1 rates nets i:=A7 (by omega)
 have h6:=I7 h2 hmem
 unfold U4
 omega
theorem A4Z {t:Y6} {rates nets:List Int} (hn:A2L nets) (hr:rates.length=nets.length) (hq:∀ x∈rates,0≤x∧x≤10000):(G7 t rates nets).length=nets.length∧∀ x∈G7 t rates nets,0≤x∧x≤10000000000000:=by
 unfold G7
 split
 ·refine ⟨by unfold G6;rw [C9o,D0h],fun x hx=>?_⟩
  obtain ⟨i,hi,rfl⟩:=C9H.1 hx
  exact B1q hn hr hq (C9S.1 hi)
 ·refine ⟨by unfold A0h;rw [C9o,D0h],fun x hx=>?_⟩
  obtain ⟨i,hi,rfl⟩:=C9H.1 hx
  have hi:=C9S.1 hi
  have h1:=hn.pos _ (show gI nets i∈nets from A7 hi)
  have h2:=A0T (t:=t) h1 (hq (gI rates i) (A7 (by omega)))
  have h3:=I7 hn.pos (show gI nets i∈nets from A7 hi)
  have h4:=hn.sum
  omega
theorem B1p {t:Y6} {rates nets:List Int} (hn:A2L nets) (hr:rates.length=nets.length) (hq:∀ x∈rates,0≤x∧x≤10000) {i:Nat} (hi:i<nets.length):U4 t rates nets i≤gI nets i:=by
 have hqi:=hq (gI rates i) (A7 (by omega))
 have hw:=A2b (t:=t) hn hr hqi
 obtain ⟨h1,h2,h3,h4⟩:=A2W hn hr i
 have hm:=A0T (t:=t) h3 hqi
 have hp:=A7m (rates:=rates) (i:=i) (by omega)
 have hml:(F1 rates nets i).length=(A4L rates i).length:=C9o ..
 have hle:=A0v hw hm.2 (k:=U3 rates i) (by omega)
 have e:gI (F1 rates nets i) (U3 rates i)=gI nets i:=by
  unfold F1 gI
  rw [C9i,D0y,A7n (by omega)];rfl
 rw [e] at hle
 exact hle
theorem B1Q {t:Y6} {rates nets:List Int} (hn:A2L nets) (hr:rates.length=nets.length) (hq:∀ x∈rates,0≤x∧x≤10000) {i:Nat} (hi:i<nets.length):gI (G7 t rates nets) i≤gI nets i:=by
 unfold G7
 split
 ·have e:gI (G6 t rates nets) i=U4 t rates nets i:=by unfold G6 gI;rw [C9i,D0y,D1c hi];rfl
  rw [e];exact B1p hn hr hq hi
 ·have e:gI (A0h t rates nets) i=J6 t (gI nets i) (gI rates i):=by unfold A0h gI;rw [C9i,D0y,D1c hi];rfl
  rw [e]
  exact (A0T (hn.pos _ (show gI nets i∈nets from A7 hi)) (hq (gI rates i) (A7 (by omega)))).2
theorem A3d (f g:Nat→Int):∀ n,(∀ i,i<n→f i≤g i)→A3 ((List.range n).map f)≤A3 ((List.range n).map g)
 | 0,_=>C9R _
 | n+1,h=>by
  rw [H9,H9]
  have h1:=A3d f g n fun i hi=>h i (by omega)
  have h2:=h n (by omega)
  omega
structure B6p where
 goods:List Int
 taxes:List Int
 ship:Int
 shipTax:Int
def Y7 (t:Y6) (taxes nets:List Int):List Int:=(List.range nets.length).map fun i=>if t.incl=true then gI nets i - gI taxes i else gI nets i
def L0 (t:Y6) (z:J9) (exempt:Bool) (cats:List C9) (nets:List Int) (ship:Int):B6p :=
 ⟨Y7 t (G7 t (cats.map (F9 z)) nets) nets,if exempt=true then List.replicate nets.length 0 else G7 t (cats.map (F9 z)) nets,
 if t.incl=true then ship - J6 t ship z.ship else ship,if exempt=true then 0 else J6 t ship z.ship⟩
structure A0k where
 goods:List Int
 taxes:List Int
 ship:Int
 shipTax:Int
 total:Int
 deals:List A0Z
end Go.Proofs.YtaapofnkmpiknaaGreat
namespace Go.Ab
open Go
theorem lp {A:List AV} {st:St} (n:Nat) (keep:List Nat) (J:Nat→List AV→St→Prop) {B:List Nat→(Nat→KA)→Nat→List AV→St→Prop}
  (h0:A0Q A keep fun us=>J 0 us st) (h:∀ i vs s,i≤n→J i vs s→B keep (fun m vs s=>∃ i,i≤n∧m=n - i∧J i vs s) (n - i) vs s) :
  ∃ (keep:List Nat) (I:Nat→KA),(A0Q A keep fun us=>∃ m,I m us st)∧∀ m vs s,I m vs s→B keep I m vs s:=by
 rw [X3] at h0
 refine ⟨keep,fun m vs s=>∃ i,i≤n∧m=n - i∧J i vs s,?_,?_⟩
 ·rw [X3];exact ⟨n,0,C9v _,rfl,h0⟩
 ·rintro m vs s ⟨i,hi,rfl,hj⟩;exact h i vs s hi hj
theorem nx {n i:Nat} {J:Nat→Prop} (hi:i<n) (h:J (i+1)):∃ m',m'<n - i∧∃ i',i'≤n∧m'=n - i'∧J i':=⟨n - (i+1),by omega,i+1,hi,rfl,h⟩
theorem L5 {i n:Nat} (h:decide ((i:Int)<(n:Int))=false) (hi:i≤n):i=n:=by have:=C9k h;omega
theorem X4 {i n:Nat} (h:decide ((i:Int)<(n:Int))=true):i<n:=by have:=C9j h;omega
def U9 {α : Type} [Inhabited α] (ty e:Nat) (enc : α→AV) (L:List α) (st:St) (sv:AV) (st':St):Prop:=Col ty e (fun k=>enc (L.getD k default)) st L.length sv st'
theorem U9.start {α : Type} [Inhabited α] (ty e:Nat) (enc : α→AV) (st:St):U9 ty e enc [] st .emp st:=Col.start _ _ _ _
theorem B4T {α : Type} [Inhabited α] (L:List α) (x : α):(L++[x]).getD L.length default=x:=by simp [C9i]
theorem A4G {α : Type} [Inhabited α] {a b:List α} {k:Nat} (h:k<a.length):(a++b).getD k default=a.getD k default:=by
 rw [C9i,C9i,C9z h]
theorem U9.app {α : Type} [Inhabited α] {T:C7} {t:TypeId} {x sv:AV} {st st':St} {k:KK} {r q:B5} {el:Nat} {enc : α→AV} {L:List α} {y : α} {g:Nat→AV} (hr:T t=some r) (hd:r.desc=.slice el) (hq:T el=some q)
  (hz:(Nat.blt 0 q.size&&Nat.blt 0 q.bytes&&Nat.beq q.zero.cells.size q.size)=true) (hs:A0C q.size st' x=some (1,g)) (hg:g 0=enc y) (hb:(L.length+1) * q.bytes≤140737488355328)
  (hc:U9 el q.size enc L st sv st') (hk:∀ sv' st'',U9 el q.size enc (L++[y]) st sv' st''→k sv' st''):A8a T t sv x st' k:=by
 refine Col.app (f:=fun k=>enc ((L++[y]).getD k default)) hr hd hq hz hs (by show g 0=enc _;rw [B4T];exact hg) hb (Col.congr hc fun k hk=>by show enc _=enc _;rw [A4G hk]) (fun sv' st'' h=>hk sv' st'' ?_)
 unfold U9
 rw [C9E];exact h
theorem A6L {α : Type} [Inhabited α] {P:Program} {F:FuncId} {args:List AV} {st:St} {ty e:Nat} {enc : α→AV} {L:List α} (h:S P F args st fun v st'=>U9 ty e enc L st v st'):S P F args st fun v st'=>v=B0 e enc L∧st'=st:=B6t h
theorem U9.shift {α : Type} [Inhabited α] {ty e:Nat} {enc : α→AV} {L:List α} {st:St} {sv:AV} {st':St} (h:U9 ty e enc L st sv st'):A4 [sv] st' [B0 e enc L] st:=Col.shift h
theorem U9.sup {α : Type} [Inhabited α] {ty e:Nat} {enc : α→AV} {L:List α} {st:St} {sv:AV} {st':St} (h:U9 ty e enc L st sv st'):E9 st st':=Col.sup h
theorem B8v {α β : Type} [Inhabited α] {l:List α} {i:Nat} (h:i<l.length) (g : α→β):(l.take (i+1)).map g=(l.take i).map g++[g (l.getD i default)]:=by rw [N5 h,C9P];rfl
end Go.Ab
namespace Go.Proofs.YtaapofnkmpiknaaGreat
open Go Go.Ab
attribute [local irreducible] upd del
abbrev Sm (n:Nat):Prop:=n≤9223372036854775807
end Go.Proofs.YtaapofnkmpiknaaGreat
