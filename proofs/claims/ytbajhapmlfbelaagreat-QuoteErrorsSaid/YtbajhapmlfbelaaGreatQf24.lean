/- Part 24 of the proof: contracts of the functions that the law reaches -/
import Derived.Test.YtbajhapmlfbelaaGreatQf23
set_option maxRecDepth 100000
set_option linter.unusedVariables false
set_option linter.unusedSimpArgs false
namespace Go.Proofs.YtbajhapmlfbelaaGreat
open Go Go.Ab
attribute [local irreducible] upd del
def A1q (us:List B5) (l:List Int):Int:=A7 (l.map fun i=>(gU us i.toNat).net)
theorem B2b {us:List B5} (hu:E8 us) {l:List Int} (hl:∀ k,k<l.length→0≤gI l k∧(gI l k).toNat<us.length) (hn:l.length≤800000) {i:Nat} (hi:i<l.length) :
  IntKind.i64.wrap (A1q us (l.take i)+(gU us (gI l i).toNat).net)=A1q us (l.take (i+1)):=by
 have hc:=A0M hu (l.take i) (fun x hx=>by obtain ⟨k,hk,rfl⟩:=E3 (List.take_subset _ _ hx);exact hl k hk)
 have h3:0≤(gU us (gI l i).toNat).net:=hu.pos _ (B3 (hl i hi).2)
 have h4:(gU us (gI l i).toNat).net≤10000000000000:=hu.le (B3 (hl i hi).2)
 have e:A1q us (l.take (i+1))=A1q us (l.take i)+(gU us (gI l i).toNat).net:=by
  unfold A1q;rw [J0 hi,List.map_append,G6];simp [A7]
 have hcl:(l.take i).length≤800000:=by rw [List.length_take];omega
 have e2:I0 us (l.take i)=A1q us (l.take i):=rfl
 rw [e]
 exact A9 (by omega) (by omega)
theorem C7a (bx:Nat) (items:List Ab.Item) (p:PSt) (hu:E8 p.us) (l:List Int) (hn:l.length≤800000) (hl:∀ k,k<l.length→0≤gI l k∧(gI l k).toNat<p.us.length) (s t:St) (h:PxR bx items p s t) :
  S P 240 [.optr 4 bx 0 0,A8 l] t fun v t'=>v=eI (A1q p.us l)∧t'=t:=by
 obtain ⟨dv,gv,fx,hx,hx0,hdv,hgv⟩:=h.at
 refine G0 [] Tryz.func240 ?_
 refine ⟨[0,5,8,9,10],fun m vs t'=>∃ i:Nat,i≤l.length∧m=l.length - i∧vs=[.optr 4 bx 0 0,eI (A1q p.us (l.take i)),A8 l,eI l.length,eI i]∧t'=t,?_,?_⟩
 ·conv=>whnf
  exact ⟨_,0,Nat.zero_le _,rfl,rfl,rfl⟩
 ·rintro m vs t' ⟨i,hi,rfl,rfl,rfl⟩
  conv=>whnf
  cases h2:decide ((i:Int)<(l.length:Int))
  ·have:=of_decide_eq_false h2
   obtain rfl:i=l.length:=by omega
   rw [List.take_length];conv=>whnf
   exact ⟨rfl,rfl⟩
  ·have hi':i<l.length:=by have:=of_decide_eq_true h2;omega
   have hr:=hl i hi'
   conv=>whnf
   refine E1 ?_
   refine F2 hx hx0 ?_
   refine ⟨rfl,⟨by show 0≤gI l i;exact hr.1,by show gI l i<(p.us.length:Int);have:=hr.2;have:=hr.1;omega⟩,?_⟩;conv=>whnf
   refine G7 ?_
   exact ⟨l.length - (i+1),by omega,i+1,by omega,rfl,by rw [B8 (by omega),←B2b hu hl hn hi'];rfl,rfl⟩
theorem C5P (bx:Nat) (items:List Ab.Item) (p:PSt) (hu:E8 p.us) (l:List Int) (hn:l.length≤800000) (hl:∀ k,k<l.length→0≤gI l k∧(gI l k).toNat<p.us.length) (s t:St) (h:PxR bx items p s t)
  (b:Nat) (m0:Nat) (f:Nat→AV) (hm0:l.length≤m0) (hb:t b=some ⟨3,1,m0,f⟩) (hf:∀ k,k<l.length→f k=eI (gI l k)) :
  S P 240 [.optr 4 bx 0 0,.own 1 b 0 l.length] t fun v t'=>v=eI (A1q p.us l)∧t'=t:=by
 obtain ⟨dv,gv,fx,hx,hx0,hdv,hgv⟩:=h.at
 refine G0 [] Tryz.func240 ?_
 refine ⟨[0,5,8,9,10],fun m vs t'=>∃ i:Nat,i≤l.length∧m=l.length - i∧vs=[.optr 4 bx 0 0,eI (A1q p.us (l.take i)),.own 1 b 0 l.length,eI l.length,eI i]∧t'=t,?_,?_⟩
 ·conv=>whnf
  exact ⟨_,0,Nat.zero_le _,rfl,rfl,rfl⟩
 ·rintro m vs t' ⟨i,hi,rfl,rfl,rfl⟩
  conv=>whnf
  cases h2:decide ((i:Int)<(l.length:Int))
  ·have:=of_decide_eq_false h2
   obtain rfl:i=l.length:=by omega
   rw [List.take_length];conv=>whnf
   exact ⟨rfl,rfl⟩
  ·have hi':i<l.length:=by have:=of_decide_eq_true h2;omega
   have hr:=hl i hi'
   conv=>whnf
   refine E1 ?_
   refine ldV hb rfl (by omega) (v:=eI (gI l i)) (by rw [show 0+(i:Int).toNat=i by omega];exact hf i hi') ?_;conv=>whnf
   refine F2 hx hx0 ?_
   refine ⟨rfl,⟨by show 0≤gI l i;exact hr.1,by show gI l i<(p.us.length:Int);have:=hr.2;have:=hr.1;omega⟩,?_⟩;conv=>whnf
   refine G7 ?_
   exact ⟨l.length - (i+1),by omega,i+1,by omega,rfl,by rw [B8 (by omega),←B2b hu hl hn hi'],rfl⟩
def A1g (p:PSt) (pr:B4) (off:Int):PSt:=⟨p.us,p.deals++[⟨pr.id,off⟩],p.groups++(if L7 pr.group=true then [] else [pr.group])⟩
theorem A3A {α : Type} [Inhabited α] {a b:List α} {k:Nat} (h:k<a.length):(a++b).getD k default=a.getD k default:=by
 rw [List.getD_eq_getElem?_getD,List.getD_eq_getElem?_getD,List.getElem?_append_left h]
theorem A7l {α : Type} [Inhabited α] (a:List α) (x : α):(a++[x]).getD a.length default=x:=by
 simp [List.getD_eq_getElem?_getD]
theorem RD.at {bx:Nat} {dl:List A0S} {gr:List D6} {dv gv:AV} {s t:St} {f:Nat→AV} (h:RD dl gr dv gv (upd s bx ⟨147,4,1,f⟩) t):t bx=some ⟨147,4,1,f⟩:=(A2N _ _ _ _).sup h bx _ (A0 ..)
theorem RD.put {bx:Nat} {dl:List A0S} {gr:List D6} {dv gv:AV} {s t:St} {f f':Nat→AV} (h:RD dl gr dv gv (upd s bx ⟨147,4,1,f⟩) t):RD dl gr dv gv (upd s bx ⟨147,4,1,f'⟩) (upd t bx ⟨147,4,1,f'⟩):=by
 have:=(A2N dl gr dv gv).write (y':=⟨147,4,1,f'⟩) h (A0 ..)
 rw [B7] at this;exact this
theorem RD.of {dl:List A0S} {gr:List D6} {dv gv:AV} {s t:St} {d:A0S} (h:ROut (RG gr gv) 134 2 (A1b (dl++[d])) (dl.length+1) s dv t):RD (dl++[d]) gr dv gv s t:=by
 unfold RD;rw [List.length_append];exact h
theorem RD.grp {K:KK} {X:Prop} {dl:List A0S} {gr:List D6} {dv gv:AV} {s t:St} (h:RD dl gr dv gv s t) (g:D6)
  (happ:∀ {s1:St},ROut D8 9 1 (A6n (gr++[g])) gr.length s1 gv t→(∀ gv' t',ROut D8 9 1 (A6n (gr++[g])) (gr.length+1) s1 gv' t'→K gv' t')→X)
  (hk:∀ gv' t',RD dl (gr++[g]) dv gv' s t'→(gv'=.emp∨∃ b,gv'=.own 1 b 0 (gr++[g]).length)→K gv' t'):X:=by
 obtain ⟨s1,hc,hg⟩:=h
 refine happ (s1:=s1) (hg.congr fun k hk=>by simp only [A6n];rw [A3A hk]) (fun gv' t' hg'=>?_)
 have hg2:RG (gr++[g]) gv' s1 t':=by unfold RG;rw [List.length_append];exact hg'
 exact hk gv' t' ⟨s1,hc,hg2⟩ (ROut.head hg2)
theorem PxR.mk' {bx:Nat} {items:List Ab.Item} {p:PSt} {dv gv:AV} {s t:St} {f:Nat→AV} (hbx:s bx=none) (hf:f 0=.agg [B1 4 F1 items,D1 p.us,dv,gv]) (h:RD p.deals p.groups dv gv (upd s bx ⟨147,4,1,f⟩) t):PxR bx items p s t :=
 ⟨(dv,gv),hbx,_,⟨f,rfl,hf⟩,h⟩
theorem PxR.fin {bx:Nat} {items:List Ab.Item} {us:List B5} {dl:List A0S} {gr:List D6} {dv gv:AV} {s t:St} {f:Nat→AV} (hbx:s bx=none) (h:RD dl gr dv gv (upd s bx ⟨147,4,1,f⟩) t) (f':Nat→AV) (hf:f' 0=.agg [B1 4 F1 items,D1 us,dv,gv]) :
  PxR bx items ⟨us,dl,gr⟩ s (upd t bx ⟨147,4,1,f'⟩):=PxR.mk' hbx hf (RD.put h)
theorem B6r (bx:Nat) (items:List Ab.Item) (p:PSt) (pr:B4) (off:Int) (hd:p.deals.length≤1000) (hg:p.groups.length≤1000) (s t:St) (h:PxR bx items p s t) :
  S P 153 [.optr 4 bx 0 0,C0 pr,eI off] t fun v t'=>v=.tuple []∧PxR bx items (A1g p pr off) s t':=by
 obtain ⟨⟨dv,gv⟩,hbx,y,⟨f,rfl,hf⟩,hRD⟩:=h
 simp only at hf hRD
 refine G0 [4] Tryz.func153 ?_
 refine ⟨[10,13],[],[0,1,2,3,4,5,6,7,8,9,10,11,12,13],by kernel_rfl,?_⟩
 have hdv:dv=.emp∨∃ b,dv=.own 2 b 0 p.deals.length:=ROut.head hRD
 have hgv:gv=.emp∨∃ b,gv=.own 1 b 0 p.groups.length:=by obtain ⟨s0,hc,hgg⟩:=hRD;exact ROut.head hgg
 rcases hdv with rfl | ⟨bd,rfl⟩<;>rcases hgv with rfl | ⟨bg,rfl⟩
 all_goals
  conv=>whnf
  refine F2 hRD.at hf ?_
  refine ⟨_,⟨rfl,rfl⟩,?_⟩;conv=>whnf
  refine ROut.app (q:=C4f) (A7d _ _) rfl rfl rfl rfl rfl (f:=A1b (p.deals++[⟨pr.id,off⟩])) (by simp only [A1b,A7l];rfl) (by show (p.deals.length+1) * 24≤140737488355328;omega) (hRD.congr fun k hk=>by simp only [A1b];rw [A3A hk]) (fun dv' t2 hRD2=>?_)
  have hRD2':=RD.of hRD2
  rcases ROut.head hRD2' with rfl | ⟨bd',rfl⟩
  all_goals
   conv=>whnf
   refine N1 hRD2'.at hf ?_
   have hnil:(ByteArray.toList pr.group==ByteArray.toList ⟨#[]⟩)=L7 pr.group:=rfl
   rw [hnil]
   cases hgr:L7 pr.group
   ·conv=>whnf
    refine ⟨[8,11],[],[0,1,2,3,4,5,6,7,8,9,10,11],by kernel_rfl,?_⟩;conv=>whnf
    refine F2 (RD.put hRD2').at (by rw [A5]) ?_
    refine ⟨_,⟨rfl,rfl⟩,?_⟩;conv=>whnf
    refine RD.grp (RD.put hRD2') pr.group (fun happ=>ROut.app (q:=r9) B2 rfl rfl rfl rfl rfl (by simp only [A6n,A7l];rfl) (by show (p.groups.length+1) * 16≤140737488355328;omega) happ) (fun gv' t4 hRD4 hh=>?_)
    rcases hh with rfl | ⟨bg',rfl⟩
    all_goals
     conv=>whnf
     refine N1 hRD4.at (by rw [A5]) ?_
     refine ⟨rfl,?_⟩
     unfold A1g
     rw [hgr]
     exact PxR.fin hbx hRD4 _ (by rw [A5];rfl)
   ·conv=>whnf
    refine ⟨rfl,?_⟩
    unfold A1g
    rw [hgr]
    simp only [if_true,List.append_nil]
    exact PxR.fin hbx hRD2' _ (by rw [A5];rfl)
end Go.Proofs.YtbajhapmlfbelaaGreat
namespace Go.Proofs.YtbajhapmlfbelaaGreat
open Go Go.Ab
theorem J5 {lo hi x:Int}:Q9 lo hi x=true↔lo≤x∧x≤hi:=by
 unfold Q9;simp only [Bool.and_eq_true,decide_eq_true_eq,ge_iff_le]
theorem A3w {α : Type} [Inhabited α] {l:List α} {p:Nat→α→Bool}:K7 l p=true↔∀ k,k<l.length→p k (l.getD k default)=true:=by
 unfold K7
 rw [List.all_eq_true]
 exact ⟨fun h k hk=>h k (List.mem_range.2 hk),fun h k hk=>h k (List.mem_range.1 hk)⟩
structure C3h (p:B4):Prop where
 kind:1≤p.kind∧p.kind<8
 skus:p.scope.skus.length≤20
 cats:p.scope.cats.length≤20
 least:0≤p.least∧p.least≤10000000000000
 buy:p.kind=3→A9x p
 bun:p.kind=4→A3q p∧∀ x∈p.parts,x.scope.skus.length≤20∧x.scope.cats.length≤20
 ask:P2 p→p.kind=1∨p.kind=2∨p.kind=5∨p.kind=6→A4K p
 ship:p.kind=7→1≤p.rate∧p.rate≤10000
theorem B9N {l:List A0q} (h:X5 l=true):A6Y l:=by
 unfold X5 at h
 simp only [Bool.and_eq_true,Bool.not_eq_true',Bool.or_eq_false_iff,decide_eq_false_iff_not] at h
 refine ⟨by omega,fun t ht=>?_⟩
 obtain ⟨k,hk,rfl⟩:=E3 ht
 have h2:=A3w.1 h.2 k hk
 unfold A3m at h2
 simp only [Bool.not_eq_true',Bool.or_eq_false_iff,decide_eq_false_iff_not] at h2
 omega
theorem A2X {p:B4} (h:H7 p=true):C3h p:=by
 have h0:=h
 unfold H7 at h
 simp only [Bool.and_eq_true,decide_eq_true_eq] at h
 obtain ⟨⟨⟨⟨hk1,hk2⟩,hh⟩,hp⟩,hkd⟩:=h
 have hl:=B2c hh
 simp only [A6o,Bool.and_eq_true,J5] at hh
 unfold A6p at hkd
 refine ⟨⟨hk1,hk2⟩,hl.1,hl.2,hh.2,fun e=>?_,fun e=>?_,fun hf e=>?_,fun e=>?_⟩
 ·rw [e] at hkd
  simp [A7w,A7x,J5] at hkd
  exact ⟨hkd.2.1,hkd.2.2,⟨by omega,hkd.1.2⟩⟩
 ·rw [e] at hkd
  simp only [show ¬(4:Int)=1 by decide,show ¬(4:Int)=2 by decide,show ¬(4:Int)=3 by decide,if_false,if_true] at hkd
  unfold A5W at hkd
  simp only [Bool.and_eq_true,Bool.not_eq_true',Bool.or_eq_false_iff,decide_eq_false_iff_not,List.any_eq_false] at hkd
  obtain ⟨⟨⟨⟨a1,a2⟩,a3⟩,a4⟩,a5⟩:=hkd
  have hpt:∀ x∈p.parts,A0t x=true:=fun x hx=>by simpa using a5 x hx
  refine ⟨⟨by omega,by omega,fun x hx=>?_,by omega,by omega⟩,fun x hx=>?_⟩
  ·have:=hpt x hx
   unfold A0t at this
   simp only [Bool.and_eq_true,Bool.not_eq_true',Bool.or_eq_false_iff,decide_eq_false_iff_not] at this
   omega
  ·have:=hpt x hx
   unfold A0t at this
   simp only [Bool.and_eq_true] at this
   exact B0O this.1
 ·refine ⟨hf,h0,e,fun e2=>?_,fun e2=>?_⟩
  ·rcases e2 with e2 | e2<;>rw [e2] at hkd<;>simp at hkd<;>exact B9N hkd
  ·rw [e2] at hkd
   simp [A7v,J5] at hkd
   omega
 ·rw [e] at hkd
  simp [A7x,J5] at hkd
  exact hkd
theorem B7K {p:B4} (hp:A4K p) {nets:List Int} (h0:∀ x∈nets,0≤x) (hs:A7 nets≤10000000000000) (hl:nets.length≤100000):∀ k,k<(O0 p nets).length→gI (O0 p nets) k≤gI nets k:=fun k hk=>by
 have hn:=C4 h0
 have hlen:=(A4m hp h0 hs hl).2.1
 have hx:0≤gI nets k:=h0 _ (B3 (by omega))
 have hkn:k<nets.length:=by omega
 unfold O0 at hk ⊢
 have hmap:∀ (r a:Int),0≤a→gI (nets.map fun x=>P4 x r a) k≤gI nets k:=fun r a ha=>by
  rw [show gI (nets.map fun x=>P4 x r a) k=P4 (gI nets k) r a from E6 (fun x=>P4 x r a) nets hkn]
  exact (Y7 hx ha).2
 rcases hp.kind with e | e | e | e
 ·rw [if_pos e] at hk ⊢;exact hmap _ _ (Int.le_refl _)
 ·rw [if_neg (by omega),if_pos e] at hk ⊢;exact hmap _ _ (hp.amount e).1
 ·rw [if_neg (by omega),if_neg (by omega),if_pos e] at hk ⊢
  have hok:=Y9 (hp.tiers (.inl e)) (A7 nets)
  unfold A4A at hk ⊢
  split at hk
  ·simp at hk
  ·rename_i t hr
   rw [hr] at hok
   have hob:0≤P4 (A7 nets) t.rate t.amount∧P4 (A7 nets) t.rate t.amount≤A7 nets:=Y7 hn hok.1
   have hW:Q0 (P4 (A7 nets) t.rate t.amount) nets:=⟨hob.1,by omega,hl,h0,by omega,fun e=>by omega⟩
   have hll:=(R6 hW).2.1
   exact A2z hW hob.2 (by omega)
 ·rw [if_neg (by omega),if_neg (by omega),if_neg (by omega)] at hk ⊢
  have hok:=Y9 (hp.tiers (.inr e)) nets.length
  unfold A4z at hk ⊢
  split at hk
  ·simp at hk
  ·rename_i t hr
   rw [hr] at hok
   exact hmap _ _ hok.1
theorem A7u (us:List B5) (mine:List Int):F0 us mine=I7 us mine:=rfl
theorem B5K {p:B4} (hp:A4K p) {us:List B5} (hu:E8 us) {mine:List Int} (hm:N0 us mine):Off us (X4 p us mine).1 (X4 p us mine).2:=by
 have hnl:(F0 us mine).length=mine.length:=List.length_map ..
 have hml:=hm.len
 have hul:=hu.len
 have hn0:∀ x∈F0 us mine,0≤x:=fun x hx=>by
  obtain ⟨i,hi,rfl⟩:=List.mem_map.1 hx
  exact hu.at0 _
 have hwl:=B1e hu hm.places
 have hus:=hu.sum
 have hns:A7 (F0 us mine)≤10000000000000:=by rw [A7u];omega
 obtain ⟨ob1,ob2,ob3⟩:=A4m hp hn0 hns (by omega)
 have hle:=B7K hp hn0 hns (by omega)
 have h1:=A1P hu hm.places (offs:=O0 p (F0 us mine)) (by omega) (fun k hk=>⟨ob3 _ (B3 hk),by
  have:=hle k hk
  rw [show gI (F0 us mine) k=(gU us (gI mine k).toNat).net from E6 (fun i:Int=>(gU us i.toNat).net) mine (by omega)] at this
  exact this⟩) (O0 p (F0 us mine)).length (Nat.le_refl _)
 rw [List.take_length] at h1
 unfold X4
 simp only
 split
 ·have h2:=Off.closeB (h1.ok hu) mine (fun x hx=>by
   obtain ⟨k,hk,rfl⟩:=E3 hx
   rw [h1.len];exact (hm.rng k hk).2)
  have h3:=h1.trans h2
  rw [Int.add_zero] at h3;exact h3
 ·exact h1
end Go.Proofs.YtbajhapmlfbelaaGreat
namespace Go.Proofs.YtbajhapmlfbelaaGreat
open Go Go.Ab
attribute [local irreducible] upd del
theorem PxR.more {bx:Nat} {items:List Ab.Item} {p:PSt} {s t t':St} (h:PxR bx items p s t) (hs:D8 t t'):PxR bx items p s t':=by
 obtain ⟨v,h1,y,h2,s1,h3,s2,h4,h5⟩:=h
 exact ⟨v,h1,y,h2,s1,h3,s2,h4,h5.trans hs⟩
structure A6j (items:List Ab.Item) (us:List B5):Prop where
 ok:E8 us
 few:items.length≤100000
 line:∀ u∈us,0≤u.line∧u.line.toNat<items.length
theorem A6j.off {items:List Ab.Item} {us us':List B5} {x:Int} (h:A6j items us) (ho:Off us us' x):A6j items us' :=
 ⟨ho.ok h.ok,h.few,fun u hu=>by
  obtain ⟨k,hk,rfl⟩:=E3 hu
  have h1:=ho.line k
  have h2:=h.line (gU us k) (B3 (by rw [←ho.len];exact hk))
  show 0≤(gU us' k).line∧(gU us' k).line.toNat<items.length
  rw [h1];exact h2⟩
def A1I (items:List Ab.Item) (us:List B5) (pr:B4):List B5×Int :=
 if A1q us (J3 pr.scope items us us.length)<pr.least then ([],0)
 else if pr.kind=3 then U1 pr us (J3 pr.scope items us us.length) else X4 pr us (J3 pr.scope items us us.length)
theorem C5x {P:Program} {f:FuncId} {args:List AV} {st st1:St} {v:AV} {K:KK} (h:S P f args st fun v' st'=>v'=v∧st'=st1) (hK:K v st1):A1o P f args st K:=call h fun v' st' ⟨e1,e2⟩=>by rw [e1,e2];exact hK
theorem C2k (bx:Nat) (items:List Ab.Item) (p:PSt) (pr:B4) (hfit:P2 pr) (hright:H7 pr=true) (hk:pr.kind≠4∧pr.kind≠7) (hu:A6j items p.us) (s t:St) (h:PxR bx items p s t) :
  S P 151 [.optr 4 bx 0 0,C0 pr] t fun v t'=>v=.tuple [D1 (A1I items p.us pr).1,eI (A1I items p.us pr).2]∧t'=t:=by
 have hok:=A2X hright
 have hm:=A1e pr.scope items p.us
 have hml:=hm.len
 have hul:=hu.ok.len
 refine S.post (post:=fun v t'=>(v=.tuple [D1 (A1I items p.us pr).1,eI (A1I items p.us pr).2]∨(A1I items p.us pr=([],0)∧v=.tuple [.emp,eI 0]))∧t'=t) ?_ (fun v t' ⟨hv,ht⟩=>by
  subst ht
  rcases hv with rfl | ⟨h1,rfl⟩
  ·exact ⟨_,_,⟨rfl,rfl⟩,B0.refl _ _⟩
  ·exact ⟨_,_,⟨rfl,rfl⟩,by rw [h1];exact B0.tuple (B0.cons (K4 3 _) (B0.keep _ _)) rfl⟩)
 obtain ⟨dv,gv,fx,hx,hx0,hdv,hgv⟩:=h.at
 refine G0 [3] Tryz.func151 ?_
 refine I2 (C1q bx items p pr.scope hok.skus hok.cats hul hu.few hu.line s t h) ?_
 refine ⟨[],[],[0,1,2,3,4,5],by kernel_rfl,?_⟩;conv=>whnf
 refine ⟨_,N4 (C7a bx items p hu.ok _ (by omega) hm.rng s t h),?_⟩
 have hS:A1I items p.us pr=if A1q p.us (J3 pr.scope items p.us p.us.length)<pr.least then ([],0) else if pr.kind=3 then U1 pr p.us (J3 pr.scope items p.us p.us.length) else X4 pr p.us (J3 pr.scope items p.us p.us.length):=rfl
 conv=>whnf
 refine B9 (fun h1=>?_) (fun h1=>?_)<;>rw [h1]<;>simp only [decide_eq_true_eq,decide_eq_false_iff_not] at h1
 ·rw [if_pos h1] at hS;conv=>whnf
  exact ⟨.inr ⟨hS,rfl⟩,rfl⟩
 rw [if_neg h1] at hS;conv=>whnf
 refine B9 (fun h2=>?_) (fun h2=>?_)<;>rw [h2]<;>simp only [beq_iff_eq,beq_eq_false_iff_ne] at h2
 ·rw [if_pos h2] at hS;conv=>whnf
  refine ⟨[],[],[0,1,2,3,4,5,6,7,8,9,10],by kernel_rfl,?_⟩;conv=>whnf
  refine F2 hx hx0 ?_
  refine X9 (C0B pr p.us _ hfit hright h2 (hok.buy h2) hu.ok hm t) ?_
  exact ⟨.inl (by rw [hS];rfl),rfl⟩
 ·rw [if_neg h2] at hS
  have hask:A4K pr:=hok.ask hfit (by have:=hok.kind;have:=hk.1;have:=hk.2;omega)
  conv=>whnf
  refine ⟨[],[],[0,1,2,3,4,5,6,7,8,9,10],by kernel_rfl,?_⟩;conv=>whnf
  refine F2 hx hx0 ?_
  refine X9 (C3n pr p.us _ hask hu.ok hm t) ?_
  exact ⟨.inl (by rw [hS];rfl),rfl⟩
theorem C0Z (a b:List Int) (j:Nat):gI (a++b) (a.length+j)=gI b j:=by
 unfold gI
 rw [List.getD_eq_getElem?_getD,List.getD_eq_getElem?_getD,List.getElem?_append_right (by omega),Nat.add_sub_cancel_left]
theorem C5O (bx:Nat) (t:St):S P 240 [.optr 4 bx 0 0,.emp] t fun v t'=>v=eI 0∧t'=t:=by
 refine G0 [] Tryz.func240 ?_
 refine A4I [0,5,8,9,10] ?_;conv=>whnf
 intro I;conv=>whnf
 exact ⟨rfl,rfl⟩
def P8 (items:List Ab.Item) (us:List B5) (pr:B4):List (List Int):=pr.parts.map fun x=>J3 x.scope items us us.length
def Z5 (items:List Ab.Item) (us:List B5) (pr:B4) (i:Nat):List Int:=((P8 items us pr).take i).flatten
def A0y (items:List Ab.Item) (us:List B5) (pr:B4):List B5×Int :=
 if A1q us (V6 (C8 (Z5 items us pr pr.parts.length)))<pr.least then ([],0) else Q1 pr us (P8 items us pr)
theorem A7Z (items:List Ab.Item) (us:List B5) (pr:B4) {i:Nat} (hi:i<pr.parts.length):Z5 items us pr (i+1)=Z5 items us pr i++J3 (pr.parts.getD i default).scope items us us.length:=by
 unfold Z5
 have hl:(P8 items us pr).length=pr.parts.length:=List.length_map ..
 rw [J0 (by omega),List.flatten_append]
 congr 1
 have:(P8 items us pr).getD i default=J3 (pr.parts.getD i default).scope items us us.length:=E6 (fun x:S3=>J3 x.scope items us us.length) pr.parts hi
 rw [this];simp
theorem A9E (items:List Ab.Item) (us:List B5) (pr:B4):∀ i,i≤pr.parts.length→(Z5 items us pr i).length≤i * us.length
 | 0,_=>by simp [Z5]
 | i+1,h=>by
  have ih:=A9E items us pr i (by omega)
  rw [A7Z items us pr (by omega),List.length_append]
  have:=A2p (pr.parts.getD i default).scope items us us.length
  have e:(i+1) * us.length=i * us.length+us.length:=Nat.succ_mul i us.length
  omega
theorem B1O {l:List Int} {x:Int} (h:x∈V6 l):x∈l:=by
 unfold V6 Go.Lib.compactUpTo at h
 obtain ⟨k,hk,rfl⟩:=List.mem_map.1 h
 have hk2:k<l.length:=List.mem_range.1 (List.mem_filter.1 hk).1
 have:l.toArray[k]! = l[k]:=by rw [getElem!_pos _ k (by simpa using hk2)];simp
 rw [this];exact List.getElem_mem hk2
theorem A9F {items:List Ab.Item} {us:List B5} {pr:B4} {i:Nat} {x:Int} (h:x∈Z5 items us pr i):0≤x∧x.toNat<us.length:=by
 unfold Z5 at h
 obtain ⟨l,hl,hx⟩:=List.mem_flatten.1 h
 obtain ⟨q,hq,rfl⟩:=List.mem_map.1 (List.take_subset _ _ hl)
 obtain ⟨k,hk,rfl⟩:=E3 hx
 exact (A1e q.scope items us).rng k hk
theorem B8Z (bx:Nat) (items:List Ab.Item) (p:PSt) (pr:B4) (hfit:P2 pr) (hright:H7 pr=true) (hk:pr.kind=4) (hu:A6j items p.us) (s t:St) (h:PxR bx items p s t) :
  S P 152 [.optr 4 bx 0 0,C0 pr] t fun v t'=>v=.tuple [D1 (A0y items p.us pr).1,eI (A0y items p.us pr).2]∧t'=t:=by
 have hok:=A2X hright
 obtain ⟨hbun,hsc⟩:=hok.bun hk
 have hn8:=hbun.n8
 have hul:=hu.ok.len
 have hpl:(P8 items p.us pr).length=pr.parts.length:=List.length_map ..
 have hpm:∀ x∈P8 items p.us pr,N0 p.us x:=fun x hx=>by
  obtain ⟨q,hq,rfl⟩:=List.mem_map.1 hx
  exact A1e _ _ _
 refine S.post (post:=fun v t'=>(v=.tuple [D1 (A0y items p.us pr).1,eI (A0y items p.us pr).2]∨(A0y items p.us pr=([],0)∧v=.tuple [.emp,eI 0]))∧D8 t t') ?_ (fun v t' ⟨hv,ht⟩=>by
  rcases hv with rfl | ⟨h1,rfl⟩
  ·exact ⟨_,_,⟨rfl,rfl⟩,ht.shift _⟩
  ·exact ⟨_,_,⟨rfl,rfl⟩,by rw [h1];exact (ht.shift _).trans (B0.tuple (B0.cons (K4 3 _) (B0.keep _ _)) rfl)⟩)
 have hBi:=fun (n:Nat) (sv:AV) (fo:Nat→AV)=>D9 B2 3 1 fo n sv
 refine G0 [3,9] Tryz.func152 ?_
 refine ⟨[0,3,6,7,12,13,14],fun m vs t'=>∃ (i:Nat) (sv1 sv2:AV),i≤pr.parts.length∧m=pr.parts.length - i∧vs=[.optr 4 bx 0 0,.fptr (C0 pr) 0,sv1,sv2,B1 3 T2 pr.parts,eI pr.parts.length,eI i] ∧
  ROut (fun s t'=>ROut D8 3 1 (fun k=>eI (gI (Z5 items p.us pr i) k)) (Z5 items p.us pr i).length s sv2 t') 29 1 (fun k=>A8 ((P8 items p.us pr).getD k default)) i t sv1 t',?_,?_⟩
 ·conv=>whnf
  exact ⟨_,0,.emp,.emp,Nat.zero_le _,rfl,rfl,ROut.start (ROut.start (D8.refl _) _ _ _) _ _ _⟩
 ·rintro m vs t' ⟨i,sv1,sv2,hi,rfl,rfl,hout⟩
  have hal:=A9E items p.us pr i hi
  have hal2:i * p.us.length≤8 * 100000:=Nat.mul_le_mul (by omega) hul
  have hsup:D8 t t':=hout.sup (hBi _ _ _)
  conv=>whnf
  cases hd:decide ((i:Int)<(pr.parts.length:Int))
  ·have:=of_decide_eq_false hd
   obtain rfl:i=pr.parts.length:=by omega
   obtain ⟨s1,hc1,hout2⟩:=hout
   generalize hA:Z5 items p.us pr pr.parts.length=A at *
   have hAm:∀ x∈A,0≤x∧x.toNat<p.us.length:=fun x hx=>A9F (by rw [hA];exact hx)
   have hSl:(C8 A).length=A.length:=U8 A
   have hCl:=A8c (C8 A)
   have hCm:∀ k,k<(V6 (C8 A)).length→0≤gI (V6 (C8 A)) k∧(gI (V6 (C8 A)) k).toNat<p.us.length:=fun k hk=>hAm _ (T1.1 (B1O (B3 hk)))
   conv=>whnf
   refine call (B2p B2 (by omega) hout2) (fun v t2 hv=>?_)
   obtain ⟨rfl,hout3⟩:=hv
   have hsup2:D8 s1 t2:=hout3.sup B2
   have hB:A0y items p.us pr=if A1q p.us (V6 (C8 A))<pr.least then ([],0) else Q1 pr p.us (P8 items p.us pr):=by unfold A0y;rw [hA]
   -- what is behind the two,with the store as it is then
   have fin:∀ t3,D8 s1 t3→∀ K:KK,(∀ v,v=.tuple [D1 (Q1 pr p.us (P8 items p.us pr)).1,eI (Q1 pr p.us (P8 items p.us pr)).2]→K v t)→A1o P 244 [C0 pr,D1 p.us,sv1] t3 K:=fun t3 h3 K hK=>by
    have hsh:B0 [C0 pr,D1 p.us,sv1] t3 [C0 pr,D1 p.us,B1 1 A8 (P8 items p.us pr)] t:=by
     refine B0.cons (B0.keep _ _) (B0.cons (B0.keep _ _) ?_)
     have e:B1 1 A8 (P8 items p.us pr)=.arr 1 pr.parts.length (fun k=>A8 ((P8 items p.us pr).getD k default)):=by unfold B1;rw [hpl]
     rw [e]
     exact (h3.shift _).trans hc1.shift
    refine F4 hsh (call (C0A pr p.us (P8 items p.us pr) hfit hright hk hbun hu.ok hpl hpm t) (fun v t4 hv=>?_))
    rw [hv.2];exact hK v hv.1
   have hpx:∀ t3,D8 s1 t3→PxR bx items p s t3:=fun t3 h3=>h.more (hc1.sup.trans h3)
   conv=>whnf
   refine ⟨[2,5],[],[],.qui 0 (.qui 1 (.qui 4 (.two 2 5 (.qui 5 (.qui 3 (.qui 6 .done))) (.gen 2 (.qui 3 (.qui 6 .done)))))),by kernel_rfl,?_⟩
   obtain ⟨s2,hc2,hs2⟩:=hout3
   rcases hc2 with ⟨h0,rfl,rfl⟩ | ⟨h0,b2,g2,hb2,rfl,rfl,hg2⟩
   ·have hA0:A=[]:=List.eq_nil_of_length_eq_zero h0
    have hnet:A1q p.us (V6 (C8 A))=0:=by
     have:V6 (C8 A)=[]:=List.eq_nil_of_length_eq_zero (by omega)
     rw [this];rfl
    rw [hnet] at hB;conv=>whnf
    constructor
    all_goals conv=>whnf
    all_goals refine C5 (B5P _) ?_
    all_goals conv=>whnf
    all_goals refine ⟨_,N4 (C5O bx _),?_⟩
    all_goals conv=>whnf
    all_goals refine B9 (fun h1=>?_) (fun h1=>?_)<;>rw [h1]<;>simp only [decide_eq_true_eq,decide_eq_false_iff_not] at h1
    all_goals first
     | (rw [if_pos h1] at hB
        conv=>whnf
        exact ⟨.inr ⟨hB,rfl⟩,hc1.sup.trans hs2⟩)
     | (rw [if_neg h1] at hB
        obtain ⟨dv,gv,fx,hx,hx0,_,_⟩:=(hpx _ hs2).at
        conv=>whnf
        refine ⟨[6],[],[0,1,2,3,4,5,6,7,8,9,10],by kernel_rfl,?_⟩;conv=>whnf
        refine F2 hx hx0 ?_
        refine fin _ hs2 _ (fun v hv=>?_)
        subst hv;conv=>whnf
        exact ⟨.inl (by rw [hB];rfl),D8.refl _⟩)
   ·have hb2t:=hs2 b2 _ (A0 ..)
    have hC:=B8w b2 (C8 A) (by omega) t2 ⟨g2,by rw [hb2t,hSl],fun k hk=>hg2 k (by omega)⟩
    rw [hSl] at hC
    have hs3:∀ y,D8 s1 (upd t2 b2 y):=fun y=>hsup2.over hb2
    have hN:=fun t3 (h3:D8 s1 t3) (e3:t3=upd t2 b2 (A5t (A7g (C8 A))))=>C5P bx items p hu.ok (V6 (C8 A)) (by omega) hCm s t3 (hpx t3 h3) b2 (A7g (C8 A)).length (fun k=>eI (gI (A7g (C8 A)) k)) (by rw [B1P];omega) (by rw [e3,A0];rfl) (fun k hk=>by rw [C3G hk])
    conv=>whnf
    constructor
    all_goals conv=>whnf
    all_goals refine C5x hC ?_
    all_goals conv=>whnf
    all_goals refine ⟨_,N4 (hN _ (hs3 _) rfl),?_⟩
    all_goals conv=>whnf
    all_goals refine B9 (fun h1=>?_) (fun h1=>?_)<;>rw [h1]<;>simp only [decide_eq_true_eq,decide_eq_false_iff_not] at h1
    all_goals first
     | (rw [if_pos h1] at hB
        conv=>whnf
        exact ⟨.inr ⟨hB,rfl⟩,hc1.sup.trans (hs3 _)⟩)
     | (rw [if_neg h1] at hB
        obtain ⟨dv,gv,fx,hx,hx0,_,_⟩:=(hpx _ (hs3 (A5t (A7g (C8 A))))).at
        conv=>whnf
        refine ⟨[6],[],[0,1,2,3,4,5,6,7,8,9,10],by kernel_rfl,?_⟩;conv=>whnf
        refine F2 hx hx0 ?_
        refine fin _ (hs3 _) _ (fun v hv=>?_)
        subst hv;conv=>whnf
        exact ⟨.inl (by rw [hB];rfl),D8.refl _⟩)
  ·have hi':i<pr.parts.length:=by have:=of_decide_eq_true hd;omega
   have hq:=hsc (pr.parts.getD i default) (B3 hi')
   have hpk:(P8 items p.us pr).getD i default=J3 (pr.parts.getD i default).scope items p.us p.us.length:=E6 (fun x:S3=>J3 x.scope items p.us p.us.length) pr.parts hi'
   have hls:=A7Z items p.us pr hi'
   have hml:=A2p (pr.parts.getD i default).scope items p.us p.us.length
   conv=>whnf
   refine E1 ?_
   refine I2 (C1q bx items p (pr.parts.getD i default).scope hq.1 hq.2 hul hu.few hu.line s t' (h.more hsup)) ?_
   refine ROut.app (q:=r29) (hBi _ _ _) rfl rfl rfl rfl rfl (by simp only [hpk];rfl) (by show (i+1) * 24≤140737488355328;omega) hout (fun sv1' t2 hout2=>?_);conv=>whnf
   obtain ⟨s1,hc1,hin⟩:=hout2
   refine ROut.apps (q:=r3) (n:=(Z5 items p.us pr i).length) (m:=(J3 (pr.parts.getD i default).scope items p.us p.us.length).length) B2 rfl rfl rfl rfl (B3D rfl _) (f:=fun k=>eI (gI (Z5 items p.us pr (i+1)) k)) (fun j hj=>?_) (by show ((Z5 items p.us pr i).length+(J3 (pr.parts.getD i default).scope items p.us p.us.length).length) * 8≤140737488355328;omega) (hin.congr fun k hk=>by rw [hls,M9 hk]) (fun sv2' t3 hout3=>?_)
   ·rw [hls]
    show eI (gI (J3 (pr.parts.getD i default).scope items p.us p.us.length) j)=eI (gI _ _)
    rw [C0Z]
   conv=>whnf
   refine G7 ?_
   refine ⟨pr.parts.length - (i+1),by omega,i+1,sv1',sv2',by omega,rfl,by rw [B8 (by omega)],s1,hc1,?_⟩
   rw [hls,List.length_append,←hls];exact hout3
def X8 (items:List Ab.Item) (us:List B5) (pr:B4):List B5×Int:=if pr.kind=4 then A0y items us pr else A1I items us pr
def A4a (items:List Ab.Item) (p:PSt) (pr:B4):PSt :=
 if (X8 items p.us pr).2>0 then A1g ⟨(X8 items p.us pr).1,p.deals,p.groups⟩ pr (X8 items p.us pr).2 else p
theorem B8e {items:List Ab.Item} {us:List B5} (hu:A6j items us) {pr:B4} (hfit:P2 pr) (hright:H7 pr=true) (hk:pr.kind≠7):X8 items us pr=([],0)∨Off us (X8 items us pr).1 (X8 items us pr).2:=by
 have hok:=A2X hright
 unfold X8
 split
 ·rename_i h4
  unfold A0y
  split
  ·exact .inl rfl
  ·right
   have hpl:(P8 items us pr).length=pr.parts.length:=List.length_map ..
   exact B3Z (hok.bun h4).1 hu.ok hpl fun k hk=>by
    have hm:=B3 (l:=P8 items us pr) hk
    obtain ⟨q,hq,he⟩:=List.mem_map.1 hm
    rw [show (P8 items us pr).getD k []=(P8 items us pr).getD k default from rfl,←he]
    exact A1e _ _ _
 ·rename_i h4
  unfold A1I
  split
  ·exact .inl rfl
  ·right
   split
   ·rename_i h3
    exact B4a (hok.buy h3) hu.ok (A1e _ _ _)
   ·rename_i h3
    exact B5K (hok.ask hfit (by have:=hok.kind;omega)) hu.ok (A1e _ _ _)
theorem B3X {items:List Ab.Item} {p:PSt} (hu:A6j items p.us) {pr:B4} (hfit:P2 pr) (hright:H7 pr=true) (hk:pr.kind≠7):∃ x,Off p.us (A4a items p pr).us x:=by
 unfold A4a
 split
 ·rename_i h0
  rcases B8e hu hfit hright hk with e | e
  ·rw [e] at h0;exact absurd h0 (by decide)
  ·exact ⟨_,e⟩
 ·exact ⟨0,Off.refl hu.ok⟩
theorem C6J (bx:Nat) (items:List Ab.Item) (p:PSt) (pr:B4) (hfit:P2 pr) (hright:H7 pr=true) (hk:pr.kind≠7) (hu:A6j items p.us) (hd:p.deals.length≤1000) (hg:p.groups.length≤1000) (s t:St) (h:PxR bx items p s t) :
  S P 80 [.optr 4 bx 0 0,C0 pr] t fun v t'=>v=.tuple []∧PxR bx items (A4a items p pr) s t':=by
 have key:∀ K:KK,(∀ v,v=.tuple [D1 (X8 items p.us pr).1,eI (X8 items p.us pr).2]→K v t)→A1o P (if pr.kind=4 then 152 else 151) [.optr 4 bx 0 0,C0 pr] t K:=fun K hK=>by
  unfold X8 at hK
  split
  ·rename_i h4
   rw [if_pos h4] at hK
   exact call (B8Z bx items p pr hfit hright h4 hu s t h) (fun v t' hv=>by rw [hv.2];exact hK v hv.1)
  ·rename_i h4
   rw [if_neg h4] at hK
   exact call (C2k bx items p pr hfit hright ⟨h4,hk⟩ hu s t h) (fun v t' hv=>by rw [hv.2];exact hK v hv.1)
 obtain ⟨⟨dv,gv⟩,hbx,y,⟨f,rfl,hf⟩,hRD⟩:=h
 simp only at hf hRD
 have hA:A4a items p pr=if (X8 items p.us pr).2>0 then A1g ⟨(X8 items p.us pr).1,p.deals,p.groups⟩ pr (X8 items p.us pr).2 else p:=rfl
 have h0:PxR bx items p s t:=⟨(dv,gv),hbx,_,⟨f,rfl,hf⟩,hRD⟩
 refine G0 [3] Tryz.func80 ?_
 refine B9 (fun h4=>?_) (fun h4=>?_)<;>rw [h4]<;>simp only [beq_iff_eq,beq_eq_false_iff_ne] at h4
 ·rw [if_pos h4] at key;conv=>whnf
  refine key _ (fun v hv=>?_)
  subst hv;conv=>whnf
  refine B9 (fun h5=>?_) (fun h5=>?_)<;>rw [h5]<;>simp only [decide_eq_true_eq,decide_eq_false_iff_not] at h5
  ·rw [if_pos h5] at hA
   rw [hA];conv=>whnf
   refine N1 hRD.at hf ?_
   refine call (B6r bx items ⟨(X8 items p.us pr).1,p.deals,p.groups⟩ pr _ hd hg s _ (PxR.fin hbx hRD _ (by rw [A5];rfl))) (fun v t' hv=>?_)
   obtain ⟨rfl,h6⟩:=hv
   conv=>whnf
   exact ⟨rfl,h6⟩
  ·rw [if_neg h5] at hA
   rw [hA];conv=>whnf
   exact ⟨rfl,h0⟩
 ·rw [if_neg h4] at key;conv=>whnf
  refine key _ (fun v hv=>?_)
  subst hv;conv=>whnf
  refine B9 (fun h5=>?_) (fun h5=>?_)<;>rw [h5]<;>simp only [decide_eq_true_eq,decide_eq_false_iff_not] at h5
  ·rw [if_pos h5] at hA
   rw [hA];conv=>whnf
   refine N1 hRD.at hf ?_
   refine call (B6r bx items ⟨(X8 items p.us pr).1,p.deals,p.groups⟩ pr _ hd hg s _ (PxR.fin hbx hRD _ (by rw [A5];rfl))) (fun v t' hv=>?_)
   obtain ⟨rfl,h6⟩:=hv
   conv=>whnf
   exact ⟨rfl,h6⟩
  ·rw [if_neg h5] at hA
   rw [hA];conv=>whnf
   exact ⟨rfl,h0⟩
def A6s (p:PSt) (pr:B4) (net ship:Int):Int×PSt :=
 if net<pr.least then (ship,p) else (ship - J2 ship pr.rate,if J2 ship pr.rate>0 then A1g p pr (J2 ship pr.rate) else p)
theorem B6N (bx:Nat) (items:List Ab.Item) (p:PSt) (pr:B4) (net ship:Int) (h0:0≤ship) (h1:ship≤10000000000000) (hd:p.deals.length≤1000) (hg:p.groups.length≤1000) (s t:St) (h:PxR bx items p s t) :
  S P 83 [.optr 4 bx 0 0,C0 pr,eI net,eI ship] t fun v t'=>v=eI (A6s p pr net ship).1∧PxR bx items (A6s p pr net ship).2 s t':=by
 have hS:A6s p pr net ship=if net<pr.least then (ship,p) else (ship - J2 ship pr.rate,if J2 ship pr.rate>0 then A1g p pr (J2 ship pr.rate) else p):=rfl
 have hb:=S4 ship pr.rate
 have w:IntKind.i64.wrap (ship - J2 ship pr.rate)=ship - J2 ship pr.rate:=A9 (by omega) (by omega)
 refine G0 [5] Tryz.func83 ?_
 refine B9 (fun h2=>?_) (fun h2=>?_)<;>rw [h2]<;>simp only [decide_eq_true_eq,decide_eq_false_iff_not] at h2
 ·rw [if_pos h2] at hS
  rw [hS];conv=>whnf
  exact ⟨rfl,h⟩
 rw [if_neg h2] at hS
 rw [hS];conv=>whnf
 refine I2 (B6D ship pr.rate 1 t) ?_
 refine B9 (fun h3=>?_) (fun h3=>?_)<;>rw [h3]<;>simp only [decide_eq_true_eq,decide_eq_false_iff_not] at h3
 ·conv=>whnf
  refine call (B6r bx items p pr _ hd hg s t h) (fun v t' hv=>?_)
  obtain ⟨rfl,h4⟩:=hv
  conv=>whnf
  have h3':J2 ship pr.rate>0:=h3
  rw [if_pos h3']
  refine ⟨?_,h4⟩
  show AV.int .i64 (IntKind.i64.wrap (ship - J2 ship pr.rate))=_
  rw [w]
 ·conv=>whnf
  have h3':¬ J2 ship pr.rate>0:=h3
  rw [if_neg h3']
  refine ⟨?_,h⟩
  show AV.int .i64 (IntKind.i64.wrap (ship - J2 ship pr.rate))=_
  rw [w]
def A0C (s:Ab.Ship) (units net:Int):Int:=if units=0∨(s.free>0∧net≥s.free) then 0 else s.fee
theorem C6Q (s:Ab.Ship) (units net:Int) (t:St):S P 81 [C4T s,eI units,eI net] t fun v t'=>v=eI (A0C s units net)∧t'=t:=by
 refine G0 [3] Tryz.func81 ?_
 refine B9 (fun h1=>?_) (fun h1=>?_)<;>rw [h1]<;>simp only [beq_iff_eq,beq_eq_false_iff_ne] at h1
 ·conv=>whnf
  exact ⟨by unfold A0C;rw [if_pos (.inl h1)];rfl,rfl⟩
 conv=>whnf
 refine B9 (fun h2=>?_) (fun h2=>?_)<;>rw [h2]<;>simp only [decide_eq_true_eq,decide_eq_false_iff_not] at h2
 ·conv=>whnf
  refine B9 (fun h3=>?_) (fun h3=>?_)<;>rw [h3]<;>simp only [decide_eq_true_eq,decide_eq_false_iff_not] at h3
  ·conv=>whnf
   exact ⟨by unfold A0C;rw [if_pos (.inr ⟨h2,h3⟩)];rfl,rfl⟩
  ·conv=>whnf
   exact ⟨by unfold A0C;rw [if_neg (by rintro (e | ⟨_,e⟩)<;>contradiction)];rfl,rfl⟩
 ·conv=>whnf
  exact ⟨by unfold A0C;rw [if_neg (by rintro (e | ⟨e,_⟩)<;>contradiction)];rfl,rfl⟩
theorem B4p (pr:B4) (t:St):S P 77 [C0 pr] t fun v t'=>v=.bool (pr.kind==7)∧t'=t:=by
 refine G0 [1] Tryz.func77 ?_
 exact ⟨rfl,rfl⟩
theorem C1v (pr:B4) (t:St):S P 79 [C0 pr,.fptr (.fn (.func 77) [] []) 0] t fun v t'=>v=.bool (!(pr.kind==7))∧t'=t:=by
 refine G0 [2] Tryz.func79 ?_
 refine I2 (B4p pr t) ?_
 exact ⟨rfl,rfl⟩
theorem B4T {R R':St→St→Prop} (hR:J8 R) (hm:∀ s t t',R s t→D8 t t'→R s t') (hR':J8 R') {f:FuncId} {args:List AV} {w:AV} {s t0 t:St} {q:Nat} {fl:Bool} {es:List QE} (h:R s t0) (hq:QSt t0 q fl es t)
  (hS:∀ u,R u t→S P f args t fun v t'=>v=w∧R' u t'):S P f args t fun v t'=>v=w∧∃ t0',R' s t0'∧QSt t0' q fl es t':=by
 obtain ⟨bo,hF,hn⟩:=hq.foot
 obtain ⟨y1,hy1⟩:=hF.some (.inl rfl)
 have hq0:=hn q (.inl rfl)
 have hsq:s q=none:=(hR.sup h).none hq0
 cases bo with
 | none =>
  have h1:R (upd s q y1) t:=hm _ _ _ (hR.begin (y:=y1) h hq0) (fun c x hc=>by
   by_cases e:c=q
   ·subst e;rw [A0] at hc;rw [hy1];exact hc
   ·rw [A6 e] at hc;exact hq.sup c x hc)
  refine (hS _ h1).mono fun v t' hv=>⟨hv.1,del t' q,hR'.forget hv.2 hsq,?_⟩
  have hF':QF q none fl es t':=hF.frame fun c hc=>by
   rcases hc with rfl | hc
   ·rw [hR'.sup hv.2 c y1 (A0 ..),hy1]
   ·cases hc
  exact hF'.qst (fun c x hc=>by
   by_cases e:c=q
   ·subst e;rw [A3y] at hc;cases hc
   ·rw [A1U e] at hc;exact hc) (fun c hc=>by
    rcases hc with rfl | hc
    ·exact A3y ..
    ·cases hc)
 | some b =>
  obtain ⟨y2,hy2⟩:=hF.some (c:=b) (.inr rfl)
  have hb0:=hn b (.inr rfl)
  have hqb:q≠b:=by
   obtain ⟨sv,_,h3⟩:=hF.has
   rcases h3 with ⟨_,_,e⟩ | ⟨b',l,n,e,hne,_⟩
   ·cases e
   ·cases e;exact hne
  have hsb:s b=none:=(hR.sup h).none hb0
  have h1:R (upd (upd s b y2) q y1) t:=hm _ _ _ (hR.begin (y:=y1) (hR.begin (y:=y2) h hb0) (by rw [A6 hqb];exact hq0)) (fun c x hc=>by
   by_cases e:c=q
   ·subst e;rw [A0] at hc;rw [hy1];exact hc
   ·rw [A6 e] at hc
    by_cases e2:c=b
    ·subst e2;rw [A0] at hc;rw [hy2];exact hc
    ·rw [A6 e2] at hc;exact hq.sup c x hc)
  refine (hS _ h1).mono fun v t' hv=>⟨hv.1,del (del t' q) b,hR'.forget (hR'.forget hv.2 (by rw [A6 hqb];exact hsq)) hsb,?_⟩
  have hs':=hR'.sup hv.2
  have hF':QF q (some b) fl es t':=hF.frame fun c hc=>by
   rcases hc with rfl | hc
   ·rw [hs' c y1 (A0 ..),hy1]
   ·cases hc
    rw [hs' b y2 (by rw [A6 hqb.symm,A0]),hy2]
  exact hF'.qst (fun c x hc=>by
   by_cases e:c=b
   ·subst e;rw [A3y] at hc;cases hc
   ·rw [A1U e] at hc
    by_cases e2:c=q
    ·subst e2;rw [A3y] at hc;cases hc
    ·rw [A1U e2] at hc;exact hc) (fun c hc=>by
    rcases hc with rfl | hc
    ·rw [A1U hqb];exact A3y ..
    ·cases hc;exact A3y ..)
theorem B3F (l:List D6) (hl:l.length≤100000) (v:D6) (st:St) (b:Nat) (f:Nat→AV) (hb:st b=some ⟨9,1,l.length,f⟩) (hf:∀ k,k<l.length→f k=A6n l k) :
  S P 238 [.own 1 b 0 l.length,eS v] st fun r st'=>r=eI (idx (fun y:D6=>v.toList==y.toList) l)∧st'=st:=by
 refine G0 [] Tryz.func238 ?_
 refine ⟨[0,1,7,8],fun m vs st'=>∃ i:Nat,i≤l.length∧(∀ k,k<i→(v.toList==(l.getD k default).toList)=false)∧m=l.length - i∧vs=[.own 1 b 0 l.length,eS v,eI l.length,eI i]∧st'=st,?_,?_⟩
 ·conv=>whnf
  exact ⟨_,0,Nat.zero_le _,fun k hk=>absurd hk (by omega),rfl,rfl,rfl⟩
 ·rintro m vs st' ⟨i,hi,hok,rfl,rfl,rfl⟩
  conv=>whnf
  cases h:decide ((i:Int)<(l.length:Int))
  ·have:=of_decide_eq_false h
   conv=>whnf
   refine ⟨?_,rfl⟩
   rw [T3 (p:=fun y:D6=>v.toList==y.toList) fun k hk=>hok k (by omega)];rfl
  ·have hi':i<l.length:=by have:=of_decide_eq_true h;omega
   conv=>whnf
   refine E1 ?_
   refine ldV hb rfl (by omega) (v:=eS (l.getD i default)) (by rw [show 0+(i:Int).toNat=i by omega];exact hf i hi') ?_;conv=>whnf
   cases hp:(v.toList==(l.getD i default).toList)
   ·conv=>whnf
    refine G7 ?_
    refine ⟨l.length - (i+1),by omega,i+1,by omega,fun k hk=>?_,rfl,by rw [B8 (by omega)],rfl⟩
    rcases Nat.lt_succ_iff_lt_or_eq.1 hk with h' | h'
    ·exact hok k h'
    ·rw [h'];exact hp
   ·conv=>whnf
    refine ⟨?_,rfl⟩
    rw [A1z (p:=fun y:D6=>v.toList==y.toList) hi' hok hp];rfl
theorem B9G (l:List D6) (hl:l.length≤100000) (v:D6) (st:St) (b:Nat) (f:Nat→AV) (hb:st b=some ⟨9,1,l.length,f⟩) (hf:∀ k,k<l.length→f k=A6n l k) :
  S P 150 [.own 1 b 0 l.length,eS v] st fun r st'=>r=.bool (inB l v)∧st'=st:=by
 refine G0 [] Tryz.func150 ?_
 refine I2 (B3F l hl v st b f hb hf) ?_
 refine ⟨?_,rfl⟩
 unfold inB
 rw [←A1H];rfl
theorem B3E (v:D6) (st:St):S P 238 [.emp,eS v] st fun r st'=>r=eI (-1)∧st'=st:=by
 refine G0 [] Tryz.func238 ?_
 refine A4I [0,1,7,8] ?_;conv=>whnf
 intro I;conv=>whnf
 exact ⟨rfl,rfl⟩
theorem B9F (v:D6) (st:St):S P 150 [.emp,eS v] st fun r st'=>r=.bool false∧st'=st:=by
 refine G0 [] Tryz.func150 ?_
 refine I2 (B3E v st) ?_
 exact ⟨rfl,rfl⟩
theorem PxR.groups {bx:Nat} {items:List Ab.Item} {p:PSt} {s t:St} (h:PxR bx items p s t) (hg:p.groups.length≤1000):∃ dv gv f,t bx=some ⟨147,4,1,f⟩∧f 0=.agg [B1 4 F1 items,D1 p.us,dv,gv]∧(gv=.emp∨∃ b,gv=.own 1 b 0 p.groups.length) ∧
  ∀ (g:D6),S P 150 [gv,eS g] t fun r t'=>r=.bool (inB p.groups g)∧t'=t:=by
 obtain ⟨⟨dv,gv⟩,h⟩:=h
 obtain ⟨y,⟨f,rfl,hf⟩,hy⟩:=V9.at (A2N _ _ _ _) h
 obtain ⟨_,_,_,hd⟩:=h
 obtain ⟨s0,hc,hg0⟩:=hd
 refine ⟨dv,gv,f,hy,hf,hg0.head,fun g=>?_⟩
 obtain ⟨s1,hc1,hs1⟩:=hg0
 rcases hc1 with ⟨h0,h1,rfl⟩ | ⟨h0,b,g0,hb,h1,rfl,hgg⟩
 ·have:p.groups=[]:=List.eq_nil_of_length_eq_zero h0
  subst h1
  rw [this]
  exact B9F g t
 ·subst h1
  exact B9G p.groups (by omega) g t b g0 (hs1 b _ (A0 ..)) hgg
def goB {σ : Type} (px : σ→PSt) (step : σ→B4→σ) (a : σ) (pr:B4) : σ:=if L7 pr.group||!inB (px a).groups pr.group then step a pr else a
def W9 {σ : Type} (px : σ→PSt) (step : σ→B4→σ) (sm:B4→Bool) (l:List B4) (a : σ) (o:List Int) : σ:=(o.filter fun x=>sm (F8 l x)).foldl (fun a x=>goB px step a (F8 l x)) a
def A1Y (sm:B4→Bool) (l:List B4) (o:List Int) (i:Nat):List QE:=((List.range i).filter fun k=>sm (F8 l (gI o k))).map fun (k:Nat)=>(-(k:Int),gI o k)
theorem A8S (sm:B4→Bool) (l:List B4) (o:List Int) (i:Nat):A1Y sm l o (i+1)=A1Y sm l o i++(if sm (F8 l (gI o i))=true then [(-(i:Int),gI o i)] else []):=by
 unfold A1Y
 rw [List.range_succ,List.filter_append,List.map_append]
 congr 1
 by_cases h:sm (F8 l (gI o i))=true
 ·rw [if_pos h,List.filter_cons_of_pos (p:=fun k=>sm (F8 l (gI o k))) h];rfl
 ·rw [if_neg h,List.filter_cons_of_neg (p:=fun k=>sm (F8 l (gI o k))) h];rfl
theorem B6y (sm:B4→Bool) (l:List B4) (o:List Int) (i:Nat):(A1Y sm l o i).length≤i:=by
 unfold A1Y
 rw [List.length_map]
 exact Nat.le_trans (List.length_filter_le ..) (by simp)
theorem B0B (sm:B4→Bool) (l:List B4) (o:List Int):∀ i,i≤o.length→(A1Y sm l o i).map (·.2)=(o.take i).filter fun x=>sm (F8 l x)
 | 0,_=>by simp [A1Y]
 | i+1,h=>by
  rw [A8S,List.map_append,B0B sm l o i (by omega),J0 (show i<o.length by omega),List.filter_append]
  congr 1
  show List.map (fun x=>x.2) (if sm (F8 l (gI o i))=true then [(-(i:Int),gI o i)] else [])=List.filter (fun x=>sm (F8 l x)) [gI o i]
  by_cases hs:sm (F8 l (gI o i))=true
  ·rw [if_pos hs,List.filter_cons_of_pos (p:=fun x=>sm (F8 l x)) hs];rfl
  ·rw [if_neg hs,List.filter_cons_of_neg (p:=fun x=>sm (F8 l x)) hs];rfl
theorem B1y (sm:B4→Bool) (l:List B4) (o:List Int) (i:Nat):(A1Y sm l o i).Pairwise fun a b=>H1 b a=false:=by
 unfold A1Y
 refine List.Pairwise.map _ (fun a b h=>?_) ((List.pairwise_lt_range (n:=i)).filter _)
 rw [Q7]
 show ¬(-(b:Int) > -(a:Int)∨(-(b:Int) = -(a:Int)∧_))
 omega
theorem B5b {l:List B4} {codes:List D6} {o:List Int} (ho:A7U l codes o) {x:Int} (hx:x∈O4 l o):0≤x∧x.toNat<l.length:=by
 obtain ⟨e,he,rfl⟩:=List.mem_map.1 hx
 have h:=A4p he
 exact A0d (ho.1.subset (B3 h.2))
theorem B7L {σ : Type} {N:Nat} (hN:A3t N) (bx:Nat) (items:List Ab.Item) (R : σ→St→St→Prop) (px : σ→PSt) (hR:∀ a,J8 (R a)) (hmore:∀ a s t t',R a s t→D8 t t'→R a s t') (hP:∀ a s t,R a s t→∃ s',PxR bx items (px a) s' t)
  (l:List B4) (codes:List D6) (hl:l.length≤60) (hc:codes.length≤9223372036854775807) (h20:(places l codes l.length).length≤N)
  (g:FuncId) (cs:List AV) (sm:B4→Bool) (hsome:∀ (pr:B4) (t:St),S P g (C0 pr::cs) t fun v t'=>v=.bool (sm pr)∧t'=t)
  (f:FuncId) (fs ds:List AV) (step : σ→B4→σ) (Inv : σ→Nat→Prop) (hgr:∀ a n,Inv a n→(px a).groups.length≤1000) (hle:∀ a n,Inv a (n+1)→Inv a n)
  (hdo:∀ (a : σ) (n:Nat) (pr:B4) (s t:St),pr∈l→sm pr=true→Inv a (n+1)→R a s t→S P f (fs++[C0 pr]++ds) t fun v t'=>v=.tuple []∧R (step a pr) s t')
  (hinv:∀ (a : σ) (n:Nat) (pr:B4),pr∈l→sm pr=true→Inv a (n+1)→Inv (step a pr) n) (a0 : σ) (hI:Inv a0 60) (s t:St) (h:R a0 s t) :
  S P 78 [.optr 4 bx 0 0,B1 15 C0 l,D2 codes,.fn (.func g) [] cs,.fn (.func f) fs ds] t fun v t'=>v=.tuple []∧∃ o,A7U l codes o∧R (W9 px step sm l a0 (O4 l o)) s t':=by
 refine G0 [] Tryz.func78 ?_
 refine call (B0C t) (fun v t1 hv=>?_)
 obtain ⟨q,rfl,hq⟩:=hv
 conv=>whnf
 refine call (C4b hN l codes hl hc h20 t1) (fun v t2 hv=>?_)
 obtain ⟨⟨o,ho,rfl⟩,rfl⟩:=hv
 have hmem:=fun {x:Int} (hx:x∈O4 l o)=>B5b ho hx
 have hrl:(O4 l o).length≤60:=by
  rw [List.length_map,A4o,ho.1.length_eq]
  have:=W5 l codes l.length;omega
 obtain ⟨r,hr⟩:∃ r:List Int,r=O4 l o:=⟨_,rfl⟩
 rw [←hr] at hrl
 have hmem':∀ x∈r,0≤x∧x.toNat<l.length:=fun x hx=>hmem (by rw [←hr];exact hx)
 have hInvle:∀ (a : σ) (n m:Nat),m≤n→Inv a n→Inv a m:=fun a n m hmn h=>by
  induction n with
  | zero=>have:m=0:=by omega
          subst this;exact h
  | succ n ih =>
   rcases Nat.lt_or_ge n m with h1 | h1
   ·have:m=n+1:=by omega
    subst this;exact h
   ·exact ih h1 (hle a n h)
 have hfin:∀ t',R (W9 px step sm l a0 r) s t'→∃ o,A7U l codes o∧R (W9 px step sm l a0 (O4 l o)) s t':=fun t' h=>⟨o,ho,by rw [←hr];exact h⟩
 have hv:A8 (O4 l o)=A8 r:=by rw [hr]
 rw [hv]
 clear hv
 conv=>whnf
 refine ⟨[0,1,3,4,10,19,20,21],fun m vs t'=>∃ i:Nat,i≤r.length∧m=r.length - i∧vs=[.optr 4 bx 0 0,B1 15 C0 l,.fn (.func g) [] cs,.fn (.func f) fs ds,.optr 1 q 0 0,A8 r,eI r.length,eI i]∧QSt t q true (A1Y sm l r i) t',?_,?_⟩
 ·conv=>whnf
  exact ⟨_,0,Nat.zero_le _,rfl,rfl,hq⟩
 ·clear hq
  rintro m vs t' ⟨i,hi,rfl,rfl,hq⟩
  have hpl:=B6y sm l r i
  conv=>whnf
  cases hd:decide ((i:Int)<(r.length:Int))
  ·have:=of_decide_eq_false hd
   obtain rfl:i=r.length:=by omega
   have hsnd:=B0B sm l r r.length (Nat.le_refl _)
   rw [List.take_length] at hsnd;conv=>whnf
   refine ⟨[0,1,4,10],fun m vs t'=>∃ (a : σ) (rest:List QE) (fl:Bool) (t0:St),m=rest.length∧vs=[.optr 4 bx 0 0,B1 15 C0 l,.fn (.func f) fs ds,.optr 1 q 0 0]∧(rest.map (·.2)).foldl (fun a x=>goB px step a (F8 l x)) a=W9 px step sm l a0 r∧(∀ e∈rest,(0≤e.2∧e.2.toNat<l.length)∧sm (F8 l e.2)=true)∧(rest.Pairwise fun a b=>H1 b a=false)∧Inv a rest.length∧R a s t0∧QSt t0 q fl rest t',?_,?_⟩
   ·conv=>whnf
    refine ⟨_,a0,A1Y sm l r r.length,true,t,rfl,rfl,by rw [hsnd];rfl,fun e he=>?_,B1y sm l r r.length,hInvle a0 60 _ (by omega) hI,h,hq⟩
    have:e.2∈(A1Y sm l r r.length).map (·.2):=List.mem_map_of_mem he
    rw [hsnd] at this
    obtain ⟨h1,h2⟩:=List.mem_filter.1 this
    exact ⟨hmem' _ h1,h2⟩
   ·clear hq
    rintro m vs t' ⟨a,rest,fl,t0,rfl,rfl,hF,hrm,hsort,hIa,hRa,hq⟩
    conv=>whnf
    refine I2 (A8y _ _ _ _ _ hq) ?_
    cases rest with
    | nil =>
     conv=>whnf
     refine ⟨rfl,hfin t' ?_⟩
     rw [←hF]
     exact hmore _ _ _ _ hRa hq.sup
    | cons x rest =>
     rw [List.pairwise_cons] at hsort
     have hx:=hrm x (List.mem_cons_self ..)
     have hlen0:decide (((x::rest).length:Int)>0)=true:=decide_eq_true (by rw [List.length_cons];omega)
     rw [hlen0];conv=>whnf
     refine call (A8z _ _ _ _ _ _ hq hsort.1) (fun v t2 hv=>?_)
     obtain ⟨rfl,hq2⟩:=hv
     have hpr:F8 l x.2∈l:=B3 hx.1.2
     have hgl:=hgr a _ hIa
     obtain ⟨s',hpx⟩:=hP a s t2 (hmore _ _ _ _ hRa hq2.sup)
     obtain ⟨dv,gv,fx,hbx,hfx,hgv,hcont⟩:=hpx.groups hgl
     conv=>whnf
     -- what is behind the round
     have hgo:goB px step a (F8 l x.2)=if L7 (F8 l x.2).group||!inB (px a).groups (F8 l x.2).group then step a (F8 l x.2) else a:=rfl
     have hF2:(rest.map (·.2)).foldl (fun a x=>goB px step a (F8 l x)) (goB px step a (F8 l x.2))=W9 px step sm l a0 r:=by rw [←hF];rfl
     have round:∀ (b : σ) (t3:St),b=goB px step a (F8 l x.2)→Inv b rest.length→(∃ t0',R b s t0'∧QSt t0' q false rest t3)→∃ m',m'<rest.length+1∧∃ (a : σ) (rest_1:List QE) (fl:Bool) (t0:St),m'=rest_1.length∧[AV.optr 4 bx 0 0,B1 15 C0 l,.fn (.func f) fs ds,.optr 1 q 0 0]=[AV.optr 4 bx 0 0,B1 15 C0 l,.fn (.func f) fs ds,.optr 1 q 0 0]∧(rest_1.map (·.2)).foldl (fun a x=>goB px step a (F8 l x)) a=W9 px step sm l a0 r∧(∀ e∈rest_1,(0≤e.2∧e.2.toNat<l.length)∧sm (F8 l e.2)=true)∧(rest_1.Pairwise fun a b=>H1 b a=false)∧Inv a rest_1.length∧R a s t0∧QSt t0 q fl rest_1 t3 :=
      fun b t3 hb hib ⟨t0',h1,h2⟩=>⟨rest.length,Nat.lt_succ_self _,b,rest,false,t0',rfl,rfl,by rw [hb];exact hF2,fun e he=>hrm e (List.mem_cons_of_mem _ he),hsort.2,hib,h1,h2⟩
     -- the call itself
     have doit:∀ K:KK,(∀ t3,(∃ t0',R (step a (F8 l x.2)) s t0'∧QSt t0' q false rest t3)→K (.tuple []) t3)→A1o P f (fs++[C0 (F8 l x.2)]++ds) t2 K:=fun K hK=>by
      refine call (B4T (hR a) (hmore a) (hR _) hRa hq2 (fun u hu=>hdo a rest.length (F8 l x.2) u t2 hpr hx.2 (by simpa using hIa) hu)) (fun v t3 hv=>?_)
      rw [hv.1];exact hK t3 hv.2
     refine ⟨[],[],[0,1,2,3,4,5,6,7,8,9,10,11,12,13,14,15,16,17,18],by kernel_rfl,?_⟩;conv=>whnf
     refine E1 ?_
     have hnil:(ByteArray.toList (l.getD x.2.toNat default).group==ByteArray.toList ⟨#[]⟩)=L7 (F8 l x.2).group:=rfl
     have hyes:(L7 (F8 l x.2).group||!inB (px a).groups (F8 l x.2).group)=true→∀ K:KK,(∀ t3,(∃ (b : σ),b=goB px step a (F8 l x.2)∧Inv b rest.length∧∃ t0',R b s t0'∧QSt t0' q false rest t3)→K (.tuple []) t3)→A1o P f (fs++[C0 (F8 l x.2)]++ds) t2 K:=fun hy K hK =>
      doit K fun t3 h3=>hK t3 ⟨_,by rw [hgo,if_pos hy],hinv a _ _ hpr hx.2 (by simpa using hIa),h3⟩
     rw [hnil]
     cases hg:L7 (F8 l x.2).group with
     | true =>
      conv=>whnf
      refine E1 ?_
      rw [A3Z,A3Z]
      refine hyes (by rw [hg];rfl) _ (fun t3 h3=>?_);conv=>whnf
      refine G7 ?_
      obtain ⟨b,h4,h5,h6⟩:=h3
      exact round b t3 h4 h5 h6
     | false =>
      rcases hgv with rfl | ⟨bg,rfl⟩
      all_goals
       conv=>whnf
       refine F2 hbx hfx ?_
       refine E1 ?_
       refine X9 (hcont (F8 l x.2).group) ?_
       cases hi:inB (px a).groups (F8 l x.2).group with
       | false =>
        conv=>whnf
        refine E1 ?_
        rw [A3Z,A3Z]
        refine hyes (by rw [hi];simp) _ (fun t3 h3=>?_);conv=>whnf
        refine G7 ?_
        obtain ⟨b,h4,h5,h6⟩:=h3
        exact round b t3 h4 h5 h6
       | true =>
        conv=>whnf
        refine G7 ?_
        refine round a t2 (by rw [hgo,if_neg (by rw [hg,hi];simp)]) (hle a _ (by simpa using hIa)) ⟨t0,hRa,hq2⟩
  ·have hi':i<r.length:=by have:=of_decide_eq_true hd;omega
   have hm:=hmem' _ (B3 hi')
   have es:=A8S sm l r i
   conv=>whnf
   refine E1 ?_
   refine ⟨rfl,⟨by show 0≤gI r i;exact hm.1,by show gI r i<(l.length:Int);have h1:=hm.1;have h2:=hm.2;show gI r i<_;have:(gI r i).toNat<l.length:=h2;have:0≤gI r i:=h1;omega⟩,?_⟩;conv=>whnf
   refine I2 (hsome (F8 l (gI r i)) t') ?_
   refine B9 (fun h3=>?_) (fun h3=>?_)<;>rw [h3]
   ·rw [if_pos h3] at es
    have w:IntKind.i64.wrap (0 - (i:Int)) = -(i:Int):=by rw [show 0 - (i:Int) = -(i:Int) by omega];exact A9 (by omega) (by omega)
    conv=>whnf
    rw [w]
    refine call (A7C t q _ (-(i:Int)) (gI r i) _ hq (by omega)) (fun v t2 hv=>?_)
    obtain ⟨rfl,hq'⟩:=hv
    conv=>whnf
    refine G7 ?_
    exact ⟨r.length - (i+1),by omega,i+1,by omega,rfl,by rw [B8 (by omega)],by rw [es];exact hq'⟩
   ·have h3':¬ sm (F8 l (gI r i))=true:=by rw [h3];simp
    rw [if_neg h3',List.append_nil] at es;conv=>whnf
    refine G7 ?_
    exact ⟨r.length - (i+1),by omega,i+1,by omega,rfl,by rw [B8 (by omega)],by rw [es];exact hq⟩
def D4 (r:H8) (codes:List D6) (l:List G1):Int :=
 if P9 r=false then 10 else if A1a codes=false then 2 else N9 (known r.items) l
theorem C1D (r:H8) (codes:List D6) (l:List G1) (hf:Y0 r) (hc:codes.length≤Big) (hi:r.items.length≤9223372036854775807) (st:St) :
  S P 74 [G2 r,D2 codes,B1 3 G4 l] st fun v st'=>v=eI (D4 r codes l)∧st'=st:=by
 refine G0 [3] Tryz.func74 ?_
 refine I2 (C4q r hf st) ?_
 have hP:D4 r codes l=if P9 r=false then 10 else if A1a codes=false then 2 else N9 (known r.items) l:=rfl
 cases h1:P9 r
 ·rw [if_pos h1] at hP;conv=>whnf
  exact ⟨by rw [hP];rfl,rfl⟩
 ·rw [if_neg (by rw [h1];simp)] at hP;conv=>whnf
  refine I2 (C3q codes hc st) ?_
  cases h2:A1a codes
  ·rw [if_pos h2] at hP;conv=>whnf
   exact ⟨by rw [hP];rfl,rfl⟩
  ·rw [if_neg (by rw [h2];simp)] at hP;conv=>whnf
   refine I2 (C3d r.items l hi st) ?_
   exact ⟨by rw [hP];rfl,rfl⟩
abbrev U0 (l:List G1):List B5:=H0 l l.length
structure A6W (items:List Ab.Item) (l:List G1):Prop where
 len:l.length≤1000
 line:∀ x∈l,lineC x=true
 known:∀ x∈l,known items x.sku=true
 units:L2 l≤100000
 gross:J9 l≤10000000000000
theorem C3T {items:List Ab.Item} {l:List G1} (h:N9 (known items) l=0):A6W items l:=by
 unfold N9 at h
 split at h
 ·cases h
 ·rename_i hl
  split at h
  ·rename_i x hx
   split at h<;>cases h
  ·rename_i hf
   have hall:∀ x∈l,J4 (Go.Proofs.YtbajhapmlfbelaaGreat.known items) x=false:=fun x hx=>Bool.eq_false_iff.2 (List.find?_eq_none.1 hf x hx)
   have hb:∀ x∈l,Go.Proofs.YtbajhapmlfbelaaGreat.known items x.sku=true∧lineC x=true:=fun x hx=>by
    have:=hall x hx
    unfold J4 at this
    simpa using this
   split at h
   ·cases h
   ·rename_i hg
    simp only [Bool.or_eq_true,decide_eq_true_eq,not_or] at hg
    exact ⟨by omega,fun x hx=>(hb x hx).2,fun x hx=>(hb x hx).1,by omega,by omega⟩
theorem A6W.may {items:List Ab.Item} {l:List G1} (h:A6W items l):(N9 (fun _=>true) l==0)=true:=by
 have:N9 (fun _=>true) l=0:=by
  unfold N9
  rw [if_neg (by have:=h.len;omega)]
  have hf:l.find? (J4 fun _=>true)=none:=List.find?_eq_none.2 fun x hx=>by
   unfold J4;rw [h.line x hx];simp
  rw [hf]
  simp only
  rw [if_neg]
  have:=h.units
  have:=h.gross
  simp only [Bool.or_eq_true,decide_eq_true_eq,not_or]
  omega
 rw [this];rfl
theorem A1Q (l:List G1) (hl:∀ x∈l,lineC x=true):∀ k,k≤l.length→((H0 l k).length:Int)=L2 (l.take k)∧A7 (E2 (H0 l k))=J9 (l.take k)∧(∀ u∈H0 l k,0≤u.net∧0≤u.line∧u.line.toNat<k∧u.opn=true)
 | 0,_=>⟨rfl,rfl,fun u hu=>by simp [H0] at hu⟩
 | k+1,h=>by
  obtain ⟨h1,h2,h3⟩:=A1Q l hl k (by omega)
  have hx:=(Z9 _).1 (hl _ (B3 (show k<l.length by omega)))
  have eN:L2 (l.take (k+1))=L2 (l.take k)+(l.getD k default).qty:=Q3 (by omega) _ _
  have eG:J9 (l.take (k+1))=J9 (l.take k)+(l.getD k default).qty * (l.getD k default).price:=Q3 (by omega) _ _
  have hup:H0 l (k+1)=H0 l k++List.replicate (l.getD k default).qty.toNat (lnU l k):=rfl
  have hsr:∀ (n:Nat) (c:Int),A7 (List.replicate n c)=n * c:=fun n c=>by
   induction n with
   | zero=>simp [A7]
   | succ n ih=>rw [List.replicate_succ,K5,ih,show ((n+1:Nat):Int)=(n:Int)+1 by omega,Int.add_mul,Int.one_mul];omega
  refine ⟨?_,?_,fun u hu=>?_⟩
  ·rw [hup,List.length_append,List.length_replicate,eN,←h1];omega
  ·unfold E2 at h2 ⊢
   rw [hup,List.map_append,G6,h2,List.map_replicate,hsr,eG]
   show _+((l.getD k default).qty.toNat:Int) * (l.getD k default).price=_
   rw [Int.toNat_of_nonneg hx.1.1]
  ·rw [hup] at hu
   rcases List.mem_append.1 hu with hu | hu
   ·have:=h3 u hu;exact ⟨this.1,this.2.1,by omega,this.2.2.2⟩
   ·rw [List.eq_of_mem_replicate hu]
    refine ⟨hx.2.1,?_,?_,rfl⟩
    ·show (0:Int)≤(k:Int);omega
    ·show ((k:Int)).toNat<k+1;omega
theorem B3K {items:List Ab.Item} {l:List G1} (h:A6W items l):A6j (C3 items l) (U0 l):=by
 obtain ⟨h1,h2,h3⟩:=A1Q l h.line l.length (Nat.le_refl _)
 rw [List.take_length] at h1 h2
 have hN:=h.units
 have hG:=h.gross
 have hlen:(C3 items l).length=l.length:=List.length_map ..
 exact ⟨⟨by show (H0 l l.length).length≤100000;omega,fun u hu=>(h3 u hu).1,by show A7 (E2 (H0 l l.length))≤_;omega⟩,by rw [hlen];have:=h.len;omega,fun u hu=>⟨(h3 u hu).2.1,by rw [hlen];exact (h3 u hu).2.2.1⟩⟩
def C9T (bn n:Nat) (net ship:Int) (y:R9):Prop:=∃ f,y=⟨44,4,1,f⟩∧f 0=.agg [.own 1 bn 0 n,eI net,eI ship,.emp]
def R2 (bx bp bn n:Nat) (items:List Ab.Item) (net:Int) (a:PSt×Int):St→St→Prop:=V9 bp (C9T bn n net a.2) (PxR bx items a.1)
theorem C0y (bx bp bn n:Nat) (items:List Ab.Item) (net:Int) (a:PSt×Int):J8 (R2 bx bp bn n items net a):=Z6 (A4c _ _ _)
theorem R2.more {bx bp bn n:Nat} {items:List Ab.Item} {net:Int} {a:PSt×Int} {s t t':St} (h:R2 bx bp bn n items net a s t) (hs:D8 t t'):R2 bx bp bn n items net a s t':=by
 obtain ⟨h1,y,h2,h3⟩:=h
 exact ⟨h1,y,h2,h3.more hs⟩
def T4 (net:Int) (a:PSt×Int) (pr:B4):PSt×Int:=((A6s a.1 pr net a.2).2,(A6s a.1 pr net a.2).1)
theorem B0R (bx bp bn n:Nat) (items:List Ab.Item) (net:Int) (a:PSt×Int) (pr:B4) (h0:0≤a.2) (h1:a.2≤10000000000000) (hd:a.1.deals.length≤1000) (hg:a.1.groups.length≤1000) (s t:St) (h:R2 bx bp bn n items net a s t) :
  S P 82 [C0 pr,.fptr (.optr 4 bx 0 0) 0,.optr 4 bp 0 0] t fun v t'=>v=.tuple []∧R2 bx bp bn n items net (T4 net a pr) s t':=by
 obtain ⟨hbp,y,⟨f,rfl,hf⟩,hP⟩:=h
 have hat:t bp=some ⟨44,4,1,f⟩:=(A4c _ _ _).sup hP bp _ (A0 ..)
 refine G0 [3] Tryz.func82 ?_
 refine F2 hat hf ?_
 refine F2 hat hf ?_
 refine call (B6N bx items a.1 pr net a.2 h0 h1 hd hg _ t hP) (fun v t2 hv=>?_)
 obtain ⟨rfl,hP2⟩:=hv
 have hat2:t2 bp=some ⟨44,4,1,f⟩:=(A4c _ _ _).sup hP2 bp _ (A0 ..)
 conv=>whnf
 refine N1 hat2 hf ?_
 refine ⟨rfl,?_⟩
 exact V9.set (A4c _ _ _) (Q:=fun y=>y=⟨44,4,1,f⟩) ⟨hbp,_,rfl,hP2⟩ ⟨_,rfl,by rw [A5];rfl⟩
def G8 (us:List B5) (j:Nat):Int:=A7 ((us.filter fun u=>u.line.toNat==j).map B5.net)
def U4 (n:Nat) (us:List B5):List Int:=(List.range n).map (G8 us)
theorem W4 {us:List B5} {k:Nat} (hk:k<us.length) (j:Nat):G8 (us.take (k+1)) j=if (gU us k).line.toNat=j then G8 (us.take k) j+(gU us k).net else G8 (us.take k) j:=by
 unfold G8
 rw [J0 hk,List.filter_append,List.map_append,G6]
 by_cases h:(gU us k).line.toNat=j
 ·rw [if_pos h,List.filter_cons_of_pos (by show ((gU us k).line.toNat==j)=true;rw [h];simp)]
  simp [A7]
 ·rw [if_neg h,List.filter_cons_of_neg (by show ¬((gU us k).line.toNat==j)=true;simpa using h)]
  simp [A7]
theorem A0s {us:List B5} (h:E8 us) (k j:Nat):0≤G8 (us.take k) j∧G8 (us.take k) j≤A7 (E2 us):=by
 have hsub:((us.take k).filter fun u=>u.line.toNat==j).Sublist us:=List.filter_sublist.trans (List.take_sublist _ _)
 have hgen:∀ {a b:List B5},a.Sublist b→(∀ u∈b,0≤u.net)→0≤A7 (a.map B5.net)∧A7 (a.map B5.net)≤A7 (b.map B5.net):=fun {a b} hs=>by
  induction hs with
  | slnil=>intro _;exact ⟨Int.le_refl _,Int.le_refl _⟩
  | cons x _ ih =>
   intro hb
   have h1:=ih fun u hu=>hb u (List.mem_cons_of_mem _ hu)
   have h2:=hb x (List.mem_cons_self ..)
   rw [List.map_cons,K5];omega
  | cons_cons x _ ih =>
   intro hb
   have h1:=ih fun u hu=>hb u (List.mem_cons_of_mem _ hu)
   have h2:=hb x (List.mem_cons_self ..)
   rw [List.map_cons,List.map_cons,K5,K5];omega
 exact hgen hsub h.pos
def S7 (pr:B4):Bool:=!(pr.kind==7)
def Y5 (pr:B4):Bool:=pr.kind==7
def p1B (r:H8) (l:List G1) (o:List Int):PSt:=W9 (fun p=>p) (A4a (C3 r.items l)) S7 r.promos ⟨U0 l,[],[]⟩ o
def N5 (p:PSt):Int:=A7 (E2 p.us)
def p2B (r:H8) (l:List G1) (p1:PSt) (o:List Int):PSt×Int:=W9 (fun a=>a.1) (T4 (N5 p1)) Y5 r.promos (p1,A0C r.ship (U0 l).length (N5 p1)) o
def T7 (r:H8) (l:List G1) (o1 o2:List Int):A1r:=⟨U4 l.length (p1B r l o1).us,N5 (p1B r l o1),(p2B r l (p1B r l o1) o2).2,(p2B r l (p1B r l o1) o2).1.deals⟩
theorem B8A {σ : Type} {px : σ→PSt} {step : σ→B4→σ} {sm:B4→Bool} {l:List B4} {Inv : σ→Nat→Prop} (hle:∀ a n,Inv a (n+1)→Inv a n) (hinv:∀ (a : σ) (n:Nat) (pr:B4),pr∈l→sm pr=true→Inv a (n+1)→Inv (step a pr) n) :
  ∀ (o:List Int) (a : σ) (n:Nat),(∀ x∈o,x.toNat<l.length)→Inv a (n+o.length)→Inv (W9 px step sm l a o) n:=by
 intro o
 unfold W9
 induction o with
 | nil=>intro a n _ h;exact h
 | cons x o ih =>
  intro a n hm h
  have hm':∀ y∈o,y.toNat<l.length:=fun y hy=>hm y (List.mem_cons_of_mem _ hy)
  have hx:F8 l x∈l:=B3 (hm x (List.mem_cons_self ..))
  have h':Inv a ((n+o.length)+1):=by rw [List.length_cons] at h;exact h
  by_cases hs:sm (F8 l x)=true
  ·rw [List.filter_cons_of_pos (p:=fun x=>sm (F8 l x)) hs,List.foldl_cons]
   refine ih _ _ hm' ?_
   unfold goB
   split
   ·exact hinv a _ _ hx hs h'
   ·exact hle _ _ h'
  ·rw [List.filter_cons_of_neg (p:=fun x=>sm (F8 l x)) hs]
   exact ih _ _ hm' (hle _ _ h')
def C3g (items:List Ab.Item) (us0:List B5) (p:PSt) (n:Nat):Prop:=A6j items p.us∧p.deals.length+n≤100∧p.groups.length+n≤100∧∃ x,Off us0 p.us x
def C5j (a:PSt×Int) (n:Nat):Prop:=a.1.deals.length+n≤200∧a.1.groups.length+n≤200∧0≤a.2∧a.2≤10000000000000
theorem B1W {items:List Ab.Item} {us0:List B5} {a:PSt} {n:Nat} {pr:B4} (hfit:P2 pr) (hright:H7 pr=true) (hk:S7 pr=true) (h:C3g items us0 a (n+1)):C3g items us0 (A4a items a pr) n:=by
 obtain ⟨h1,h2,h3,x,h4⟩:=h
 obtain ⟨y,h5⟩:=B3X h1 hfit hright (by simpa [S7] using hk)
 refine ⟨h1.off h5,?_,?_,x+y,h4.trans h5⟩
 ·unfold A4a;split
  ·simp only [A1g,List.length_append,List.length_cons,List.length_nil];omega
  ·omega
 ·unfold A4a;split
  ·simp only [A1g,List.length_append]
   split<;>simp<;>omega
  ·omega
theorem B1X {net:Int} {a:PSt×Int} {n:Nat} {pr:B4} (hright:H7 pr=true) (hk:Y5 pr=true) (h:C5j a (n+1)):C5j (T4 net a pr) n:=by
 obtain ⟨h1,h2,h3,h4⟩:=h
 have hk7:pr.kind=7:=by simpa [Y5] using hk
 have hr:=(A2X hright).ship hk7
 have hb:=S4 a.2 pr.rate
 have hle:=A4q h3 (show 0≤pr.rate by omega) hr.2
 unfold T4 A6s
 split
 ·exact ⟨by show a.1.deals.length+n≤200;omega,by show a.1.groups.length+n≤200;omega,h3,h4⟩
 ·refine ⟨?_,?_,by show 0≤a.2 - J2 a.2 pr.rate;omega,by show a.2 - J2 a.2 pr.rate≤_;omega⟩
  ·show (if J2 a.2 pr.rate>0 then A1g a.1 pr (J2 a.2 pr.rate) else a.1).deals.length+n≤200
   split
   ·simp only [A1g,List.length_append,List.length_cons,List.length_nil];omega
   ·omega
  ·show (if J2 a.2 pr.rate>0 then A1g a.1 pr (J2 a.2 pr.rate) else a.1).groups.length+n≤200
   split
   ·simp only [A1g,List.length_append]
    split<;>simp<;>omega
   ·omega
theorem PxR.deals' {bx:Nat} {items:List Ab.Item} {p:PSt} {s t:St} (h:PxR bx items p s t):∃ dv gv f,t bx=some ⟨147,4,1,f⟩∧f 0=.agg [B1 4 F1 items,D1 p.us,dv,gv] ∧
  ((p.deals=[]∧dv=.emp)∨∃ bd g,dv=.own 2 bd 0 p.deals.length∧s bd=none∧t bd=some ⟨134,2,p.deals.length,g⟩∧∀ k,k<p.deals.length→g k=A1b p.deals k):=by
 obtain ⟨⟨dv,gv⟩,h⟩:=h
 obtain ⟨y,⟨f,rfl,hf⟩,hy⟩:=V9.at (A2N _ _ _ _) h
 obtain ⟨hbx,_,_,hd⟩:=h
 obtain ⟨s0,hc,hg0⟩:=hd
 refine ⟨dv,gv,f,hy,hf,?_⟩
 rcases hc with ⟨h0,h1,rfl⟩ | ⟨h0,b,g0,hb,h1,rfl,hgg⟩
 ·exact .inl ⟨List.eq_nil_of_length_eq_zero h0,h1⟩
 ·refine .inr ⟨b,g0,h1,?_,(A7d _ _).sup hg0 b _ (A0 ..),hgg⟩
  by_cases e:b=bx
  ·subst e;rw [A0] at hb;cases hb
  ·rw [A6 e] at hb;exact hb
structure C3c (r:H8) (codes:List D6) (l:List G1):Prop where
 rules:P9 r=true
 codes:A1a codes=true
 lines:A6W r.items l
 few:r.promos.length≤60
 promo:∀ p∈r.promos,H7 p=true
 fee:0≤r.ship.fee∧r.ship.fee≤1000000000
theorem A4f {r:H8} {codes:List D6} {l:List G1} (h:D4 r codes l=0):C3c r codes l:=by
 unfold D4 at h
 split at h
 ·cases h
 ·rename_i h1
  split at h
  ·cases h
  ·rename_i h2
   have hr:P9 r=true:=by simpa using h1
   have hr':=hr
   unfold P9 at hr'
   simp only [Bool.and_eq_true] at hr'
   obtain ⟨⟨⟨⟨_,hp⟩,_⟩,hs⟩,_⟩:=hr'
   unfold promosC at hp
   simp only [Bool.and_eq_true,decide_eq_true_eq] at hp
   have hs':Q9 0 1000000000 r.ship.fee=true:=by
    unfold A8T at hs
    simp only [Bool.and_eq_true] at hs
    exact hs.1
   refine ⟨hr,by simpa using h2,C3T h,by omega,fun p hm=>?_,J5.1 hs'⟩
   obtain ⟨k,hk,rfl⟩:=E3 hm
   have:=A3w.1 hp.2 k hk
   unfold U2 at this
   simp only [Bool.and_eq_true] at this
   exact this.1
def C5n (r:H8) (codes:List D6) (l:List G1) (v:AV):Prop :=
 (D4 r codes l≠0∧v=.tuple [P1 ⟨[],0,0,[]⟩,eI (D4 r codes l)]) ∨
 (D4 r codes l=0∧∃ o1 o2,A7U r.promos codes o1∧A7U r.promos codes o2∧v=.tuple [P1 (T7 r l (O4 r.promos o1) (O4 r.promos o2)),eI 0])
theorem price_S {N:Nat} (hN:A3t N) (r:H8) (codes:List D6) (l:List G1) (hf:Y0 r) (hc:codes.length≤Big) (hi:r.items.length≤9223372036854775807) (h20:(places r.promos codes r.promos.length).length≤N) (st:St) :
  S P 18 [G2 r,D2 codes,B1 3 G4 l] st fun v st'=>C5n r codes l v∧st'=st:=by
 refine S.post (post:=fun v st'=>(D4 r codes l≠0∧v=.tuple [.agg [.emp,eI 0,eI 0,.emp],eI (D4 r codes l)]∧D8 st st') ∨
   (D4 r codes l=0∧∃ o1 o2 bn fn dv,A7U r.promos codes o1∧A7U r.promos codes o2∧v=.tuple [.agg [.own 1 bn 0 l.length,eI (T7 r l (O4 r.promos o1) (O4 r.promos o2)).net,eI (T7 r l (O4 r.promos o1) (O4 r.promos o2)).ship,dv],eI 0] ∧
    st bn=none∧st' bn=some ⟨2,1,l.length,fn⟩∧(∀ k,k<l.length→fn k=eI (gI (T7 r l (O4 r.promos o1) (O4 r.promos o2)).nets k))∧D8 st st' ∧
    (((T7 r l (O4 r.promos o1) (O4 r.promos o2)).deals=[]∧dv=.emp)∨∃ bd g,dv=.own 2 bd 0 (T7 r l (O4 r.promos o1) (O4 r.promos o2)).deals.length∧st bd=none∧bd≠bn∧st' bd=some ⟨134,2,(T7 r l (O4 r.promos o1) (O4 r.promos o2)).deals.length,g⟩∧∀ k,k<(T7 r l (O4 r.promos o1) (O4 r.promos o2)).deals.length→g k=A1b (T7 r l (O4 r.promos o1) (O4 r.promos o2)).deals k))) ?_
  (fun v st' hv=>by
   rcases hv with ⟨h1,rfl,hs⟩ | ⟨h1,o1,o2,bn,fn,dv,h2,h3,rfl,h4,h5,h6,hs,h7⟩
   ·refine ⟨_,st,⟨.inl ⟨h1,rfl⟩,rfl⟩,(hs.shift _).trans (B0.tuple (B0.cons (B0.agg ?_) (B0.keep _ _)) rfl)⟩
    exact B0.cons (K4 1 _) (B0.cons (B0.keep [eI 0] _) (B0.cons (B0.keep [eI 0] _) (K4 2 _)))
   ·refine ⟨_,st,⟨.inr ⟨h1,o1,o2,h2,h3,rfl⟩,rfl⟩,B0.tuple (B0.cons (B0.agg ?_) (B0.keep _ _)) rfl⟩
    have hnl:(T7 r l (O4 r.promos o1) (O4 r.promos o2)).nets.length=l.length:=by show (U4 _ _).length=_;unfold U4;rw [List.length_map,List.length_range]
    generalize T7 r l (O4 r.promos o1) (O4 r.promos o2)=X at *
    have e1:A8 X.nets=.arr 1 l.length (fun k=>eI (gI X.nets k)):=by unfold A8 B1;rw [hnl]
    refine B0.cons (t:=del st' bn) ?_ (B0.cons (B0.keep [eI X.net] _) (B0.cons (B0.keep [eI X.ship] _) ?_))
    ·rw [e1];exact G5 h5 rfl (Nat.le_refl _) h6
    ·rcases h7 with ⟨h8,rfl⟩ | ⟨bd,g,rfl,h8,h9,h10,h11⟩
     ·rw [h8]
      exact ((D8.del hs h4).shift _).trans (K4 2 _)
     ·refine (G5 (b:=bd) (y:=⟨134,2,X.deals.length,g⟩) (f:=A1b X.deals) (by rw [A1U h9];exact h10) rfl (Nat.le_refl _) h11).trans ?_
      exact (D8.del (D8.del hs h4) h8).shift _)
 refine G0 [3,9,10,13] Tryz.func18 ?_
 intro b6 hb6;conv=>whnf
 refine I2 (C1D r codes l hf hc hi _) ?_
 have h6s:∀ x:R9,D8 st (upd st b6 x):=fun x=>(D8.refl st).upd hb6
 cases h1:(D4 r codes l != 0)
 ·have hk0:D4 r codes l=0:=by simpa using h1
  have hck:=A4f hk0
  have hln:=hck.lines
  have hlen:=hln.len
  have hus0:=B3K hln
  obtain ⟨u1,u2,u3⟩:=A1Q l hln.line l.length (Nat.le_refl _)
  have hitl:(C3 r.items l).length=l.length:=List.length_map ..
  have hmo:=fun {o:List Int} (ho:A7U r.promos codes o)=>(show (O4 r.promos o).length≤60 by
   rw [List.length_map,A4o,ho.1.length_eq]
   have:=W5 r.promos codes r.promos.length
   have:=hck.few;omega)
  conv=>whnf
  refine I2 (A5S r.items l hi hlen hln.known _) ?_
  refine I2 (C4H l hlen (fun x hx=>((Z9 x).1 (hln.line x hx)).1) hus0.ok.len hln.may _) ?_
  generalize hs6:(upd st b6 _)=s6 at *
  have h6:s6 b6=some ⟨44,4,1,fun _=>H4 r44.zero⟩:=by rw [←hs6];exact A0 ..
  have hBig:(Big:Nat)≤9223372036854775807:=by decide
  have hst6:D8 st s6:=by rw [←hs6];exact h6s _
  intro bx hbx;conv=>whnf
  have hP0:PxR bx (C3 r.items l) ⟨U0 l,[],[]⟩ s6 (upd s6 bx ⟨147,4,1,fun _=>.agg [B1 4 F1 (C3 r.items l),D1 (U0 l),.emp,.emp]⟩) :=
   PxR.mk' hbx rfl (ROut.start (ROut.start (D8.refl _) _ _ _) _ _ _)
  refine call (B7L (σ:=PSt) hN bx (C3 r.items l) (PxR bx (C3 r.items l)) (fun p=>p) (A4c bx (C3 r.items l)) (fun a s t t' h hs=>h.more hs) (fun a s t h=>⟨s,h⟩) r.promos codes hck.few (Nat.le_trans hc hBig) h20 79 [.fptr (.fn (.func 77) [] []) 0] S7 (fun pr t=>C1v pr t)
   80 [.optr 4 bx 0 0] [] (A4a (C3 r.items l)) (C3g (C3 r.items l) (U0 l)) (fun a n h=>by have:=h.2.2.1;omega) (fun a n h=>⟨h.1,by have:=h.2.1;omega,by have:=h.2.2.1;omega,h.2.2.2⟩)
   (fun a n pr s t hm hs hI h=>C6J bx (C3 r.items l) a pr (hf.fit pr hm) (hck.promo pr hm) (by simpa [S7] using hs) hI.1 (by have:=hI.2.1;omega) (by have:=hI.2.2.1;omega) s t h)
   (fun a n pr hm hs hI=>B1W (hf.fit pr hm) (hck.promo pr hm) hs hI) ⟨U0 l,[],[]⟩ ⟨hus0,by simp,by simp,0,Off.refl hus0.ok⟩ s6 _ hP0) (fun v t1 hv=>?_)
  obtain ⟨rfl,o1,ho1,hP1⟩:=hv
  have hp1:W9 (fun p=>p) (A4a (C3 r.items l)) S7 r.promos ⟨U0 l,[],[]⟩ (O4 r.promos o1)=p1B r l (O4 r.promos o1):=rfl
  have hI1:C3g (C3 r.items l) (U0 l) (p1B r l (O4 r.promos o1)) 40:=B8A (fun a n h=>⟨h.1,by have:=h.2.1;omega,by have:=h.2.2.1;omega,h.2.2.2⟩) (fun a n pr hm hs hI=>B1W (hf.fit pr hm) (hck.promo pr hm) hs hI) (O4 r.promos o1) ⟨U0 l,[],[]⟩ 40 (fun x hx=>(B5b ho1 hx).2) ⟨hus0,by have:=hmo ho1;show 0+(40+(O4 r.promos o1).length)≤100;omega,by have:=hmo ho1;show 0+(40+(O4 r.promos o1).length)≤100;omega,0,Off.refl hus0.ok⟩
  rw [hp1] at hP1
  have hQ:∀ o2,T7 r l (O4 r.promos o1) (O4 r.promos o2)=⟨U4 l.length (p1B r l (O4 r.promos o1)).us,N5 (p1B r l (O4 r.promos o1)),(p2B r l (p1B r l (O4 r.promos o1)) (O4 r.promos o2)).2,(p2B r l (p1B r l (O4 r.promos o1)) (O4 r.promos o2)).1.deals⟩:=fun _=>rfl
  generalize p1B r l (O4 r.promos o1)=p1 at *
  obtain ⟨hus1,hd1,hg1,xoff,hoff⟩:=hI1
  have hul1:p1.us.length=(U0 l).length:=hoff.len
  have hu1:=hus1.ok
  have hul:=hu1.len
  have hus:=hu1.sum
  have hnet0:=C4 hu1.nets0
  have hBP:=A4c bx (C3 r.items l) p1
  conv=>whnf
  refine mkO rfl rfl rfl (by show 8 * l.length≤_;omega) (by omega) (by rfl) (fun bn hbn=>?_);conv=>whnf
  intro bp hbp
  have hnb:bn≠bp:=fun e=>by subst e;rw [A0] at hbp;cases hbp
  have hbp1:t1 bp=none:=by rw [A6 hnb.symm] at hbp;exact hbp
  have hbn6:s6 bn=none:=(hBP.sup hP1).none hbn
  have hbp6:s6 bp=none:=(hBP.sup hP1).none hbp1
  conv=>whnf
  refine N1 (A0 ..) rfl ?_
  -- the pricer,what the lines come to,what is made of it
  have hP2:=fun (Y Z:R9)=>hBP.begin (y:=Z) (hBP.begin (y:=Y) hP1 hbn) (by rw [A6 hnb.symm];exact hbp1)
  have hload:∀ {Y Z:R9} {t:St},PxR bx (C3 r.items l) p1 (upd (upd s6 bn Y) bp Z) t→t bn=some Y∧t bp=some Z:=fun h=>⟨hBP.sup h bn _ (by rw [A6 hnb,A0]),hBP.sup h bp _ (A0 ..)⟩
  have hwn:∀ {Y Z Y':R9} {t:St},PxR bx (C3 r.items l) p1 (upd (upd s6 bn Y) bp Z) t→PxR bx (C3 r.items l) p1 (upd (upd s6 bn Y') bp Z) (upd t bn Y'):=fun {Y Z Y' t} h=>by
   have:=hBP.write (b:=bn) (y':=Y') h (by rw [A6 hnb,A0])
   rw [Q8 hnb.symm,B7] at this;exact this
  have hwp:∀ {Y Z Z':R9} {t:St},PxR bx (C3 r.items l) p1 (upd (upd s6 bn Y) bp Z) t→PxR bx (C3 r.items l) p1 (upd (upd s6 bn Y) bp Z') (upd t bp Z'):=fun {Y Z Z' t} h=>by
   have:=hBP.write (b:=bp) (y':=Z') h (A0 ..)
   rw [B7] at this;exact this
  have hP3:=hP2 ⟨2,1,l.length,fun _=>H4 r2.zero⟩ ⟨44,4,1,fun _=>H4 r44.zero⟩
  have hP4:=hwp (Z':=⟨44,4,1,C9 (fun _=>H4 r44.zero) 0 (.agg [.own 1 bn 0 l.length,eI 0,eI 0,.emp])⟩) hP3
  obtain ⟨dv1,gv1,fx1,hx1,hfx1,_,_⟩:=hP4.at
  refine F2 hx1 hfx1 ?_
  have hline:∀ k,k<p1.us.length→0≤(gU p1.us k).line∧(gU p1.us k).line.toNat<l.length:=fun k hk=>by
   have:=hus1.line _ (B3 hk)
   rw [hitl] at this;exact this
  refine ⟨[1,3,6,9,10,11,45,46,47],fun m vs t=>∃ (k:Nat) (fn fp:Nat→AV),k≤p1.us.length∧m=p1.us.length - k∧vs=[D2 codes,.fptr (G2 r) 0,.optr 4 b6 0 0,.fptr (.optr 4 bx 0 0) 0,.fptr (.fn (.func 77) [] []) 0,.optr 4 bp 0 0,D1 p1.us,eI p1.us.length,eI k] ∧
   PxR bx (C3 r.items l) p1 (upd (upd s6 bn ⟨2,1,l.length,fn⟩) bp ⟨44,4,1,fp⟩) t∧fp 0=.agg [.own 1 bn 0 l.length,eI (A7 ((E2 p1.us).take k)),eI 0,.emp]∧∀ j,j<l.length→fn j=eI (G8 (p1.us.take k) j),?_,?_⟩
  ·conv=>whnf
   exact ⟨_,0,_,_,Nat.zero_le _,rfl,rfl,hP4,A5 ..,fun j _=>rfl⟩
  ·clear hP4 hP3 hx1 hfx1 hP2
   rintro m vs t ⟨k,fn,fp,hk,rfl,rfl,hP,hfp,hfn⟩
   obtain ⟨htn,htp⟩:=hload hP
   conv=>whnf
   cases hd:decide ((k:Int)<(p1.us.length:Int))
   ·have:=of_decide_eq_false hd
    obtain rfl:k=p1.us.length:=by omega
    rw [List.take_length] at hfn
    have htk:(E2 p1.us).take p1.us.length=E2 p1.us:=by rw [←List.length_map (f:=B5.net),List.take_length]
    rw [htk] at hfp;conv=>whnf
    obtain ⟨dv1,gv1,fx1,hx1,hfx1,_,_⟩:=hP.at
    refine ⟨[11],[],[0,1,2,3,4,5,6,7,8,9,10,11],by kernel_rfl,?_⟩;conv=>whnf
    refine F2 hx1 hfx1 ?_
    refine F2 htp hfp ?_
    refine X9 (C6Q r.ship p1.us.length (N5 p1) t) ?_
    refine N1 htp hfp ?_
    have hP5:=hwp (Z':=⟨44,4,1,C9 fp 0 (.agg [.own 1 bn 0 l.length,eI (N5 p1),eI (A0C r.ship p1.us.length (N5 p1)),.emp])⟩) hP
    have hfee:0≤A0C r.ship p1.us.length (N5 p1)∧A0C r.ship p1.us.length (N5 p1)≤10000000000000:=by
     have:=hck.fee
     unfold A0C;split<;>omega
    generalize hfe:A0C r.ship p1.us.length (N5 p1)=fee at *
    have hR2:R2 bx bp bn l.length (C3 r.items l) (N5 p1) (p1,fee) (upd s6 bn ⟨2,1,l.length,fn⟩) (upd t bp ⟨44,4,1,C9 fp 0 (.agg [.own 1 bn 0 l.length,eI (N5 p1),eI fee,.emp])⟩):=⟨by rw [A6 hnb.symm];exact hbp6,_,⟨_,rfl,A5 ..⟩,hP5⟩
    refine call (B7L (σ:=PSt×Int) hN bx (C3 r.items l) (R2 bx bp bn l.length (C3 r.items l) (N5 p1)) (fun a=>a.1) (C0y bx bp bn l.length (C3 r.items l) (N5 p1)) (fun a s t t' h hs=>h.more hs) (fun a s t h=>⟨_,h.2.choose_spec.2⟩) r.promos codes hck.few (Nat.le_trans hc hBig) h20 77 [] Y5 (fun pr t=>B4p pr t)
     82 [] [.fptr (.optr 4 bx 0 0) 0,.optr 4 bp 0 0] (T4 (N5 p1)) C5j (fun a n h=>by have:=h.2.1;omega) (fun a n h=>⟨by have:=h.1;omega,by have:=h.2.1;omega,h.2.2⟩)
     (fun a n pr s t hm hs hI h=>B0R bx bp bn l.length (C3 r.items l) (N5 p1) a pr hI.2.2.1 hI.2.2.2 (by have:=hI.1;omega) (by have:=hI.2.1;omega) s t h)
     (fun a n pr hm hs hI=>B1X (hck.promo pr hm) hs hI) (p1,fee) ⟨by show p1.deals.length+60≤200;omega,by show p1.groups.length+60≤200;omega,hfee⟩ (upd s6 bn ⟨2,1,l.length,fn⟩) _ hR2) (fun v t2 hv=>?_)
    obtain ⟨rfl,o2,ho2,hR3⟩:=hv
    have hp2:W9 (fun a:PSt×Int=>a.1) (T4 (N5 p1)) Y5 r.promos (p1,fee) (O4 r.promos o2)=p2B r l p1 (O4 r.promos o2):=by
     unfold p2B;rw [←hfe,hul1]
    rw [hp2] at hR3
    have hQ2:=hQ o2
    generalize p2B r l p1 (O4 r.promos o2)=a2 at *
    obtain ⟨hbp7,y,⟨f7,rfl,hf7⟩,hP7⟩:=hR3
    have hBP7:=A4c bx (C3 r.items l) a2.1
    have h7p:t2 bp=some ⟨44,4,1,f7⟩:=hBP7.sup hP7 bp _ (A0 ..)
    have h7n:t2 bn=some ⟨2,1,l.length,fn⟩:=hBP7.sup hP7 bn _ (by rw [A6 hnb,A0])
    have h76:D8 s6 t2:=fun c x hc=>hBP7.sup hP7 c x (by
     have e1:c≠bp:=fun e=>by subst e;rw [hbp6] at hc;cases hc
     have e2:c≠bn:=fun e=>by subst e;rw [hbn6] at hc;cases hc
     rw [A6 e1,A6 e2];exact hc)
    have h6b:=h76 b6 _ h6
    have hb6p:b6≠bp:=fun e=>by subst e;rw [h6] at hbp6;cases hbp6
    have hb6n:b6≠bn:=fun e=>by subst e;rw [h6] at hbn6;cases hbn6
    have hstn:st bn=none:=hst6.none hbn6
    have hstp:st bp=none:=hst6.none hbp6
    obtain ⟨dv,gv,fx,hx2,hfx2,hdl⟩:=hP7.deals'
    have hS2:D8 st t2:=hst6.trans h76
    conv=>whnf
    refine ldV hx2 rfl (by omega) hfx2 ?_
    rcases hdl with ⟨hd0,rfl⟩ | ⟨bd,gd,rfl,hbd,hbt,hgd⟩
    ·conv=>whnf
     refine N1 h7p hf7 ?_
     refine F2 (A0 ..) (A5 ..) ?_
     refine N1 (by rw [A6 hb6p];exact h6b) rfl ?_
     refine F2 (A0 ..) (A5 ..) ?_
     refine .inr ⟨hk0,o1,o2,bn,fn,.emp,ho1,ho2,?_,hstn,?_,?_,((hS2.over hstp).over hb6),.inl ⟨?_,rfl⟩⟩
     ·rw [hQ2];rfl
     ·rw [A6 hb6n.symm,A6 hnb];exact h7n
     ·intro k hk
      rw [hQ2,hfn k hk]
      show eI _=eI (gI (U4 l.length p1.us) k)
      unfold U4
      rw [L5 _ hk]
     ·rw [hQ2];exact hd0
    ·have hbdp:bd≠bp:=fun e=>by subst e;rw [A0] at hbd;cases hbd
     rw [A6 hbdp] at hbd
     have hbdn:bd≠bn:=fun e=>by subst e;rw [A0] at hbd;cases hbd
     rw [A6 hbdn] at hbd
     have hbd6:bd≠b6:=fun e=>by subst e;rw [h6] at hbd;cases hbd
     conv=>whnf
     refine N1 h7p hf7 ?_
     refine F2 (A0 ..) (A5 ..) ?_
     refine N1 (by rw [A6 hb6p];exact h6b) rfl ?_
     refine F2 (A0 ..) (A5 ..) ?_
     refine .inr ⟨hk0,o1,o2,bn,fn,.own 2 bd 0 a2.1.deals.length,ho1,ho2,?_,hstn,?_,?_,((hS2.over hstp).over hb6),.inr ⟨bd,gd,?_,hst6.none hbd,hbdn,?_,?_⟩⟩
     ·rw [hQ2];rfl
     ·rw [A6 hb6n.symm,A6 hnb];exact h7n
     ·intro k hk
      rw [hQ2,hfn k hk]
      show eI _=eI (gI (U4 l.length p1.us) k)
      unfold U4
      rw [L5 _ hk]
     ·rw [hQ2]
     ·rw [A6 hbd6,A6 hbdp,hQ2];exact hbt
     ·rw [hQ2];exact hgd
   ·have hk':k<p1.us.length:=by have:=of_decide_eq_true hd;omega
    have hlk:=hline k hk'
    have hn0:0≤(gU p1.us k).net:=hu1.at0 k
    have hn1:(gU p1.us k).net≤10000000000000:=hu1.le (B3 hk')
    have e1:=L6 (l:=E2 p1.us) (i:=k) (by rw [List.length_map];exact hk')
    have e4:gI (E2 p1.us) k=(gU p1.us k).net:=E6 B5.net p1.us hk'
    have e2:=K1 hu1.nets0 (k+1)
    have e3:=C4 (l:=(E2 p1.us).take k) (fun x hx=>hu1.nets0 x (List.take_subset _ _ hx))
    have hlb:=A0s hu1 k (gU p1.us k).line.toNat
    have hlb2:=A0s hu1 (k+1) (gU p1.us k).line.toNat
    have hln1:=W4 hk' (gU p1.us k).line.toNat
    rw [if_pos rfl] at hln1
    have hfl:fn (0+(gU p1.us k).line.toNat)=eI (G8 (p1.us.take k) (gU p1.us k).line.toNat):=by rw [Nat.zero_add];exact hfn _ hlk.2
    have w1:IntKind.i64.wrap (G8 (p1.us.take k) (gU p1.us k).line.toNat+(gU p1.us k).net)=G8 (p1.us.take (k+1)) (gU p1.us k).line.toNat:=by rw [hln1];exact A9 (by omega) (by omega)
    have w2:IntKind.i64.wrap (A7 ((E2 p1.us).take k)+(gU p1.us k).net)=A7 ((E2 p1.us).take (k+1)):=by rw [e1,e4];exact A9 (by omega) (by omega)
    conv=>whnf
    refine E1 ?_
    refine ⟨[10],[],[0,1,2,3,4,5,6,7,8,9,10],by kernel_rfl,?_⟩;conv=>whnf
    refine F2 htp hfp ?_
    refine ⟨rfl,⟨by show 0≤(gU p1.us k).line;exact hlk.1,by show (gU p1.us k).line<(l.length:Int);have:=hlk.2;have:=hlk.1;omega⟩,?_⟩;conv=>whnf
    refine ldV htn rfl (by show 0+(gU p1.us k).line.toNat<_;have:=hlk.2;omega) hfl ?_;conv=>whnf
    refine ⟨rfl,⟨by show 0≤(gU p1.us k).line;exact hlk.1,by show (gU p1.us k).line<(l.length:Int);have:=hlk.2;have:=hlk.1;omega⟩,?_⟩;conv=>whnf
    refine stV htn rfl (by show 0+(gU p1.us k).line.toNat<_;have:=hlk.2;omega) hfl (by rfl) ?_
    have hP5:=hwn (Y':=⟨2,1,l.length,C9 fn (0+(gU p1.us k).line.toNat) (eI (G8 (p1.us.take (k+1)) (gU p1.us k).line.toNat))⟩) hP
    rw [←w1] at hP5
    obtain ⟨_,htp2⟩:=hload hP5
    conv=>whnf
    refine F2 htp2 hfp ?_
    refine N1 htp2 hfp ?_
    refine G7 ?_
    refine ⟨p1.us.length - (k+1),by omega,k+1,_,_,by omega,rfl,by rw [B8 (by omega)],hwp hP5,?_,fun j hj=>?_⟩
    ·rw [A5,←w2];rfl
    ·show C9 fn (0+(gU p1.us k).line.toNat) _ j=_
     rw [Nat.zero_add]
     rw [W4 hk' j]
     by_cases hj2:j=(gU p1.us k).line.toNat
     ·subst hj2
      rw [if_pos rfl,A5,w1,hln1]
     ·rw [H3 hj2,if_neg (fun e=>hj2 e.symm)];exact hfn j hj
 ·have hk0:D4 r codes l≠0:=by simpa using h1
  conv=>whnf
  refine N1 (A0 ..) rfl ?_
  refine F2 (A0 ..) (A5 ..) ?_
  exact .inl ⟨hk0,rfl,(h6s _).over hb6⟩
end Go.Proofs.YtbajhapmlfbelaaGreat
namespace Go.Proofs.YtbajhapmlfbelaaGreat
open Go Go.Ab
def A8e (t:Tax) (rate:Int):Int:=10000+(if t.incl=true then rate else 0)
def B6 (t:Tax) (x rate:Int):Int:=(V8 x rate (A8e t rate) t.round).1
theorem B9s {q r den round x:Int} (h:q * den+r≤x * den) (h0:0≤r) (h1:r<den):q≤x∧S6 q r den round≤x:=by
 have hq:q≤x:=by
  rcases Int.lt_or_le x q with e | e
  ·have:(x+1) * den≤q * den:=Int.mul_le_mul_of_nonneg_right (by omega) (by omega)
   rw [Int.add_mul,Int.one_mul] at this;omega
  ·exact e
 refine ⟨hq,?_⟩
 by_cases e:q=x
 ·subst e
  have hr:r=0:=by omega
  subst hr
  unfold S6
  split
  ·omega
  ·split
   ·split<;>omega
   ·split
    ·rename_i h2;omega
    ·omega
 ·unfold S6
  split
  ·omega
  ·split<;>split<;>omega
theorem B9r {q r den round:Int} (h:0≤q):0≤S6 q r den round:=by
 unfold S6
 split
 ·omega
 ·split<;>split<;>omega
theorem C2F {x num den round:Int} (hx:0≤x) (hn:0≤num) (hd:num≤den) (h0:0<den):0≤(V8 x num den round).1∧(V8 x num den round).1≤x:=by
 have h1:0≤x * num:=Int.mul_nonneg hx hn
 have h2:x * num≤x * den:=Int.mul_le_mul_of_nonneg_left hd hx
 have e1:=Int.mul_ediv_add_emod (x * num) den
 have e2:=Int.emod_nonneg (x * num) (show den≠0 by omega)
 have e3:=Int.emod_lt_of_pos (x * num) h0
 have e4:0≤x * num / den:=Int.ediv_nonneg h1 (by omega)
 have h3:=B9s (q:=x * num / den) (r:=x * num % den) (den:=den) (round:=round) (x:=x) (by rw [Int.mul_comm (x * num / den) den];omega) e2 e3
 have h4:=B9r (q:=x * num / den) (r:=x * num % den) (den:=den) (round:=round) e4
 unfold V8
 split
 ·exact ⟨Int.le_refl _,hx⟩
 ·split
  ·exact ⟨Int.le_refl _,hx⟩
  ·split
   ·exact ⟨Int.le_refl _,hx⟩
   ·exact ⟨h4,h3.2⟩
theorem A2U {t:Tax} {x rate:Int} (hx:0≤x) (hr:0≤rate∧rate≤10000):0≤B6 t x rate∧B6 t x rate≤x:=by
 refine C2F hx hr.1 ?_ ?_
 ·unfold A8e;split<;>omega
 ·unfold A8e;split<;>omega
def X7 (l:List L3) (s:D6):Option L3:=l.find? fun z=>z.name.toList==s.toList
def E7 (z:L3) (c:D6):Int:=match z.rates.find? (fun x=>x.cat.toList==c.toList) with
 | some x=>x.rate
 | none=>z.rest
theorem A5K {z:L3} (h:V0 z=true):(0≤z.rest∧z.rest≤10000)∧(0≤z.ship∧z.ship≤10000)∧z.rates.length≤40∧∀ x∈z.rates,0≤x.rate∧x.rate≤10000:=by
 unfold V0 at h
 simp only [Bool.and_eq_true,Bool.not_eq_true',Bool.or_eq_false_iff,decide_eq_false_iff_not,Bool.not_eq_false'] at h
 obtain ⟨⟨⟨⟨h1,h2⟩,h3⟩,h4⟩,h5,h6⟩:=h
 refine ⟨J5.1 h2,J5.1 h3,by omega,fun x hx=>?_⟩
 obtain ⟨k,hk,rfl⟩:=E3 hx
 have:=A3w.1 h5 k hk
 unfold A3H at this
 simp only [Bool.not_eq_true',Bool.or_eq_false_iff,Bool.not_eq_false'] at this
 exact J5.1 this.2
theorem B5a {z:L3} (h:V0 z=true) (c:D6):0≤E7 z c∧E7 z c≤10000:=by
 obtain ⟨h1,h2,h3,h4⟩:=A5K h
 unfold E7
 split
 ·rename_i x hx;exact h4 x (List.mem_of_find?_eq_some hx)
 ·exact h1
def R7 (t:Tax) (rates nets:List Int):List Int:=(List.range nets.length).map fun i=>B6 t (gI nets i) (gI rates i)
def A7r (rates:List Int) (i:Nat):List Nat:=(List.range rates.length).filter fun k=>gI rates k==gI rates i
def I5 (rates nets:List Int) (i:Nat):List Int:=(A7r rates i).map (gI nets)
def A0a (rates:List Int) (i:Nat):Nat:=((List.range i).filter fun k=>gI rates k==gI rates i).length
def A1i (t:Tax) (rates nets:List Int) (i:Nat):Int:=gI (D7 (B6 t (A7 (I5 rates nets i)) (gI rates i)) (I5 rates nets i)) (A0a rates i)
def F7 (t:Tax) (rates nets:List Int):List Int:=(List.range nets.length).map (A1i t rates nets)
def I6 (t:Tax) (rates nets:List Int):List Int:=if t.byOrder=true then F7 t rates nets else R7 t rates nets
structure A3V (nets:List Int):Prop where
 len:nets.length≤1000
 pos:∀ x∈nets,0≤x
 sum:A7 nets≤10000000000000
theorem B0Y {a b:List Int} (hs:a.Sublist b) (hb:∀ x∈b,0≤x):A7 a≤A7 b:=by
 induction hs with
 | slnil=>exact Int.le_refl _
 | cons x _ ih =>
  have h1:=ih fun u hu=>hb u (List.mem_cons_of_mem _ hu)
  have h2:=hb x (List.mem_cons_self ..)
  rw [K5];omega
 | cons_cons x _ ih =>
  have h1:=ih fun u hu=>hb u (List.mem_cons_of_mem _ hu)
  rw [K5,K5];omega
theorem A5s (l:List Int):(List.range l.length).map (gI l)=l:=by
 refine List.ext_getElem (by rw [List.length_map,List.length_range]) fun i h1 h2=>?_
 rw [List.getElem_map,List.getElem_range];unfold gI;rw [List.getD_eq_getElem?_getD,List.getElem?_eq_getElem h2];rfl
theorem A5i {rates nets:List Int} (hn:A3V nets) (hr:rates.length=nets.length) (i:Nat):(I5 rates nets i).length≤1000∧(∀ x∈I5 rates nets i,0≤x)∧0≤A7 (I5 rates nets i)∧A7 (I5 rates nets i)≤10000000000000:=by
 have hsub:(I5 rates nets i).Sublist nets:=by
  have h1:(I5 rates nets i).Sublist ((List.range nets.length).map (gI nets)):=by
   unfold I5 A7r
   rw [hr]
   exact List.filter_sublist.map _
  rw [A5s] at h1;exact h1
 have hp:∀ x∈I5 rates nets i,0≤x:=fun x hx=>hn.pos x (hsub.subset hx)
 have h2:=hsub.length_le
 have h3:=hn.len
 have h4:=B0Y hsub hn.pos
 have h5:=hn.sum
 exact ⟨by omega,hp,C4 hp,by omega⟩
theorem A2h {t:Tax} {rates nets:List Int} (hn:A3V nets) (hr:rates.length=nets.length) {i:Nat} (hq:0≤gI rates i∧gI rates i≤10000):Q0 (B6 t (A7 (I5 rates nets i)) (gI rates i)) (I5 rates nets i):=by
 obtain ⟨h1,h2,h3,h4⟩:=A5i hn hr i
 have hm:=A2U (t:=t) h3 hq
 exact ⟨hm.1,by omega,by omega,h2,by omega,fun e=>by rw [e] at hm;rw [e];omega⟩
theorem B9m {n i:Nat} (hi:i<n):List.range n=List.range i++(i::(List.range (n - i - 1)).map (fun k=>i+1+k)):=by
 have h1:n=i+(1+(n - i - 1)):=by omega
 conv=>lhs;rw [h1]
 rw [List.range_add,show 1+(n - i - 1)=(n - i - 1)+1 by omega,List.range_succ_eq_map]
 simp only [List.map_cons,List.map_map,Nat.add_zero]
 congr 2
 refine List.map_congr_left fun k _=>?_
 show i+(k+1)=i+1+k
 omega
theorem A7s {rates:List Int} {i:Nat} (hi:i<rates.length):(A7r rates i)[A0a rates i]?=some i:=by
 unfold A0a A7r
 rw [B9m hi,List.filter_append,List.getElem?_append_right (Nat.le_refl _),Nat.sub_self,List.filter_cons_of_pos (by simp)];rfl
theorem B0f {rates:List Int} {i:Nat} (hi:i<rates.length):A0a rates i<(A7r rates i).length:=by
 exact (List.getElem?_eq_some_iff.1 (A7s hi)).1
theorem B4C {t:Tax} {rates nets:List Int} (hn:A3V nets) (hr:rates.length=nets.length) (hq:∀ x∈rates,0≤x∧x≤10000) {i:Nat} (hi:i<nets.length):0≤A1i t rates nets i∧A1i t rates nets i≤10000000000000:=by
 have hqi:=hq (gI rates i) (B3 (by omega))
 have hw:=A2h (t:=t) hn hr hqi
 obtain ⟨h1,h2,h3,h4⟩:=A5i hn hr i
 have hm:=A2U (t:=t) h3 hqi
 have hp:=B0f (rates:=rates) (i:=i) (by omega)
 have hml:(I5 rates nets i).length=(A7r rates i).length:=List.length_map ..
 obtain ⟨l1,l2,l3⟩:=R6 hw
 have hle:=A2z hw hm.2 (k:=A0a rates i) (by omega)
 have hg:gI (D7 (B6 t (A7 (I5 rates nets i)) (gI rates i)) (I5 rates nets i)) (A0a rates i)∈D7 (B6 t (A7 (I5 rates nets i)) (gI rates i)) (I5 rates nets i):=B3 (by omega)
 have h0:=l3 _ hg
 have hmem:gI (I5 rates nets i) (A0a rates i)∈I5 rates nets i:=B3 (by omega)
 have h6:=I9 h2 hmem
 unfold A1i
 omega
theorem A7Q {t:Tax} {rates nets:List Int} (hn:A3V nets) (hr:rates.length=nets.length) (hq:∀ x∈rates,0≤x∧x≤10000):(I6 t rates nets).length=nets.length∧∀ x∈I6 t rates nets,0≤x∧x≤10000000000000:=by
 unfold I6
 split
 ·refine ⟨by unfold F7;rw [List.length_map,List.length_range],fun x hx=>?_⟩
  obtain ⟨i,hi,rfl⟩:=List.mem_map.1 hx
  exact B4C hn hr hq (List.mem_range.1 hi)
 ·refine ⟨by unfold R7;rw [List.length_map,List.length_range],fun x hx=>?_⟩
  obtain ⟨i,hi,rfl⟩:=List.mem_map.1 hx
  have hi:=List.mem_range.1 hi
  have h1:=hn.pos _ (show gI nets i∈nets from B3 hi)
  have h2:=A2U (t:=t) h1 (hq (gI rates i) (B3 (by omega)))
  have h3:=I9 hn.pos (show gI nets i∈nets from B3 hi)
  have h4:=hn.sum
  omega
theorem B4B {t:Tax} {rates nets:List Int} (hn:A3V nets) (hr:rates.length=nets.length) (hq:∀ x∈rates,0≤x∧x≤10000) {i:Nat} (hi:i<nets.length):A1i t rates nets i≤gI nets i:=by
 have hqi:=hq (gI rates i) (B3 (by omega))
 have hw:=A2h (t:=t) hn hr hqi
 obtain ⟨h1,h2,h3,h4⟩:=A5i hn hr i
 have hm:=A2U (t:=t) h3 hqi
 have hp:=B0f (rates:=rates) (i:=i) (by omega)
 have hml:(I5 rates nets i).length=(A7r rates i).length:=List.length_map ..
 have hle:=A2z hw hm.2 (k:=A0a rates i) (by omega)
 have e:gI (I5 rates nets i) (A0a rates i)=gI nets i:=by
  unfold I5 gI
  rw [List.getD_eq_getElem?_getD,List.getElem?_map,A7s (by omega)];rfl
 rw [e] at hle
 exact hle
theorem C2E {t:Tax} {rates nets:List Int} (hn:A3V nets) (hr:rates.length=nets.length) (hq:∀ x∈rates,0≤x∧x≤10000) {i:Nat} (hi:i<nets.length):gI (I6 t rates nets) i≤gI nets i:=by
 unfold I6
 split
 ·have e:gI (F7 t rates nets) i=A1i t rates nets i:=by unfold F7 gI;rw [List.getD_eq_getElem?_getD,List.getElem?_map,List.getElem?_range hi];rfl
  rw [e];exact B4B hn hr hq hi
 ·have e:gI (R7 t rates nets) i=B6 t (gI nets i) (gI rates i):=by unfold R7 gI;rw [List.getD_eq_getElem?_getD,List.getElem?_map,List.getElem?_range hi];rfl
  rw [e]
  exact (A2U (hn.pos _ (show gI nets i∈nets from B3 hi)) (hq (gI rates i) (B3 (by omega)))).2
theorem A5z (f g:Nat→Int):∀ n,(∀ i,i<n→f i≤g i)→A7 ((List.range n).map f)≤A7 ((List.range n).map g)
 | 0,_=>Int.le_refl _
 | n+1,h=>by
  rw [K9,K9]
  have h1:=A5z f g n fun i hi=>h i (by omega)
  have h2:=h n (by omega)
  omega
structure B5G where
 goods:List Int
 taxes:List Int
 ship:Int
 shipTax:Int
def A4i (t:Tax) (taxes nets:List Int):List Int:=(List.range nets.length).map fun i=>if t.incl=true then gI nets i - gI taxes i else gI nets i
def L4 (t:Tax) (z:L3) (exempt:Bool) (cats:List D6) (nets:List Int) (ship:Int):B5G :=
 ⟨A4i t (I6 t (cats.map (E7 z)) nets) nets,if exempt=true then List.replicate nets.length 0 else I6 t (cats.map (E7 z)) nets,
 if t.incl=true then ship - B6 t ship z.ship else ship,if exempt=true then 0 else B6 t ship z.ship⟩
structure A4Q where
 goods:List Int
 taxes:List Int
 ship:Int
 shipTax:Int
 total:Int
 deals:List A0S
end Go.Proofs.YtbajhapmlfbelaaGreat
namespace Go.Ab
open Go
theorem lp {A:List AV} {st:St} (n:Nat) (keep:List Nat) (J:Nat→List AV→St→Prop) {B:List Nat→(Nat→KA)→Nat→List AV→St→Prop}
  (h0:A2S A keep fun us=>J 0 us st) (h:∀ i vs s,i≤n→J i vs s→B keep (fun m vs s=>∃ i,i≤n∧m=n - i∧J i vs s) (n - i) vs s) :
  ∃ (keep:List Nat) (I:Nat→KA),(A2S A keep fun us=>∃ m,I m us st)∧∀ m vs s,I m vs s→B keep I m vs s:=by
 rw [A1L] at h0
 refine ⟨keep,fun m vs s=>∃ i,i≤n∧m=n - i∧J i vs s,?_,?_⟩
 ·rw [A1L];exact ⟨n,0,Nat.zero_le _,rfl,h0⟩
 ·rintro m vs s ⟨i,hi,rfl,hj⟩;exact h i vs s hi hj
theorem nx {n i:Nat} {J:Nat→Prop} (hi:i<n) (h:J (i+1)):∃ m',m'<n - i∧∃ i',i'≤n∧m'=n - i'∧J i':=⟨n - (i+1),by omega,i+1,hi,rfl,h⟩
theorem C6 {i n:Nat} (h:decide ((i:Int)<(n:Int))=false) (hi:i≤n):i=n:=by have:=of_decide_eq_false h;omega
theorem E4 {i n:Nat} (h:decide ((i:Int)<(n:Int))=true):i<n:=by have:=of_decide_eq_true h;omega
def F3 {α : Type} [Inhabited α] (ty e:Nat) (enc : α→AV) (L:List α) (st:St) (sv:AV) (st':St):Prop:=N3 ty e (fun k=>enc (L.getD k default)) st L.length sv st'
theorem F3.start {α : Type} [Inhabited α] (ty e:Nat) (enc : α→AV) (st:St):F3 ty e enc [] st .emp st:=N3.start _ _ _ _
theorem B8H {α : Type} [Inhabited α] (L:List α) (x : α):(L++[x]).getD L.length default=x:=by simp [List.getD_eq_getElem?_getD]
theorem A3A {α : Type} [Inhabited α] {a b:List α} {k:Nat} (h:k<a.length):(a++b).getD k default=a.getD k default:=by
 rw [List.getD_eq_getElem?_getD,List.getD_eq_getElem?_getD,List.getElem?_append_left h]
theorem F3.app {α : Type} [Inhabited α] {T:H9} {t:TypeId} {x sv:AV} {st st':St} {k:KK} {r q:D3} {el:Nat} {enc : α→AV} {L:List α} {y : α} {g:Nat→AV} (hr:T t=some r) (hd:r.desc=.slice el) (hq:T el=some q)
  (hz:(Nat.blt 0 q.size&&Nat.blt 0 q.bytes&&Nat.beq q.zero.cells.size q.size)=true) (hs:Z2 q.size st' x=some (1,g)) (hg:g 0=enc y) (hb:(L.length+1) * q.bytes≤140737488355328)
  (hc:F3 el q.size enc L st sv st') (hk:∀ sv' st'',F3 el q.size enc (L++[y]) st sv' st''→k sv' st''):A5E T t sv x st' k:=by
 refine N3.app (f:=fun k=>enc ((L++[y]).getD k default)) hr hd hq hz hs (by show g 0=enc _;rw [B8H];exact hg) hb (N3.congr hc fun k hk=>by show enc _=enc _;rw [A3A hk]) (fun sv' st'' h=>hk sv' st'' ?_)
 unfold F3
 rw [List.length_append];exact h
theorem A1s {α : Type} [Inhabited α] {P:Program} {F:FuncId} {args:List AV} {st:St} {ty e:Nat} {enc : α→AV} {L:List α} (h:S P F args st fun v st'=>F3 ty e enc L st v st'):S P F args st fun v st'=>v=B1 e enc L∧st'=st:=C0e h
theorem F3.shift {α : Type} [Inhabited α] {ty e:Nat} {enc : α→AV} {L:List α} {st:St} {sv:AV} {st':St} (h:F3 ty e enc L st sv st'):B0 [sv] st' [B1 e enc L] st:=N3.shift h
theorem F3.sup {α : Type} [Inhabited α] {ty e:Nat} {enc : α→AV} {L:List α} {st:St} {sv:AV} {st':St} (h:F3 ty e enc L st sv st'):D8 st st':=N3.sup h
theorem A2K {α β : Type} [Inhabited α] {l:List α} {i:Nat} (h:i<l.length) (g : α→β):(l.take (i+1)).map g=(l.take i).map g++[g (l.getD i default)]:=by rw [J0 h,List.map_append];rfl
end Go.Ab
