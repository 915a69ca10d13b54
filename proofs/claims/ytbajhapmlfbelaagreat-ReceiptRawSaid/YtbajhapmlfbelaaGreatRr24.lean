/- Part 24 of the proof: contracts of the functions that the law reaches -/
import Derived.Test.YtbajhapmlfbelaaGreatRr23
set_option maxRecDepth 100000
set_option linter.unusedVariables false
set_option linter.unusedSimpArgs false
namespace Go.Proofs.YtbajhapmlfbelaaGreat
open Go Go.Ab
attribute [local irreducible] upd del
def A3o (us:List A8) (l:List Int):Int:=A2 (l.map fun i=>(gU us i.toNat).net)
theorem A7P {us:List A8} (hu:C1 us) {l:List Int} (hl:∀ k,k<l.length→0≤gI l k∧(gI l k).toNat<us.length) (hn:l.length≤800000) {i:Nat} (hi:i<l.length) :
  IntKind.i64.wrap (A3o us (l.take i)+(gU us (gI l i).toNat).net)=A3o us (l.take (i+1)):=by
 have hc:=A0e hu (l.take i) (fun x hx=>by obtain ⟨k,hk,rfl⟩:=D3 (List.take_subset _ _ hx);exact hl k hk)
 have h3:0≤(gU us (gI l i).toNat).net:=hu.pos _ (A7 (hl i hi).2)
 have h4:(gU us (gI l i).toNat).net≤10000000000000:=hu.le (A7 (hl i hi).2)
 have e:A3o us (l.take (i+1))=A3o us (l.take i)+(gU us (gI l i).toNat).net:=by
  unfold A3o;rw [L7 hi,List.map_append,E5];simp [A2]
 have hcl:(l.take i).length≤800000:=by rw [List.length_take];omega
 have e2:F8 us (l.take i)=A3o us (l.take i):=rfl
 rw [e]
 exact A5 (by omega) (by omega)
theorem C0v (bx:Nat) (items:List Ab.Item) (p:PSt) (hu:C1 p.us) (l:List Int) (hn:l.length≤800000) (hl:∀ k,k<l.length→0≤gI l k∧(gI l k).toNat<p.us.length) (s t:St) (h:PxR bx items p s t) :
  S P 240 [.optr 4 bx 0 0,B4 l] t fun v t'=>v=eI (A3o p.us l)∧t'=t:=by
 obtain ⟨dv,gv,fx,hx,hx0,hdv,hgv⟩:=h.at
 refine D6 [] Tryz.func240 ?_
 refine ⟨[0,5,8,9,10],fun m vs t'=>∃ i:Nat,i≤l.length∧m=l.length - i∧vs=[.optr 4 bx 0 0,eI (A3o p.us (l.take i)),B4 l,eI l.length,eI i]∧t'=t,?_,?_⟩
 ·conv=>whnf
  exact ⟨_,0,Nat.zero_le _,rfl,rfl,rfl⟩
 ·rintro m vs t' ⟨i,hi,rfl,rfl,rfl⟩
  conv=>whnf
  cases h2:decide ((i:Int)<(l.length:Int))
  ·have:=of_decide_eq_false h2
   obtain rfl:i=l.length:=by omega
   rw [List.take_length];conv=>whnf
   exact ⟨rfl,rfl⟩
  ·have hi':i<l.length:=by have:=of_decide_eq_true h2;omega
   have hr:=hl i hi'
   conv=>whnf
   refine I3 ?_
   refine J5 hx hx0 ?_
   refine ⟨rfl,⟨by show 0≤gI l i;exact hr.1,by show gI l i<(p.us.length:Int);have:=hr.2;have:=hr.1;omega⟩,?_⟩;conv=>whnf
   refine H4 ?_
   exact ⟨l.length - (i+1),by omega,i+1,by omega,rfl,by rw [B7 (by omega),←A7P hu hl hn hi'];rfl,rfl⟩
theorem B9m (bx:Nat) (items:List Ab.Item) (p:PSt) (hu:C1 p.us) (l:List Int) (hn:l.length≤800000) (hl:∀ k,k<l.length→0≤gI l k∧(gI l k).toNat<p.us.length) (s t:St) (h:PxR bx items p s t)
  (b:Nat) (m0:Nat) (f:Nat→AV) (hm0:l.length≤m0) (hb:t b=some ⟨3,1,m0,f⟩) (hf:∀ k,k<l.length→f k=eI (gI l k)) :
  S P 240 [.optr 4 bx 0 0,.own 1 b 0 l.length] t fun v t'=>v=eI (A3o p.us l)∧t'=t:=by
 obtain ⟨dv,gv,fx,hx,hx0,hdv,hgv⟩:=h.at
 refine D6 [] Tryz.func240 ?_
 refine ⟨[0,5,8,9,10],fun m vs t'=>∃ i:Nat,i≤l.length∧m=l.length - i∧vs=[.optr 4 bx 0 0,eI (A3o p.us (l.take i)),.own 1 b 0 l.length,eI l.length,eI i]∧t'=t,?_,?_⟩
 ·conv=>whnf
  exact ⟨_,0,Nat.zero_le _,rfl,rfl,rfl⟩
 ·rintro m vs t' ⟨i,hi,rfl,rfl,rfl⟩
  conv=>whnf
  cases h2:decide ((i:Int)<(l.length:Int))
  ·have:=of_decide_eq_false h2
   obtain rfl:i=l.length:=by omega
   rw [List.take_length];conv=>whnf
   exact ⟨rfl,rfl⟩
  ·have hi':i<l.length:=by have:=of_decide_eq_true h2;omega
   have hr:=hl i hi'
   conv=>whnf
   refine I3 ?_
   refine ldV hb rfl (by omega) (v:=eI (gI l i)) (by rw [show 0+(i:Int).toNat=i by omega];exact hf i hi') ?_;conv=>whnf
   refine J5 hx hx0 ?_
   refine ⟨rfl,⟨by show 0≤gI l i;exact hr.1,by show gI l i<(p.us.length:Int);have:=hr.2;have:=hr.1;omega⟩,?_⟩;conv=>whnf
   refine H4 ?_
   exact ⟨l.length - (i+1),by omega,i+1,by omega,rfl,by rw [B7 (by omega),←A7P hu hl hn hi'],rfl⟩
def A0P (p:PSt) (pr:B1) (off:Int):PSt:=⟨p.us,p.deals++[⟨pr.id,off⟩],p.groups++(if A0K pr.group=true then [] else [pr.group])⟩
theorem A3T {α : Type} [Inhabited α] {a b:List α} {k:Nat} (h:k<a.length):(a++b).getD k default=a.getD k default:=by
 rw [List.getD_eq_getElem?_getD,List.getD_eq_getElem?_getD,List.getElem?_append_left h]
theorem A9P {α : Type} [Inhabited α] (a:List α) (x : α):(a++[x]).getD a.length default=x:=by
 simp [List.getD_eq_getElem?_getD]
theorem RD.at {bx:Nat} {dl:List A3a} {gr:List D9} {dv gv:AV} {s t:St} {f:Nat→AV} (h:RD dl gr dv gv (upd s bx ⟨147,4,1,f⟩) t):t bx=some ⟨147,4,1,f⟩:=(A2y _ _ _ _).sup h bx _ (A0 ..)
theorem RD.put {bx:Nat} {dl:List A3a} {gr:List D9} {dv gv:AV} {s t:St} {f f':Nat→AV} (h:RD dl gr dv gv (upd s bx ⟨147,4,1,f⟩) t):RD dl gr dv gv (upd s bx ⟨147,4,1,f'⟩) (upd t bx ⟨147,4,1,f'⟩):=by
 have:=(A2y dl gr dv gv).write (y':=⟨147,4,1,f'⟩) h (A0 ..)
 rw [E4] at this;exact this
theorem RD.of {dl:List A3a} {gr:List D9} {dv gv:AV} {s t:St} {d:A3a} (h:ROut (RG gr gv) 134 2 (A1X (dl++[d])) (dl.length+1) s dv t):RD (dl++[d]) gr dv gv s t:=by
 unfold RD;rw [List.length_append];exact h
theorem RD.grp {K:KK} {X:Prop} {dl:List A3a} {gr:List D9} {dv gv:AV} {s t:St} (h:RD dl gr dv gv s t) (g:D9)
  (happ:∀ {s1:St},ROut E7 9 1 (A5Z (gr++[g])) gr.length s1 gv t→(∀ gv' t',ROut E7 9 1 (A5Z (gr++[g])) (gr.length+1) s1 gv' t'→K gv' t')→X)
  (hk:∀ gv' t',RD dl (gr++[g]) dv gv' s t'→(gv'=.emp∨∃ b,gv'=.own 1 b 0 (gr++[g]).length)→K gv' t'):X:=by
 obtain ⟨s1,hc,hg⟩:=h
 refine happ (s1:=s1) (hg.congr fun k hk=>by simp only [A5Z];rw [A3T hk]) (fun gv' t' hg'=>?_)
 have hg2:RG (gr++[g]) gv' s1 t':=by unfold RG;rw [List.length_append];exact hg'
 exact hk gv' t' ⟨s1,hc,hg2⟩ (ROut.head hg2)
theorem PxR.mk' {bx:Nat} {items:List Ab.Item} {p:PSt} {dv gv:AV} {s t:St} {f:Nat→AV} (hbx:s bx=none) (hf:f 0=.agg [A6 4 E9 items,C0 p.us,dv,gv]) (h:RD p.deals p.groups dv gv (upd s bx ⟨147,4,1,f⟩) t):PxR bx items p s t :=
 ⟨(dv,gv),hbx,_,⟨f,rfl,hf⟩,h⟩
theorem PxR.fin {bx:Nat} {items:List Ab.Item} {us:List A8} {dl:List A3a} {gr:List D9} {dv gv:AV} {s t:St} {f:Nat→AV} (hbx:s bx=none) (h:RD dl gr dv gv (upd s bx ⟨147,4,1,f⟩) t) (f':Nat→AV) (hf:f' 0=.agg [A6 4 E9 items,C0 us,dv,gv]) :
  PxR bx items ⟨us,dl,gr⟩ s (upd t bx ⟨147,4,1,f'⟩):=PxR.mk' hbx hf (RD.put h)
theorem B1l (bx:Nat) (items:List Ab.Item) (p:PSt) (pr:B1) (off:Int) (hd:p.deals.length≤1000) (hg:p.groups.length≤1000) (s t:St) (h:PxR bx items p s t) :
  S P 153 [.optr 4 bx 0 0,B8 pr,eI off] t fun v t'=>v=.tuple []∧PxR bx items (A0P p pr off) s t':=by
 obtain ⟨⟨dv,gv⟩,hbx,y,⟨f,rfl,hf⟩,hRD⟩:=h
 simp only at hf hRD
 refine D6 [4] Tryz.func153 ?_
 refine ⟨[10,13],[],[0,1,2,3,4,5,6,7,8,9,10,11,12,13],by kernel_rfl,?_⟩
 have hdv:dv=.emp∨∃ b,dv=.own 2 b 0 p.deals.length:=ROut.head hRD
 have hgv:gv=.emp∨∃ b,gv=.own 1 b 0 p.groups.length:=by obtain ⟨s0,hc,hgg⟩:=hRD;exact ROut.head hgg
 rcases hdv with rfl | ⟨bd,rfl⟩<;>rcases hgv with rfl | ⟨bg,rfl⟩
 all_goals
  conv=>whnf
  refine J5 hRD.at hf ?_
  refine ⟨_,⟨rfl,rfl⟩,?_⟩;conv=>whnf
  refine ROut.app (q:=B9x) (A8s _ _) rfl rfl rfl rfl rfl (f:=A1X (p.deals++[⟨pr.id,off⟩])) (by simp only [A1X,A9P];rfl) (by show (p.deals.length+1) * 24≤140737488355328;omega) (hRD.congr fun k hk=>by simp only [A1X];rw [A3T hk]) (fun dv' t2 hRD2=>?_)
  have hRD2':=RD.of hRD2
  rcases ROut.head hRD2' with rfl | ⟨bd',rfl⟩
  all_goals
   conv=>whnf
   refine stW hRD2'.at hf ?_
   have hnil:(ByteArray.toList pr.group==ByteArray.toList ⟨#[]⟩)=A0K pr.group:=rfl
   rw [hnil]
   cases hgr:A0K pr.group
   ·conv=>whnf
    refine ⟨[8,11],[],[0,1,2,3,4,5,6,7,8,9,10,11],by kernel_rfl,?_⟩;conv=>whnf
    refine J5 (RD.put hRD2').at (by rw [A9]) ?_
    refine ⟨_,⟨rfl,rfl⟩,?_⟩;conv=>whnf
    refine RD.grp (RD.put hRD2') pr.group (fun happ=>ROut.app (q:=r9) R4 rfl rfl rfl rfl rfl (by simp only [A5Z,A9P];rfl) (by show (p.groups.length+1) * 16≤140737488355328;omega) happ) (fun gv' t4 hRD4 hh=>?_)
    rcases hh with rfl | ⟨bg',rfl⟩
    all_goals
     conv=>whnf
     refine stW hRD4.at (by rw [A9]) ?_
     refine ⟨rfl,?_⟩
     unfold A0P
     rw [hgr]
     exact PxR.fin hbx hRD4 _ (by rw [A9];rfl)
   ·conv=>whnf
    refine ⟨rfl,?_⟩
    unfold A0P
    rw [hgr]
    simp only [if_true,List.append_nil]
    exact PxR.fin hbx hRD2' _ (by rw [A9];rfl)
end Go.Proofs.YtbajhapmlfbelaaGreat
namespace Go.Proofs.YtbajhapmlfbelaaGreat
open Go Go.Ab
theorem J4 {lo hi x:Int}:J9 lo hi x=true↔lo≤x∧x≤hi:=by
 unfold J9;simp only [Bool.and_eq_true,decide_eq_true_eq,ge_iff_le]
theorem A2w {α : Type} [Inhabited α] {l:List α} {p:Nat→α→Bool}:T3 l p=true↔∀ k,k<l.length→p k (l.getD k default)=true:=by
 unfold T3
 rw [List.all_eq_true]
 exact ⟨fun h k hk=>h k (List.mem_range.2 hk),fun h k hk=>h k (List.mem_range.1 hk)⟩
structure B6I (p:B1):Prop where
 kind:1≤p.kind∧p.kind<8
 skus:p.scope.skus.length≤20
 cats:p.scope.cats.length≤20
 least:0≤p.least∧p.least≤10000000000000
 buy:p.kind=3→A7x p
 bun:p.kind=4→A2S p∧∀ x∈p.parts,x.scope.skus.length≤20∧x.scope.cats.length≤20
 ask:K1 p→p.kind=1∨p.kind=2∨p.kind=5∨p.kind=6→A4Q p
 ship:p.kind=7→1≤p.rate∧p.rate≤10000
theorem B3X {l:List A3E} (h:A1A l=true):A3F l:=by
 unfold A1A at h
 simp only [Bool.and_eq_true,Bool.not_eq_true',Bool.or_eq_false_iff,decide_eq_false_iff_not] at h
 refine ⟨by omega,fun t ht=>?_⟩
 obtain ⟨k,hk,rfl⟩:=D3 ht
 have h2:=A2w.1 h.2 k hk
 unfold A2l at h2
 simp only [Bool.not_eq_true',Bool.or_eq_false_iff,decide_eq_false_iff_not] at h2
 omega
theorem A5D {p:B1} (h:J2 p=true):B6I p:=by
 have h0:=h
 unfold J2 at h
 simp only [Bool.and_eq_true,decide_eq_true_eq] at h
 obtain ⟨⟨⟨⟨hk1,hk2⟩,hh⟩,hp⟩,hkd⟩:=h
 have hl:=A7R hh
 simp only [A7Q,Bool.and_eq_true,J4] at hh
 unfold A7S at hkd
 refine ⟨⟨hk1,hk2⟩,hl.1,hl.2,hh.2,fun e=>?_,fun e=>?_,fun hf e=>?_,fun e=>?_⟩
 ·rw [e] at hkd
  simp [A5C,A6o,J4] at hkd
  exact ⟨hkd.2.1,hkd.2.2,⟨by omega,hkd.1.2⟩⟩
 ·rw [e] at hkd
  simp only [show ¬(4:Int)=1 by decide,show ¬(4:Int)=2 by decide,show ¬(4:Int)=3 by decide,if_false,if_true] at hkd
  unfold A5B at hkd
  simp only [Bool.and_eq_true,Bool.not_eq_true',Bool.or_eq_false_iff,decide_eq_false_iff_not,List.any_eq_false] at hkd
  obtain ⟨⟨⟨⟨a1,a2⟩,a3⟩,a4⟩,a5⟩:=hkd
  have hpt:∀ x∈p.parts,A6q x=true:=fun x hx=>by simpa using a5 x hx
  refine ⟨⟨by omega,by omega,fun x hx=>?_,by omega,by omega⟩,fun x hx=>?_⟩
  ·have:=hpt x hx
   unfold A6q at this
   simp only [Bool.and_eq_true,Bool.not_eq_true',Bool.or_eq_false_iff,decide_eq_false_iff_not] at this
   omega
  ·have:=hpt x hx
   unfold A6q at this
   simp only [Bool.and_eq_true] at this
   exact A6G this.1
 ·refine ⟨hf,h0,e,fun e2=>?_,fun e2=>?_⟩
  ·rcases e2 with e2 | e2<;>rw [e2] at hkd<;>simp at hkd<;>exact B3X hkd
  ·rw [e2] at hkd
   simp [A5A,J4] at hkd
   omega
 ·rw [e] at hkd
  simp [A6o,J4] at hkd
  exact hkd
theorem B7A {p:B1} (hp:A4Q p) {nets:List Int} (h0:∀ x∈nets,0≤x) (hs:A2 nets≤10000000000000) (hl:nets.length≤100000):∀ k,k<(L2 p nets).length→gI (L2 p nets) k≤gI nets k:=fun k hk=>by
 have hn:=B9 h0
 have hlen:=(A3p hp h0 hs hl).2.1
 have hx:0≤gI nets k:=h0 _ (A7 (by omega))
 have hkn:k<nets.length:=by omega
 unfold L2 at hk ⊢
 have hmap:∀ (r a:Int),0≤a→gI (nets.map fun x=>P0 x r a) k≤gI nets k:=fun r a ha=>by
  rw [show gI (nets.map fun x=>P0 x r a) k=P0 (gI nets k) r a from F1 (fun x=>P0 x r a) nets hkn]
  exact (Q6 hx ha).2
 rcases hp.kind with e | e | e | e
 ·rw [if_pos e] at hk ⊢;exact hmap _ _ (Int.le_refl _)
 ·rw [if_neg (by omega),if_pos e] at hk ⊢;exact hmap _ _ (hp.amount e).1
 ·rw [if_neg (by omega),if_neg (by omega),if_pos e] at hk ⊢
  have hok:=U5 (hp.tiers (.inl e)) (A2 nets)
  unfold A2e at hk ⊢
  split at hk
  ·simp at hk
  ·rename_i t hr
   rw [hr] at hok
   have hob:0≤P0 (A2 nets) t.rate t.amount∧P0 (A2 nets) t.rate t.amount≤A2 nets:=Q6 hn hok.1
   have hW:K9 (P0 (A2 nets) t.rate t.amount) nets:=⟨hob.1,by omega,hl,h0,by omega,fun e=>by omega⟩
   have hll:=(V5 hW).2.1
   exact A1o hW hob.2 (by omega)
 ·rw [if_neg (by omega),if_neg (by omega),if_neg (by omega)] at hk ⊢
  have hok:=U5 (hp.tiers (.inr e)) nets.length
  unfold A2d at hk ⊢
  split at hk
  ·simp at hk
  ·rename_i t hr
   rw [hr] at hok
   exact hmap _ _ hok.1
theorem A8P (us:List A8) (mine:List Int):L1 us mine=E2 us mine:=rfl
theorem B0L {p:B1} (hp:A4Q p) {us:List A8} (hu:C1 us) {mine:List Int} (hm:K0 us mine):Off us (Y6 p us mine).1 (Y6 p us mine).2:=by
 have hnl:(L1 us mine).length=mine.length:=List.length_map ..
 have hml:=hm.len
 have hul:=hu.len
 have hn0:∀ x∈L1 us mine,0≤x:=fun x hx=>by
  obtain ⟨i,hi,rfl⟩:=List.mem_map.1 hx
  exact hu.at0 _
 have hwl:=B0B hu hm.places
 have hus:=hu.sum
 have hns:A2 (L1 us mine)≤10000000000000:=by rw [A8P];omega
 obtain ⟨ob1,ob2,ob3⟩:=A3p hp hn0 hns (by omega)
 have hle:=B7A hp hn0 hns (by omega)
 have h1:=A0r hu hm.places (offs:=L2 p (L1 us mine)) (by omega) (fun k hk=>⟨ob3 _ (A7 hk),by
  have:=hle k hk
  rw [show gI (L1 us mine) k=(gU us (gI mine k).toNat).net from F1 (fun i:Int=>(gU us i.toNat).net) mine (by omega)] at this
  exact this⟩) (L2 p (L1 us mine)).length (Nat.le_refl _)
 rw [List.take_length] at h1
 unfold Y6
 simp only
 split
 ·have h2:=Off.closeB (h1.ok hu) mine (fun x hx=>by
   obtain ⟨k,hk,rfl⟩:=D3 hx
   rw [h1.len];exact (hm.rng k hk).2)
  have h3:=h1.trans h2
  rw [Int.add_zero] at h3;exact h3
 ·exact h1
end Go.Proofs.YtbajhapmlfbelaaGreat
namespace Go.Proofs.YtbajhapmlfbelaaGreat
open Go Go.Ab
attribute [local irreducible] upd del
theorem PxR.more {bx:Nat} {items:List Ab.Item} {p:PSt} {s t t':St} (h:PxR bx items p s t) (hs:E7 t t'):PxR bx items p s t':=by
 obtain ⟨v,h1,y,h2,s1,h3,s2,h4,h5⟩:=h
 exact ⟨v,h1,y,h2,s1,h3,s2,h4,h5.trans hs⟩
structure A7e (items:List Ab.Item) (us:List A8):Prop where
 ok:C1 us
 few:items.length≤100000
 line:∀ u∈us,0≤u.line∧u.line.toNat<items.length
theorem A7e.off {items:List Ab.Item} {us us':List A8} {x:Int} (h:A7e items us) (ho:Off us us' x):A7e items us' :=
 ⟨ho.ok h.ok,h.few,fun u hu=>by
  obtain ⟨k,hk,rfl⟩:=D3 hu
  have h1:=ho.line k
  have h2:=h.line (gU us k) (A7 (by rw [←ho.len];exact hk))
  show 0≤(gU us' k).line∧(gU us' k).line.toNat<items.length
  rw [h1];exact h2⟩
def A0q (items:List Ab.Item) (us:List A8) (pr:B1):List A8×Int :=
 if A3o us (G4 pr.scope items us us.length)<pr.least then ([],0)
 else if pr.kind=3 then U8 pr us (G4 pr.scope items us us.length) else Y6 pr us (G4 pr.scope items us us.length)
theorem B8T {P:Program} {f:FuncId} {args:List AV} {st st1:St} {v:AV} {K:KK} (h:S P f args st fun v' st'=>v'=v∧st'=st1) (hK:K v st1):T2 P f args st K:=call h fun v' st' ⟨e1,e2⟩=>by rw [e1,e2];exact hK
theorem B5R (bx:Nat) (items:List Ab.Item) (p:PSt) (pr:B1) (hfit:K1 pr) (hright:J2 pr=true) (hk:pr.kind≠4∧pr.kind≠7) (hu:A7e items p.us) (s t:St) (h:PxR bx items p s t) :
  S P 151 [.optr 4 bx 0 0,B8 pr] t fun v t'=>v=.tuple [C0 (A0q items p.us pr).1,eI (A0q items p.us pr).2]∧t'=t:=by
 have hok:=A5D hright
 have hm:=A0N pr.scope items p.us
 have hml:=hm.len
 have hul:=hu.ok.len
 refine S.post (post:=fun v t'=>(v=.tuple [C0 (A0q items p.us pr).1,eI (A0q items p.us pr).2]∨(A0q items p.us pr=([],0)∧v=.tuple [.emp,eI 0]))∧t'=t) ?_ (fun v t' ⟨hv,ht⟩=>by
  subst ht
  rcases hv with rfl | ⟨h1,rfl⟩
  ·exact ⟨_,_,⟨rfl,rfl⟩,A4.refl _ _⟩
  ·exact ⟨_,_,⟨rfl,rfl⟩,by rw [h1];exact A4.tuple (A4.cons (F9 3 _) (A4.keep _ _)) rfl⟩)
 obtain ⟨dv,gv,fx,hx,hx0,hdv,hgv⟩:=h.at
 refine D6 [3] Tryz.func151 ?_
 refine I7 (B5s bx items p pr.scope hok.skus hok.cats hul hu.few hu.line s t h) ?_
 refine ⟨[],[],[0,1,2,3,4,5],by kernel_rfl,?_⟩;conv=>whnf
 refine ⟨_,L9 (C0v bx items p hu.ok _ (by omega) hm.rng s t h),?_⟩
 have hS:A0q items p.us pr=if A3o p.us (G4 pr.scope items p.us p.us.length)<pr.least then ([],0) else if pr.kind=3 then U8 pr p.us (G4 pr.scope items p.us p.us.length) else Y6 pr p.us (G4 pr.scope items p.us p.us.length):=rfl
 conv=>whnf
 refine B6 (fun h1=>?_) (fun h1=>?_)<;>rw [h1]<;>simp only [decide_eq_true_eq,decide_eq_false_iff_not] at h1
 ·rw [if_pos h1] at hS;conv=>whnf
  exact ⟨.inr ⟨hS,rfl⟩,rfl⟩
 rw [if_neg h1] at hS;conv=>whnf
 refine B6 (fun h2=>?_) (fun h2=>?_)<;>rw [h2]<;>simp only [beq_iff_eq,beq_eq_false_iff_ne] at h2
 ·rw [if_pos h2] at hS;conv=>whnf
  refine ⟨[],[],[0,1,2,3,4,5,6,7,8,9,10],by kernel_rfl,?_⟩;conv=>whnf
  refine J5 hx hx0 ?_
  refine cqW (B4O pr p.us _ hfit hright h2 (hok.buy h2) hu.ok hm t) ?_
  exact ⟨.inl (by rw [hS];rfl),rfl⟩
 ·rw [if_neg h2] at hS
  have hask:A4Q pr:=hok.ask hfit (by have:=hok.kind;have:=hk.1;have:=hk.2;omega)
  conv=>whnf
  refine ⟨[],[],[0,1,2,3,4,5,6,7,8,9,10],by kernel_rfl,?_⟩;conv=>whnf
  refine J5 hx hx0 ?_
  refine cqW (B6N pr p.us _ hask hu.ok hm t) ?_
  exact ⟨.inl (by rw [hS];rfl),rfl⟩
theorem B5f (a b:List Int) (j:Nat):gI (a++b) (a.length+j)=gI b j:=by
 unfold gI
 rw [List.getD_eq_getElem?_getD,List.getD_eq_getElem?_getD,List.getElem?_append_right (by omega),Nat.add_sub_cancel_left]
theorem B9l (bx:Nat) (t:St):S P 240 [.optr 4 bx 0 0,.emp] t fun v t'=>v=eI 0∧t'=t:=by
 refine D6 [] Tryz.func240 ?_
 refine A7k [0,5,8,9,10] ?_;conv=>whnf
 intro I;conv=>whnf
 exact ⟨rfl,rfl⟩
def M4 (items:List Ab.Item) (us:List A8) (pr:B1):List (List Int):=pr.parts.map fun x=>G4 x.scope items us us.length
def A3K (items:List Ab.Item) (us:List A8) (pr:B1) (i:Nat):List Int:=((M4 items us pr).take i).flatten
def X2 (items:List Ab.Item) (us:List A8) (pr:B1):List A8×Int :=
 if A3o us (R5 (C5 (A3K items us pr pr.parts.length)))<pr.least then ([],0) else O0 pr us (M4 items us pr)
theorem A7B (items:List Ab.Item) (us:List A8) (pr:B1) {i:Nat} (hi:i<pr.parts.length):A3K items us pr (i+1)=A3K items us pr i++G4 (pr.parts.getD i default).scope items us us.length:=by
 unfold A3K
 have hl:(M4 items us pr).length=pr.parts.length:=List.length_map ..
 rw [L7 (by omega),List.flatten_append]
 congr 1
 have:(M4 items us pr).getD i default=G4 (pr.parts.getD i default).scope items us us.length:=F1 (fun x:A3C=>G4 x.scope items us us.length) pr.parts hi
 rw [this];simp
theorem A9D (items:List Ab.Item) (us:List A8) (pr:B1):∀ i,i≤pr.parts.length→(A3K items us pr i).length≤i * us.length
 | 0,_=>by simp [A3K]
 | i+1,h=>by
  have ih:=A9D items us pr i (by omega)
  rw [A7B items us pr (by omega),List.length_append]
  have:=A4F (pr.parts.getD i default).scope items us us.length
  have e:(i+1) * us.length=i * us.length+us.length:=Nat.succ_mul i us.length
  omega
theorem B2X {l:List Int} {x:Int} (h:x∈R5 l):x∈l:=by
 unfold R5 Go.Lib.compactUpTo at h
 obtain ⟨k,hk,rfl⟩:=List.mem_map.1 h
 have hk2:k<l.length:=List.mem_range.1 (List.mem_filter.1 hk).1
 have:l.toArray[k]! = l[k]:=by rw [getElem!_pos _ k (by simpa using hk2)];simp
 rw [this];exact List.getElem_mem hk2
theorem B4x {items:List Ab.Item} {us:List A8} {pr:B1} {i:Nat} {x:Int} (h:x∈A3K items us pr i):0≤x∧x.toNat<us.length:=by
 unfold A3K at h
 obtain ⟨l,hl,hx⟩:=List.mem_flatten.1 h
 obtain ⟨q,hq,rfl⟩:=List.mem_map.1 (List.take_subset _ _ hl)
 obtain ⟨k,hk,rfl⟩:=D3 hx
 exact (A0N q.scope items us).rng k hk
theorem B3y (bx:Nat) (items:List Ab.Item) (p:PSt) (pr:B1) (hfit:K1 pr) (hright:J2 pr=true) (hk:pr.kind=4) (hu:A7e items p.us) (s t:St) (h:PxR bx items p s t) :
  S P 152 [.optr 4 bx 0 0,B8 pr] t fun v t'=>v=.tuple [C0 (X2 items p.us pr).1,eI (X2 items p.us pr).2]∧t'=t:=by
 have hok:=A5D hright
 obtain ⟨hbun,hsc⟩:=hok.bun hk
 have hn8:=hbun.n8
 have hul:=hu.ok.len
 have hpl:(M4 items p.us pr).length=pr.parts.length:=List.length_map ..
 have hpm:∀ x∈M4 items p.us pr,K0 p.us x:=fun x hx=>by
  obtain ⟨q,hq,rfl⟩:=List.mem_map.1 hx
  exact A0N _ _ _
 refine S.post (post:=fun v t'=>(v=.tuple [C0 (X2 items p.us pr).1,eI (X2 items p.us pr).2]∨(X2 items p.us pr=([],0)∧v=.tuple [.emp,eI 0]))∧E7 t t') ?_ (fun v t' ⟨hv,ht⟩=>by
  rcases hv with rfl | ⟨h1,rfl⟩
  ·exact ⟨_,_,⟨rfl,rfl⟩,ht.shift _⟩
  ·exact ⟨_,_,⟨rfl,rfl⟩,by rw [h1];exact (ht.shift _).trans (A4.tuple (A4.cons (F9 3 _) (A4.keep _ _)) rfl)⟩)
 have hBi:=fun (n:Nat) (sv:AV) (fo:Nat→AV)=>A2z R4 3 1 fo n sv
 refine D6 [3,9] Tryz.func152 ?_
 refine ⟨[0,3,6,7,12,13,14],fun m vs t'=>∃ (i:Nat) (sv1 sv2:AV),i≤pr.parts.length∧m=pr.parts.length - i∧vs=[.optr 4 bx 0 0,.fptr (B8 pr) 0,sv1,sv2,A6 3 A0I pr.parts,eI pr.parts.length,eI i] ∧
  ROut (fun s t'=>ROut E7 3 1 (fun k=>eI (gI (A3K items p.us pr i) k)) (A3K items p.us pr i).length s sv2 t') 29 1 (fun k=>B4 ((M4 items p.us pr).getD k default)) i t sv1 t',?_,?_⟩
 ·conv=>whnf
  exact ⟨_,0,.emp,.emp,Nat.zero_le _,rfl,rfl,ROut.start (ROut.start (E7.refl _) _ _ _) _ _ _⟩
 ·rintro m vs t' ⟨i,sv1,sv2,hi,rfl,rfl,hout⟩
  have hal:=A9D items p.us pr i hi
  have hal2:i * p.us.length≤8 * 100000:=Nat.mul_le_mul (by omega) hul
  have hsup:E7 t t':=hout.sup (hBi _ _ _)
  conv=>whnf
  cases hd:decide ((i:Int)<(pr.parts.length:Int))
  ·have:=of_decide_eq_false hd
   obtain rfl:i=pr.parts.length:=by omega
   obtain ⟨s1,hc1,hout2⟩:=hout
   generalize hA:A3K items p.us pr pr.parts.length=A at *
   have hAm:∀ x∈A,0≤x∧x.toNat<p.us.length:=fun x hx=>B4x (by rw [hA];exact hx)
   have hSl:(C5 A).length=A.length:=M9 A
   have hCl:=A4u (C5 A)
   have hCm:∀ k,k<(R5 (C5 A)).length→0≤gI (R5 (C5 A)) k∧(gI (R5 (C5 A)) k).toNat<p.us.length:=fun k hk=>hAm _ (A2L.1 (B2X (A7 hk)))
   conv=>whnf
   refine call (A8e R4 (by omega) hout2) (fun v t2 hv=>?_)
   obtain ⟨rfl,hout3⟩:=hv
   have hsup2:E7 s1 t2:=hout3.sup R4
   have hB:X2 items p.us pr=if A3o p.us (R5 (C5 A))<pr.least then ([],0) else O0 pr p.us (M4 items p.us pr):=by unfold X2;rw [hA]
   -- what is behind the two,with the store as it is then
   have fin:∀ t3,E7 s1 t3→∀ K:KK,(∀ v,v=.tuple [C0 (O0 pr p.us (M4 items p.us pr)).1,eI (O0 pr p.us (M4 items p.us pr)).2]→K v t)→T2 P 244 [B8 pr,C0 p.us,sv1] t3 K:=fun t3 h3 K hK=>by
    have hsh:A4 [B8 pr,C0 p.us,sv1] t3 [B8 pr,C0 p.us,A6 1 B4 (M4 items p.us pr)] t:=by
     refine A4.cons (A4.keep _ _) (A4.cons (A4.keep _ _) ?_)
     have e:A6 1 B4 (M4 items p.us pr)=.arr 1 pr.parts.length (fun k=>B4 ((M4 items p.us pr).getD k default)):=by unfold A6;rw [hpl]
     rw [e]
     exact (h3.shift _).trans hc1.shift
    refine F7 hsh (call (B4N pr p.us (M4 items p.us pr) hfit hright hk hbun hu.ok hpl hpm t) (fun v t4 hv=>?_))
    rw [hv.2];exact hK v hv.1
   have hpx:∀ t3,E7 s1 t3→PxR bx items p s t3:=fun t3 h3=>h.more (hc1.sup.trans h3)
   conv=>whnf
   refine ⟨[2,5],[],[],.qui 0 (.qui 1 (.qui 4 (.two 2 5 (.qui 5 (.qui 3 (.qui 6 .done))) (.gen 2 (.qui 3 (.qui 6 .done)))))),by kernel_rfl,?_⟩
   obtain ⟨s2,hc2,hs2⟩:=hout3
   rcases hc2 with ⟨h0,rfl,rfl⟩ | ⟨h0,b2,g2,hb2,rfl,rfl,hg2⟩
   ·have hA0:A=[]:=List.eq_nil_of_length_eq_zero h0
    have hnet:A3o p.us (R5 (C5 A))=0:=by
     have:R5 (C5 A)=[]:=List.eq_nil_of_length_eq_zero (by omega)
     rw [this];rfl
    rw [hnet] at hB;conv=>whnf
    constructor
    all_goals conv=>whnf
    all_goals refine B3 (B0O _) ?_
    all_goals conv=>whnf
    all_goals refine ⟨_,L9 (B9l bx _),?_⟩
    all_goals conv=>whnf
    all_goals refine B6 (fun h1=>?_) (fun h1=>?_)<;>rw [h1]<;>simp only [decide_eq_true_eq,decide_eq_false_iff_not] at h1
    all_goals first
     | (rw [if_pos h1] at hB
        conv=>whnf
        exact ⟨.inr ⟨hB,rfl⟩,hc1.sup.trans hs2⟩)
     | (rw [if_neg h1] at hB
        obtain ⟨dv,gv,fx,hx,hx0,_,_⟩:=(hpx _ hs2).at
        conv=>whnf
        refine ⟨[6],[],[0,1,2,3,4,5,6,7,8,9,10],by kernel_rfl,?_⟩;conv=>whnf
        refine J5 hx hx0 ?_
        refine fin _ hs2 _ (fun v hv=>?_)
        subst hv;conv=>whnf
        exact ⟨.inl (by rw [hB];rfl),E7.refl _⟩)
   ·have hb2t:=hs2 b2 _ (A0 ..)
    have hC:=B2Y b2 (C5 A) (by omega) t2 ⟨g2,by rw [hb2t,hSl],fun k hk=>hg2 k (by omega)⟩
    rw [hSl] at hC
    have hs3:∀ y,E7 s1 (upd t2 b2 y):=fun y=>hsup2.over hb2
    have hN:=fun t3 (h3:E7 s1 t3) (e3:t3=upd t2 b2 (A2h (A3O (C5 A))))=>B9m bx items p hu.ok (R5 (C5 A)) (by omega) hCm s t3 (hpx t3 h3) b2 (A3O (C5 A)).length (fun k=>eI (gI (A3O (C5 A)) k)) (by rw [A7G];omega) (by rw [e3,A0];rfl) (fun k hk=>by rw [B7i hk])
    conv=>whnf
    constructor
    all_goals conv=>whnf
    all_goals refine B8T hC ?_
    all_goals conv=>whnf
    all_goals refine ⟨_,L9 (hN _ (hs3 _) rfl),?_⟩
    all_goals conv=>whnf
    all_goals refine B6 (fun h1=>?_) (fun h1=>?_)<;>rw [h1]<;>simp only [decide_eq_true_eq,decide_eq_false_iff_not] at h1
    all_goals first
     | (rw [if_pos h1] at hB
        conv=>whnf
        exact ⟨.inr ⟨hB,rfl⟩,hc1.sup.trans (hs3 _)⟩)
     | (rw [if_neg h1] at hB
        obtain ⟨dv,gv,fx,hx,hx0,_,_⟩:=(hpx _ (hs3 (A2h (A3O (C5 A))))).at
        conv=>whnf
        refine ⟨[6],[],[0,1,2,3,4,5,6,7,8,9,10],by kernel_rfl,?_⟩;conv=>whnf
        refine J5 hx hx0 ?_
        refine fin _ (hs3 _) _ (fun v hv=>?_)
        subst hv;conv=>whnf
        exact ⟨.inl (by rw [hB];rfl),E7.refl _⟩)
  ·have hi':i<pr.parts.length:=by have:=of_decide_eq_true hd;omega
   have hq:=hsc (pr.parts.getD i default) (A7 hi')
   have hpk:(M4 items p.us pr).getD i default=G4 (pr.parts.getD i default).scope items p.us p.us.length:=F1 (fun x:A3C=>G4 x.scope items p.us p.us.length) pr.parts hi'
   have hls:=A7B items p.us pr hi'
   have hml:=A4F (pr.parts.getD i default).scope items p.us p.us.length
   conv=>whnf
   refine I3 ?_
   refine I7 (B5s bx items p (pr.parts.getD i default).scope hq.1 hq.2 hul hu.few hu.line s t' (h.more hsup)) ?_
   refine ROut.app (q:=r29) (hBi _ _ _) rfl rfl rfl rfl rfl (by simp only [hpk];rfl) (by show (i+1) * 24≤140737488355328;omega) hout (fun sv1' t2 hout2=>?_);conv=>whnf
   obtain ⟨s1,hc1,hin⟩:=hout2
   refine ROut.apps (q:=r3) (n:=(A3K items p.us pr i).length) (m:=(G4 (pr.parts.getD i default).scope items p.us p.us.length).length) R4 rfl rfl rfl rfl (A9m rfl _) (f:=fun k=>eI (gI (A3K items p.us pr (i+1)) k)) (fun j hj=>?_) (by show ((A3K items p.us pr i).length+(G4 (pr.parts.getD i default).scope items p.us p.us.length).length) * 8≤140737488355328;omega) (hin.congr fun k hk=>by rw [hls,X7 hk]) (fun sv2' t3 hout3=>?_)
   ·rw [hls]
    show eI (gI (G4 (pr.parts.getD i default).scope items p.us p.us.length) j)=eI (gI _ _)
    rw [B5f]
   conv=>whnf
   refine H4 ?_
   refine ⟨pr.parts.length - (i+1),by omega,i+1,sv1',sv2',by omega,rfl,by rw [B7 (by omega)],s1,hc1,?_⟩
   rw [hls,List.length_append,←hls];exact hout3
def A3y (items:List Ab.Item) (us:List A8) (pr:B1):List A8×Int:=if pr.kind=4 then X2 items us pr else A0q items us pr
def A7h (items:List Ab.Item) (p:PSt) (pr:B1):PSt :=
 if (A3y items p.us pr).2>0 then A0P ⟨(A3y items p.us pr).1,p.deals,p.groups⟩ pr (A3y items p.us pr).2 else p
theorem B8d {items:List Ab.Item} {us:List A8} (hu:A7e items us) {pr:B1} (hfit:K1 pr) (hright:J2 pr=true) (hk:pr.kind≠7):A3y items us pr=([],0)∨Off us (A3y items us pr).1 (A3y items us pr).2:=by
 have hok:=A5D hright
 unfold A3y
 split
 ·rename_i h4
  unfold X2
  split
  ·exact .inl rfl
  ·right
   have hpl:(M4 items us pr).length=pr.parts.length:=List.length_map ..
   exact A9G (hok.bun h4).1 hu.ok hpl fun k hk=>by
    have hm:=A7 (l:=M4 items us pr) hk
    obtain ⟨q,hq,he⟩:=List.mem_map.1 hm
    rw [show (M4 items us pr).getD k []=(M4 items us pr).getD k default from rfl,←he]
    exact A0N _ _ _
 ·rename_i h4
  unfold A0q
  split
  ·exact .inl rfl
  ·right
   split
   ·rename_i h3
    exact A9H (hok.buy h3) hu.ok (A0N _ _ _)
   ·rename_i h3
    exact B0L (hok.ask hfit (by have:=hok.kind;omega)) hu.ok (A0N _ _ _)
theorem B4H {items:List Ab.Item} {p:PSt} (hu:A7e items p.us) {pr:B1} (hfit:K1 pr) (hright:J2 pr=true) (hk:pr.kind≠7):∃ x,Off p.us (A7h items p pr).us x:=by
 unfold A7h
 split
 ·rename_i h0
  rcases B8d hu hfit hright hk with e | e
  ·rw [e] at h0;exact absurd h0 (by decide)
  ·exact ⟨_,e⟩
 ·exact ⟨0,Off.refl hu.ok⟩
theorem C0g (bx:Nat) (items:List Ab.Item) (p:PSt) (pr:B1) (hfit:K1 pr) (hright:J2 pr=true) (hk:pr.kind≠7) (hu:A7e items p.us) (hd:p.deals.length≤1000) (hg:p.groups.length≤1000) (s t:St) (h:PxR bx items p s t) :
  S P 80 [.optr 4 bx 0 0,B8 pr] t fun v t'=>v=.tuple []∧PxR bx items (A7h items p pr) s t':=by
 have key:∀ K:KK,(∀ v,v=.tuple [C0 (A3y items p.us pr).1,eI (A3y items p.us pr).2]→K v t)→T2 P (if pr.kind=4 then 152 else 151) [.optr 4 bx 0 0,B8 pr] t K:=fun K hK=>by
  unfold A3y at hK
  split
  ·rename_i h4
   rw [if_pos h4] at hK
   exact call (B3y bx items p pr hfit hright h4 hu s t h) (fun v t' hv=>by rw [hv.2];exact hK v hv.1)
  ·rename_i h4
   rw [if_neg h4] at hK
   exact call (B5R bx items p pr hfit hright ⟨h4,hk⟩ hu s t h) (fun v t' hv=>by rw [hv.2];exact hK v hv.1)
 obtain ⟨⟨dv,gv⟩,hbx,y,⟨f,rfl,hf⟩,hRD⟩:=h
 simp only at hf hRD
 have hA:A7h items p pr=if (A3y items p.us pr).2>0 then A0P ⟨(A3y items p.us pr).1,p.deals,p.groups⟩ pr (A3y items p.us pr).2 else p:=rfl
 have h0:PxR bx items p s t:=⟨(dv,gv),hbx,_,⟨f,rfl,hf⟩,hRD⟩
 refine D6 [3] Tryz.func80 ?_
 refine B6 (fun h4=>?_) (fun h4=>?_)<;>rw [h4]<;>simp only [beq_iff_eq,beq_eq_false_iff_ne] at h4
 ·rw [if_pos h4] at key;conv=>whnf
  refine key _ (fun v hv=>?_)
  subst hv;conv=>whnf
  refine B6 (fun h5=>?_) (fun h5=>?_)<;>rw [h5]<;>simp only [decide_eq_true_eq,decide_eq_false_iff_not] at h5
  ·rw [if_pos h5] at hA
   rw [hA];conv=>whnf
   refine stW hRD.at hf ?_
   refine call (B1l bx items ⟨(A3y items p.us pr).1,p.deals,p.groups⟩ pr _ hd hg s _ (PxR.fin hbx hRD _ (by rw [A9];rfl))) (fun v t' hv=>?_)
   obtain ⟨rfl,h6⟩:=hv
   conv=>whnf
   exact ⟨rfl,h6⟩
  ·rw [if_neg h5] at hA
   rw [hA];conv=>whnf
   exact ⟨rfl,h0⟩
 ·rw [if_neg h4] at key;conv=>whnf
  refine key _ (fun v hv=>?_)
  subst hv;conv=>whnf
  refine B6 (fun h5=>?_) (fun h5=>?_)<;>rw [h5]<;>simp only [decide_eq_true_eq,decide_eq_false_iff_not] at h5
  ·rw [if_pos h5] at hA
   rw [hA];conv=>whnf
   refine stW hRD.at hf ?_
   refine call (B1l bx items ⟨(A3y items p.us pr).1,p.deals,p.groups⟩ pr _ hd hg s _ (PxR.fin hbx hRD _ (by rw [A9];rfl))) (fun v t' hv=>?_)
   obtain ⟨rfl,h6⟩:=hv
   conv=>whnf
   exact ⟨rfl,h6⟩
  ·rw [if_neg h5] at hA
   rw [hA];conv=>whnf
   exact ⟨rfl,h0⟩
def A8b (p:PSt) (pr:B1) (net ship:Int):Int×PSt :=
 if net<pr.least then (ship,p) else (ship - M3 ship pr.rate,if M3 ship pr.rate>0 then A0P p pr (M3 ship pr.rate) else p)
theorem B1z (bx:Nat) (items:List Ab.Item) (p:PSt) (pr:B1) (net ship:Int) (h0:0≤ship) (h1:ship≤10000000000000) (hd:p.deals.length≤1000) (hg:p.groups.length≤1000) (s t:St) (h:PxR bx items p s t) :
  S P 83 [.optr 4 bx 0 0,B8 pr,eI net,eI ship] t fun v t'=>v=eI (A8b p pr net ship).1∧PxR bx items (A8b p pr net ship).2 s t':=by
 have hS:A8b p pr net ship=if net<pr.least then (ship,p) else (ship - M3 ship pr.rate,if M3 ship pr.rate>0 then A0P p pr (M3 ship pr.rate) else p):=rfl
 have hb:=U0 ship pr.rate
 have w:IntKind.i64.wrap (ship - M3 ship pr.rate)=ship - M3 ship pr.rate:=A5 (by omega) (by omega)
 refine D6 [5] Tryz.func83 ?_
 refine B6 (fun h2=>?_) (fun h2=>?_)<;>rw [h2]<;>simp only [decide_eq_true_eq,decide_eq_false_iff_not] at h2
 ·rw [if_pos h2] at hS
  rw [hS];conv=>whnf
  exact ⟨rfl,h⟩
 rw [if_neg h2] at hS
 rw [hS];conv=>whnf
 refine I7 (B1s ship pr.rate 1 t) ?_
 refine B6 (fun h3=>?_) (fun h3=>?_)<;>rw [h3]<;>simp only [decide_eq_true_eq,decide_eq_false_iff_not] at h3
 ·conv=>whnf
  refine call (B1l bx items p pr _ hd hg s t h) (fun v t' hv=>?_)
  obtain ⟨rfl,h4⟩:=hv
  conv=>whnf
  have h3':M3 ship pr.rate>0:=h3
  rw [if_pos h3']
  refine ⟨?_,h4⟩
  show AV.int .i64 (IntKind.i64.wrap (ship - M3 ship pr.rate))=_
  rw [w]
 ·conv=>whnf
  have h3':¬ M3 ship pr.rate>0:=h3
  rw [if_neg h3']
  refine ⟨?_,h⟩
  show AV.int .i64 (IntKind.i64.wrap (ship - M3 ship pr.rate))=_
  rw [w]
def A6a (s:Ab.Ship) (units net:Int):Int:=if units=0∨(s.free>0∧net≥s.free) then 0 else s.fee
theorem C0l (s:Ab.Ship) (units net:Int) (t:St):S P 81 [B8o s,eI units,eI net] t fun v t'=>v=eI (A6a s units net)∧t'=t:=by
 refine D6 [3] Tryz.func81 ?_
 refine B6 (fun h1=>?_) (fun h1=>?_)<;>rw [h1]<;>simp only [beq_iff_eq,beq_eq_false_iff_ne] at h1
 ·conv=>whnf
  exact ⟨by unfold A6a;rw [if_pos (.inl h1)];rfl,rfl⟩
 conv=>whnf
 refine B6 (fun h2=>?_) (fun h2=>?_)<;>rw [h2]<;>simp only [decide_eq_true_eq,decide_eq_false_iff_not] at h2
 ·conv=>whnf
  refine B6 (fun h3=>?_) (fun h3=>?_)<;>rw [h3]<;>simp only [decide_eq_true_eq,decide_eq_false_iff_not] at h3
  ·conv=>whnf
   exact ⟨by unfold A6a;rw [if_pos (.inr ⟨h2,h3⟩)];rfl,rfl⟩
  ·conv=>whnf
   exact ⟨by unfold A6a;rw [if_neg (by rintro (e | ⟨_,e⟩)<;>contradiction)];rfl,rfl⟩
 ·conv=>whnf
  exact ⟨by unfold A6a;rw [if_neg (by rintro (e | ⟨e,_⟩)<;>contradiction)];rfl,rfl⟩
theorem A9T (pr:B1) (t:St):S P 77 [B8 pr] t fun v t'=>v=.bool (pr.kind==7)∧t'=t:=by
 refine D6 [1] Tryz.func77 ?_
 exact ⟨rfl,rfl⟩
theorem B5w (pr:B1) (t:St):S P 79 [B8 pr,.fptr (.fn (.func 77) [] []) 0] t fun v t'=>v=.bool (!(pr.kind==7))∧t'=t:=by
 refine D6 [2] Tryz.func79 ?_
 refine I7 (A9T pr t) ?_
 exact ⟨rfl,rfl⟩
theorem B0g {R R':St→St→Prop} (hR:G5 R) (hm:∀ s t t',R s t→E7 t t'→R s t') (hR':G5 R') {f:FuncId} {args:List AV} {w:AV} {s t0 t:St} {q:Nat} {fl:Bool} {es:List QE} (h:R s t0) (hq:V9 t0 q fl es t)
  (hS:∀ u,R u t→S P f args t fun v t'=>v=w∧R' u t'):S P f args t fun v t'=>v=w∧∃ t0',R' s t0'∧V9 t0' q fl es t':=by
 obtain ⟨bo,hF,hn⟩:=hq.foot
 obtain ⟨y1,hy1⟩:=hF.some (.inl rfl)
 have hq0:=hn q (.inl rfl)
 have hsq:s q=none:=(hR.sup h).none hq0
 cases bo with
 | none =>
  have h1:R (upd s q y1) t:=hm _ _ _ (hR.begin (y:=y1) h hq0) (fun c x hc=>by
   by_cases e:c=q
   ·subst e;rw [A0] at hc;rw [hy1];exact hc
   ·rw [A3 e] at hc;exact hq.sup c x hc)
  refine (hS _ h1).mono fun v t' hv=>⟨hv.1,del t' q,hR'.forget hv.2 hsq,?_⟩
  have hF':QF q none fl es t':=hF.frame fun c hc=>by
   rcases hc with rfl | hc
   ·rw [hR'.sup hv.2 c y1 (A0 ..),hy1]
   ·cases hc
  exact hF'.qst (fun c x hc=>by
   by_cases e:c=q
   ·subst e;rw [A0H] at hc;cases hc
   ·rw [Y8 e] at hc;exact hc) (fun c hc=>by
    rcases hc with rfl | hc
    ·exact A0H ..
    ·cases hc)
 | some b =>
  obtain ⟨y2,hy2⟩:=hF.some (c:=b) (.inr rfl)
  have hb0:=hn b (.inr rfl)
  have hqb:q≠b:=by
   obtain ⟨sv,_,h3⟩:=hF.has
   rcases h3 with ⟨_,_,e⟩ | ⟨b',l,n,e,hne,_⟩
   ·cases e
   ·cases e;exact hne
  have hsb:s b=none:=(hR.sup h).none hb0
  have h1:R (upd (upd s b y2) q y1) t:=hm _ _ _ (hR.begin (y:=y1) (hR.begin (y:=y2) h hb0) (by rw [A3 hqb];exact hq0)) (fun c x hc=>by
   by_cases e:c=q
   ·subst e;rw [A0] at hc;rw [hy1];exact hc
   ·rw [A3 e] at hc
    by_cases e2:c=b
    ·subst e2;rw [A0] at hc;rw [hy2];exact hc
    ·rw [A3 e2] at hc;exact hq.sup c x hc)
  refine (hS _ h1).mono fun v t' hv=>⟨hv.1,del (del t' q) b,hR'.forget (hR'.forget hv.2 (by rw [A3 hqb];exact hsq)) hsb,?_⟩
  have hs':=hR'.sup hv.2
  have hF':QF q (some b) fl es t':=hF.frame fun c hc=>by
   rcases hc with rfl | hc
   ·rw [hs' c y1 (A0 ..),hy1]
   ·cases hc
    rw [hs' b y2 (by rw [A3 hqb.symm,A0]),hy2]
  exact hF'.qst (fun c x hc=>by
   by_cases e:c=b
   ·subst e;rw [A0H] at hc;cases hc
   ·rw [Y8 e] at hc
    by_cases e2:c=q
    ·subst e2;rw [A0H] at hc;cases hc
    ·rw [Y8 e2] at hc;exact hc) (fun c hc=>by
    rcases hc with rfl | hc
    ·rw [Y8 hqb];exact A0H ..
    ·cases hc;exact A0H ..)
theorem A9o (l:List D9) (hl:l.length≤100000) (v:D9) (st:St) (b:Nat) (f:Nat→AV) (hb:st b=some ⟨9,1,l.length,f⟩) (hf:∀ k,k<l.length→f k=A5Z l k) :
  S P 238 [.own 1 b 0 l.length,eS v] st fun r st'=>r=eI (idx (fun y:D9=>v.toList==y.toList) l)∧st'=st:=by
 refine D6 [] Tryz.func238 ?_
 refine ⟨[0,1,7,8],fun m vs st'=>∃ i:Nat,i≤l.length∧(∀ k,k<i→(v.toList==(l.getD k default).toList)=false)∧m=l.length - i∧vs=[.own 1 b 0 l.length,eS v,eI l.length,eI i]∧st'=st,?_,?_⟩
 ·conv=>whnf
  exact ⟨_,0,Nat.zero_le _,fun k hk=>absurd hk (by omega),rfl,rfl,rfl⟩
 ·rintro m vs st' ⟨i,hi,hok,rfl,rfl,rfl⟩
  conv=>whnf
  cases h:decide ((i:Int)<(l.length:Int))
  ·have:=of_decide_eq_false h
   conv=>whnf
   refine ⟨?_,rfl⟩
   rw [K2 (p:=fun y:D9=>v.toList==y.toList) fun k hk=>hok k (by omega)];rfl
  ·have hi':i<l.length:=by have:=of_decide_eq_true h;omega
   conv=>whnf
   refine I3 ?_
   refine ldV hb rfl (by omega) (v:=eS (l.getD i default)) (by rw [show 0+(i:Int).toNat=i by omega];exact hf i hi') ?_;conv=>whnf
   cases hp:(v.toList==(l.getD i default).toList)
   ·conv=>whnf
    refine H4 ?_
    refine ⟨l.length - (i+1),by omega,i+1,by omega,fun k hk=>?_,rfl,by rw [B7 (by omega)],rfl⟩
    rcases Nat.lt_succ_iff_lt_or_eq.1 hk with h' | h'
    ·exact hok k h'
    ·rw [h'];exact hp
   ·conv=>whnf
    refine ⟨?_,rfl⟩
    rw [U2 (p:=fun y:D9=>v.toList==y.toList) hi' hok hp];rfl
theorem B3Q (l:List D9) (hl:l.length≤100000) (v:D9) (st:St) (b:Nat) (f:Nat→AV) (hb:st b=some ⟨9,1,l.length,f⟩) (hf:∀ k,k<l.length→f k=A5Z l k) :
  S P 150 [.own 1 b 0 l.length,eS v] st fun r st'=>r=.bool (inB l v)∧st'=st:=by
 refine D6 [] Tryz.func150 ?_
 refine I7 (A9o l hl v st b f hb hf) ?_
 refine ⟨?_,rfl⟩
 unfold inB
 rw [←V0];rfl
theorem A9n (v:D9) (st:St):S P 238 [.emp,eS v] st fun r st'=>r=eI (-1)∧st'=st:=by
 refine D6 [] Tryz.func238 ?_
 refine A7k [0,1,7,8] ?_;conv=>whnf
 intro I;conv=>whnf
 exact ⟨rfl,rfl⟩
theorem B3P (v:D9) (st:St):S P 150 [.emp,eS v] st fun r st'=>r=.bool false∧st'=st:=by
 refine D6 [] Tryz.func150 ?_
 refine I7 (A9n v st) ?_
 exact ⟨rfl,rfl⟩
theorem PxR.groups {bx:Nat} {items:List Ab.Item} {p:PSt} {s t:St} (h:PxR bx items p s t) (hg:p.groups.length≤1000):∃ dv gv f,t bx=some ⟨147,4,1,f⟩∧f 0=.agg [A6 4 E9 items,C0 p.us,dv,gv]∧(gv=.emp∨∃ b,gv=.own 1 b 0 p.groups.length) ∧
  ∀ (g:D9),S P 150 [gv,eS g] t fun r t'=>r=.bool (inB p.groups g)∧t'=t:=by
 obtain ⟨⟨dv,gv⟩,h⟩:=h
 obtain ⟨y,⟨f,rfl,hf⟩,hy⟩:=V1.at (A2y _ _ _ _) h
 obtain ⟨_,_,_,hd⟩:=h
 obtain ⟨s0,hc,hg0⟩:=hd
 refine ⟨dv,gv,f,hy,hf,hg0.head,fun g=>?_⟩
 obtain ⟨s1,hc1,hs1⟩:=hg0
 rcases hc1 with ⟨h0,h1,rfl⟩ | ⟨h0,b,g0,hb,h1,rfl,hgg⟩
 ·have:p.groups=[]:=List.eq_nil_of_length_eq_zero h0
  subst h1
  rw [this]
  exact B3P g t
 ·subst h1
  exact B3Q p.groups (by omega) g t b g0 (hs1 b _ (A0 ..)) hgg
def goB {σ : Type} (px : σ→PSt) (step : σ→B1→σ) (a : σ) (pr:B1) : σ:=if A0K pr.group||!inB (px a).groups pr.group then step a pr else a
def A1C {σ : Type} (px : σ→PSt) (step : σ→B1→σ) (sm:B1→Bool) (l:List B1) (a : σ) (o:List Int) : σ:=(o.filter fun x=>sm (I4 l x)).foldl (fun a x=>goB px step a (I4 l x)) a
def W5 (sm:B1→Bool) (l:List B1) (o:List Int) (i:Nat):List QE:=((List.range i).filter fun k=>sm (I4 l (gI o k))).map fun (k:Nat)=>(-(k:Int),gI o k)
theorem A5b (sm:B1→Bool) (l:List B1) (o:List Int) (i:Nat):W5 sm l o (i+1)=W5 sm l o i++(if sm (I4 l (gI o i))=true then [(-(i:Int),gI o i)] else []):=by
 unfold W5
 rw [List.range_succ,List.filter_append,List.map_append]
 congr 1
 by_cases h:sm (I4 l (gI o i))=true
 ·rw [if_pos h,List.filter_cons_of_pos (p:=fun k=>sm (I4 l (gI o k))) h];rfl
 ·rw [if_neg h,List.filter_cons_of_neg (p:=fun k=>sm (I4 l (gI o k))) h];rfl
theorem B1q (sm:B1→Bool) (l:List B1) (o:List Int) (i:Nat):(W5 sm l o i).length≤i:=by
 unfold W5
 rw [List.length_map]
 exact Nat.le_trans (List.length_filter_le ..) (by simp)
theorem A6u (sm:B1→Bool) (l:List B1) (o:List Int):∀ i,i≤o.length→(W5 sm l o i).map (·.2)=(o.take i).filter fun x=>sm (I4 l x)
 | 0,_=>by simp [W5]
 | i+1,h=>by
  rw [A5b,List.map_append,A6u sm l o i (by omega),L7 (show i<o.length by omega),List.filter_append]
  congr 1
  show List.map (fun x=>x.2) (if sm (I4 l (gI o i))=true then [(-(i:Int),gI o i)] else [])=List.filter (fun x=>sm (I4 l x)) [gI o i]
  by_cases hs:sm (I4 l (gI o i))=true
  ·rw [if_pos hs,List.filter_cons_of_pos (p:=fun x=>sm (I4 l x)) hs];rfl
  ·rw [if_neg hs,List.filter_cons_of_neg (p:=fun x=>sm (I4 l x)) hs];rfl
theorem A7m (sm:B1→Bool) (l:List B1) (o:List Int) (i:Nat):(W5 sm l o i).Pairwise fun a b=>E1 b a=false:=by
 unfold W5
 refine List.Pairwise.map _ (fun a b h=>?_) ((List.pairwise_lt_range (n:=i)).filter _)
 rw [Z4]
 show ¬(-(b:Int) > -(a:Int)∨(-(b:Int) = -(a:Int)∧_))
 omega
theorem B0i {l:List B1} {codes:List D9} {o:List Int} (ho:A5p l codes o) {x:Int} (hx:x∈H0 l o):0≤x∧x.toNat<l.length:=by
 obtain ⟨e,he,rfl⟩:=List.mem_map.1 hx
 have h:=A6C he
 exact A2H (ho.1.subset (A7 h.2))
theorem B2v {σ : Type} {N:Nat} (hN:A1T N) (bx:Nat) (items:List Ab.Item) (R : σ→St→St→Prop) (px : σ→PSt) (hR:∀ a,G5 (R a)) (hmore:∀ a s t t',R a s t→E7 t t'→R a s t') (hP:∀ a s t,R a s t→∃ s',PxR bx items (px a) s' t)
  (l:List B1) (codes:List D9) (hl:l.length≤60) (hc:codes.length≤9223372036854775807) (h20:(places l codes l.length).length≤N)
  (g:FuncId) (cs:List AV) (sm:B1→Bool) (hsome:∀ (pr:B1) (t:St),S P g (B8 pr::cs) t fun v t'=>v=.bool (sm pr)∧t'=t)
  (f:FuncId) (fs ds:List AV) (step : σ→B1→σ) (Inv : σ→Nat→Prop) (hgr:∀ a n,Inv a n→(px a).groups.length≤1000) (hle:∀ a n,Inv a (n+1)→Inv a n)
  (hdo:∀ (a : σ) (n:Nat) (pr:B1) (s t:St),pr∈l→sm pr=true→Inv a (n+1)→R a s t→S P f (fs++[B8 pr]++ds) t fun v t'=>v=.tuple []∧R (step a pr) s t')
  (hinv:∀ (a : σ) (n:Nat) (pr:B1),pr∈l→sm pr=true→Inv a (n+1)→Inv (step a pr) n) (a0 : σ) (hI:Inv a0 60) (s t:St) (h:R a0 s t) :
  S P 78 [.optr 4 bx 0 0,A6 15 B8 l,D8 codes,.fn (.func g) [] cs,.fn (.func f) fs ds] t fun v t'=>v=.tuple []∧∃ o,A5p l codes o∧R (A1C px step sm l a0 (H0 l o)) s t':=by
 refine D6 [] Tryz.func78 ?_
 refine call (A8V t) (fun v t1 hv=>?_)
 obtain ⟨q,rfl,hq⟩:=hv
 conv=>whnf
 refine call (B7E hN l codes hl hc h20 t1) (fun v t2 hv=>?_)
 obtain ⟨⟨o,ho,rfl⟩,rfl⟩:=hv
 have hmem:=fun {x:Int} (hx:x∈H0 l o)=>B0i ho hx
 have hrl:(H0 l o).length≤60:=by
  rw [List.length_map,A1v,ho.1.length_eq]
  have:=A1u l codes l.length;omega
 obtain ⟨r,hr⟩:∃ r:List Int,r=H0 l o:=⟨_,rfl⟩
 rw [←hr] at hrl
 have hmem':∀ x∈r,0≤x∧x.toNat<l.length:=fun x hx=>hmem (by rw [←hr];exact hx)
 have hInvle:∀ (a : σ) (n m:Nat),m≤n→Inv a n→Inv a m:=fun a n m hmn h=>by
  induction n with
  | zero=>have:m=0:=by omega
          subst this;exact h
  | succ n ih =>
   rcases Nat.lt_or_ge n m with h1 | h1
   ·have:m=n+1:=by omega
    subst this;exact h
   ·exact ih h1 (hle a n h)
 have hfin:∀ t',R (A1C px step sm l a0 r) s t'→∃ o,A5p l codes o∧R (A1C px step sm l a0 (H0 l o)) s t':=fun t' h=>⟨o,ho,by rw [←hr];exact h⟩
 have hv:B4 (H0 l o)=B4 r:=by rw [hr]
 rw [hv]
 clear hv
 conv=>whnf
 refine ⟨[0,1,3,4,10,19,20,21],fun m vs t'=>∃ i:Nat,i≤r.length∧m=r.length - i∧vs=[.optr 4 bx 0 0,A6 15 B8 l,.fn (.func g) [] cs,.fn (.func f) fs ds,.optr 1 q 0 0,B4 r,eI r.length,eI i]∧V9 t q true (W5 sm l r i) t',?_,?_⟩
 ·conv=>whnf
  exact ⟨_,0,Nat.zero_le _,rfl,rfl,hq⟩
 ·clear hq
  rintro m vs t' ⟨i,hi,rfl,rfl,hq⟩
  have hpl:=B1q sm l r i
  conv=>whnf
  cases hd:decide ((i:Int)<(r.length:Int))
  ·have:=of_decide_eq_false hd
   obtain rfl:i=r.length:=by omega
   have hsnd:=A6u sm l r r.length (Nat.le_refl _)
   rw [List.take_length] at hsnd;conv=>whnf
   refine ⟨[0,1,4,10],fun m vs t'=>∃ (a : σ) (rest:List QE) (fl:Bool) (t0:St),m=rest.length∧vs=[.optr 4 bx 0 0,A6 15 B8 l,.fn (.func f) fs ds,.optr 1 q 0 0]∧(rest.map (·.2)).foldl (fun a x=>goB px step a (I4 l x)) a=A1C px step sm l a0 r∧(∀ e∈rest,(0≤e.2∧e.2.toNat<l.length)∧sm (I4 l e.2)=true)∧(rest.Pairwise fun a b=>E1 b a=false)∧Inv a rest.length∧R a s t0∧V9 t0 q fl rest t',?_,?_⟩
   ·conv=>whnf
    refine ⟨_,a0,W5 sm l r r.length,true,t,rfl,rfl,by rw [hsnd];rfl,fun e he=>?_,A7m sm l r r.length,hInvle a0 60 _ (by omega) hI,h,hq⟩
    have:e.2∈(W5 sm l r r.length).map (·.2):=List.mem_map_of_mem he
    rw [hsnd] at this
    obtain ⟨h1,h2⟩:=List.mem_filter.1 this
    exact ⟨hmem' _ h1,h2⟩
   ·clear hq
    rintro m vs t' ⟨a,rest,fl,t0,rfl,rfl,hF,hrm,hsort,hIa,hRa,hq⟩
    conv=>whnf
    refine I7 (A6v _ _ _ _ _ hq) ?_
    cases rest with
    | nil =>
     conv=>whnf
     refine ⟨rfl,hfin t' ?_⟩
     rw [←hF]
     exact hmore _ _ _ _ hRa hq.sup
    | cons x rest =>
     rw [List.pairwise_cons] at hsort
     have hx:=hrm x (List.mem_cons_self ..)
     have hlen0:decide (((x::rest).length:Int)>0)=true:=decide_eq_true (by rw [List.length_cons];omega)
     rw [hlen0];conv=>whnf
     refine call (A6w _ _ _ _ _ _ hq hsort.1) (fun v t2 hv=>?_)
     obtain ⟨rfl,hq2⟩:=hv
     have hpr:I4 l x.2∈l:=A7 hx.1.2
     have hgl:=hgr a _ hIa
     obtain ⟨s',hpx⟩:=hP a s t2 (hmore _ _ _ _ hRa hq2.sup)
     obtain ⟨dv,gv,fx,hbx,hfx,hgv,hcont⟩:=hpx.groups hgl
     conv=>whnf
     -- what is behind the round
     have hgo:goB px step a (I4 l x.2)=if A0K (I4 l x.2).group||!inB (px a).groups (I4 l x.2).group then step a (I4 l x.2) else a:=rfl
     have hF2:(rest.map (·.2)).foldl (fun a x=>goB px step a (I4 l x)) (goB px step a (I4 l x.2))=A1C px step sm l a0 r:=by rw [←hF];rfl
     have round:∀ (b : σ) (t3:St),b=goB px step a (I4 l x.2)→Inv b rest.length→(∃ t0',R b s t0'∧V9 t0' q false rest t3)→∃ m',m'<rest.length+1∧∃ (a : σ) (rest_1:List QE) (fl:Bool) (t0:St),m'=rest_1.length∧[AV.optr 4 bx 0 0,A6 15 B8 l,.fn (.func f) fs ds,.optr 1 q 0 0]=[AV.optr 4 bx 0 0,A6 15 B8 l,.fn (.func f) fs ds,.optr 1 q 0 0]∧(rest_1.map (·.2)).foldl (fun a x=>goB px step a (I4 l x)) a=A1C px step sm l a0 r∧(∀ e∈rest_1,(0≤e.2∧e.2.toNat<l.length)∧sm (I4 l e.2)=true)∧(rest_1.Pairwise fun a b=>E1 b a=false)∧Inv a rest_1.length∧R a s t0∧V9 t0 q fl rest_1 t3 :=
      fun b t3 hb hib ⟨t0',h1,h2⟩=>⟨rest.length,Nat.lt_succ_self _,b,rest,false,t0',rfl,rfl,by rw [hb];exact hF2,fun e he=>hrm e (List.mem_cons_of_mem _ he),hsort.2,hib,h1,h2⟩
     -- the call itself
     have doit:∀ K:KK,(∀ t3,(∃ t0',R (step a (I4 l x.2)) s t0'∧V9 t0' q false rest t3)→K (.tuple []) t3)→T2 P f (fs++[B8 (I4 l x.2)]++ds) t2 K:=fun K hK=>by
      refine call (B0g (hR a) (hmore a) (hR _) hRa hq2 (fun u hu=>hdo a rest.length (I4 l x.2) u t2 hpr hx.2 (by simpa using hIa) hu)) (fun v t3 hv=>?_)
      rw [hv.1];exact hK t3 hv.2
     refine ⟨[],[],[0,1,2,3,4,5,6,7,8,9,10,11,12,13,14,15,16,17,18],by kernel_rfl,?_⟩;conv=>whnf
     refine I3 ?_
     have hnil:(ByteArray.toList (l.getD x.2.toNat default).group==ByteArray.toList ⟨#[]⟩)=A0K (I4 l x.2).group:=rfl
     have hyes:(A0K (I4 l x.2).group||!inB (px a).groups (I4 l x.2).group)=true→∀ K:KK,(∀ t3,(∃ (b : σ),b=goB px step a (I4 l x.2)∧Inv b rest.length∧∃ t0',R b s t0'∧V9 t0' q false rest t3)→K (.tuple []) t3)→T2 P f (fs++[B8 (I4 l x.2)]++ds) t2 K:=fun hy K hK =>
      doit K fun t3 h3=>hK t3 ⟨_,by rw [hgo,if_pos hy],hinv a _ _ hpr hx.2 (by simpa using hIa),h3⟩
     rw [hnil]
     cases hg:A0K (I4 l x.2).group with
     | true =>
      conv=>whnf
      refine I3 ?_
      rw [A1e,A1e]
      refine hyes (by rw [hg];rfl) _ (fun t3 h3=>?_);conv=>whnf
      refine H4 ?_
      obtain ⟨b,h4,h5,h6⟩:=h3
      exact round b t3 h4 h5 h6
     | false =>
      rcases hgv with rfl | ⟨bg,rfl⟩
      all_goals
       conv=>whnf
       refine J5 hbx hfx ?_
       refine I3 ?_
       refine cqW (hcont (I4 l x.2).group) ?_
       cases hi:inB (px a).groups (I4 l x.2).group with
       | false =>
        conv=>whnf
        refine I3 ?_
        rw [A1e,A1e]
        refine hyes (by rw [hi];simp) _ (fun t3 h3=>?_);conv=>whnf
        refine H4 ?_
        obtain ⟨b,h4,h5,h6⟩:=h3
        exact round b t3 h4 h5 h6
       | true =>
        conv=>whnf
        refine H4 ?_
        refine round a t2 (by rw [hgo,if_neg (by rw [hg,hi];simp)]) (hle a _ (by simpa using hIa)) ⟨t0,hRa,hq2⟩
  ·have hi':i<r.length:=by have:=of_decide_eq_true hd;omega
   have hm:=hmem' _ (A7 hi')
   have es:=A5b sm l r i
   conv=>whnf
   refine I3 ?_
   refine ⟨rfl,⟨by show 0≤gI r i;exact hm.1,by show gI r i<(l.length:Int);have h1:=hm.1;have h2:=hm.2;show gI r i<_;have:(gI r i).toNat<l.length:=h2;have:0≤gI r i:=h1;omega⟩,?_⟩;conv=>whnf
   refine I7 (hsome (I4 l (gI r i)) t') ?_
   refine B6 (fun h3=>?_) (fun h3=>?_)<;>rw [h3]
   ·rw [if_pos h3] at es
    have w:IntKind.i64.wrap (0 - (i:Int)) = -(i:Int):=by rw [show 0 - (i:Int) = -(i:Int) by omega];exact A5 (by omega) (by omega)
    conv=>whnf
    rw [w]
    refine call (A5F t q _ (-(i:Int)) (gI r i) _ hq (by omega)) (fun v t2 hv=>?_)
    obtain ⟨rfl,hq'⟩:=hv
    conv=>whnf
    refine H4 ?_
    exact ⟨r.length - (i+1),by omega,i+1,by omega,rfl,by rw [B7 (by omega)],by rw [es];exact hq'⟩
   ·have h3':¬ sm (I4 l (gI r i))=true:=by rw [h3];simp
    rw [if_neg h3',List.append_nil] at es;conv=>whnf
    refine H4 ?_
    exact ⟨r.length - (i+1),by omega,i+1,by omega,rfl,by rw [B7 (by omega)],by rw [es];exact hq⟩
def G6 (r:O6) (codes:List D9) (l:List F6):Int :=
 if A1w r=false then 10 else if N0 codes=false then 2 else T9 (known r.items) l
theorem B5D (r:O6) (codes:List D9) (l:List F6) (hf:A3D r) (hc:codes.length≤Big) (hi:r.items.length≤9223372036854775807) (st:St) :
  S P 74 [Q1 r,D8 codes,A6 3 G3 l] st fun v st'=>v=eI (G6 r codes l)∧st'=st:=by
 refine D6 [3] Tryz.func74 ?_
 refine I7 (B2x r hf st) ?_
 have hP:G6 r codes l=if A1w r=false then 10 else if N0 codes=false then 2 else T9 (known r.items) l:=rfl
 cases h1:A1w r
 ·rw [if_pos h1] at hP;conv=>whnf
  exact ⟨by rw [hP];rfl,rfl⟩
 ·rw [if_neg (by rw [h1];simp)] at hP;conv=>whnf
  refine I7 (A8x codes hc st) ?_
  cases h2:N0 codes
  ·rw [if_pos h2] at hP;conv=>whnf
   exact ⟨by rw [hP];rfl,rfl⟩
  ·rw [if_neg (by rw [h2];simp)] at hP;conv=>whnf
   refine I7 (B6E r.items l hi st) ?_
   exact ⟨by rw [hP];rfl,rfl⟩
abbrev A6V (l:List F6):List A8:=D1 l l.length
structure A3B (items:List Ab.Item) (l:List F6):Prop where
 len:l.length≤1000
 line:∀ x∈l,A0M x=true
 known:∀ x∈l,known items x.sku=true
 units:R0 l≤100000
 gross:Q2 l≤10000000000000
theorem B7t {items:List Ab.Item} {l:List F6} (h:T9 (known items) l=0):A3B items l:=by
 unfold T9 at h
 split at h
 ·cases h
 ·rename_i hl
  split at h
  ·rename_i x hx
   split at h<;>cases h
  ·rename_i hf
   have hall:∀ x∈l,N2 (Go.Proofs.YtbajhapmlfbelaaGreat.known items) x=false:=fun x hx=>Bool.eq_false_iff.2 (List.find?_eq_none.1 hf x hx)
   have hb:∀ x∈l,Go.Proofs.YtbajhapmlfbelaaGreat.known items x.sku=true∧A0M x=true:=fun x hx=>by
    have:=hall x hx
    unfold N2 at this
    simpa using this
   split at h
   ·cases h
   ·rename_i hg
    simp only [Bool.or_eq_true,decide_eq_true_eq,not_or] at hg
    exact ⟨by omega,fun x hx=>(hb x hx).2,fun x hx=>(hb x hx).1,by omega,by omega⟩
theorem A3B.may {items:List Ab.Item} {l:List F6} (h:A3B items l):(T9 (fun _=>true) l==0)=true:=by
 have:T9 (fun _=>true) l=0:=by
  unfold T9
  rw [if_neg (by have:=h.len;omega)]
  have hf:l.find? (N2 fun _=>true)=none:=List.find?_eq_none.2 fun x hx=>by
   unfold N2;rw [h.line x hx];simp
  rw [hf]
  simp only
  rw [if_neg]
  have:=h.units
  have:=h.gross
  simp only [Bool.or_eq_true,decide_eq_true_eq,not_or]
  omega
 rw [this];rfl
theorem A2m (l:List F6) (hl:∀ x∈l,A0M x=true):∀ k,k≤l.length→((D1 l k).length:Int)=R0 (l.take k)∧A2 (C7 (D1 l k))=Q2 (l.take k)∧(∀ u∈D1 l k,0≤u.net∧0≤u.line∧u.line.toNat<k∧u.opn=true)
 | 0,_=>⟨rfl,rfl,fun u hu=>by simp [D1] at hu⟩
 | k+1,h=>by
  obtain ⟨h1,h2,h3⟩:=A2m l hl k (by omega)
  have hx:=(A2E _).1 (hl _ (A7 (show k<l.length by omega)))
  have eN:R0 (l.take (k+1))=R0 (l.take k)+(l.getD k default).qty:=H5 (by omega) _ _
  have eG:Q2 (l.take (k+1))=Q2 (l.take k)+(l.getD k default).qty * (l.getD k default).price:=H5 (by omega) _ _
  have hup:D1 l (k+1)=D1 l k++List.replicate (l.getD k default).qty.toNat (lnU l k):=rfl
  have hsr:∀ (n:Nat) (c:Int),A2 (List.replicate n c)=n * c:=fun n c=>by
   induction n with
   | zero=>simp [A2]
   | succ n ih=>rw [List.replicate_succ,G8,ih,show ((n+1:Nat):Int)=(n:Int)+1 by omega,Int.add_mul,Int.one_mul];omega
  refine ⟨?_,?_,fun u hu=>?_⟩
  ·rw [hup,List.length_append,List.length_replicate,eN,←h1];omega
  ·unfold C7 at h2 ⊢
   rw [hup,List.map_append,E5,h2,List.map_replicate,hsr,eG]
   show _+((l.getD k default).qty.toNat:Int) * (l.getD k default).price=_
   rw [Int.toNat_of_nonneg hx.1.1]
  ·rw [hup] at hu
   rcases List.mem_append.1 hu with hu | hu
   ·have:=h3 u hu;exact ⟨this.1,this.2.1,by omega,this.2.2.2⟩
   ·rw [List.eq_of_mem_replicate hu]
    refine ⟨hx.2.1,?_,?_,rfl⟩
    ·show (0:Int)≤(k:Int);omega
    ·show ((k:Int)).toNat<k+1;omega
theorem B8c {items:List Ab.Item} {l:List F6} (h:A3B items l):A7e (C2 items l) (A6V l):=by
 obtain ⟨h1,h2,h3⟩:=A2m l h.line l.length (Nat.le_refl _)
 rw [List.take_length] at h1 h2
 have hN:=h.units
 have hG:=h.gross
 have hlen:(C2 items l).length=l.length:=List.length_map ..
 exact ⟨⟨by show (D1 l l.length).length≤100000;omega,fun u hu=>(h3 u hu).1,by show A2 (C7 (D1 l l.length))≤_;omega⟩,by rw [hlen];have:=h.len;omega,fun u hu=>⟨(h3 u hu).2.1,by rw [hlen];exact (h3 u hu).2.2.1⟩⟩
def C4c (bn n:Nat) (net ship:Int) (y:N9):Prop:=∃ f,y=⟨44,4,1,f⟩∧f 0=.agg [.own 1 bn 0 n,eI net,eI ship,.emp]
def R2 (bx bp bn n:Nat) (items:List Ab.Item) (net:Int) (a:PSt×Int):St→St→Prop:=V1 bp (C4c bn n net a.2) (PxR bx items a.1)
theorem B4K (bx bp bn n:Nat) (items:List Ab.Item) (net:Int) (a:PSt×Int):G5 (R2 bx bp bn n items net a):=A0d (A1g _ _ _)
theorem R2.more {bx bp bn n:Nat} {items:List Ab.Item} {net:Int} {a:PSt×Int} {s t t':St} (h:R2 bx bp bn n items net a s t) (hs:E7 t t'):R2 bx bp bn n items net a s t':=by
 obtain ⟨h1,y,h2,h3⟩:=h
 exact ⟨h1,y,h2,h3.more hs⟩
def A0U (net:Int) (a:PSt×Int) (pr:B1):PSt×Int:=((A8b a.1 pr net a.2).2,(A8b a.1 pr net a.2).1)
theorem A6K (bx bp bn n:Nat) (items:List Ab.Item) (net:Int) (a:PSt×Int) (pr:B1) (h0:0≤a.2) (h1:a.2≤10000000000000) (hd:a.1.deals.length≤1000) (hg:a.1.groups.length≤1000) (s t:St) (h:R2 bx bp bn n items net a s t) :
  S P 82 [B8 pr,.fptr (.optr 4 bx 0 0) 0,.optr 4 bp 0 0] t fun v t'=>v=.tuple []∧R2 bx bp bn n items net (A0U net a pr) s t':=by
 obtain ⟨hbp,y,⟨f,rfl,hf⟩,hP⟩:=h
 have hat:t bp=some ⟨44,4,1,f⟩:=(A1g _ _ _).sup hP bp _ (A0 ..)
 refine D6 [3] Tryz.func82 ?_
 refine J5 hat hf ?_
 refine J5 hat hf ?_
 refine call (B1z bx items a.1 pr net a.2 h0 h1 hd hg _ t hP) (fun v t2 hv=>?_)
 obtain ⟨rfl,hP2⟩:=hv
 have hat2:t2 bp=some ⟨44,4,1,f⟩:=(A1g _ _ _).sup hP2 bp _ (A0 ..)
 conv=>whnf
 refine stW hat2 hf ?_
 refine ⟨rfl,?_⟩
 exact V1.set (A1g _ _ _) (Q:=fun y=>y=⟨44,4,1,f⟩) ⟨hbp,_,rfl,hP2⟩ ⟨_,rfl,by rw [A9];rfl⟩
def P8 (us:List A8) (j:Nat):Int:=A2 ((us.filter fun u=>u.line.toNat==j).map A8.net)
def V6 (n:Nat) (us:List A8):List Int:=(List.range n).map (P8 us)
theorem A3X {us:List A8} {k:Nat} (hk:k<us.length) (j:Nat):P8 (us.take (k+1)) j=if (gU us k).line.toNat=j then P8 (us.take k) j+(gU us k).net else P8 (us.take k) j:=by
 unfold P8
 rw [L7 hk,List.filter_append,List.map_append,E5]
 by_cases h:(gU us k).line.toNat=j
 ·rw [if_pos h,List.filter_cons_of_pos (by show ((gU us k).line.toNat==j)=true;rw [h];simp)]
  simp [A2]
 ·rw [if_neg h,List.filter_cons_of_neg (by show ¬((gU us k).line.toNat==j)=true;simpa using h)]
  simp [A2]
theorem A2X {us:List A8} (h:C1 us) (k j:Nat):0≤P8 (us.take k) j∧P8 (us.take k) j≤A2 (C7 us):=by
 have hsub:((us.take k).filter fun u=>u.line.toNat==j).Sublist us:=List.filter_sublist.trans (List.take_sublist _ _)
 have hgen:∀ {a b:List A8},a.Sublist b→(∀ u∈b,0≤u.net)→0≤A2 (a.map A8.net)∧A2 (a.map A8.net)≤A2 (b.map A8.net):=fun {a b} hs=>by
  induction hs with
  | slnil=>intro _;exact ⟨Int.le_refl _,Int.le_refl _⟩
  | cons x _ ih =>
   intro hb
   have h1:=ih fun u hu=>hb u (List.mem_cons_of_mem _ hu)
   have h2:=hb x (List.mem_cons_self ..)
   rw [List.map_cons,G8];omega
  | cons_cons x _ ih =>
   intro hb
   have h1:=ih fun u hu=>hb u (List.mem_cons_of_mem _ hu)
   have h2:=hb x (List.mem_cons_self ..)
   rw [List.map_cons,List.map_cons,G8,G8];omega
 exact hgen hsub h.pos
def A2G (pr:B1):Bool:=!(pr.kind==7)
def A6e (pr:B1):Bool:=pr.kind==7
def p1B (r:O6) (l:List F6) (o:List Int):PSt:=A1C (fun p=>p) (A7h (C2 r.items l)) A2G r.promos ⟨A6V l,[],[]⟩ o
def A2c (p:PSt):Int:=A2 (C7 p.us)
def p2B (r:O6) (l:List F6) (p1:PSt) (o:List Int):PSt×Int:=A1C (fun a=>a.1) (A0U (A2c p1)) A6e r.promos (p1,A6a r.ship (A6V l).length (A2c p1)) o
def U4 (r:O6) (l:List F6) (o1 o2:List Int):A8l:=⟨V6 l.length (p1B r l o1).us,A2c (p1B r l o1),(p2B r l (p1B r l o1) o2).2,(p2B r l (p1B r l o1) o2).1.deals⟩
theorem B3c {σ : Type} {px : σ→PSt} {step : σ→B1→σ} {sm:B1→Bool} {l:List B1} {Inv : σ→Nat→Prop} (hle:∀ a n,Inv a (n+1)→Inv a n) (hinv:∀ (a : σ) (n:Nat) (pr:B1),pr∈l→sm pr=true→Inv a (n+1)→Inv (step a pr) n) :
  ∀ (o:List Int) (a : σ) (n:Nat),(∀ x∈o,x.toNat<l.length)→Inv a (n+o.length)→Inv (A1C px step sm l a o) n:=by
 intro o
 unfold A1C
 induction o with
 | nil=>intro a n _ h;exact h
 | cons x o ih =>
  intro a n hm h
  have hm':∀ y∈o,y.toNat<l.length:=fun y hy=>hm y (List.mem_cons_of_mem _ hy)
  have hx:I4 l x∈l:=A7 (hm x (List.mem_cons_self ..))
  have h':Inv a ((n+o.length)+1):=by rw [List.length_cons] at h;exact h
  by_cases hs:sm (I4 l x)=true
  ·rw [List.filter_cons_of_pos (p:=fun x=>sm (I4 l x)) hs,List.foldl_cons]
   refine ih _ _ hm' ?_
   unfold goB
   split
   ·exact hinv a _ _ hx hs h'
   ·exact hle _ _ h'
  ·rw [List.filter_cons_of_neg (p:=fun x=>sm (I4 l x)) hs]
   exact ih _ _ hm' (hle _ _ h')
def B6H (items:List Ab.Item) (us0:List A8) (p:PSt) (n:Nat):Prop:=A7e items p.us∧p.deals.length+n≤100∧p.groups.length+n≤100∧∃ x,Off us0 p.us x
def B8F (a:PSt×Int) (n:Nat):Prop:=a.1.deals.length+n≤200∧a.1.groups.length+n≤200∧0≤a.2∧a.2≤10000000000000
theorem A7L {items:List Ab.Item} {us0:List A8} {a:PSt} {n:Nat} {pr:B1} (hfit:K1 pr) (hright:J2 pr=true) (hk:A2G pr=true) (h:B6H items us0 a (n+1)):B6H items us0 (A7h items a pr) n:=by
 obtain ⟨h1,h2,h3,x,h4⟩:=h
 obtain ⟨y,h5⟩:=B4H h1 hfit hright (by simpa [A2G] using hk)
 refine ⟨h1.off h5,?_,?_,x+y,h4.trans h5⟩
 ·unfold A7h;split
  ·simp only [A0P,List.length_append,List.length_cons,List.length_nil];omega
  ·omega
 ·unfold A7h;split
  ·simp only [A0P,List.length_append]
   split<;>simp<;>omega
  ·omega
theorem B3k {net:Int} {a:PSt×Int} {n:Nat} {pr:B1} (hright:J2 pr=true) (hk:A6e pr=true) (h:B8F a (n+1)):B8F (A0U net a pr) n:=by
 obtain ⟨h1,h2,h3,h4⟩:=h
 have hk7:pr.kind=7:=by simpa [A6e] using hk
 have hr:=(A5D hright).ship hk7
 have hb:=U0 a.2 pr.rate
 have hle:=A8W h3 (show 0≤pr.rate by omega) hr.2
 unfold A0U A8b
 split
 ·exact ⟨by show a.1.deals.length+n≤200;omega,by show a.1.groups.length+n≤200;omega,h3,h4⟩
 ·refine ⟨?_,?_,by show 0≤a.2 - M3 a.2 pr.rate;omega,by show a.2 - M3 a.2 pr.rate≤_;omega⟩
  ·show (if M3 a.2 pr.rate>0 then A0P a.1 pr (M3 a.2 pr.rate) else a.1).deals.length+n≤200
   split
   ·simp only [A0P,List.length_append,List.length_cons,List.length_nil];omega
   ·omega
  ·show (if M3 a.2 pr.rate>0 then A0P a.1 pr (M3 a.2 pr.rate) else a.1).groups.length+n≤200
   split
   ·simp only [A0P,List.length_append]
    split<;>simp<;>omega
   ·omega
theorem PxR.deals' {bx:Nat} {items:List Ab.Item} {p:PSt} {s t:St} (h:PxR bx items p s t):∃ dv gv f,t bx=some ⟨147,4,1,f⟩∧f 0=.agg [A6 4 E9 items,C0 p.us,dv,gv] ∧
  ((p.deals=[]∧dv=.emp)∨∃ bd g,dv=.own 2 bd 0 p.deals.length∧s bd=none∧t bd=some ⟨134,2,p.deals.length,g⟩∧∀ k,k<p.deals.length→g k=A1X p.deals k):=by
 obtain ⟨⟨dv,gv⟩,h⟩:=h
 obtain ⟨y,⟨f,rfl,hf⟩,hy⟩:=V1.at (A2y _ _ _ _) h
 obtain ⟨hbx,_,_,hd⟩:=h
 obtain ⟨s0,hc,hg0⟩:=hd
 refine ⟨dv,gv,f,hy,hf,?_⟩
 rcases hc with ⟨h0,h1,rfl⟩ | ⟨h0,b,g0,hb,h1,rfl,hgg⟩
 ·exact .inl ⟨List.eq_nil_of_length_eq_zero h0,h1⟩
 ·refine .inr ⟨b,g0,h1,?_,(A8s _ _).sup hg0 b _ (A0 ..),hgg⟩
  by_cases e:b=bx
  ·subst e;rw [A0] at hb;cases hb
  ·rw [A3 e] at hb;exact hb
structure B6D (r:O6) (codes:List D9) (l:List F6):Prop where
 rules:A1w r=true
 codes:N0 codes=true
 lines:A3B r.items l
 few:r.promos.length≤60
 promo:∀ p∈r.promos,J2 p=true
 fee:0≤r.ship.fee∧r.ship.fee≤1000000000
theorem B6P {r:O6} {codes:List D9} {l:List F6} (h:G6 r codes l=0):B6D r codes l:=by
 unfold G6 at h
 split at h
 ·cases h
 ·rename_i h1
  split at h
  ·cases h
  ·rename_i h2
   have hr:A1w r=true:=by simpa using h1
   have hr':=hr
   unfold A1w at hr'
   simp only [Bool.and_eq_true] at hr'
   obtain ⟨⟨⟨⟨_,hp⟩,_⟩,hs⟩,_⟩:=hr'
   unfold A0k at hp
   simp only [Bool.and_eq_true,decide_eq_true_eq] at hp
   have hs':J9 0 1000000000 r.ship.fee=true:=by
    unfold B2A at hs
    simp only [Bool.and_eq_true] at hs
    exact hs.1
   refine ⟨hr,by simpa using h2,B7t h,by omega,fun p hm=>?_,J4.1 hs'⟩
   obtain ⟨k,hk,rfl⟩:=D3 hm
   have:=A2w.1 hp.2 k hk
   unfold A0j at this
   simp only [Bool.and_eq_true] at this
   exact this.1
def B8K (r:O6) (codes:List D9) (l:List F6) (v:AV):Prop :=
 (G6 r codes l≠0∧v=.tuple [A3S ⟨[],0,0,[]⟩,eI (G6 r codes l)]) ∨
 (G6 r codes l=0∧∃ o1 o2,A5p r.promos codes o1∧A5p r.promos codes o2∧v=.tuple [A3S (U4 r l (H0 r.promos o1) (H0 r.promos o2)),eI 0])
theorem B7G {N:Nat} (hN:A1T N) (r:O6) (codes:List D9) (l:List F6) (hf:A3D r) (hc:codes.length≤Big) (hi:r.items.length≤9223372036854775807) (h20:(places r.promos codes r.promos.length).length≤N) (st:St) :
  S P 18 [Q1 r,D8 codes,A6 3 G3 l] st fun v st'=>B8K r codes l v∧st'=st:=by
 refine S.post (post:=fun v st'=>(G6 r codes l≠0∧v=.tuple [.agg [.emp,eI 0,eI 0,.emp],eI (G6 r codes l)]∧E7 st st') ∨
   (G6 r codes l=0∧∃ o1 o2 bn fn dv,A5p r.promos codes o1∧A5p r.promos codes o2∧v=.tuple [.agg [.own 1 bn 0 l.length,eI (U4 r l (H0 r.promos o1) (H0 r.promos o2)).net,eI (U4 r l (H0 r.promos o1) (H0 r.promos o2)).ship,dv],eI 0] ∧
    st bn=none∧st' bn=some ⟨2,1,l.length,fn⟩∧(∀ k,k<l.length→fn k=eI (gI (U4 r l (H0 r.promos o1) (H0 r.promos o2)).nets k))∧E7 st st' ∧
    (((U4 r l (H0 r.promos o1) (H0 r.promos o2)).deals=[]∧dv=.emp)∨∃ bd g,dv=.own 2 bd 0 (U4 r l (H0 r.promos o1) (H0 r.promos o2)).deals.length∧st bd=none∧bd≠bn∧st' bd=some ⟨134,2,(U4 r l (H0 r.promos o1) (H0 r.promos o2)).deals.length,g⟩∧∀ k,k<(U4 r l (H0 r.promos o1) (H0 r.promos o2)).deals.length→g k=A1X (U4 r l (H0 r.promos o1) (H0 r.promos o2)).deals k))) ?_
  (fun v st' hv=>by
   rcases hv with ⟨h1,rfl,hs⟩ | ⟨h1,o1,o2,bn,fn,dv,h2,h3,rfl,h4,h5,h6,hs,h7⟩
   ·refine ⟨_,st,⟨.inl ⟨h1,rfl⟩,rfl⟩,(hs.shift _).trans (A4.tuple (A4.cons (A4.agg ?_) (A4.keep _ _)) rfl)⟩
    exact A4.cons (F9 1 _) (A4.cons (A4.keep [eI 0] _) (A4.cons (A4.keep [eI 0] _) (F9 2 _)))
   ·refine ⟨_,st,⟨.inr ⟨h1,o1,o2,h2,h3,rfl⟩,rfl⟩,A4.tuple (A4.cons (A4.agg ?_) (A4.keep _ _)) rfl⟩
    have hnl:(U4 r l (H0 r.promos o1) (H0 r.promos o2)).nets.length=l.length:=by show (V6 _ _).length=_;unfold V6;rw [List.length_map,List.length_range]
    generalize U4 r l (H0 r.promos o1) (H0 r.promos o2)=X at *
    have e1:B4 X.nets=.arr 1 l.length (fun k=>eI (gI X.nets k)):=by unfold B4 A6;rw [hnl]
    refine A4.cons (t:=del st' bn) ?_ (A4.cons (A4.keep [eI X.net] _) (A4.cons (A4.keep [eI X.ship] _) ?_))
    ·rw [e1];exact L5 h5 rfl (Nat.le_refl _) h6
    ·rcases h7 with ⟨h8,rfl⟩ | ⟨bd,g,rfl,h8,h9,h10,h11⟩
     ·rw [h8]
      exact ((E7.del hs h4).shift _).trans (F9 2 _)
     ·refine (L5 (b:=bd) (y:=⟨134,2,X.deals.length,g⟩) (f:=A1X X.deals) (by rw [Y8 h9];exact h10) rfl (Nat.le_refl _) h11).trans ?_
      exact (E7.del (E7.del hs h4) h8).shift _)
 refine D6 [3,9,10,13] Tryz.func18 ?_
 intro b6 hb6;conv=>whnf
 refine I7 (B5D r codes l hf hc hi _) ?_
 have h6s:∀ x:N9,E7 st (upd st b6 x):=fun x=>(E7.refl st).upd hb6
 cases h1:(G6 r codes l != 0)
 ·have hk0:G6 r codes l=0:=by simpa using h1
  have hck:=B6P hk0
  have hln:=hck.lines
  have hlen:=hln.len
  have hus0:=B8c hln
  obtain ⟨u1,u2,u3⟩:=A2m l hln.line l.length (Nat.le_refl _)
  have hitl:(C2 r.items l).length=l.length:=List.length_map ..
  have hmo:=fun {o:List Int} (ho:A5p r.promos codes o)=>(show (H0 r.promos o).length≤60 by
   rw [List.length_map,A1v,ho.1.length_eq]
   have:=A1u r.promos codes r.promos.length
   have:=hck.few;omega)
  conv=>whnf
  refine I7 (A7M r.items l hi hlen hln.known _) ?_
  refine I7 (B8b l hlen (fun x hx=>((A2E x).1 (hln.line x hx)).1) hus0.ok.len hln.may _) ?_
  generalize hs6:(upd st b6 _)=s6 at *
  have h6:s6 b6=some ⟨44,4,1,fun _=>H3 r44.zero⟩:=by rw [←hs6];exact A0 ..
  have hBig:(Big:Nat)≤9223372036854775807:=by decide
  have hst6:E7 st s6:=by rw [←hs6];exact h6s _
  intro bx hbx;conv=>whnf
  have hP0:PxR bx (C2 r.items l) ⟨A6V l,[],[]⟩ s6 (upd s6 bx ⟨147,4,1,fun _=>.agg [A6 4 E9 (C2 r.items l),C0 (A6V l),.emp,.emp]⟩) :=
   PxR.mk' hbx rfl (ROut.start (ROut.start (E7.refl _) _ _ _) _ _ _)
  refine call (B2v (σ:=PSt) hN bx (C2 r.items l) (PxR bx (C2 r.items l)) (fun p=>p) (A1g bx (C2 r.items l)) (fun a s t t' h hs=>h.more hs) (fun a s t h=>⟨s,h⟩) r.promos codes hck.few (Nat.le_trans hc hBig) h20 79 [.fptr (.fn (.func 77) [] []) 0] A2G (fun pr t=>B5w pr t)
   80 [.optr 4 bx 0 0] [] (A7h (C2 r.items l)) (B6H (C2 r.items l) (A6V l)) (fun a n h=>by have:=h.2.2.1;omega) (fun a n h=>⟨h.1,by have:=h.2.1;omega,by have:=h.2.2.1;omega,h.2.2.2⟩)
   (fun a n pr s t hm hs hI h=>C0g bx (C2 r.items l) a pr (hf.fit pr hm) (hck.promo pr hm) (by simpa [A2G] using hs) hI.1 (by have:=hI.2.1;omega) (by have:=hI.2.2.1;omega) s t h)
   (fun a n pr hm hs hI=>A7L (hf.fit pr hm) (hck.promo pr hm) hs hI) ⟨A6V l,[],[]⟩ ⟨hus0,by simp,by simp,0,Off.refl hus0.ok⟩ s6 _ hP0) (fun v t1 hv=>?_)
  obtain ⟨rfl,o1,ho1,hP1⟩:=hv
  have hp1:A1C (fun p=>p) (A7h (C2 r.items l)) A2G r.promos ⟨A6V l,[],[]⟩ (H0 r.promos o1)=p1B r l (H0 r.promos o1):=rfl
  have hI1:B6H (C2 r.items l) (A6V l) (p1B r l (H0 r.promos o1)) 40:=B3c (fun a n h=>⟨h.1,by have:=h.2.1;omega,by have:=h.2.2.1;omega,h.2.2.2⟩) (fun a n pr hm hs hI=>A7L (hf.fit pr hm) (hck.promo pr hm) hs hI) (H0 r.promos o1) ⟨A6V l,[],[]⟩ 40 (fun x hx=>(B0i ho1 hx).2) ⟨hus0,by have:=hmo ho1;show 0+(40+(H0 r.promos o1).length)≤100;omega,by have:=hmo ho1;show 0+(40+(H0 r.promos o1).length)≤100;omega,0,Off.refl hus0.ok⟩
  rw [hp1] at hP1
  have hQ:∀ o2,U4 r l (H0 r.promos o1) (H0 r.promos o2)=⟨V6 l.length (p1B r l (H0 r.promos o1)).us,A2c (p1B r l (H0 r.promos o1)),(p2B r l (p1B r l (H0 r.promos o1)) (H0 r.promos o2)).2,(p2B r l (p1B r l (H0 r.promos o1)) (H0 r.promos o2)).1.deals⟩:=fun _=>rfl
  generalize p1B r l (H0 r.promos o1)=p1 at *
  obtain ⟨hus1,hd1,hg1,xoff,hoff⟩:=hI1
  have hul1:p1.us.length=(A6V l).length:=hoff.len
  have hu1:=hus1.ok
  have hul:=hu1.len
  have hus:=hu1.sum
  have hnet0:=B9 hu1.nets0
  have hBP:=A1g bx (C2 r.items l) p1
  conv=>whnf
  refine mkO rfl rfl rfl (by show 8 * l.length≤_;omega) (by omega) (by rfl) (fun bn hbn=>?_);conv=>whnf
  intro bp hbp
  have hnb:bn≠bp:=fun e=>by subst e;rw [A0] at hbp;cases hbp
  have hbp1:t1 bp=none:=by rw [A3 hnb.symm] at hbp;exact hbp
  have hbn6:s6 bn=none:=(hBP.sup hP1).none hbn
  have hbp6:s6 bp=none:=(hBP.sup hP1).none hbp1
  conv=>whnf
  refine stW (A0 ..) rfl ?_
  -- the pricer,what the lines come to,what is made of it
  have hP2:=fun (Y Z:N9)=>hBP.begin (y:=Z) (hBP.begin (y:=Y) hP1 hbn) (by rw [A3 hnb.symm];exact hbp1)
  have hload:∀ {Y Z:N9} {t:St},PxR bx (C2 r.items l) p1 (upd (upd s6 bn Y) bp Z) t→t bn=some Y∧t bp=some Z:=fun h=>⟨hBP.sup h bn _ (by rw [A3 hnb,A0]),hBP.sup h bp _ (A0 ..)⟩
  have hwn:∀ {Y Z Y':N9} {t:St},PxR bx (C2 r.items l) p1 (upd (upd s6 bn Y) bp Z) t→PxR bx (C2 r.items l) p1 (upd (upd s6 bn Y') bp Z) (upd t bn Y'):=fun {Y Z Y' t} h=>by
   have:=hBP.write (b:=bn) (y':=Y') h (by rw [A3 hnb,A0])
   rw [L8 hnb.symm,E4] at this;exact this
  have hwp:∀ {Y Z Z':N9} {t:St},PxR bx (C2 r.items l) p1 (upd (upd s6 bn Y) bp Z) t→PxR bx (C2 r.items l) p1 (upd (upd s6 bn Y) bp Z') (upd t bp Z'):=fun {Y Z Z' t} h=>by
   have:=hBP.write (b:=bp) (y':=Z') h (A0 ..)
   rw [E4] at this;exact this
  have hP3:=hP2 ⟨2,1,l.length,fun _=>H3 r2.zero⟩ ⟨44,4,1,fun _=>H3 r44.zero⟩
  have hP4:=hwp (Z':=⟨44,4,1,M1 (fun _=>H3 r44.zero) 0 (.agg [.own 1 bn 0 l.length,eI 0,eI 0,.emp])⟩) hP3
  obtain ⟨dv1,gv1,fx1,hx1,hfx1,_,_⟩:=hP4.at
  refine J5 hx1 hfx1 ?_
  have hline:∀ k,k<p1.us.length→0≤(gU p1.us k).line∧(gU p1.us k).line.toNat<l.length:=fun k hk=>by
   have:=hus1.line _ (A7 hk)
   rw [hitl] at this;exact this
  refine ⟨[1,3,6,9,10,11,45,46,47],fun m vs t=>∃ (k:Nat) (fn fp:Nat→AV),k≤p1.us.length∧m=p1.us.length - k∧vs=[D8 codes,.fptr (Q1 r) 0,.optr 4 b6 0 0,.fptr (.optr 4 bx 0 0) 0,.fptr (.fn (.func 77) [] []) 0,.optr 4 bp 0 0,C0 p1.us,eI p1.us.length,eI k] ∧
   PxR bx (C2 r.items l) p1 (upd (upd s6 bn ⟨2,1,l.length,fn⟩) bp ⟨44,4,1,fp⟩) t∧fp 0=.agg [.own 1 bn 0 l.length,eI (A2 ((C7 p1.us).take k)),eI 0,.emp]∧∀ j,j<l.length→fn j=eI (P8 (p1.us.take k) j),?_,?_⟩
  ·conv=>whnf
   exact ⟨_,0,_,_,Nat.zero_le _,rfl,rfl,hP4,A9 ..,fun j _=>rfl⟩
  ·clear hP4 hP3 hx1 hfx1 hP2
   rintro m vs t ⟨k,fn,fp,hk,rfl,rfl,hP,hfp,hfn⟩
   obtain ⟨htn,htp⟩:=hload hP
   conv=>whnf
   cases hd:decide ((k:Int)<(p1.us.length:Int))
   ·have:=of_decide_eq_false hd
    obtain rfl:k=p1.us.length:=by omega
    rw [List.take_length] at hfn
    have htk:(C7 p1.us).take p1.us.length=C7 p1.us:=by rw [←List.length_map (f:=A8.net),List.take_length]
    rw [htk] at hfp;conv=>whnf
    obtain ⟨dv1,gv1,fx1,hx1,hfx1,_,_⟩:=hP.at
    refine ⟨[11],[],[0,1,2,3,4,5,6,7,8,9,10,11],by kernel_rfl,?_⟩;conv=>whnf
    refine J5 hx1 hfx1 ?_
    refine J5 htp hfp ?_
    refine cqW (C0l r.ship p1.us.length (A2c p1) t) ?_
    refine stW htp hfp ?_
    have hP5:=hwp (Z':=⟨44,4,1,M1 fp 0 (.agg [.own 1 bn 0 l.length,eI (A2c p1),eI (A6a r.ship p1.us.length (A2c p1)),.emp])⟩) hP
    have hfee:0≤A6a r.ship p1.us.length (A2c p1)∧A6a r.ship p1.us.length (A2c p1)≤10000000000000:=by
     have:=hck.fee
     unfold A6a;split<;>omega
    generalize hfe:A6a r.ship p1.us.length (A2c p1)=fee at *
    have hR2:R2 bx bp bn l.length (C2 r.items l) (A2c p1) (p1,fee) (upd s6 bn ⟨2,1,l.length,fn⟩) (upd t bp ⟨44,4,1,M1 fp 0 (.agg [.own 1 bn 0 l.length,eI (A2c p1),eI fee,.emp])⟩):=⟨by rw [A3 hnb.symm];exact hbp6,_,⟨_,rfl,A9 ..⟩,hP5⟩
    refine call (B2v (σ:=PSt×Int) hN bx (C2 r.items l) (R2 bx bp bn l.length (C2 r.items l) (A2c p1)) (fun a=>a.1) (B4K bx bp bn l.length (C2 r.items l) (A2c p1)) (fun a s t t' h hs=>h.more hs) (fun a s t h=>⟨_,h.2.choose_spec.2⟩) r.promos codes hck.few (Nat.le_trans hc hBig) h20 77 [] A6e (fun pr t=>A9T pr t)
     82 [] [.fptr (.optr 4 bx 0 0) 0,.optr 4 bp 0 0] (A0U (A2c p1)) B8F (fun a n h=>by have:=h.2.1;omega) (fun a n h=>⟨by have:=h.1;omega,by have:=h.2.1;omega,h.2.2⟩)
     (fun a n pr s t hm hs hI h=>A6K bx bp bn l.length (C2 r.items l) (A2c p1) a pr hI.2.2.1 hI.2.2.2 (by have:=hI.1;omega) (by have:=hI.2.1;omega) s t h)
     (fun a n pr hm hs hI=>B3k (hck.promo pr hm) hs hI) (p1,fee) ⟨by show p1.deals.length+60≤200;omega,by show p1.groups.length+60≤200;omega,hfee⟩ (upd s6 bn ⟨2,1,l.length,fn⟩) _ hR2) (fun v t2 hv=>?_)
    obtain ⟨rfl,o2,ho2,hR3⟩:=hv
    have hp2:A1C (fun a:PSt×Int=>a.1) (A0U (A2c p1)) A6e r.promos (p1,fee) (H0 r.promos o2)=p2B r l p1 (H0 r.promos o2):=by
     unfold p2B;rw [←hfe,hul1]
    rw [hp2] at hR3
    have hQ2:=hQ o2
    generalize p2B r l p1 (H0 r.promos o2)=a2 at *
    obtain ⟨hbp7,y,⟨f7,rfl,hf7⟩,hP7⟩:=hR3
    have hBP7:=A1g bx (C2 r.items l) a2.1
    have h7p:t2 bp=some ⟨44,4,1,f7⟩:=hBP7.sup hP7 bp _ (A0 ..)
    have h7n:t2 bn=some ⟨2,1,l.length,fn⟩:=hBP7.sup hP7 bn _ (by rw [A3 hnb,A0])
    have h76:E7 s6 t2:=fun c x hc=>hBP7.sup hP7 c x (by
     have e1:c≠bp:=fun e=>by subst e;rw [hbp6] at hc;cases hc
     have e2:c≠bn:=fun e=>by subst e;rw [hbn6] at hc;cases hc
     rw [A3 e1,A3 e2];exact hc)
    have h6b:=h76 b6 _ h6
    have hb6p:b6≠bp:=fun e=>by subst e;rw [h6] at hbp6;cases hbp6
    have hb6n:b6≠bn:=fun e=>by subst e;rw [h6] at hbn6;cases hbn6
    have hstn:st bn=none:=hst6.none hbn6
    have hstp:st bp=none:=hst6.none hbp6
    obtain ⟨dv,gv,fx,hx2,hfx2,hdl⟩:=hP7.deals'
    have hS2:E7 st t2:=hst6.trans h76
    conv=>whnf
    refine ldV hx2 rfl (by omega) hfx2 ?_
    rcases hdl with ⟨hd0,rfl⟩ | ⟨bd,gd,rfl,hbd,hbt,hgd⟩
    ·conv=>whnf
     refine stW h7p hf7 ?_
     refine J5 (A0 ..) (A9 ..) ?_
     refine stW (by rw [A3 hb6p];exact h6b) rfl ?_
     refine J5 (A0 ..) (A9 ..) ?_
     refine .inr ⟨hk0,o1,o2,bn,fn,.emp,ho1,ho2,?_,hstn,?_,?_,((hS2.over hstp).over hb6),.inl ⟨?_,rfl⟩⟩
     ·rw [hQ2];rfl
     ·rw [A3 hb6n.symm,A3 hnb];exact h7n
     ·intro k hk
      rw [hQ2,hfn k hk]
      show eI _=eI (gI (V6 l.length p1.us) k)
      unfold V6
      rw [O3 _ hk]
     ·rw [hQ2];exact hd0
    ·have hbdp:bd≠bp:=fun e=>by subst e;rw [A0] at hbd;cases hbd
     rw [A3 hbdp] at hbd
     have hbdn:bd≠bn:=fun e=>by subst e;rw [A0] at hbd;cases hbd
     rw [A3 hbdn] at hbd
     have hbd6:bd≠b6:=fun e=>by subst e;rw [h6] at hbd;cases hbd
     conv=>whnf
     refine stW h7p hf7 ?_
     refine J5 (A0 ..) (A9 ..) ?_
     refine stW (by rw [A3 hb6p];exact h6b) rfl ?_
     refine J5 (A0 ..) (A9 ..) ?_
     refine .inr ⟨hk0,o1,o2,bn,fn,.own 2 bd 0 a2.1.deals.length,ho1,ho2,?_,hstn,?_,?_,((hS2.over hstp).over hb6),.inr ⟨bd,gd,?_,hst6.none hbd,hbdn,?_,?_⟩⟩
     ·rw [hQ2];rfl
     ·rw [A3 hb6n.symm,A3 hnb];exact h7n
     ·intro k hk
      rw [hQ2,hfn k hk]
      show eI _=eI (gI (V6 l.length p1.us) k)
      unfold V6
      rw [O3 _ hk]
     ·rw [hQ2]
     ·rw [A3 hbd6,A3 hbdp,hQ2];exact hbt
     ·rw [hQ2];exact hgd
   ·have hk':k<p1.us.length:=by have:=of_decide_eq_true hd;omega
    have hlk:=hline k hk'
    have hn0:0≤(gU p1.us k).net:=hu1.at0 k
    have hn1:(gU p1.us k).net≤10000000000000:=hu1.le (A7 hk')
    have e1:=H8 (l:=C7 p1.us) (i:=k) (by rw [List.length_map];exact hk')
    have e4:gI (C7 p1.us) k=(gU p1.us k).net:=F1 A8.net p1.us hk'
    have e2:=K4 hu1.nets0 (k+1)
    have e3:=B9 (l:=(C7 p1.us).take k) (fun x hx=>hu1.nets0 x (List.take_subset _ _ hx))
    have hlb:=A2X hu1 k (gU p1.us k).line.toNat
    have hlb2:=A2X hu1 (k+1) (gU p1.us k).line.toNat
    have hln1:=A3X hk' (gU p1.us k).line.toNat
    rw [if_pos rfl] at hln1
    have hfl:fn (0+(gU p1.us k).line.toNat)=eI (P8 (p1.us.take k) (gU p1.us k).line.toNat):=by rw [Nat.zero_add];exact hfn _ hlk.2
    have w1:IntKind.i64.wrap (P8 (p1.us.take k) (gU p1.us k).line.toNat+(gU p1.us k).net)=P8 (p1.us.take (k+1)) (gU p1.us k).line.toNat:=by rw [hln1];exact A5 (by omega) (by omega)
    have w2:IntKind.i64.wrap (A2 ((C7 p1.us).take k)+(gU p1.us k).net)=A2 ((C7 p1.us).take (k+1)):=by rw [e1,e4];exact A5 (by omega) (by omega)
    conv=>whnf
    refine I3 ?_
    refine ⟨[10],[],[0,1,2,3,4,5,6,7,8,9,10],by kernel_rfl,?_⟩;conv=>whnf
    refine J5 htp hfp ?_
    refine ⟨rfl,⟨by show 0≤(gU p1.us k).line;exact hlk.1,by show (gU p1.us k).line<(l.length:Int);have:=hlk.2;have:=hlk.1;omega⟩,?_⟩;conv=>whnf
    refine ldV htn rfl (by show 0+(gU p1.us k).line.toNat<_;have:=hlk.2;omega) hfl ?_;conv=>whnf
    refine ⟨rfl,⟨by show 0≤(gU p1.us k).line;exact hlk.1,by show (gU p1.us k).line<(l.length:Int);have:=hlk.2;have:=hlk.1;omega⟩,?_⟩;conv=>whnf
    refine stV htn rfl (by show 0+(gU p1.us k).line.toNat<_;have:=hlk.2;omega) hfl (by rfl) ?_
    have hP5:=hwn (Y':=⟨2,1,l.length,M1 fn (0+(gU p1.us k).line.toNat) (eI (P8 (p1.us.take (k+1)) (gU p1.us k).line.toNat))⟩) hP
    rw [←w1] at hP5
    obtain ⟨_,htp2⟩:=hload hP5
    conv=>whnf
    refine J5 htp2 hfp ?_
    refine stW htp2 hfp ?_
    refine H4 ?_
    refine ⟨p1.us.length - (k+1),by omega,k+1,_,_,by omega,rfl,by rw [B7 (by omega)],hwp hP5,?_,fun j hj=>?_⟩
    ·rw [A9,←w2];rfl
    ·show M1 fn (0+(gU p1.us k).line.toNat) _ j=_
     rw [Nat.zero_add]
     rw [A3X hk' j]
     by_cases hj2:j=(gU p1.us k).line.toNat
     ·subst hj2
      rw [if_pos rfl,A9,w1,hln1]
     ·rw [O2 hj2,if_neg (fun e=>hj2 e.symm)];exact hfn j hj
 ·have hk0:G6 r codes l≠0:=by simpa using h1
  conv=>whnf
  refine stW (A0 ..) rfl ?_
  refine J5 (A0 ..) (A9 ..) ?_
  exact .inl ⟨hk0,rfl,(h6s _).over hb6⟩
end Go.Proofs.YtbajhapmlfbelaaGreat
namespace Go.Proofs.YtbajhapmlfbelaaGreat
open Go Go.Ab
def A9L (t:Tax) (rate:Int):Int:=10000+(if t.incl=true then rate else 0)
def K7 (t:Tax) (x rate:Int):Int:=(O7 x rate (A9L t rate) t.round).1
theorem B3I {q r den round x:Int} (h:q * den+r≤x * den) (h0:0≤r) (h1:r<den):q≤x∧J3 q r den round≤x:=by
 have hq:q≤x:=by
  rcases Int.lt_or_le x q with e | e
  ·have:(x+1) * den≤q * den:=Int.mul_le_mul_of_nonneg_right (by omega) (by omega)
   rw [Int.add_mul,Int.one_mul] at this;omega
  ·exact e
 refine ⟨hq,?_⟩
 by_cases e:q=x
 ·subst e
  have hr:r=0:=by omega
  subst hr
  unfold J3
  split
  ·omega
  ·split
   ·split<;>omega
   ·split
    ·rename_i h2;omega
    ·omega
 ·unfold J3
  split
  ·omega
  ·split<;>split<;>omega
theorem B3H {q r den round:Int} (h:0≤q):0≤J3 q r den round:=by
 unfold J3
 split
 ·omega
 ·split<;>split<;>omega
theorem B6j {x num den round:Int} (hx:0≤x) (hn:0≤num) (hd:num≤den) (h0:0<den):0≤(O7 x num den round).1∧(O7 x num den round).1≤x:=by
 have h1:0≤x * num:=Int.mul_nonneg hx hn
 have h2:x * num≤x * den:=Int.mul_le_mul_of_nonneg_left hd hx
 have e1:=Int.mul_ediv_add_emod (x * num) den
 have e2:=Int.emod_nonneg (x * num) (show den≠0 by omega)
 have e3:=Int.emod_lt_of_pos (x * num) h0
 have e4:0≤x * num / den:=Int.ediv_nonneg h1 (by omega)
 have h3:=B3I (q:=x * num / den) (r:=x * num % den) (den:=den) (round:=round) (x:=x) (by rw [Int.mul_comm (x * num / den) den];omega) e2 e3
 have h4:=B3H (q:=x * num / den) (r:=x * num % den) (den:=den) (round:=round) e4
 unfold O7
 split
 ·exact ⟨Int.le_refl _,hx⟩
 ·split
  ·exact ⟨Int.le_refl _,hx⟩
  ·split
   ·exact ⟨Int.le_refl _,hx⟩
   ·exact ⟨h4,h3.2⟩
theorem A1r {t:Tax} {x rate:Int} (hx:0≤x) (hr:0≤rate∧rate≤10000):0≤K7 t x rate∧K7 t x rate≤x:=by
 refine B6j hx hr.1 ?_ ?_
 ·unfold A9L;split<;>omega
 ·unfold A9L;split<;>omega
def A5l (l:List N4) (s:D9):Option N4:=l.find? fun z=>z.name.toList==s.toList
def F4 (z:N4) (c:D9):Int:=match z.rates.find? (fun x=>x.cat.toList==c.toList) with
 | some x=>x.rate
 | none=>z.rest
theorem A4j {z:N4} (h:X1 z=true):(0≤z.rest∧z.rest≤10000)∧(0≤z.ship∧z.ship≤10000)∧z.rates.length≤40∧∀ x∈z.rates,0≤x.rate∧x.rate≤10000:=by
 unfold X1 at h
 simp only [Bool.and_eq_true,Bool.not_eq_true',Bool.or_eq_false_iff,decide_eq_false_iff_not,Bool.not_eq_false'] at h
 obtain ⟨⟨⟨⟨h1,h2⟩,h3⟩,h4⟩,h5,h6⟩:=h
 refine ⟨J4.1 h2,J4.1 h3,by omega,fun x hx=>?_⟩
 obtain ⟨k,hk,rfl⟩:=D3 hx
 have:=A2w.1 h5 k hk
 unfold A5c at this
 simp only [Bool.not_eq_true',Bool.or_eq_false_iff,Bool.not_eq_false'] at this
 exact J4.1 this.2
theorem B5J {z:N4} (h:X1 z=true) (c:D9):0≤F4 z c∧F4 z c≤10000:=by
 obtain ⟨h1,h2,h3,h4⟩:=A4j h
 unfold F4
 split
 ·rename_i x hx;exact h4 x (List.mem_of_find?_eq_some hx)
 ·exact h1
def X8 (t:Tax) (rates nets:List Int):List Int:=(List.range nets.length).map fun i=>K7 t (gI nets i) (gI rates i)
def A6k (rates:List Int) (i:Nat):List Nat:=(List.range rates.length).filter fun k=>gI rates k==gI rates i
def F2 (rates nets:List Int) (i:Nat):List Int:=(A6k rates i).map (gI nets)
def X3 (rates:List Int) (i:Nat):Nat:=((List.range i).filter fun k=>gI rates k==gI rates i).length
def A0Q (t:Tax) (rates nets:List Int) (i:Nat):Int:=gI (C3 (K7 t (A2 (F2 rates nets i)) (gI rates i)) (F2 rates nets i)) (X3 rates i)
def A1s (t:Tax) (rates nets:List Int):List Int:=(List.range nets.length).map (A0Q t rates nets)
def H2 (t:Tax) (rates nets:List Int):List Int:=if t.byOrder=true then A1s t rates nets else X8 t rates nets
structure A3d (nets:List Int):Prop where
 len:nets.length≤1000
 pos:∀ x∈nets,0≤x
 sum:A2 nets≤10000000000000
theorem B6f {a b:List Int} (hs:a.Sublist b) (hb:∀ x∈b,0≤x):A2 a≤A2 b:=by
 induction hs with
 | slnil=>exact Int.le_refl _
 | cons x _ ih =>
  have h1:=ih fun u hu=>hb u (List.mem_cons_of_mem _ hu)
  have h2:=hb x (List.mem_cons_self ..)
  rw [G8];omega
 | cons_cons x _ ih =>
  have h1:=ih fun u hu=>hb u (List.mem_cons_of_mem _ hu)
  rw [G8,G8];omega
theorem A6B (l:List Int):(List.range l.length).map (gI l)=l:=by
 refine List.ext_getElem (by rw [List.length_map,List.length_range]) fun i h1 h2=>?_
 rw [List.getElem_map,List.getElem_range];unfold gI;rw [List.getD_eq_getElem?_getD,List.getElem?_eq_getElem h2];rfl
theorem A2b {rates nets:List Int} (hn:A3d nets) (hr:rates.length=nets.length) (i:Nat):(F2 rates nets i).length≤1000∧(∀ x∈F2 rates nets i,0≤x)∧0≤A2 (F2 rates nets i)∧A2 (F2 rates nets i)≤10000000000000:=by
 have hsub:(F2 rates nets i).Sublist nets:=by
  have h1:(F2 rates nets i).Sublist ((List.range nets.length).map (gI nets)):=by
   unfold F2 A6k
   rw [hr]
   exact List.filter_sublist.map _
  rw [A6B] at h1;exact h1
 have hp:∀ x∈F2 rates nets i,0≤x:=fun x hx=>hn.pos x (hsub.subset hx)
 have h2:=hsub.length_le
 have h3:=hn.len
 have h4:=B6f hsub hn.pos
 have h5:=hn.sum
 exact ⟨by omega,hp,B9 hp,by omega⟩
theorem A3Y {t:Tax} {rates nets:List Int} (hn:A3d nets) (hr:rates.length=nets.length) {i:Nat} (hq:0≤gI rates i∧gI rates i≤10000):K9 (K7 t (A2 (F2 rates nets i)) (gI rates i)) (F2 rates nets i):=by
 obtain ⟨h1,h2,h3,h4⟩:=A2b hn hr i
 have hm:=A1r (t:=t) h3 hq
 exact ⟨hm.1,by omega,by omega,h2,by omega,fun e=>by rw [e] at hm;rw [e];omega⟩
theorem B3C {n i:Nat} (hi:i<n):List.range n=List.range i++(i::(List.range (n - i - 1)).map (fun k=>i+1+k)):=by
 have h1:n=i+(1+(n - i - 1)):=by omega
 conv=>lhs;rw [h1]
 rw [List.range_add,show 1+(n - i - 1)=(n - i - 1)+1 by omega,List.range_succ_eq_map]
 simp only [List.map_cons,List.map_map,Nat.add_zero]
 congr 2
 refine List.map_congr_left fun k _=>?_
 show i+(k+1)=i+1+k
 omega
theorem A9W {rates:List Int} {i:Nat} (hi:i<rates.length):(A6k rates i)[X3 rates i]?=some i:=by
 unfold X3 A6k
 rw [B3C hi,List.filter_append,List.getElem?_append_right (Nat.le_refl _),Nat.sub_self,List.filter_cons_of_pos (by simp)];rfl
theorem A6j {rates:List Int} {i:Nat} (hi:i<rates.length):X3 rates i<(A6k rates i).length:=by
 exact (List.getElem?_eq_some_iff.1 (A9W hi)).1
theorem B0b {t:Tax} {rates nets:List Int} (hn:A3d nets) (hr:rates.length=nets.length) (hq:∀ x∈rates,0≤x∧x≤10000) {i:Nat} (hi:i<nets.length):0≤A0Q t rates nets i∧A0Q t rates nets i≤10000000000000:=by
 have hqi:=hq (gI rates i) (A7 (by omega))
 have hw:=A3Y (t:=t) hn hr hqi
 obtain ⟨h1,h2,h3,h4⟩:=A2b hn hr i
 have hm:=A1r (t:=t) h3 hqi
 have hp:=A6j (rates:=rates) (i:=i) (by omega)
 have hml:(F2 rates nets i).length=(A6k rates i).length:=List.length_map ..
 obtain ⟨l1,l2,l3⟩:=V5 hw
 have hle:=A1o hw hm.2 (k:=X3 rates i) (by omega)
 have hg:gI (C3 (K7 t (A2 (F2 rates nets i)) (gI rates i)) (F2 rates nets i)) (X3 rates i)∈C3 (K7 t (A2 (F2 rates nets i)) (gI rates i)) (F2 rates nets i):=A7 (by omega)
 have h0:=l3 _ hg
 have hmem:gI (F2 rates nets i) (X3 rates i)∈F2 rates nets i:=A7 (by omega)
 have h6:=J6 h2 hmem
 unfold A0Q
 omega
theorem A6T {t:Tax} {rates nets:List Int} (hn:A3d nets) (hr:rates.length=nets.length) (hq:∀ x∈rates,0≤x∧x≤10000):(H2 t rates nets).length=nets.length∧∀ x∈H2 t rates nets,0≤x∧x≤10000000000000:=by
 unfold H2
 split
 ·refine ⟨by unfold A1s;rw [List.length_map,List.length_range],fun x hx=>?_⟩
  obtain ⟨i,hi,rfl⟩:=List.mem_map.1 hx
  exact B0b hn hr hq (List.mem_range.1 hi)
 ·refine ⟨by unfold X8;rw [List.length_map,List.length_range],fun x hx=>?_⟩
  obtain ⟨i,hi,rfl⟩:=List.mem_map.1 hx
  have hi:=List.mem_range.1 hi
  have h1:=hn.pos _ (show gI nets i∈nets from A7 hi)
  have h2:=A1r (t:=t) h1 (hq (gI rates i) (A7 (by omega)))
  have h3:=J6 hn.pos (show gI nets i∈nets from A7 hi)
  have h4:=hn.sum
  omega
theorem B0a {t:Tax} {rates nets:List Int} (hn:A3d nets) (hr:rates.length=nets.length) (hq:∀ x∈rates,0≤x∧x≤10000) {i:Nat} (hi:i<nets.length):A0Q t rates nets i≤gI nets i:=by
 have hqi:=hq (gI rates i) (A7 (by omega))
 have hw:=A3Y (t:=t) hn hr hqi
 obtain ⟨h1,h2,h3,h4⟩:=A2b hn hr i
 have hm:=A1r (t:=t) h3 hqi
 have hp:=A6j (rates:=rates) (i:=i) (by omega)
 have hml:(F2 rates nets i).length=(A6k rates i).length:=List.length_map ..
 have hle:=A1o hw hm.2 (k:=X3 rates i) (by omega)
 have e:gI (F2 rates nets i) (X3 rates i)=gI nets i:=by
  unfold F2 gI
  rw [List.getD_eq_getElem?_getD,List.getElem?_map,A9W (by omega)];rfl
 rw [e] at hle
 exact hle
theorem B6i {t:Tax} {rates nets:List Int} (hn:A3d nets) (hr:rates.length=nets.length) (hq:∀ x∈rates,0≤x∧x≤10000) {i:Nat} (hi:i<nets.length):gI (H2 t rates nets) i≤gI nets i:=by
 unfold H2
 split
 ·have e:gI (A1s t rates nets) i=A0Q t rates nets i:=by unfold A1s gI;rw [List.getD_eq_getElem?_getD,List.getElem?_map,List.getElem?_range hi];rfl
  rw [e];exact B0a hn hr hq hi
 ·have e:gI (X8 t rates nets) i=K7 t (gI nets i) (gI rates i):=by unfold X8 gI;rw [List.getD_eq_getElem?_getD,List.getElem?_map,List.getElem?_range hi];rfl
  rw [e]
  exact (A1r (hn.pos _ (show gI nets i∈nets from A7 hi)) (hq (gI rates i) (A7 (by omega)))).2
theorem A2k (f g:Nat→Int):∀ n,(∀ i,i<n→f i≤g i)→A2 ((List.range n).map f)≤A2 ((List.range n).map g)
 | 0,_=>Int.le_refl _
 | n+1,h=>by
  rw [L6,L6]
  have h1:=A2k f g n fun i hi=>h i (by omega)
  have h2:=h n (by omega)
  omega
structure B4m where
 goods:List Int
 taxes:List Int
 ship:Int
 shipTax:Int
def A1m (t:Tax) (taxes nets:List Int):List Int:=(List.range nets.length).map fun i=>if t.incl=true then gI nets i - gI taxes i else gI nets i
def K3 (t:Tax) (z:N4) (exempt:Bool) (cats:List D9) (nets:List Int) (ship:Int):B4m :=
 ⟨A1m t (H2 t (cats.map (F4 z)) nets) nets,if exempt=true then List.replicate nets.length 0 else H2 t (cats.map (F4 z)) nets,
 if t.incl=true then ship - K7 t ship z.ship else ship,if exempt=true then 0 else K7 t ship z.ship⟩
structure A2U where
 goods:List Int
 taxes:List Int
 ship:Int
 shipTax:Int
 total:Int
 deals:List A3a
end Go.Proofs.YtbajhapmlfbelaaGreat
namespace Go.Ab
open Go
theorem lp {A:List AV} {st:St} (n:Nat) (keep:List Nat) (J:Nat→List AV→St→Prop) {B:List Nat→(Nat→KA)→Nat→List AV→St→Prop}
  (h0:A0h A keep fun us=>J 0 us st) (h:∀ i vs s,i≤n→J i vs s→B keep (fun m vs s=>∃ i,i≤n∧m=n - i∧J i vs s) (n - i) vs s) :
  ∃ (keep:List Nat) (I:Nat→KA),(A0h A keep fun us=>∃ m,I m us st)∧∀ m vs s,I m vs s→B keep I m vs s:=by
 rw [V4] at h0
 refine ⟨keep,fun m vs s=>∃ i,i≤n∧m=n - i∧J i vs s,?_,?_⟩
 ·rw [V4];exact ⟨n,0,Nat.zero_le _,rfl,h0⟩
 ·rintro m vs s ⟨i,hi,rfl,hj⟩;exact h i vs s hi hj
theorem nx {n i:Nat} {J:Nat→Prop} (hi:i<n) (h:J (i+1)):∃ m',m'<n - i∧∃ i',i'≤n∧m'=n - i'∧J i':=⟨n - (i+1),by omega,i+1,hi,rfl,h⟩
theorem G2 {i n:Nat} (h:decide ((i:Int)<(n:Int))=false) (hi:i≤n):i=n:=by have:=of_decide_eq_false h;omega
theorem N3 {i n:Nat} (h:decide ((i:Int)<(n:Int))=true):i<n:=by have:=of_decide_eq_true h;omega
def M5 {α : Type} [Inhabited α] (ty e:Nat) (enc : α→AV) (L:List α) (st:St) (sv:AV) (st':St):Prop:=I2 ty e (fun k=>enc (L.getD k default)) st L.length sv st'
theorem M5.start {α : Type} [Inhabited α] (ty e:Nat) (enc : α→AV) (st:St):M5 ty e enc [] st .emp st:=I2.start _ _ _ _
theorem B3j {α : Type} [Inhabited α] (L:List α) (x : α):(L++[x]).getD L.length default=x:=by simp [List.getD_eq_getElem?_getD]
theorem A3T {α : Type} [Inhabited α] {a b:List α} {k:Nat} (h:k<a.length):(a++b).getD k default=a.getD k default:=by
 rw [List.getD_eq_getElem?_getD,List.getD_eq_getElem?_getD,List.getElem?_append_left h]
theorem M5.app {α : Type} [Inhabited α] {T:C4} {t:TypeId} {x sv:AV} {st st':St} {k:KK} {r q:B5} {el:Nat} {enc : α→AV} {L:List α} {y : α} {g:Nat→AV} (hr:T t=some r) (hd:r.desc=.slice el) (hq:T el=some q)
  (hz:(Nat.blt 0 q.size&&Nat.blt 0 q.bytes&&Nat.beq q.zero.cells.size q.size)=true) (hs:Z8 q.size st' x=some (1,g)) (hg:g 0=enc y) (hb:(L.length+1) * q.bytes≤140737488355328)
  (hc:M5 el q.size enc L st sv st') (hk:∀ sv' st'',M5 el q.size enc (L++[y]) st sv' st''→k sv' st''):A6W T t sv x st' k:=by
 refine I2.app (f:=fun k=>enc ((L++[y]).getD k default)) hr hd hq hz hs (by show g 0=enc _;rw [B3j];exact hg) hb (I2.congr hc fun k hk=>by show enc _=enc _;rw [A3T hk]) (fun sv' st'' h=>hk sv' st'' ?_)
 unfold M5
 rw [List.length_append];exact h
theorem A4m {α : Type} [Inhabited α] {P:Program} {F:FuncId} {args:List AV} {st:St} {ty e:Nat} {enc : α→AV} {L:List α} (h:S P F args st fun v st'=>M5 ty e enc L st v st'):S P F args st fun v st'=>v=A6 e enc L∧st'=st:=B4o h
theorem M5.shift {α : Type} [Inhabited α] {ty e:Nat} {enc : α→AV} {L:List α} {st:St} {sv:AV} {st':St} (h:M5 ty e enc L st sv st'):A4 [sv] st' [A6 e enc L] st:=I2.shift h
theorem M5.sup {α : Type} [Inhabited α] {ty e:Nat} {enc : α→AV} {L:List α} {st:St} {sv:AV} {st':St} (h:M5 ty e enc L st sv st'):E7 st st':=I2.sup h
theorem B0z {α β : Type} [Inhabited α] {l:List α} {i:Nat} (h:i<l.length) (g : α→β):(l.take (i+1)).map g=(l.take i).map g++[g (l.getD i default)]:=by rw [L7 h,List.map_append];rfl
end Go.Ab
