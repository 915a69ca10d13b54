/- Part 22 of the proof: contracts of the functions that the law reaches -/
import Derived.Test.YthdimklenlikgaaGreatQa21
set_option maxRecDepth 100000
set_option linter.unusedVariables false
set_option linter.unusedSimpArgs false
namespace Go.Proofs.YthdimklenlikgaaGreat
open Go Go.Ab
attribute [local irreducible] upd del
def A0Y (us:List B5) (l:List Int):Int:=A5 (l.map fun i=>(gU us i.toNat).net)
theorem B1v {us:List B5} (hu:E9 us) {l:List Int} (hl:∀ k,k<l.length→0≤gI l k∧(gI l k).toNat<us.length) (hn:l.length≤800000) {i:Nat} (hi:i<l.length) :
  IntKind.i64.wrap (A0Y us (l.take i)+(gU us (gI l i).toNat).net)=A0Y us (l.take (i+1)):=by
 have hc:=A0v hu (l.take i) (fun x hx=>by obtain ⟨k,hk,rfl⟩:=E8 (List.take_subset _ _ hx);exact hl k hk)
 have h3:0≤(gU us (gI l i).toNat).net:=hu.pos _ (B3 (hl i hi).2)
 have h4:(gU us (gI l i).toNat).net≤10000000000000:=hu.le (B3 (hl i hi).2)
 have e:A0Y us (l.take (i+1))=A0Y us (l.take i)+(gU us (gI l i).toNat).net:=by
  unfold A0Y;rw [I6 hi,List.map_append,G1];simp [A5]
 have hcl:(l.take i).length≤800000:=by rw [List.length_take];omega
 have e2:H4 us (l.take i)=A0Y us (l.take i):=rfl
 rw [e]
 exact A9 (by omega) (by omega)
theorem C5X (bx:Nat) (items:List Ab.Item) (p:PSt) (hu:E9 p.us) (l:List Int) (hn:l.length≤800000) (hl:∀ k,k<l.length→0≤gI l k∧(gI l k).toNat<p.us.length) (s t:St) (h:PxR bx items p s t) :
  S P 244 [.optr 4 bx 0 0,A6 l] t fun v t'=>v=eI (A0Y p.us l)∧t'=t:=by
 obtain ⟨dv,gv,fx,hx,hx0,hdv,hgv⟩:=h.at
 refine A8 [] B8 mixed Tryz.func244 (by rfl) rfl rfl rfl ?_;conv=>whnf
 refine ⟨[0,5,8,9,10],fun m vs t'=>∃ i:Nat,i≤l.length∧m=l.length - i∧vs=[.optr 4 bx 0 0,eI (A0Y p.us (l.take i)),A6 l,eI l.length,eI i]∧t'=t,?_,?_⟩
 ·conv=>whnf
  exact ⟨_,0,Nat.zero_le _,rfl,rfl,rfl⟩
 ·rintro m vs t' ⟨i,hi,rfl,rfl,rfl⟩
  conv=>whnf
  cases h2:decide ((i:Int)<(l.length:Int))
  ·have:=of_decide_eq_false h2
   obtain rfl:i=l.length:=by omega
   rw [List.take_length];conv=>whnf
   exact ⟨rfl,rfl⟩
  ·have hi':i<l.length:=by have:=of_decide_eq_true h2;omega
   have hr:=hl i hi'
   conv=>whnf
   refine ⟨rfl,⟨by omega,by omega⟩,?_⟩;conv=>whnf
   refine D9 hx rfl (by omega) hx0 ?_;conv=>whnf
   refine ⟨rfl,⟨by show 0≤gI l i;exact hr.1,by show gI l i<(p.us.length:Int);have:=hr.2;have:=hr.1;omega⟩,?_⟩;conv=>whnf
   refine ⟨rfl,?_⟩;conv=>whnf
   exact ⟨l.length - (i+1),by omega,i+1,by omega,rfl,by rw [B9 (by omega),←B1v hu hl hn hi'];rfl,rfl⟩
theorem C4O (bx:Nat) (items:List Ab.Item) (p:PSt) (hu:E9 p.us) (l:List Int) (hn:l.length≤800000) (hl:∀ k,k<l.length→0≤gI l k∧(gI l k).toNat<p.us.length) (s t:St) (h:PxR bx items p s t)
  (b:Nat) (m0:Nat) (f:Nat→AV) (hm0:l.length≤m0) (hb:t b=some ⟨3,1,m0,f⟩) (hf:∀ k,k<l.length→f k=eI (gI l k)) :
  S P 244 [.optr 4 bx 0 0,.own 1 b 0 l.length] t fun v t'=>v=eI (A0Y p.us l)∧t'=t:=by
 obtain ⟨dv,gv,fx,hx,hx0,hdv,hgv⟩:=h.at
 refine A8 [] B8 mixed Tryz.func244 (by rfl) rfl rfl rfl ?_;conv=>whnf
 refine ⟨[0,5,8,9,10],fun m vs t'=>∃ i:Nat,i≤l.length∧m=l.length - i∧vs=[.optr 4 bx 0 0,eI (A0Y p.us (l.take i)),.own 1 b 0 l.length,eI l.length,eI i]∧t'=t,?_,?_⟩
 ·conv=>whnf
  exact ⟨_,0,Nat.zero_le _,rfl,rfl,rfl⟩
 ·rintro m vs t' ⟨i,hi,rfl,rfl,rfl⟩
  conv=>whnf
  cases h2:decide ((i:Int)<(l.length:Int))
  ·have:=of_decide_eq_false h2
   obtain rfl:i=l.length:=by omega
   rw [List.take_length];conv=>whnf
   exact ⟨rfl,rfl⟩
  ·have hi':i<l.length:=by have:=of_decide_eq_true h2;omega
   have hr:=hl i hi'
   conv=>whnf
   refine ⟨rfl,⟨by omega,by omega⟩,?_⟩;conv=>whnf
   refine D9 hb rfl (by omega) (v:=eI (gI l i)) (by rw [show 0+(i:Int).toNat=i by omega];exact hf i hi') ?_;conv=>whnf
   refine D9 hx rfl (by omega) hx0 ?_;conv=>whnf
   refine ⟨rfl,⟨by show 0≤gI l i;exact hr.1,by show gI l i<(p.us.length:Int);have:=hr.2;have:=hr.1;omega⟩,?_⟩;conv=>whnf
   refine ⟨rfl,?_⟩;conv=>whnf
   exact ⟨l.length - (i+1),by omega,i+1,by omega,rfl,by rw [B9 (by omega),←B1v hu hl hn hi'],rfl⟩
def A0O (p:PSt) (pr:B4) (off:Int):PSt:=⟨p.us,p.deals++[⟨pr.id,off⟩],p.groups++(if L4 pr.group=true then [] else [pr.group])⟩
theorem A3k {α : Type} [Inhabited α] {a b:List α} {k:Nat} (h:k<a.length):(a++b).getD k default=a.getD k default:=by
 rw [List.getD_eq_getElem?_getD,List.getD_eq_getElem?_getD,List.getElem?_append_left h]
theorem A6T {α : Type} [Inhabited α] (a:List α) (x : α):(a++[x]).getD a.length default=x:=by
 simp [List.getD_eq_getElem?_getD]
theorem RD.at {bx:Nat} {dl:List A0D} {gr:List D6} {dv gv:AV} {s t:St} {f:Nat→AV} (h:RD dl gr dv gv (upd s bx ⟨153,4,1,f⟩) t):t bx=some ⟨153,4,1,f⟩:=(A2A _ _ _ _).sup h bx _ (A0 ..)
theorem RD.put {bx:Nat} {dl:List A0D} {gr:List D6} {dv gv:AV} {s t:St} {f f':Nat→AV} (h:RD dl gr dv gv (upd s bx ⟨153,4,1,f⟩) t):RD dl gr dv gv (upd s bx ⟨153,4,1,f'⟩) (upd t bx ⟨153,4,1,f'⟩):=by
 have:=(A2A dl gr dv gv).write (y':=⟨153,4,1,f'⟩) h (A0 ..)
 rw [B7] at this;exact this
theorem RD.of {dl:List A0D} {gr:List D6} {dv gv:AV} {s t:St} {d:A0D} (h:ROut (RG gr gv) 140 2 (A0K (dl++[d])) (dl.length+1) s dv t):RD (dl++[d]) gr dv gv s t:=by
 unfold RD;rw [List.length_append];exact h
theorem RD.grp {K:KK} {X:Prop} {dl:List A0D} {gr:List D6} {dv gv:AV} {s t:St} (h:RD dl gr dv gv s t) (g:D6)
  (happ:∀ {s1:St},ROut D7 9 1 (A5T (gr++[g])) gr.length s1 gv t→(∀ gv' t',ROut D7 9 1 (A5T (gr++[g])) (gr.length+1) s1 gv' t'→K gv' t')→X)
  (hk:∀ gv' t',RD dl (gr++[g]) dv gv' s t'→(gv'=.emp∨∃ b,gv'=.own 1 b 0 (gr++[g]).length)→K gv' t'):X:=by
 obtain ⟨s1,hc,hg⟩:=h
 refine happ (s1:=s1) (hg.congr fun k hk=>by simp only [A5T];rw [A3k hk]) (fun gv' t' hg'=>?_)
 have hg2:RG (gr++[g]) gv' s1 t':=by unfold RG;rw [List.length_append];exact hg'
 exact hk gv' t' ⟨s1,hc,hg2⟩ (ROut.head hg2)
theorem PxR.mk' {bx:Nat} {items:List Ab.Item} {p:PSt} {dv gv:AV} {s t:St} {f:Nat→AV} (hbx:s bx=none) (hf:f 0=.agg [B2 4 F1 items,D0 p.us,dv,gv]) (h:RD p.deals p.groups dv gv (upd s bx ⟨153,4,1,f⟩) t):PxR bx items p s t :=
 ⟨(dv,gv),hbx,_,⟨f,rfl,hf⟩,h⟩
theorem PxR.fin {bx:Nat} {items:List Ab.Item} {us:List B5} {dl:List A0D} {gr:List D6} {dv gv:AV} {s t:St} {f:Nat→AV} (hbx:s bx=none) (h:RD dl gr dv gv (upd s bx ⟨153,4,1,f⟩) t) (f':Nat→AV) (hf:f' 0=.agg [B2 4 F1 items,D0 us,dv,gv]) :
  PxR bx items ⟨us,dl,gr⟩ s (upd t bx ⟨153,4,1,f'⟩):=PxR.mk' hbx hf (RD.put h)
theorem B5D (bx:Nat) (items:List Ab.Item) (p:PSt) (pr:B4) (off:Int) (hd:p.deals.length≤1000) (hg:p.groups.length≤1000) (s t:St) (h:PxR bx items p s t) :
  S P 157 [.optr 4 bx 0 0,C1 pr,eI off] t fun v t'=>v=.tuple []∧PxR bx items (A0O p pr off) s t':=by
 obtain ⟨⟨dv,gv⟩,hbx,y,⟨f,rfl,hf⟩,hRD⟩:=h
 simp only at hf hRD
 refine A8 [4] B8 mixed Tryz.func157 (by rfl) rfl rfl rfl ?_;conv=>whnf
 refine ⟨[10,13],[],[0,1,2,3,4,5,6,7,8,9,10,11,12,13],by kernel_rfl,?_⟩
 have hdv:dv=.emp∨∃ b,dv=.own 2 b 0 p.deals.length:=ROut.head hRD
 have hgv:gv=.emp∨∃ b,gv=.own 1 b 0 p.groups.length:=by obtain ⟨s0,hc,hgg⟩:=hRD;exact ROut.head hgg
 rcases hdv with rfl | ⟨bd,rfl⟩<;>rcases hgv with rfl | ⟨bg,rfl⟩
 all_goals
  conv=>whnf
  refine D9 hRD.at rfl (by omega) hf ?_;conv=>whnf
  refine ⟨_,⟨rfl,rfl⟩,?_⟩;conv=>whnf
  refine ROut.app (q:=C3b) (A6L _ _) rfl rfl rfl rfl rfl (f:=A0K (p.deals++[⟨pr.id,off⟩])) (by simp only [A0K,A6T];rfl) (by show (p.deals.length+1) * 24≤140737488355328;omega) (hRD.congr fun k hk=>by simp only [A0K];rw [A3k hk]) (fun dv' t2 hRD2=>?_)
  have hRD2':=RD.of hRD2
  rcases ROut.head hRD2' with rfl | ⟨bd',rfl⟩
  all_goals
   conv=>whnf
   refine G6 hRD2'.at rfl (by omega) hf (by rfl) ?_;conv=>whnf
   have hnil:(ByteArray.toList pr.group==ByteArray.toList ⟨#[]⟩)=L4 pr.group:=rfl
   rw [hnil]
   cases hgr:L4 pr.group
   ·conv=>whnf
    refine ⟨[8,11],[],[0,1,2,3,4,5,6,7,8,9,10,11],by kernel_rfl,?_⟩;conv=>whnf
    refine D9 (RD.put hRD2').at rfl (by omega) (by rw [A2]) ?_;conv=>whnf
    refine ⟨_,⟨rfl,rfl⟩,?_⟩;conv=>whnf
    refine RD.grp (RD.put hRD2') pr.group (fun happ=>ROut.app (q:=r9) B1 rfl rfl rfl rfl rfl (by simp only [A5T,A6T];rfl) (by show (p.groups.length+1) * 16≤140737488355328;omega) happ) (fun gv' t4 hRD4 hh=>?_)
    rcases hh with rfl | ⟨bg',rfl⟩
    all_goals
     conv=>whnf
     refine G6 hRD4.at rfl (by omega) (by rw [A2]) (by rfl) ?_;conv=>whnf
     refine ⟨rfl,?_⟩
     unfold A0O
     rw [hgr]
     exact PxR.fin hbx hRD4 _ (by rw [A2];rfl)
   ·conv=>whnf
    refine ⟨rfl,?_⟩
    unfold A0O
    rw [hgr]
    simp only [if_true,List.append_nil]
    exact PxR.fin hbx hRD2' _ (by rw [A2];rfl)
end Go.Proofs.YthdimklenlikgaaGreat
namespace Go.Proofs.YthdimklenlikgaaGreat
open Go Go.Ab
theorem J2 {lo hi x:Int}:R4 lo hi x=true↔lo≤x∧x≤hi:=by
 unfold R4;simp only [Bool.and_eq_true,decide_eq_true_eq,ge_iff_le]
theorem A3f {α : Type} [Inhabited α] {l:List α} {p:Nat→α→Bool}:K8 l p=true↔∀ k,k<l.length→p k (l.getD k default)=true:=by
 unfold K8
 rw [List.all_eq_true]
 exact ⟨fun h k hk=>h k (List.mem_range.2 hk),fun h k hk=>h k (List.mem_range.1 hk)⟩
structure C2a (p:B4):Prop where
 kind:1≤p.kind∧p.kind<8
 skus:p.scope.skus.length≤20
 cats:p.scope.cats.length≤20
 least:0≤p.least∧p.least≤10000000000000
 buy:p.kind=3→A9d p
 bun:p.kind=4→A3a p∧∀ x∈p.parts,x.scope.skus.length≤20∧x.scope.cats.length≤20
 ask:P0 p→p.kind=1∨p.kind=2∨p.kind=5∨p.kind=6→A4s p
 ship:p.kind=7→1≤p.rate∧p.rate≤10000
theorem B8X {l:List A0a} (h:W5 l=true):A6G l:=by
 unfold W5 at h
 simp only [Bool.and_eq_true,Bool.not_eq_true',Bool.or_eq_false_iff,decide_eq_false_iff_not] at h
 refine ⟨by omega,fun t ht=>?_⟩
 obtain ⟨k,hk,rfl⟩:=E8 ht
 have h2:=A3f.1 h.2 k hk
 unfold A2X at h2
 simp only [Bool.not_eq_true',Bool.or_eq_false_iff,decide_eq_false_iff_not] at h2
 omega
theorem A2I {p:B4} (h:I9 p=true):C2a p:=by
 have h0:=h
 unfold I9 at h
 simp only [Bool.and_eq_true,decide_eq_true_eq] at h
 obtain ⟨⟨⟨⟨hk1,hk2⟩,hh⟩,hp⟩,hkd⟩:=h
 have hl:=B1w hh
 simp only [A5V,Bool.and_eq_true,J2] at hh
 unfold A5W at hkd
 refine ⟨⟨hk1,hk2⟩,hl.1,hl.2,hh.2,fun e=>?_,fun e=>?_,fun hf e=>?_,fun e=>?_⟩
 ·rw [e] at hkd
  simp [A7c,A7d,J2] at hkd
  exact ⟨hkd.2.1,hkd.2.2,⟨by omega,hkd.1.2⟩⟩
 ·rw [e] at hkd
  simp only [show ¬(4:Int)=1 by decide,show ¬(4:Int)=2 by decide,show ¬(4:Int)=3 by decide,if_false,if_true] at hkd
  unfold A5C at hkd
  simp only [Bool.and_eq_true,Bool.not_eq_true',Bool.or_eq_false_iff,decide_eq_false_iff_not,List.any_eq_false] at hkd
  obtain ⟨⟨⟨⟨a1,a2⟩,a3⟩,a4⟩,a5⟩:=hkd
  have hpt:∀ x∈p.parts,A0e x=true:=fun x hx=>by simpa using a5 x hx
  refine ⟨⟨by omega,by omega,fun x hx=>?_,by omega,by omega⟩,fun x hx=>?_⟩
  ·have:=hpt x hx
   unfold A0e at this
   simp only [Bool.and_eq_true,Bool.not_eq_true',Bool.or_eq_false_iff,decide_eq_false_iff_not] at this
   omega
  ·have:=hpt x hx
   unfold A0e at this
   simp only [Bool.and_eq_true] at this
   exact B0l this.1
 ·refine ⟨hf,h0,e,fun e2=>?_,fun e2=>?_⟩
  ·rcases e2 with e2 | e2<;>rw [e2] at hkd<;>simp at hkd<;>exact B8X hkd
  ·rw [e2] at hkd
   simp [A7b,J2] at hkd
   omega
 ·rw [e] at hkd
  simp [A7d,J2] at hkd
  exact hkd
theorem B6Y {p:B4} (hp:A4s p) {nets:List Int} (h0:∀ x∈nets,0≤x) (hs:A5 nets≤10000000000000) (hl:nets.length≤100000):∀ k,k<(N4 p nets).length→gI (N4 p nets) k≤gI nets k:=fun k hk=>by
 have hn:=C4 h0
 have hlen:=(A3U hp h0 hs hl).2.1
 have hx:0≤gI nets k:=h0 _ (B3 (by omega))
 have hkn:k<nets.length:=by omega
 unfold N4 at hk ⊢
 have hmap:∀ (r a:Int),0≤a→gI (nets.map fun x=>O6 x r a) k≤gI nets k:=fun r a ha=>by
  rw [show gI (nets.map fun x=>O6 x r a) k=O6 (gI nets k) r a from E3 (fun x=>O6 x r a) nets hkn]
  exact (X4 hx ha).2
 rcases hp.kind with e | e | e | e
 ·rw [if_pos e] at hk ⊢;exact hmap _ _ (Int.le_refl _)
 ·rw [if_neg (by omega),if_pos e] at hk ⊢;exact hmap _ _ (hp.amount e).1
 ·rw [if_neg (by omega),if_neg (by omega),if_pos e] at hk ⊢
  have hok:=X7 (hp.tiers (.inl e)) (A5 nets)
  unfold A4l at hk ⊢
  split at hk
  ·simp at hk
  ·rename_i t hr
   rw [hr] at hok
   have hob:0≤O6 (A5 nets) t.rate t.amount∧O6 (A5 nets) t.rate t.amount≤A5 nets:=X4 hn hok.1
   have hW:P3 (O6 (A5 nets) t.rate t.amount) nets:=⟨hob.1,by omega,hl,h0,by omega,fun e=>by omega⟩
   have hll:=(Q4 hW).2.1
   exact A2l hW hob.2 (by omega)
 ·rw [if_neg (by omega),if_neg (by omega),if_neg (by omega)] at hk ⊢
  have hok:=X7 (hp.tiers (.inr e)) nets.length
  unfold A4k at hk ⊢
  split at hk
  ·simp at hk
  ·rename_i t hr
   rw [hr] at hok
   exact hmap _ _ hok.1
theorem A7a (us:List B5) (mine:List Int):F0 us mine=I3 us mine:=rfl
theorem B4Y {p:B4} (hp:A4s p) {us:List B5} (hu:E9 us) {mine:List Int} (hm:M0 us mine):Off us (W1 p us mine).1 (W1 p us mine).2:=by
 have hnl:(F0 us mine).length=mine.length:=List.length_map ..
 have hml:=hm.len
 have hul:=hu.len
 have hn0:∀ x∈F0 us mine,0≤x:=fun x hx=>by
  obtain ⟨i,hi,rfl⟩:=List.mem_map.1 hx
  exact hu.at0 _
 have hwl:=B0A hu hm.places
 have hus:=hu.sum
 have hns:A5 (F0 us mine)≤10000000000000:=by rw [A7a];omega
 obtain ⟨ob1,ob2,ob3⟩:=A3U hp hn0 hns (by omega)
 have hle:=B6Y hp hn0 hns (by omega)
 have h1:=A1A hu hm.places (offs:=N4 p (F0 us mine)) (by omega) (fun k hk=>⟨ob3 _ (B3 hk),by
  have:=hle k hk
  rw [show gI (F0 us mine) k=(gU us (gI mine k).toNat).net from E3 (fun i:Int=>(gU us i.toNat).net) mine (by omega)] at this
  exact this⟩) (N4 p (F0 us mine)).length (Nat.le_refl _)
 rw [List.take_length] at h1
 unfold W1
 simp only
 split
 ·have h2:=Off.closeB (h1.ok hu) mine (fun x hx=>by
   obtain ⟨k,hk,rfl⟩:=E8 hx
   rw [h1.len];exact (hm.rng k hk).2)
  have h3:=h1.trans h2
  rw [Int.add_zero] at h3;exact h3
 ·exact h1
end Go.Proofs.YthdimklenlikgaaGreat
namespace Go.Proofs.YthdimklenlikgaaGreat
open Go Go.Ab
attribute [local irreducible] upd del
theorem PxR.more {bx:Nat} {items:List Ab.Item} {p:PSt} {s t t':St} (h:PxR bx items p s t) (hs:D7 t t'):PxR bx items p s t':=by
 obtain ⟨v,h1,y,h2,s1,h3,s2,h4,h5⟩:=h
 exact ⟨v,h1,y,h2,s1,h3,s2,h4,h5.trans hs⟩
structure A5O (items:List Ab.Item) (us:List B5):Prop where
 ok:E9 us
 few:items.length≤100000
 line:∀ u∈us,0≤u.line∧u.line.toNat<items.length
theorem A5O.off {items:List Ab.Item} {us us':List B5} {x:Int} (h:A5O items us) (ho:Off us us' x):A5O items us' :=
 ⟨ho.ok h.ok,h.few,fun u hu=>by
  obtain ⟨k,hk,rfl⟩:=E8 hu
  have h1:=ho.line k
  have h2:=h.line (gU us k) (B3 (by rw [←ho.len];exact hk))
  show 0≤(gU us' k).line∧(gU us' k).line.toNat<items.length
  rw [h1];exact h2⟩
def A1s (items:List Ab.Item) (us:List B5) (pr:B4):List B5×Int :=
 if A0Y us (I8 pr.scope items us us.length)<pr.least then ([],0)
 else if pr.kind=3 then T0 pr us (I8 pr.scope items us us.length) else W1 pr us (I8 pr.scope items us us.length)
theorem C4v {P:Program} {f:FuncId} {args:List AV} {st st1:St} {v:AV} {K:KK} (h:S P f args st fun v' st'=>v'=v∧st'=st1) (hK:K v st1):A1C P f args st K:=call h fun v' st' ⟨e1,e2⟩=>by rw [e1,e2];exact hK
theorem C1f (bx:Nat) (items:List Ab.Item) (p:PSt) (pr:B4) (hfit:P0 pr) (hright:I9 pr=true) (hk:pr.kind≠4∧pr.kind≠7) (hu:A5O items p.us) (s t:St) (h:PxR bx items p s t) :
  S P 155 [.optr 4 bx 0 0,C1 pr] t fun v t'=>v=.tuple [D0 (A1s items p.us pr).1,eI (A1s items p.us pr).2]∧t'=t:=by
 have hok:=A2I hright
 have hm:=A0N pr.scope items p.us
 have hml:=hm.len
 have hul:=hu.ok.len
 refine S.post (post:=fun v t'=>(v=.tuple [D0 (A1s items p.us pr).1,eI (A1s items p.us pr).2]∨(A1s items p.us pr=([],0)∧v=.tuple [.emp,eI 0]))∧t'=t) ?_ (fun v t' ⟨hv,ht⟩=>by
  subst ht
  rcases hv with rfl | ⟨h1,rfl⟩
  ·exact ⟨_,_,⟨rfl,rfl⟩,B0.refl _ _⟩
  ·exact ⟨_,_,⟨rfl,rfl⟩,by rw [h1];exact B0.tuple (B0.cons (L9 3 _) (B0.keep _ _)) rfl⟩)
 obtain ⟨dv,gv,fx,hx,hx0,hdv,hgv⟩:=h.at
 refine A8 [3] B8 mixed Tryz.func155 (by rfl) rfl rfl rfl ?_;conv=>whnf
 refine A7 (C0q bx items p pr.scope hok.skus hok.cats hul hu.few hu.line s t h) ?_;conv=>whnf
 refine ⟨[],[],[0,1,2,3,4,5],by kernel_rfl,?_⟩;conv=>whnf
 refine ⟨_,D1 (C5X bx items p hu.ok _ (by omega) hm.rng s t h),?_⟩
 have hS:A1s items p.us pr=if A0Y p.us (I8 pr.scope items p.us p.us.length)<pr.least then ([],0) else if pr.kind=3 then T0 pr p.us (I8 pr.scope items p.us p.us.length) else W1 pr p.us (I8 pr.scope items p.us p.us.length):=rfl
 conv=>whnf
 refine C3 (fun h1=>?_) (fun h1=>?_)<;>rw [h1]<;>simp only [decide_eq_true_eq,decide_eq_false_iff_not] at h1
 ·rw [if_pos h1] at hS;conv=>whnf
  exact ⟨.inr ⟨hS,rfl⟩,rfl⟩
 rw [if_neg h1] at hS;conv=>whnf
 refine C3 (fun h2=>?_) (fun h2=>?_)<;>rw [h2]<;>simp only [beq_iff_eq,beq_eq_false_iff_ne] at h2
 ·rw [if_pos h2] at hS;conv=>whnf
  refine ⟨[],[],[0,1,2,3,4,5,6,7,8,9,10],by kernel_rfl,?_⟩;conv=>whnf
  refine D9 hx rfl (by omega) hx0 ?_;conv=>whnf
  refine ⟨_,D1 (B9I pr p.us _ hfit hright h2 (hok.buy h2) hu.ok hm t),?_⟩;conv=>whnf
  exact ⟨.inl (by rw [hS];rfl),rfl⟩
 ·rw [if_neg h2] at hS
  have hask:A4s pr:=hok.ask hfit (by have:=hok.kind;have:=hk.1;have:=hk.2;omega)
  conv=>whnf
  refine ⟨[],[],[0,1,2,3,4,5,6,7,8,9,10],by kernel_rfl,?_⟩;conv=>whnf
  refine D9 hx rfl (by omega) hx0 ?_;conv=>whnf
  refine ⟨_,D1 (C2h pr p.us _ hask hu.ok hm t),?_⟩;conv=>whnf
  exact ⟨.inl (by rw [hS];rfl),rfl⟩
theorem C0c (a b:List Int) (j:Nat):gI (a++b) (a.length+j)=gI b j:=by
 unfold gI
 rw [List.getD_eq_getElem?_getD,List.getD_eq_getElem?_getD,List.getElem?_append_right (by omega),Nat.add_sub_cancel_left]
theorem C4N (bx:Nat) (t:St):S P 244 [.optr 4 bx 0 0,.emp] t fun v t'=>v=eI 0∧t'=t:=by
 refine A8 [] B8 mixed Tryz.func244 (by rfl) rfl rfl rfl ?_;conv=>whnf
 refine A4P [0,5,8,9,10] ?_;conv=>whnf
 intro I;conv=>whnf
 exact ⟨rfl,rfl⟩
def P2 (items:List Ab.Item) (us:List B5) (pr:B4):List (List Int):=pr.parts.map fun x=>I8 x.scope items us us.length
def Y2 (items:List Ab.Item) (us:List B5) (pr:B4) (i:Nat):List Int:=((P2 items us pr).take i).flatten
def A0h (items:List Ab.Item) (us:List B5) (pr:B4):List B5×Int :=
 if A0Y us (U0 (C7 (Y2 items us pr pr.parts.length)))<pr.least then ([],0) else P4 pr us (P2 items us pr)
theorem A7D (items:List Ab.Item) (us:List B5) (pr:B4) {i:Nat} (hi:i<pr.parts.length):Y2 items us pr (i+1)=Y2 items us pr i++I8 (pr.parts.getD i default).scope items us us.length:=by
 unfold Y2
 have hl:(P2 items us pr).length=pr.parts.length:=List.length_map ..
 rw [I6 (by omega),List.flatten_append]
 congr 1
 have:(P2 items us pr).getD i default=I8 (pr.parts.getD i default).scope items us us.length:=E3 (fun x:A1t=>I8 x.scope items us us.length) pr.parts hi
 rw [this];simp
theorem A9k (items:List Ab.Item) (us:List B5) (pr:B4):∀ i,i≤pr.parts.length→(Y2 items us pr i).length≤i * us.length
 | 0,_=>by simp [Y2]
 | i+1,h=>by
  have ih:=A9k items us pr i (by omega)
  rw [A7D items us pr (by omega),List.length_append]
  have:=A1Z (pr.parts.getD i default).scope items us us.length
  have e:(i+1) * us.length=i * us.length+us.length:=Nat.succ_mul i us.length
  omega
theorem B1i {l:List Int} {x:Int} (h:x∈U0 l):x∈l:=by
 unfold U0 Go.Lib.compactUpTo at h
 obtain ⟨k,hk,rfl⟩:=List.mem_map.1 h
 have hk2:k<l.length:=List.mem_range.1 (List.mem_filter.1 hk).1
 have:l.toArray[k]! = l[k]:=by rw [getElem!_pos _ k (by simpa using hk2)];simp
 rw [this];exact List.getElem_mem hk2
theorem A9l {items:List Ab.Item} {us:List B5} {pr:B4} {i:Nat} {x:Int} (h:x∈Y2 items us pr i):0≤x∧x.toNat<us.length:=by
 unfold Y2 at h
 obtain ⟨l,hl,hx⟩:=List.mem_flatten.1 h
 obtain ⟨q,hq,rfl⟩:=List.mem_map.1 (List.take_subset _ _ hl)
 obtain ⟨k,hk,rfl⟩:=E8 hx
 exact (A0N q.scope items us).rng k hk
theorem B8n (bx:Nat) (items:List Ab.Item) (p:PSt) (pr:B4) (hfit:P0 pr) (hright:I9 pr=true) (hk:pr.kind=4) (hu:A5O items p.us) (s t:St) (h:PxR bx items p s t) :
  S P 156 [.optr 4 bx 0 0,C1 pr] t fun v t'=>v=.tuple [D0 (A0h items p.us pr).1,eI (A0h items p.us pr).2]∧t'=t:=by
 have hok:=A2I hright
 obtain ⟨hbun,hsc⟩:=hok.bun hk
 have hn8:=hbun.n8
 have hul:=hu.ok.len
 have hpl:(P2 items p.us pr).length=pr.parts.length:=List.length_map ..
 have hpm:∀ x∈P2 items p.us pr,M0 p.us x:=fun x hx=>by
  obtain ⟨q,hq,rfl⟩:=List.mem_map.1 hx
  exact A0N _ _ _
 refine S.post (post:=fun v t'=>(v=.tuple [D0 (A0h items p.us pr).1,eI (A0h items p.us pr).2]∨(A0h items p.us pr=([],0)∧v=.tuple [.emp,eI 0]))∧D7 t t') ?_ (fun v t' ⟨hv,ht⟩=>by
  rcases hv with rfl | ⟨h1,rfl⟩
  ·exact ⟨_,_,⟨rfl,rfl⟩,ht.shift _⟩
  ·exact ⟨_,_,⟨rfl,rfl⟩,by rw [h1];exact (ht.shift _).trans (B0.tuple (B0.cons (L9 3 _) (B0.keep _ _)) rfl)⟩)
 have hBi:=fun (n:Nat) (sv:AV) (fo:Nat→AV)=>D8 B1 3 1 fo n sv
 refine A8 [3,9] B8 mixed Tryz.func156 (by rfl) rfl rfl rfl ?_;conv=>whnf
 refine ⟨[0,3,6,7,12,13,14],fun m vs t'=>∃ (i:Nat) (sv1 sv2:AV),i≤pr.parts.length∧m=pr.parts.length - i∧vs=[.optr 4 bx 0 0,.fptr (C1 pr) 0,sv1,sv2,B2 3 S7 pr.parts,eI pr.parts.length,eI i] ∧
  ROut (fun s t'=>ROut D7 3 1 (fun k=>eI (gI (Y2 items p.us pr i) k)) (Y2 items p.us pr i).length s sv2 t') 29 1 (fun k=>A6 ((P2 items p.us pr).getD k default)) i t sv1 t',?_,?_⟩
 ·conv=>whnf
  exact ⟨_,0,.emp,.emp,Nat.zero_le _,rfl,rfl,ROut.start (ROut.start (D7.refl _) _ _ _) _ _ _⟩
 ·rintro m vs t' ⟨i,sv1,sv2,hi,rfl,rfl,hout⟩
  have hal:=A9k items p.us pr i hi
  have hal2:i * p.us.length≤8 * 100000:=Nat.mul_le_mul (by omega) hul
  have hsup:D7 t t':=hout.sup (hBi _ _ _)
  conv=>whnf
  cases hd:decide ((i:Int)<(pr.parts.length:Int))
  ·have:=of_decide_eq_false hd
   obtain rfl:i=pr.parts.length:=by omega
   obtain ⟨s1,hc1,hout2⟩:=hout
   generalize hA:Y2 items p.us pr pr.parts.length=A at *
   have hAm:∀ x∈A,0≤x∧x.toNat<p.us.length:=fun x hx=>A9l (by rw [hA];exact hx)
   have hSl:(C7 A).length=A.length:=T8 A
   have hCl:=A7F (C7 A)
   have hCm:∀ k,k<(U0 (C7 A)).length→0≤gI (U0 (C7 A)) k∧(gI (U0 (C7 A)) k).toNat<p.us.length:=fun k hk=>hAm _ (R6.1 (B1i (B3 hk)))
   conv=>whnf
   refine call (B1K B1 (by omega) hout2) (fun v t2 hv=>?_)
   obtain ⟨rfl,hout3⟩:=hv
   have hsup2:D7 s1 t2:=hout3.sup B1
   have hB:A0h items p.us pr=if A0Y p.us (U0 (C7 A))<pr.least then ([],0) else P4 pr p.us (P2 items p.us pr):=by unfold A0h;rw [hA]
   -- what is behind the two,with the store as it is then
   have fin:∀ t3,D7 s1 t3→∀ K:KK,(∀ v,v=.tuple [D0 (P4 pr p.us (P2 items p.us pr)).1,eI (P4 pr p.us (P2 items p.us pr)).2]→K v t)→A1C P 248 [C1 pr,D0 p.us,sv1] t3 K:=fun t3 h3 K hK=>by
    have hsh:B0 [C1 pr,D0 p.us,sv1] t3 [C1 pr,D0 p.us,B2 1 A6 (P2 items p.us pr)] t:=by
     refine B0.cons (B0.keep _ _) (B0.cons (B0.keep _ _) ?_)
     have e:B2 1 A6 (P2 items p.us pr)=.arr 1 pr.parts.length (fun k=>A6 ((P2 items p.us pr).getD k default)):=by unfold B2;rw [hpl]
     rw [e]
     exact (h3.shift _).trans hc1.shift
    refine F3 hsh (call (B9H pr p.us (P2 items p.us pr) hfit hright hk hbun hu.ok hpl hpm t) (fun v t4 hv=>?_))
    rw [hv.2];exact hK v hv.1
   have hpx:∀ t3,D7 s1 t3→PxR bx items p s t3:=fun t3 h3=>h.more (hc1.sup.trans h3)
   conv=>whnf
   refine ⟨[2,5],[],[],.qui 0 (.qui 1 (.qui 4 (.two 2 5 (.qui 5 (.qui 3 (.qui 6 .done))) (.gen 2 (.qui 3 (.qui 6 .done)))))),by kernel_rfl,?_⟩
   obtain ⟨s2,hc2,hs2⟩:=hout3
   rcases hc2 with ⟨h0,rfl,rfl⟩ | ⟨h0,b2,g2,hb2,rfl,rfl,hg2⟩
   ·have hA0:A=[]:=List.eq_nil_of_length_eq_zero h0
    have hnet:A0Y p.us (U0 (C7 A))=0:=by
     have:U0 (C7 A)=[]:=List.eq_nil_of_length_eq_zero (by omega)
     rw [this];rfl
    rw [hnet] at hB;conv=>whnf
    constructor
    all_goals conv=>whnf
    all_goals refine A7 (B5d _) ?_
    all_goals conv=>whnf
    all_goals refine ⟨_,D1 (C4N bx _),?_⟩
    all_goals conv=>whnf
    all_goals refine C3 (fun h1=>?_) (fun h1=>?_)<;>rw [h1]<;>simp only [decide_eq_true_eq,decide_eq_false_iff_not] at h1
    all_goals first
     | (rw [if_pos h1] at hB
        conv=>whnf
        exact ⟨.inr ⟨hB,rfl⟩,hc1.sup.trans hs2⟩)
     | (rw [if_neg h1] at hB
        obtain ⟨dv,gv,fx,hx,hx0,_,_⟩:=(hpx _ hs2).at
        conv=>whnf
        refine ⟨[6],[],[0,1,2,3,4,5,6,7,8,9,10],by kernel_rfl,?_⟩;conv=>whnf
        refine D9 hx rfl (by omega) hx0 ?_;conv=>whnf
        refine fin _ hs2 _ (fun v hv=>?_)
        subst hv;conv=>whnf
        exact ⟨.inl (by rw [hB];rfl),D7.refl _⟩)
   ·have hb2t:=hs2 b2 _ (A0 ..)
    have hC:=B7M b2 (C7 A) (by omega) t2 ⟨g2,by rw [hb2t,hSl],fun k hk=>hg2 k (by omega)⟩
    rw [hSl] at hC
    have hs3:∀ y,D7 s1 (upd t2 b2 y):=fun y=>hsup2.over hb2
    have hN:=fun t3 (h3:D7 s1 t3) (e3:t3=upd t2 b2 (A4Z (A6O (C7 A))))=>C4O bx items p hu.ok (U0 (C7 A)) (by omega) hCm s t3 (hpx t3 h3) b2 (A6O (C7 A)).length (fun k=>eI (gI (A6O (C7 A)) k)) (by rw [B1j];omega) (by rw [e3,A0];rfl) (fun k hk=>by rw [C2A hk])
    conv=>whnf
    constructor
    all_goals conv=>whnf
    all_goals refine C4v hC ?_
    all_goals conv=>whnf
    all_goals refine ⟨_,D1 (hN _ (hs3 _) rfl),?_⟩
    all_goals conv=>whnf
    all_goals refine C3 (fun h1=>?_) (fun h1=>?_)<;>rw [h1]<;>simp only [decide_eq_true_eq,decide_eq_false_iff_not] at h1
    all_goals first
     | (rw [if_pos h1] at hB
        conv=>whnf
        exact ⟨.inr ⟨hB,rfl⟩,hc1.sup.trans (hs3 _)⟩)
     | (rw [if_neg h1] at hB
        obtain ⟨dv,gv,fx,hx,hx0,_,_⟩:=(hpx _ (hs3 (A4Z (A6O (C7 A))))).at
        conv=>whnf
        refine ⟨[6],[],[0,1,2,3,4,5,6,7,8,9,10],by kernel_rfl,?_⟩;conv=>whnf
        refine D9 hx rfl (by omega) hx0 ?_;conv=>whnf
        refine fin _ (hs3 _) _ (fun v hv=>?_)
        subst hv;conv=>whnf
        exact ⟨.inl (by rw [hB];rfl),D7.refl _⟩)
  ·have hi':i<pr.parts.length:=by have:=of_decide_eq_true hd;omega
   have hq:=hsc (pr.parts.getD i default) (B3 hi')
   have hpk:(P2 items p.us pr).getD i default=I8 (pr.parts.getD i default).scope items p.us p.us.length:=E3 (fun x:A1t=>I8 x.scope items p.us p.us.length) pr.parts hi'
   have hls:=A7D items p.us pr hi'
   have hml:=A1Z (pr.parts.getD i default).scope items p.us p.us.length
   conv=>whnf
   refine ⟨rfl,⟨by omega,by omega⟩,?_⟩;conv=>whnf
   refine A7 (C0q bx items p (pr.parts.getD i default).scope hq.1 hq.2 hul hu.few hu.line s t' (h.more hsup)) ?_;conv=>whnf
   refine ROut.app (q:=r29) (hBi _ _ _) rfl rfl rfl rfl rfl (by simp only [hpk];rfl) (by show (i+1) * 24≤140737488355328;omega) hout (fun sv1' t2 hout2=>?_);conv=>whnf
   obtain ⟨s1,hc1,hin⟩:=hout2
   refine ROut.apps (q:=r3) (n:=(Y2 items p.us pr i).length) (m:=(I8 (pr.parts.getD i default).scope items p.us p.us.length).length) B1 rfl rfl rfl rfl (B2X rfl _) (f:=fun k=>eI (gI (Y2 items p.us pr (i+1)) k)) (fun j hj=>?_) (by show ((Y2 items p.us pr i).length+(I8 (pr.parts.getD i default).scope items p.us p.us.length).length) * 8≤140737488355328;omega) (hin.congr fun k hk=>by rw [hls,L8 hk]) (fun sv2' t3 hout3=>?_)
   ·rw [hls]
    show eI (gI (I8 (pr.parts.getD i default).scope items p.us p.us.length) j)=eI (gI _ _)
    rw [C0c]
   conv=>whnf
   refine ⟨rfl,?_⟩;conv=>whnf
   refine ⟨pr.parts.length - (i+1),by omega,i+1,sv1',sv2',by omega,rfl,by rw [B9 (by omega)],s1,hc1,?_⟩
   rw [hls,List.length_append,←hls];exact hout3
def W7 (items:List Ab.Item) (us:List B5) (pr:B4):List B5×Int:=if pr.kind=4 then A0h items us pr else A1s items us pr
def A3J (items:List Ab.Item) (p:PSt) (pr:B4):PSt :=
 if (W7 items p.us pr).2>0 then A0O ⟨(W7 items p.us pr).1,p.deals,p.groups⟩ pr (W7 items p.us pr).2 else p
theorem B7s {items:List Ab.Item} {us:List B5} (hu:A5O items us) {pr:B4} (hfit:P0 pr) (hright:I9 pr=true) (hk:pr.kind≠7):W7 items us pr=([],0)∨Off us (W7 items us pr).1 (W7 items us pr).2:=by
 have hok:=A2I hright
 unfold W7
 split
 ·rename_i h4
  unfold A0h
  split
  ·exact .inl rfl
  ·right
   have hpl:(P2 items us pr).length=pr.parts.length:=List.length_map ..
   exact B3s (hok.bun h4).1 hu.ok hpl fun k hk=>by
    have hm:=B3 (l:=P2 items us pr) hk
    obtain ⟨q,hq,he⟩:=List.mem_map.1 hm
    rw [show (P2 items us pr).getD k []=(P2 items us pr).getD k default from rfl,←he]
    exact A0N _ _ _
 ·rename_i h4
  unfold A1s
  split
  ·exact .inl rfl
  ·right
   split
   ·rename_i h3
    exact B3t (hok.buy h3) hu.ok (A0N _ _ _)
   ·rename_i h3
    exact B4Y (hok.ask hfit (by have:=hok.kind;omega)) hu.ok (A0N _ _ _)
theorem B3p {items:List Ab.Item} {p:PSt} (hu:A5O items p.us) {pr:B4} (hfit:P0 pr) (hright:I9 pr=true) (hk:pr.kind≠7):∃ x,Off p.us (A3J items p pr).us x:=by
 unfold A3J
 split
 ·rename_i h0
  rcases B7s hu hfit hright hk with e | e
  ·rw [e] at h0;exact absurd h0 (by decide)
  ·exact ⟨_,e⟩
 ·exact ⟨0,Off.refl hu.ok⟩
theorem C5H (bx:Nat) (items:List Ab.Item) (p:PSt) (pr:B4) (hfit:P0 pr) (hright:I9 pr=true) (hk:pr.kind≠7) (hu:A5O items p.us) (hd:p.deals.length≤1000) (hg:p.groups.length≤1000) (s t:St) (h:PxR bx items p s t) :
  S P 87 [.optr 4 bx 0 0,C1 pr] t fun v t'=>v=.tuple []∧PxR bx items (A3J items p pr) s t':=by
 have key:∀ K:KK,(∀ v,v=.tuple [D0 (W7 items p.us pr).1,eI (W7 items p.us pr).2]→K v t)→A1C P (if pr.kind=4 then 156 else 155) [.optr 4 bx 0 0,C1 pr] t K:=fun K hK=>by
  unfold W7 at hK
  split
  ·rename_i h4
   rw [if_pos h4] at hK
   exact call (B8n bx items p pr hfit hright h4 hu s t h) (fun v t' hv=>by rw [hv.2];exact hK v hv.1)
  ·rename_i h4
   rw [if_neg h4] at hK
   exact call (C1f bx items p pr hfit hright ⟨h4,hk⟩ hu s t h) (fun v t' hv=>by rw [hv.2];exact hK v hv.1)
 obtain ⟨⟨dv,gv⟩,hbx,y,⟨f,rfl,hf⟩,hRD⟩:=h
 simp only at hf hRD
 have hA:A3J items p pr=if (W7 items p.us pr).2>0 then A0O ⟨(W7 items p.us pr).1,p.deals,p.groups⟩ pr (W7 items p.us pr).2 else p:=rfl
 have h0:PxR bx items p s t:=⟨(dv,gv),hbx,_,⟨f,rfl,hf⟩,hRD⟩
 refine A8 [3] B8 mixed Tryz.func87 (by rfl) rfl rfl rfl ?_;conv=>whnf
 refine C3 (fun h4=>?_) (fun h4=>?_)<;>rw [h4]<;>simp only [beq_iff_eq,beq_eq_false_iff_ne] at h4
 ·rw [if_pos h4] at key;conv=>whnf
  refine key _ (fun v hv=>?_)
  subst hv;conv=>whnf
  refine C3 (fun h5=>?_) (fun h5=>?_)<;>rw [h5]<;>simp only [decide_eq_true_eq,decide_eq_false_iff_not] at h5
  ·rw [if_pos h5] at hA
   rw [hA];conv=>whnf
   refine G6 hRD.at rfl (by omega) hf (by rfl) ?_;conv=>whnf
   refine call (B5D bx items ⟨(W7 items p.us pr).1,p.deals,p.groups⟩ pr _ hd hg s _ (PxR.fin hbx hRD _ (by rw [A2];rfl))) (fun v t' hv=>?_)
   obtain ⟨rfl,h6⟩:=hv
   conv=>whnf
   exact ⟨rfl,h6⟩
  ·rw [if_neg h5] at hA
   rw [hA];conv=>whnf
   exact ⟨rfl,h0⟩
 ·rw [if_neg h4] at key;conv=>whnf
  refine key _ (fun v hv=>?_)
  subst hv;conv=>whnf
  refine C3 (fun h5=>?_) (fun h5=>?_)<;>rw [h5]<;>simp only [decide_eq_true_eq,decide_eq_false_iff_not] at h5
  ·rw [if_pos h5] at hA
   rw [hA];conv=>whnf
   refine G6 hRD.at rfl (by omega) hf (by rfl) ?_;conv=>whnf
   refine call (B5D bx items ⟨(W7 items p.us pr).1,p.deals,p.groups⟩ pr _ hd hg s _ (PxR.fin hbx hRD _ (by rw [A2];rfl))) (fun v t' hv=>?_)
   obtain ⟨rfl,h6⟩:=hv
   conv=>whnf
   exact ⟨rfl,h6⟩
  ·rw [if_neg h5] at hA
   rw [hA];conv=>whnf
   exact ⟨rfl,h0⟩
def A5Z (p:PSt) (pr:B4) (net ship:Int):Int×PSt :=
 if net<pr.least then (ship,p) else (ship - I7 ship pr.rate,if I7 ship pr.rate>0 then A0O p pr (I7 ship pr.rate) else p)
theorem B6a (bx:Nat) (items:List Ab.Item) (p:PSt) (pr:B4) (net ship:Int) (h0:0≤ship) (h1:ship≤10000000000000) (hd:p.deals.length≤1000) (hg:p.groups.length≤1000) (s t:St) (h:PxR bx items p s t) :
  S P 90 [.optr 4 bx 0 0,C1 pr,eI net,eI ship] t fun v t'=>v=eI (A5Z p pr net ship).1∧PxR bx items (A5Z p pr net ship).2 s t':=by
 have hS:A5Z p pr net ship=if net<pr.least then (ship,p) else (ship - I7 ship pr.rate,if I7 ship pr.rate>0 then A0O p pr (I7 ship pr.rate) else p):=rfl
 have hb:=Q7 ship pr.rate
 have w:IntKind.i64.wrap (ship - I7 ship pr.rate)=ship - I7 ship pr.rate:=A9 (by omega) (by omega)
 refine A8 [5] B8 mixed Tryz.func90 (by rfl) rfl rfl rfl ?_;conv=>whnf
 refine C3 (fun h2=>?_) (fun h2=>?_)<;>rw [h2]<;>simp only [decide_eq_true_eq,decide_eq_false_iff_not] at h2
 ·rw [if_pos h2] at hS
  rw [hS];conv=>whnf
  exact ⟨rfl,h⟩
 rw [if_neg h2] at hS
 rw [hS];conv=>whnf
 refine A7 (B5Q ship pr.rate 1 t) ?_;conv=>whnf
 refine C3 (fun h3=>?_) (fun h3=>?_)<;>rw [h3]<;>simp only [decide_eq_true_eq,decide_eq_false_iff_not] at h3
 ·conv=>whnf
  refine call (B5D bx items p pr _ hd hg s t h) (fun v t' hv=>?_)
  obtain ⟨rfl,h4⟩:=hv
  conv=>whnf
  have h3':I7 ship pr.rate>0:=h3
  rw [if_pos h3']
  refine ⟨?_,h4⟩
  show AV.int .i64 (IntKind.i64.wrap (ship - I7 ship pr.rate))=_
  rw [w]
 ·conv=>whnf
  have h3':¬ I7 ship pr.rate>0:=h3
  rw [if_neg h3']
  refine ⟨?_,h⟩
  show AV.int .i64 (IntKind.i64.wrap (ship - I7 ship pr.rate))=_
  rw [w]
def A0m (s:Ab.Ship) (units net:Int):Int:=if units=0∨(s.free>0∧net≥s.free) then 0 else s.fee
theorem C5M (s:Ab.Ship) (units net:Int) (t:St):S P 88 [C3O s,eI units,eI net] t fun v t'=>v=eI (A0m s units net)∧t'=t:=by
 refine A8 [3] B8 mixed Tryz.func88 (by rfl) rfl rfl rfl ?_;conv=>whnf
 refine C3 (fun h1=>?_) (fun h1=>?_)<;>rw [h1]<;>simp only [beq_iff_eq,beq_eq_false_iff_ne] at h1
 ·conv=>whnf
  exact ⟨by unfold A0m;rw [if_pos (.inl h1)];rfl,rfl⟩
 conv=>whnf
 refine C3 (fun h2=>?_) (fun h2=>?_)<;>rw [h2]<;>simp only [decide_eq_true_eq,decide_eq_false_iff_not] at h2
 ·conv=>whnf
  refine C3 (fun h3=>?_) (fun h3=>?_)<;>rw [h3]<;>simp only [decide_eq_true_eq,decide_eq_false_iff_not] at h3
  ·conv=>whnf
   exact ⟨by unfold A0m;rw [if_pos (.inr ⟨h2,h3⟩)];rfl,rfl⟩
  ·conv=>whnf
   exact ⟨by unfold A0m;rw [if_neg (by rintro (e | ⟨_,e⟩)<;>contradiction)];rfl,rfl⟩
 ·conv=>whnf
  exact ⟨by unfold A0m;rw [if_neg (by rintro (e | ⟨e,_⟩)<;>contradiction)];rfl,rfl⟩
theorem B3G (pr:B4) (t:St):S P 84 [C1 pr] t fun v t'=>v=.bool (pr.kind==7)∧t'=t:=by
 refine A8 [1] B8 mixed Tryz.func84 (by rfl) rfl rfl rfl ?_;conv=>whnf
 exact ⟨rfl,rfl⟩
theorem C0v (pr:B4) (t:St):S P 86 [C1 pr,.fptr (.fn (.func 84) [] []) 0] t fun v t'=>v=.bool (!(pr.kind==7))∧t'=t:=by
 refine A8 [2] B8 mixed Tryz.func86 (by rfl) rfl rfl rfl ?_;conv=>whnf
 refine A7 (B3G pr t) ?_;conv=>whnf
 exact ⟨rfl,rfl⟩
theorem B4j {R R':St→St→Prop} (hR:J5 R) (hm:∀ s t t',R s t→D7 t t'→R s t') (hR':J5 R') {f:FuncId} {args:List AV} {w:AV} {s t0 t:St} {q:Nat} {fl:Bool} {es:List QE} (h:R s t0) (hq:QSt t0 q fl es t)
  (hS:∀ u,R u t→S P f args t fun v t'=>v=w∧R' u t'):S P f args t fun v t'=>v=w∧∃ t0',R' s t0'∧QSt t0' q fl es t':=by
 obtain ⟨bo,hF,hn⟩:=hq.foot
 obtain ⟨y1,hy1⟩:=hF.some (.inl rfl)
 have hq0:=hn q (.inl rfl)
 have hsq:s q=none:=(hR.sup h).none hq0
 cases bo with
 | none =>
  have h1:R (upd s q y1) t:=hm _ _ _ (hR.begin (y:=y1) h hq0) (fun c x hc=>by
   by_cases e:c=q
   ·subst e;rw [A0] at hc;rw [hy1];exact hc
   ·rw [A4 e] at hc;exact hq.sup c x hc)
  refine (hS _ h1).mono fun v t' hv=>⟨hv.1,del t' q,hR'.forget hv.2 hsq,?_⟩
  have hF':QF q none fl es t':=hF.frame fun c hc=>by
   rcases hc with rfl | hc
   ·rw [hR'.sup hv.2 c y1 (A0 ..),hy1]
   ·cases hc
  exact hF'.qst (fun c x hc=>by
   by_cases e:c=q
   ·subst e;rw [A3h] at hc;cases hc
   ·rw [A1F e] at hc;exact hc) (fun c hc=>by
    rcases hc with rfl | hc
    ·exact A3h ..
    ·cases hc)
 | some b =>
  obtain ⟨y2,hy2⟩:=hF.some (c:=b) (.inr rfl)
  have hb0:=hn b (.inr rfl)
  have hqb:q≠b:=by
   obtain ⟨sv,_,h3⟩:=hF.has
   rcases h3 with ⟨_,_,e⟩ | ⟨b',l,n,e,hne,_⟩
   ·cases e
   ·cases e;exact hne
  have hsb:s b=none:=(hR.sup h).none hb0
  have h1:R (upd (upd s b y2) q y1) t:=hm _ _ _ (hR.begin (y:=y1) (hR.begin (y:=y2) h hb0) (by rw [A4 hqb];exact hq0)) (fun c x hc=>by
   by_cases e:c=q
   ·subst e;rw [A0] at hc;rw [hy1];exact hc
   ·rw [A4 e] at hc
    by_cases e2:c=b
    ·subst e2;rw [A0] at hc;rw [hy2];exact hc
    ·rw [A4 e2] at hc;exact hq.sup c x hc)
  refine (hS _ h1).mono fun v t' hv=>⟨hv.1,del (del t' q) b,hR'.forget (hR'.forget hv.2 (by rw [A4 hqb];exact hsq)) hsb,?_⟩
  have hs':=hR'.sup hv.2
  have hF':QF q (some b) fl es t':=hF.frame fun c hc=>by
   rcases hc with rfl | hc
   ·rw [hs' c y1 (A0 ..),hy1]
   ·cases hc
    rw [hs' b y2 (by rw [A4 hqb.symm,A0]),hy2]
  exact hF'.qst (fun c x hc=>by
   by_cases e:c=b
   ·subst e;rw [A3h] at hc;cases hc
   ·rw [A1F e] at hc
    by_cases e2:c=q
    ·subst e2;rw [A3h] at hc;cases hc
    ·rw [A1F e2] at hc;exact hc) (fun c hc=>by
    rcases hc with rfl | hc
    ·rw [A1F hqb];exact A3h ..
    ·cases hc;exact A3h ..)
theorem B2Z (l:List D6) (hl:l.length≤100000) (v:D6) (st:St) (b:Nat) (f:Nat→AV) (hb:st b=some ⟨9,1,l.length,f⟩) (hf:∀ k,k<l.length→f k=A5T l k) :
  S P 242 [.own 1 b 0 l.length,eS v] st fun r st'=>r=eI (idx (fun y:D6=>v.toList==y.toList) l)∧st'=st:=by
 refine A8 [] B8 mixed Tryz.func242 (by rfl) rfl rfl rfl ?_;conv=>whnf
 refine ⟨[0,1,7,8],fun m vs st'=>∃ i:Nat,i≤l.length∧(∀ k,k<i→(v.toList==(l.getD k default).toList)=false)∧m=l.length - i∧vs=[.own 1 b 0 l.length,eS v,eI l.length,eI i]∧st'=st,?_,?_⟩
 ·conv=>whnf
  exact ⟨_,0,Nat.zero_le _,fun k hk=>absurd hk (by omega),rfl,rfl,rfl⟩
 ·rintro m vs st' ⟨i,hi,hok,rfl,rfl,rfl⟩
  conv=>whnf
  cases h:decide ((i:Int)<(l.length:Int))
  ·have:=of_decide_eq_false h
   conv=>whnf
   refine ⟨?_,rfl⟩
   rw [R7 (p:=fun y:D6=>v.toList==y.toList) fun k hk=>hok k (by omega)];rfl
  ·have hi':i<l.length:=by have:=of_decide_eq_true h;omega
   conv=>whnf
   refine ⟨rfl,⟨by omega,by omega⟩,?_⟩;conv=>whnf
   refine D9 hb rfl (by omega) (v:=eS (l.getD i default)) (by rw [show 0+(i:Int).toNat=i by omega];exact hf i hi') ?_;conv=>whnf
   cases hp:(v.toList==(l.getD i default).toList)
   ·conv=>whnf
    refine ⟨rfl,?_⟩;conv=>whnf
    refine ⟨l.length - (i+1),by omega,i+1,by omega,fun k hk=>?_,rfl,by rw [B9 (by omega)],rfl⟩
    rcases Nat.lt_succ_iff_lt_or_eq.1 hk with h' | h'
    ·exact hok k h'
    ·rw [h'];exact hp
   ·conv=>whnf
    refine ⟨?_,rfl⟩
    rw [A1g (p:=fun y:D6=>v.toList==y.toList) hi' hok hp];rfl
theorem B8R (l:List D6) (hl:l.length≤100000) (v:D6) (st:St) (b:Nat) (f:Nat→AV) (hb:st b=some ⟨9,1,l.length,f⟩) (hf:∀ k,k<l.length→f k=A5T l k) :
  S P 154 [.own 1 b 0 l.length,eS v] st fun r st'=>r=.bool (inB l v)∧st'=st:=by
 refine A8 [] B8 mixed Tryz.func154 (by rfl) rfl rfl rfl ?_;conv=>whnf
 refine A7 (B2Z l hl v st b f hb hf) ?_;conv=>whnf
 refine ⟨?_,rfl⟩
 unfold inB
 rw [←A1r];rfl
theorem B2Y (v:D6) (st:St):S P 242 [.emp,eS v] st fun r st'=>r=eI (-1)∧st'=st:=by
 refine A8 [] B8 mixed Tryz.func242 (by rfl) rfl rfl rfl ?_;conv=>whnf
 refine A4P [0,1,7,8] ?_;conv=>whnf
 intro I;conv=>whnf
 exact ⟨rfl,rfl⟩
theorem B8Q (v:D6) (st:St):S P 154 [.emp,eS v] st fun r st'=>r=.bool false∧st'=st:=by
 refine A8 [] B8 mixed Tryz.func154 (by rfl) rfl rfl rfl ?_;conv=>whnf
 refine A7 (B2Y v st) ?_;conv=>whnf
 exact ⟨rfl,rfl⟩
theorem PxR.groups {bx:Nat} {items:List Ab.Item} {p:PSt} {s t:St} (h:PxR bx items p s t) (hg:p.groups.length≤1000):∃ dv gv f,t bx=some ⟨153,4,1,f⟩∧f 0=.agg [B2 4 F1 items,D0 p.us,dv,gv]∧(gv=.emp∨∃ b,gv=.own 1 b 0 p.groups.length) ∧
  ∀ (g:D6),S P 154 [gv,eS g] t fun r t'=>r=.bool (inB p.groups g)∧t'=t:=by
 obtain ⟨⟨dv,gv⟩,h⟩:=h
 obtain ⟨y,⟨f,rfl,hf⟩,hy⟩:=U4.at (A2A _ _ _ _) h
 obtain ⟨_,_,_,hd⟩:=h
 obtain ⟨s0,hc,hg0⟩:=hd
 refine ⟨dv,gv,f,hy,hf,hg0.head,fun g=>?_⟩
 obtain ⟨s1,hc1,hs1⟩:=hg0
 rcases hc1 with ⟨h0,h1,rfl⟩ | ⟨h0,b,g0,hb,h1,rfl,hgg⟩
 ·have:p.groups=[]:=List.eq_nil_of_length_eq_zero h0
  subst h1
  rw [this]
  exact B8Q g t
 ·subst h1
  exact B8R p.groups (by omega) g t b g0 (hs1 b _ (A0 ..)) hgg
def goB {σ : Type} (px : σ→PSt) (step : σ→B4→σ) (a : σ) (pr:B4) : σ:=if L4 pr.group||!inB (px a).groups pr.group then step a pr else a
def V0 {σ : Type} (px : σ→PSt) (step : σ→B4→σ) (sm:B4→Bool) (l:List B4) (a : σ) (o:List Int) : σ:=(o.filter fun x=>sm (F6 l x)).foldl (fun a x=>goB px step a (F6 l x)) a
def A1J (sm:B4→Bool) (l:List B4) (o:List Int) (i:Nat):List QE:=((List.range i).filter fun k=>sm (F6 l (gI o k))).map fun (k:Nat)=>(-(k:Int),gI o k)
theorem A8s (sm:B4→Bool) (l:List B4) (o:List Int) (i:Nat):A1J sm l o (i+1)=A1J sm l o i++(if sm (F6 l (gI o i))=true then [(-(i:Int),gI o i)] else []):=by
 unfold A1J
 rw [List.range_succ,List.filter_append,List.map_append]
 congr 1
 by_cases h:sm (F6 l (gI o i))=true
 ·rw [if_pos h,List.filter_cons_of_pos (p:=fun k=>sm (F6 l (gI o k))) h];rfl
 ·rw [if_neg h,List.filter_cons_of_neg (p:=fun k=>sm (F6 l (gI o k))) h];rfl
theorem B5K (sm:B4→Bool) (l:List B4) (o:List Int) (i:Nat):(A1J sm l o i).length≤i:=by
 unfold A1J
 rw [List.length_map]
 exact Nat.le_trans (List.length_filter_le ..) (by simp)
theorem A9Z (sm:B4→Bool) (l:List B4) (o:List Int):∀ i,i≤o.length→(A1J sm l o i).map (·.2)=(o.take i).filter fun x=>sm (F6 l x)
 | 0,_=>by simp [A1J]
 | i+1,h=>by
  rw [A8s,List.map_append,A9Z sm l o i (by omega),I6 (show i<o.length by omega),List.filter_append]
  congr 1
  show List.map (fun x=>x.2) (if sm (F6 l (gI o i))=true then [(-(i:Int),gI o i)] else [])=List.filter (fun x=>sm (F6 l x)) [gI o i]
  by_cases hs:sm (F6 l (gI o i))=true
  ·rw [if_pos hs,List.filter_cons_of_pos (p:=fun x=>sm (F6 l x)) hs];rfl
  ·rw [if_neg hs,List.filter_cons_of_neg (p:=fun x=>sm (F6 l x)) hs];rfl
theorem B0U (sm:B4→Bool) (l:List B4) (o:List Int) (i:Nat):(A1J sm l o i).Pairwise fun a b=>G7 b a=false:=by
 unfold A1J
 refine List.Pairwise.map _ (fun a b h=>?_) ((List.pairwise_lt_range (n:=i)).filter _)
 rw [P8]
 show ¬(-(b:Int) > -(a:Int)∨(-(b:Int) = -(a:Int)∧_))
 omega
theorem B4p {l:List B4} {codes:List D6} {o:List Int} (ho:A7z l codes o) {x:Int} (hx:x∈N9 l o):0≤x∧x.toNat<l.length:=by
 obtain ⟨e,he,rfl⟩:=List.mem_map.1 hx
 have h:=A3Y he
 exact Y9 (ho.1.subset (B3 h.2))
theorem B6Z {σ : Type} (bx:Nat) (items:List Ab.Item) (R : σ→St→St→Prop) (px : σ→PSt) (hR:∀ a,J5 (R a)) (hmore:∀ a s t t',R a s t→D7 t t'→R a s t') (hP:∀ a s t,R a s t→∃ s',PxR bx items (px a) s' t)
  (l:List B4) (codes:List D6) (hl:l.length≤60) (hc:codes.length≤9223372036854775807) (h20:(places l codes l.length).length≤20)
  (g:FuncId) (cs:List AV) (sm:B4→Bool) (hsome:∀ (pr:B4) (t:St),S P g (C1 pr::cs) t fun v t'=>v=.bool (sm pr)∧t'=t)
  (f:FuncId) (fs ds:List AV) (step : σ→B4→σ) (Inv : σ→Nat→Prop) (hgr:∀ a n,Inv a n→(px a).groups.length≤1000) (hle:∀ a n,Inv a (n+1)→Inv a n)
  (hdo:∀ (a : σ) (n:Nat) (pr:B4) (s t:St),pr∈l→sm pr=true→Inv a (n+1)→R a s t→S P f (fs++[C1 pr]++ds) t fun v t'=>v=.tuple []∧R (step a pr) s t')
  (hinv:∀ (a : σ) (n:Nat) (pr:B4),pr∈l→sm pr=true→Inv a (n+1)→Inv (step a pr) n) (a0 : σ) (hI:Inv a0 60) (s t:St) (h:R a0 s t) :
  S P 85 [.optr 4 bx 0 0,B2 15 C1 l,D3 codes,.fn (.func g) [] cs,.fn (.func f) fs ds] t fun v t'=>v=.tuple []∧∃ o,A7z l codes o∧R (V0 px step sm l a0 (N9 l o)) s t':=by
 refine A8 [] B8 mixed Tryz.func85 (by rfl) rfl rfl rfl ?_;conv=>whnf
 refine call (B0a t) (fun v t1 hv=>?_)
 obtain ⟨q,rfl,hq⟩:=hv
 conv=>whnf
 refine call (C2X l codes hl hc h20 t1) (fun v t2 hv=>?_)
 obtain ⟨⟨o,ho,rfl⟩,rfl⟩:=hv
 have hmem:=fun {x:Int} (hx:x∈N9 l o)=>B4p ho hx
 have hrl:(N9 l o).length≤60:=by
  rw [List.length_map,A3X,ho.1.length_eq]
  have:=X5 l codes l.length;omega
 obtain ⟨r,hr⟩:∃ r:List Int,r=N9 l o:=⟨_,rfl⟩
 rw [←hr] at hrl
 have hmem':∀ x∈r,0≤x∧x.toNat<l.length:=fun x hx=>hmem (by rw [←hr];exact hx)
 have hInvle:∀ (a : σ) (n m:Nat),m≤n→Inv a n→Inv a m:=fun a n m hmn h=>by
  induction n with
  | zero=>have:m=0:=by omega
          subst this;exact h
  | succ n ih =>
   rcases Nat.lt_or_ge n m with h1 | h1
   ·have:m=n+1:=by omega
    subst this;exact h
   ·exact ih h1 (hle a n h)
 have hfin:∀ t',R (V0 px step sm l a0 r) s t'→∃ o,A7z l codes o∧R (V0 px step sm l a0 (N9 l o)) s t':=fun t' h=>⟨o,ho,by rw [←hr];exact h⟩
 have hv:A6 (N9 l o)=A6 r:=by rw [hr]
 rw [hv]
 clear hv
 conv=>whnf
 refine ⟨[0,1,3,4,10,19,20,21],fun m vs t'=>∃ i:Nat,i≤r.length∧m=r.length - i∧vs=[.optr 4 bx 0 0,B2 15 C1 l,.fn (.func g) [] cs,.fn (.func f) fs ds,.optr 1 q 0 0,A6 r,eI r.length,eI i]∧QSt t q true (A1J sm l r i) t',?_,?_⟩
 ·conv=>whnf
  exact ⟨_,0,Nat.zero_le _,rfl,rfl,hq⟩
 ·clear hq
  rintro m vs t' ⟨i,hi,rfl,rfl,hq⟩
  have hpl:=B5K sm l r i
  conv=>whnf
  cases hd:decide ((i:Int)<(r.length:Int))
  ·have:=of_decide_eq_false hd
   obtain rfl:i=r.length:=by omega
   have hsnd:=A9Z sm l r r.length (Nat.le_refl _)
   rw [List.take_length] at hsnd;conv=>whnf
   refine ⟨[0,1,4,10],fun m vs t'=>∃ (a : σ) (rest:List QE) (fl:Bool) (t0:St),m=rest.length∧vs=[.optr 4 bx 0 0,B2 15 C1 l,.fn (.func f) fs ds,.optr 1 q 0 0]∧(rest.map (·.2)).foldl (fun a x=>goB px step a (F6 l x)) a=V0 px step sm l a0 r∧(∀ e∈rest,(0≤e.2∧e.2.toNat<l.length)∧sm (F6 l e.2)=true)∧(rest.Pairwise fun a b=>G7 b a=false)∧Inv a rest.length∧R a s t0∧QSt t0 q fl rest t',?_,?_⟩
   ·conv=>whnf
    refine ⟨_,a0,A1J sm l r r.length,true,t,rfl,rfl,by rw [hsnd];rfl,fun e he=>?_,B0U sm l r r.length,hInvle a0 60 _ (by omega) hI,h,hq⟩
    have:e.2∈(A1J sm l r r.length).map (·.2):=List.mem_map_of_mem he
    rw [hsnd] at this
    obtain ⟨h1,h2⟩:=List.mem_filter.1 this
    exact ⟨hmem' _ h1,h2⟩
   ·clear hq
    rintro m vs t' ⟨a,rest,fl,t0,rfl,rfl,hF,hrm,hsort,hIa,hRa,hq⟩
    conv=>whnf
    refine A7 (A7Y _ _ _ _ _ hq) ?_;conv=>whnf
    cases rest with
    | nil =>
     conv=>whnf
     refine ⟨rfl,hfin t' ?_⟩
     rw [←hF]
     exact hmore _ _ _ _ hRa hq.sup
    | cons x rest =>
     rw [List.pairwise_cons] at hsort
     have hx:=hrm x (List.mem_cons_self ..)
     have hlen0:decide (((x::rest).length:Int)>0)=true:=decide_eq_true (by rw [List.length_cons];omega)
     rw [hlen0];conv=>whnf
     refine call (A7Z _ _ _ _ _ _ hq hsort.1) (fun v t2 hv=>?_)
     obtain ⟨rfl,hq2⟩:=hv
     have hpr:F6 l x.2∈l:=B3 hx.1.2
     have hgl:=hgr a _ hIa
     obtain ⟨s',hpx⟩:=hP a s t2 (hmore _ _ _ _ hRa hq2.sup)
     obtain ⟨dv,gv,fx,hbx,hfx,hgv,hcont⟩:=hpx.groups hgl
     conv=>whnf
     -- what is behind the round
     have hgo:goB px step a (F6 l x.2)=if L4 (F6 l x.2).group||!inB (px a).groups (F6 l x.2).group then step a (F6 l x.2) else a:=rfl
     have hF2:(rest.map (·.2)).foldl (fun a x=>goB px step a (F6 l x)) (goB px step a (F6 l x.2))=V0 px step sm l a0 r:=by rw [←hF];rfl
     have round:∀ (b : σ) (t3:St),b=goB px step a (F6 l x.2)→Inv b rest.length→(∃ t0',R b s t0'∧QSt t0' q false rest t3)→∃ m',m'<rest.length+1∧∃ (a : σ) (rest_1:List QE) (fl:Bool) (t0:St),m'=rest_1.length∧[AV.optr 4 bx 0 0,B2 15 C1 l,.fn (.func f) fs ds,.optr 1 q 0 0]=[AV.optr 4 bx 0 0,B2 15 C1 l,.fn (.func f) fs ds,.optr 1 q 0 0]∧(rest_1.map (·.2)).foldl (fun a x=>goB px step a (F6 l x)) a=V0 px step sm l a0 r∧(∀ e∈rest_1,(0≤e.2∧e.2.toNat<l.length)∧sm (F6 l e.2)=true)∧(rest_1.Pairwise fun a b=>G7 b a=false)∧Inv a rest_1.length∧R a s t0∧QSt t0 q fl rest_1 t3 :=
      fun b t3 hb hib ⟨t0',h1,h2⟩=>⟨rest.length,Nat.lt_succ_self _,b,rest,false,t0',rfl,rfl,by rw [hb];exact hF2,fun e he=>hrm e (List.mem_cons_of_mem _ he),hsort.2,hib,h1,h2⟩
     -- the call itself
     have doit:∀ K:KK,(∀ t3,(∃ t0',R (step a (F6 l x.2)) s t0'∧QSt t0' q false rest t3)→K (.tuple []) t3)→A1C P f (fs++[C1 (F6 l x.2)]++ds) t2 K:=fun K hK=>by
      refine call (B4j (hR a) (hmore a) (hR _) hRa hq2 (fun u hu=>hdo a rest.length (F6 l x.2) u t2 hpr hx.2 (by simpa using hIa) hu)) (fun v t3 hv=>?_)
      rw [hv.1];exact hK t3 hv.2
     refine ⟨[],[],[0,1,2,3,4,5,6,7,8,9,10,11,12,13,14,15,16,17,18],by kernel_rfl,?_⟩;conv=>whnf
     refine ⟨rfl,⟨by omega,by omega⟩,?_⟩;conv=>whnf
     have hnil:(ByteArray.toList (l.getD x.2.toNat default).group==ByteArray.toList ⟨#[]⟩)=L4 (F6 l x.2).group:=rfl
     have hyes:(L4 (F6 l x.2).group||!inB (px a).groups (F6 l x.2).group)=true→∀ K:KK,(∀ t3,(∃ (b : σ),b=goB px step a (F6 l x.2)∧Inv b rest.length∧∃ t0',R b s t0'∧QSt t0' q false rest t3)→K (.tuple []) t3)→A1C P f (fs++[C1 (F6 l x.2)]++ds) t2 K:=fun hy K hK =>
      doit K fun t3 h3=>hK t3 ⟨_,by rw [hgo,if_pos hy],hinv a _ _ hpr hx.2 (by simpa using hIa),h3⟩
     rw [hnil]
     cases hg:L4 (F6 l x.2).group with
     | true =>
      conv=>whnf
      refine ⟨rfl,⟨by omega,by omega⟩,?_⟩;conv=>whnf
      rw [A3I,A3I]
      refine hyes (by rw [hg];rfl) _ (fun t3 h3=>?_);conv=>whnf
      refine ⟨rfl,?_⟩;conv=>whnf
      obtain ⟨b,h4,h5,h6⟩:=h3
      exact round b t3 h4 h5 h6
     | false =>
      rcases hgv with rfl | ⟨bg,rfl⟩
      all_goals
       conv=>whnf
       refine D9 hbx rfl (by omega) hfx ?_;conv=>whnf
       refine ⟨rfl,⟨by omega,by omega⟩,?_⟩;conv=>whnf
       refine ⟨_,D1 (hcont (F6 l x.2).group),?_⟩;conv=>whnf
       cases hi:inB (px a).groups (F6 l x.2).group with
       | false =>
        conv=>whnf
        refine ⟨rfl,⟨by omega,by omega⟩,?_⟩;conv=>whnf
        rw [A3I,A3I]
        refine hyes (by rw [hi];simp) _ (fun t3 h3=>?_);conv=>whnf
        refine ⟨rfl,?_⟩;conv=>whnf
        obtain ⟨b,h4,h5,h6⟩:=h3
        exact round b t3 h4 h5 h6
       | true =>
        conv=>whnf
        refine ⟨rfl,?_⟩;conv=>whnf
        refine round a t2 (by rw [hgo,if_neg (by rw [hg,hi];simp)]) (hle a _ (by simpa using hIa)) ⟨t0,hRa,hq2⟩
  ·have hi':i<r.length:=by have:=of_decide_eq_true hd;omega
   have hm:=hmem' _ (B3 hi')
   have es:=A8s sm l r i
   conv=>whnf
   refine ⟨rfl,⟨by omega,by omega⟩,?_⟩;conv=>whnf
   refine ⟨rfl,⟨by show 0≤gI r i;exact hm.1,by show gI r i<(l.length:Int);have h1:=hm.1;have h2:=hm.2;show gI r i<_;have:(gI r i).toNat<l.length:=h2;have:0≤gI r i:=h1;omega⟩,?_⟩;conv=>whnf
   refine A7 (hsome (F6 l (gI r i)) t') ?_;conv=>whnf
   refine C3 (fun h3=>?_) (fun h3=>?_)<;>rw [h3]
   ·rw [if_pos h3] at es
    have w:IntKind.i64.wrap (0 - (i:Int)) = -(i:Int):=by rw [show 0 - (i:Int) = -(i:Int) by omega];exact A9 (by omega) (by omega)
    conv=>whnf
    rw [w]
    refine call (A7i t q _ (-(i:Int)) (gI r i) _ hq (by omega)) (fun v t2 hv=>?_)
    obtain ⟨rfl,hq'⟩:=hv
    conv=>whnf
    refine ⟨rfl,?_⟩;conv=>whnf
    exact ⟨r.length - (i+1),by omega,i+1,by omega,rfl,by rw [B9 (by omega)],by rw [es];exact hq'⟩
   ·have h3':¬ sm (F6 l (gI r i))=true:=by rw [h3];simp
    rw [if_neg h3',List.append_nil] at es;conv=>whnf
    refine ⟨rfl,?_⟩;conv=>whnf
    exact ⟨r.length - (i+1),by omega,i+1,by omega,rfl,by rw [B9 (by omega)],by rw [es];exact hq⟩
def E7 (r:I4) (codes:List D6) (l:List G4):Int :=
 if Z8 r=false then 10 else if A0J codes=false then 2 else N3 (known r.items) l
theorem C0D (r:I4) (codes:List D6) (l:List G4) (hf:A0G r) (hc:codes.length≤Big) (hi:r.items.length≤4611686018427387904) (st:St) :
  S P 81 [H6 r,D3 codes,B2 3 H2 l] st fun v st'=>v=eI (E7 r codes l)∧st'=st:=by
 refine A8 [3] B8 mixed Tryz.func81 (by rfl) rfl rfl rfl ?_;conv=>whnf
 refine A7 (C3n r hf st) ?_;conv=>whnf
 have hP:E7 r codes l=if Z8 r=false then 10 else if A0J codes=false then 2 else N3 (known r.items) l:=rfl
 cases h1:Z8 r
 ·rw [if_pos h1] at hP;conv=>whnf
  exact ⟨by rw [hP];rfl,rfl⟩
 ·rw [if_neg (by rw [h1];simp)] at hP;conv=>whnf
  refine A7 (C2l codes hc st) ?_;conv=>whnf
  cases h2:A0J codes
  ·rw [if_pos h2] at hP;conv=>whnf
   exact ⟨by rw [hP];rfl,rfl⟩
  ·rw [if_neg (by rw [h2];simp)] at hP;conv=>whnf
   refine A7 (C1W r.items l hi st) ?_;conv=>whnf
   exact ⟨by rw [hP];rfl,rfl⟩
abbrev S9 (l:List G4):List B5:=G5 l l.length
structure A6D (items:List Ab.Item) (l:List G4):Prop where
 len:l.length≤1000
 line:∀ x∈l,lineC x=true
 known:∀ x∈l,known items x.sku=true
 units:K7 l≤100000
 gross:J6 l≤10000000000000
theorem C2P {items:List Ab.Item} {l:List G4} (h:N3 (known items) l=0):A6D items l:=by
 unfold N3 at h
 split at h
 ·cases h
 ·rename_i hl
  split at h
  ·rename_i x hx
   split at h<;>cases h
  ·rename_i hf
   have hall:∀ x∈l,J0 (Go.Proofs.YthdimklenlikgaaGreat.known items) x=false:=fun x hx=>Bool.eq_false_iff.2 (List.find?_eq_none.1 hf x hx)
   have hb:∀ x∈l,Go.Proofs.YthdimklenlikgaaGreat.known items x.sku=true∧lineC x=true:=fun x hx=>by
    have:=hall x hx
    unfold J0 at this
    simpa using this
   split at h
   ·cases h
   ·rename_i hg
    simp only [Bool.or_eq_true,decide_eq_true_eq,not_or] at hg
    exact ⟨by omega,fun x hx=>(hb x hx).2,fun x hx=>(hb x hx).1,by omega,by omega⟩
theorem A6D.may {items:List Ab.Item} {l:List G4} (h:A6D items l):(N3 (fun _=>true) l==0)=true:=by
 have:N3 (fun _=>true) l=0:=by
  unfold N3
  rw [if_neg (by have:=h.len;omega)]
  have hf:l.find? (J0 fun _=>true)=none:=List.find?_eq_none.2 fun x hx=>by
   unfold J0;rw [h.line x hx];simp
  rw [hf]
  simp only
  rw [if_neg]
  have:=h.units
  have:=h.gross
  simp only [Bool.or_eq_true,decide_eq_true_eq,not_or]
  omega
 rw [this];rfl
theorem A1B (l:List G4) (hl:∀ x∈l,lineC x=true):∀ k,k≤l.length→((G5 l k).length:Int)=K7 (l.take k)∧A5 (E1 (G5 l k))=J6 (l.take k)∧(∀ u∈G5 l k,0≤u.net∧0≤u.line∧u.line.toNat<k∧u.opn=true)
 | 0,_=>⟨rfl,rfl,fun u hu=>by simp [G5] at hu⟩
 | k+1,h=>by
  obtain ⟨h1,h2,h3⟩:=A1B l hl k (by omega)
  have hx:=(Y5 _).1 (hl _ (B3 (show k<l.length by omega)))
  have eN:K7 (l.take (k+1))=K7 (l.take k)+(l.getD k default).qty:=P6 (by omega) _ _
  have eG:J6 (l.take (k+1))=J6 (l.take k)+(l.getD k default).qty * (l.getD k default).price:=P6 (by omega) _ _
  have hup:G5 l (k+1)=G5 l k++List.replicate (l.getD k default).qty.toNat (lnU l k):=rfl
  have hsr:∀ (n:Nat) (c:Int),A5 (List.replicate n c)=n * c:=fun n c=>by
   induction n with
   | zero=>simp [A5]
   | succ n ih=>rw [List.replicate_succ,K1,ih,show ((n+1:Nat):Int)=(n:Int)+1 by omega,Int.add_mul,Int.one_mul];omega
  refine ⟨?_,?_,fun u hu=>?_⟩
  ·rw [hup,List.length_append,List.length_replicate,eN,←h1];omega
  ·unfold E1 at h2 ⊢
   rw [hup,List.map_append,G1,h2,List.map_replicate,hsr,eG]
   show _+((l.getD k default).qty.toNat:Int) * (l.getD k default).price=_
   rw [Int.toNat_of_nonneg hx.1.1]
  ·rw [hup] at hu
   rcases List.mem_append.1 hu with hu | hu
   ·have:=h3 u hu;exact ⟨this.1,this.2.1,by omega,this.2.2.2⟩
   ·rw [List.eq_of_mem_replicate hu]
    refine ⟨hx.2.1,?_,?_,rfl⟩
    ·show (0:Int)≤(k:Int);omega
    ·show ((k:Int)).toNat<k+1;omega
theorem B3d {items:List Ab.Item} {l:List G4} (h:A6D items l):A5O (C2 items l) (S9 l):=by
 obtain ⟨h1,h2,h3⟩:=A1B l h.line l.length (Nat.le_refl _)
 rw [List.take_length] at h1 h2
 have hN:=h.units
 have hG:=h.gross
 have hlen:(C2 items l).length=l.length:=List.length_map ..
 exact ⟨⟨by show (G5 l l.length).length≤100000;omega,fun u hu=>(h3 u hu).1,by show A5 (E1 (G5 l l.length))≤_;omega⟩,by rw [hlen];have:=h.len;omega,fun u hu=>⟨(h3 u hu).2.1,by rw [hlen];exact (h3 u hu).2.2.1⟩⟩
def C8S (bn n:Nat) (net ship:Int) (y:R3):Prop:=∃ f,y=⟨44,4,1,f⟩∧f 0=.agg [.own 1 bn 0 n,eI net,eI ship,.emp]
def R2 (bx bp bn n:Nat) (items:List Ab.Item) (net:Int) (a:PSt×Int):St→St→Prop:=U4 bp (C8S bn n net a.2) (PxR bx items a.1)
theorem B9E (bx bp bn n:Nat) (items:List Ab.Item) (net:Int) (a:PSt×Int):J5 (R2 bx bp bn n items net a):=Y3 (A3L _ _ _)
theorem R2.more {bx bp bn n:Nat} {items:List Ab.Item} {net:Int} {a:PSt×Int} {s t t':St} (h:R2 bx bp bn n items net a s t) (hs:D7 t t'):R2 bx bp bn n items net a s t':=by
 obtain ⟨h1,y,h2,h3⟩:=h
 exact ⟨h1,y,h2,h3.more hs⟩
def S3 (net:Int) (a:PSt×Int) (pr:B4):PSt×Int:=((A5Z a.1 pr net a.2).2,(A5Z a.1 pr net a.2).1)
theorem B0o (bx bp bn n:Nat) (items:List Ab.Item) (net:Int) (a:PSt×Int) (pr:B4) (h0:0≤a.2) (h1:a.2≤10000000000000) (hd:a.1.deals.length≤1000) (hg:a.1.groups.length≤1000) (s t:St) (h:R2 bx bp bn n items net a s t) :
  S P 89 [C1 pr,.fptr (.optr 4 bx 0 0) 0,.optr 4 bp 0 0] t fun v t'=>v=.tuple []∧R2 bx bp bn n items net (S3 net a pr) s t':=by
 obtain ⟨hbp,y,⟨f,rfl,hf⟩,hP⟩:=h
 have hat:t bp=some ⟨44,4,1,f⟩:=(A3L _ _ _).sup hP bp _ (A0 ..)
 refine A8 [3] B8 mixed Tryz.func89 (by rfl) rfl rfl rfl ?_;conv=>whnf
 refine D9 hat rfl (by omega) hf ?_;conv=>whnf
 refine D9 hat rfl (by omega) hf ?_;conv=>whnf
 refine call (B6a bx items a.1 pr net a.2 h0 h1 hd hg _ t hP) (fun v t2 hv=>?_)
 obtain ⟨rfl,hP2⟩:=hv
 have hat2:t2 bp=some ⟨44,4,1,f⟩:=(A3L _ _ _).sup hP2 bp _ (A0 ..)
 conv=>whnf
 refine G6 hat2 rfl (by omega) hf (by rfl) ?_;conv=>whnf
 refine ⟨rfl,?_⟩
 exact U4.set (A3L _ _ _) (Q:=fun y=>y=⟨44,4,1,f⟩) ⟨hbp,_,rfl,hP2⟩ ⟨_,rfl,by rw [A2];rfl⟩
def G2 (us:List B5) (j:Nat):Int:=A5 ((us.filter fun u=>u.line.toNat==j).map B5.net)
def T3 (n:Nat) (us:List B5):List Int:=(List.range n).map (G2 us)
theorem U7 {us:List B5} {k:Nat} (hk:k<us.length) (j:Nat):G2 (us.take (k+1)) j=if (gU us k).line.toNat=j then G2 (us.take k) j+(gU us k).net else G2 (us.take k) j:=by
 unfold G2
 rw [I6 hk,List.filter_append,List.map_append,G1]
 by_cases h:(gU us k).line.toNat=j
 ·rw [if_pos h,List.filter_cons_of_pos (by show ((gU us k).line.toNat==j)=true;rw [h];simp)]
  simp [A5]
 ·rw [if_neg h,List.filter_cons_of_neg (by show ¬((gU us k).line.toNat==j)=true;simpa using h)]
  simp [A5]
theorem A0d {us:List B5} (h:E9 us) (k j:Nat):0≤G2 (us.take k) j∧G2 (us.take k) j≤A5 (E1 us):=by
 have hsub:((us.take k).filter fun u=>u.line.toNat==j).Sublist us:=List.filter_sublist.trans (List.take_sublist _ _)
 have hgen:∀ {a b:List B5},a.Sublist b→(∀ u∈b,0≤u.net)→0≤A5 (a.map B5.net)∧A5 (a.map B5.net)≤A5 (b.map B5.net):=fun {a b} hs=>by
  induction hs with
  | slnil=>intro _;exact ⟨Int.le_refl _,Int.le_refl _⟩
  | cons x _ ih =>
   intro hb
   have h1:=ih fun u hu=>hb u (List.mem_cons_of_mem _ hu)
   have h2:=hb x (List.mem_cons_self ..)
   rw [List.map_cons,K1];omega
  | cons_cons x _ ih =>
   intro hb
   have h1:=ih fun u hu=>hb u (List.mem_cons_of_mem _ hu)
   have h2:=hb x (List.mem_cons_self ..)
   rw [List.map_cons,List.map_cons,K1,K1];omega
 exact hgen hsub h.pos
def R0 (pr:B4):Bool:=!(pr.kind==7)
def X2 (pr:B4):Bool:=pr.kind==7
def p1B (r:I4) (l:List G4) (o:List Int):PSt:=V0 (fun p=>p) (A3J (C2 r.items l)) R0 r.promos ⟨S9 l,[],[]⟩ o
def M9 (p:PSt):Int:=A5 (E1 p.us)
def p2B (r:I4) (l:List G4) (p1:PSt) (o:List Int):PSt×Int:=V0 (fun a=>a.1) (S3 (M9 p1)) X2 r.promos (p1,A0m r.ship (S9 l).length (M9 p1)) o
def W4 (r:I4) (l:List G4) (o1 o2:List Int):A2e:=⟨T3 l.length (p1B r l o1).us,M9 (p1B r l o1),(p2B r l (p1B r l o1) o2).2,(p2B r l (p1B r l o1) o2).1.deals⟩
theorem B7O {σ : Type} {px : σ→PSt} {step : σ→B4→σ} {sm:B4→Bool} {l:List B4} {Inv : σ→Nat→Prop} (hle:∀ a n,Inv a (n+1)→Inv a n) (hinv:∀ (a : σ) (n:Nat) (pr:B4),pr∈l→sm pr=true→Inv a (n+1)→Inv (step a pr) n) :
  ∀ (o:List Int) (a : σ) (n:Nat),(∀ x∈o,x.toNat<l.length)→Inv a (n+o.length)→Inv (V0 px step sm l a o) n:=by
 intro o
 unfold V0
 induction o with
 | nil=>intro a n _ h;exact h
 | cons x o ih =>
  intro a n hm h
  have hm':∀ y∈o,y.toNat<l.length:=fun y hy=>hm y (List.mem_cons_of_mem _ hy)
  have hx:F6 l x∈l:=B3 (hm x (List.mem_cons_self ..))
  have h':Inv a ((n+o.length)+1):=by rw [List.length_cons] at h;exact h
  by_cases hs:sm (F6 l x)=true
  ·rw [List.filter_cons_of_pos (p:=fun x=>sm (F6 l x)) hs,List.foldl_cons]
   refine ih _ _ hm' ?_
   unfold goB
   split
   ·exact hinv a _ _ hx hs h'
   ·exact hle _ _ h'
  ·rw [List.filter_cons_of_neg (p:=fun x=>sm (F6 l x)) hs]
   exact ih _ _ hm' (hle _ _ h')
def C1Z (items:List Ab.Item) (us0:List B5) (p:PSt) (n:Nat):Prop:=A5O items p.us∧p.deals.length+n≤100∧p.groups.length+n≤100∧∃ x,Off us0 p.us x
def C4k (a:PSt×Int) (n:Nat):Prop:=a.1.deals.length+n≤200∧a.1.groups.length+n≤200∧0≤a.2∧a.2≤10000000000000
theorem B1q {items:List Ab.Item} {us0:List B5} {a:PSt} {n:Nat} {pr:B4} (hfit:P0 pr) (hright:I9 pr=true) (hk:R0 pr=true) (h:C1Z items us0 a (n+1)):C1Z items us0 (A3J items a pr) n:=by
 obtain ⟨h1,h2,h3,x,h4⟩:=h
 obtain ⟨y,h5⟩:=B3p h1 hfit hright (by simpa [R0] using hk)
 refine ⟨h1.off h5,?_,?_,x+y,h4.trans h5⟩
 ·unfold A3J;split
  ·simp only [A0O,List.length_append,List.length_cons,List.length_nil];omega
  ·omega
 ·unfold A3J;split
  ·simp only [A0O,List.length_append]
   split<;>simp<;>omega
  ·omega
theorem B1r {net:Int} {a:PSt×Int} {n:Nat} {pr:B4} (hright:I9 pr=true) (hk:X2 pr=true) (h:C4k a (n+1)):C4k (S3 net a pr) n:=by
 obtain ⟨h1,h2,h3,h4⟩:=h
 have hk7:pr.kind=7:=by simpa [X2] using hk
 have hr:=(A2I hright).ship hk7
 have hb:=Q7 a.2 pr.rate
 have hle:=A3Z h3 (show 0≤pr.rate by omega) hr.2
 unfold S3 A5Z
 split
 ·exact ⟨by show a.1.deals.length+n≤200;omega,by show a.1.groups.length+n≤200;omega,h3,h4⟩
 ·refine ⟨?_,?_,by show 0≤a.2 - I7 a.2 pr.rate;omega,by show a.2 - I7 a.2 pr.rate≤_;omega⟩
  ·show (if I7 a.2 pr.rate>0 then A0O a.1 pr (I7 a.2 pr.rate) else a.1).deals.length+n≤200
   split
   ·simp only [A0O,List.length_append,List.length_cons,List.length_nil];omega
   ·omega
  ·show (if I7 a.2 pr.rate>0 then A0O a.1 pr (I7 a.2 pr.rate) else a.1).groups.length+n≤200
   split
   ·simp only [A0O,List.length_append]
    split<;>simp<;>omega
   ·omega
theorem PxR.deals' {bx:Nat} {items:List Ab.Item} {p:PSt} {s t:St} (h:PxR bx items p s t):∃ dv gv f,t bx=some ⟨153,4,1,f⟩∧f 0=.agg [B2 4 F1 items,D0 p.us,dv,gv] ∧
  ((p.deals=[]∧dv=.emp)∨∃ bd g,dv=.own 2 bd 0 p.deals.length∧s bd=none∧t bd=some ⟨140,2,p.deals.length,g⟩∧∀ k,k<p.deals.length→g k=A0K p.deals k):=by
 obtain ⟨⟨dv,gv⟩,h⟩:=h
 obtain ⟨y,⟨f,rfl,hf⟩,hy⟩:=U4.at (A2A _ _ _ _) h
 obtain ⟨hbx,_,_,hd⟩:=h
 obtain ⟨s0,hc,hg0⟩:=hd
 refine ⟨dv,gv,f,hy,hf,?_⟩
 rcases hc with ⟨h0,h1,rfl⟩ | ⟨h0,b,g0,hb,h1,rfl,hgg⟩
 ·exact .inl ⟨List.eq_nil_of_length_eq_zero h0,h1⟩
 ·refine .inr ⟨b,g0,h1,?_,(A6L _ _).sup hg0 b _ (A0 ..),hgg⟩
  by_cases e:b=bx
  ·subst e;rw [A0] at hb;cases hb
  ·rw [A4 e] at hb;exact hb
structure C1V (r:I4) (codes:List D6) (l:List G4):Prop where
 rules:Z8 r=true
 codes:A0J codes=true
 lines:A6D r.items l
 few:r.promos.length≤60
 promo:∀ p∈r.promos,I9 p=true
 fee:0≤r.ship.fee∧r.ship.fee≤1000000000
theorem A5v {r:I4} {codes:List D6} {l:List G4} (h:E7 r codes l=0):C1V r codes l:=by
 unfold E7 at h
 split at h
 ·cases h
 ·rename_i h1
  split at h
  ·cases h
  ·rename_i h2
   have hr:Z8 r=true:=by simpa using h1
   have hr':=hr
   unfold Z8 at hr'
   simp only [Bool.and_eq_true] at hr'
   obtain ⟨⟨⟨⟨_,hp⟩,_⟩,hs⟩,_⟩:=hr'
   unfold promosC at hp
   simp only [Bool.and_eq_true,decide_eq_true_eq] at hp
   have hs':R4 0 1000000000 r.ship.fee=true:=by
    unfold A8u at hs
    simp only [Bool.and_eq_true] at hs
    exact hs.1
   refine ⟨hr,by simpa using h2,C2P h,by omega,fun p hm=>?_,J2.1 hs'⟩
   obtain ⟨k,hk,rfl⟩:=E8 hm
   have:=A3f.1 hp.2 k hk
   unfold A0T at this
   simp only [Bool.and_eq_true] at this
   exact this.1
def C4o (r:I4) (codes:List D6) (l:List G4) (v:AV):Prop :=
 (E7 r codes l≠0∧v=.tuple [T1 ⟨[],0,0,[]⟩,eI (E7 r codes l)]) ∨
 (E7 r codes l=0∧∃ o1 o2,A7z r.promos codes o1∧A7z r.promos codes o2∧v=.tuple [T1 (W4 r l (N9 r.promos o1) (N9 r.promos o2)),eI 0])
theorem price_S (r:I4) (codes:List D6) (l:List G4) (hf:A0G r) (hc:codes.length≤Big) (hi:r.items.length≤4611686018427387904) (h20:(places r.promos codes r.promos.length).length≤20) (st:St) :
  S P 20 [H6 r,D3 codes,B2 3 H2 l] st fun v st'=>C4o r codes l v∧st'=st:=by
 refine S.post (post:=fun v st'=>(E7 r codes l≠0∧v=.tuple [.agg [.emp,eI 0,eI 0,.emp],eI (E7 r codes l)]∧D7 st st') ∨
   (E7 r codes l=0∧∃ o1 o2 bn fn dv,A7z r.promos codes o1∧A7z r.promos codes o2∧v=.tuple [.agg [.own 1 bn 0 l.length,eI (W4 r l (N9 r.promos o1) (N9 r.promos o2)).net,eI (W4 r l (N9 r.promos o1) (N9 r.promos o2)).ship,dv],eI 0] ∧
    st bn=none∧st' bn=some ⟨2,1,l.length,fn⟩∧(∀ k,k<l.length→fn k=eI (gI (W4 r l (N9 r.promos o1) (N9 r.promos o2)).nets k))∧D7 st st' ∧
    (((W4 r l (N9 r.promos o1) (N9 r.promos o2)).deals=[]∧dv=.emp)∨∃ bd g,dv=.own 2 bd 0 (W4 r l (N9 r.promos o1) (N9 r.promos o2)).deals.length∧st bd=none∧bd≠bn∧st' bd=some ⟨140,2,(W4 r l (N9 r.promos o1) (N9 r.promos o2)).deals.length,g⟩∧∀ k,k<(W4 r l (N9 r.promos o1) (N9 r.promos o2)).deals.length→g k=A0K (W4 r l (N9 r.promos o1) (N9 r.promos o2)).deals k))) ?_
  (fun v st' hv=>by
   rcases hv with ⟨h1,rfl,hs⟩ | ⟨h1,o1,o2,bn,fn,dv,h2,h3,rfl,h4,h5,h6,hs,h7⟩
   ·refine ⟨_,st,⟨.inl ⟨h1,rfl⟩,rfl⟩,(hs.shift _).trans (B0.tuple (B0.cons (B0.agg ?_) (B0.keep _ _)) rfl)⟩
    exact B0.cons (L9 1 _) (B0.cons (B0.keep [eI 0] _) (B0.cons (B0.keep [eI 0] _) (L9 2 _)))
   ·refine ⟨_,st,⟨.inr ⟨h1,o1,o2,h2,h3,rfl⟩,rfl⟩,B0.tuple (B0.cons (B0.agg ?_) (B0.keep _ _)) rfl⟩
    have hnl:(W4 r l (N9 r.promos o1) (N9 r.promos o2)).nets.length=l.length:=by show (T3 _ _).length=_;unfold T3;rw [List.length_map,List.length_range]
    generalize W4 r l (N9 r.promos o1) (N9 r.promos o2)=X at *
    have e1:A6 X.nets=.arr 1 l.length (fun k=>eI (gI X.nets k)):=by unfold A6 B2;rw [hnl]
    refine B0.cons (t:=del st' bn) ?_ (B0.cons (B0.keep [eI X.net] _) (B0.cons (B0.keep [eI X.ship] _) ?_))
    ·rw [e1];exact G0 h5 rfl (Nat.le_refl _) h6
    ·rcases h7 with ⟨h8,rfl⟩ | ⟨bd,g,rfl,h8,h9,h10,h11⟩
     ·rw [h8]
      exact ((D7.del hs h4).shift _).trans (L9 2 _)
     ·refine (G0 (b:=bd) (y:=⟨140,2,X.deals.length,g⟩) (f:=A0K X.deals) (by rw [A1F h9];exact h10) rfl (Nat.le_refl _) h11).trans ?_
      exact (D7.del (D7.del hs h4) h8).shift _)
 refine A8 [3,9,10,13] B8 mixed Tryz.func20 (by rfl) rfl rfl rfl ?_;conv=>whnf
 intro b6 hb6;conv=>whnf
 refine A7 (C0D r codes l hf hc hi _) ?_;conv=>whnf
 have h6s:∀ x:R3,D7 st (upd st b6 x):=fun x=>(D7.refl st).upd hb6
 cases h1:(E7 r codes l != 0)
 ·have hk0:E7 r codes l=0:=by simpa using h1
  have hck:=A5v hk0
  have hln:=hck.lines
  have hlen:=hln.len
  have hus0:=B3d hln
  obtain ⟨u1,u2,u3⟩:=A1B l hln.line l.length (Nat.le_refl _)
  have hitl:(C2 r.items l).length=l.length:=List.length_map ..
  have hmo:=fun {o:List Int} (ho:A7z r.promos codes o)=>(show (N9 r.promos o).length≤60 by
   rw [List.length_map,A3X,ho.1.length_eq]
   have:=X5 r.promos codes r.promos.length
   have:=hck.few;omega)
  conv=>whnf
  refine A7 (A5y r.items l hi hlen hln.known _) ?_;conv=>whnf
  refine A7 (C3E l hlen (fun x hx=>((Y5 x).1 (hln.line x hx)).1) hus0.ok.len hln.may _) ?_;conv=>whnf
  generalize hs6:(upd st b6 _)=s6 at *
  have h6:s6 b6=some ⟨44,4,1,fun _=>G9 r44.zero⟩:=by rw [←hs6];exact A0 ..
  have hBig:(Big:Nat)≤9223372036854775807:=by decide
  have hst6:D7 st s6:=by rw [←hs6];exact h6s _
  intro bx hbx;conv=>whnf
  have hP0:PxR bx (C2 r.items l) ⟨S9 l,[],[]⟩ s6 (upd s6 bx ⟨153,4,1,fun _=>.agg [B2 4 F1 (C2 r.items l),D0 (S9 l),.emp,.emp]⟩) :=
   PxR.mk' hbx rfl (ROut.start (ROut.start (D7.refl _) _ _ _) _ _ _)
  refine call (B6Z (σ:=PSt) bx (C2 r.items l) (PxR bx (C2 r.items l)) (fun p=>p) (A3L bx (C2 r.items l)) (fun a s t t' h hs=>h.more hs) (fun a s t h=>⟨s,h⟩) r.promos codes hck.few (Nat.le_trans hc hBig) h20 86 [.fptr (.fn (.func 84) [] []) 0] R0 (fun pr t=>C0v pr t)
   87 [.optr 4 bx 0 0] [] (A3J (C2 r.items l)) (C1Z (C2 r.items l) (S9 l)) (fun a n h=>by have:=h.2.2.1;omega) (fun a n h=>⟨h.1,by have:=h.2.1;omega,by have:=h.2.2.1;omega,h.2.2.2⟩)
   (fun a n pr s t hm hs hI h=>C5H bx (C2 r.items l) a pr (hf.fit pr hm) (hck.promo pr hm) (by simpa [R0] using hs) hI.1 (by have:=hI.2.1;omega) (by have:=hI.2.2.1;omega) s t h)
   (fun a n pr hm hs hI=>B1q (hf.fit pr hm) (hck.promo pr hm) hs hI) ⟨S9 l,[],[]⟩ ⟨hus0,by simp,by simp,0,Off.refl hus0.ok⟩ s6 _ hP0) (fun v t1 hv=>?_)
  obtain ⟨rfl,o1,ho1,hP1⟩:=hv
  have hp1:V0 (fun p=>p) (A3J (C2 r.items l)) R0 r.promos ⟨S9 l,[],[]⟩ (N9 r.promos o1)=p1B r l (N9 r.promos o1):=rfl
  have hI1:C1Z (C2 r.items l) (S9 l) (p1B r l (N9 r.promos o1)) 40:=B7O (fun a n h=>⟨h.1,by have:=h.2.1;omega,by have:=h.2.2.1;omega,h.2.2.2⟩) (fun a n pr hm hs hI=>B1q (hf.fit pr hm) (hck.promo pr hm) hs hI) (N9 r.promos o1) ⟨S9 l,[],[]⟩ 40 (fun x hx=>(B4p ho1 hx).2) ⟨hus0,by have:=hmo ho1;show 0+(40+(N9 r.promos o1).length)≤100;omega,by have:=hmo ho1;show 0+(40+(N9 r.promos o1).length)≤100;omega,0,Off.refl hus0.ok⟩
  rw [hp1] at hP1
  have hQ:∀ o2,W4 r l (N9 r.promos o1) (N9 r.promos o2)=⟨T3 l.length (p1B r l (N9 r.promos o1)).us,M9 (p1B r l (N9 r.promos o1)),(p2B r l (p1B r l (N9 r.promos o1)) (N9 r.promos o2)).2,(p2B r l (p1B r l (N9 r.promos o1)) (N9 r.promos o2)).1.deals⟩:=fun _=>rfl
  generalize p1B r l (N9 r.promos o1)=p1 at *
  obtain ⟨hus1,hd1,hg1,xoff,hoff⟩:=hI1
  have hul1:p1.us.length=(S9 l).length:=hoff.len
  have hu1:=hus1.ok
  have hul:=hu1.len
  have hus:=hu1.sum
  have hnet0:=C4 hu1.nets0
  have hBP:=A3L bx (C2 r.items l) p1
  conv=>whnf
  refine mkO rfl rfl rfl (by show 8 * l.length≤_;omega) (by omega) (by rfl) (fun bn hbn=>?_);conv=>whnf
  intro bp hbp
  have hnb:bn≠bp:=fun e=>by subst e;rw [A0] at hbp;cases hbp
  have hbp1:t1 bp=none:=by rw [A4 hnb.symm] at hbp;exact hbp
  have hbn6:s6 bn=none:=(hBP.sup hP1).none hbn
  have hbp6:s6 bp=none:=(hBP.sup hP1).none hbp1
  conv=>whnf
  refine G6 (A0 ..) rfl (by omega) rfl (by rfl) ?_;conv=>whnf
  -- the pricer,what the lines come to,what is made of it
  have hP2:=fun (Y Z:R3)=>hBP.begin (y:=Z) (hBP.begin (y:=Y) hP1 hbn) (by rw [A4 hnb.symm];exact hbp1)
  have hload:∀ {Y Z:R3} {t:St},PxR bx (C2 r.items l) p1 (upd (upd s6 bn Y) bp Z) t→t bn=some Y∧t bp=some Z:=fun h=>⟨hBP.sup h bn _ (by rw [A4 hnb,A0]),hBP.sup h bp _ (A0 ..)⟩
  have hwn:∀ {Y Z Y':R3} {t:St},PxR bx (C2 r.items l) p1 (upd (upd s6 bn Y) bp Z) t→PxR bx (C2 r.items l) p1 (upd (upd s6 bn Y') bp Z) (upd t bn Y'):=fun {Y Z Y' t} h=>by
   have:=hBP.write (b:=bn) (y':=Y') h (by rw [A4 hnb,A0])
   rw [P9 hnb.symm,B7] at this;exact this
  have hwp:∀ {Y Z Z':R3} {t:St},PxR bx (C2 r.items l) p1 (upd (upd s6 bn Y) bp Z) t→PxR bx (C2 r.items l) p1 (upd (upd s6 bn Y) bp Z') (upd t bp Z'):=fun {Y Z Z' t} h=>by
   have:=hBP.write (b:=bp) (y':=Z') h (A0 ..)
   rw [B7] at this;exact this
  have hP3:=hP2 ⟨2,1,l.length,fun _=>G9 r2.zero⟩ ⟨44,4,1,fun _=>G9 r44.zero⟩
  have hP4:=hwp (Z':=⟨44,4,1,C9 (fun _=>G9 r44.zero) 0 (.agg [.own 1 bn 0 l.length,eI 0,eI 0,.emp])⟩) hP3
  obtain ⟨dv1,gv1,fx1,hx1,hfx1,_,_⟩:=hP4.at
  refine D9 hx1 rfl (by omega) hfx1 ?_;conv=>whnf
  have hline:∀ k,k<p1.us.length→0≤(gU p1.us k).line∧(gU p1.us k).line.toNat<l.length:=fun k hk=>by
   have:=hus1.line _ (B3 hk)
   rw [hitl] at this;exact this
  refine ⟨[1,3,6,9,10,11,45,46,47],fun m vs t=>∃ (k:Nat) (fn fp:Nat→AV),k≤p1.us.length∧m=p1.us.length - k∧vs=[D3 codes,.fptr (H6 r) 0,.optr 4 b6 0 0,.fptr (.optr 4 bx 0 0) 0,.fptr (.fn (.func 84) [] []) 0,.optr 4 bp 0 0,D0 p1.us,eI p1.us.length,eI k] ∧
   PxR bx (C2 r.items l) p1 (upd (upd s6 bn ⟨2,1,l.length,fn⟩) bp ⟨44,4,1,fp⟩) t∧fp 0=.agg [.own 1 bn 0 l.length,eI (A5 ((E1 p1.us).take k)),eI 0,.emp]∧∀ j,j<l.length→fn j=eI (G2 (p1.us.take k) j),?_,?_⟩
  ·conv=>whnf
   exact ⟨_,0,_,_,Nat.zero_le _,rfl,rfl,hP4,A2 ..,fun j _=>rfl⟩
  ·clear hP4 hP3 hx1 hfx1 hP2
   rintro m vs t ⟨k,fn,fp,hk,rfl,rfl,hP,hfp,hfn⟩
   obtain ⟨htn,htp⟩:=hload hP
   conv=>whnf
   cases hd:decide ((k:Int)<(p1.us.length:Int))
   ·have:=of_decide_eq_false hd
    obtain rfl:k=p1.us.length:=by omega
    rw [List.take_length] at hfn
    have htk:(E1 p1.us).take p1.us.length=E1 p1.us:=by rw [←List.length_map (f:=B5.net),List.take_length]
    rw [htk] at hfp;conv=>whnf
    obtain ⟨dv1,gv1,fx1,hx1,hfx1,_,_⟩:=hP.at
    refine ⟨[11],[],[0,1,2,3,4,5,6,7,8,9,10,11],by kernel_rfl,?_⟩;conv=>whnf
    refine D9 hx1 rfl (by omega) hfx1 ?_;conv=>whnf
    refine D9 htp rfl (by omega) hfp ?_;conv=>whnf
    refine ⟨_,D1 (C5M r.ship p1.us.length (M9 p1) t),?_⟩;conv=>whnf
    refine G6 htp rfl (by omega) hfp (by rfl) ?_;conv=>whnf
    have hP5:=hwp (Z':=⟨44,4,1,C9 fp 0 (.agg [.own 1 bn 0 l.length,eI (M9 p1),eI (A0m r.ship p1.us.length (M9 p1)),.emp])⟩) hP
    have hfee:0≤A0m r.ship p1.us.length (M9 p1)∧A0m r.ship p1.us.length (M9 p1)≤10000000000000:=by
     have:=hck.fee
     unfold A0m;split<;>omega
    generalize hfe:A0m r.ship p1.us.length (M9 p1)=fee at *
    have hR2:R2 bx bp bn l.length (C2 r.items l) (M9 p1) (p1,fee) (upd s6 bn ⟨2,1,l.length,fn⟩) (upd t bp ⟨44,4,1,C9 fp 0 (.agg [.own 1 bn 0 l.length,eI (M9 p1),eI fee,.emp])⟩):=⟨by rw [A4 hnb.symm];exact hbp6,_,⟨_,rfl,A2 ..⟩,hP5⟩
    refine call (B6Z (σ:=PSt×Int) bx (C2 r.items l) (R2 bx bp bn l.length (C2 r.items l) (M9 p1)) (fun a=>a.1) (B9E bx bp bn l.length (C2 r.items l) (M9 p1)) (fun a s t t' h hs=>h.more hs) (fun a s t h=>⟨_,h.2.choose_spec.2⟩) r.promos codes hck.few (Nat.le_trans hc hBig) h20 84 [] X2 (fun pr t=>B3G pr t)
     89 [] [.fptr (.optr 4 bx 0 0) 0,.optr 4 bp 0 0] (S3 (M9 p1)) C4k (fun a n h=>by have:=h.2.1;omega) (fun a n h=>⟨by have:=h.1;omega,by have:=h.2.1;omega,h.2.2⟩)
     (fun a n pr s t hm hs hI h=>B0o bx bp bn l.length (C2 r.items l) (M9 p1) a pr hI.2.2.1 hI.2.2.2 (by have:=hI.1;omega) (by have:=hI.2.1;omega) s t h)
     (fun a n pr hm hs hI=>B1r (hck.promo pr hm) hs hI) (p1,fee) ⟨by show p1.deals.length+60≤200;omega,by show p1.groups.length+60≤200;omega,hfee⟩ (upd s6 bn ⟨2,1,l.length,fn⟩) _ hR2) (fun v t2 hv=>?_)
    obtain ⟨rfl,o2,ho2,hR3⟩:=hv
    have hp2:V0 (fun a:PSt×Int=>a.1) (S3 (M9 p1)) X2 r.promos (p1,fee) (N9 r.promos o2)=p2B r l p1 (N9 r.promos o2):=by
     unfold p2B;rw [←hfe,hul1]
    rw [hp2] at hR3
    have hQ2:=hQ o2
    generalize p2B r l p1 (N9 r.promos o2)=a2 at *
    obtain ⟨hbp7,y,⟨f7,rfl,hf7⟩,hP7⟩:=hR3
    have hBP7:=A3L bx (C2 r.items l) a2.1
    have h7p:t2 bp=some ⟨44,4,1,f7⟩:=hBP7.sup hP7 bp _ (A0 ..)
    have h7n:t2 bn=some ⟨2,1,l.length,fn⟩:=hBP7.sup hP7 bn _ (by rw [A4 hnb,A0])
    have h76:D7 s6 t2:=fun c x hc=>hBP7.sup hP7 c x (by
     have e1:c≠bp:=fun e=>by subst e;rw [hbp6] at hc;cases hc
     have e2:c≠bn:=fun e=>by subst e;rw [hbn6] at hc;cases hc
     rw [A4 e1,A4 e2];exact hc)
    have h6b:=h76 b6 _ h6
    have hb6p:b6≠bp:=fun e=>by subst e;rw [h6] at hbp6;cases hbp6
    have hb6n:b6≠bn:=fun e=>by subst e;rw [h6] at hbn6;cases hbn6
    have hstn:st bn=none:=hst6.none hbn6
    have hstp:st bp=none:=hst6.none hbp6
    obtain ⟨dv,gv,fx,hx2,hfx2,hdl⟩:=hP7.deals'
    have hS2:D7 st t2:=hst6.trans h76
    conv=>whnf
    refine D9 hx2 rfl (by omega) hfx2 ?_
    rcases hdl with ⟨hd0,rfl⟩ | ⟨bd,gd,rfl,hbd,hbt,hgd⟩
    ·conv=>whnf
     refine G6 h7p rfl (by omega) hf7 (by rfl) ?_;conv=>whnf
     refine D9 (A0 ..) rfl (by omega) (A2 ..) ?_;conv=>whnf
     refine G6 (by rw [A4 hb6p];exact h6b) rfl (by omega) rfl (by rfl) ?_;conv=>whnf
     refine D9 (A0 ..) rfl (by omega) (A2 ..) ?_;conv=>whnf
     refine .inr ⟨hk0,o1,o2,bn,fn,.emp,ho1,ho2,?_,hstn,?_,?_,((hS2.over hstp).over hb6),.inl ⟨?_,rfl⟩⟩
     ·rw [hQ2];rfl
     ·rw [A4 hb6n.symm,A4 hnb];exact h7n
     ·intro k hk
      rw [hQ2,hfn k hk]
      show eI _=eI (gI (T3 l.length p1.us) k)
      unfold T3
      rw [L2 _ hk]
     ·rw [hQ2];exact hd0
    ·have hbdp:bd≠bp:=fun e=>by subst e;rw [A0] at hbd;cases hbd
     rw [A4 hbdp] at hbd
     have hbdn:bd≠bn:=fun e=>by subst e;rw [A0] at hbd;cases hbd
     rw [A4 hbdn] at hbd
     have hbd6:bd≠b6:=fun e=>by subst e;rw [h6] at hbd;cases hbd
     conv=>whnf
     refine G6 h7p rfl (by omega) hf7 (by rfl) ?_;conv=>whnf
     refine D9 (A0 ..) rfl (by omega) (A2 ..) ?_;conv=>whnf
     refine G6 (by rw [A4 hb6p];exact h6b) rfl (by omega) rfl (by rfl) ?_;conv=>whnf
     refine D9 (A0 ..) rfl (by omega) (A2 ..) ?_;conv=>whnf
     refine .inr ⟨hk0,o1,o2,bn,fn,.own 2 bd 0 a2.1.deals.length,ho1,ho2,?_,hstn,?_,?_,((hS2.over hstp).over hb6),.inr ⟨bd,gd,?_,hst6.none hbd,hbdn,?_,?_⟩⟩
     ·rw [hQ2];rfl
     ·rw [A4 hb6n.symm,A4 hnb];exact h7n
     ·intro k hk
      rw [hQ2,hfn k hk]
      show eI _=eI (gI (T3 l.length p1.us) k)
      unfold T3
      rw [L2 _ hk]
     ·rw [hQ2]
     ·rw [A4 hbd6,A4 hbdp,hQ2];exact hbt
     ·rw [hQ2];exact hgd
   ·have hk':k<p1.us.length:=by have:=of_decide_eq_true hd;omega
    have hlk:=hline k hk'
    have hn0:0≤(gU p1.us k).net:=hu1.at0 k
    have hn1:(gU p1.us k).net≤10000000000000:=hu1.le (B3 hk')
    have e1:=L3 (l:=E1 p1.us) (i:=k) (by rw [List.length_map];exact hk')
    have e4:gI (E1 p1.us) k=(gU p1.us k).net:=E3 B5.net p1.us hk'
    have e2:=J9 hu1.nets0 (k+1)
    have e3:=C4 (l:=(E1 p1.us).take k) (fun x hx=>hu1.nets0 x (List.take_subset _ _ hx))
    have hlb:=A0d hu1 k (gU p1.us k).line.toNat
    have hlb2:=A0d hu1 (k+1) (gU p1.us k).line.toNat
    have hln1:=U7 hk' (gU p1.us k).line.toNat
    rw [if_pos rfl] at hln1
    have hfl:fn (0+(gU p1.us k).line.toNat)=eI (G2 (p1.us.take k) (gU p1.us k).line.toNat):=by rw [Nat.zero_add];exact hfn _ hlk.2
    have w1:IntKind.i64.wrap (G2 (p1.us.take k) (gU p1.us k).line.toNat+(gU p1.us k).net)=G2 (p1.us.take (k+1)) (gU p1.us k).line.toNat:=by rw [hln1];exact A9 (by omega) (by omega)
    have w2:IntKind.i64.wrap (A5 ((E1 p1.us).take k)+(gU p1.us k).net)=A5 ((E1 p1.us).take (k+1)):=by rw [e1,e4];exact A9 (by omega) (by omega)
    conv=>whnf
    refine ⟨rfl,⟨by omega,by omega⟩,?_⟩;conv=>whnf
    refine ⟨[10],[],[0,1,2,3,4,5,6,7,8,9,10],by kernel_rfl,?_⟩;conv=>whnf
    refine D9 htp rfl (by omega) hfp ?_;conv=>whnf
    refine ⟨rfl,⟨by show 0≤(gU p1.us k).line;exact hlk.1,by show (gU p1.us k).line<(l.length:Int);have:=hlk.2;have:=hlk.1;omega⟩,?_⟩;conv=>whnf
    refine D9 htn rfl (by show 0+(gU p1.us k).line.toNat<_;have:=hlk.2;omega) hfl ?_;conv=>whnf
    refine ⟨rfl,⟨by show 0≤(gU p1.us k).line;exact hlk.1,by show (gU p1.us k).line<(l.length:Int);have:=hlk.2;have:=hlk.1;omega⟩,?_⟩;conv=>whnf
    refine G6 htn rfl (by show 0+(gU p1.us k).line.toNat<_;have:=hlk.2;omega) hfl (by rfl) ?_
    have hP5:=hwn (Y':=⟨2,1,l.length,C9 fn (0+(gU p1.us k).line.toNat) (eI (G2 (p1.us.take (k+1)) (gU p1.us k).line.toNat))⟩) hP
    rw [←w1] at hP5
    obtain ⟨_,htp2⟩:=hload hP5
    conv=>whnf
    refine D9 htp2 rfl (by omega) hfp ?_;conv=>whnf
    refine G6 htp2 rfl (by omega) hfp (by rfl) ?_;conv=>whnf
    refine ⟨rfl,?_⟩;conv=>whnf
    refine ⟨p1.us.length - (k+1),by omega,k+1,_,_,by omega,rfl,by rw [B9 (by omega)],hwp hP5,?_,fun j hj=>?_⟩
    ·rw [A2,←w2];rfl
    ·show C9 fn (0+(gU p1.us k).line.toNat) _ j=_
     rw [Nat.zero_add]
     rw [U7 hk' j]
     by_cases hj2:j=(gU p1.us k).line.toNat
     ·subst hj2
      rw [if_pos rfl,A2,w1,hln1]
     ·rw [H7 hj2,if_neg (fun e=>hj2 e.symm)];exact hfn j hj
 ·have hk0:E7 r codes l≠0:=by simpa using h1
  conv=>whnf
  refine G6 (A0 ..) rfl (by omega) rfl (by rfl) ?_;conv=>whnf
  refine D9 (A0 ..) rfl (by omega) (A2 ..) ?_;conv=>whnf
  exact .inl ⟨hk0,rfl,(h6s _).over hb6⟩
end Go.Proofs.YthdimklenlikgaaGreat
namespace Go.Proofs.YthdimklenlikgaaGreat
open Go Go.Ab
def A7H (t:Z9) (rate:Int):Int:=10000+(if t.incl=true then rate else 0)
def B6 (t:Z9) (x rate:Int):Int:=(U2 x rate (A7H t rate) t.round).1
theorem B8D {q r den round x:Int} (h:q * den+r≤x * den) (h0:0≤r) (h1:r<den):q≤x∧Q9 q r den round≤x:=by
 have hq:q≤x:=by
  rcases Int.lt_or_le x q with e | e
  ·have:(x+1) * den≤q * den:=Int.mul_le_mul_of_nonneg_right (by omega) (by omega)
   rw [Int.add_mul,Int.one_mul] at this;omega
  ·exact e
 refine ⟨hq,?_⟩
 by_cases e:q=x
 ·subst e
  have hr:r=0:=by omega
  subst hr
  unfold Q9
  split
  ·omega
  ·split
   ·split<;>omega
   ·split
    ·rename_i h2;omega
    ·omega
 ·unfold Q9
  split
  ·omega
  ·split<;>split<;>omega
theorem B8C {q r den round:Int} (h:0≤q):0≤Q9 q r den round:=by
 unfold Q9
 split
 ·omega
 ·split<;>split<;>omega
theorem C1A {x num den round:Int} (hx:0≤x) (hn:0≤num) (hd:num≤den) (h0:0<den):0≤(U2 x num den round).1∧(U2 x num den round).1≤x:=by
 have h1:0≤x * num:=Int.mul_nonneg hx hn
 have h2:x * num≤x * den:=Int.mul_le_mul_of_nonneg_left hd hx
 have e1:=Int.mul_ediv_add_emod (x * num) den
 have e2:=Int.emod_nonneg (x * num) (show den≠0 by omega)
 have e3:=Int.emod_lt_of_pos (x * num) h0
 have e4:0≤x * num / den:=Int.ediv_nonneg h1 (by omega)
 have h3:=B8D (q:=x * num / den) (r:=x * num % den) (den:=den) (round:=round) (x:=x) (by rw [Int.mul_comm (x * num / den) den];omega) e2 e3
 have h4:=B8C (q:=x * num / den) (r:=x * num % den) (den:=den) (round:=round) e4
 unfold U2
 split
 ·exact ⟨Int.le_refl _,hx⟩
 ·split
  ·exact ⟨Int.le_refl _,hx⟩
  ·split
   ·exact ⟨Int.le_refl _,hx⟩
   ·exact ⟨h4,h3.2⟩
theorem A2F {t:Z9} {x rate:Int} (hx:0≤x) (hr:0≤rate∧rate≤10000):0≤B6 t x rate∧B6 t x rate≤x:=by
 refine C1A hx hr.1 ?_ ?_
 ·unfold A7H;split<;>omega
 ·unfold A7H;split<;>omega
def S4 (l:List K3) (s:D6):Option K3:=l.find? fun z=>z.name.toList==s.toList
def E6 (z:K3) (c:D6):Int:=match z.rates.find? (fun x=>x.cat.toList==c.toList) with
 | some x=>x.rate
 | none=>z.rest
theorem A5p {z:K3} (h:U3 z=true):(0≤z.rest∧z.rest≤10000)∧(0≤z.ship∧z.ship≤10000)∧z.rates.length≤40∧∀ x∈z.rates,0≤x.rate∧x.rate≤10000:=by
 unfold U3 at h
 simp only [Bool.and_eq_true,Bool.not_eq_true',Bool.or_eq_false_iff,decide_eq_false_iff_not,Bool.not_eq_false'] at h
 obtain ⟨⟨⟨⟨h1,h2⟩,h3⟩,h4⟩,h5,h6⟩:=h
 refine ⟨J2.1 h2,J2.1 h3,by omega,fun x hx=>?_⟩
 obtain ⟨k,hk,rfl⟩:=E8 hx
 have:=A3f.1 h5 k hk
 unfold A3r at this
 simp only [Bool.not_eq_true',Bool.or_eq_false_iff,Bool.not_eq_false'] at this
 exact J2.1 this.2
theorem B4o {z:K3} (h:U3 z=true) (c:D6):0≤E6 z c∧E6 z c≤10000:=by
 obtain ⟨h1,h2,h3,h4⟩:=A5p h
 unfold E6
 split
 ·rename_i x hx;exact h4 x (List.mem_of_find?_eq_some hx)
 ·exact h1
def Q5 (t:Z9) (rates nets:List Int):List Int:=(List.range nets.length).map fun i=>B6 t (gI nets i) (gI rates i)
def A6X (rates:List Int) (i:Nat):List Nat:=(List.range rates.length).filter fun k=>gI rates k==gI rates i
def I1 (rates nets:List Int) (i:Nat):List Int:=(A6X rates i).map (gI nets)
def Y6 (rates:List Int) (i:Nat):Nat:=((List.range i).filter fun k=>gI rates k==gI rates i).length
def A0Q (t:Z9) (rates nets:List Int) (i:Nat):Int:=gI (D5 (B6 t (A5 (I1 rates nets i)) (gI rates i)) (I1 rates nets i)) (Y6 rates i)
def F5 (t:Z9) (rates nets:List Int):List Int:=(List.range nets.length).map (A0Q t rates nets)
def I2 (t:Z9) (rates nets:List Int):List Int:=if t.byOrder=true then F5 t rates nets else Q5 t rates nets
structure A3E (nets:List Int):Prop where
 len:nets.length≤1000
 pos:∀ x∈nets,0≤x
 sum:A5 nets≤10000000000000
theorem B0u {a b:List Int} (hs:a.Sublist b) (hb:∀ x∈b,0≤x):A5 a≤A5 b:=by
 induction hs with
 | slnil=>exact Int.le_refl _
 | cons x _ ih =>
  have h1:=ih fun u hu=>hb u (List.mem_cons_of_mem _ hu)
  have h2:=hb x (List.mem_cons_self ..)
  rw [K1];omega
 | cons_cons x _ ih =>
  have h1:=ih fun u hu=>hb u (List.mem_cons_of_mem _ hu)
  rw [K1,K1];omega
theorem A4Y (l:List Int):(List.range l.length).map (gI l)=l:=by
 refine List.ext_getElem (by rw [List.length_map,List.length_range]) fun i h1 h2=>?_
 rw [List.getElem_map,List.getElem_range];unfold gI;rw [List.getD_eq_getElem?_getD,List.getElem?_eq_getElem h2];rfl
theorem A4O {rates nets:List Int} (hn:A3E nets) (hr:rates.length=nets.length) (i:Nat):(I1 rates nets i).length≤1000∧(∀ x∈I1 rates nets i,0≤x)∧0≤A5 (I1 rates nets i)∧A5 (I1 rates nets i)≤10000000000000:=by
 have hsub:(I1 rates nets i).Sublist nets:=by
  have h1:(I1 rates nets i).Sublist ((List.range nets.length).map (gI nets)):=by
   unfold I1 A6X
   rw [hr]
   exact List.filter_sublist.map _
  rw [A4Y] at h1;exact h1
 have hp:∀ x∈I1 rates nets i,0≤x:=fun x hx=>hn.pos x (hsub.subset hx)
 have h2:=hsub.length_le
 have h3:=hn.len
 have h4:=B0u hsub hn.pos
 have h5:=hn.sum
 exact ⟨by omega,hp,C4 hp,by omega⟩
theorem A1R {t:Z9} {rates nets:List Int} (hn:A3E nets) (hr:rates.length=nets.length) {i:Nat} (hq:0≤gI rates i∧gI rates i≤10000):P3 (B6 t (A5 (I1 rates nets i)) (gI rates i)) (I1 rates nets i):=by
 obtain ⟨h1,h2,h3,h4⟩:=A4O hn hr i
 have hm:=A2F (t:=t) h3 hq
 exact ⟨hm.1,by omega,by omega,h2,by omega,fun e=>by rw [e] at hm;rw [e];omega⟩
theorem B8y {n i:Nat} (hi:i<n):List.range n=List.range i++(i::(List.range (n - i - 1)).map (fun k=>i+1+k)):=by
 have h1:n=i+(1+(n - i - 1)):=by omega
 conv=>lhs;rw [h1]
 rw [List.range_add,show 1+(n - i - 1)=(n - i - 1)+1 by omega,List.range_succ_eq_map]
 simp only [List.map_cons,List.map_map,Nat.add_zero]
 congr 2
 refine List.map_congr_left fun k _=>?_
 show i+(k+1)=i+1+k
 omega
theorem A6Y {rates:List Int} {i:Nat} (hi:i<rates.length):(A6X rates i)[Y6 rates i]?=some i:=by
 unfold Y6 A6X
 rw [B8y hi,List.filter_append,List.getElem?_append_right (Nat.le_refl _),Nat.sub_self,List.filter_cons_of_pos (by simp)];rfl
theorem A9H {rates:List Int} {i:Nat} (hi:i<rates.length):Y6 rates i<(A6X rates i).length:=by
 exact (List.getElem?_eq_some_iff.1 (A6Y hi)).1
theorem B3U {t:Z9} {rates nets:List Int} (hn:A3E nets) (hr:rates.length=nets.length) (hq:∀ x∈rates,0≤x∧x≤10000) {i:Nat} (hi:i<nets.length):0≤A0Q t rates nets i∧A0Q t rates nets i≤10000000000000:=by
 have hqi:=hq (gI rates i) (B3 (by omega))
 have hw:=A1R (t:=t) hn hr hqi
 obtain ⟨h1,h2,h3,h4⟩:=A4O hn hr i
 have hm:=A2F (t:=t) h3 hqi
 have hp:=A9H (rates:=rates) (i:=i) (by omega)
 have hml:(I1 rates nets i).length=(A6X rates i).length:=List.length_map ..
 obtain ⟨l1,l2,l3⟩:=Q4 hw
 have hle:=A2l hw hm.2 (k:=Y6 rates i) (by omega)
 have hg:gI (D5 (B6 t (A5 (I1 rates nets i)) (gI rates i)) (I1 rates nets i)) (Y6 rates i)∈D5 (B6 t (A5 (I1 rates nets i)) (gI rates i)) (I1 rates nets i):=B3 (by omega)
 have h0:=l3 _ hg
 have hmem:gI (I1 rates nets i) (Y6 rates i)∈I1 rates nets i:=B3 (by omega)
 have h6:=I5 h2 hmem
 unfold A0Q
 omega
theorem A7t {t:Z9} {rates nets:List Int} (hn:A3E nets) (hr:rates.length=nets.length) (hq:∀ x∈rates,0≤x∧x≤10000):(I2 t rates nets).length=nets.length∧∀ x∈I2 t rates nets,0≤x∧x≤10000000000000:=by
 unfold I2
 split
 ·refine ⟨by unfold F5;rw [List.length_map,List.length_range],fun x hx=>?_⟩
  obtain ⟨i,hi,rfl⟩:=List.mem_map.1 hx
  exact B3U hn hr hq (List.mem_range.1 hi)
 ·refine ⟨by unfold Q5;rw [List.length_map,List.length_range],fun x hx=>?_⟩
  obtain ⟨i,hi,rfl⟩:=List.mem_map.1 hx
  have hi:=List.mem_range.1 hi
  have h1:=hn.pos _ (show gI nets i∈nets from B3 hi)
  have h2:=A2F (t:=t) h1 (hq (gI rates i) (B3 (by omega)))
  have h3:=I5 hn.pos (show gI nets i∈nets from B3 hi)
  have h4:=hn.sum
  omega
theorem B3T {t:Z9} {rates nets:List Int} (hn:A3E nets) (hr:rates.length=nets.length) (hq:∀ x∈rates,0≤x∧x≤10000) {i:Nat} (hi:i<nets.length):A0Q t rates nets i≤gI nets i:=by
 have hqi:=hq (gI rates i) (B3 (by omega))
 have hw:=A1R (t:=t) hn hr hqi
 obtain ⟨h1,h2,h3,h4⟩:=A4O hn hr i
 have hm:=A2F (t:=t) h3 hqi
 have hp:=A9H (rates:=rates) (i:=i) (by omega)
 have hml:(I1 rates nets i).length=(A6X rates i).length:=List.length_map ..
 have hle:=A2l hw hm.2 (k:=Y6 rates i) (by omega)
 have e:gI (I1 rates nets i) (Y6 rates i)=gI nets i:=by
  unfold I1 gI
  rw [List.getD_eq_getElem?_getD,List.getElem?_map,A6Y (by omega)];rfl
 rw [e] at hle
 exact hle
theorem C1z {t:Z9} {rates nets:List Int} (hn:A3E nets) (hr:rates.length=nets.length) (hq:∀ x∈rates,0≤x∧x≤10000) {i:Nat} (hi:i<nets.length):gI (I2 t rates nets) i≤gI nets i:=by
 unfold I2
 split
 ·have e:gI (F5 t rates nets) i=A0Q t rates nets i:=by unfold F5 gI;rw [List.getD_eq_getElem?_getD,List.getElem?_map,List.getElem?_range hi];rfl
  rw [e];exact B3T hn hr hq hi
 ·have e:gI (Q5 t rates nets) i=B6 t (gI nets i) (gI rates i):=by unfold Q5 gI;rw [List.getD_eq_getElem?_getD,List.getElem?_map,List.getElem?_range hi];rfl
  rw [e]
  exact (A2F (hn.pos _ (show gI nets i∈nets from B3 hi)) (hq (gI rates i) (B3 (by omega)))).2
theorem A5f (f g:Nat→Int):∀ n,(∀ i,i<n→f i≤g i)→A5 ((List.range n).map f)≤A5 ((List.range n).map g)
 | 0,_=>Int.le_refl _
 | n+1,h=>by
  rw [K5,K5]
  have h1:=A5f f g n fun i hi=>h i (by omega)
  have h2:=h n (by omega)
  omega
structure B4U where
 goods:List Int
 taxes:List Int
 ship:Int
 shipTax:Int
def A3Q (t:Z9) (taxes nets:List Int):List Int:=(List.range nets.length).map fun i=>if t.incl=true then gI nets i - gI taxes i else gI nets i
def K9 (t:Z9) (z:K3) (exempt:Bool) (cats:List D6) (nets:List Int) (ship:Int):B4U :=
 ⟨A3Q t (I2 t (cats.map (E6 z)) nets) nets,if exempt=true then List.replicate nets.length 0 else I2 t (cats.map (E6 z)) nets,
 if t.incl=true then ship - B6 t ship z.ship else ship,if exempt=true then 0 else B6 t ship z.ship⟩
structure A4f where
 goods:List Int
 taxes:List Int
 ship:Int
 shipTax:Int
 total:Int
 deals:List A0D
end Go.Proofs.YthdimklenlikgaaGreat
