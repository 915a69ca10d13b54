/- Part 24 of the proof: contracts of the functions that the law reaches -/
import Derived.Test.YtaapofnkmpiknaaGreatPl23
set_option maxRecDepth 100000
set_option linter.unusedVariables false
set_option linter.unusedSimpArgs false
namespace Go.Proofs.YtaapofnkmpiknaaGreat
open Go Go.Ab
attribute [local irreducible] upd del
def A1P (us:List B2) (l:List Int):Int:=A2 (l.map fun i=>(gU us i.toNat).net)
theorem B3P {us:List B2} (hu:E3 us) {l:List Int} (hl:∀ k,k<l.length→0≤gI l k∧(gI l k).toNat<us.length) (hn:l.length≤800000) {i:Nat} (hi:i<l.length) :
  IntKind.i64.wrap (A1P us (l.take i)+(gU us (gI l i).toNat).net)=A1P us (l.take (i+1)):=by
 have hc:=A1q hu (l.take i) (fun x hx=>by obtain ⟨k,hk,rfl⟩:=D5 (D7G _ _ hx);exact hl k hk)
 have h3:0≤(gU us (gI l i).toNat).net:=hu.pos _ (A7 (hl i hi).2)
 have h4:(gU us (gI l i).toNat).net≤10000000000000:=hu.le (A7 (hl i hi).2)
 have e:A1P us (l.take (i+1))=A1P us (l.take i)+(gU us (gI l i).toNat).net:=by
  unfold A1P;rw [L0 hi,D7k,F5];simp [A2]
 have hcl:(l.take i).length≤800000:=by rw [D6N];omega
 have e2:I0 us (l.take i)=A1P us (l.take i):=rfl
 rw [e]
 exact A5 (by omega) (by omega)
theorem D0e (bx:Nat) (items:List Ab.Item) (p:PSt) (hu:E3 p.us) (l:List Int) (hn:l.length≤800000) (hl:∀ k,k<l.length→0≤gI l k∧(gI l k).toNat<p.us.length) (s t:St) (h:PxR bx items p s t) :
  S P 270 [.optr 4 bx 0 0,B0 l] t fun v t'=>v=eI (A1P p.us l)∧t'=t:=by
 obtain ⟨dv,gv,fx,hx,hx0,hdv,hgv⟩:=h.at
 refine F4 [] Tryz.func270 ?_
 refine ⟨[0,5,8,9,10],fun m vs t'=>∃ i:Nat,i≤l.length∧m=l.length - i∧vs=[.optr 4 bx 0 0,eI (A1P p.us (l.take i)),B0 l,eI l.length,eI i]∧t'=t,?_,?_⟩
 ·conv=>whnf
  exact ⟨_,0,D7e _,rfl,rfl,rfl⟩
 ·rintro m vs t' ⟨i,hi,rfl,rfl,rfl⟩
  conv=>whnf
  cases h2:decide ((i:Int)<(l.length:Int))
  ·have:=D6G h2
   obtain rfl:i=l.length:=by omega
   rw [D6O];conv=>whnf
   exact ⟨rfl,rfl⟩
  ·have hi':i<l.length:=by have:=D6H h2;omega
   have hr:=hl i hi'
   conv=>whnf
   refine E7 ?_
   refine J6 hx hx0 ?_
   refine ⟨rfl,⟨by show 0≤gI l i;exact hr.1,by show gI l i<(p.us.length:Int);have:=hr.2;have:=hr.1;omega⟩,?_⟩;conv=>whnf
   refine G2 ?_
   exact ⟨l.length - (i+1),by omega,i+1,by omega,rfl,by rw [B4 (by omega),←B3P hu hl hn hi'];rfl,rfl⟩
theorem C8U (bx:Nat) (items:List Ab.Item) (p:PSt) (hu:E3 p.us) (l:List Int) (hn:l.length≤800000) (hl:∀ k,k<l.length→0≤gI l k∧(gI l k).toNat<p.us.length) (s t:St) (h:PxR bx items p s t)
  (b:Nat) (m0:Nat) (f:Nat→AV) (hm0:l.length≤m0) (hb:t b=some ⟨3,1,m0,f⟩) (hf:∀ k,k<l.length→f k=eI (gI l k)) :
  S P 270 [.optr 4 bx 0 0,.own 1 b 0 l.length] t fun v t'=>v=eI (A1P p.us l)∧t'=t:=by
 obtain ⟨dv,gv,fx,hx,hx0,hdv,hgv⟩:=h.at
 refine F4 [] Tryz.func270 ?_
 refine ⟨[0,5,8,9,10],fun m vs t'=>∃ i:Nat,i≤l.length∧m=l.length - i∧vs=[.optr 4 bx 0 0,eI (A1P p.us (l.take i)),.own 1 b 0 l.length,eI l.length,eI i]∧t'=t,?_,?_⟩
 ·conv=>whnf
  exact ⟨_,0,D7e _,rfl,rfl,rfl⟩
 ·rintro m vs t' ⟨i,hi,rfl,rfl,rfl⟩
  conv=>whnf
  cases h2:decide ((i:Int)<(l.length:Int))
  ·have:=D6G h2
   obtain rfl:i=l.length:=by omega
   rw [D6O];conv=>whnf
   exact ⟨rfl,rfl⟩
  ·have hi':i<l.length:=by have:=D6H h2;omega
   have hr:=hl i hi'
   conv=>whnf
   refine E7 ?_
   refine ldV hb rfl (by omega) (v:=eI (gI l i)) (by rw [show 0+(i:Int).toNat=i by omega];exact hf i hi') ?_;conv=>whnf
   refine J6 hx hx0 ?_
   refine ⟨rfl,⟨by show 0≤gI l i;exact hr.1,by show gI l i<(p.us.length:Int);have:=hr.2;have:=hr.1;omega⟩,?_⟩;conv=>whnf
   refine G2 ?_
   exact ⟨l.length - (i+1),by omega,i+1,by omega,rfl,by rw [B4 (by omega),←B3P hu hl hn hi'],rfl⟩
def A1F (p:PSt) (pr:B1) (off:Int):PSt:=⟨p.us,p.deals++[⟨pr.id,off⟩],p.groups++(if N2 pr.group=true then [] else [pr.group])⟩
theorem A4u {α : Type} [Inhabited α] {a b:List α} {k:Nat} (h:k<a.length):(a++b).getD k default=a.getD k default:=by
 rw [D6D,D6D,D7b h]
theorem A8w {α : Type} [Inhabited α] (a:List α) (x : α):(a++[x]).getD a.length default=x:=by
 simp [D6D]
theorem RD.at {bx:Nat} {dl:List A1O} {gr:List C8} {dv gv:AV} {s t:St} {f:Nat→AV} (h:RD dl gr dv gv (upd s bx ⟨239,4,1,f⟩) t):t bx=some ⟨239,4,1,f⟩:=(A3K _ _ _ _).sup h bx _ (A0 ..)
theorem RD.put {bx:Nat} {dl:List A1O} {gr:List C8} {dv gv:AV} {s t:St} {f f':Nat→AV} (h:RD dl gr dv gv (upd s bx ⟨239,4,1,f⟩) t):RD dl gr dv gv (upd s bx ⟨239,4,1,f'⟩) (upd t bx ⟨239,4,1,f'⟩):=by
 have:=(A3K dl gr dv gv).write (y':=⟨239,4,1,f'⟩) h (A0 ..)
 rw [C0] at this;exact this
theorem RD.of {dl:List A1O} {gr:List C8} {dv gv:AV} {s t:St} {d:A1O} (h:ROut (RG gr gv) 221 2 (A1y (dl++[d])) (dl.length+1) s dv t):RD (dl++[d]) gr dv gv s t:=by
 unfold RD;rw [D6P];exact h
theorem RD.grp {K:KK} {X:Prop} {dl:List A1O} {gr:List C8} {dv gv:AV} {s t:St} (h:RD dl gr dv gv s t) (g:C8)
  (happ:∀ {s1:St},ROut F1 9 1 (A7r (gr++[g])) gr.length s1 gv t→(∀ gv' t',ROut F1 9 1 (A7r (gr++[g])) (gr.length+1) s1 gv' t'→K gv' t')→X)
  (hk:∀ gv' t',RD dl (gr++[g]) dv gv' s t'→(gv'=.emp∨∃ b,gv'=.own 1 b 0 (gr++[g]).length)→K gv' t'):X:=by
 obtain ⟨s1,hc,hg⟩:=h
 refine happ (s1:=s1) (hg.congr fun k hk=>by simp only [A7r];rw [A4u hk]) (fun gv' t' hg'=>?_)
 have hg2:RG (gr++[g]) gv' s1 t':=by unfold RG;rw [D6P];exact hg'
 exact hk gv' t' ⟨s1,hc,hg2⟩ (ROut.head hg2)
theorem PxR.mk' {bx:Nat} {items:List Ab.Item} {p:PSt} {dv gv:AV} {s t:St} {f:Nat→AV} (hbx:s bx=none) (hf:f 0=.agg [A8 4 E9 items,C6 p.us,dv,gv]) (h:RD p.deals p.groups dv gv (upd s bx ⟨239,4,1,f⟩) t):PxR bx items p s t :=
 ⟨(dv,gv),hbx,_,⟨f,rfl,hf⟩,h⟩
theorem PxR.fin {bx:Nat} {items:List Ab.Item} {us:List B2} {dl:List A1O} {gr:List C8} {dv gv:AV} {s t:St} {f:Nat→AV} (hbx:s bx=none) (h:RD dl gr dv gv (upd s bx ⟨239,4,1,f⟩) t) (f':Nat→AV) (hf:f' 0=.agg [A8 4 E9 items,C6 us,dv,gv]) :
  PxR bx items ⟨us,dl,gr⟩ s (upd t bx ⟨239,4,1,f'⟩):=PxR.mk' hbx hf (RD.put h)
theorem B8A (bx:Nat) (items:List Ab.Item) (p:PSt) (pr:B1) (off:Int) (hd:p.deals.length≤1000) (hg:p.groups.length≤1000) (s t:St) (h:PxR bx items p s t) :
  S P 234 [.optr 4 bx 0 0,B7 pr,eI off] t fun v t'=>v=.tuple []∧PxR bx items (A1F p pr off) s t':=by
 obtain ⟨⟨dv,gv⟩,hbx,y,⟨f,rfl,hf⟩,hRD⟩:=h
 simp only at hf hRD
 refine F4 [4] Tryz.func234 ?_
 refine ⟨[10,13],[],[0,1,2,3,4,5,6,7,8,9,10,11,12,13],by kernel_rfl,?_⟩
 have hdv:dv=.emp∨∃ b,dv=.own 2 b 0 p.deals.length:=ROut.head hRD
 have hgv:gv=.emp∨∃ b,gv=.own 1 b 0 p.groups.length:=by obtain ⟨s0,hc,hgg⟩:=hRD;exact ROut.head hgg
 rcases hdv with rfl | ⟨bd,rfl⟩<;>rcases hgv with rfl | ⟨bg,rfl⟩
 all_goals
  conv=>whnf
  refine J6 hRD.at hf ?_
  refine ⟨_,⟨rfl,rfl⟩,?_⟩;conv=>whnf
  refine ROut.app (q:=C7a) (A8n _ _) rfl rfl rfl rfl rfl (f:=A1y (p.deals++[⟨pr.id,off⟩])) (by simp only [A1y,A8w];rfl) (by show (p.deals.length+1) * 24≤140737488355328;omega) (hRD.congr fun k hk=>by simp only [A1y];rw [A4u hk]) (fun dv' t2 hRD2=>?_)
  have hRD2':=RD.of hRD2
  rcases ROut.head hRD2' with rfl | ⟨bd',rfl⟩
  all_goals
   conv=>whnf
   refine Z7 hRD2'.at hf ?_
   have hnil:(ByteArray.toList pr.group==ByteArray.toList ⟨#[]⟩)=N2 pr.group:=rfl
   rw [hnil]
   cases hgr:N2 pr.group
   ·conv=>whnf
    refine ⟨[8,11],[],[0,1,2,3,4,5,6,7,8,9,10,11],by kernel_rfl,?_⟩;conv=>whnf
    refine J6 (RD.put hRD2').at (by rw [A4]) ?_
    refine ⟨_,⟨rfl,rfl⟩,?_⟩;conv=>whnf
    refine RD.grp (RD.put hRD2') pr.group (fun happ=>ROut.app (q:=r9) J5 rfl rfl rfl rfl rfl (by simp only [A7r,A8w];rfl) (by show (p.groups.length+1) * 16≤140737488355328;omega) happ) (fun gv' t4 hRD4 hh=>?_)
    rcases hh with rfl | ⟨bg',rfl⟩
    all_goals
     conv=>whnf
     refine Z7 hRD4.at (by rw [A4]) ?_
     refine ⟨rfl,?_⟩
     unfold A1F
     rw [hgr]
     exact PxR.fin hbx hRD4 _ (by rw [A4];rfl)
   ·conv=>whnf
    refine ⟨rfl,?_⟩
    unfold A1F
    rw [hgr]
    simp only [if_true,D8y]
    exact PxR.fin hbx hRD2' _ (by rw [A4];rfl)
end Go.Proofs.YtaapofnkmpiknaaGreat
namespace Go.Proofs.YtaapofnkmpiknaaGreat
open Go Go.Ab
theorem E0 {lo hi x:Int}:N9 lo hi x=true↔lo≤x∧x≤hi:=by
 unfold N9;simp only [D6I,D6F,ge_iff_le]
theorem A4q {α : Type} [Inhabited α] {l:List α} {p:Nat→α→Bool}:L3 l p=true↔∀ k,k<l.length→p k (l.getD k default)=true:=by
 unfold L3
 rw [D6W]
 exact ⟨fun h k hk=>h k (D6T.2 hk),fun h k hk=>h k (D6T.1 hk)⟩
structure C5Q (p:B1):Prop where
 kind:1≤p.kind∧p.kind<8
 skus:p.scope.skus.length≤20
 cats:p.scope.cats.length≤20
 least:0≤p.least∧p.least≤10000000000000
 buy:p.kind=3→B0V p
 bun:p.kind=4→A4k p∧∀ x∈p.parts,x.scope.skus.length≤20∧x.scope.cats.length≤20
 ask:Q7 p→p.kind=1∨p.kind=2∨p.kind=5∨p.kind=6→A5N p
 ship:p.kind=7→1≤p.rate∧p.rate≤10000
theorem C2z {l:List A0S} (h:A0d l=true):A8i l:=by
 unfold A0d at h
 simp only [D6I,D6X,D7Q,D6E] at h
 refine ⟨by omega,fun t ht=>?_⟩
 obtain ⟨k,hk,rfl⟩:=D5 ht
 have h2:=A4q.1 h.2 k hk
 unfold A4h at h2
 simp only [D6X,D7Q,D6E] at h2
 omega
theorem A3R {p:B1} (h:H2 p=true):C5Q p:=by
 have h0:=h
 unfold H2 at h
 simp only [D6I,D6F] at h
 obtain ⟨⟨⟨⟨hk1,hk2⟩,hh⟩,hp⟩,hkd⟩:=h
 have hl:=B3R hh
 simp only [A7s,D6I,E0] at hh
 unfold A7t at hkd
 refine ⟨⟨hk1,hk2⟩,hl.1,hl.2,hh.2,fun e=>?_,fun e=>?_,fun hf e=>?_,fun e=>?_⟩
 ·rw [e] at hkd
  simp [A8H,A8I,E0] at hkd
  exact ⟨hkd.2.1,hkd.2.2,⟨by omega,hkd.1.2⟩⟩
 ·rw [e] at hkd
  simp only [show ¬(4:Int)=1 by decide,show ¬(4:Int)=2 by decide,show ¬(4:Int)=3 by decide,D9l,if_true] at hkd
  unfold A6Y at hkd
  simp only [D6I,D6X,D7Q,D6E,D7R] at hkd
  obtain ⟨⟨⟨⟨a1,a2⟩,a3⟩,a4⟩,a5⟩:=hkd
  have hpt:∀ x∈p.parts,A0W x=true:=fun x hx=>by simpa using a5 x hx
  refine ⟨⟨by omega,by omega,fun x hx=>?_,by omega,by omega⟩,fun x hx=>?_⟩
  ·have:=hpt x hx
   unfold A0W at this
   simp only [D6I,D6X,D7Q,D6E] at this
   omega
  ·have:=hpt x hx
   unfold A0W at this
   simp only [D6I] at this
   exact B2t this.1
 ·refine ⟨hf,h0,e,fun e2=>?_,fun e2=>?_⟩
  ·rcases e2 with e2 | e2<;>rw [e2] at hkd<;>simp at hkd<;>exact C2z hkd
  ·rw [e2] at hkd
   simp [A8G,E0] at hkd
   omega
 ·rw [e] at hkd
  simp [A8I,E0] at hkd
  exact hkd
theorem C0j {p:B1} (hp:A5N p) {nets:List Int} (h0:∀ x∈nets,0≤x) (hs:A2 nets≤10000000000000) (hl:nets.length≤100000):∀ k,k<(O8 p nets).length→gI (O8 p nets) k≤gI nets k:=fun k hk=>by
 have hn:=C1 h0
 have hlen:=(A5k hp h0 hs hl).2.1
 have hx:0≤gI nets k:=h0 _ (A7 (by omega))
 have hkn:k<nets.length:=by omega
 unfold O8 at hk ⊢
 have hmap:∀ (r a:Int),0≤a→gI (nets.map fun x=>Q4 x r a) k≤gI nets k:=fun r a ha=>by
  rw [show gI (nets.map fun x=>Q4 x r a) k=Q4 (gI nets k) r a from D4 (fun x=>Q4 x r a) nets hkn]
  exact (A0m hx ha).2
 rcases hp.kind with e | e | e | e
 ·rw [if_pos e] at hk ⊢;exact hmap _ _ (D7l _)
 ·rw [if_neg (by omega),if_pos e] at hk ⊢;exact hmap _ _ (hp.amount e).1
 ·rw [if_neg (by omega),if_neg (by omega),if_pos e] at hk ⊢
  have hok:=A0o (hp.tiers (.inl e)) (A2 nets)
  unfold A5D at hk ⊢
  split at hk
  ·simp at hk
  ·rename_i t hr
   rw [hr] at hok
   have hob:0≤Q4 (A2 nets) t.rate t.amount∧Q4 (A2 nets) t.rate t.amount≤A2 nets:=A0m hn hok.1
   have hW:R3 (Q4 (A2 nets) t.rate t.amount) nets:=⟨hob.1,by omega,hl,h0,by omega,fun e=>by omega⟩
   have hll:=(T2 hW).2.1
   exact A3u hW hob.2 (by omega)
 ·rw [if_neg (by omega),if_neg (by omega),if_neg (by omega)] at hk ⊢
  have hok:=A0o (hp.tiers (.inr e)) nets.length
  unfold A5C at hk ⊢
  split at hk
  ·simp at hk
  ·rename_i t hr
   rw [hr] at hok
   exact hmap _ _ hok.1
theorem A8E (us:List B2) (mine:List Int):E4 us mine=J0 us mine:=rfl
theorem B7O {p:B1} (hp:A5N p) {us:List B2} (hu:E3 us) {mine:List Int} (hm:N7 us mine):Off us (A0b p us mine).1 (A0b p us mine).2:=by
 have hnl:(E4 us mine).length=mine.length:=D6J ..
 have hml:=hm.len
 have hul:=hu.len
 have hn0:∀ x∈E4 us mine,0≤x:=fun x hx=>by
  obtain ⟨i,hi,rfl⟩:=D6Z.1 hx
  exact hu.at0 _
 have hwl:=B2J hu hm.places
 have hus:=hu.sum
 have hns:A2 (E4 us mine)≤10000000000000:=by rw [A8E];omega
 obtain ⟨ob1,ob2,ob3⟩:=A5k hp hn0 hns (by omega)
 have hle:=C0j hp hn0 hns (by omega)
 have h1:=A2z hu hm.places (offs:=O8 p (E4 us mine)) (by omega) (fun k hk=>⟨ob3 _ (A7 hk),by
  have:=hle k hk
  rw [show gI (E4 us mine) k=(gU us (gI mine k).toNat).net from D4 (fun i:Int=>(gU us i.toNat).net) mine (by omega)] at this
  exact this⟩) (O8 p (E4 us mine)).length (D6M _)
 rw [D6O] at h1
 unfold A0b
 simp only
 split
 ·have h2:=Off.closeB (h1.ok hu) mine (fun x hx=>by
   obtain ⟨k,hk,rfl⟩:=D5 hx
   rw [h1.len];exact (hm.rng k hk).2)
  have h3:=h1.trans h2
  rw [D8R] at h3;exact h3
 ·exact h1
end Go.Proofs.YtaapofnkmpiknaaGreat
namespace Go.Proofs.YtaapofnkmpiknaaGreat
open Go Go.Ab
attribute [local irreducible] upd del
theorem PxR.more {bx:Nat} {items:List Ab.Item} {p:PSt} {s t t':St} (h:PxR bx items p s t) (hs:F1 t t'):PxR bx items p s t':=by
 obtain ⟨v,h1,y,h2,s1,h3,s2,h4,h5⟩:=h
 exact ⟨v,h1,y,h2,s1,h3,s2,h4,h5.trans hs⟩
structure A7m (items:List Ab.Item) (us:List B2):Prop where
 ok:E3 us
 few:items.length≤100000
 line:∀ u∈us,0≤u.line∧u.line.toNat<items.length
theorem A7m.off {items:List Ab.Item} {us us':List B2} {x:Int} (h:A7m items us) (ho:Off us us' x):A7m items us' :=
 ⟨ho.ok h.ok,h.few,fun u hu=>by
  obtain ⟨k,hk,rfl⟩:=D5 hu
  have h1:=ho.line k
  have h2:=h.line (gU us k) (A7 (by rw [←ho.len];exact hk))
  show 0≤(gU us' k).line∧(gU us' k).line.toNat<items.length
  rw [h1];exact h2⟩
def A2n (items:List Ab.Item) (us:List B2) (pr:B1):List B2×Int :=
 if A1P us (K0 pr.scope items us us.length)<pr.least then ([],0)
 else if pr.kind=3 then W9 pr us (K0 pr.scope items us us.length) else A0b pr us (K0 pr.scope items us us.length)
theorem C8A {P:Program} {f:FuncId} {args:List AV} {st st1:St} {v:AV} {K:KK} (h:S P f args st fun v' st'=>v'=v∧st'=st1) (hK:K v st1):A1M P f args st K:=call h fun v' st' ⟨e1,e2⟩=>by rw [e1,e2];exact hK
theorem C4W (bx:Nat) (items:List Ab.Item) (p:PSt) (pr:B1) (hfit:Q7 pr) (hright:H2 pr=true) (hk:pr.kind≠4∧pr.kind≠7) (hu:A7m items p.us) (s t:St) (h:PxR bx items p s t) :
  S P 232 [.optr 4 bx 0 0,B7 pr] t fun v t'=>v=.tuple [C6 (A2n items p.us pr).1,eI (A2n items p.us pr).2]∧t'=t:=by
 have hok:=A3R hright
 have hm:=A1E pr.scope items p.us
 have hml:=hm.len
 have hul:=hu.ok.len
 refine S.post (post:=fun v t'=>(v=.tuple [C6 (A2n items p.us pr).1,eI (A2n items p.us pr).2]∨(A2n items p.us pr=([],0)∧v=.tuple [.emp,eI 0]))∧t'=t) ?_ (fun v t' ⟨hv,ht⟩=>by
  subst ht
  rcases hv with rfl | ⟨h1,rfl⟩
  ·exact ⟨_,_,⟨rfl,rfl⟩,A6.refl _ _⟩
  ·exact ⟨_,_,⟨rfl,rfl⟩,by rw [h1];exact A6.tuple (A6.cons (I9 3 _) (A6.keep _ _)) rfl⟩)
 obtain ⟨dv,gv,fx,hx,hx0,hdv,hgv⟩:=h.at
 refine F4 [3] Tryz.func232 ?_
 refine I2 (C3Z bx items p pr.scope hok.skus hok.cats hul hu.few hu.line s t h) ?_
 refine ⟨[],[],[0,1,2,3,4,5],by kernel_rfl,?_⟩;conv=>whnf
 refine ⟨_,H8 (D0e bx items p hu.ok _ (by omega) hm.rng s t h),?_⟩
 have hS:A2n items p.us pr=if A1P p.us (K0 pr.scope items p.us p.us.length)<pr.least then ([],0) else if pr.kind=3 then W9 pr p.us (K0 pr.scope items p.us p.us.length) else A0b pr p.us (K0 pr.scope items p.us p.us.length):=rfl
 conv=>whnf
 refine B9 (fun h1=>?_) (fun h1=>?_)<;>rw [h1]<;>simp only [D6F,D6E] at h1
 ·rw [if_pos h1] at hS;conv=>whnf
  exact ⟨.inr ⟨hS,rfl⟩,rfl⟩
 rw [if_neg h1] at hS;conv=>whnf
 refine B9 (fun h2=>?_) (fun h2=>?_)<;>rw [h2]<;>simp only [D7B,D7p] at h2
 ·rw [if_pos h2] at hS;conv=>whnf
  refine ⟨[],[],[0,1,2,3,4,5,6,7,8,9,10],by kernel_rfl,?_⟩;conv=>whnf
  refine J6 hx hx0 ?_
  refine cqW (C3n pr p.us _ hfit hright h2 (hok.buy h2) hu.ok hm t) ?_
  exact ⟨.inl (by rw [hS];rfl),rfl⟩
 ·rw [if_neg h2] at hS
  have hask:A5N pr:=hok.ask hfit (by have:=hok.kind;have:=hk.1;have:=hk.2;omega)
  conv=>whnf
  refine ⟨[],[],[0,1,2,3,4,5,6,7,8,9,10],by kernel_rfl,?_⟩;conv=>whnf
  refine J6 hx hx0 ?_
  refine cqW (C5W pr p.us _ hask hu.ok hm t) ?_
  exact ⟨.inl (by rw [hS];rfl),rfl⟩
theorem C3I (a b:List Int) (j:Nat):gI (a++b) (a.length+j)=gI b j:=by
 unfold gI
 rw [D6D,D6D,D7a (by omega),Nat.add_sub_cancel_left]
theorem C8T (bx:Nat) (t:St):S P 270 [.optr 4 bx 0 0,.emp] t fun v t'=>v=eI 0∧t'=t:=by
 refine F4 [] Tryz.func270 ?_
 refine B1M [0,5,8,9,10] ?_;conv=>whnf
 intro I;conv=>whnf
 exact ⟨rfl,rfl⟩
def Q9 (items:List Ab.Item) (us:List B2) (pr:B1):List (List Int):=pr.parts.map fun x=>K0 x.scope items us us.length
def A0v (items:List Ab.Item) (us:List B2) (pr:B1) (i:Nat):List Int:=((Q9 items us pr).take i).flatten
def A0Z (items:List Ab.Item) (us:List B2) (pr:B1):List B2×Int :=
 if A1P us (Y3 (C4 (A0v items us pr pr.parts.length)))<pr.least then ([],0) else R5 pr us (Q9 items us pr)
theorem A9j (items:List Ab.Item) (us:List B2) (pr:B1) {i:Nat} (hi:i<pr.parts.length):A0v items us pr (i+1)=A0v items us pr i++K0 (pr.parts.getD i default).scope items us us.length:=by
 unfold A0v
 have hl:(Q9 items us pr).length=pr.parts.length:=D6J ..
 rw [L0 (by omega),List.flatten_append]
 congr 1
 have:(Q9 items us pr).getD i default=K0 (pr.parts.getD i default).scope items us us.length:=D4 (fun x:A2q=>K0 x.scope items us us.length) pr.parts hi
 rw [this];simp
theorem B1b (items:List Ab.Item) (us:List B2) (pr:B1):∀ i,i≤pr.parts.length→(A0v items us pr i).length≤i * us.length
 | 0,_=>by simp [A0v]
 | i+1,h=>by
  have ih:=B1b items us pr i (by omega)
  rw [A9j items us pr (by omega),D6P]
  have:=A3i (pr.parts.getD i default).scope items us us.length
  have e:(i+1) * us.length=i * us.length+us.length:=Nat.succ_mul i us.length
  omega
theorem B3z {l:List Int} {x:Int} (h:x∈Y3 l):x∈l:=by
 unfold Y3 Go.Lib.compactUpTo at h
 obtain ⟨k,hk,rfl⟩:=D6Z.1 h
 have hk2:k<l.length:=D6T.1 (D7F.1 hk).1
 have:l.toArray[k]! = l[k]:=by rw [getElem!_pos _ k (by simpa using hk2)];simp
 rw [this];exact D8c hk2
theorem B1c {items:List Ab.Item} {us:List B2} {pr:B1} {i:Nat} {x:Int} (h:x∈A0v items us pr i):0≤x∧x.toNat<us.length:=by
 unfold A0v at h
 obtain ⟨l,hl,hx⟩:=List.mem_flatten.1 h
 obtain ⟨q,hq,rfl⟩:=D6Z.1 (D7G _ _ hl)
 obtain ⟨k,hk,rfl⟩:=D5 hx
 exact (A1E q.scope items us).rng k hk
theorem C1D (bx:Nat) (items:List Ab.Item) (p:PSt) (pr:B1) (hfit:Q7 pr) (hright:H2 pr=true) (hk:pr.kind=4) (hu:A7m items p.us) (s t:St) (h:PxR bx items p s t) :
  S P 233 [.optr 4 bx 0 0,B7 pr] t fun v t'=>v=.tuple [C6 (A0Z items p.us pr).1,eI (A0Z items p.us pr).2]∧t'=t:=by
 have hok:=A3R hright
 obtain ⟨hbun,hsc⟩:=hok.bun hk
 have hn8:=hbun.n8
 have hul:=hu.ok.len
 have hpl:(Q9 items p.us pr).length=pr.parts.length:=D6J ..
 have hpm:∀ x∈Q9 items p.us pr,N7 p.us x:=fun x hx=>by
  obtain ⟨q,hq,rfl⟩:=D6Z.1 hx
  exact A1E _ _ _
 refine S.post (post:=fun v t'=>(v=.tuple [C6 (A0Z items p.us pr).1,eI (A0Z items p.us pr).2]∨(A0Z items p.us pr=([],0)∧v=.tuple [.emp,eI 0]))∧F1 t t') ?_ (fun v t' ⟨hv,ht⟩=>by
  rcases hv with rfl | ⟨h1,rfl⟩
  ·exact ⟨_,_,⟨rfl,rfl⟩,ht.shift _⟩
  ·exact ⟨_,_,⟨rfl,rfl⟩,by rw [h1];exact (ht.shift _).trans (A6.tuple (A6.cons (I9 3 _) (A6.keep _ _)) rfl)⟩)
 have hBi:=fun (n:Nat) (sv:AV) (fo:Nat→AV)=>U9 J5 3 1 fo n sv
 refine F4 [3,9] Tryz.func233 ?_
 refine ⟨[0,3,6,7,12,13,14],fun m vs t'=>∃ (i:Nat) (sv1 sv2:AV),i≤pr.parts.length∧m=pr.parts.length - i∧vs=[.optr 4 bx 0 0,.fptr (B7 pr) 0,sv1,sv2,A8 3 W6 pr.parts,eI pr.parts.length,eI i] ∧
  ROut (fun s t'=>ROut F1 3 1 (fun k=>eI (gI (A0v items p.us pr i) k)) (A0v items p.us pr i).length s sv2 t') 29 1 (fun k=>B0 ((Q9 items p.us pr).getD k default)) i t sv1 t',?_,?_⟩
 ·conv=>whnf
  exact ⟨_,0,.emp,.emp,D7e _,rfl,rfl,ROut.start (ROut.start (F1.refl _) _ _ _) _ _ _⟩
 ·rintro m vs t' ⟨i,sv1,sv2,hi,rfl,rfl,hout⟩
  have hal:=B1b items p.us pr i hi
  have hal2:i * p.us.length≤8 * 100000:=Nat.mul_le_mul (by omega) hul
  have hsup:F1 t t':=hout.sup (hBi _ _ _)
  conv=>whnf
  cases hd:decide ((i:Int)<(pr.parts.length:Int))
  ·have:=D6G hd
   obtain rfl:i=pr.parts.length:=by omega
   obtain ⟨s1,hc1,hout2⟩:=hout
   generalize hA:A0v items p.us pr pr.parts.length=A at *
   have hAm:∀ x∈A,0≤x∧x.toNat<p.us.length:=fun x hx=>B1c (by rw [hA];exact hx)
   have hSl:(C4 A).length=A.length:=Y0 A
   have hCl:=A9m (C4 A)
   have hCm:∀ k,k<(Y3 (C4 A)).length→0≤gI (Y3 (C4 A)) k∧(gI (Y3 (C4 A)) k).toNat<p.us.length:=fun k hk=>hAm _ (V6.1 (B3z (A7 hk)))
   conv=>whnf
   refine call (B4d J5 (by omega) hout2) (fun v t2 hv=>?_)
   obtain ⟨rfl,hout3⟩:=hv
   have hsup2:F1 s1 t2:=hout3.sup J5
   have hB:A0Z items p.us pr=if A1P p.us (Y3 (C4 A))<pr.least then ([],0) else R5 pr p.us (Q9 items p.us pr):=by unfold A0Z;rw [hA]
   -- what is behind the two,with the store as it is then
   have fin:∀ t3,F1 s1 t3→∀ K:KK,(∀ v,v=.tuple [C6 (R5 pr p.us (Q9 items p.us pr)).1,eI (R5 pr p.us (Q9 items p.us pr)).2]→K v t)→A1M P 275 [B7 pr,C6 p.us,sv1] t3 K:=fun t3 h3 K hK=>by
    have hsh:A6 [B7 pr,C6 p.us,sv1] t3 [B7 pr,C6 p.us,A8 1 B0 (Q9 items p.us pr)] t:=by
     refine A6.cons (A6.keep _ _) (A6.cons (A6.keep _ _) ?_)
     have e:A8 1 B0 (Q9 items p.us pr)=.arr 1 pr.parts.length (fun k=>B0 ((Q9 items p.us pr).getD k default)):=by unfold A8;rw [hpl]
     rw [e]
     exact (h3.shift _).trans hc1.shift
    refine E5 hsh (call (C3m pr p.us (Q9 items p.us pr) hfit hright hk hbun hu.ok hpl hpm t) (fun v t4 hv=>?_))
    rw [hv.2];exact hK v hv.1
   have hpx:∀ t3,F1 s1 t3→PxR bx items p s t3:=fun t3 h3=>h.more (hc1.sup.trans h3)
   conv=>whnf
   refine ⟨[2,5],[],[],.qui 0 (.qui 1 (.qui 4 (.two 2 5 (.qui 5 (.qui 3 (.qui 6 .done))) (.gen 2 (.qui 3 (.qui 6 .done)))))),by kernel_rfl,?_⟩
   obtain ⟨s2,hc2,hs2⟩:=hout3
   rcases hc2 with ⟨h0,rfl,rfl⟩ | ⟨h0,b2,g2,hb2,rfl,rfl,hg2⟩
   ·have hA0:A=[]:=D7n h0
    have hnet:A1P p.us (Y3 (C4 A))=0:=by
     have:Y3 (C4 A)=[]:=D7n (by omega)
     rw [this];rfl
    rw [hnet] at hB;conv=>whnf
    constructor
    all_goals conv=>whnf
    all_goals refine B3 (B7V _) ?_
    all_goals conv=>whnf
    all_goals refine ⟨_,H8 (C8T bx _),?_⟩
    all_goals conv=>whnf
    all_goals refine B9 (fun h1=>?_) (fun h1=>?_)<;>rw [h1]<;>simp only [D6F,D6E] at h1
    all_goals first
     | (rw [if_pos h1] at hB
        conv=>whnf
        exact ⟨.inr ⟨hB,rfl⟩,hc1.sup.trans hs2⟩)
     | (rw [if_neg h1] at hB
        obtain ⟨dv,gv,fx,hx,hx0,_,_⟩:=(hpx _ hs2).at
        conv=>whnf
        refine ⟨[6],[],[0,1,2,3,4,5,6,7,8,9,10],by kernel_rfl,?_⟩;conv=>whnf
        refine J6 hx hx0 ?_
        refine fin _ hs2 _ (fun v hv=>?_)
        subst hv;conv=>whnf
        exact ⟨.inl (by rw [hB];rfl),F1.refl _⟩)
   ·have hb2t:=hs2 b2 _ (A0 ..)
    have hC:=C0W b2 (C4 A) (by omega) t2 ⟨g2,by rw [hb2t,hSl],fun k hk=>hg2 k (by omega)⟩
    rw [hSl] at hC
    have hs3:∀ y,F1 s1 (upd t2 b2 y):=fun y=>hsup2.over hb2
    have hN:=fun t3 (h3:F1 s1 t3) (e3:t3=upd t2 b2 (A6v (A8p (C4 A))))=>C8U bx items p hu.ok (Y3 (C4 A)) (by omega) hCm s t3 (hpx t3 h3) b2 (A8p (C4 A)).length (fun k=>eI (gI (A8p (C4 A)) k)) (by rw [B3A];omega) (by rw [e3,A0];rfl) (fun k hk=>by rw [C6n hk])
    conv=>whnf
    constructor
    all_goals conv=>whnf
    all_goals refine C8A hC ?_
    all_goals conv=>whnf
    all_goals refine ⟨_,H8 (hN _ (hs3 _) rfl),?_⟩
    all_goals conv=>whnf
    all_goals refine B9 (fun h1=>?_) (fun h1=>?_)<;>rw [h1]<;>simp only [D6F,D6E] at h1
    all_goals first
     | (rw [if_pos h1] at hB
        conv=>whnf
        exact ⟨.inr ⟨hB,rfl⟩,hc1.sup.trans (hs3 _)⟩)
     | (rw [if_neg h1] at hB
        obtain ⟨dv,gv,fx,hx,hx0,_,_⟩:=(hpx _ (hs3 (A6v (A8p (C4 A))))).at
        conv=>whnf
        refine ⟨[6],[],[0,1,2,3,4,5,6,7,8,9,10],by kernel_rfl,?_⟩;conv=>whnf
        refine J6 hx hx0 ?_
        refine fin _ (hs3 _) _ (fun v hv=>?_)
        subst hv;conv=>whnf
        exact ⟨.inl (by rw [hB];rfl),F1.refl _⟩)
  ·have hi':i<pr.parts.length:=by have:=D6H hd;omega
   have hq:=hsc (pr.parts.getD i default) (A7 hi')
   have hpk:(Q9 items p.us pr).getD i default=K0 (pr.parts.getD i default).scope items p.us p.us.length:=D4 (fun x:A2q=>K0 x.scope items p.us p.us.length) pr.parts hi'
   have hls:=A9j items p.us pr hi'
   have hml:=A3i (pr.parts.getD i default).scope items p.us p.us.length
   conv=>whnf
   refine E7 ?_
   refine I2 (C3Z bx items p (pr.parts.getD i default).scope hq.1 hq.2 hul hu.few hu.line s t' (h.more hsup)) ?_
   refine ROut.app (q:=r29) (hBi _ _ _) rfl rfl rfl rfl rfl (by simp only [hpk];rfl) (by show (i+1) * 24≤140737488355328;omega) hout (fun sv1' t2 hout2=>?_);conv=>whnf
   obtain ⟨s1,hc1,hin⟩:=hout2
   refine ROut.apps (q:=r3) (n:=(A0v items p.us pr i).length) (m:=(K0 (pr.parts.getD i default).scope items p.us p.us.length).length) J5 rfl rfl rfl rfl (B5w rfl _) (f:=fun k=>eI (gI (A0v items p.us pr (i+1)) k)) (fun j hj=>?_) (by show ((A0v items p.us pr i).length+(K0 (pr.parts.getD i default).scope items p.us p.us.length).length) * 8≤140737488355328;omega) (hin.congr fun k hk=>by rw [hls,N5 hk]) (fun sv2' t3 hout3=>?_)
   ·rw [hls]
    show eI (gI (K0 (pr.parts.getD i default).scope items p.us p.us.length) j)=eI (gI _ _)
    rw [C3I]
   conv=>whnf
   refine G2 ?_
   refine ⟨pr.parts.length - (i+1),by omega,i+1,sv1',sv2',by omega,rfl,by rw [B4 (by omega)],s1,hc1,?_⟩
   rw [hls,D6P,←hls];exact hout3
def A0h (items:List Ab.Item) (us:List B2) (pr:B1):List B2×Int:=if pr.kind=4 then A0Z items us pr else A2n items us pr
def A4W (items:List Ab.Item) (p:PSt) (pr:B1):PSt :=
 if (A0h items p.us pr).2>0 then A1F ⟨(A0h items p.us pr).1,p.deals,p.groups⟩ pr (A0h items p.us pr).2 else p
theorem C0E {items:List Ab.Item} {us:List B2} (hu:A7m items us) {pr:B1} (hfit:Q7 pr) (hright:H2 pr=true) (hk:pr.kind≠7):A0h items us pr=([],0)∨Off us (A0h items us pr).1 (A0h items us pr).2:=by
 have hok:=A3R hright
 unfold A0h
 split
 ·rename_i h4
  unfold A0Z
  split
  ·exact .inl rfl
  ·right
   have hpl:(Q9 items us pr).length=pr.parts.length:=D6J ..
   exact B5S (hok.bun h4).1 hu.ok hpl fun k hk=>by
    have hm:=A7 (l:=Q9 items us pr) hk
    obtain ⟨q,hq,he⟩:=D6Z.1 hm
    rw [show (Q9 items us pr).getD k []=(Q9 items us pr).getD k default from rfl,←he]
    exact A1E _ _ _
 ·rename_i h4
  unfold A2n
  split
  ·exact .inl rfl
  ·right
   split
   ·rename_i h3
    exact B5T (hok.buy h3) hu.ok (A1E _ _ _)
   ·rename_i h3
    exact B7O (hok.ask hfit (by have:=hok.kind;omega)) hu.ok (A1E _ _ _)
theorem B5Q {items:List Ab.Item} {p:PSt} (hu:A7m items p.us) {pr:B1} (hfit:Q7 pr) (hright:H2 pr=true) (hk:pr.kind≠7):∃ x,Off p.us (A4W items p pr).us x:=by
 unfold A4W
 split
 ·rename_i h0
  rcases C0E hu hfit hright hk with e | e
  ·rw [e] at h0;exact absurd h0 (by decide)
  ·exact ⟨_,e⟩
 ·exact ⟨0,Off.refl hu.ok⟩
theorem C9L (bx:Nat) (items:List Ab.Item) (p:PSt) (pr:B1) (hfit:Q7 pr) (hright:H2 pr=true) (hk:pr.kind≠7) (hu:A7m items p.us) (hd:p.deals.length≤1000) (hg:p.groups.length≤1000) (s t:St) (h:PxR bx items p s t) :
  S P 183 [.optr 4 bx 0 0,B7 pr] t fun v t'=>v=.tuple []∧PxR bx items (A4W items p pr) s t':=by
 have key:∀ K:KK,(∀ v,v=.tuple [C6 (A0h items p.us pr).1,eI (A0h items p.us pr).2]→K v t)→A1M P (if pr.kind=4 then 233 else 232) [.optr 4 bx 0 0,B7 pr] t K:=fun K hK=>by
  unfold A0h at hK
  split
  ·rename_i h4
   rw [if_pos h4] at hK
   exact call (C1D bx items p pr hfit hright h4 hu s t h) (fun v t' hv=>by rw [hv.2];exact hK v hv.1)
  ·rename_i h4
   rw [if_neg h4] at hK
   exact call (C4W bx items p pr hfit hright ⟨h4,hk⟩ hu s t h) (fun v t' hv=>by rw [hv.2];exact hK v hv.1)
 obtain ⟨⟨dv,gv⟩,hbx,y,⟨f,rfl,hf⟩,hRD⟩:=h
 simp only at hf hRD
 have hA:A4W items p pr=if (A0h items p.us pr).2>0 then A1F ⟨(A0h items p.us pr).1,p.deals,p.groups⟩ pr (A0h items p.us pr).2 else p:=rfl
 have h0:PxR bx items p s t:=⟨(dv,gv),hbx,_,⟨f,rfl,hf⟩,hRD⟩
 refine F4 [3] Tryz.func183 ?_
 refine B9 (fun h4=>?_) (fun h4=>?_)<;>rw [h4]<;>simp only [D7B,D7p] at h4
 ·rw [if_pos h4] at key;conv=>whnf
  refine key _ (fun v hv=>?_)
  subst hv;conv=>whnf
  refine B9 (fun h5=>?_) (fun h5=>?_)<;>rw [h5]<;>simp only [D6F,D6E] at h5
  ·rw [if_pos h5] at hA
   rw [hA];conv=>whnf
   refine Z7 hRD.at hf ?_
   refine call (B8A bx items ⟨(A0h items p.us pr).1,p.deals,p.groups⟩ pr _ hd hg s _ (PxR.fin hbx hRD _ (by rw [A4];rfl))) (fun v t' hv=>?_)
   obtain ⟨rfl,h6⟩:=hv
   conv=>whnf
   exact ⟨rfl,h6⟩
  ·rw [if_neg h5] at hA
   rw [hA];conv=>whnf
   exact ⟨rfl,h0⟩
 ·rw [if_neg h4] at key;conv=>whnf
  refine key _ (fun v hv=>?_)
  subst hv;conv=>whnf
  refine B9 (fun h5=>?_) (fun h5=>?_)<;>rw [h5]<;>simp only [D6F,D6E] at h5
  ·rw [if_pos h5] at hA
   rw [hA];conv=>whnf
   refine Z7 hRD.at hf ?_
   refine call (B8A bx items ⟨(A0h items p.us pr).1,p.deals,p.groups⟩ pr _ hd hg s _ (PxR.fin hbx hRD _ (by rw [A4];rfl))) (fun v t' hv=>?_)
   obtain ⟨rfl,h6⟩:=hv
   conv=>whnf
   exact ⟨rfl,h6⟩
  ·rw [if_neg h5] at hA
   rw [hA];conv=>whnf
   exact ⟨rfl,h0⟩
def A7w (p:PSt) (pr:B1) (net ship:Int):Int×PSt :=
 if net<pr.least then (ship,p) else (ship - J9 ship pr.rate,if J9 ship pr.rate>0 then A1F p pr (J9 ship pr.rate) else p)
theorem B9b (bx:Nat) (items:List Ab.Item) (p:PSt) (pr:B1) (net ship:Int) (h0:0≤ship) (h1:ship≤10000000000000) (hd:p.deals.length≤1000) (hg:p.groups.length≤1000) (s t:St) (h:PxR bx items p s t) :
  S P 186 [.optr 4 bx 0 0,B7 pr,eI net,eI ship] t fun v t'=>v=eI (A7w p pr net ship).1∧PxR bx items (A7w p pr net ship).2 s t':=by
 have hS:A7w p pr net ship=if net<pr.least then (ship,p) else (ship - J9 ship pr.rate,if J9 ship pr.rate>0 then A1F p pr (J9 ship pr.rate) else p):=rfl
 have hb:=T7 ship pr.rate
 have w:IntKind.i64.wrap (ship - J9 ship pr.rate)=ship - J9 ship pr.rate:=A5 (by omega) (by omega)
 refine F4 [5] Tryz.func186 ?_
 refine B9 (fun h2=>?_) (fun h2=>?_)<;>rw [h2]<;>simp only [D6F,D6E] at h2
 ·rw [if_pos h2] at hS
  rw [hS];conv=>whnf
  exact ⟨rfl,h⟩
 rw [if_neg h2] at hS
 rw [hS];conv=>whnf
 refine I2 (B5e ship pr.rate 1 t) ?_
 refine B9 (fun h3=>?_) (fun h3=>?_)<;>rw [h3]<;>simp only [D6F,D6E] at h3
 ·conv=>whnf
  refine call (B8A bx items p pr _ hd hg s t h) (fun v t' hv=>?_)
  obtain ⟨rfl,h4⟩:=hv
  conv=>whnf
  have h3':J9 ship pr.rate>0:=h3
  rw [if_pos h3']
  refine ⟨?_,h4⟩
  show AV.int .i64 (IntKind.i64.wrap (ship - J9 ship pr.rate))=_
  rw [w]
 ·conv=>whnf
  have h3':¬ J9 ship pr.rate>0:=h3
  rw [if_neg h3']
  refine ⟨?_,h⟩
  show AV.int .i64 (IntKind.i64.wrap (ship - J9 ship pr.rate))=_
  rw [w]
def A0O (s:Ab.Ship) (units net:Int):Int:=if units=0∨(s.free>0∧net≥s.free) then 0 else s.fee
theorem C9R (s:Ab.Ship) (units net:Int) (t:St):S P 184 [C7Q s,eI units,eI net] t fun v t'=>v=eI (A0O s units net)∧t'=t:=by
 refine F4 [3] Tryz.func184 ?_
 refine B9 (fun h1=>?_) (fun h1=>?_)<;>rw [h1]<;>simp only [D7B,D7p] at h1
 ·conv=>whnf
  exact ⟨by unfold A0O;rw [if_pos (.inl h1)];rfl,rfl⟩
 conv=>whnf
 refine B9 (fun h2=>?_) (fun h2=>?_)<;>rw [h2]<;>simp only [D6F,D6E] at h2
 ·conv=>whnf
  refine B9 (fun h3=>?_) (fun h3=>?_)<;>rw [h3]<;>simp only [D6F,D6E] at h3
  ·conv=>whnf
   exact ⟨by unfold A0O;rw [if_pos (.inr ⟨h2,h3⟩)];rfl,rfl⟩
  ·conv=>whnf
   exact ⟨by unfold A0O;rw [if_neg (by rintro (e | ⟨_,e⟩)<;>contradiction)];rfl,rfl⟩
 ·conv=>whnf
  exact ⟨by unfold A0O;rw [if_neg (by rintro (e | ⟨e,_⟩)<;>contradiction)];rfl,rfl⟩
theorem B6k (pr:B1) (t:St):S P 180 [B7 pr] t fun v t'=>v=.bool (pr.kind==7)∧t'=t:=by
 refine F4 [1] Tryz.func180 ?_
 exact ⟨rfl,rfl⟩
theorem C4e (pr:B1) (t:St):S P 182 [B7 pr,.fptr (.fn (.func 180) [] []) 0] t fun v t'=>v=.bool (!(pr.kind==7))∧t'=t:=by
 refine F4 [2] Tryz.func182 ?_
 refine I2 (B6k pr t) ?_
 exact ⟨rfl,rfl⟩
theorem B6Q {R R':St→St→Prop} (hR:L2 R) (hm:∀ s t t',R s t→F1 t t'→R s t') (hR':L2 R') {f:FuncId} {args:List AV} {w:AV} {s t0 t:St} {q:Nat} {fl:Bool} {es:List QE} (h:R s t0) (hq:QSt t0 q fl es t)
  (hS:∀ u,R u t→S P f args t fun v t'=>v=w∧R' u t'):S P f args t fun v t'=>v=w∧∃ t0',R' s t0'∧QSt t0' q fl es t':=by
 obtain ⟨bo,hF,hn⟩:=hq.foot
 obtain ⟨y1,hy1⟩:=hF.some (.inl rfl)
 have hq0:=hn q (.inl rfl)
 have hsq:s q=none:=(hR.sup h).none hq0
 cases bo with
 | none =>
  have h1:R (upd s q y1) t:=hm _ _ _ (hR.begin (y:=y1) h hq0) (fun c x hc=>by
   by_cases e:c=q
   ·subst e;rw [A0] at hc;rw [hy1];exact hc
   ·rw [A9 e] at hc;exact hq.sup c x hc)
  refine (hS _ h1).mono fun v t' hv=>⟨hv.1,del t' q,hR'.forget hv.2 hsq,?_⟩
  have hF':QF q none fl es t':=hF.frame fun c hc=>by
   rcases hc with rfl | hc
   ·rw [hR'.sup hv.2 c y1 (A0 ..),hy1]
   ·cases hc
  exact hF'.qst (fun c x hc=>by
   by_cases e:c=q
   ·subst e;rw [A4s] at hc;cases hc
   ·rw [A2F e] at hc;exact hc) (fun c hc=>by
    rcases hc with rfl | hc
    ·exact A4s ..
    ·cases hc)
 | some b =>
  obtain ⟨y2,hy2⟩:=hF.some (c:=b) (.inr rfl)
  have hb0:=hn b (.inr rfl)
  have hqb:q≠b:=by
   obtain ⟨sv,_,h3⟩:=hF.has
   rcases h3 with ⟨_,_,e⟩ | ⟨b',l,n,e,hne,_⟩
   ·cases e
   ·cases e;exact hne
  have hsb:s b=none:=(hR.sup h).none hb0
  have h1:R (upd (upd s b y2) q y1) t:=hm _ _ _ (hR.begin (y:=y1) (hR.begin (y:=y2) h hb0) (by rw [A9 hqb];exact hq0)) (fun c x hc=>by
   by_cases e:c=q
   ·subst e;rw [A0] at hc;rw [hy1];exact hc
   ·rw [A9 e] at hc
    by_cases e2:c=b
    ·subst e2;rw [A0] at hc;rw [hy2];exact hc
    ·rw [A9 e2] at hc;exact hq.sup c x hc)
  refine (hS _ h1).mono fun v t' hv=>⟨hv.1,del (del t' q) b,hR'.forget (hR'.forget hv.2 (by rw [A9 hqb];exact hsq)) hsb,?_⟩
  have hs':=hR'.sup hv.2
  have hF':QF q (some b) fl es t':=hF.frame fun c hc=>by
   rcases hc with rfl | hc
   ·rw [hs' c y1 (A0 ..),hy1]
   ·cases hc
    rw [hs' b y2 (by rw [A9 hqb.symm,A0]),hy2]
  exact hF'.qst (fun c x hc=>by
   by_cases e:c=b
   ·subst e;rw [A4s] at hc;cases hc
   ·rw [A2F e] at hc
    by_cases e2:c=q
    ·subst e2;rw [A4s] at hc;cases hc
    ·rw [A2F e2] at hc;exact hc) (fun c hc=>by
    rcases hc with rfl | hc
    ·rw [A2F hqb];exact A4s ..
    ·cases hc;exact A4s ..)
theorem B5y (l:List C8) (hl:l.length≤100000) (v:C8) (st:St) (b:Nat) (f:Nat→AV) (hb:st b=some ⟨9,1,l.length,f⟩) (hf:∀ k,k<l.length→f k=A7r l k) :
  S P 268 [.own 1 b 0 l.length,eS v] st fun r st'=>r=eI (idx (fun y:C8=>v.toList==y.toList) l)∧st'=st:=by
 refine F4 [] Tryz.func268 ?_
 refine ⟨[0,1,7,8],fun m vs st'=>∃ i:Nat,i≤l.length∧(∀ k,k<i→(v.toList==(l.getD k default).toList)=false)∧m=l.length - i∧vs=[.own 1 b 0 l.length,eS v,eI l.length,eI i]∧st'=st,?_,?_⟩
 ·conv=>whnf
  exact ⟨_,0,D7e _,fun k hk=>absurd hk (by omega),rfl,rfl,rfl⟩
 ·rintro m vs st' ⟨i,hi,hok,rfl,rfl,rfl⟩
  conv=>whnf
  cases h:decide ((i:Int)<(l.length:Int))
  ·have:=D6G h
   conv=>whnf
   refine ⟨?_,rfl⟩
   rw [T8 (p:=fun y:C8=>v.toList==y.toList) fun k hk=>hok k (by omega)];rfl
  ·have hi':i<l.length:=by have:=D6H h;omega
   conv=>whnf
   refine E7 ?_
   refine ldV hb rfl (by omega) (v:=eS (l.getD i default)) (by rw [show 0+(i:Int).toNat=i by omega];exact hf i hi') ?_;conv=>whnf
   cases hp:(v.toList==(l.getD i default).toList)
   ·conv=>whnf
    refine G2 ?_
    refine ⟨l.length - (i+1),by omega,i+1,by omega,fun k hk=>?_,rfl,by rw [B4 (by omega)],rfl⟩
    rcases D7A.1 hk with h' | h'
    ·exact hok k h'
    ·rw [h'];exact hp
   ·conv=>whnf
    refine ⟨?_,rfl⟩
    rw [A1B (p:=fun y:C8=>v.toList==y.toList) hi' hok hp];rfl
theorem C2t (l:List C8) (hl:l.length≤100000) (v:C8) (st:St) (b:Nat) (f:Nat→AV) (hb:st b=some ⟨9,1,l.length,f⟩) (hf:∀ k,k<l.length→f k=A7r l k) :
  S P 231 [.own 1 b 0 l.length,eS v] st fun r st'=>r=.bool (inB l v)∧st'=st:=by
 refine F4 [] Tryz.func231 ?_
 refine I2 (B5y l hl v st b f hb hf) ?_
 refine ⟨?_,rfl⟩
 unfold inB
 rw [←A1A];rfl
theorem B5x (v:C8) (st:St):S P 268 [.emp,eS v] st fun r st'=>r=eI (-1)∧st'=st:=by
 refine F4 [] Tryz.func268 ?_
 refine B1M [0,1,7,8] ?_;conv=>whnf
 intro I;conv=>whnf
 exact ⟨rfl,rfl⟩
theorem C2s (v:C8) (st:St):S P 231 [.emp,eS v] st fun r st'=>r=.bool false∧st'=st:=by
 refine F4 [] Tryz.func231 ?_
 refine I2 (B5x v st) ?_
 exact ⟨rfl,rfl⟩
theorem PxR.groups {bx:Nat} {items:List Ab.Item} {p:PSt} {s t:St} (h:PxR bx items p s t) (hg:p.groups.length≤1000):∃ dv gv f,t bx=some ⟨239,4,1,f⟩∧f 0=.agg [A8 4 E9 items,C6 p.us,dv,gv]∧(gv=.emp∨∃ b,gv=.own 1 b 0 p.groups.length) ∧
  ∀ (g:C8),S P 231 [gv,eS g] t fun r t'=>r=.bool (inB p.groups g)∧t'=t:=by
 obtain ⟨⟨dv,gv⟩,h⟩:=h
 obtain ⟨y,⟨f,rfl,hf⟩,hy⟩:=Y7.at (A3K _ _ _ _) h
 obtain ⟨_,_,_,hd⟩:=h
 obtain ⟨s0,hc,hg0⟩:=hd
 refine ⟨dv,gv,f,hy,hf,hg0.head,fun g=>?_⟩
 obtain ⟨s1,hc1,hs1⟩:=hg0
 rcases hc1 with ⟨h0,h1,rfl⟩ | ⟨h0,b,g0,hb,h1,rfl,hgg⟩
 ·have:p.groups=[]:=D7n h0
  subst h1
  rw [this]
  exact C2s g t
 ·subst h1
  exact C2t p.groups (by omega) g t b g0 (hs1 b _ (A0 ..)) hgg
def goB {σ : Type} (px : σ→PSt) (step : σ→B1→σ) (a : σ) (pr:B1) : σ:=if N2 pr.group||!inB (px a).groups pr.group then step a pr else a
def Z5 {σ : Type} (px : σ→PSt) (step : σ→B1→σ) (sm:B1→Bool) (l:List B1) (a : σ) (o:List Int) : σ:=(o.filter fun x=>sm (F2 l x)).foldl (fun a x=>goB px step a (F2 l x)) a
def A2M (sm:B1→Bool) (l:List B1) (o:List Int) (i:Nat):List QE:=((List.range i).filter fun k=>sm (F2 l (gI o k))).map fun (k:Nat)=>(-(k:Int),gI o k)
theorem B0h (sm:B1→Bool) (l:List B1) (o:List Int) (i:Nat):A2M sm l o (i+1)=A2M sm l o i++(if sm (F2 l (gI o i))=true then [(-(i:Int),gI o i)] else []):=by
 unfold A2M
 rw [D8m,D8A,D7k]
 congr 1
 by_cases h:sm (F2 l (gI o i))=true
 ·rw [if_pos h,D7I (p:=fun k=>sm (F2 l (gI o k))) h];rfl
 ·rw [if_neg h,D7O (p:=fun k=>sm (F2 l (gI o k))) h];rfl
theorem B8N (sm:B1→Bool) (l:List B1) (o:List Int) (i:Nat):(A2M sm l o i).length≤i:=by
 unfold A2M
 rw [D6J]
 exact D7S (D9g ..) (by simp)
theorem B2d (sm:B1→Bool) (l:List B1) (o:List Int):∀ i,i≤o.length→(A2M sm l o i).map (·.2)=(o.take i).filter fun x=>sm (F2 l x)
 | 0,_=>by simp [A2M]
 | i+1,h=>by
  rw [B0h,D7k,B2d sm l o i (by omega),L0 (show i<o.length by omega),D8A]
  congr 1
  show List.map (fun x=>x.2) (if sm (F2 l (gI o i))=true then [(-(i:Int),gI o i)] else [])=List.filter (fun x=>sm (F2 l x)) [gI o i]
  by_cases hs:sm (F2 l (gI o i))=true
  ·rw [if_pos hs,D7I (p:=fun x=>sm (F2 l x)) hs];rfl
  ·rw [if_neg hs,D7O (p:=fun x=>sm (F2 l x)) hs];rfl
theorem B3h (sm:B1→Bool) (l:List B1) (o:List Int) (i:Nat):(A2M sm l o i).Pairwise fun a b=>G6 b a=false:=by
 unfold A2M
 refine List.Pairwise.map _ (fun a b h=>?_) ((List.pairwise_lt_range (n:=i)).filter _)
 rw [S4]
 show ¬(-(b:Int) > -(a:Int)∨(-(b:Int) = -(a:Int)∧_))
 omega
theorem B6Y {l:List B1} {codes:List C8} {o:List Int} (ho:B0t l codes o) {x:Int} (hx:x∈P0 l o):0≤x∧x.toNat<l.length:=by
 obtain ⟨e,he,rfl⟩:=D6Z.1 hx
 have h:=A5o he
 exact A0E (ho.1.subset (A7 h.2))
theorem C0k {σ : Type} {N:Nat} (hN:A5V N) (bx:Nat) (items:List Ab.Item) (R : σ→St→St→Prop) (px : σ→PSt) (hR:∀ a,L2 (R a)) (hmore:∀ a s t t',R a s t→F1 t t'→R a s t') (hP:∀ a s t,R a s t→∃ s',PxR bx items (px a) s' t)
  (l:List B1) (codes:List C8) (hl:l.length≤60) (hc:codes.length≤9223372036854775807) (h20:(places l codes l.length).length≤N)
  (g:FuncId) (cs:List AV) (sm:B1→Bool) (hsome:∀ (pr:B1) (t:St),S P g (B7 pr::cs) t fun v t'=>v=.bool (sm pr)∧t'=t)
  (f:FuncId) (fs ds:List AV) (step : σ→B1→σ) (Inv : σ→Nat→Prop) (hgr:∀ a n,Inv a n→(px a).groups.length≤1000) (hle:∀ a n,Inv a (n+1)→Inv a n)
  (hdo:∀ (a : σ) (n:Nat) (pr:B1) (s t:St),pr∈l→sm pr=true→Inv a (n+1)→R a s t→S P f (fs++[B7 pr]++ds) t fun v t'=>v=.tuple []∧R (step a pr) s t')
  (hinv:∀ (a : σ) (n:Nat) (pr:B1),pr∈l→sm pr=true→Inv a (n+1)→Inv (step a pr) n) (a0 : σ) (hI:Inv a0 60) (s t:St) (h:R a0 s t) :
  S P 181 [.optr 4 bx 0 0,A8 15 B7 l,C7 codes,.fn (.func g) [] cs,.fn (.func f) fs ds] t fun v t'=>v=.tuple []∧∃ o,B0t l codes o∧R (Z5 px step sm l a0 (P0 l o)) s t':=by
 refine F4 [] Tryz.func181 ?_
 refine call (B2e t) (fun v t1 hv=>?_)
 obtain ⟨q,rfl,hq⟩:=hv
 conv=>whnf
 refine call (C6Q hN l codes hl hc h20 t1) (fun v t2 hv=>?_)
 obtain ⟨⟨o,ho,rfl⟩,rfl⟩:=hv
 have hmem:=fun {x:Int} (hx:x∈P0 l o)=>B6Y ho hx
 have hrl:(P0 l o).length≤60:=by
  rw [D6J,A5n,ho.1.length_eq]
  have:=A1i l codes l.length;omega
 obtain ⟨r,hr⟩:∃ r:List Int,r=P0 l o:=⟨_,rfl⟩
 rw [←hr] at hrl
 have hmem':∀ x∈r,0≤x∧x.toNat<l.length:=fun x hx=>hmem (by rw [←hr];exact hx)
 have hInvle:∀ (a : σ) (n m:Nat),m≤n→Inv a n→Inv a m:=fun a n m hmn h=>by
  induction n with
  | zero=>have:m=0:=by omega
          subst this;exact h
  | succ n ih =>
   rcases D8k n m with h1 | h1
   ·have:m=n+1:=by omega
    subst this;exact h
   ·exact ih h1 (hle a n h)
 have hfin:∀ t',R (Z5 px step sm l a0 r) s t'→∃ o,B0t l codes o∧R (Z5 px step sm l a0 (P0 l o)) s t':=fun t' h=>⟨o,ho,by rw [←hr];exact h⟩
 have hv:B0 (P0 l o)=B0 r:=by rw [hr]
 rw [hv]
 clear hv
 conv=>whnf
 refine ⟨[0,1,3,4,10,19,20,21],fun m vs t'=>∃ i:Nat,i≤r.length∧m=r.length - i∧vs=[.optr 4 bx 0 0,A8 15 B7 l,.fn (.func g) [] cs,.fn (.func f) fs ds,.optr 1 q 0 0,B0 r,eI r.length,eI i]∧QSt t q true (A2M sm l r i) t',?_,?_⟩
 ·conv=>whnf
  exact ⟨_,0,D7e _,rfl,rfl,hq⟩
 ·clear hq
  rintro m vs t' ⟨i,hi,rfl,rfl,hq⟩
  have hpl:=B8N sm l r i
  conv=>whnf
  cases hd:decide ((i:Int)<(r.length:Int))
  ·have:=D6G hd
   obtain rfl:i=r.length:=by omega
   have hsnd:=B2d sm l r r.length (D6M _)
   rw [D6O] at hsnd;conv=>whnf
   refine ⟨[0,1,4,10],fun m vs t'=>∃ (a : σ) (rest:List QE) (fl:Bool) (t0:St),m=rest.length∧vs=[.optr 4 bx 0 0,A8 15 B7 l,.fn (.func f) fs ds,.optr 1 q 0 0]∧(rest.map (·.2)).foldl (fun a x=>goB px step a (F2 l x)) a=Z5 px step sm l a0 r∧(∀ e∈rest,(0≤e.2∧e.2.toNat<l.length)∧sm (F2 l e.2)=true)∧(rest.Pairwise fun a b=>G6 b a=false)∧Inv a rest.length∧R a s t0∧QSt t0 q fl rest t',?_,?_⟩
   ·conv=>whnf
    refine ⟨_,a0,A2M sm l r r.length,true,t,rfl,rfl,by rw [hsnd];rfl,fun e he=>?_,B3h sm l r r.length,hInvle a0 60 _ (by omega) hI,h,hq⟩
    have:e.2∈(A2M sm l r r.length).map (·.2):=D9s he
    rw [hsnd] at this
    obtain ⟨h1,h2⟩:=D7F.1 this
    exact ⟨hmem' _ h1,h2⟩
   ·clear hq
    rintro m vs t' ⟨a,rest,fl,t0,rfl,rfl,hF,hrm,hsort,hIa,hRa,hq⟩
    conv=>whnf
    refine I2 (A9J _ _ _ _ _ hq) ?_
    cases rest with
    | nil =>
     conv=>whnf
     refine ⟨rfl,hfin t' ?_⟩
     rw [←hF]
     exact hmore _ _ _ _ hRa hq.sup
    | cons x rest =>
     rw [D8p] at hsort
     have hx:=hrm x (D7f ..)
     have hlen0:decide (((x::rest).length:Int)>0)=true:=D7m (by rw [D7o];omega)
     rw [hlen0];conv=>whnf
     refine call (A9K _ _ _ _ _ _ hq hsort.1) (fun v t2 hv=>?_)
     obtain ⟨rfl,hq2⟩:=hv
     have hpr:F2 l x.2∈l:=A7 hx.1.2
     have hgl:=hgr a _ hIa
     obtain ⟨s',hpx⟩:=hP a s t2 (hmore _ _ _ _ hRa hq2.sup)
     obtain ⟨dv,gv,fx,hbx,hfx,hgv,hcont⟩:=hpx.groups hgl
     conv=>whnf
     -- what is behind the round
     have hgo:goB px step a (F2 l x.2)=if N2 (F2 l x.2).group||!inB (px a).groups (F2 l x.2).group then step a (F2 l x.2) else a:=rfl
     have hF2:(rest.map (·.2)).foldl (fun a x=>goB px step a (F2 l x)) (goB px step a (F2 l x.2))=Z5 px step sm l a0 r:=by rw [←hF];rfl
     have round:∀ (b : σ) (t3:St),b=goB px step a (F2 l x.2)→Inv b rest.length→(∃ t0',R b s t0'∧QSt t0' q false rest t3)→∃ m',m'<rest.length+1∧∃ (a : σ) (rest_1:List QE) (fl:Bool) (t0:St),m'=rest_1.length∧[AV.optr 4 bx 0 0,A8 15 B7 l,.fn (.func f) fs ds,.optr 1 q 0 0]=[AV.optr 4 bx 0 0,A8 15 B7 l,.fn (.func f) fs ds,.optr 1 q 0 0]∧(rest_1.map (·.2)).foldl (fun a x=>goB px step a (F2 l x)) a=Z5 px step sm l a0 r∧(∀ e∈rest_1,(0≤e.2∧e.2.toNat<l.length)∧sm (F2 l e.2)=true)∧(rest_1.Pairwise fun a b=>G6 b a=false)∧Inv a rest_1.length∧R a s t0∧QSt t0 q fl rest_1 t3 :=
      fun b t3 hb hib ⟨t0',h1,h2⟩=>⟨rest.length,D9w _,b,rest,false,t0',rfl,rfl,by rw [hb];exact hF2,fun e he=>hrm e (D7d _ he),hsort.2,hib,h1,h2⟩
     -- the call itself
     have doit:∀ K:KK,(∀ t3,(∃ t0',R (step a (F2 l x.2)) s t0'∧QSt t0' q false rest t3)→K (.tuple []) t3)→A1M P f (fs++[B7 (F2 l x.2)]++ds) t2 K:=fun K hK=>by
      refine call (B6Q (hR a) (hmore a) (hR _) hRa hq2 (fun u hu=>hdo a rest.length (F2 l x.2) u t2 hpr hx.2 (by simpa using hIa) hu)) (fun v t3 hv=>?_)
      rw [hv.1];exact hK t3 hv.2
     refine ⟨[],[],[0,1,2,3,4,5,6,7,8,9,10,11,12,13,14,15,16,17,18],by kernel_rfl,?_⟩;conv=>whnf
     refine E7 ?_
     have hnil:(ByteArray.toList (l.getD x.2.toNat default).group==ByteArray.toList ⟨#[]⟩)=N2 (F2 l x.2).group:=rfl
     have hyes:(N2 (F2 l x.2).group||!inB (px a).groups (F2 l x.2).group)=true→∀ K:KK,(∀ t3,(∃ (b : σ),b=goB px step a (F2 l x.2)∧Inv b rest.length∧∃ t0',R b s t0'∧QSt t0' q false rest t3)→K (.tuple []) t3)→A1M P f (fs++[B7 (F2 l x.2)]++ds) t2 K:=fun hy K hK =>
      doit K fun t3 h3=>hK t3 ⟨_,by rw [hgo,if_pos hy],hinv a _ _ hpr hx.2 (by simpa using hIa),h3⟩
     rw [hnil]
     cases hg:N2 (F2 l x.2).group with
     | true =>
      conv=>whnf
      refine E7 ?_
      rw [A4V,A4V]
      refine hyes (by rw [hg];rfl) _ (fun t3 h3=>?_);conv=>whnf
      refine G2 ?_
      obtain ⟨b,h4,h5,h6⟩:=h3
      exact round b t3 h4 h5 h6
     | false =>
      rcases hgv with rfl | ⟨bg,rfl⟩
      all_goals
       conv=>whnf
       refine J6 hbx hfx ?_
       refine E7 ?_
       refine cqW (hcont (F2 l x.2).group) ?_
       cases hi:inB (px a).groups (F2 l x.2).group with
       | false =>
        conv=>whnf
        refine E7 ?_
        rw [A4V,A4V]
        refine hyes (by rw [hi];simp) _ (fun t3 h3=>?_);conv=>whnf
        refine G2 ?_
        obtain ⟨b,h4,h5,h6⟩:=h3
        exact round b t3 h4 h5 h6
       | true =>
        conv=>whnf
        refine G2 ?_
        refine round a t2 (by rw [hgo,if_neg (by rw [hg,hi];simp)]) (hle a _ (by simpa using hIa)) ⟨t0,hRa,hq2⟩
  ·have hi':i<r.length:=by have:=D6H hd;omega
   have hm:=hmem' _ (A7 hi')
   have es:=B0h sm l r i
   conv=>whnf
   refine E7 ?_
   refine ⟨rfl,⟨by show 0≤gI r i;exact hm.1,by show gI r i<(l.length:Int);have h1:=hm.1;have h2:=hm.2;show gI r i<_;have:(gI r i).toNat<l.length:=h2;have:0≤gI r i:=h1;omega⟩,?_⟩;conv=>whnf
   refine I2 (hsome (F2 l (gI r i)) t') ?_
   refine B9 (fun h3=>?_) (fun h3=>?_)<;>rw [h3]
   ·rw [if_pos h3] at es
    have w:IntKind.i64.wrap (0 - (i:Int)) = -(i:Int):=by rw [show 0 - (i:Int) = -(i:Int) by omega];exact A5 (by omega) (by omega)
    conv=>whnf
    rw [w]
    refine call (A8O t q _ (-(i:Int)) (gI r i) _ hq (by omega)) (fun v t2 hv=>?_)
    obtain ⟨rfl,hq'⟩:=hv
    conv=>whnf
    refine G2 ?_
    exact ⟨r.length - (i+1),by omega,i+1,by omega,rfl,by rw [B4 (by omega)],by rw [es];exact hq'⟩
   ·have h3':¬ sm (F2 l (gI r i))=true:=by rw [h3];simp
    rw [if_neg h3',D8y] at es;conv=>whnf
    refine G2 ?_
    exact ⟨r.length - (i+1),by omega,i+1,by omega,rfl,by rw [B4 (by omega)],by rw [es];exact hq⟩
def D8 (r:D6) (codes:List C8) (l:List E8):Int :=
 if K6 r=false then 10 else if S6 codes=false then 2 else O6 (known r.items) l
theorem C4r (r:D6) (codes:List C8) (l:List E8) (hf:X1 r) (hc:codes.length≤Big) (hi:r.items.length≤9223372036854775807) (st:St) :
  S P 178 [F7 r,C7 codes,A8 3 J1 l] st fun v st'=>v=eI (D8 r codes l)∧st'=st:=by
 refine F4 [3] Tryz.func178 ?_
 refine I2 (B5k r hf st) ?_
 have hP:D8 r codes l=if K6 r=false then 10 else if S6 codes=false then 2 else O6 (known r.items) l:=rfl
 cases h1:K6 r
 ·rw [if_pos h1] at hP;conv=>whnf
  exact ⟨by rw [hP];rfl,rfl⟩
 ·rw [if_neg (by rw [h1];simp)] at hP;conv=>whnf
  refine I2 (B9L codes hc st) ?_
  cases h2:S6 codes
  ·rw [if_pos h2] at hP;conv=>whnf
   exact ⟨by rw [hP];rfl,rfl⟩
  ·rw [if_neg (by rw [h2];simp)] at hP;conv=>whnf
   refine I2 (C5M r.items l hi st) ?_
   exact ⟨by rw [hP];rfl,rfl⟩
abbrev W1 (l:List E8):List B2:=G5 l l.length
structure A8g (items:List Ab.Item) (l:List E8):Prop where
 len:l.length≤1000
 line:∀ x∈l,lineC x=true
 known:∀ x∈l,known items x.sku=true
 units:L9 l≤100000
 gross:J8 l≤10000000000000
theorem C6D {items:List Ab.Item} {l:List E8} (h:O6 (known items) l=0):A8g items l:=by
 unfold O6 at h
 split at h
 ·cases h
 ·rename_i hl
  split at h
  ·rename_i x hx
   split at h<;>cases h
  ·rename_i hf
   have hall:∀ x∈l,K1 (Go.Proofs.YtaapofnkmpiknaaGreat.known items) x=false:=fun x hx=>D8x.2 (D9i.1 hf x hx)
   have hb:∀ x∈l,Go.Proofs.YtaapofnkmpiknaaGreat.known items x.sku=true∧lineC x=true:=fun x hx=>by
    have:=hall x hx
    unfold K1 at this
    simpa using this
   split at h
   ·cases h
   ·rename_i hg
    simp only [D7J,D6F,not_or] at hg
    exact ⟨by omega,fun x hx=>(hb x hx).2,fun x hx=>(hb x hx).1,by omega,by omega⟩
theorem A8g.may {items:List Ab.Item} {l:List E8} (h:A8g items l):(O6 (fun _=>true) l==0)=true:=by
 have:O6 (fun _=>true) l=0:=by
  unfold O6
  rw [if_neg (by have:=h.len;omega)]
  have hf:l.find? (K1 fun _=>true)=none:=D9i.2 fun x hx=>by
   unfold K1;rw [h.line x hx];simp
  rw [hf]
  simp only
  rw [if_neg]
  have:=h.units
  have:=h.gross
  simp only [D7J,D6F,not_or]
  omega
 rw [this];rfl
theorem A2A (l:List E8) (hl:∀ x∈l,lineC x=true):∀ k,k≤l.length→((G5 l k).length:Int)=L9 (l.take k)∧A2 (D9 (G5 l k))=J8 (l.take k)∧(∀ u∈G5 l k,0≤u.net∧0≤u.line∧u.line.toNat<k∧u.opn=true)
 | 0,_=>⟨rfl,rfl,fun u hu=>by simp [G5] at hu⟩
 | k+1,h=>by
  obtain ⟨h1,h2,h3⟩:=A2A l hl k (by omega)
  have hx:=(A0A _).1 (hl _ (A7 (show k<l.length by omega)))
  have eN:L9 (l.take (k+1))=L9 (l.take k)+(l.getD k default).qty:=H6 (by omega) _ _
  have eG:J8 (l.take (k+1))=J8 (l.take k)+(l.getD k default).qty * (l.getD k default).price:=H6 (by omega) _ _
  have hup:G5 l (k+1)=G5 l k++List.replicate (l.getD k default).qty.toNat (lnU l k):=rfl
  have hsr:∀ (n:Nat) (c:Int),A2 (List.replicate n c)=n * c:=fun n c=>by
   induction n with
   | zero=>simp [A2]
   | succ n ih=>rw [List.replicate_succ,J7,ih,show ((n+1:Nat):Int)=(n:Int)+1 by omega,D9j,Int.one_mul];omega
  refine ⟨?_,?_,fun u hu=>?_⟩
  ·rw [hup,D6P,D7L,eN,←h1];omega
  ·unfold D9 at h2 ⊢
   rw [hup,D7k,F5,h2,List.map_replicate,hsr,eG]
   show _+((l.getD k default).qty.toNat:Int) * (l.getD k default).price=_
   rw [D8u hx.1.1]
  ·rw [hup] at hu
   rcases D7T.1 hu with hu | hu
   ·have:=h3 u hu;exact ⟨this.1,this.2.1,by omega,this.2.2.2⟩
   ·rw [List.eq_of_mem_replicate hu]
    refine ⟨hx.2.1,?_,?_,rfl⟩
    ·show (0:Int)≤(k:Int);omega
    ·show ((k:Int)).toNat<k+1;omega
theorem B5D {items:List Ab.Item} {l:List E8} (h:A8g items l):A7m (C3 items l) (W1 l):=by
 obtain ⟨h1,h2,h3⟩:=A2A l h.line l.length (D6M _)
 rw [D6O] at h1 h2
 have hN:=h.units
 have hG:=h.gross
 have hlen:(C3 items l).length=l.length:=D6J ..
 exact ⟨⟨by show (G5 l l.length).length≤100000;omega,fun u hu=>(h3 u hu).1,by show A2 (D9 (G5 l l.length))≤_;omega⟩,by rw [hlen];have:=h.len;omega,fun u hu=>⟨(h3 u hu).2.1,by rw [hlen];exact (h3 u hu).2.2.1⟩⟩
def D3T (bn n:Nat) (net ship:Int) (y:K4):Prop:=∃ f,y=⟨170,4,1,f⟩∧f 0=.agg [.own 1 bn 0 n,eI net,eI ship,.emp]
def R2 (bx bp bn n:Nat) (items:List Ab.Item) (net:Int) (a:PSt×Int):St→St→Prop:=Y7 bp (D3T bn n net a.2) (PxR bx items a.1)
theorem C3k (bx bp bn n:Nat) (items:List Ab.Item) (net:Int) (a:PSt×Int):L2 (R2 bx bp bn n items net a):=A0w (A4Z _ _ _)
theorem R2.more {bx bp bn n:Nat} {items:List Ab.Item} {net:Int} {a:PSt×Int} {s t t':St} (h:R2 bx bp bn n items net a s t) (hs:F1 t t'):R2 bx bp bn n items net a s t':=by
 obtain ⟨h1,y,h2,h3⟩:=h
 exact ⟨h1,y,h2,h3.more hs⟩
def W0 (net:Int) (a:PSt×Int) (pr:B1):PSt×Int:=((A7w a.1 pr net a.2).2,(A7w a.1 pr net a.2).1)
theorem B2w (bx bp bn n:Nat) (items:List Ab.Item) (net:Int) (a:PSt×Int) (pr:B1) (h0:0≤a.2) (h1:a.2≤10000000000000) (hd:a.1.deals.length≤1000) (hg:a.1.groups.length≤1000) (s t:St) (h:R2 bx bp bn n items net a s t) :
  S P 185 [B7 pr,.fptr (.optr 4 bx 0 0) 0,.optr 4 bp 0 0] t fun v t'=>v=.tuple []∧R2 bx bp bn n items net (W0 net a pr) s t':=by
 obtain ⟨hbp,y,⟨f,rfl,hf⟩,hP⟩:=h
 have hat:t bp=some ⟨170,4,1,f⟩:=(A4Z _ _ _).sup hP bp _ (A0 ..)
 refine F4 [3] Tryz.func185 ?_
 refine J6 hat hf ?_
 refine J6 hat hf ?_
 refine call (B9b bx items a.1 pr net a.2 h0 h1 hd hg _ t hP) (fun v t2 hv=>?_)
 obtain ⟨rfl,hP2⟩:=hv
 have hat2:t2 bp=some ⟨170,4,1,f⟩:=(A4Z _ _ _).sup hP2 bp _ (A0 ..)
 conv=>whnf
 refine Z7 hat2 hf ?_
 refine ⟨rfl,?_⟩
 exact Y7.set (A4Z _ _ _) (Q:=fun y=>y=⟨170,4,1,f⟩) ⟨hbp,_,rfl,hP2⟩ ⟨_,rfl,by rw [A4];rfl⟩
def F8 (us:List B2) (j:Nat):Int:=A2 ((us.filter fun u=>u.line.toNat==j).map B2.net)
def X4 (n:Nat) (us:List B2):List Int:=(List.range n).map (F8 us)
theorem Z0 {us:List B2} {k:Nat} (hk:k<us.length) (j:Nat):F8 (us.take (k+1)) j=if (gU us k).line.toNat=j then F8 (us.take k) j+(gU us k).net else F8 (us.take k) j:=by
 unfold F8
 rw [L0 hk,D8A,D7k,F5]
 by_cases h:(gU us k).line.toNat=j
 ·rw [if_pos h,D7I (by show ((gU us k).line.toNat==j)=true;rw [h];simp)]
  simp [A2]
 ·rw [if_neg h,D7O (by show ¬((gU us k).line.toNat==j)=true;simpa using h)]
  simp [A2]
theorem A0V {us:List B2} (h:E3 us) (k j:Nat):0≤F8 (us.take k) j∧F8 (us.take k) j≤A2 (D9 us):=by
 have hsub:((us.take k).filter fun u=>u.line.toNat==j).Sublist us:=D8F.trans (List.take_sublist _ _)
 have hgen:∀ {a b:List B2},a.Sublist b→(∀ u∈b,0≤u.net)→0≤A2 (a.map B2.net)∧A2 (a.map B2.net)≤A2 (b.map B2.net):=fun {a b} hs=>by
  induction hs with
  | slnil=>intro _;exact ⟨D7l _,D7l _⟩
  | cons x _ ih =>
   intro hb
   have h1:=ih fun u hu=>hb u (D7d _ hu)
   have h2:=hb x (D7f ..)
   rw [D7H,J7];omega
  | cons_cons x _ ih =>
   intro hb
   have h1:=ih fun u hu=>hb u (D7d _ hu)
   have h2:=hb x (D7f ..)
   rw [D7H,D7H,J7,J7];omega
 exact hgen hsub h.pos
def U3 (pr:B1):Bool:=!(pr.kind==7)
def A0l (pr:B1):Bool:=pr.kind==7
def p1B (r:D6) (l:List E8) (o:List Int):PSt:=Z5 (fun p=>p) (A4W (C3 r.items l)) U3 r.promos ⟨W1 l,[],[]⟩ o
def O0 (p:PSt):Int:=A2 (D9 p.us)
def p2B (r:D6) (l:List E8) (p1:PSt) (o:List Int):PSt×Int:=Z5 (fun a=>a.1) (W0 (O0 p1)) A0l r.promos (p1,A0O r.ship (W1 l).length (O0 p1)) o
def A0c (r:D6) (l:List E8) (o1 o2:List Int):A3V:=⟨X4 l.length (p1B r l o1).us,O0 (p1B r l o1),(p2B r l (p1B r l o1) o2).2,(p2B r l (p1B r l o1) o2).1.deals⟩
theorem C0Y {σ : Type} {px : σ→PSt} {step : σ→B1→σ} {sm:B1→Bool} {l:List B1} {Inv : σ→Nat→Prop} (hle:∀ a n,Inv a (n+1)→Inv a n) (hinv:∀ (a : σ) (n:Nat) (pr:B1),pr∈l→sm pr=true→Inv a (n+1)→Inv (step a pr) n) :
  ∀ (o:List Int) (a : σ) (n:Nat),(∀ x∈o,x.toNat<l.length)→Inv a (n+o.length)→Inv (Z5 px step sm l a o) n:=by
 intro o
 unfold Z5
 induction o with
 | nil=>intro a n _ h;exact h
 | cons x o ih =>
  intro a n hm h
  have hm':∀ y∈o,y.toNat<l.length:=fun y hy=>hm y (D7d _ hy)
  have hx:F2 l x∈l:=A7 (hm x (D7f ..))
  have h':Inv a ((n+o.length)+1):=by rw [D7o] at h;exact h
  by_cases hs:sm (F2 l x)=true
  ·rw [D7I (p:=fun x=>sm (F2 l x)) hs,D7U]
   refine ih _ _ hm' ?_
   unfold goB
   split
   ·exact hinv a _ _ hx hs h'
   ·exact hle _ _ h'
  ·rw [D7O (p:=fun x=>sm (F2 l x)) hs]
   exact ih _ _ hm' (hle _ _ h')
def C5P (items:List Ab.Item) (us0:List B2) (p:PSt) (n:Nat):Prop:=A7m items p.us∧p.deals.length+n≤100∧p.groups.length+n≤100∧∃ x,Off us0 p.us x
def C8n (a:PSt×Int) (n:Nat):Prop:=a.1.deals.length+n≤200∧a.1.groups.length+n≤200∧0≤a.2∧a.2≤10000000000000
theorem B3I {items:List Ab.Item} {us0:List B2} {a:PSt} {n:Nat} {pr:B1} (hfit:Q7 pr) (hright:H2 pr=true) (hk:U3 pr=true) (h:C5P items us0 a (n+1)):C5P items us0 (A4W items a pr) n:=by
 obtain ⟨h1,h2,h3,x,h4⟩:=h
 obtain ⟨y,h5⟩:=B5Q h1 hfit hright (by simpa [U3] using hk)
 refine ⟨h1.off h5,?_,?_,x+y,h4.trans h5⟩
 ·unfold A4W;split
  ·simp only [A1F,D6P,D7o,D7X];omega
  ·omega
 ·unfold A4W;split
  ·simp only [A1F,D6P]
   split<;>simp<;>omega
  ·omega
theorem B3J {net:Int} {a:PSt×Int} {n:Nat} {pr:B1} (hright:H2 pr=true) (hk:A0l pr=true) (h:C8n a (n+1)):C8n (W0 net a pr) n:=by
 obtain ⟨h1,h2,h3,h4⟩:=h
 have hk7:pr.kind=7:=by simpa [A0l] using hk
 have hr:=(A3R hright).ship hk7
 have hb:=T7 a.2 pr.rate
 have hle:=A5p h3 (show 0≤pr.rate by omega) hr.2
 unfold W0 A7w
 split
 ·exact ⟨by show a.1.deals.length+n≤200;omega,by show a.1.groups.length+n≤200;omega,h3,h4⟩
 ·refine ⟨?_,?_,by show 0≤a.2 - J9 a.2 pr.rate;omega,by show a.2 - J9 a.2 pr.rate≤_;omega⟩
  ·show (if J9 a.2 pr.rate>0 then A1F a.1 pr (J9 a.2 pr.rate) else a.1).deals.length+n≤200
   split
   ·simp only [A1F,D6P,D7o,D7X];omega
   ·omega
  ·show (if J9 a.2 pr.rate>0 then A1F a.1 pr (J9 a.2 pr.rate) else a.1).groups.length+n≤200
   split
   ·simp only [A1F,D6P]
    split<;>simp<;>omega
   ·omega
theorem PxR.deals' {bx:Nat} {items:List Ab.Item} {p:PSt} {s t:St} (h:PxR bx items p s t):∃ dv gv f,t bx=some ⟨239,4,1,f⟩∧f 0=.agg [A8 4 E9 items,C6 p.us,dv,gv] ∧
  ((p.deals=[]∧dv=.emp)∨∃ bd g,dv=.own 2 bd 0 p.deals.length∧s bd=none∧t bd=some ⟨221,2,p.deals.length,g⟩∧∀ k,k<p.deals.length→g k=A1y p.deals k):=by
 obtain ⟨⟨dv,gv⟩,h⟩:=h
 obtain ⟨y,⟨f,rfl,hf⟩,hy⟩:=Y7.at (A3K _ _ _ _) h
 obtain ⟨hbx,_,_,hd⟩:=h
 obtain ⟨s0,hc,hg0⟩:=hd
 refine ⟨dv,gv,f,hy,hf,?_⟩
 rcases hc with ⟨h0,h1,rfl⟩ | ⟨h0,b,g0,hb,h1,rfl,hgg⟩
 ·exact .inl ⟨D7n h0,h1⟩
 ·refine .inr ⟨b,g0,h1,?_,(A8n _ _).sup hg0 b _ (A0 ..),hgg⟩
  by_cases e:b=bx
  ·subst e;rw [A0] at hb;cases hb
  ·rw [A9 e] at hb;exact hb
structure C5L (r:D6) (codes:List C8) (l:List E8):Prop where
 rules:K6 r=true
 codes:S6 codes=true
 lines:A8g r.items l
 few:r.promos.length≤60
 promo:∀ p∈r.promos,H2 p=true
 fee:0≤r.ship.fee∧r.ship.fee≤1000000000
theorem A6R {r:D6} {codes:List C8} {l:List E8} (h:D8 r codes l=0):C5L r codes l:=by
 unfold D8 at h
 split at h
 ·cases h
 ·rename_i h1
  split at h
  ·cases h
  ·rename_i h2
   have hr:K6 r=true:=by simpa using h1
   have hr':=hr
   unfold K6 at hr'
   simp only [D6I] at hr'
   obtain ⟨⟨⟨⟨_,hp⟩,_⟩,hs⟩,_⟩:=hr'
   unfold promosC at hp
   simp only [D6I,D6F] at hp
   have hs':N9 0 1000000000 r.ship.fee=true:=by
    unfold B0i at hs
    simp only [D6I] at hs
    exact hs.1
   refine ⟨hr,by simpa using h2,C6D h,by omega,fun p hm=>?_,E0.1 hs'⟩
   obtain ⟨k,hk,rfl⟩:=D5 hm
   have:=A4q.1 hp.2 k hk
   unfold X0 at this
   simp only [D6I] at this
   exact this.1
def C8s (r:D6) (codes:List C8) (l:List E8) (v:AV):Prop :=
 (D8 r codes l≠0∧v=.tuple [A1a ⟨[],0,0,[]⟩,eI (D8 r codes l)]) ∨
 (D8 r codes l=0∧∃ o1 o2,B0t r.promos codes o1∧B0t r.promos codes o2∧v=.tuple [A1a (A0c r l (P0 r.promos o1) (P0 r.promos o2)),eI 0])
theorem price_S {N:Nat} (hN:A5V N) (r:D6) (codes:List C8) (l:List E8) (hf:X1 r) (hc:codes.length≤Big) (hi:r.items.length≤9223372036854775807) (h20:(places r.promos codes r.promos.length).length≤N) (st:St) :
  S P 122 [F7 r,C7 codes,A8 3 J1 l] st fun v st'=>C8s r codes l v∧st'=st:=by
 refine S.post (post:=fun v st'=>(D8 r codes l≠0∧v=.tuple [.agg [.emp,eI 0,eI 0,.emp],eI (D8 r codes l)]∧F1 st st') ∨
   (D8 r codes l=0∧∃ o1 o2 bn fn dv,B0t r.promos codes o1∧B0t r.promos codes o2∧v=.tuple [.agg [.own 1 bn 0 l.length,eI (A0c r l (P0 r.promos o1) (P0 r.promos o2)).net,eI (A0c r l (P0 r.promos o1) (P0 r.promos o2)).ship,dv],eI 0] ∧
    st bn=none∧st' bn=some ⟨2,1,l.length,fn⟩∧(∀ k,k<l.length→fn k=eI (gI (A0c r l (P0 r.promos o1) (P0 r.promos o2)).nets k))∧F1 st st' ∧
    (((A0c r l (P0 r.promos o1) (P0 r.promos o2)).deals=[]∧dv=.emp)∨∃ bd g,dv=.own 2 bd 0 (A0c r l (P0 r.promos o1) (P0 r.promos o2)).deals.length∧st bd=none∧bd≠bn∧st' bd=some ⟨221,2,(A0c r l (P0 r.promos o1) (P0 r.promos o2)).deals.length,g⟩∧∀ k,k<(A0c r l (P0 r.promos o1) (P0 r.promos o2)).deals.length→g k=A1y (A0c r l (P0 r.promos o1) (P0 r.promos o2)).deals k))) ?_
  (fun v st' hv=>by
   rcases hv with ⟨h1,rfl,hs⟩ | ⟨h1,o1,o2,bn,fn,dv,h2,h3,rfl,h4,h5,h6,hs,h7⟩
   ·refine ⟨_,st,⟨.inl ⟨h1,rfl⟩,rfl⟩,(hs.shift _).trans (A6.tuple (A6.cons (A6.agg ?_) (A6.keep _ _)) rfl)⟩
    exact A6.cons (I9 1 _) (A6.cons (A6.keep [eI 0] _) (A6.cons (A6.keep [eI 0] _) (I9 2 _)))
   ·refine ⟨_,st,⟨.inr ⟨h1,o1,o2,h2,h3,rfl⟩,rfl⟩,A6.tuple (A6.cons (A6.agg ?_) (A6.keep _ _)) rfl⟩
    have hnl:(A0c r l (P0 r.promos o1) (P0 r.promos o2)).nets.length=l.length:=by show (X4 _ _).length=_;unfold X4;rw [D6J,D7g]
    generalize A0c r l (P0 r.promos o1) (P0 r.promos o2)=X at *
    have e1:B0 X.nets=.arr 1 l.length (fun k=>eI (gI X.nets k)):=by unfold B0 A8;rw [hnl]
    refine A6.cons (t:=del st' bn) ?_ (A6.cons (A6.keep [eI X.net] _) (A6.cons (A6.keep [eI X.ship] _) ?_))
    ·rw [e1];exact O4 h5 rfl (D6M _) h6
    ·rcases h7 with ⟨h8,rfl⟩ | ⟨bd,g,rfl,h8,h9,h10,h11⟩
     ·rw [h8]
      exact ((F1.del hs h4).shift _).trans (I9 2 _)
     ·refine (O4 (b:=bd) (y:=⟨221,2,X.deals.length,g⟩) (f:=A1y X.deals) (by rw [A2F h9];exact h10) rfl (D6M _) h11).trans ?_
      exact (F1.del (F1.del hs h4) h8).shift _)
 refine F4 [3,9,10,13] Tryz.func122 ?_
 intro b6 hb6;conv=>whnf
 refine I2 (C4r r codes l hf hc hi _) ?_
 have h6s:∀ x:K4,F1 st (upd st b6 x):=fun x=>(F1.refl st).upd hb6
 cases h1:(D8 r codes l != 0)
 ·have hk0:D8 r codes l=0:=by simpa using h1
  have hck:=A6R hk0
  have hln:=hck.lines
  have hlen:=hln.len
  have hus0:=B5D hln
  obtain ⟨u1,u2,u3⟩:=A2A l hln.line l.length (D6M _)
  have hitl:(C3 r.items l).length=l.length:=D6J ..
  have hmo:=fun {o:List Int} (ho:B0t r.promos codes o)=>(show (P0 r.promos o).length≤60 by
   rw [D6J,A5n,ho.1.length_eq]
   have:=A1i r.promos codes r.promos.length
   have:=hck.few;omega)
  conv=>whnf
  refine I2 (A9w r.items l hi hlen hln.known _) ?_
  refine I2 (C7H l hlen (fun x hx=>((A0A x).1 (hln.line x hx)).1) hus0.ok.len hln.may _) ?_
  generalize hs6:(upd st b6 _)=s6 at *
  have h6:s6 b6=some ⟨170,4,1,fun _=>H7 B8O.zero⟩:=by rw [←hs6];exact A0 ..
  have hBig:(Big:Nat)≤9223372036854775807:=by decide
  have hst6:F1 st s6:=by rw [←hs6];exact h6s _
  intro bx hbx;conv=>whnf
  have hP0:PxR bx (C3 r.items l) ⟨W1 l,[],[]⟩ s6 (upd s6 bx ⟨239,4,1,fun _=>.agg [A8 4 E9 (C3 r.items l),C6 (W1 l),.emp,.emp]⟩) :=
   PxR.mk' hbx rfl (ROut.start (ROut.start (F1.refl _) _ _ _) _ _ _)
  refine call (C0k (σ:=PSt) hN bx (C3 r.items l) (PxR bx (C3 r.items l)) (fun p=>p) (A4Z bx (C3 r.items l)) (fun a s t t' h hs=>h.more hs) (fun a s t h=>⟨s,h⟩) r.promos codes hck.few (D7S hc hBig) h20 182 [.fptr (.fn (.func 180) [] []) 0] U3 (fun pr t=>C4e pr t)
   183 [.optr 4 bx 0 0] [] (A4W (C3 r.items l)) (C5P (C3 r.items l) (W1 l)) (fun a n h=>by have:=h.2.2.1;omega) (fun a n h=>⟨h.1,by have:=h.2.1;omega,by have:=h.2.2.1;omega,h.2.2.2⟩)
   (fun a n pr s t hm hs hI h=>C9L bx (C3 r.items l) a pr (hf.fit pr hm) (hck.promo pr hm) (by simpa [U3] using hs) hI.1 (by have:=hI.2.1;omega) (by have:=hI.2.2.1;omega) s t h)
   (fun a n pr hm hs hI=>B3I (hf.fit pr hm) (hck.promo pr hm) hs hI) ⟨W1 l,[],[]⟩ ⟨hus0,by simp,by simp,0,Off.refl hus0.ok⟩ s6 _ hP0) (fun v t1 hv=>?_)
  obtain ⟨rfl,o1,ho1,hP1⟩:=hv
  have hp1:Z5 (fun p=>p) (A4W (C3 r.items l)) U3 r.promos ⟨W1 l,[],[]⟩ (P0 r.promos o1)=p1B r l (P0 r.promos o1):=rfl
  have hI1:C5P (C3 r.items l) (W1 l) (p1B r l (P0 r.promos o1)) 40:=C0Y (fun a n h=>⟨h.1,by have:=h.2.1;omega,by have:=h.2.2.1;omega,h.2.2.2⟩) (fun a n pr hm hs hI=>B3I (hf.fit pr hm) (hck.promo pr hm) hs hI) (P0 r.promos o1) ⟨W1 l,[],[]⟩ 40 (fun x hx=>(B6Y ho1 hx).2) ⟨hus0,by have:=hmo ho1;show 0+(40+(P0 r.promos o1).length)≤100;omega,by have:=hmo ho1;show 0+(40+(P0 r.promos o1).length)≤100;omega,0,Off.refl hus0.ok⟩
  rw [hp1] at hP1
  have hQ:∀ o2,A0c r l (P0 r.promos o1) (P0 r.promos o2)=⟨X4 l.length (p1B r l (P0 r.promos o1)).us,O0 (p1B r l (P0 r.promos o1)),(p2B r l (p1B r l (P0 r.promos o1)) (P0 r.promos o2)).2,(p2B r l (p1B r l (P0 r.promos o1)) (P0 r.promos o2)).1.deals⟩:=fun _=>rfl
  generalize p1B r l (P0 r.promos o1)=p1 at *
  obtain ⟨hus1,hd1,hg1,xoff,hoff⟩:=hI1
  have hul1:p1.us.length=(W1 l).length:=hoff.len
  have hu1:=hus1.ok
  have hul:=hu1.len
  have hus:=hu1.sum
  have hnet0:=C1 hu1.nets0
  have hBP:=A4Z bx (C3 r.items l) p1
  conv=>whnf
  refine mkO rfl rfl rfl (by show 8 * l.length≤_;omega) (by omega) (by rfl) (fun bn hbn=>?_);conv=>whnf
  intro bp hbp
  have hnb:bn≠bp:=fun e=>by subst e;rw [A0] at hbp;cases hbp
  have hbp1:t1 bp=none:=by rw [A9 hnb.symm] at hbp;exact hbp
  have hbn6:s6 bn=none:=(hBP.sup hP1).none hbn
  have hbp6:s6 bp=none:=(hBP.sup hP1).none hbp1
  conv=>whnf
  refine Z7 (A0 ..) rfl ?_
  -- the pricer,what the lines come to,what is made of it
  have hP2:=fun (Y Z:K4)=>hBP.begin (y:=Z) (hBP.begin (y:=Y) hP1 hbn) (by rw [A9 hnb.symm];exact hbp1)
  have hload:∀ {Y Z:K4} {t:St},PxR bx (C3 r.items l) p1 (upd (upd s6 bn Y) bp Z) t→t bn=some Y∧t bp=some Z:=fun h=>⟨hBP.sup h bn _ (by rw [A9 hnb,A0]),hBP.sup h bp _ (A0 ..)⟩
  have hwn:∀ {Y Z Y':K4} {t:St},PxR bx (C3 r.items l) p1 (upd (upd s6 bn Y) bp Z) t→PxR bx (C3 r.items l) p1 (upd (upd s6 bn Y') bp Z) (upd t bn Y'):=fun {Y Z Y' t} h=>by
   have:=hBP.write (b:=bn) (y':=Y') h (by rw [A9 hnb,A0])
   rw [R1 hnb.symm,C0] at this;exact this
  have hwp:∀ {Y Z Z':K4} {t:St},PxR bx (C3 r.items l) p1 (upd (upd s6 bn Y) bp Z) t→PxR bx (C3 r.items l) p1 (upd (upd s6 bn Y) bp Z') (upd t bp Z'):=fun {Y Z Z' t} h=>by
   have:=hBP.write (b:=bp) (y':=Z') h (A0 ..)
   rw [C0] at this;exact this
  have hP3:=hP2 ⟨2,1,l.length,fun _=>H7 r2.zero⟩ ⟨170,4,1,fun _=>H7 B8O.zero⟩
  have hP4:=hwp (Z':=⟨170,4,1,I4 (fun _=>H7 B8O.zero) 0 (.agg [.own 1 bn 0 l.length,eI 0,eI 0,.emp])⟩) hP3
  obtain ⟨dv1,gv1,fx1,hx1,hfx1,_,_⟩:=hP4.at
  refine J6 hx1 hfx1 ?_
  have hline:∀ k,k<p1.us.length→0≤(gU p1.us k).line∧(gU p1.us k).line.toNat<l.length:=fun k hk=>by
   have:=hus1.line _ (A7 hk)
   rw [hitl] at this;exact this
  refine ⟨[1,3,6,9,10,11,45,46,47],fun m vs t=>∃ (k:Nat) (fn fp:Nat→AV),k≤p1.us.length∧m=p1.us.length - k∧vs=[C7 codes,.fptr (F7 r) 0,.optr 4 b6 0 0,.fptr (.optr 4 bx 0 0) 0,.fptr (.fn (.func 180) [] []) 0,.optr 4 bp 0 0,C6 p1.us,eI p1.us.length,eI k] ∧
   PxR bx (C3 r.items l) p1 (upd (upd s6 bn ⟨2,1,l.length,fn⟩) bp ⟨170,4,1,fp⟩) t∧fp 0=.agg [.own 1 bn 0 l.length,eI (A2 ((D9 p1.us).take k)),eI 0,.emp]∧∀ j,j<l.length→fn j=eI (F8 (p1.us.take k) j),?_,?_⟩
  ·conv=>whnf
   exact ⟨_,0,_,_,D7e _,rfl,rfl,hP4,A4 ..,fun j _=>rfl⟩
  ·clear hP4 hP3 hx1 hfx1 hP2
   rintro m vs t ⟨k,fn,fp,hk,rfl,rfl,hP,hfp,hfn⟩
   obtain ⟨htn,htp⟩:=hload hP
   conv=>whnf
   cases hd:decide ((k:Int)<(p1.us.length:Int))
   ·have:=D6G hd
    obtain rfl:k=p1.us.length:=by omega
    rw [D6O] at hfn
    have htk:(D9 p1.us).take p1.us.length=D9 p1.us:=by rw [←D6J (f:=B2.net),D6O]
    rw [htk] at hfp;conv=>whnf
    obtain ⟨dv1,gv1,fx1,hx1,hfx1,_,_⟩:=hP.at
    refine ⟨[11],[],[0,1,2,3,4,5,6,7,8,9,10,11],by kernel_rfl,?_⟩;conv=>whnf
    refine J6 hx1 hfx1 ?_
    refine J6 htp hfp ?_
    refine cqW (C9R r.ship p1.us.length (O0 p1) t) ?_
    refine Z7 htp hfp ?_
    have hP5:=hwp (Z':=⟨170,4,1,I4 fp 0 (.agg [.own 1 bn 0 l.length,eI (O0 p1),eI (A0O r.ship p1.us.length (O0 p1)),.emp])⟩) hP
    have hfee:0≤A0O r.ship p1.us.length (O0 p1)∧A0O r.ship p1.us.length (O0 p1)≤10000000000000:=by
     have:=hck.fee
     unfold A0O;split<;>omega
    generalize hfe:A0O r.ship p1.us.length (O0 p1)=fee at *
    have hR2:R2 bx bp bn l.length (C3 r.items l) (O0 p1) (p1,fee) (upd s6 bn ⟨2,1,l.length,fn⟩) (upd t bp ⟨170,4,1,I4 fp 0 (.agg [.own 1 bn 0 l.length,eI (O0 p1),eI fee,.emp])⟩):=⟨by rw [A9 hnb.symm];exact hbp6,_,⟨_,rfl,A4 ..⟩,hP5⟩
    refine call (C0k (σ:=PSt×Int) hN bx (C3 r.items l) (R2 bx bp bn l.length (C3 r.items l) (O0 p1)) (fun a=>a.1) (C3k bx bp bn l.length (C3 r.items l) (O0 p1)) (fun a s t t' h hs=>h.more hs) (fun a s t h=>⟨_,h.2.choose_spec.2⟩) r.promos codes hck.few (D7S hc hBig) h20 180 [] A0l (fun pr t=>B6k pr t)
     185 [] [.fptr (.optr 4 bx 0 0) 0,.optr 4 bp 0 0] (W0 (O0 p1)) C8n (fun a n h=>by have:=h.2.1;omega) (fun a n h=>⟨by have:=h.1;omega,by have:=h.2.1;omega,h.2.2⟩)
     (fun a n pr s t hm hs hI h=>B2w bx bp bn l.length (C3 r.items l) (O0 p1) a pr hI.2.2.1 hI.2.2.2 (by have:=hI.1;omega) (by have:=hI.2.1;omega) s t h)
     (fun a n pr hm hs hI=>B3J (hck.promo pr hm) hs hI) (p1,fee) ⟨by show p1.deals.length+60≤200;omega,by show p1.groups.length+60≤200;omega,hfee⟩ (upd s6 bn ⟨2,1,l.length,fn⟩) _ hR2) (fun v t2 hv=>?_)
    obtain ⟨rfl,o2,ho2,hR3⟩:=hv
    have hp2:Z5 (fun a:PSt×Int=>a.1) (W0 (O0 p1)) A0l r.promos (p1,fee) (P0 r.promos o2)=p2B r l p1 (P0 r.promos o2):=by
     unfold p2B;rw [←hfe,hul1]
    rw [hp2] at hR3
    have hQ2:=hQ o2
    generalize p2B r l p1 (P0 r.promos o2)=a2 at *
    obtain ⟨hbp7,y,⟨f7,rfl,hf7⟩,hP7⟩:=hR3
    have hBP7:=A4Z bx (C3 r.items l) a2.1
    have h7p:t2 bp=some ⟨170,4,1,f7⟩:=hBP7.sup hP7 bp _ (A0 ..)
    have h7n:t2 bn=some ⟨2,1,l.length,fn⟩:=hBP7.sup hP7 bn _ (by rw [A9 hnb,A0])
    have h76:F1 s6 t2:=fun c x hc=>hBP7.sup hP7 c x (by
     have e1:c≠bp:=fun e=>by subst e;rw [hbp6] at hc;cases hc
     have e2:c≠bn:=fun e=>by subst e;rw [hbn6] at hc;cases hc
     rw [A9 e1,A9 e2];exact hc)
    have h6b:=h76 b6 _ h6
    have hb6p:b6≠bp:=fun e=>by subst e;rw [h6] at hbp6;cases hbp6
    have hb6n:b6≠bn:=fun e=>by subst e;rw [h6] at hbn6;cases hbn6
    have hstn:st bn=none:=hst6.none hbn6
    have hstp:st bp=none:=hst6.none hbp6
    obtain ⟨dv,gv,fx,hx2,hfx2,hdl⟩:=hP7.deals'
    have hS2:F1 st t2:=hst6.trans h76
    conv=>whnf
    refine ldV hx2 rfl (by omega) hfx2 ?_
    rcases hdl with ⟨hd0,rfl⟩ | ⟨bd,gd,rfl,hbd,hbt,hgd⟩
    ·conv=>whnf
     refine Z7 h7p hf7 ?_
     refine J6 (A0 ..) (A4 ..) ?_
     refine Z7 (by rw [A9 hb6p];exact h6b) rfl ?_
     refine J6 (A0 ..) (A4 ..) ?_
     refine .inr ⟨hk0,o1,o2,bn,fn,.emp,ho1,ho2,?_,hstn,?_,?_,((hS2.over hstp).over hb6),.inl ⟨?_,rfl⟩⟩
     ·rw [hQ2];rfl
     ·rw [A9 hb6n.symm,A9 hnb];exact h7n
     ·intro k hk
      rw [hQ2,hfn k hk]
      show eI _=eI (gI (X4 l.length p1.us) k)
      unfold X4
      rw [M8 _ hk]
     ·rw [hQ2];exact hd0
    ·have hbdp:bd≠bp:=fun e=>by subst e;rw [A0] at hbd;cases hbd
     rw [A9 hbdp] at hbd
     have hbdn:bd≠bn:=fun e=>by subst e;rw [A0] at hbd;cases hbd
     rw [A9 hbdn] at hbd
     have hbd6:bd≠b6:=fun e=>by subst e;rw [h6] at hbd;cases hbd
     conv=>whnf
     refine Z7 h7p hf7 ?_
     refine J6 (A0 ..) (A4 ..) ?_
     refine Z7 (by rw [A9 hb6p];exact h6b) rfl ?_
     refine J6 (A0 ..) (A4 ..) ?_
     refine .inr ⟨hk0,o1,o2,bn,fn,.own 2 bd 0 a2.1.deals.length,ho1,ho2,?_,hstn,?_,?_,((hS2.over hstp).over hb6),.inr ⟨bd,gd,?_,hst6.none hbd,hbdn,?_,?_⟩⟩
     ·rw [hQ2];rfl
     ·rw [A9 hb6n.symm,A9 hnb];exact h7n
     ·intro k hk
      rw [hQ2,hfn k hk]
      show eI _=eI (gI (X4 l.length p1.us) k)
      unfold X4
      rw [M8 _ hk]
     ·rw [hQ2]
     ·rw [A9 hbd6,A9 hbdp,hQ2];exact hbt
     ·rw [hQ2];exact hgd
   ·have hk':k<p1.us.length:=by have:=D6H hd;omega
    have hlk:=hline k hk'
    have hn0:0≤(gU p1.us k).net:=hu1.at0 k
    have hn1:(gU p1.us k).net≤10000000000000:=hu1.le (A7 hk')
    have e1:=K9 (l:=D9 p1.us) (i:=k) (by rw [D6J];exact hk')
    have e4:gI (D9 p1.us) k=(gU p1.us k).net:=D4 B2.net p1.us hk'
    have e2:=N0 hu1.nets0 (k+1)
    have e3:=C1 (l:=(D9 p1.us).take k) (fun x hx=>hu1.nets0 x (D7G _ _ hx))
    have hlb:=A0V hu1 k (gU p1.us k).line.toNat
    have hlb2:=A0V hu1 (k+1) (gU p1.us k).line.toNat
    have hln1:=Z0 hk' (gU p1.us k).line.toNat
    rw [if_pos rfl] at hln1
    have hfl:fn (0+(gU p1.us k).line.toNat)=eI (F8 (p1.us.take k) (gU p1.us k).line.toNat):=by rw [D6Q];exact hfn _ hlk.2
    have w1:IntKind.i64.wrap (F8 (p1.us.take k) (gU p1.us k).line.toNat+(gU p1.us k).net)=F8 (p1.us.take (k+1)) (gU p1.us k).line.toNat:=by rw [hln1];exact A5 (by omega) (by omega)
    have w2:IntKind.i64.wrap (A2 ((D9 p1.us).take k)+(gU p1.us k).net)=A2 ((D9 p1.us).take (k+1)):=by rw [e1,e4];exact A5 (by omega) (by omega)
    conv=>whnf
    refine E7 ?_
    refine ⟨[10],[],[0,1,2,3,4,5,6,7,8,9,10],by kernel_rfl,?_⟩;conv=>whnf
    refine J6 htp hfp ?_
    refine ⟨rfl,⟨by show 0≤(gU p1.us k).line;exact hlk.1,by show (gU p1.us k).line<(l.length:Int);have:=hlk.2;have:=hlk.1;omega⟩,?_⟩;conv=>whnf
    refine ldV htn rfl (by show 0+(gU p1.us k).line.toNat<_;have:=hlk.2;omega) hfl ?_;conv=>whnf
    refine ⟨rfl,⟨by show 0≤(gU p1.us k).line;exact hlk.1,by show (gU p1.us k).line<(l.length:Int);have:=hlk.2;have:=hlk.1;omega⟩,?_⟩;conv=>whnf
    refine stV htn rfl (by show 0+(gU p1.us k).line.toNat<_;have:=hlk.2;omega) hfl (by rfl) ?_
    have hP5:=hwn (Y':=⟨2,1,l.length,I4 fn (0+(gU p1.us k).line.toNat) (eI (F8 (p1.us.take (k+1)) (gU p1.us k).line.toNat))⟩) hP
    rw [←w1] at hP5
    obtain ⟨_,htp2⟩:=hload hP5
    conv=>whnf
    refine J6 htp2 hfp ?_
    refine Z7 htp2 hfp ?_
    refine G2 ?_
    refine ⟨p1.us.length - (k+1),by omega,k+1,_,_,by omega,rfl,by rw [B4 (by omega)],hwp hP5,?_,fun j hj=>?_⟩
    ·rw [A4,←w2];rfl
    ·show I4 fn (0+(gU p1.us k).line.toNat) _ j=_
     rw [D6Q]
     rw [Z0 hk' j]
     by_cases hj2:j=(gU p1.us k).line.toNat
     ·subst hj2
      rw [if_pos rfl,A4,w1,hln1]
     ·rw [H4 hj2,if_neg (fun e=>hj2 e.symm)];exact hfn j hj
 ·have hk0:D8 r codes l≠0:=by simpa using h1
  conv=>whnf
  refine Z7 (A0 ..) rfl ?_
  refine J6 (A0 ..) (A4 ..) ?_
  exact .inl ⟨hk0,rfl,(h6s _).over hb6⟩
theorem C9f (s:W4) (x:Ab.Item) (h1:Sm s.skus.length) (h2:Sm s.cats.length) (st:St):S P 252 [A3Y s,E9 x] st fun v st'=>v=.bool (B0v s x)∧st'=st:=by
 have e:B0v s x=(((s.skus.length:Int)==0&&(s.cats.length:Int)==0)||(s.skus.any fun y=>y.toList==x.sku.toList)||(s.cats.any fun y=>y.toList==x.cat.toList)):=by
  unfold B0v inB
  rw [A3P,A3P]
  congr 1
  ·congr 1
   ·rw [←D8N];simp only [D6I,D7B];omega
   ·congr 1;funext y;exact D9L
  ·congr 1;funext y;exact D9L
 rw [e]
 have n1:=B8S s.skus x.sku h1 st
 have n2:=B8S s.cats x.cat h2 st
 generalize (s.skus.any fun y=>y.toList==x.sku.toList)=b1 at *
 generalize (s.cats.any fun y=>y.toList==x.cat.toList)=b2 at *
 refine SyW [2,3] Tryz.func252 ?_
 clear e
 repeat' ((conv=>whnf);first | refine B3 n1 ?_ | refine B3 n2 ?_ | (refine B9 (fun h=>?_) (fun h=>?_)<;>rw [h]))
 all_goals (conv=>whnf)
 all_goals (refine ⟨?_,rfl⟩;show AV.bool _=AV.bool _;simp only [*,D6Y,D7c,D7v,D7w,D7z,D7r])
theorem B9u {l:List E8} (h:∀ x∈l,lineC x=true) {i:Nat} (hi:i≤l.length):L9 (l.take i)≤L9 l∧J8 (l.take i)≤J8 l:=by
 have:∀ j,i+j≤l.length→L9 (l.take i)≤L9 (l.take (i+j))∧J8 (l.take i)≤J8 (l.take (i+j)):=by
  intro j
  induction j with
  | zero=>intro _;exact ⟨D7l _,D7l _⟩
  | succ j ih =>
   intro hj
   obtain ⟨h1,h2⟩:=ih (by omega)
   have hm:=A7 (l:=l) (i:=i+j) (by omega)
   have e1:L9 (l.take (i+j+1))=L9 (l.take (i+j))+(l.getD (i+j) default).qty:=H6 (by omega) _ _
   have e2:J8 (l.take (i+j+1))=J8 (l.take (i+j))+(l.getD (i+j) default).qty * (l.getD (i+j) default).price:=H6 (by omega) _ _
   have h3:=B1B (h _ hm)
   have h4:=(A0A _).1 (h _ hm)
   rw [show i+(j+1)=i+j+1 by omega,e1,e2];omega
 have h2:=this (l.length - i) (by omega)
 rw [show i+(l.length - i)=l.length by omega,D6O] at h2;exact h2
theorem B8T (l:List E8) (st:St):S P 212 [A8 3 J1 l] st fun v st'=>v=eI (O6 (fun _=>true) l)∧st'=st:=by
 refine F4 [] Tryz.func212 ?_
 refine B9 (fun h=>?_) (fun h=>?_)<;>rw [h]<;>simp only [D6F,D6E] at h
 ·conv=>whnf
  exact ⟨by rw [show O6 (fun _=>true) l=6 from if_pos (by omega)];rfl,rfl⟩
 have hs:l.length≤1000:=by omega
 have hc:O6 (fun _=>true) l=match l.find? (K1 (fun _=>true)) with
  | some x=>if (fun _=>true) x.sku=true then 2 else 7
  | none=>if (decide (L9 l>100000)||decide (J8 l>10000000000000))=true then 5 else 0:=if_neg (by omega)
 conv=>whnf
 refine lp l.length [0,3] (fun i vs s=>(∀ k,k<i→lineC (l.getD k default)=true)∧vs=[A8 3 J1 l,eI i]∧s=st) ?_ ?_
 ·conv=>whnf
  exact ⟨fun k hk=>absurd hk (by omega),rfl,rfl⟩
 ·rintro i vs st' hi ⟨hok,rfl,rfl⟩
  conv=>whnf
  cases h:decide ((i:Int)<(l.length:Int))
  ·obtain rfl:=C5 h hi
   have hall:∀ x∈l,lineC x=true:=fun x hx=>by obtain ⟨k,hk,rfl⟩:=D5 hx;exact hok k hk
   rw [A9p fun k hk=>by unfold K1;rw [hok k hk];rfl] at hc
   simp only at hc
   conv=>whnf
   refine lp l.length [0,4,5,6] (fun i vs s=>(0≤L9 (l.take i)∧L9 (l.take i)≤100000)∧(0≤J8 (l.take i)∧J8 (l.take i)≤10000000000000)∧vs=[A8 3 J1 l,eI (L9 (l.take i)),eI (J8 (l.take i)),eI i]∧s=st') ?_ ?_
   ·conv=>whnf
    exact ⟨⟨D7l _,by rw [D8h];decide⟩,⟨D7l _,by rw [D8h];decide⟩,rfl,rfl⟩
   ·rintro i vs st' hi ⟨hu,hg,rfl,rfl⟩
    conv=>whnf
    cases h:decide ((i:Int)<(l.length:Int))
    ·obtain rfl:=C5 h hi
     rw [D6O] at hu hg
     rw [if_neg (by rw [D6L (show ¬ L9 l>100000 by omega),D6L (show ¬ J8 l>10000000000000 by omega)];simp)] at hc;conv=>whnf
     exact ⟨by rw [hc];rfl,rfl⟩
    ·have hi':=E2 h
     have hx:lineC (l.getD (i:Int).toNat default)=true:=hall _ (A7 hi')
     obtain ⟨⟨q0,q1⟩,_⟩:=(A0A _).1 hx
     obtain ⟨m0,m1⟩:=B1B hx
     have eu:L9 (l.take (i+1))=L9 (l.take i)+(l.getD (i:Int).toNat default).qty:=H6 hi' _ _
     have eg:J8 (l.take (i+1))=J8 (l.take i)+(l.getD (i:Int).toNat default).qty * (l.getD (i:Int).toNat default).price:=H6 hi' _ _
     have w1:IntKind.i64.wrap (L9 (l.take i)+(l.getD (i:Int).toNat default).qty)=L9 (l.take (i+1)):=by rw [eu];exact A5 (by omega) (by omega)
     have w2:IntKind.i64.wrap ((l.getD (i:Int).toNat default).qty * (l.getD (i:Int).toNat default).price)=(l.getD (i:Int).toNat default).qty * (l.getD (i:Int).toNat default).price:=A5 (by omega) (by omega)
     have w3:IntKind.i64.wrap (J8 (l.take i)+(l.getD (i:Int).toNat default).qty * (l.getD (i:Int).toNat default).price)=J8 (l.take (i+1)):=by rw [eg];exact A5 (by omega) (by omega)
     have hmono:=B9u hall (show i+1≤l.length from hi')
     have bad:L9 (l.take (i+1))>100000∨J8 (l.take (i+1))>10000000000000→O6 (fun _=>true) l=5:=fun hb=>by
      rw [hc]
      refine if_pos ?_
      rw [D7J,D6F,D6F];omega
     conv=>whnf
     refine E7 ?_
     rw [w1]
     refine ⟨[],[],List.range 14,by kernel_rfl,?_⟩;conv=>whnf
     refine E7 ?_
     refine E7 ?_
     rw [w2,w3]
     refine B9 (fun h1=>?_) (fun h1=>?_)<;>rw [h1]
     ·conv=>whnf
      exact ⟨by rw [bad (.inl (D6H h1))];rfl,rfl⟩
     ·conv=>whnf
      refine B9 (fun h2=>?_) (fun h2=>?_)<;>rw [h2]
      ·conv=>whnf
       exact ⟨by rw [bad (.inr (D6H h2))];rfl,rfl⟩
      ·conv=>whnf
       refine G2 ?_
       have:=D6G h1
       have:=D6G h2
       exact nx hi' ⟨⟨by rw [eu];omega,by omega⟩,⟨by rw [eg];omega,by omega⟩,by rw [B4 (by omega)],rfl⟩
  ·have hi':=E2 h
   have n3:=A2R (l.getD (i:Int).toNat default).price 1000000000 st'
   have yes:lineC (l.getD (i:Int).toNat default)=true→∀ k,k<i+1→lineC (l.getD k default)=true:=fun h=>H5 hok h
   have no:lineC (l.getD (i:Int).toNat default)=false→O6 (fun _=>true) l=2:=fun h=>by
    rw [hc,A4t hi' (fun k hk=>by unfold K1;rw [hok k hk];rfl) (by unfold K1;rw [show lineC (l.getD i default)=false from h];rfl)]
    exact if_pos rfl
   have e:lineC (l.getD (i:Int).toNat default)=(!decide ((l.getD (i:Int).toNat default).qty<0)&&!decide ((l.getD (i:Int).toNat default).qty>100000)&&N9 0 1000000000 (l.getD (i:Int).toNat default).price):=by
    unfold lineC;congr 1;unfold N9;congr 1<;>(rw [←decide_not];exact D8s.2 (by omega))
   rw [e] at yes no
   generalize N9 0 1000000000 (l.getD (i:Int).toNat default).price=b3 at n3 yes no
   clear e hc
   repeat' ((conv=>whnf);first | refine ⟨rfl,⟨by omega,by omega⟩,?_⟩ | refine B3 n3 ?_ | cases b3 | (refine B9 (fun h=>?_) (fun h=>?_)<;>rw [h]))
   all_goals (conv=>whnf)
   all_goals first
    | (refine ⟨?_,rfl⟩;rw [no (by simp only [*,D7s,D7c,D7h])];rfl)
    | (refine ⟨rfl,?_⟩;conv=>whnf
       exact nx hi' ⟨yes (by simp only [*,D7j,D7u]),by rw [B4 (by omega)],rfl⟩)
end Go.Proofs.YtaapofnkmpiknaaGreat
