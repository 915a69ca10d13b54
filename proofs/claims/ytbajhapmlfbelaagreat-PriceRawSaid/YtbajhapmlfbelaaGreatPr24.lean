/- Part 24 of the proof: contracts of the functions that the law reaches -/
import Derived.Test.YtbajhapmlfbelaaGreatPr23
import Derived.Shelf.SlicesE.Compact
set_option maxRecDepth 100000
set_option linter.unusedVariables false
set_option linter.unusedSimpArgs false
namespace Go.Proofs.YtbajhapmlfbelaaGreat
open Go Go.Ab
attribute [local irreducible] upd del
def inB (l:List D7) (s:D7):Bool:=l.any fun y=>s.toList==y.toList
theorem B8H (l:List D7) (s:D7) (hl:l.length≤9223372036854775807) (st:St):S P 277 [D9 l,eS s] st fun v st'=>v=.bool (inB l s)∧st'=st:=by
 refine A8 [] B9 mixed Tryz.func277 (by rfl) rfl rfl rfl ?_;conv=>whnf
 refine B0 (B6y l hl s st) ?_;conv=>whnf
 exact ⟨rfl,rfl⟩
def A7F (s:Q8) (x:Ab.Item):Bool:=(s.skus.length+s.cats.length==0)||inB s.skus x.sku||inB s.cats x.cat
theorem C2W (s:Q8) (x:Ab.Item) (h1:s.skus.length≤20) (h2:s.cats.length≤20) (st:St):S P 285 [A2p s,F4 x] st fun v st'=>v=.bool (A7F s x)∧st'=st:=by
 refine A8 [2,3] B9 mixed Tryz.func285 (by rfl) rfl rfl rfl ?_;conv=>whnf
 have w:IntKind.i64.wrap ((s.skus.length:Int)+(s.cats.length:Int))=((s.skus.length+s.cats.length:Nat):Int):=by rw [A7 (by omega) (by omega)];omega
 rw [w,A2g]
 refine C0 (fun h=>?_) (fun h=>?_)<;>rw [h]
 ·conv=>whnf
  refine ⟨?_,rfl⟩
  unfold A7F;rw [h];rfl
 ·conv=>whnf
  refine B0 (B8H s.skus x.sku (by omega) st) ?_;conv=>whnf
  refine C0 (fun h3=>?_) (fun h3=>?_)<;>rw [h3]
  ·conv=>whnf
   refine ⟨?_,rfl⟩
   unfold A7F;rw [h,h3];rfl
  ·conv=>whnf
   refine B0 (B8H s.cats x.cat (by omega) st) ?_;conv=>whnf
   refine ⟨?_,rfl⟩
   unfold A7F;rw [h,h3];rfl
theorem J9:J5 G3 where
 sup:=fun h=>h
 begin:=fun {s t b y} h hb=>fun c x hc=>by
  by_cases e:c=b
  ·subst e;rw [A0] at hc ⊢;exact hc
  ·rw [B1 e] at hc ⊢;exact h c x hc
 grow:=fun {s t b b' y y'} h h0 hb=>by
  have hsub:∀ c x,s c=some x→c≠b∧t c=some x:=fun c x hc=>by
   have hne:c≠b:=fun e=>by subst e;rw [h0] at hc;cases hc
   exact ⟨hne,h c x (by rw [B1 hne];exact hc)⟩
  have hb':s b'=none:=by
   rcases hb with e | e
   ·rw [e];exact h0
   ·cases hx:s b' with
    | none=>rfl
    | some x=>rw [(hsub _ _ hx).2] at e;cases e
  refine ⟨hb',fun c x hc=>?_⟩
  by_cases e:c=b'
  ·subst e;rw [A0] at hc ⊢;exact hc
  ·rw [B1 e] at hc ⊢
   rw [A1g (hsub c x hc).1];exact (hsub c x hc).2
 write:=fun {s t b y y'} h hb=>G3.write (y:=y) h
 forget:=fun {s t b y} h h0=>fun c x hc=>by
  have hne:c≠b:=fun e=>by subst e;rw [h0] at hc;cases hc
  rw [A1g hne];exact h c x (by rw [B1 hne];exact hc)
 drop:=fun {s t b y} h h0=>G3.drop h h0
theorem B7P {ι : Type} {R : ι→St→St→Prop} (h:∀ i,J5 (R i)):J5 fun s t=>∃ i,R i s t where
 sup:=fun ⟨i,hi⟩=>(h i).sup hi
 begin:=fun ⟨i,hi⟩ hb=>⟨i,(h i).begin hi hb⟩
 grow:=fun ⟨i,hi⟩ h0 hb=>⟨((h i).grow (y':=⟨0,0,0,fun _=>.junk⟩) hi h0 hb).1,i,((h i).grow hi h0 hb).2⟩
 write:=fun ⟨i,hi⟩ hb=>⟨i,(h i).write hi hb⟩
 forget:=fun ⟨i,hi⟩ h0=>⟨i,(h i).forget hi h0⟩
 drop:=fun ⟨i,hi⟩ h0=>⟨i,(h i).drop hi h0⟩
theorem N1.off {ty e n:Nat} {fo:Nat→AV} {s s0:St} {sv:AV} (h:N1 ty e fo s n sv s0) {b:Nat} (hb:s0 b=none):s b=none:=by
 rcases h with ⟨_,_,rfl⟩ | ⟨_,bo,g,h1,_,rfl,_⟩
 ·exact hb
 ·by_cases e:b=bo
  ·subst e;exact h1
  ·rw [B1 e] at hb;exact hb
theorem N1.under {ty e n:Nat} {fo:Nat→AV} {s s0:St} {sv:AV} (h:N1 ty e fo s n sv s0) {b:Nat} {y:Q3} (hb:s0 b=none):N1 ty e fo (upd s b y) n sv (upd s0 b y):=by
 rcases h with ⟨rfl,rfl,rfl⟩ | ⟨h0,bo,g,h1,rfl,rfl,h3⟩
 ·exact N1.start _ _ _ _
 ·have hne:bo≠b:=fun e=>by subst e;rw [A0] at hb;cases hb
  exact .inr ⟨h0,bo,g,by rw [B1 hne];exact h1,rfl,O6 hne,h3⟩
theorem N1.split {ty e n:Nat} {fo:Nat→AV} {s s0:St} {sv:AV} {b:Nat} {y:Q3} (h:N1 ty e fo (upd s b y) n sv s0) (hb:s b=none):∃ s1,s1 b=none∧s0=upd s1 b y∧N1 ty e fo s n sv s1:=by
 rcases h with ⟨rfl,rfl,rfl⟩ | ⟨h0,bo,g,h1,rfl,rfl,h3⟩
 ·exact ⟨s,hb,rfl,N1.start _ _ _ _⟩
 ·have hne:bo≠b:=fun e=>by subst e;rw [A0] at h1;cases h1
  rw [B1 hne] at h1
  exact ⟨upd s bo ⟨ty,e,n,g⟩,by rw [B1 hne.symm];exact hb,O6 hne.symm,.inr ⟨h0,bo,g,h1,rfl,rfl,h3⟩⟩
theorem A0a {R:St→St→Prop} (hR:J5 R) (ty e:Nat) (fo:Nat→AV) (n:Nat) (sv:AV):J5 fun s t=>ROut R ty e fo n s sv t where
 sup:=fun h=>h.sup hR
 begin:=fun {s t b y} ⟨s0,hc,h⟩ hb=>⟨upd s0 b y,N1.under hc ((hR.sup h).none hb),hR.begin h hb⟩
 grow:=fun {s t b b' y y'} ⟨s0,hc,h⟩ h0 hb=>by
  obtain ⟨s1,h1,rfl,hc1⟩:=N1.split hc h0
  obtain ⟨g1,g2⟩:=hR.grow (y':=y') h h1 hb
  exact ⟨N1.off hc1 g1,_,N1.under hc1 g1,g2⟩
 write:=fun {s t b y y'} ⟨s0,hc,h⟩ hb=>⟨_,N1.write hc hb,hR.write h (hc.sup b y hb)⟩
 forget:=fun {s t b y} ⟨s0,hc,h⟩ h0=>by
  obtain ⟨s1,h1,rfl,hc1⟩:=N1.split hc h0
  exact ⟨s1,hc1,hR.forget h h1⟩
 drop:=fun {s t b y} ⟨s0,hc,h⟩ h0=>by
  obtain ⟨s1,h1,rfl,hc1⟩:=N1.split hc h0
  exact ⟨s1,hc1,hR.drop h h1⟩
structure PSt where
 us:List B5
 deals:List A0C
 groups:List D7
abbrev A0o (l:List A0C):Nat→AV:=fun k=>A3U (l.getD k default)
abbrev A5d (l:List D7):Nat→AV:=fun k=>eS (l.getD k default)
def IsP (items:List Ab.Item) (us:List B5) (dv gv:AV) (y:Q3):Prop:=∃ f,y=⟨147,4,1,f⟩∧f 0=.agg [B2 4 F4 items,C6 us,dv,gv]
def RG (groups:List D7) (gv:AV):St→St→Prop:=fun s t=>ROut G3 9 1 (A5d groups) groups.length s gv t
def RD (deals:List A0C) (groups:List D7) (dv gv:AV):St→St→Prop:=fun s t=>ROut (RG groups gv) 134 2 (A0o deals) deals.length s dv t
def PxR (bx:Nat) (items:List Ab.Item) (p:PSt):St→St→Prop:=fun s t=>∃ v:AV×AV,A0T bx (IsP items p.us v.1 v.2) (RD p.deals p.groups v.1 v.2) s t
theorem A5V (groups:List D7) (gv:AV):J5 (RG groups gv):=A0a J9 _ _ _ _ _
theorem A2a (deals:List A0C) (groups:List D7) (dv gv:AV):J5 (RD deals groups dv gv):=A0a (A5V groups gv) _ _ _ _ _
theorem A3g (bx:Nat) (items:List Ab.Item) (p:PSt):J5 (PxR bx items p):=B7P fun _=>A1Z (A2a _ _ _ _)
theorem PxR.at {bx:Nat} {items:List Ab.Item} {p:PSt} {s t:St} (h:PxR bx items p s t):∃ dv gv f,t bx=some ⟨147,4,1,f⟩∧f 0=.agg [B2 4 F4 items,C6 p.us,dv,gv]∧(dv=.emp∨∃ b,dv=.own 2 b 0 p.deals.length)∧(gv=.emp∨∃ b,gv=.own 1 b 0 p.groups.length):=by
 obtain ⟨⟨dv,gv⟩,h⟩:=h
 obtain ⟨y,⟨f,rfl,hf⟩,hy⟩:=A0T.at (A2a _ _ _ _) h
 obtain ⟨_,_,_,hd⟩:=h
 obtain ⟨s0,hc,hg⟩:=hd
 refine ⟨dv,gv,f,hy,hf,?_,?_⟩
 ·exact (show ROut (RG p.groups gv) _ _ _ _ _ dv t from ⟨s0,hc,hg⟩).head
 ·exact hg.head
def A0t (sc:Q8) (items:List Ab.Item) (u:B5):Bool:=u.opn&&A7F sc (items.getD u.line.toNat default)
def H5 (sc:Q8) (items:List Ab.Item) (us:List B5) (i:Nat):List Int:=((List.range i).filter fun k=>A0t sc items (gU us k)).map Int.ofNat
theorem A8C (sc:Q8) (items:List Ab.Item) (us:List B5) (i:Nat):H5 sc items us (i+1)=H5 sc items us i++(if A0t sc items (gU us i)=true then [(i:Int)] else []):=by
 unfold H5
 rw [List.range_succ,List.filter_append,List.map_append]
 congr 1
 by_cases h:A0t sc items (gU us i)=true
 ·rw [if_pos h,List.filter_cons_of_pos (p:=fun k=>A0t sc items (gU us k)) h];rfl
 ·rw [if_neg h,List.filter_cons_of_neg (p:=fun k=>A0t sc items (gU us k)) h];rfl
theorem A1z (sc:Q8) (items:List Ab.Item) (us:List B5) (i:Nat):(H5 sc items us i).length≤i:=by
 unfold H5
 rw [List.length_map]
 exact Nat.le_trans (List.length_filter_le ..) (by simp)
theorem A0q (sc:Q8) (items:List Ab.Item) (us:List B5):J8 us (H5 sc items us us.length):=by
 have hmem:∀ k,k<(H5 sc items us us.length).length→∃ j:Nat,gI (H5 sc items us us.length) k=(j:Int)∧j<us.length∧A0t sc items (gU us j)=true:=fun k hk=>by
  have h:=B4 (l:=H5 sc items us us.length) hk
  obtain ⟨j,hj,he⟩:=List.mem_map.1 h
  obtain ⟨h1,h2⟩:=List.mem_filter.1 hj
  exact ⟨j,he.symm,List.mem_range.1 h1,h2⟩
 refine ⟨fun k hk=>?_,fun k hk=>?_,fun k hk=>?_⟩
 ·obtain ⟨j,e,h1,h2⟩:=hmem k hk
  rw [e];omega
 ·obtain ⟨j,e,h1,h2⟩:=hmem k hk
  rw [e]
  unfold A0t at h2
  rw [Bool.and_eq_true] at h2
  exact h2.1
 ·have hs:(H5 sc items us us.length).Pairwise (·<·):=by
   unfold H5
   refine List.Pairwise.map _ (fun a b h=>?_) ((List.pairwise_lt_range (n:=us.length)).filter _)
   show (a:Int)<(b:Int)
   omega
  have:=List.pairwise_iff_getElem.1 hs k (k+1) (by omega) hk (by omega)
  simpa [gI,hk,show k<(H5 sc items us us.length).length by omega] using this
theorem B8D (bx:Nat) (items:List Ab.Item) (p:PSt) (sc:Q8) (h1:sc.skus.length≤20) (h2:sc.cats.length≤20) (hu:p.us.length≤100000) (hi:items.length≤100000) (hl:∀ u∈p.us,0≤u.line∧u.line.toNat<items.length) (s t:St) (h:PxR bx items p s t) :
  S P 239 [.optr 4 bx 0 0,A2p sc] t fun v t'=>v=B6 (H5 sc items p.us p.us.length)∧t'=t:=by
 refine S.post (post:=fun v t'=>∃ t1,G3 t t1∧N1 3 1 (fun k=>eI (gI (H5 sc items p.us p.us.length) k)) t1 (H5 sc items p.us p.us.length).length v t') ?_
  (fun v t' ⟨t1,hs,hc⟩=>⟨_,t,⟨rfl,rfl⟩,hc.shift.trans (hs.shift _)⟩)
 obtain ⟨dv,gv,fx,hx,hx0,hdv,hgv⟩:=h.at
 refine A8 [3,7,10] B9 mixed Tryz.func239 (by rfl) rfl rfl rfl ?_;conv=>whnf
 refine F7 hx rfl (by omega) hx0 ?_;conv=>whnf
 refine ⟨[0,3,5,14,15,16],fun m vs t'=>∃ (i:Nat) (sv:AV),i≤items.length∧m=items.length - i∧vs=[.optr 4 bx 0 0,.fptr (A2p sc) 0,sv,B2 4 F4 items,eI items.length,eI i]∧N1 4 1 (fun k=>eB (A7F sc (items.getD k default))) t i sv t',?_,?_⟩
 ·conv=>whnf
  exact ⟨_,0,.emp,Nat.zero_le _,rfl,rfl,N1.start _ _ _ _⟩
 ·rintro m vs t' ⟨i,sv,hi2,rfl,rfl,hcol⟩
  conv=>whnf
  cases hd:decide ((i:Int)<(items.length:Int))
  ·have:=of_decide_eq_false hd
   obtain rfl:i=items.length:=by omega
   have hx':=hcol.sup bx _ hx
   conv=>whnf
   refine F7 hx' rfl (by omega) hx0 ?_;conv=>whnf
   refine ⟨[5,8,30,31,32],fun m vs t2=>∃ (k:Nat) (sv2:AV),k≤p.us.length∧m=p.us.length - k∧vs=[sv,sv2,C6 p.us,eI p.us.length,eI k]∧N1 3 1 (fun j=>eI (gI (H5 sc items p.us k) j)) t' (H5 sc items p.us k).length sv2 t2,?_,?_⟩
   ·conv=>whnf
    exact ⟨_,0,.emp,Nat.zero_le _,rfl,rfl,N1.start _ _ _ _⟩
   ·rintro m vs t2 ⟨k,sv2,hk,rfl,rfl,hcol2⟩
    have hpl:=A1z sc items p.us k
    conv=>whnf
    cases hd2:decide ((k:Int)<(p.us.length:Int))
    ·have:=of_decide_eq_false hd2
     obtain rfl:k=p.us.length:=by omega
     conv=>whnf
     exact ⟨t',hcol.sup,hcol2⟩
    ·have hk':k<p.us.length:=by have:=of_decide_eq_true hd2;omega
     have hlk:0≤(gU p.us k).line∧(gU p.us k).line.toNat<items.length:=hl _ (B4 (l:=p.us) hk')
     have es:=A8C sc items p.us k
     conv=>whnf
     refine ⟨rfl,⟨by omega,by omega⟩,?_⟩;conv=>whnf
     have fin:∀ (sv3:AV) (t3:St),N1 3 1 (fun j=>eI (gI (H5 sc items p.us (k+1)) j)) t' (H5 sc items p.us (k+1)).length sv3 t3→∃ m',m'<p.us.length - k∧∃ (k_1:Nat) (sv2:AV),k_1≤p.us.length∧m'=p.us.length - k_1∧[sv,sv3,C6 p.us,eI p.us.length,eI (IntKind.i64.wrap ((k:Int)+1))]=[sv,sv2,C6 p.us,eI p.us.length,eI k_1]∧N1 3 1 (fun j=>eI (gI (H5 sc items p.us k_1) j)) t' (H5 sc items p.us k_1).length sv2 t3 :=
      fun sv3 t3 hc=>⟨p.us.length - (k+1),by omega,k+1,sv3,by omega,rfl,by rw [C2 (by omega)],hc⟩
     refine C0 (fun h3=>?_) (fun h3=>?_)<;>rw [h3]
     ·rcases hcol with ⟨h0,rfl,rfl⟩ | ⟨h0,b,g,hb,rfl,rfl,hg⟩
      ·exfalso;omega
      have hbt:=hcol2.sup b _ (A0 ..)
      have hgk:g (0+(gU p.us k).line.toNat)=eB (A7F sc (items.getD (gU p.us k).line.toNat default)):=by rw [Nat.zero_add];exact hg _ hlk.2
      conv=>whnf
      refine ⟨rfl,⟨by show 0≤(gU p.us k).line;exact hlk.1,by show (gU p.us k).line<(items.length:Int);have:=hlk.2;have:=hlk.1;omega⟩,?_⟩;conv=>whnf
      refine F7 hbt rfl (by show 0+(gU p.us k).line.toNat<_;have:=hlk.2;omega) hgk ?_;conv=>whnf
      refine C0 (fun h4=>?_) (fun h4=>?_)<;>rw [h4]
      ·have ho:A0t sc items (gU p.us k)=true:=by
        unfold A0t;rw [show (gU p.us k).opn=true from h3,h4];rfl
       rw [if_pos ho] at es
       have el:(H5 sc items p.us (k+1)).length=(H5 sc items p.us k).length+1:=by rw [es];simp
       conv=>whnf
       refine N1.app (q:=r3) rfl rfl rfl rfl rfl (f:=fun j=>eI (gI (H5 sc items p.us (k+1)) j)) (by simp only [es,A6c];rfl) (by show ((H5 sc items p.us k).length+1) * 8≤140737488355328;omega) (hcol2.congr fun j hj=>by rw [es,J4 hj]) (fun sv3 t3 hc3=>?_);conv=>whnf
       refine ⟨rfl,?_⟩;conv=>whnf
       exact fin sv3 t3 (by rw [el];exact hc3)
      ·have ho:¬ A0t sc items (gU p.us k)=true:=by
        unfold A0t;rw [h4];simp
       rw [if_neg ho,List.append_nil] at es;conv=>whnf
       refine ⟨rfl,?_⟩;conv=>whnf
       exact fin sv2 t2 (by rw [es];exact hcol2)
     ·have ho:¬ A0t sc items (gU p.us k)=true:=by
       unfold A0t;rw [show (gU p.us k).opn=false from h3];simp
      rw [if_neg ho,List.append_nil] at es;conv=>whnf
      refine ⟨rfl,?_⟩;conv=>whnf
      exact fin sv2 t2 (by rw [es];exact hcol2)
  ·have hi':i<items.length:=by have:=of_decide_eq_true hd;omega
   conv=>whnf
   refine ⟨rfl,⟨by omega,by omega⟩,?_⟩;conv=>whnf
   refine B0 (C2W sc (items.getD i default) h1 h2 _) ?_;conv=>whnf
   refine N1.app (q:=r4) rfl rfl rfl rfl rfl rfl (by show (i+1) * 1≤140737488355328;omega) hcol (fun sv' t2 hcol'=>?_);conv=>whnf
   refine ⟨rfl,?_⟩;conv=>whnf
   exact ⟨items.length - (i+1),by omega,i+1,sv',by omega,rfl,by rw [C2 (by omega)],hcol'⟩
end Go.Proofs.YtbajhapmlfbelaaGreat
namespace Go.Proofs.YtbajhapmlfbelaaGreat
open Go Go.Ab Go.Proofs Go.Sort Go.Lib
attribute [local irreducible] upd del
def scF (x:Nat):Nat:=match x with
 | 43=>243
 | n=>n
def scT (x:Nat):Nat:=match x with
 | 22=>29
 | 23=>3
 | 0=>0
 | 3=>3
 | 4=>4
 | n=>n
def C4Z:Go.Shelf.Ren:={ f:=scF,t:=scT,g:=fun n=>n }
theorem C1V:SlLaysE.n43 Tryz.prog C4Z where
 mixed:=by kernel_rfl
 f43 := ⟨"slices.Compact[[]int,int]", by decide, Tryz.func243.trans (congrArg some (by kernel_rfl))⟩
 t0:=Tryz.underlying0
 a0:=Tryz.isAgg0
 z0:=Tryz.sizeOf0
 v0:=Tryz.zeroValue0
 t3:=Tryz.underlying3
 a3:=Tryz.isAgg3
 z3:=Tryz.sizeOf3
 v3:=Tryz.zeroValue3
 t4:=Tryz.underlying4
 a4:=Tryz.isAgg4
 z4:=Tryz.sizeOf4
 v4:=Tryz.zeroValue4
 t22:=Tryz.underlying29
 a22:=Tryz.isAgg29
 z22:=Tryz.sizeOf29
 v22:=Tryz.zeroValue29
 a23:=Tryz.isAgg3
 z23:=Tryz.sizeOf3
def S1 (l:List Int):List Int:=compactUpTo l.toArray l.length
def A5X (l:List Int):List Int:=S1 l++List.replicate (l.length - (S1 l).length) 0
theorem A6O (l:List Int):(S1 l).length≤l.length:=by
 unfold S1 compactUpTo
 rw [List.length_map]
 exact Nat.le_trans (List.length_filter_le ..) (by simp)
theorem B0i (l:List Int):(A5X l).length=l.length:=by
 have:=A6O l
 unfold A5X;rw [List.length_append,List.length_replicate];omega
def A4m (l':List Int):Q3:=⟨3,1,l'.length,fun k=>eI (gI l' k)⟩
theorem C1k {st:St} {w:World} {b n:Nat} {l l':List Int} (hl:l'.length=l.length) (hb:X8 st b l) (hS:G9 st w) :
  X7 st w (upd st b (A4m l')) (putRow (Value.int .i64) (Sort.ahead w n) b 0 l'.toArray)∧G9 (upd st b (A4m l')) (putRow (Value.int .i64) (Sort.ahead w n) b 0 l'.toArray):=by
 obtain ⟨f,hst,hf⟩:=hb
 obtain ⟨cs,hok⟩:=hS b _ hst
 have hbl:b<w.heap.size:=(Array.getElem?_eq_some_iff.1 hok.heap).1
 have hsz:l.length * 1≤cs.size:=hok.size
 have hheap:∀ c,c<w.heap.size→(putRow (Value.int .i64) (Sort.ahead w n) b 0 l'.toArray).heap[c]?=if b=c then some (.cells (putCells (Value.int .i64) 0 l'.toArray cs) 3 (0,0)) else w.heap[c]?:=fun c hc=>by
  show (w.heap.modify b (onCells (putCells (Value.int .i64) 0 l'.toArray)))[c]?=_
  rw [Array.getElem?_modify]
  split
  ·rename_i e;subst e;rw [hok.heap];rfl
  ·rfl
 have hev:X7 st w (upd st b (A4m l')) (putRow (Value.int .i64) (Sort.ahead w n) b 0 l'.toArray):=by
  refine ⟨rfl,rfl,rfl,?_,fun c hc hs=>?_,fun c=>?_⟩
  ·show w.heap.size≤(w.heap.modify b _).size
   simp
  ·have hne:b≠c:=fun e=>by subst e;rw [hst] at hs;cases hs
   rw [hheap c hc,if_neg hne]
   exact ⟨rfl,by rw [B1 hne.symm];exact hs⟩
  ·by_cases hc:c<w.heap.size
   ·unfold A0O
    rw [hheap c hc]
    by_cases e:b=c
    ·subst e
     rw [hok.heap,if_pos rfl]
     simp [putCells]
    ·rw [if_neg e];exact Nat.le_refl _
   ·unfold A0O
    rw [Array.getElem?_eq_none (by omega)]
    exact Nat.zero_le _
 refine ⟨hev,fun c x hx=>?_⟩
 by_cases e:c=b
 ·subst e
  rw [A0] at hx
  cases hx
  refine ⟨putCells (Value.int .i64) 0 l'.toArray cs,?_,?_,fun i hi=>rfl,fun i hi=>rfl,fun i j y hi hy=>?_⟩
  ·rw [hheap c hbl,if_pos rfl];rfl
  ·show l'.length * 1≤_
   rw [hl]
   simpa [putCells] using hsz
  ·have hi':i<l'.length:=hi
   cases j with
   | succ j=>simp [A4m,cellsOf] at hy
   | zero =>
    have hy':y=eI (gI l' i):=by simpa [A4m,cellsOf] using hy.symm
    subst hy'
    refine ⟨.int .i64 (gI l' i),?_,.int _ _⟩
    show (putCells (Value.int .i64) 0 l'.toArray cs)[i * 1+0]?=_
    unfold putCells
    rw [Array.getElem?_mapIdx,Nat.mul_one,Nat.add_zero,Array.getElem?_eq_getElem (by omega),Option.map_some]
    rw [if_pos ⟨by omega,by simp;omega⟩,Nat.sub_zero]
    have:l'.toArray[i]! = gI l' i:=by
     rw [getElem!_pos _ i (by simp;omega)]
     simp [gI,hi']
    rw [this]
 ·rw [B1 e] at hx
  obtain ⟨ds,hd⟩:=hS c x hx
  have hcl:c<w.heap.size:=(Array.getElem?_eq_some_iff.1 hd.heap).1
  exact ⟨ds,hd.evo hev (by rw [hheap c hcl,if_neg (fun e'=>e e'.symm)])⟩
theorem C2I:OneCell (Value.int .i64):=fun x=>rfl
theorem B6f (b:Nat) (l:List Int) (hl:l.length≤4611686018427387904) (st:St) (hb:X8 st b l) :
  S P 243 [.own 1 b 0 l.length] st fun v st'=>v=.own 1 b 0 (S1 l).length∧st'=upd st b (A4m (A5X l)):=by
 refine ⟨C1V.f43.enters rfl,fun cargs w hr hS=>?_⟩
 obtain ⟨hlen,hr⟩:=hr
 have hb':=hb
 obtain ⟨f,hst,hf⟩:=hb'
 obtain ⟨cs,hok⟩:=hS b _ hst
 have h0:0<cargs.size:=by rw [←hlen];exact Nat.one_pos
 have ha:=hr 0 _ cargs[0] rfl (Array.getElem?_eq_getElem h0)
 have hc:∃ c,l.length≤c∧c≤A0O w b∧cargs=#[.slice (some ⟨b,0,none⟩) l.length c]:=by
  generalize hv:cargs[0]=v at ha
  cases ha with
  | own e b off n c hc hs =>
   refine ⟨c,hc,by simpa using hs,Array.ext (by rw [←hlen];rfl) fun i h1 h2=>?_⟩
   have:i=0:=by simp at h2;exact h2
   subst this;rw [hv];rfl
 obtain ⟨c,hlc,hcs,rfl⟩:=hc
 have hH:Holds (Value.int .i64) w b 0 l.toArray:=fun j hj=>by
  have hj':j<l.length:=by simpa using hj
  obtain ⟨x,hx,hrep⟩:=hok.cell j 0 (eI (gI l j)) hj' (by show (cellsOf (f j))[0]?=_;rw [hf j hj'];rfl)
  have hxx:x=.int .i64 (gI l j):=by cases hrep;rfl
  subst hxx
  have hg:l.toArray[j]! = gI l j:=by rw [getElem!_pos _ j (by simpa using hj')];simp [gI,hj']
  refine ⟨?_,?_⟩
  ·unfold World.cell?
   rw [hok.heap,hg]
   have:cs[j * 1+0]?=some (.int .i64 (gI l j)):=hx
   simpa using this
  ·unfold World.frozen?
   rw [hok.heap]
   simp
 have hcl:=A6O l
 have hK:=AnyE.slices_Compact C1V (Value.int .i64) C2I (EqlAt.intD P _ .i64) (NeqAt.intD P _ .i64) 0 Tryz.zeroValue3 b 0 c l.toArray w hH (by simp;omega) (by simpa using hlc)
 rw [show l.toArray.size=l.length from by simp] at hK
 refine hK.mono ?_
 rintro e w' ⟨rfl,n,rfl⟩
 obtain ⟨h1,h2⟩:=C1k (n:=n) (B0i l) hb hS
 refine ⟨.own 1 b 0 (S1 l).length,_,_,⟨rfl,rfl⟩,rfl,?_,h2,h1⟩
 have hr2:I1 w st (.own 1 b 0 (S1 l).length) (.slice (some ⟨b,0 * 1,none⟩) (S1 l).length c):=.own 1 b 0 _ c (Nat.le_trans hcl hlc) (by simpa using hcs)
 exact h1.rep hr2
theorem B3S (st:St):S P 243 [.emp] st fun v st'=>v=.emp∧st'=st:=by
 refine A8 [] B9 mixed Tryz.func243 (by rfl) rfl rfl rfl ?_;conv=>whnf
 exact ⟨rfl,rfl⟩
theorem C0E {l:List Int} {k:Nat} (h:k<(S1 l).length):gI (A5X l) k=gI (S1 l) k:=by
 unfold A5X;exact J4 h
end Go.Proofs.YtbajhapmlfbelaaGreat
namespace Go.Proofs.YtbajhapmlfbelaaGreat
open Go Go.Ab
attribute [local irreducible] upd del
def A0A (us:List B5) (l:List Int):Int:=A5 (l.map fun i=>(gU us i.toNat).net)
theorem B0q {us:List B5} (hu:E2 us) {l:List Int} (hl:∀ k,k<l.length→0≤gI l k∧(gI l k).toNat<us.length) (hn:l.length≤800000) {i:Nat} (hi:i<l.length) :
  IntKind.i64.wrap (A0A us (l.take i)+(gU us (gI l i).toNat).net)=A0A us (l.take (i+1)):=by
 have hc:=A0b hu (l.take i) (fun x hx=>by obtain ⟨k,hk,rfl⟩:=F0 (List.take_subset _ _ hx);exact hl k hk)
 have h3:0≤(gU us (gI l i).toNat).net:=hu.pos _ (B4 (hl i hi).2)
 have h4:(gU us (gI l i).toNat).net≤10000000000000:=hu.le (B4 (hl i hi).2)
 have e:A0A us (l.take (i+1))=A0A us (l.take i)+(gU us (gI l i).toNat).net:=by
  unfold A0A;rw [L9 hi,List.map_append,F3];simp [A5]
 have hcl:(l.take i).length≤800000:=by rw [List.length_take];omega
 have e2:G4 us (l.take i)=A0A us (l.take i):=rfl
 rw [e]
 exact A7 (by omega) (by omega)
theorem C3N (bx:Nat) (items:List Ab.Item) (p:PSt) (hu:E2 p.us) (l:List Int) (hn:l.length≤800000) (hl:∀ k,k<l.length→0≤gI l k∧(gI l k).toNat<p.us.length) (s t:St) (h:PxR bx items p s t) :
  S P 240 [.optr 4 bx 0 0,B6 l] t fun v t'=>v=eI (A0A p.us l)∧t'=t:=by
 obtain ⟨dv,gv,fx,hx,hx0,hdv,hgv⟩:=h.at
 refine A8 [] B9 mixed Tryz.func240 (by rfl) rfl rfl rfl ?_;conv=>whnf
 refine ⟨[0,5,8,9,10],fun m vs t'=>∃ i:Nat,i≤l.length∧m=l.length - i∧vs=[.optr 4 bx 0 0,eI (A0A p.us (l.take i)),B6 l,eI l.length,eI i]∧t'=t,?_,?_⟩
 ·conv=>whnf
  exact ⟨_,0,Nat.zero_le _,rfl,rfl,rfl⟩
 ·rintro m vs t' ⟨i,hi,rfl,rfl,rfl⟩
  conv=>whnf
  cases h2:decide ((i:Int)<(l.length:Int))
  ·have:=of_decide_eq_false h2
   obtain rfl:i=l.length:=by omega
   rw [List.take_length];conv=>whnf
   exact ⟨rfl,rfl⟩
  ·have hi':i<l.length:=by have:=of_decide_eq_true h2;omega
   have hr:=hl i hi'
   conv=>whnf
   refine ⟨rfl,⟨by omega,by omega⟩,?_⟩;conv=>whnf
   refine F7 hx rfl (by omega) hx0 ?_;conv=>whnf
   refine ⟨rfl,⟨by show 0≤gI l i;exact hr.1,by show gI l i<(p.us.length:Int);have:=hr.2;have:=hr.1;omega⟩,?_⟩;conv=>whnf
   refine ⟨rfl,?_⟩;conv=>whnf
   exact ⟨l.length - (i+1),by omega,i+1,by omega,rfl,by rw [C2 (by omega),←B0q hu hl hn hi'];rfl,rfl⟩
theorem C2E (bx:Nat) (items:List Ab.Item) (p:PSt) (hu:E2 p.us) (l:List Int) (hn:l.length≤800000) (hl:∀ k,k<l.length→0≤gI l k∧(gI l k).toNat<p.us.length) (s t:St) (h:PxR bx items p s t)
  (b:Nat) (m0:Nat) (f:Nat→AV) (hm0:l.length≤m0) (hb:t b=some ⟨3,1,m0,f⟩) (hf:∀ k,k<l.length→f k=eI (gI l k)) :
  S P 240 [.optr 4 bx 0 0,.own 1 b 0 l.length] t fun v t'=>v=eI (A0A p.us l)∧t'=t:=by
 obtain ⟨dv,gv,fx,hx,hx0,hdv,hgv⟩:=h.at
 refine A8 [] B9 mixed Tryz.func240 (by rfl) rfl rfl rfl ?_;conv=>whnf
 refine ⟨[0,5,8,9,10],fun m vs t'=>∃ i:Nat,i≤l.length∧m=l.length - i∧vs=[.optr 4 bx 0 0,eI (A0A p.us (l.take i)),.own 1 b 0 l.length,eI l.length,eI i]∧t'=t,?_,?_⟩
 ·conv=>whnf
  exact ⟨_,0,Nat.zero_le _,rfl,rfl,rfl⟩
 ·rintro m vs t' ⟨i,hi,rfl,rfl,rfl⟩
  conv=>whnf
  cases h2:decide ((i:Int)<(l.length:Int))
  ·have:=of_decide_eq_false h2
   obtain rfl:i=l.length:=by omega
   rw [List.take_length];conv=>whnf
   exact ⟨rfl,rfl⟩
  ·have hi':i<l.length:=by have:=of_decide_eq_true h2;omega
   have hr:=hl i hi'
   conv=>whnf
   refine ⟨rfl,⟨by omega,by omega⟩,?_⟩;conv=>whnf
   refine F7 hb rfl (by omega) (v:=eI (gI l i)) (by rw [show 0+(i:Int).toNat=i by omega];exact hf i hi') ?_;conv=>whnf
   refine F7 hx rfl (by omega) hx0 ?_;conv=>whnf
   refine ⟨rfl,⟨by show 0≤gI l i;exact hr.1,by show gI l i<(p.us.length:Int);have:=hr.2;have:=hr.1;omega⟩,?_⟩;conv=>whnf
   refine ⟨rfl,?_⟩;conv=>whnf
   exact ⟨l.length - (i+1),by omega,i+1,by omega,rfl,by rw [C2 (by omega),←B0q hu hl hn hi'],rfl⟩
def A0s (p:PSt) (pr:A9) (off:Int):PSt:=⟨p.us,p.deals++[⟨pr.id,off⟩],p.groups++(if J0 pr.group=true then [] else [pr.group])⟩
theorem A2I {α : Type} [Inhabited α] {a b:List α} {k:Nat} (h:k<a.length):(a++b).getD k default=a.getD k default:=by
 rw [List.getD_eq_getElem?_getD,List.getD_eq_getElem?_getD,List.getElem?_append_left h]
theorem A6d {α : Type} [Inhabited α] (a:List α) (x : α):(a++[x]).getD a.length default=x:=by
 simp [List.getD_eq_getElem?_getD]
theorem RD.at {bx:Nat} {dl:List A0C} {gr:List D7} {dv gv:AV} {s t:St} {f:Nat→AV} (h:RD dl gr dv gv (upd s bx ⟨147,4,1,f⟩) t):t bx=some ⟨147,4,1,f⟩:=(A2a _ _ _ _).sup h bx _ (A0 ..)
theorem RD.put {bx:Nat} {dl:List A0C} {gr:List D7} {dv gv:AV} {s t:St} {f f':Nat→AV} (h:RD dl gr dv gv (upd s bx ⟨147,4,1,f⟩) t):RD dl gr dv gv (upd s bx ⟨147,4,1,f'⟩) (upd t bx ⟨147,4,1,f'⟩):=by
 have:=(A2a dl gr dv gv).write (y':=⟨147,4,1,f'⟩) h (A0 ..)
 rw [C5] at this;exact this
theorem RD.of {dl:List A0C} {gr:List D7} {dv gv:AV} {s t:St} {d:A0C} (h:ROut (RG gr gv) 134 2 (A0o (dl++[d])) (dl.length+1) s dv t):RD (dl++[d]) gr dv gv s t:=by
 unfold RD;rw [List.length_append];exact h
theorem RD.grp {K:KK} {X:Prop} {dl:List A0C} {gr:List D7} {dv gv:AV} {s t:St} (h:RD dl gr dv gv s t) (g:D7)
  (happ:∀ {s1:St},ROut G3 9 1 (A5d (gr++[g])) gr.length s1 gv t→(∀ gv' t',ROut G3 9 1 (A5d (gr++[g])) (gr.length+1) s1 gv' t'→K gv' t')→X)
  (hk:∀ gv' t',RD dl (gr++[g]) dv gv' s t'→(gv'=.emp∨∃ b,gv'=.own 1 b 0 (gr++[g]).length)→K gv' t'):X:=by
 obtain ⟨s1,hc,hg⟩:=h
 refine happ (s1:=s1) (hg.congr fun k hk=>by simp only [A5d];rw [A2I hk]) (fun gv' t' hg'=>?_)
 have hg2:RG (gr++[g]) gv' s1 t':=by unfold RG;rw [List.length_append];exact hg'
 exact hk gv' t' ⟨s1,hc,hg2⟩ (ROut.head hg2)
theorem PxR.mk' {bx:Nat} {items:List Ab.Item} {p:PSt} {dv gv:AV} {s t:St} {f:Nat→AV} (hbx:s bx=none) (hf:f 0=.agg [B2 4 F4 items,C6 p.us,dv,gv]) (h:RD p.deals p.groups dv gv (upd s bx ⟨147,4,1,f⟩) t):PxR bx items p s t :=
 ⟨(dv,gv),hbx,_,⟨f,rfl,hf⟩,h⟩
theorem PxR.fin {bx:Nat} {items:List Ab.Item} {us:List B5} {dl:List A0C} {gr:List D7} {dv gv:AV} {s t:St} {f:Nat→AV} (hbx:s bx=none) (h:RD dl gr dv gv (upd s bx ⟨147,4,1,f⟩) t) (f':Nat→AV) (hf:f' 0=.agg [B2 4 F4 items,C6 us,dv,gv]) :
  PxR bx items ⟨us,dl,gr⟩ s (upd t bx ⟨147,4,1,f'⟩):=PxR.mk' hbx hf (RD.put h)
theorem B4p (bx:Nat) (items:List Ab.Item) (p:PSt) (pr:A9) (off:Int) (hd:p.deals.length≤1000) (hg:p.groups.length≤1000) (s t:St) (h:PxR bx items p s t) :
  S P 153 [.optr 4 bx 0 0,B7 pr,eI off] t fun v t'=>v=.tuple []∧PxR bx items (A0s p pr off) s t':=by
 obtain ⟨⟨dv,gv⟩,hbx,y,⟨f,rfl,hf⟩,hRD⟩:=h
 simp only at hf hRD
 refine A8 [4] B9 mixed Tryz.func153 (by rfl) rfl rfl rfl ?_;conv=>whnf
 refine ⟨[10,13],[],[0,1,2,3,4,5,6,7,8,9,10,11,12,13],by kernel_rfl,?_⟩
 have hdv:dv=.emp∨∃ b,dv=.own 2 b 0 p.deals.length:=ROut.head hRD
 have hgv:gv=.emp∨∃ b,gv=.own 1 b 0 p.groups.length:=by obtain ⟨s0,hc,hgg⟩:=hRD;exact ROut.head hgg
 rcases hdv with rfl | ⟨bd,rfl⟩<;>rcases hgv with rfl | ⟨bg,rfl⟩
 all_goals
  conv=>whnf
  refine F7 hRD.at rfl (by omega) hf ?_;conv=>whnf
  refine ⟨_,⟨rfl,rfl⟩,?_⟩;conv=>whnf
  refine ROut.app (q:=C1b) (A5V _ _) rfl rfl rfl rfl rfl (f:=A0o (p.deals++[⟨pr.id,off⟩])) (by simp only [A0o,A6d];rfl) (by show (p.deals.length+1) * 24≤140737488355328;omega) (hRD.congr fun k hk=>by simp only [A0o];rw [A2I hk]) (fun dv' t2 hRD2=>?_)
  have hRD2':=RD.of hRD2
  rcases ROut.head hRD2' with rfl | ⟨bd',rfl⟩
  all_goals
   conv=>whnf
   refine K8 hRD2'.at rfl (by omega) hf (by rfl) ?_;conv=>whnf
   have hnil:(ByteArray.toList pr.group==ByteArray.toList ⟨#[]⟩)=J0 pr.group:=rfl
   rw [hnil]
   cases hgr:J0 pr.group
   ·conv=>whnf
    refine ⟨[8,11],[],[0,1,2,3,4,5,6,7,8,9,10,11],by kernel_rfl,?_⟩;conv=>whnf
    refine F7 (RD.put hRD2').at rfl (by omega) (by rw [A6]) ?_;conv=>whnf
    refine ⟨_,⟨rfl,rfl⟩,?_⟩;conv=>whnf
    refine RD.grp (RD.put hRD2') pr.group (fun happ=>ROut.app (q:=r9) J9 rfl rfl rfl rfl rfl (by simp only [A5d,A6d];rfl) (by show (p.groups.length+1) * 16≤140737488355328;omega) happ) (fun gv' t4 hRD4 hh=>?_)
    rcases hh with rfl | ⟨bg',rfl⟩
    all_goals
     conv=>whnf
     refine K8 hRD4.at rfl (by omega) (by rw [A6]) (by rfl) ?_;conv=>whnf
     refine ⟨rfl,?_⟩
     unfold A0s
     rw [hgr]
     exact PxR.fin hbx hRD4 _ (by rw [A6];rfl)
   ·conv=>whnf
    refine ⟨rfl,?_⟩
    unfold A0s
    rw [hgr]
    simp only [if_true,List.append_nil]
    exact PxR.fin hbx hRD2' _ (by rw [A6];rfl)
end Go.Proofs.YtbajhapmlfbelaaGreat
namespace Go.Proofs.YtbajhapmlfbelaaGreat
open Go Go.Ab
theorem K4 {lo hi x:Int}:P7 lo hi x=true↔lo≤x∧x≤hi:=by
 unfold P7;simp only [Bool.and_eq_true,decide_eq_true_eq,ge_iff_le]
theorem B0d {α : Type} [Inhabited α] {l:List α} {p:Nat→α→Bool}:I2 l p=true↔∀ k,k<l.length→p k (l.getD k default)=true:=by
 unfold I2
 rw [List.all_eq_true]
 exact ⟨fun h k hk=>h k (List.mem_range.2 hk),fun h k hk=>h k (List.mem_range.1 hk)⟩
structure C0h (p:A9):Prop where
 kind:1≤p.kind∧p.kind<8
 skus:p.scope.skus.length≤20
 cats:p.scope.cats.length≤20
 least:0≤p.least∧p.least≤10000000000000
 buy:p.kind=3→A7Z p
 bun:p.kind=4→A2z p∧∀ x∈p.parts,x.scope.skus.length≤20∧x.scope.cats.length≤20
 ask:M9 p→p.kind=1∨p.kind=2∨p.kind=5∨p.kind=6→A3L p
 ship:p.kind=7→1≤p.rate∧p.rate≤10000
theorem B7n {l:List Y0} (h:U0 l=true):A5Q l:=by
 unfold U0 at h
 simp only [Bool.and_eq_true,Bool.not_eq_true',Bool.or_eq_false_iff,decide_eq_false_iff_not] at h
 refine ⟨by omega,fun t ht=>?_⟩
 obtain ⟨k,hk,rfl⟩:=F0 ht
 have h2:=B0d.1 h.2 k hk
 unfold A2v at h2
 simp only [Bool.not_eq_true',Bool.or_eq_false_iff,decide_eq_false_iff_not] at h2
 omega
theorem A2i {p:A9} (h:F6 p=true):C0h p:=by
 have h0:=h
 unfold F6 at h
 simp only [Bool.and_eq_true,decide_eq_true_eq] at h
 obtain ⟨⟨⟨⟨hk1,hk2⟩,hh⟩,hp⟩,hkd⟩:=h
 have hl:=B0r hh
 simp only [A5e,Bool.and_eq_true,K4] at hh
 unfold A5f at hkd
 refine ⟨⟨hk1,hk2⟩,hl.1,hl.2,hh.2,fun e=>?_,fun e=>?_,fun hf e=>?_,fun e=>?_⟩
 ·rw [e] at hkd
  simp [A6l,A6m,K4] at hkd
  exact ⟨hkd.2.1,hkd.2.2,⟨by omega,hkd.1.2⟩⟩
 ·rw [e] at hkd
  simp only [show ¬(4:Int)=1 by decide,show ¬(4:Int)=2 by decide,show ¬(4:Int)=3 by decide,if_false,if_true] at hkd
  unfold A4M at hkd
  simp only [Bool.and_eq_true,Bool.not_eq_true',Bool.or_eq_false_iff,decide_eq_false_iff_not,List.any_eq_false] at hkd
  obtain ⟨⟨⟨⟨a1,a2⟩,a3⟩,a4⟩,a5⟩:=hkd
  have hpt:∀ x∈p.parts,Y3 x=true:=fun x hx=>by simpa using a5 x hx
  refine ⟨⟨by omega,by omega,fun x hx=>?_,by omega,by omega⟩,fun x hx=>?_⟩
  ·have:=hpt x hx
   unfold Y3 at this
   simp only [Bool.and_eq_true,Bool.not_eq_true',Bool.or_eq_false_iff,decide_eq_false_iff_not] at this
   omega
  ·have:=hpt x hx
   unfold Y3 at this
   simp only [Bool.and_eq_true] at this
   exact A9j this.1
 ·refine ⟨hf,h0,e,fun e2=>?_,fun e2=>?_⟩
  ·rcases e2 with e2 | e2<;>rw [e2] at hkd<;>simp at hkd<;>exact B7n hkd
  ·rw [e2] at hkd
   simp [A6k,K4] at hkd
   omega
 ·rw [e] at hkd
  simp [A6m,K4] at hkd
  exact hkd
theorem B5A {p:A9} (hp:A3L p) {nets:List Int} (h0:∀ x∈nets,0≤x) (hs:A5 nets≤10000000000000) (hl:nets.length≤100000):∀ k,k<(K6 p nets).length→gI (K6 p nets) k≤gI nets k:=fun k hk=>by
 have hn:=C9 h0
 have hlen:=(A3o hp h0 hs hl).2.1
 have hx:0≤gI nets k:=h0 _ (B4 (by omega))
 have hkn:k<nets.length:=by omega
 unfold K6 at hk ⊢
 have hmap:∀ (r a:Int),0≤a→gI (nets.map fun x=>N2 x r a) k≤gI nets k:=fun r a ha=>by
  rw [show gI (nets.map fun x=>N2 x r a) k=N2 (gI nets k) r a from E1 (fun x=>N2 x r a) nets hkn]
  exact (V0 hx ha).2
 rcases hp.kind with e | e | e | e
 ·rw [if_pos e] at hk ⊢;exact hmap _ _ (Int.le_refl _)
 ·rw [if_neg (by omega),if_pos e] at hk ⊢;exact hmap _ _ (hp.amount e).1
 ·rw [if_neg (by omega),if_neg (by omega),if_pos e] at hk ⊢
  have hok:=V6 (hp.tiers (.inl e)) (A5 nets)
  unfold A3B at hk ⊢
  split at hk
  ·simp at hk
  ·rename_i t hr
   rw [hr] at hok
   have hob:0≤N2 (A5 nets) t.rate t.amount∧N2 (A5 nets) t.rate t.amount≤A5 nets:=V0 hn hok.1
   have hW:O7 (N2 (A5 nets) t.rate t.amount) nets:=⟨hob.1,by omega,hl,h0,by omega,fun e=>by omega⟩
   have hll:=(U8 hW).2.1
   exact A5t hW hob.2 (by omega)
 ·rw [if_neg (by omega),if_neg (by omega),if_neg (by omega)] at hk ⊢
  have hok:=V6 (hp.tiers (.inr e)) nets.length
  unfold A3A at hk ⊢
  split at hk
  ·simp at hk
  ·rename_i t hr
   rw [hr] at hok
   exact hmap _ _ hok.1
theorem A6j (us:List B5) (mine:List Int):E4 us mine=G8 us mine:=rfl
theorem B3N {p:A9} (hp:A3L p) {us:List B5} (hu:E2 us) {mine:List Int} (hm:J8 us mine):Off us (T8 p us mine).1 (T8 p us mine).2:=by
 have hnl:(E4 us mine).length=mine.length:=List.length_map ..
 have hml:=hm.len
 have hul:=hu.len
 have hn0:∀ x∈E4 us mine,0≤x:=fun x hx=>by
  obtain ⟨i,hi,rfl⟩:=List.mem_map.1 hx
  exact hu.at0 _
 have hwl:=A9y hu hm.places
 have hus:=hu.sum
 have hns:A5 (E4 us mine)≤10000000000000:=by rw [A6j];omega
 obtain ⟨ob1,ob2,ob3⟩:=A3o hp hn0 hns (by omega)
 have hle:=B5A hp hn0 hns (by omega)
 have h1:=A1a hu hm.places (offs:=K6 p (E4 us mine)) (by omega) (fun k hk=>⟨ob3 _ (B4 hk),by
  have:=hle k hk
  rw [show gI (E4 us mine) k=(gU us (gI mine k).toNat).net from E1 (fun i:Int=>(gU us i.toNat).net) mine (by omega)] at this
  exact this⟩) (K6 p (E4 us mine)).length (Nat.le_refl _)
 rw [List.take_length] at h1
 unfold T8
 simp only
 split
 ·have h2:=Off.closeB (h1.ok hu) mine (fun x hx=>by
   obtain ⟨k,hk,rfl⟩:=F0 hx
   rw [h1.len];exact (hm.rng k hk).2)
  have h3:=h1.trans h2
  rw [Int.add_zero] at h3;exact h3
 ·exact h1
end Go.Proofs.YtbajhapmlfbelaaGreat
namespace Go.Proofs.YtbajhapmlfbelaaGreat
open Go Go.Ab
attribute [local irreducible] upd del
theorem PxR.more {bx:Nat} {items:List Ab.Item} {p:PSt} {s t t':St} (h:PxR bx items p s t) (hs:G3 t t'):PxR bx items p s t':=by
 obtain ⟨v,h1,y,h2,s1,h3,s2,h4,h5⟩:=h
 exact ⟨v,h1,y,h2,s1,h3,s2,h4,h5.trans hs⟩
structure A4Y (items:List Ab.Item) (us:List B5):Prop where
 ok:E2 us
 few:items.length≤100000
 line:∀ u∈us,0≤u.line∧u.line.toNat<items.length
theorem A4Y.off {items:List Ab.Item} {us us':List B5} {x:Int} (h:A4Y items us) (ho:Off us us' x):A4Y items us' :=
 ⟨ho.ok h.ok,h.few,fun u hu=>by
  obtain ⟨k,hk,rfl⟩:=F0 hu
  have h1:=ho.line k
  have h2:=h.line (gU us k) (B4 (by rw [←ho.len];exact hk))
  show 0≤(gU us' k).line∧(gU us' k).line.toNat<items.length
  rw [h1];exact h2⟩
def A0S (items:List Ab.Item) (us:List B5) (pr:A9):List B5×Int :=
 if A0A us (H5 pr.scope items us us.length)<pr.least then ([],0)
 else if pr.kind=3 then R0 pr us (H5 pr.scope items us us.length) else T8 pr us (H5 pr.scope items us us.length)
theorem C2q {P:Program} {f:FuncId} {args:List AV} {st st1:St} {v:AV} {K:KK} (h:S P f args st fun v' st'=>v'=v∧st'=st1) (hK:K v st1):A1c P f args st K:=call h fun v' st' ⟨e1,e2⟩=>by rw [e1,e2];exact hK
theorem B9q (bx:Nat) (items:List Ab.Item) (p:PSt) (pr:A9) (hfit:M9 pr) (hright:F6 pr=true) (hk:pr.kind≠4∧pr.kind≠7) (hu:A4Y items p.us) (s t:St) (h:PxR bx items p s t) :
  S P 151 [.optr 4 bx 0 0,B7 pr] t fun v t'=>v=.tuple [C6 (A0S items p.us pr).1,eI (A0S items p.us pr).2]∧t'=t:=by
 have hok:=A2i hright
 have hm:=A0q pr.scope items p.us
 have hml:=hm.len
 have hul:=hu.ok.len
 refine S.post (post:=fun v t'=>(v=.tuple [C6 (A0S items p.us pr).1,eI (A0S items p.us pr).2]∨(A0S items p.us pr=([],0)∧v=.tuple [.emp,eI 0]))∧t'=t) ?_ (fun v t' ⟨hv,ht⟩=>by
  subst ht
  rcases hv with rfl | ⟨h1,rfl⟩
  ·exact ⟨_,_,⟨rfl,rfl⟩,B3.refl _ _⟩
  ·exact ⟨_,_,⟨rfl,rfl⟩,by rw [h1];exact B3.tuple (B3.cons (I8 3 _) (B3.keep _ _)) rfl⟩)
 obtain ⟨dv,gv,fx,hx,hx0,hdv,hgv⟩:=h.at
 refine A8 [3] B9 mixed Tryz.func151 (by rfl) rfl rfl rfl ?_;conv=>whnf
 refine B0 (B8D bx items p pr.scope hok.skus hok.cats hul hu.few hu.line s t h) ?_;conv=>whnf
 refine ⟨[],[],[0,1,2,3,4,5],by kernel_rfl,?_⟩;conv=>whnf
 refine ⟨_,D3 (C3N bx items p hu.ok _ (by omega) hm.rng s t h),?_⟩
 have hS:A0S items p.us pr=if A0A p.us (H5 pr.scope items p.us p.us.length)<pr.least then ([],0) else if pr.kind=3 then R0 pr p.us (H5 pr.scope items p.us p.us.length) else T8 pr p.us (H5 pr.scope items p.us p.us.length):=rfl
 conv=>whnf
 refine C0 (fun h1=>?_) (fun h1=>?_)<;>rw [h1]<;>simp only [decide_eq_true_eq,decide_eq_false_iff_not] at h1
 ·rw [if_pos h1] at hS;conv=>whnf
  exact ⟨.inr ⟨hS,rfl⟩,rfl⟩
 rw [if_neg h1] at hS;conv=>whnf
 refine C0 (fun h2=>?_) (fun h2=>?_)<;>rw [h2]<;>simp only [beq_iff_eq,beq_eq_false_iff_ne] at h2
 ·rw [if_pos h2] at hS;conv=>whnf
  refine ⟨[],[],[0,1,2,3,4,5,6,7,8,9,10],by kernel_rfl,?_⟩;conv=>whnf
  refine F7 hx rfl (by omega) hx0 ?_;conv=>whnf
  refine ⟨_,D3 (B7T pr p.us _ hfit hright h2 (hok.buy h2) hu.ok hm t),?_⟩;conv=>whnf
  exact ⟨.inl (by rw [hS];rfl),rfl⟩
 ·rw [if_neg h2] at hS
  have hask:A3L pr:=hok.ask hfit (by have:=hok.kind;have:=hk.1;have:=hk.2;omega)
  conv=>whnf
  refine ⟨[],[],[0,1,2,3,4,5,6,7,8,9,10],by kernel_rfl,?_⟩;conv=>whnf
  refine F7 hx rfl (by omega) hx0 ?_;conv=>whnf
  refine ⟨_,D3 (C0n pr p.us _ hask hu.ok hm t),?_⟩;conv=>whnf
  exact ⟨.inl (by rw [hS];rfl),rfl⟩
theorem B8o (a b:List Int) (j:Nat):gI (a++b) (a.length+j)=gI b j:=by
 unfold gI
 rw [List.getD_eq_getElem?_getD,List.getD_eq_getElem?_getD,List.getElem?_append_right (by omega),Nat.add_sub_cancel_left]
theorem C2D (bx:Nat) (t:St):S P 240 [.optr 4 bx 0 0,.emp] t fun v t'=>v=eI 0∧t'=t:=by
 refine A8 [] B9 mixed Tryz.func240 (by rfl) rfl rfl rfl ?_;conv=>whnf
 refine A7G [0,5,8,9,10] ?_;conv=>whnf
 intro I;conv=>whnf
 exact ⟨rfl,rfl⟩
def N7 (items:List Ab.Item) (us:List B5) (pr:A9):List (List Int):=pr.parts.map fun x=>H5 x.scope items us us.length
def W4 (items:List Ab.Item) (us:List B5) (pr:A9) (i:Nat):List Int:=((N7 items us pr).take i).flatten
def Y8 (items:List Ab.Item) (us:List B5) (pr:A9):List B5×Int :=
 if A0A us (S1 (C4 (W4 items us pr pr.parts.length)))<pr.least then ([],0) else N9 pr us (N7 items us pr)
theorem A6L (items:List Ab.Item) (us:List B5) (pr:A9) {i:Nat} (hi:i<pr.parts.length):W4 items us pr (i+1)=W4 items us pr i++H5 (pr.parts.getD i default).scope items us us.length:=by
 unfold W4
 have hl:(N7 items us pr).length=pr.parts.length:=List.length_map ..
 rw [L9 (by omega),List.flatten_append]
 congr 1
 have:(N7 items us pr).getD i default=H5 (pr.parts.getD i default).scope items us us.length:=E1 (fun x:P3=>H5 x.scope items us us.length) pr.parts hi
 rw [this];simp
theorem A8f (items:List Ab.Item) (us:List B5) (pr:A9):∀ i,i≤pr.parts.length→(W4 items us pr i).length≤i * us.length
 | 0,_=>by simp [W4]
 | i+1,h=>by
  have ih:=A8f items us pr i (by omega)
  rw [A6L items us pr (by omega),List.length_append]
  have:=A1z (pr.parts.getD i default).scope items us us.length
  have e:(i+1) * us.length=i * us.length+us.length:=Nat.succ_mul i us.length
  omega
theorem B0h {l:List Int} {x:Int} (h:x∈S1 l):x∈l:=by
 unfold S1 Go.Lib.compactUpTo at h
 obtain ⟨k,hk,rfl⟩:=List.mem_map.1 h
 have hk2:k<l.length:=List.mem_range.1 (List.mem_filter.1 hk).1
 have:l.toArray[k]! = l[k]:=by rw [getElem!_pos _ k (by simpa using hk2)];simp
 rw [this];exact List.getElem_mem hk2
theorem A8g {items:List Ab.Item} {us:List B5} {pr:A9} {i:Nat} {x:Int} (h:x∈W4 items us pr i):0≤x∧x.toNat<us.length:=by
 unfold W4 at h
 obtain ⟨l,hl,hx⟩:=List.mem_flatten.1 h
 obtain ⟨q,hq,rfl⟩:=List.mem_map.1 (List.take_subset _ _ hl)
 obtain ⟨k,hk,rfl⟩:=F0 hx
 exact (A0q q.scope items us).rng k hk
theorem B6I (bx:Nat) (items:List Ab.Item) (p:PSt) (pr:A9) (hfit:M9 pr) (hright:F6 pr=true) (hk:pr.kind=4) (hu:A4Y items p.us) (s t:St) (h:PxR bx items p s t) :
  S P 152 [.optr 4 bx 0 0,B7 pr] t fun v t'=>v=.tuple [C6 (Y8 items p.us pr).1,eI (Y8 items p.us pr).2]∧t'=t:=by
 have hok:=A2i hright
 obtain ⟨hbun,hsc⟩:=hok.bun hk
 have hn8:=hbun.n8
 have hul:=hu.ok.len
 have hpl:(N7 items p.us pr).length=pr.parts.length:=List.length_map ..
 have hpm:∀ x∈N7 items p.us pr,J8 p.us x:=fun x hx=>by
  obtain ⟨q,hq,rfl⟩:=List.mem_map.1 hx
  exact A0q _ _ _
 refine S.post (post:=fun v t'=>(v=.tuple [C6 (Y8 items p.us pr).1,eI (Y8 items p.us pr).2]∨(Y8 items p.us pr=([],0)∧v=.tuple [.emp,eI 0]))∧G3 t t') ?_ (fun v t' ⟨hv,ht⟩=>by
  rcases hv with rfl | ⟨h1,rfl⟩
  ·exact ⟨_,_,⟨rfl,rfl⟩,ht.shift _⟩
  ·exact ⟨_,_,⟨rfl,rfl⟩,by rw [h1];exact (ht.shift _).trans (B3.tuple (B3.cons (I8 3 _) (B3.keep _ _)) rfl)⟩)
 have hBi:=fun (n:Nat) (sv:AV) (fo:Nat→AV)=>A0a J9 3 1 fo n sv
 refine A8 [3,9] B9 mixed Tryz.func152 (by rfl) rfl rfl rfl ?_;conv=>whnf
 refine ⟨[0,3,6,7,12,13,14],fun m vs t'=>∃ (i:Nat) (sv1 sv2:AV),i≤pr.parts.length∧m=pr.parts.length - i∧vs=[.optr 4 bx 0 0,.fptr (B7 pr) 0,sv1,sv2,B2 3 Q4 pr.parts,eI pr.parts.length,eI i] ∧
  ROut (fun s t'=>ROut G3 3 1 (fun k=>eI (gI (W4 items p.us pr i) k)) (W4 items p.us pr i).length s sv2 t') 29 1 (fun k=>B6 ((N7 items p.us pr).getD k default)) i t sv1 t',?_,?_⟩
 ·conv=>whnf
  exact ⟨_,0,.emp,.emp,Nat.zero_le _,rfl,rfl,ROut.start (ROut.start (G3.refl _) _ _ _) _ _ _⟩
 ·rintro m vs t' ⟨i,sv1,sv2,hi,rfl,rfl,hout⟩
  have hal:=A8f items p.us pr i hi
  have hal2:i * p.us.length≤8 * 100000:=Nat.mul_le_mul (by omega) hul
  have hsup:G3 t t':=hout.sup (hBi _ _ _)
  conv=>whnf
  cases hd:decide ((i:Int)<(pr.parts.length:Int))
  ·have:=of_decide_eq_false hd
   obtain rfl:i=pr.parts.length:=by omega
   obtain ⟨s1,hc1,hout2⟩:=hout
   generalize hA:W4 items p.us pr pr.parts.length=A at *
   have hAm:∀ x∈A,0≤x∧x.toNat<p.us.length:=fun x hx=>A8g (by rw [hA];exact hx)
   have hSl:(C4 A).length=A.length:=S0 A
   have hCl:=A6O (C4 A)
   have hCm:∀ k,k<(S1 (C4 A)).length→0≤gI (S1 (C4 A)) k∧(gI (S1 (C4 A)) k).toNat<p.us.length:=fun k hk=>hAm _ (Q2.1 (B0h (B4 hk)))
   conv=>whnf
   refine call (B0E J9 (by omega) hout2) (fun v t2 hv=>?_)
   obtain ⟨rfl,hout3⟩:=hv
   have hsup2:G3 s1 t2:=hout3.sup J9
   have hB:Y8 items p.us pr=if A0A p.us (S1 (C4 A))<pr.least then ([],0) else N9 pr p.us (N7 items p.us pr):=by unfold Y8;rw [hA]
   -- what is behind the two,with the store as it is then
   have fin:∀ t3,G3 s1 t3→∀ K:KK,(∀ v,v=.tuple [C6 (N9 pr p.us (N7 items p.us pr)).1,eI (N9 pr p.us (N7 items p.us pr)).2]→K v t)→A1c P 244 [B7 pr,C6 p.us,sv1] t3 K:=fun t3 h3 K hK=>by
    have hsh:B3 [B7 pr,C6 p.us,sv1] t3 [B7 pr,C6 p.us,B2 1 B6 (N7 items p.us pr)] t:=by
     refine B3.cons (B3.keep _ _) (B3.cons (B3.keep _ _) ?_)
     have e:B2 1 B6 (N7 items p.us pr)=.arr 1 pr.parts.length (fun k=>B6 ((N7 items p.us pr).getD k default)):=by unfold B2;rw [hpl]
     rw [e]
     exact (h3.shift _).trans hc1.shift
    refine H8 hsh (call (B7S pr p.us (N7 items p.us pr) hfit hright hk hbun hu.ok hpl hpm t) (fun v t4 hv=>?_))
    rw [hv.2];exact hK v hv.1
   have hpx:∀ t3,G3 s1 t3→PxR bx items p s t3:=fun t3 h3=>h.more (hc1.sup.trans h3)
   conv=>whnf
   refine ⟨[2,5],[],[],.qui 0 (.qui 1 (.qui 4 (.two 2 5 (.qui 5 (.qui 3 (.qui 6 .done))) (.gen 2 (.qui 3 (.qui 6 .done)))))),by kernel_rfl,?_⟩
   obtain ⟨s2,hc2,hs2⟩:=hout3
   rcases hc2 with ⟨h0,rfl,rfl⟩ | ⟨h0,b2,g2,hb2,rfl,rfl,hg2⟩
   ·have hA0:A=[]:=List.eq_nil_of_length_eq_zero h0
    have hnet:A0A p.us (S1 (C4 A))=0:=by
     have:S1 (C4 A)=[]:=List.eq_nil_of_length_eq_zero (by omega)
     rw [this];rfl
    rw [hnet] at hB;conv=>whnf
    constructor
    all_goals conv=>whnf
    all_goals refine B0 (B3S _) ?_
    all_goals conv=>whnf
    all_goals refine ⟨_,D3 (C2D bx _),?_⟩
    all_goals conv=>whnf
    all_goals refine C0 (fun h1=>?_) (fun h1=>?_)<;>rw [h1]<;>simp only [decide_eq_true_eq,decide_eq_false_iff_not] at h1
    all_goals first
     | (rw [if_pos h1] at hB
        conv=>whnf
        exact ⟨.inr ⟨hB,rfl⟩,hc1.sup.trans hs2⟩)
     | (rw [if_neg h1] at hB
        obtain ⟨dv,gv,fx,hx,hx0,_,_⟩:=(hpx _ hs2).at
        conv=>whnf
        refine ⟨[6],[],[0,1,2,3,4,5,6,7,8,9,10],by kernel_rfl,?_⟩;conv=>whnf
        refine F7 hx rfl (by omega) hx0 ?_;conv=>whnf
        refine fin _ hs2 _ (fun v hv=>?_)
        subst hv;conv=>whnf
        exact ⟨.inl (by rw [hB];rfl),G3.refl _⟩)
   ·have hb2t:=hs2 b2 _ (A0 ..)
    have hC:=B6f b2 (C4 A) (by omega) t2 ⟨g2,by rw [hb2t,hSl],fun k hk=>hg2 k (by omega)⟩
    rw [hSl] at hC
    have hs3:∀ y,G3 s1 (upd t2 b2 y):=fun y=>hsup2.over hb2
    have hN:=fun t3 (h3:G3 s1 t3) (e3:t3=upd t2 b2 (A4m (A5X (C4 A))))=>C2E bx items p hu.ok (S1 (C4 A)) (by omega) hCm s t3 (hpx t3 h3) b2 (A5X (C4 A)).length (fun k=>eI (gI (A5X (C4 A)) k)) (by rw [B0i];omega) (by rw [e3,A0];rfl) (fun k hk=>by rw [C0E hk])
    conv=>whnf
    constructor
    all_goals conv=>whnf
    all_goals refine C2q hC ?_
    all_goals conv=>whnf
    all_goals refine ⟨_,D3 (hN _ (hs3 _) rfl),?_⟩
    all_goals conv=>whnf
    all_goals refine C0 (fun h1=>?_) (fun h1=>?_)<;>rw [h1]<;>simp only [decide_eq_true_eq,decide_eq_false_iff_not] at h1
    all_goals first
     | (rw [if_pos h1] at hB
        conv=>whnf
        exact ⟨.inr ⟨hB,rfl⟩,hc1.sup.trans (hs3 _)⟩)
     | (rw [if_neg h1] at hB
        obtain ⟨dv,gv,fx,hx,hx0,_,_⟩:=(hpx _ (hs3 (A4m (A5X (C4 A))))).at
        conv=>whnf
        refine ⟨[6],[],[0,1,2,3,4,5,6,7,8,9,10],by kernel_rfl,?_⟩;conv=>whnf
        refine F7 hx rfl (by omega) hx0 ?_;conv=>whnf
        refine fin _ (hs3 _) _ (fun v hv=>?_)
        subst hv;conv=>whnf
        exact ⟨.inl (by rw [hB];rfl),G3.refl _⟩)
  ·have hi':i<pr.parts.length:=by have:=of_decide_eq_true hd;omega
   have hq:=hsc (pr.parts.getD i default) (B4 hi')
   have hpk:(N7 items p.us pr).getD i default=H5 (pr.parts.getD i default).scope items p.us p.us.length:=E1 (fun x:P3=>H5 x.scope items p.us p.us.length) pr.parts hi'
   have hls:=A6L items p.us pr hi'
   have hml:=A1z (pr.parts.getD i default).scope items p.us p.us.length
   conv=>whnf
   refine ⟨rfl,⟨by omega,by omega⟩,?_⟩;conv=>whnf
   refine B0 (B8D bx items p (pr.parts.getD i default).scope hq.1 hq.2 hul hu.few hu.line s t' (h.more hsup)) ?_;conv=>whnf
   refine ROut.app (q:=r29) (hBi _ _ _) rfl rfl rfl rfl rfl (by simp only [hpk];rfl) (by show (i+1) * 24≤140737488355328;omega) hout (fun sv1' t2 hout2=>?_);conv=>whnf
   obtain ⟨s1,hc1,hin⟩:=hout2
   refine ROut.apps (q:=r3) (n:=(W4 items p.us pr i).length) (m:=(H5 (pr.parts.getD i default).scope items p.us p.us.length).length) J9 rfl rfl rfl rfl (B1P rfl _) (f:=fun k=>eI (gI (W4 items p.us pr (i+1)) k)) (fun j hj=>?_) (by show ((W4 items p.us pr i).length+(H5 (pr.parts.getD i default).scope items p.us p.us.length).length) * 8≤140737488355328;omega) (hin.congr fun k hk=>by rw [hls,J4 hk]) (fun sv2' t3 hout3=>?_)
   ·rw [hls]
    show eI (gI (H5 (pr.parts.getD i default).scope items p.us p.us.length) j)=eI (gI _ _)
    rw [B8o]
   conv=>whnf
   refine ⟨rfl,?_⟩;conv=>whnf
   refine ⟨pr.parts.length - (i+1),by omega,i+1,sv1',sv2',by omega,rfl,by rw [C2 (by omega)],s1,hc1,?_⟩
   rw [hls,List.length_append,←hls];exact hout3
def U2 (items:List Ab.Item) (us:List B5) (pr:A9):List B5×Int:=if pr.kind=4 then Y8 items us pr else A0S items us pr
def A3e (items:List Ab.Item) (p:PSt) (pr:A9):PSt :=
 if (U2 items p.us pr).2>0 then A0s ⟨(U2 items p.us pr).1,p.deals,p.groups⟩ pr (U2 items p.us pr).2 else p
theorem B5Q {items:List Ab.Item} {us:List B5} (hu:A4Y items us) {pr:A9} (hfit:M9 pr) (hright:F6 pr=true) (hk:pr.kind≠7):U2 items us pr=([],0)∨Off us (U2 items us pr).1 (U2 items us pr).2:=by
 have hok:=A2i hright
 unfold U2
 split
 ·rename_i h4
  unfold Y8
  split
  ·exact .inl rfl
  ·right
   have hpl:(N7 items us pr).length=pr.parts.length:=List.length_map ..
   exact B2l (hok.bun h4).1 hu.ok hpl fun k hk=>by
    have hm:=B4 (l:=N7 items us pr) hk
    obtain ⟨q,hq,he⟩:=List.mem_map.1 hm
    rw [show (N7 items us pr).getD k []=(N7 items us pr).getD k default from rfl,←he]
    exact A0q _ _ _
 ·rename_i h4
  unfold A0S
  split
  ·exact .inl rfl
  ·right
   split
   ·rename_i h3
    exact B2m (hok.buy h3) hu.ok (A0q _ _ _)
   ·rename_i h3
    exact B3N (hok.ask hfit (by have:=hok.kind;omega)) hu.ok (A0q _ _ _)
theorem B2j {items:List Ab.Item} {p:PSt} (hu:A4Y items p.us) {pr:A9} (hfit:M9 pr) (hright:F6 pr=true) (hk:pr.kind≠7):∃ x,Off p.us (A3e items p pr).us x:=by
 unfold A3e
 split
 ·rename_i h0
  rcases B5Q hu hfit hright hk with e | e
  ·rw [e] at h0;exact absurd h0 (by decide)
  ·exact ⟨_,e⟩
 ·exact ⟨0,Off.refl hu.ok⟩
theorem C3x (bx:Nat) (items:List Ab.Item) (p:PSt) (pr:A9) (hfit:M9 pr) (hright:F6 pr=true) (hk:pr.kind≠7) (hu:A4Y items p.us) (hd:p.deals.length≤1000) (hg:p.groups.length≤1000) (s t:St) (h:PxR bx items p s t) :
  S P 80 [.optr 4 bx 0 0,B7 pr] t fun v t'=>v=.tuple []∧PxR bx items (A3e items p pr) s t':=by
 have key:∀ K:KK,(∀ v,v=.tuple [C6 (U2 items p.us pr).1,eI (U2 items p.us pr).2]→K v t)→A1c P (if pr.kind=4 then 152 else 151) [.optr 4 bx 0 0,B7 pr] t K:=fun K hK=>by
  unfold U2 at hK
  split
  ·rename_i h4
   rw [if_pos h4] at hK
   exact call (B6I bx items p pr hfit hright h4 hu s t h) (fun v t' hv=>by rw [hv.2];exact hK v hv.1)
  ·rename_i h4
   rw [if_neg h4] at hK
   exact call (B9q bx items p pr hfit hright ⟨h4,hk⟩ hu s t h) (fun v t' hv=>by rw [hv.2];exact hK v hv.1)
 obtain ⟨⟨dv,gv⟩,hbx,y,⟨f,rfl,hf⟩,hRD⟩:=h
 simp only at hf hRD
 have hA:A3e items p pr=if (U2 items p.us pr).2>0 then A0s ⟨(U2 items p.us pr).1,p.deals,p.groups⟩ pr (U2 items p.us pr).2 else p:=rfl
 have h0:PxR bx items p s t:=⟨(dv,gv),hbx,_,⟨f,rfl,hf⟩,hRD⟩
 refine A8 [3] B9 mixed Tryz.func80 (by rfl) rfl rfl rfl ?_;conv=>whnf
 refine C0 (fun h4=>?_) (fun h4=>?_)<;>rw [h4]<;>simp only [beq_iff_eq,beq_eq_false_iff_ne] at h4
 ·rw [if_pos h4] at key;conv=>whnf
  refine key _ (fun v hv=>?_)
  subst hv;conv=>whnf
  refine C0 (fun h5=>?_) (fun h5=>?_)<;>rw [h5]<;>simp only [decide_eq_true_eq,decide_eq_false_iff_not] at h5
  ·rw [if_pos h5] at hA
   rw [hA];conv=>whnf
   refine K8 hRD.at rfl (by omega) hf (by rfl) ?_;conv=>whnf
   refine call (B4p bx items ⟨(U2 items p.us pr).1,p.deals,p.groups⟩ pr _ hd hg s _ (PxR.fin hbx hRD _ (by rw [A6];rfl))) (fun v t' hv=>?_)
   obtain ⟨rfl,h6⟩:=hv
   conv=>whnf
   exact ⟨rfl,h6⟩
  ·rw [if_neg h5] at hA
   rw [hA];conv=>whnf
   exact ⟨rfl,h0⟩
 ·rw [if_neg h4] at key;conv=>whnf
  refine key _ (fun v hv=>?_)
  subst hv;conv=>whnf
  refine C0 (fun h5=>?_) (fun h5=>?_)<;>rw [h5]<;>simp only [decide_eq_true_eq,decide_eq_false_iff_not] at h5
  ·rw [if_pos h5] at hA
   rw [hA];conv=>whnf
   refine K8 hRD.at rfl (by omega) hf (by rfl) ?_;conv=>whnf
   refine call (B4p bx items ⟨(U2 items p.us pr).1,p.deals,p.groups⟩ pr _ hd hg s _ (PxR.fin hbx hRD _ (by rw [A6];rfl))) (fun v t' hv=>?_)
   obtain ⟨rfl,h6⟩:=hv
   conv=>whnf
   exact ⟨rfl,h6⟩
  ·rw [if_neg h5] at hA
   rw [hA];conv=>whnf
   exact ⟨rfl,h0⟩
def A5i (p:PSt) (pr:A9) (net ship:Int):Int×PSt :=
 if net<pr.least then (ship,p) else (ship - H4 ship pr.rate,if H4 ship pr.rate>0 then A0s p pr (H4 ship pr.rate) else p)
theorem B4H (bx:Nat) (items:List Ab.Item) (p:PSt) (pr:A9) (net ship:Int) (h0:0≤ship) (h1:ship≤10000000000000) (hd:p.deals.length≤1000) (hg:p.groups.length≤1000) (s t:St) (h:PxR bx items p s t) :
  S P 83 [.optr 4 bx 0 0,B7 pr,eI net,eI ship] t fun v t'=>v=eI (A5i p pr net ship).1∧PxR bx items (A5i p pr net ship).2 s t':=by
 have hS:A5i p pr net ship=if net<pr.least then (ship,p) else (ship - H4 ship pr.rate,if H4 ship pr.rate>0 then A0s p pr (H4 ship pr.rate) else p):=rfl
 have hb:=P4 ship pr.rate
 have w:IntKind.i64.wrap (ship - H4 ship pr.rate)=ship - H4 ship pr.rate:=A7 (by omega) (by omega)
 refine A8 [5] B9 mixed Tryz.func83 (by rfl) rfl rfl rfl ?_;conv=>whnf
 refine C0 (fun h2=>?_) (fun h2=>?_)<;>rw [h2]<;>simp only [decide_eq_true_eq,decide_eq_false_iff_not] at h2
 ·rw [if_pos h2] at hS
  rw [hS];conv=>whnf
  exact ⟨rfl,h⟩
 rw [if_neg h2] at hS
 rw [hS];conv=>whnf
 refine B0 (B4A ship pr.rate 1 t) ?_;conv=>whnf
 refine C0 (fun h3=>?_) (fun h3=>?_)<;>rw [h3]<;>simp only [decide_eq_true_eq,decide_eq_false_iff_not] at h3
 ·conv=>whnf
  refine call (B4p bx items p pr _ hd hg s t h) (fun v t' hv=>?_)
  obtain ⟨rfl,h4⟩:=hv
  conv=>whnf
  have h3':H4 ship pr.rate>0:=h3
  rw [if_pos h3']
  refine ⟨?_,h4⟩
  show AV.int .i64 (IntKind.i64.wrap (ship - H4 ship pr.rate))=_
  rw [w]
 ·conv=>whnf
  have h3':¬ H4 ship pr.rate>0:=h3
  rw [if_neg h3']
  refine ⟨?_,h⟩
  show AV.int .i64 (IntKind.i64.wrap (ship - H4 ship pr.rate))=_
  rw [w]
def Z0 (s:Ab.Ship) (units net:Int):Int:=if units=0∨(s.free>0∧net≥s.free) then 0 else s.fee
theorem C3D (s:Ab.Ship) (units net:Int) (t:St):S P 81 [C1N s,eI units,eI net] t fun v t'=>v=eI (Z0 s units net)∧t'=t:=by
 refine A8 [3] B9 mixed Tryz.func81 (by rfl) rfl rfl rfl ?_;conv=>whnf
 refine C0 (fun h1=>?_) (fun h1=>?_)<;>rw [h1]<;>simp only [beq_iff_eq,beq_eq_false_iff_ne] at h1
 ·conv=>whnf
  exact ⟨by unfold Z0;rw [if_pos (.inl h1)];rfl,rfl⟩
 conv=>whnf
 refine C0 (fun h2=>?_) (fun h2=>?_)<;>rw [h2]<;>simp only [decide_eq_true_eq,decide_eq_false_iff_not] at h2
 ·conv=>whnf
  refine C0 (fun h3=>?_) (fun h3=>?_)<;>rw [h3]<;>simp only [decide_eq_true_eq,decide_eq_false_iff_not] at h3
  ·conv=>whnf
   exact ⟨by unfold Z0;rw [if_pos (.inr ⟨h2,h3⟩)];rfl,rfl⟩
  ·conv=>whnf
   exact ⟨by unfold Z0;rw [if_neg (by rintro (e | ⟨_,e⟩)<;>contradiction)];rfl,rfl⟩
 ·conv=>whnf
  exact ⟨by unfold Z0;rw [if_neg (by rintro (e | ⟨e,_⟩)<;>contradiction)];rfl,rfl⟩
theorem B2z (pr:A9) (t:St):S P 77 [B7 pr] t fun v t'=>v=.bool (pr.kind==7)∧t'=t:=by
 refine A8 [1] B9 mixed Tryz.func77 (by rfl) rfl rfl rfl ?_;conv=>whnf
 exact ⟨rfl,rfl⟩
theorem B8I (pr:A9) (t:St):S P 79 [B7 pr,.fptr (.fn (.func 77) [] []) 0] t fun v t'=>v=.bool (!(pr.kind==7))∧t'=t:=by
 refine A8 [2] B9 mixed Tryz.func79 (by rfl) rfl rfl rfl ?_;conv=>whnf
 refine B0 (B2z pr t) ?_;conv=>whnf
 exact ⟨rfl,rfl⟩
theorem B3b {R R':St→St→Prop} (hR:J5 R) (hm:∀ s t t',R s t→G3 t t'→R s t') (hR':J5 R') {f:FuncId} {args:List AV} {w:AV} {s t0 t:St} {q:Nat} {fl:Bool} {es:List QE} (h:R s t0) (hq:QSt t0 q fl es t)
  (hS:∀ u,R u t→S P f args t fun v t'=>v=w∧R' u t'):S P f args t fun v t'=>v=w∧∃ t0',R' s t0'∧QSt t0' q fl es t':=by
 obtain ⟨bo,hF,hn⟩:=hq.foot
 obtain ⟨y1,hy1⟩:=hF.some (.inl rfl)
 have hq0:=hn q (.inl rfl)
 have hsq:s q=none:=(hR.sup h).none hq0
 cases bo with
 | none =>
  have h1:R (upd s q y1) t:=hm _ _ _ (hR.begin (y:=y1) h hq0) (fun c x hc=>by
   by_cases e:c=q
   ·subst e;rw [A0] at hc;rw [hy1];exact hc
   ·rw [B1 e] at hc;exact hq.sup c x hc)
  refine (hS _ h1).mono fun v t' hv=>⟨hv.1,del t' q,hR'.forget hv.2 hsq,?_⟩
  have hF':QF q none fl es t':=hF.frame fun c hc=>by
   rcases hc with rfl | hc
   ·rw [hR'.sup hv.2 c y1 (A0 ..),hy1]
   ·cases hc
  exact hF'.qst (fun c x hc=>by
   by_cases e:c=q
   ·subst e;rw [A2G] at hc;cases hc
   ·rw [A1g e] at hc;exact hc) (fun c hc=>by
    rcases hc with rfl | hc
    ·exact A2G ..
    ·cases hc)
 | some b =>
  obtain ⟨y2,hy2⟩:=hF.some (c:=b) (.inr rfl)
  have hb0:=hn b (.inr rfl)
  have hqb:q≠b:=by
   obtain ⟨sv,_,h3⟩:=hF.has
   rcases h3 with ⟨_,_,e⟩ | ⟨b',l,n,e,hne,_⟩
   ·cases e
   ·cases e;exact hne
  have hsb:s b=none:=(hR.sup h).none hb0
  have h1:R (upd (upd s b y2) q y1) t:=hm _ _ _ (hR.begin (y:=y1) (hR.begin (y:=y2) h hb0) (by rw [B1 hqb];exact hq0)) (fun c x hc=>by
   by_cases e:c=q
   ·subst e;rw [A0] at hc;rw [hy1];exact hc
   ·rw [B1 e] at hc
    by_cases e2:c=b
    ·subst e2;rw [A0] at hc;rw [hy2];exact hc
    ·rw [B1 e2] at hc;exact hq.sup c x hc)
  refine (hS _ h1).mono fun v t' hv=>⟨hv.1,del (del t' q) b,hR'.forget (hR'.forget hv.2 (by rw [B1 hqb];exact hsq)) hsb,?_⟩
  have hs':=hR'.sup hv.2
  have hF':QF q (some b) fl es t':=hF.frame fun c hc=>by
   rcases hc with rfl | hc
   ·rw [hs' c y1 (A0 ..),hy1]
   ·cases hc
    rw [hs' b y2 (by rw [B1 hqb.symm,A0]),hy2]
  exact hF'.qst (fun c x hc=>by
   by_cases e:c=b
   ·subst e;rw [A2G] at hc;cases hc
   ·rw [A1g e] at hc
    by_cases e2:c=q
    ·subst e2;rw [A2G] at hc;cases hc
    ·rw [A1g e2] at hc;exact hc) (fun c hc=>by
    rcases hc with rfl | hc
    ·rw [A1g hqb];exact A2G ..
    ·cases hc;exact A2G ..)
theorem B1R (l:List D7) (hl:l.length≤100000) (v:D7) (st:St) (b:Nat) (f:Nat→AV) (hb:st b=some ⟨9,1,l.length,f⟩) (hf:∀ k,k<l.length→f k=A5d l k) :
  S P 238 [.own 1 b 0 l.length,eS v] st fun r st'=>r=eI (idx (fun y:D7=>v.toList==y.toList) l)∧st'=st:=by
 refine A8 [] B9 mixed Tryz.func238 (by rfl) rfl rfl rfl ?_;conv=>whnf
 refine ⟨[0,1,7,8],fun m vs st'=>∃ i:Nat,i≤l.length∧(∀ k,k<i→(v.toList==(l.getD k default).toList)=false)∧m=l.length - i∧vs=[.own 1 b 0 l.length,eS v,eI l.length,eI i]∧st'=st,?_,?_⟩
 ·conv=>whnf
  exact ⟨_,0,Nat.zero_le _,fun k hk=>absurd hk (by omega),rfl,rfl,rfl⟩
 ·rintro m vs st' ⟨i,hi,hok,rfl,rfl,rfl⟩
  conv=>whnf
  cases h:decide ((i:Int)<(l.length:Int))
  ·have:=of_decide_eq_false h
   conv=>whnf
   refine ⟨?_,rfl⟩
   rw [Q5 (p:=fun y:D7=>v.toList==y.toList) fun k hk=>hok k (by omega)];rfl
  ·have hi':i<l.length:=by have:=of_decide_eq_true h;omega
   conv=>whnf
   refine ⟨rfl,⟨by omega,by omega⟩,?_⟩;conv=>whnf
   refine F7 hb rfl (by omega) (v:=eS (l.getD i default)) (by rw [show 0+(i:Int).toNat=i by omega];exact hf i hi') ?_;conv=>whnf
   cases hp:(v.toList==(l.getD i default).toList)
   ·conv=>whnf
    refine ⟨rfl,?_⟩;conv=>whnf
    refine ⟨l.length - (i+1),by omega,i+1,by omega,fun k hk=>?_,rfl,by rw [C2 (by omega)],rfl⟩
    rcases Nat.lt_succ_iff_lt_or_eq.1 hk with h' | h'
    ·exact hok k h'
    ·rw [h'];exact hp
   ·conv=>whnf
    refine ⟨?_,rfl⟩
    rw [A0J (p:=fun y:D7=>v.toList==y.toList) hi' hok hp];rfl
theorem B7g (l:List D7) (hl:l.length≤100000) (v:D7) (st:St) (b:Nat) (f:Nat→AV) (hb:st b=some ⟨9,1,l.length,f⟩) (hf:∀ k,k<l.length→f k=A5d l k) :
  S P 150 [.own 1 b 0 l.length,eS v] st fun r st'=>r=.bool (inB l v)∧st'=st:=by
 refine A8 [] B9 mixed Tryz.func150 (by rfl) rfl rfl rfl ?_;conv=>whnf
 refine B0 (B1R l hl v st b f hb hf) ?_;conv=>whnf
 refine ⟨?_,rfl⟩
 unfold inB
 rw [←A0R];rfl
theorem B1Q (v:D7) (st:St):S P 238 [.emp,eS v] st fun r st'=>r=eI (-1)∧st'=st:=by
 refine A8 [] B9 mixed Tryz.func238 (by rfl) rfl rfl rfl ?_;conv=>whnf
 refine A7G [0,1,7,8] ?_;conv=>whnf
 intro I;conv=>whnf
 exact ⟨rfl,rfl⟩
theorem B7f (v:D7) (st:St):S P 150 [.emp,eS v] st fun r st'=>r=.bool false∧st'=st:=by
 refine A8 [] B9 mixed Tryz.func150 (by rfl) rfl rfl rfl ?_;conv=>whnf
 refine B0 (B1Q v st) ?_;conv=>whnf
 exact ⟨rfl,rfl⟩
theorem PxR.groups {bx:Nat} {items:List Ab.Item} {p:PSt} {s t:St} (h:PxR bx items p s t) (hg:p.groups.length≤1000):∃ dv gv f,t bx=some ⟨147,4,1,f⟩∧f 0=.agg [B2 4 F4 items,C6 p.us,dv,gv]∧(gv=.emp∨∃ b,gv=.own 1 b 0 p.groups.length) ∧
  ∀ (g:D7),S P 150 [gv,eS g] t fun r t'=>r=.bool (inB p.groups g)∧t'=t:=by
 obtain ⟨⟨dv,gv⟩,h⟩:=h
 obtain ⟨y,⟨f,rfl,hf⟩,hy⟩:=A0T.at (A2a _ _ _ _) h
 obtain ⟨_,_,_,hd⟩:=h
 obtain ⟨s0,hc,hg0⟩:=hd
 refine ⟨dv,gv,f,hy,hf,hg0.head,fun g=>?_⟩
 obtain ⟨s1,hc1,hs1⟩:=hg0
 rcases hc1 with ⟨h0,h1,rfl⟩ | ⟨h0,b,g0,hb,h1,rfl,hgg⟩
 ·have:p.groups=[]:=List.eq_nil_of_length_eq_zero h0
  subst h1
  rw [this]
  exact B7f g t
 ·subst h1
  exact B7g p.groups (by omega) g t b g0 (hs1 b _ (A0 ..)) hgg
def goB {σ : Type} (px : σ→PSt) (step : σ→A9→σ) (a : σ) (pr:A9) : σ:=if J0 pr.group||!inB (px a).groups pr.group then step a pr else a
def T0 {σ : Type} (px : σ→PSt) (step : σ→A9→σ) (sm:A9→Bool) (l:List A9) (a : σ) (o:List Int) : σ:=(o.filter fun x=>sm (E6 l x)).foldl (fun a x=>goB px step a (E6 l x)) a
def A1j (sm:A9→Bool) (l:List A9) (o:List Int) (i:Nat):List QE:=((List.range i).filter fun k=>sm (E6 l (gI o k))).map fun (k:Nat)=>(-(k:Int),gI o k)
theorem A7u (sm:A9→Bool) (l:List A9) (o:List Int) (i:Nat):A1j sm l o (i+1)=A1j sm l o i++(if sm (E6 l (gI o i))=true then [(-(i:Int),gI o i)] else []):=by
 unfold A1j
 rw [List.range_succ,List.filter_append,List.map_append]
 congr 1
 by_cases h:sm (E6 l (gI o i))=true
 ·rw [if_pos h,List.filter_cons_of_pos (p:=fun k=>sm (E6 l (gI o k))) h];rfl
 ·rw [if_neg h,List.filter_cons_of_neg (p:=fun k=>sm (E6 l (gI o k))) h];rfl
theorem B4w (sm:A9→Bool) (l:List A9) (o:List Int) (i:Nat):(A1j sm l o i).length≤i:=by
 unfold A1j
 rw [List.length_map]
 exact Nat.le_trans (List.length_filter_le ..) (by simp)
theorem A8W (sm:A9→Bool) (l:List A9) (o:List Int):∀ i,i≤o.length→(A1j sm l o i).map (·.2)=(o.take i).filter fun x=>sm (E6 l x)
 | 0,_=>by simp [A1j]
 | i+1,h=>by
  rw [A7u,List.map_append,A8W sm l o i (by omega),L9 (show i<o.length by omega),List.filter_append]
  congr 1
  show List.map (fun x=>x.2) (if sm (E6 l (gI o i))=true then [(-(i:Int),gI o i)] else [])=List.filter (fun x=>sm (E6 l x)) [gI o i]
  by_cases hs:sm (E6 l (gI o i))=true
  ·rw [if_pos hs,List.filter_cons_of_pos (p:=fun x=>sm (E6 l x)) hs];rfl
  ·rw [if_neg hs,List.filter_cons_of_neg (p:=fun x=>sm (E6 l x)) hs];rfl
theorem A9R (sm:A9→Bool) (l:List A9) (o:List Int) (i:Nat):(A1j sm l o i).Pairwise fun a b=>H0 b a=false:=by
 unfold A1j
 refine List.Pairwise.map _ (fun a b h=>?_) ((List.pairwise_lt_range (n:=i)).filter _)
 rw [R8]
 show ¬(-(b:Int) > -(a:Int)∨(-(b:Int) = -(a:Int)∧_))
 omega
theorem B3h {l:List A9} {codes:List D7} {o:List Int} (ho:A6G l codes o) {x:Int} (hx:x∈L3 l o):0≤x∧x.toNat<l.length:=by
 obtain ⟨e,he,rfl⟩:=List.mem_map.1 hx
 have h:=A3r he
 exact W8 (ho.1.subset (B4 h.2))
theorem B5B {σ : Type} {N:Nat} (hN:A2C N) (bx:Nat) (items:List Ab.Item) (R : σ→St→St→Prop) (px : σ→PSt) (hR:∀ a,J5 (R a)) (hmore:∀ a s t t',R a s t→G3 t t'→R a s t') (hP:∀ a s t,R a s t→∃ s',PxR bx items (px a) s' t)
  (l:List A9) (codes:List D7) (hl:l.length≤60) (hc:codes.length≤9223372036854775807) (h20:(places l codes l.length).length≤N)
  (g:FuncId) (cs:List AV) (sm:A9→Bool) (hsome:∀ (pr:A9) (t:St),S P g (B7 pr::cs) t fun v t'=>v=.bool (sm pr)∧t'=t)
  (f:FuncId) (fs ds:List AV) (step : σ→A9→σ) (Inv : σ→Nat→Prop) (hgr:∀ a n,Inv a n→(px a).groups.length≤1000) (hle:∀ a n,Inv a (n+1)→Inv a n)
  (hdo:∀ (a : σ) (n:Nat) (pr:A9) (s t:St),pr∈l→sm pr=true→Inv a (n+1)→R a s t→S P f (fs++[B7 pr]++ds) t fun v t'=>v=.tuple []∧R (step a pr) s t')
  (hinv:∀ (a : σ) (n:Nat) (pr:A9),pr∈l→sm pr=true→Inv a (n+1)→Inv (step a pr) n) (a0 : σ) (hI:Inv a0 60) (s t:St) (h:R a0 s t) :
  S P 78 [.optr 4 bx 0 0,B2 15 B7 l,D9 codes,.fn (.func g) [] cs,.fn (.func f) fs ds] t fun v t'=>v=.tuple []∧∃ o,A6G l codes o∧R (T0 px step sm l a0 (L3 l o)) s t':=by
 refine A8 [] B9 mixed Tryz.func78 (by rfl) rfl rfl rfl ?_;conv=>whnf
 refine call (B1A t) (fun v t1 hv=>?_)
 obtain ⟨q,rfl,hq⟩:=hv
 conv=>whnf
 refine call (C0X hN l codes hl hc h20 t1) (fun v t2 hv=>?_)
 obtain ⟨⟨o,ho,rfl⟩,rfl⟩:=hv
 have hmem:=fun {x:Int} (hx:x∈L3 l o)=>B3h ho hx
 have hrl:(L3 l o).length≤60:=by
  rw [List.length_map,A3q,ho.1.length_eq]
  have:=S7 l codes l.length;omega
 obtain ⟨r,hr⟩:∃ r:List Int,r=L3 l o:=⟨_,rfl⟩
 rw [←hr] at hrl
 have hmem':∀ x∈r,0≤x∧x.toNat<l.length:=fun x hx=>hmem (by rw [←hr];exact hx)
 have hInvle:∀ (a : σ) (n m:Nat),m≤n→Inv a n→Inv a m:=fun a n m hmn h=>by
  induction n with
  | zero=>have:m=0:=by omega
          subst this;exact h
  | succ n ih =>
   rcases Nat.lt_or_ge n m with h1 | h1
   ·have:m=n+1:=by omega
    subst this;exact h
   ·exact ih h1 (hle a n h)
 have hfin:∀ t',R (T0 px step sm l a0 r) s t'→∃ o,A6G l codes o∧R (T0 px step sm l a0 (L3 l o)) s t':=fun t' h=>⟨o,ho,by rw [←hr];exact h⟩
 have hv:B6 (L3 l o)=B6 r:=by rw [hr]
 rw [hv]
 clear hv
 conv=>whnf
 refine ⟨[0,1,3,4,10,19,20,21],fun m vs t'=>∃ i:Nat,i≤r.length∧m=r.length - i∧vs=[.optr 4 bx 0 0,B2 15 B7 l,.fn (.func g) [] cs,.fn (.func f) fs ds,.optr 1 q 0 0,B6 r,eI r.length,eI i]∧QSt t q true (A1j sm l r i) t',?_,?_⟩
 ·conv=>whnf
  exact ⟨_,0,Nat.zero_le _,rfl,rfl,hq⟩
 ·clear hq
  rintro m vs t' ⟨i,hi,rfl,rfl,hq⟩
  have hpl:=B4w sm l r i
  conv=>whnf
  cases hd:decide ((i:Int)<(r.length:Int))
  ·have:=of_decide_eq_false hd
   obtain rfl:i=r.length:=by omega
   have hsnd:=A8W sm l r r.length (Nat.le_refl _)
   rw [List.take_length] at hsnd;conv=>whnf
   refine ⟨[0,1,4,10],fun m vs t'=>∃ (a : σ) (rest:List QE) (fl:Bool) (t0:St),m=rest.length∧vs=[.optr 4 bx 0 0,B2 15 B7 l,.fn (.func f) fs ds,.optr 1 q 0 0]∧(rest.map (·.2)).foldl (fun a x=>goB px step a (E6 l x)) a=T0 px step sm l a0 r∧(∀ e∈rest,(0≤e.2∧e.2.toNat<l.length)∧sm (E6 l e.2)=true)∧(rest.Pairwise fun a b=>H0 b a=false)∧Inv a rest.length∧R a s t0∧QSt t0 q fl rest t',?_,?_⟩
   ·conv=>whnf
    refine ⟨_,a0,A1j sm l r r.length,true,t,rfl,rfl,by rw [hsnd];rfl,fun e he=>?_,A9R sm l r r.length,hInvle a0 60 _ (by omega) hI,h,hq⟩
    have:e.2∈(A1j sm l r r.length).map (·.2):=List.mem_map_of_mem he
    rw [hsnd] at this
    obtain ⟨h1,h2⟩:=List.mem_filter.1 this
    exact ⟨hmem' _ h1,h2⟩
   ·clear hq
    rintro m vs t' ⟨a,rest,fl,t0,rfl,rfl,hF,hrm,hsort,hIa,hRa,hq⟩
    conv=>whnf
    refine B0 (A8X _ _ _ _ _ hq) ?_;conv=>whnf
    cases rest with
    | nil =>
     conv=>whnf
     refine ⟨rfl,hfin t' ?_⟩
     rw [←hF]
     exact hmore _ _ _ _ hRa hq.sup
    | cons x rest =>
     rw [List.pairwise_cons] at hsort
     have hx:=hrm x (List.mem_cons_self ..)
     have hlen0:decide (((x::rest).length:Int)>0)=true:=decide_eq_true (by rw [List.length_cons];omega)
     rw [hlen0];conv=>whnf
     refine call (A8Y _ _ _ _ _ _ hq hsort.1) (fun v t2 hv=>?_)
     obtain ⟨rfl,hq2⟩:=hv
     have hpr:E6 l x.2∈l:=B4 hx.1.2
     have hgl:=hgr a _ hIa
     obtain ⟨s',hpx⟩:=hP a s t2 (hmore _ _ _ _ hRa hq2.sup)
     obtain ⟨dv,gv,fx,hbx,hfx,hgv,hcont⟩:=hpx.groups hgl
     conv=>whnf
     -- what is behind the round
     have hgo:goB px step a (E6 l x.2)=if J0 (E6 l x.2).group||!inB (px a).groups (E6 l x.2).group then step a (E6 l x.2) else a:=rfl
     have hF2:(rest.map (·.2)).foldl (fun a x=>goB px step a (E6 l x)) (goB px step a (E6 l x.2))=T0 px step sm l a0 r:=by rw [←hF];rfl
     have round:∀ (b : σ) (t3:St),b=goB px step a (E6 l x.2)→Inv b rest.length→(∃ t0',R b s t0'∧QSt t0' q false rest t3)→∃ m',m'<rest.length+1∧∃ (a : σ) (rest_1:List QE) (fl:Bool) (t0:St),m'=rest_1.length∧[AV.optr 4 bx 0 0,B2 15 B7 l,.fn (.func f) fs ds,.optr 1 q 0 0]=[AV.optr 4 bx 0 0,B2 15 B7 l,.fn (.func f) fs ds,.optr 1 q 0 0]∧(rest_1.map (·.2)).foldl (fun a x=>goB px step a (E6 l x)) a=T0 px step sm l a0 r∧(∀ e∈rest_1,(0≤e.2∧e.2.toNat<l.length)∧sm (E6 l e.2)=true)∧(rest_1.Pairwise fun a b=>H0 b a=false)∧Inv a rest_1.length∧R a s t0∧QSt t0 q fl rest_1 t3 :=
      fun b t3 hb hib ⟨t0',h1,h2⟩=>⟨rest.length,Nat.lt_succ_self _,b,rest,false,t0',rfl,rfl,by rw [hb];exact hF2,fun e he=>hrm e (List.mem_cons_of_mem _ he),hsort.2,hib,h1,h2⟩
     -- the call itself
     have doit:∀ K:KK,(∀ t3,(∃ t0',R (step a (E6 l x.2)) s t0'∧QSt t0' q false rest t3)→K (.tuple []) t3)→A1c P f (fs++[B7 (E6 l x.2)]++ds) t2 K:=fun K hK=>by
      refine call (B3b (hR a) (hmore a) (hR _) hRa hq2 (fun u hu=>hdo a rest.length (E6 l x.2) u t2 hpr hx.2 (by simpa using hIa) hu)) (fun v t3 hv=>?_)
      rw [hv.1];exact hK t3 hv.2
     refine ⟨[],[],[0,1,2,3,4,5,6,7,8,9,10,11,12,13,14,15,16,17,18],by kernel_rfl,?_⟩;conv=>whnf
     refine ⟨rfl,⟨by omega,by omega⟩,?_⟩;conv=>whnf
     have hnil:(ByteArray.toList (l.getD x.2.toNat default).group==ByteArray.toList ⟨#[]⟩)=J0 (E6 l x.2).group:=rfl
     have hyes:(J0 (E6 l x.2).group||!inB (px a).groups (E6 l x.2).group)=true→∀ K:KK,(∀ t3,(∃ (b : σ),b=goB px step a (E6 l x.2)∧Inv b rest.length∧∃ t0',R b s t0'∧QSt t0' q false rest t3)→K (.tuple []) t3)→A1c P f (fs++[B7 (E6 l x.2)]++ds) t2 K:=fun hy K hK =>
      doit K fun t3 h3=>hK t3 ⟨_,by rw [hgo,if_pos hy],hinv a _ _ hpr hx.2 (by simpa using hIa),h3⟩
     rw [hnil]
     cases hg:J0 (E6 l x.2).group with
     | true =>
      conv=>whnf
      refine ⟨rfl,⟨by omega,by omega⟩,?_⟩;conv=>whnf
      rw [A3d,A3d]
      refine hyes (by rw [hg];rfl) _ (fun t3 h3=>?_);conv=>whnf
      refine ⟨rfl,?_⟩;conv=>whnf
      obtain ⟨b,h4,h5,h6⟩:=h3
      exact round b t3 h4 h5 h6
     | false =>
      rcases hgv with rfl | ⟨bg,rfl⟩
      all_goals
       conv=>whnf
       refine F7 hbx rfl (by omega) hfx ?_;conv=>whnf
       refine ⟨rfl,⟨by omega,by omega⟩,?_⟩;conv=>whnf
       refine ⟨_,D3 (hcont (E6 l x.2).group),?_⟩;conv=>whnf
       cases hi:inB (px a).groups (E6 l x.2).group with
       | false =>
        conv=>whnf
        refine ⟨rfl,⟨by omega,by omega⟩,?_⟩;conv=>whnf
        rw [A3d,A3d]
        refine hyes (by rw [hi];simp) _ (fun t3 h3=>?_);conv=>whnf
        refine ⟨rfl,?_⟩;conv=>whnf
        obtain ⟨b,h4,h5,h6⟩:=h3
        exact round b t3 h4 h5 h6
       | true =>
        conv=>whnf
        refine ⟨rfl,?_⟩;conv=>whnf
        refine round a t2 (by rw [hgo,if_neg (by rw [hg,hi];simp)]) (hle a _ (by simpa using hIa)) ⟨t0,hRa,hq2⟩
  ·have hi':i<r.length:=by have:=of_decide_eq_true hd;omega
   have hm:=hmem' _ (B4 hi')
   have es:=A7u sm l r i
   conv=>whnf
   refine ⟨rfl,⟨by omega,by omega⟩,?_⟩;conv=>whnf
   refine ⟨rfl,⟨by show 0≤gI r i;exact hm.1,by show gI r i<(l.length:Int);have h1:=hm.1;have h2:=hm.2;show gI r i<_;have:(gI r i).toNat<l.length:=h2;have:0≤gI r i:=h1;omega⟩,?_⟩;conv=>whnf
   refine B0 (hsome (E6 l (gI r i)) t') ?_;conv=>whnf
   refine C0 (fun h3=>?_) (fun h3=>?_)<;>rw [h3]
   ·rw [if_pos h3] at es
    have w:IntKind.i64.wrap (0 - (i:Int)) = -(i:Int):=by rw [show 0 - (i:Int) = -(i:Int) by omega];exact A7 (by omega) (by omega)
    conv=>whnf
    rw [w]
    refine call (A7U t q _ (-(i:Int)) (gI r i) _ hq (by omega)) (fun v t2 hv=>?_)
    obtain ⟨rfl,hq'⟩:=hv
    conv=>whnf
    refine ⟨rfl,?_⟩;conv=>whnf
    exact ⟨r.length - (i+1),by omega,i+1,by omega,rfl,by rw [C2 (by omega)],by rw [es];exact hq'⟩
   ·have h3':¬ sm (E6 l (gI r i))=true:=by rw [h3];simp
    rw [if_neg h3',List.append_nil] at es;conv=>whnf
    refine ⟨rfl,?_⟩;conv=>whnf
    exact ⟨r.length - (i+1),by omega,i+1,by omega,rfl,by rw [C2 (by omega)],by rw [es];exact hq⟩
def D0 (r:I6) (codes:List D7) (l:List G1):Int :=
 if P6 r=false then 10 else if A0n codes=false then 2 else K5 (known r.items) l
theorem B8P (r:I6) (codes:List D7) (l:List G1) (hf:U3 r) (hc:codes.length≤Big) (hi:r.items.length≤9223372036854775807) (st:St) :
  S P 74 [J6 r,D9 codes,B2 3 I9 l] st fun v st'=>v=eI (D0 r codes l)∧st'=st:=by
 refine A8 [3] B9 mixed Tryz.func74 (by rfl) rfl rfl rfl ?_;conv=>whnf
 refine B0 (C1l r hf st) ?_;conv=>whnf
 have hP:D0 r codes l=if P6 r=false then 10 else if A0n codes=false then 2 else K5 (known r.items) l:=rfl
 cases h1:P6 r
 ·rw [if_pos h1] at hP;conv=>whnf
  exact ⟨by rw [hP];rfl,rfl⟩
 ·rw [if_neg (by rw [h1];simp)] at hP;conv=>whnf
  refine B0 (C0p codes hc st) ?_;conv=>whnf
  cases h2:A0n codes
  ·rw [if_pos h2] at hP;conv=>whnf
   exact ⟨by rw [hP];rfl,rfl⟩
  ·rw [if_neg (by rw [h2];simp)] at hP;conv=>whnf
   refine B0 (C0d r.items l hi st) ?_;conv=>whnf
   exact ⟨by rw [hP];rfl,rfl⟩
abbrev Q9 (l:List G1):List B5:=F2 l l.length
structure A5O (items:List Ab.Item) (l:List G1):Prop where
 len:l.length≤1000
 line:∀ x∈l,lineC x=true
 known:∀ x∈l,known items x.sku=true
 units:I5 l≤100000
 gross:H9 l≤10000000000000
theorem C0P {items:List Ab.Item} {l:List G1} (h:K5 (known items) l=0):A5O items l:=by
 unfold K5 at h
 split at h
 ·cases h
 ·rename_i hl
  split at h
  ·rename_i x hx
   split at h<;>cases h
  ·rename_i hf
   have hall:∀ x∈l,H6 (Go.Proofs.YtbajhapmlfbelaaGreat.known items) x=false:=fun x hx=>Bool.eq_false_iff.2 (List.find?_eq_none.1 hf x hx)
   have hb:∀ x∈l,Go.Proofs.YtbajhapmlfbelaaGreat.known items x.sku=true∧lineC x=true:=fun x hx=>by
    have:=hall x hx
    unfold H6 at this
    simpa using this
   split at h
   ·cases h
   ·rename_i hg
    simp only [Bool.or_eq_true,decide_eq_true_eq,not_or] at hg
    exact ⟨by omega,fun x hx=>(hb x hx).2,fun x hx=>(hb x hx).1,by omega,by omega⟩
theorem A5O.may {items:List Ab.Item} {l:List G1} (h:A5O items l):(K5 (fun _=>true) l==0)=true:=by
 have:K5 (fun _=>true) l=0:=by
  unfold K5
  rw [if_neg (by have:=h.len;omega)]
  have hf:l.find? (H6 fun _=>true)=none:=List.find?_eq_none.2 fun x hx=>by
   unfold H6;rw [h.line x hx];simp
  rw [hf]
  simp only
  rw [if_neg]
  have:=h.units
  have:=h.gross
  simp only [Bool.or_eq_true,decide_eq_true_eq,not_or]
  omega
 rw [this];rfl
theorem A1b (l:List G1) (hl:∀ x∈l,lineC x=true):∀ k,k≤l.length→((F2 l k).length:Int)=I5 (l.take k)∧A5 (D5 (F2 l k))=H9 (l.take k)∧(∀ u∈F2 l k,0≤u.net∧0≤u.line∧u.line.toNat<k∧u.opn=true)
 | 0,_=>⟨rfl,rfl,fun u hu=>by simp [F2] at hu⟩
 | k+1,h=>by
  obtain ⟨h1,h2,h3⟩:=A1b l hl k (by omega)
  have hx:=(W6 _).1 (hl _ (B4 (show k<l.length by omega)))
  have eN:I5 (l.take (k+1))=I5 (l.take k)+(l.getD k default).qty:=O3 (by omega) _ _
  have eG:H9 (l.take (k+1))=H9 (l.take k)+(l.getD k default).qty * (l.getD k default).price:=O3 (by omega) _ _
  have hup:F2 l (k+1)=F2 l k++List.replicate (l.getD k default).qty.toNat (lnU l k):=rfl
  have hsr:∀ (n:Nat) (c:Int),A5 (List.replicate n c)=n * c:=fun n c=>by
   induction n with
   | zero=>simp [A5]
   | succ n ih=>rw [List.replicate_succ,O1,ih,show ((n+1:Nat):Int)=(n:Int)+1 by omega,Int.add_mul,Int.one_mul];omega
  refine ⟨?_,?_,fun u hu=>?_⟩
  ·rw [hup,List.length_append,List.length_replicate,eN,←h1];omega
  ·unfold D5 at h2 ⊢
   rw [hup,List.map_append,F3,h2,List.map_replicate,hsr,eG]
   show _+((l.getD k default).qty.toNat:Int) * (l.getD k default).price=_
   rw [Int.toNat_of_nonneg hx.1.1]
  ·rw [hup] at hu
   rcases List.mem_append.1 hu with hu | hu
   ·have:=h3 u hu;exact ⟨this.1,this.2.1,by omega,this.2.2.2⟩
   ·rw [List.eq_of_mem_replicate hu]
    refine ⟨hx.2.1,?_,?_,rfl⟩
    ·show (0:Int)≤(k:Int);omega
    ·show ((k:Int)).toNat<k+1;omega
theorem B1V {items:List Ab.Item} {l:List G1} (h:A5O items l):A4Y (C8 items l) (Q9 l):=by
 obtain ⟨h1,h2,h3⟩:=A1b l h.line l.length (Nat.le_refl _)
 rw [List.take_length] at h1 h2
 have hN:=h.units
 have hG:=h.gross
 have hlen:(C8 items l).length=l.length:=List.length_map ..
 exact ⟨⟨by show (F2 l l.length).length≤100000;omega,fun u hu=>(h3 u hu).1,by show A5 (D5 (F2 l l.length))≤_;omega⟩,by rw [hlen];have:=h.len;omega,fun u hu=>⟨(h3 u hu).2.1,by rw [hlen];exact (h3 u hu).2.2.1⟩⟩
def C6D (bn n:Nat) (net ship:Int) (y:Q3):Prop:=∃ f,y=⟨44,4,1,f⟩∧f 0=.agg [.own 1 bn 0 n,eI net,eI ship,.emp]
def R2 (bx bp bn n:Nat) (items:List Ab.Item) (net:Int) (a:PSt×Int):St→St→Prop:=A0T bp (C6D bn n net a.2) (PxR bx items a.1)
theorem B7Q (bx bp bn n:Nat) (items:List Ab.Item) (net:Int) (a:PSt×Int):J5 (R2 bx bp bn n items net a):=A1Z (A3g _ _ _)
theorem R2.more {bx bp bn n:Nat} {items:List Ab.Item} {net:Int} {a:PSt×Int} {s t t':St} (h:R2 bx bp bn n items net a s t) (hs:G3 t t'):R2 bx bp bn n items net a s t':=by
 obtain ⟨h1,y,h2,h3⟩:=h
 exact ⟨h1,y,h2,h3.more hs⟩
def Q6 (net:Int) (a:PSt×Int) (pr:A9):PSt×Int:=((A5i a.1 pr net a.2).2,(A5i a.1 pr net a.2).1)
theorem A9m (bx bp bn n:Nat) (items:List Ab.Item) (net:Int) (a:PSt×Int) (pr:A9) (h0:0≤a.2) (h1:a.2≤10000000000000) (hd:a.1.deals.length≤1000) (hg:a.1.groups.length≤1000) (s t:St) (h:R2 bx bp bn n items net a s t) :
  S P 82 [B7 pr,.fptr (.optr 4 bx 0 0) 0,.optr 4 bp 0 0] t fun v t'=>v=.tuple []∧R2 bx bp bn n items net (Q6 net a pr) s t':=by
 obtain ⟨hbp,y,⟨f,rfl,hf⟩,hP⟩:=h
 have hat:t bp=some ⟨44,4,1,f⟩:=(A3g _ _ _).sup hP bp _ (A0 ..)
 refine A8 [3] B9 mixed Tryz.func82 (by rfl) rfl rfl rfl ?_;conv=>whnf
 refine F7 hat rfl (by omega) hf ?_;conv=>whnf
 refine F7 hat rfl (by omega) hf ?_;conv=>whnf
 refine call (B4H bx items a.1 pr net a.2 h0 h1 hd hg _ t hP) (fun v t2 hv=>?_)
 obtain ⟨rfl,hP2⟩:=hv
 have hat2:t2 bp=some ⟨44,4,1,f⟩:=(A3g _ _ _).sup hP2 bp _ (A0 ..)
 conv=>whnf
 refine K8 hat2 rfl (by omega) hf (by rfl) ?_;conv=>whnf
 refine ⟨rfl,?_⟩
 exact A0T.set (A3g _ _ _) (Q:=fun y=>y=⟨44,4,1,f⟩) ⟨hbp,_,rfl,hP2⟩ ⟨_,rfl,by rw [A6];rfl⟩
def E9 (us:List B5) (j:Nat):Int:=A5 ((us.filter fun u=>u.line.toNat==j).map B5.net)
def R5 (n:Nat) (us:List B5):List Int:=(List.range n).map (E9 us)
theorem S6 {us:List B5} {k:Nat} (hk:k<us.length) (j:Nat):E9 (us.take (k+1)) j=if (gU us k).line.toNat=j then E9 (us.take k) j+(gU us k).net else E9 (us.take k) j:=by
 unfold E9
 rw [L9 hk,List.filter_append,List.map_append,F3]
 by_cases h:(gU us k).line.toNat=j
 ·rw [if_pos h,List.filter_cons_of_pos (by show ((gU us k).line.toNat==j)=true;rw [h];simp)]
  simp [A5]
 ·rw [if_neg h,List.filter_cons_of_neg (by show ¬((gU us k).line.toNat==j)=true;simpa using h)]
  simp [A5]
theorem Y2 {us:List B5} (h:E2 us) (k j:Nat):0≤E9 (us.take k) j∧E9 (us.take k) j≤A5 (D5 us):=by
 have hsub:((us.take k).filter fun u=>u.line.toNat==j).Sublist us:=List.filter_sublist.trans (List.take_sublist _ _)
 have hgen:∀ {a b:List B5},a.Sublist b→(∀ u∈b,0≤u.net)→0≤A5 (a.map B5.net)∧A5 (a.map B5.net)≤A5 (b.map B5.net):=fun {a b} hs=>by
  induction hs with
  | slnil=>intro _;exact ⟨Int.le_refl _,Int.le_refl _⟩
  | cons x _ ih =>
   intro hb
   have h1:=ih fun u hu=>hb u (List.mem_cons_of_mem _ hu)
   have h2:=hb x (List.mem_cons_self ..)
   rw [List.map_cons,O1];omega
  | cons_cons x _ ih =>
   intro hb
   have h1:=ih fun u hu=>hb u (List.mem_cons_of_mem _ hu)
   have h2:=hb x (List.mem_cons_self ..)
   rw [List.map_cons,List.map_cons,O1,O1];omega
 exact hgen hsub h.pos
end Go.Proofs.YtbajhapmlfbelaaGreat
