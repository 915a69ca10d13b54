/- Part 23 of the proof: contracts -/
import Derived.Test.YtaapofnkmpiknaaGreatPt22
import Derived.Shelf.SlicesE.Compact
set_option maxRecDepth 100000
set_option linter.unusedVariables false
set_option linter.unusedSimpArgs false
namespace Go.Proofs.YtaapofnkmpiknaaGreat
open Go Go.Ab
attribute [local irreducible] upd del
structure MSt where
 used:List Bool
 es:Nat→List QE
 l:List Int
def A1p (k:Nat) (s:MSt):Option MSt:=match (P2 s.used (s.es k)).1 with
 | none=>none
 | some i=>some ⟨s.used.set i.toNat true,A0C s.es k (P2 s.used (s.es k)).2,s.l++[i]⟩
def U1 (k:Nat):Nat→MSt→Option MSt
 | 0,s=>some s
 | c+1,s=>(U1 k c s).bind (A1p k)
def M9 (parts:List A2H):Nat→MSt→Option MSt
 | 0,s=>some s
 | k+1,s=>(M9 parts k s).bind (U1 k (parts.getD k default).count.toNat)
theorem A6K {k:Nat} {s:MSt}:∀ {c j:Nat},U1 k j s=none→j≤c→U1 k c s=none
 | 0,j,h,hj=>by
  have:j=0:=by omega
  subst this;exact h
 | c+1,j,h,hj=>by
  rcases D8E c j with h1 | h1
  ·have:j=c+1:=by omega
   subst this;exact h
  ·unfold U1;rw [A6K h h1];rfl
theorem A6t {parts:List A2H} {s:MSt}:∀ {c j:Nat},M9 parts j s=none→j≤c→M9 parts c s=none
 | 0,j,h,hj=>by
  have:j=0:=by omega
  subst this;exact h
 | c+1,j,h,hj=>by
  rcases D8E c j with h1 | h1
  ·have:j=c+1:=by omega
   subst this;exact h
  ·unfold M9;rw [A6t h h1];rfl
structure MOk (us:List B3) (n:Nat) (s:MSt):Prop where
 len:s.used.length=us.length
 rng:∀ k,k<n→∀ e∈s.es k,0≤e.2∧e.2.toNat<us.length
 srt:∀ k,k<n→(s.es k).Pairwise fun a b=>H2 b a=false
 mem:∀ x∈s.l,0≤x∧x.toNat<us.length
theorem A3R (used:List Bool) (l:List QE):(∃ pre,l=pre++(match (P2 used l).1 with | none=>[] | some i=>(match l.find? (fun e=>!used.getD e.2.toNat default) with | none=>[] | some e=>[e]))++(P2 used l).2) ∧
  (∀ i,(P2 used l).1=some i→∃ e∈l,e.2=i∧used.getD i.toNat default=false)∧((P2 used l).2.Sublist l)∧((P2 used l).1≠none→(P2 used l).2.length<l.length):=by
 induction l with
 | nil=>exact ⟨⟨[],rfl⟩,(fun i h=>by cases h),List.Sublist.refl _,fun h=>absurd rfl h⟩
 | cons e l ih =>
  obtain ⟨⟨pre,h1⟩,h2,h3,h4⟩:=ih
  by_cases hu:used.getD e.2.toNat default=true
  ·have ht:P2 used (e::l)=P2 used l:=by
    show (if used.getD e.2.toNat default=true then P2 used l else (some e.2,l))=_
    rw [if_pos hu]
   rw [ht]
   refine ⟨⟨e::pre,?_⟩,fun i hi=>?_,h3.cons _,fun h=>by have:=h4 h;simp;omega⟩
   ·rw [D9T (by rw [hu];simp)]
    rw [D9w,D9w,←h1]
   ·obtain ⟨x,hx,hx2⟩:=h2 i hi
    exact ⟨x,D7E _ hx,hx2⟩
  ·have ht:P2 used (e::l)=(some e.2,l):=by
    show (if used.getD e.2.toNat default=true then P2 used l else (some e.2,l))=_
    rw [if_neg hu]
   rw [ht]
   refine ⟨⟨[],?_⟩,fun i hi=>?_,List.sublist_cons_self _ _,fun _=>by simp⟩
   ·rw [D9S (by rw [D8O.2 hu];rfl)];rfl
   ·have:e.2=i:=by simpa using hi
    exact ⟨e,D7G ..,this,by rw [←this];exact D8O.2 hu⟩
theorem MOk.take {us:List B3} {n:Nat} {s s':MSt} (h:MOk us n s) {k:Nat} (hk:k<n) (ht:A1p k s=some s'):MOk us n s':=by
 obtain ⟨_,t2,t3,_⟩:=A3R s.used (s.es k)
 unfold A1p at ht
 split at ht
 ·cases ht
 ·rename_i i hi
  cases ht
  obtain ⟨e,he,rfl,hu⟩:=t2 i hi
  have hr:=h.rng k hk e he
  refine ⟨by rw [D8p];exact h.len,fun j hj x hx=>?_,fun j hj=>?_,fun x hx=>?_⟩
  ·by_cases ej:j=k
   ·subst ej;rw [show (MSt.es _ j)=_ from rfl] at hx;simp only [H8] at hx;exact h.rng j hj x (t3.subset hx)
   ·simp only [O0 ej] at hx;exact h.rng j hj x hx
  ·by_cases ej:j=k
   ·subst ej;simp only [H8];exact (h.srt j hj).sublist t3
   ·simp only [O0 ej];exact h.srt j hj
  ·rcases D8s.1 hx with hx | hx
   ·exact h.mem x hx
   ·rw [D7I] at hx;rw [hx];exact hr
theorem C2T {k:Nat} {s s':MSt} (ht:A1p k s=some s'):s'.l.length=s.l.length+1:=by
 unfold A1p at ht
 split at ht
 ·cases ht
 ·cases ht;simp
theorem A2z {k:Nat} {s:MSt}:∀ {c:Nat} {s':MSt},U1 k c s=some s'→s'.l.length=s.l.length+c
 | 0,s',h=>by cases h;rfl
 | c+1,s',h=>by
  unfold U1 at h
  obtain ⟨s1,h1,h2⟩:=D8m.1 h
  rw [C2T h2,A2z h1];omega
theorem MOk.takes {us:List B3} {n:Nat} {s:MSt} (h:MOk us n s) {k:Nat} (hk:k<n):∀ {c:Nat} {s':MSt},U1 k c s=some s'→MOk us n s'
 | 0,s',e=>by cases e;exact h
 | c+1,s',e=>by
  unfold U1 at e
  obtain ⟨s1,h1,h2⟩:=D8m.1 e
  exact (h.takes hk h1).take hk h2
structure A4t (p:B1):Prop where
 n1:1≤p.parts.length
 n8:p.parts.length≤8
 cnt:∀ x∈p.parts,1≤x.count∧x.count≤100
 amt:0≤p.amount∧p.amount≤10000000000000
theorem A4t.at {p:B1} (h:A4t p) {k:Nat} (hk:k<p.parts.length):1≤(p.parts.getD k default).count∧(p.parts.getD k default).count≤100:=h.cnt _ (A5 hk)
theorem MOk.parts {us:List B3} {p:B1} {s:MSt} (h:MOk us p.parts.length s):∀ {k:Nat} {s':MSt},k≤p.parts.length→M9 p.parts k s=some s'→MOk us p.parts.length s'
 | 0,s',_,e=>by cases e;exact h
 | k+1,s',hk,e=>by
  unfold M9 at e
  obtain ⟨s1,h1,h2⟩:=D8m.1 e
  exact (MOk.parts h (by omega) h1).takes (by omega) h2
theorem A2x {p:B1} (hp:A4t p) {s:MSt}:∀ {k:Nat} {s':MSt},k≤p.parts.length→M9 p.parts k s=some s'→s'.l.length≤s.l.length+100 * k
 | 0,s',_,e=>by cases e;omega
 | k+1,s',hk,e=>by
  unfold M9 at e
  obtain ⟨s1,h1,h2⟩:=D8m.1 e
  have:=A2x hp (by omega) h1
  have:=A2z h2
  have:=hp.at (show k<p.parts.length by omega)
  omega
def I4 (us:List B3) (l:List Int):Int:=A2 (l.map fun i=>(gU us i.toNat).net)
theorem B3V (us:List B3) (l:List Int) (i:Int):I4 us (l++[i])=I4 us l+(gU us i.toNat).net:=by
 unfold I4;rw [D7M,G2];simp [A2]
theorem A1J {us:List B3} (hu:E5 us) (l:List Int) (hl:∀ x∈l,0≤x∧x.toNat<us.length):0≤I4 us l∧I4 us l≤10000000000000 * l.length:=by
 unfold I4
 have c1:∀ (y:Int) (r:List Int),A2 (y::r)=y+A2 r:=fun y r=>by
  have:=G2 [y] r
  rw [D9E] at this
  rw [this];simp [A2]
 induction l with
 | nil=>exact ⟨D7L _,by simp [A2]⟩
 | cons x l ih =>
  have h1:=ih (fun y hy=>hl y (D7E _ hy))
  have h2:=hl x (D7G ..)
  have h3:0≤(gU us x.toNat).net:=hu.pos _ (A5 h2.2)
  have h4:(gU us x.toNat).net≤10000000000000:=hu.le (A5 h2.2)
  rw [D8k,c1,D7N]
  omega
theorem C9t (d:MkD) (hn:d.n=d.p.parts.length) (hp:A4t d.p) (hu:E5 d.us) (ms:MSt) (hl0:ms.l=[]) (hm:MOk d.us d.n ms) (s t:St) (h:MkR d ms.used ms.es s t) :
  S P 305 [.optr 18 d.bm 0 0] t fun v t'=>match M9 d.p.parts d.n ms with
   | none=>v=.tuple [.emp,eI 0,eB false]∧F8 s t'
   | some ms'=>v=.tuple [A9 (C3 ms'.l),eI (I4 d.us ms'.l - d.p.amount),eB (decide (I4 d.us ms'.l>d.p.amount))]∧MkR d ms'.used ms'.es s t':=by
 have hB:=fun (u:List Bool) (es:Nat→List QE)=>C0c d u es
 refine S.post (post:=fun v t'=>match M9 d.p.parts d.n ms with
   | none=>v=.tuple [.emp,eI 0,eB false]∧F8 s t'
   | some ms'=>∃ sv,v=.tuple [sv,eI (I4 d.us ms'.l - d.p.amount),eB (decide (I4 d.us ms'.l>d.p.amount))]∧ROut (MkR d ms'.used ms'.es) 3 1 (fun k=>eI (gI (C3 ms'.l) k)) ms'.l.length s sv t') ?_
  (fun v t' hv=>by
   cases hF:M9 d.p.parts d.n ms with
   | none=>rw [hF] at hv;exact ⟨v,t',hv,A7.refl _ _⟩
   | some ms' =>
    rw [hF] at hv
    obtain ⟨sv,rfl,hout⟩:=hv
    obtain ⟨t'',h1,h2⟩:=hout.shift (hB _ _)
    refine ⟨_,t'',⟨rfl,h2⟩,A7.tuple (A7.cons (h1.trans ?_) (A7.keep _ _)) rfl⟩
    have e:A9 (C3 ms'.l)=.arr 1 ms'.l.length (fun k=>eI (gI (C3 ms'.l) k)):=by unfold A9 A8;rw [Z2]
    rw [e];exact A7.keep _ _)
 have hp8:=hp.n8
 refine SyW [8] Tryz.func305 ?_
 obtain ⟨⟨fm,hmb,hm0⟩,_,_⟩:=h.facts
 conv=>whnf
 refine L1 hmb hm0 ?_
 refine ⟨[0,5,6,15,16,17],fun m vs t'=>∃ (k:Nat) (ms':MSt) (sv:AV),k≤d.n∧m=d.n - k∧vs=[.optr 18 d.bm 0 0,sv,eI (I4 d.us ms'.l),A8 3 A1L d.p.parts,eI d.p.parts.length,eI k]∧M9 d.p.parts k ms=some ms'∧ROut (MkR d ms'.used ms'.es) 3 1 (fun j=>eI (gI ms'.l j)) ms'.l.length s sv t',?_,?_⟩
 ·conv=>whnf
  refine ⟨_,0,ms,.emp,D7C _,rfl,?_,rfl,?_⟩
  ·rw [hl0];rfl
  ·rw [hl0];exact ROut.start h _ _ _
 ·clear h hmb hm0
  rintro m vs t' ⟨k,ms1,sv,hk,rfl,rfl,hF,hout⟩
  have hok:=MOk.parts (hn▸hm) (hn▸hk) hF
  have hlen:=A2x hp (hn▸hk) hF
  rw [hl0,D8u] at hlen
  have hcb:=A1J hu ms1.l hok.mem
  conv=>whnf
  cases h2:decide ((k:Int)<(d.p.parts.length:Int))
  ·have:=D7g h2
   obtain rfl:k=d.n:=by omega
   rw [hF];conv=>whnf
   refine call (B4A (hB _ _) (by omega) hout) (fun v t2 hv=>?_)
   obtain ⟨rfl,hout2⟩:=hv
   obtain ⟨⟨fm,hmb,hm0⟩,_,_⟩:=(hout2.dropped (hB _ _)).facts
   conv=>whnf
   refine ⟨[],[],[0,1,2,3,4,5,6,7,8,9,10,11,12,13,14,15,16,17],by kernel_rfl,?_⟩;conv=>whnf
   refine L1 hmb hm0 ?_
   refine L1 hmb hm0 ?_
   have ha:=hp.amt
   have w:IntKind.i64.wrap (I4 d.us ms1.l - d.p.amount)=I4 d.us ms1.l - d.p.amount:=A4 (by omega) (by omega)
   exact ⟨_,by rw [w];rfl,hout2⟩
  ·have hk':k<d.p.parts.length:=by have:=D7h h2;omega
   have hcnt:=hp.at hk'
   conv=>whnf
   refine E9 ?_
   refine ⟨[0,5,6,7,15,16,17,23,24],fun m vs t'=>∃ (j:Nat) (ms':MSt) (sv:AV),(j:Int)≤(d.p.parts.getD k default).count∧m=(d.p.parts.getD k default).count.toNat - j∧vs=[.optr 18 d.bm 0 0,sv,eI (I4 d.us ms'.l),eI k,A8 3 A1L d.p.parts,eI d.p.parts.length,eI k,eI (d.p.parts.getD k default).count,eI j]∧U1 k j ms1=some ms'∧ROut (MkR d ms'.used ms'.es) 3 1 (fun j=>eI (gI ms'.l j)) ms'.l.length s sv t',?_,?_⟩
   ·conv=>whnf
    exact ⟨_,0,ms1,sv,by omega,rfl,rfl,rfl,hout⟩
   ·clear hout
    rintro m vs t' ⟨j,ms2,sv,hj,rfl,rfl,hF2,hout⟩
    have hok2:=hok.takes hk' hF2
    have hlen2:=A2z hF2
    have hcb2:=A1J hu ms2.l hok2.mem
    conv=>whnf
    cases h3:decide ((j:Int)<(d.p.parts.getD k default).count)
    ·have:=D7g h3
     have ej:j=(d.p.parts.getD k default).count.toNat:=by omega
     conv=>whnf
     refine G3 ?_
     refine ⟨d.n - (k+1),by omega,k+1,ms2,sv,by omega,rfl,by rw [B4 (by omega)],?_,hout⟩
     unfold M9;rw [hF,←ej];exact hF2
    ·have hj':(j:Int)<(d.p.parts.getD k default).count:=D7h h3
     obtain ⟨s0,hcol,hMk⟩:=hout
     conv=>whnf
     refine call (D0u d ms2.used ms2.es s0 t' hMk k (by omega) (fun e he=>by rw [hok2.len];exact hok2.rng k hk' e he) (hok2.srt k hk')) (fun v t2 hv=>?_)
     obtain ⟨rfl,hMk2⟩:=hv
     have hT:U1 k (j+1) ms1=A1p k ms2:=by
      show (U1 k j ms1).bind (A1p k)=_
      rw [hF2];rfl
     have hmem:=(A3R ms2.used (ms2.es k)).2.1
     cases hR:(P2 ms2.used (ms2.es k)).1 with
     | none =>
      have h4:A1p k ms2=none:=by unfold A1p;rw [hR]
      rw [h4] at hT
      have h5:=A6K (c:=(d.p.parts.getD k default).count.toNat) hT (by omega)
      have h6:M9 d.p.parts (k+1) ms=none:=by unfold M9;rw [hF];exact h5
      have h7:=A6t (c:=d.n) h6 (by omega)
      rw [h7];conv=>whnf
      exact ⟨rfl,hcol.sup.trans ((hB _ _).sup hMk2)⟩
     | some i =>
      have h4:A1p k ms2=some ⟨ms2.used.set i.toNat true,A0C ms2.es k (P2 ms2.used (ms2.es k)).2,ms2.l++[i]⟩:=by unfold A1p;rw [hR]
      rw [hR] at hMk2
      obtain ⟨e,he,rfl,_⟩:=hmem i hR
      have hx:=hok2.rng k hk' e he
      have hn0:0≤(gU d.us e.2.toNat).net:=hu.pos _ (A5 hx.2)
      have hn1:(gU d.us e.2.toNat).net≤10000000000000:=hu.le (A5 hx.2)
      conv=>whnf
      refine ROut.app (q:=r3) (hB _ _) rfl rfl rfl rfl rfl (f:=fun j=>eI (gI (ms2.l++[e.2]) j)) (by simp only [A8C];rfl) (by show (ms2.l.length+1) * 8≤140737488355328;omega) ⟨s0,Col.congr hcol fun j hj=>by rw [O1 hj],hMk2⟩ (fun sv' t3 hout3=>?_)
      obtain ⟨⟨fm,hmb,hm0⟩,_,_⟩:=(hout3.dropped (hB _ _)).facts
      conv=>whnf
      refine L1 hmb hm0 ?_
      refine ⟨rfl,⟨by show 0≤e.2;omega,by show e.2<(d.us.length:Int);omega⟩,?_⟩;conv=>whnf
      refine G3 ?_
      have w:IntKind.i64.wrap (I4 d.us ms2.l+(gU d.us e.2.toNat).net)=I4 d.us (ms2.l++[e.2]):=by rw [B3V];exact A4 (by omega) (by omega)
      refine ⟨(d.p.parts.getD k default).count.toNat - (j+1),by omega,j+1,⟨ms2.used.set e.2.toNat true,A0C ms2.es k (P2 ms2.used (ms2.es k)).2,ms2.l++[e.2]⟩,sv',by omega,rfl,?_,by rw [hT];exact h4,?_⟩
      ·rw [B4 (by omega),←w]
      ·rw [D7p];exact hout3
theorem L5 (y:Int) (r:List Int):A2 (y::r)=y+A2 r:=by
 have:=G2 [y] r
 rw [D9E] at this
 rw [this];simp [A2]
theorem A7p {a b:List Int} (h:a.Perm b):A2 a=A2 b:=by
 induction h with
 | nil=>rfl
 | cons x _ ih=>rw [L5,L5,ih]
 | swap x y l=>rw [L5,L5,L5,L5];omega
 | trans _ _ ih1 ih2=>exact ih1.trans ih2
theorem C0T {l:List Int} {B:Int} (h:∀ x∈l,x≤B):A2 l≤l.length * B:=by
 induction l with
 | nil=>simp [A2]
 | cons x l ih =>
  have h1:=ih (fun y hy=>h y (D7E _ hy))
  have h2:=h x (D7G ..)
  rw [L5,D7N]
  have:((l.length+1:Nat):Int) * B=l.length * B+B:=by
   rw [show ((l.length+1:Nat):Int)=(l.length:Int)+1 by omega,D9H,Int.one_mul]
  omega
theorem C1k {qs:List Int} {R:List QE} (hl:∀ e∈R,e.2.toNat<qs.length) (hd:(R.map fun e=>e.2.toNat).Nodup) (k:Nat):gI (T4 qs R) k=gI qs k+if k∈R.map (fun e=>e.2.toNat) then 1 else 0:=by
 unfold T4
 induction R generalizing qs with
 | nil=>simp
 | cons e R ih =>
  rw [D8k,List.nodup_cons] at hd
  have he:=hl e (D7G ..)
  simp only [D8o]
  rw [ih (fun x hx=>by rw [D8p];exact hl x (D7E _ hx)) hd.2]
  have hs:gI (qs.set e.2.toNat (gI qs e.2.toNat+1)) k=if k=e.2.toNat then gI qs k+1 else gI qs k:=by
   unfold gI
   simp only [D7c,D8W]
   by_cases h:k=e.2.toNat
   ·subst h;simp [he]
   ·rw [if_neg (fun e'=>h e'.symm),if_neg h]
  rw [hs,D8k]
  by_cases h:k=e.2.toNat
  ·subst h
   rw [if_pos rfl,if_neg hd.1,if_pos (D7G ..)];omega
  ·rw [if_neg h]
   by_cases h2:k∈R.map (fun e=>e.2.toNat)
   ·rw [if_pos h2,if_pos (D7E _ h2)]
   ·rw [if_neg h2,if_neg (fun h3=>by
     rcases D8A.1 h3 with h4 | h4
     ·exact h h4
     ·exact h2 h4)]
theorem C8d {total:Int} {ws:List Int} (h:S3 total ws) (hS:0<A2 ws) {i:Nat} (hi:(i:Int)<G6 total (A2 ws) ws ws.length):0<((shR total (A2 ws) ws).getD i default).1:=by
 have hlr:=A3G h hS
 have hlen:=A7k total (A2 ws) ws
 have hil:i<(shR total (A2 ws) ws).length:=by omega
 refine Int.lt_of_not_ge fun hneg=>?_
 have hsum:A2 ((shR total (A2 ws) ws).map (·.1))=A2 ws * G6 total (A2 ws) ws ws.length:=by
  have hp:=(A2M total (A2 ws) ws).map (·.1)
  rw [A7p hp,D9B]
  have e:=B1d total (A2 ws) hS ws ws.length (D7l _)
  rw [D7m] at e
  unfold G6
  rw [Int.mul_sub,D9q (A2 ws) total]
  have:(List.range ws.length).map ((fun e:QE=>e.1) ∘ shE total (A2 ws) ws)=(List.range ws.length).map fun k=>total * gI ws k % A2 ws:=rfl
  rw [this];omega
 have hsorted:=A8b total (A2 ws) ws
 have hrest:∀ e∈shR total (A2 ws) ws,0≤e.1∧e.1≤A2 ws - 1:=fun e he=>by
  obtain ⟨k,hk,rfl⟩:=D7y.1 ((A2M total (A2 ws) ws).subset he)
  have h1:=D8F (total * gI ws k) (show A2 ws≠0 by omega)
  have h2:=D8t (total * gI ws k) hS
  show 0≤total * gI ws k % A2 ws∧total * gI ws k % A2 ws≤A2 ws - 1
  omega
 generalize hR:shR total (A2 ws) ws=R at *
 have hsplit:R=R.take i++R.drop i:=(D9r i R).symm
 have hcons:R.drop i=R.getD i default::R.drop (i+1):=by
  rw [D7c,D7k hil]
  exact D9h hil
 have hdrop:A2 ((R.drop i).map (·.1))≤0:=by
  have:∀ x∈(R.drop i).map (·.1),x≤0:=fun x hx=>by
   obtain ⟨e,he,rfl⟩:=D7y.1 hx
   rw [hcons] at he
   rcases D8A.1 he with rfl | he
   ·exact hneg
   ·have hs:=hsorted.sublist (D9P i R)
    rw [hcons,D8K] at hs
    have:=(T2 _ _).1 (hs.1 e he)
    omega
  have:=C0T this
  omega
 have htake:A2 ((R.take i).map (·.1))≤i * (A2 ws - 1):=by
  have h1:=C0T (l:=(R.take i).map (·.1)) (B:=A2 ws - 1) (fun x hx=>by
   obtain ⟨e,he,rfl⟩:=D7y.1 hx
   exact (hrest e (D8e _ _ he)).2)
  rw [D7i,D7n,E0j (by omega)] at h1
  exact h1
 have hall:A2 (R.map (·.1))=A2 ((R.take i).map (·.1))+A2 ((R.drop i).map (·.1)):=by
  conv=>lhs;rw [hsplit]
  rw [D7M,G2]
 have h2:A2 ws * ((i:Int)+1)≤A2 ws * G6 total (A2 ws) ws ws.length:=D7W (by omega) (by omega)
 rw [D9p,D9Z] at h2
 have h3:(i:Int) * (A2 ws - 1)=A2 ws * i - i:=by rw [Int.mul_sub,D9Z,D9q]
 omega
theorem A3F {total:Int} {ws:List Int} (h:S3 total ws) (ht:total≤A2 ws) {k:Nat} (hk:k<ws.length):gI (D1 total ws) k≤gI ws k:=by
 have hw:=h.w0 _ (A5 hk)
 unfold D1
 split
 ·rename_i h0
  have:gI (ws.map fun _=>(0:Int)) k=0:=D4 (fun _:Int=>(0:Int)) ws hk
  rw [this];exact hw
 ·rename_i h0
  have hS:0<A2 ws:=by have:=C1 h.w0;omega
  have hmem:∀ e∈(shR total (A2 ws) ws).take (G6 total (A2 ws) ws ws.length).toNat,e.2.toNat<((List.range ws.length).map (shQ total (A2 ws) ws)).length:=fun e he=>by
   rw [D7i,D7F];exact (B1k (D8e _ _ he)).2
  have hnd:(((shR total (A2 ws) ws).take (G6 total (A2 ws) ws ws.length).toNat).map fun e=>e.2.toNat).Nodup:=by
   have h1:((shR total (A2 ws) ws).map fun e=>e.2.toNat).Nodup:=by
    have hp:=(A2M total (A2 ws) ws).map fun e=>e.2.toNat
    refine hp.nodup_iff.2 ?_
    rw [D9B]
    have:(List.range ws.length).map ((fun e:QE=>e.2.toNat) ∘ shE total (A2 ws) ws)=(List.range ws.length).map id:=by
     refine D8x fun k _=>?_
     show (k:Int).toNat=k
     omega
    rw [this,List.map_id]
    exact List.nodup_range
   exact h1.sublist ((List.take_sublist _ _).map _)
  rw [C1k hmem hnd,N3 _ hk]
  have e1:=D8j (total * gI ws k) (A2 ws)
  have e2:=D8F (total * gI ws k) (show A2 ws≠0 by omega)
  have e3:total * gI ws k≤A2 ws * gI ws k:=D9b ht hw
  have e4:shQ total (A2 ws) ws k=total * gI ws k / A2 ws:=rfl
  split
  ·rename_i hin
   obtain ⟨e,he,hek⟩:=D7y.1 hin
   obtain ⟨i,hi,rfl⟩:=D2 he
   rw [D7n] at hi
   have hle:=A3G h hS
   have hpos:=C8d h hS (i:=i) (by omega)
   have hti:((shR total (A2 ws) ws).take (G6 total (A2 ws) ws ws.length).toNat).getD i default=(shR total (A2 ws) ws).getD i default:=by
    rw [D7c,D7c,D7r (by omega)]
   rw [hti] at hek
   have hm2:(shR total (A2 ws) ws).getD i default∈shR total (A2 ws) ws:=A5 (by omega)
   obtain ⟨j,hj,hje⟩:=D7y.1 ((A2M total (A2 ws) ws).subset hm2)
   have hjk:j=k:=by rw [←hek,←hje];show j=(j:Int).toNat;omega
   subst hjk
   rw [←hje] at hpos
   have hpos':0<total * gI ws j % A2 ws:=hpos
   have h5:A2 ws * (total * gI ws j / A2 ws)<A2 ws * gI ws j:=by omega
   have h6:total * gI ws j / A2 ws<gI ws j:=Int.lt_of_mul_lt_mul_left h5 (by omega)
   omega
  ·have h5:A2 ws * (total * gI ws k / A2 ws)≤A2 ws * gI ws k:=by omega
   have h6:total * gI ws k / A2 ws≤gI ws k:=Int.le_of_mul_le_mul_left h5 hS
   omega
structure A0n (us:List B3) (l:List Int):Prop where
 rng:∀ k,k<l.length→0≤gI l k∧(gI l k).toNat<us.length
 ne:∀ i k,i<k→k<l.length→(gI l i).toNat≠(gI l k).toNat
theorem O4.places {us:List B3} {mine:List Int} (h:O4 us mine):A0n us mine :=
 ⟨h.rng,fun i k hik hk=>by
  have h1:=h.lt i k hik hk
  have h2:=(h.rng i (by omega)).1
  omega⟩
theorem A5G {us:List B3} {mine offs:List Int} (hm:A0n us mine):∀ k,k≤mine.length→∀ j,j<us.length→(∀ i,i<k→j≠(gI mine i).toNat)→gU (D0 us mine offs k) j=gU us j
 | 0,_,j,hj,_=>rfl
 | k+1,hk,j,hj,hne=>by
  have ih:=A5G (offs:=offs) hm k (by omega) j hj (fun i hi=>hne i (by omega))
  unfold D0 less1
  rw [A6k (by rw [Q3];exact (hm.rng k (by omega)).2),if_neg (hne k (by omega))]
  exact ih
theorem A4d {us:List B3} {mine offs:List Int} (hm:A0n us mine) {k:Nat} (hk:k<mine.length):gU (D0 us mine offs k) (gI mine k).toNat=gU us (gI mine k).toNat :=
 A5G hm k (by omega) _ (hm.rng k hk).2 fun i hi=>fun e=>hm.ne i k hi hk e.symm
theorem A2O {us:List B3} (hu:E5 us) {mine offs:List Int} (hm:A0n us mine) (hlen:offs.length≤mine.length) (h:∀ k,k<offs.length→0≤gI offs k∧gI offs k≤(gU us (gI mine k).toNat).net):∀ k,k≤offs.length→Off us (D0 us mine offs k) (A2 (offs.take k))
 | 0,_=>Off.refl hu
 | k+1,hk=>by
  have ih:=A2O hu hm hlen h k (by omega)
  have hr:=hm.rng k (by omega)
  have hx:=h k (by omega)
  rw [K4 (by omega)]
  refine ih.trans (Off.less1 (ih.ok hu) (by rw [Q3];exact hr.2) hx.1 ?_)
  rw [A4d hm (by omega)];exact hx.2
def J2 (us:List B3) (l:List Int):List Int:=l.map fun i=>(gU us i.toNat).net
def A3H (us:List B3) (l:List Int) (amount:Int):List B3:=D0 us l (D1 amount (J2 us l)) l.length
theorem C1N {us:List B3} (hu:E5 us) {l:List Int} (hm:A0n us l) {amount:Int} (hW:S3 amount (J2 us l)) (ha:amount≤A2 (J2 us l)):Off us (A3H us l amount) amount:=by
 obtain ⟨a,b,c⟩:=U3 hW
 have hl:(J2 us l).length=l.length:=by unfold J2;rw [D7i]
 have:=A2O hu hm (offs:=D1 amount (J2 us l)) (by omega) (fun k hk=>⟨c _ (A5 hk),by
  have h1:=A3F hW ha (k:=k) (by omega)
  have h2:gI (J2 us l) k=(gU us (gI l k).toNat).net:=D4 (fun i:Int=>(gU us i.toNat).net) l (by omega)
  rw [h2] at h1;exact h1⟩) (D1 amount (J2 us l)).length (D7l _)
 rw [D7m,a] at this
 unfold A3H
 rw [show l.length=(D1 amount (J2 us l)).length by omega]
 exact this
theorem C6I (bo:Nat) (us:List B3) (hu:E5 us) (l:List Int) (hl:l.length≤100000) (hm:A0n us l) (amount:Int) (hW:S3 amount (J2 us l)) (st:St) (hb:A5Z st bo us) :
  S P 306 [.own 3 bo 0 us.length,A9 l,eI amount] st fun v st'=>v=.tuple []∧∃ f,st'=upd st bo ⟨223,3,us.length,f⟩∧∀ k,k<us.length→f k=A0i (gU (A3H us l amount) k):=by
 have hul:=hu.len
 have hwl:(J2 us l).length=l.length:=by unfold J2;rw [D7i]
 obtain ⟨lg1,lg2,lg3⟩:=U3 hW
 refine SyW [] Tryz.func306 ?_
 obtain ⟨fu,hst,hfu⟩:=hb
 conv=>whnf
 refine ⟨[0,1,2,6,13,14,15],fun m vs st'=>∃ (i:Nat) (sv:AV),i≤l.length∧m=l.length - i∧vs=[.own 3 bo 0 us.length,A9 l,eI amount,sv,A9 l,eI l.length,eI i]∧Col 2 1 (fun k=>eI (gI (J2 us l) k)) st i sv st',?_,?_⟩
 ·conv=>whnf
  exact ⟨_,0,.emp,D7C _,rfl,rfl,Col.start _ _ _ _⟩
 ·rintro m vs st' ⟨i,sv,hi,rfl,rfl,hcol⟩
  have hst':=hcol.sup bo _ hst
  conv=>whnf
  cases h:decide ((i:Int)<(l.length:Int))
  ·have:=D7g h
   obtain rfl:i=l.length:=by omega
   conv=>whnf
   have hsh:A7 [eI amount,sv] st' [eI amount,A9 (J2 us l)] st:=by
    refine A7.cons (A7.keep _ _) ?_
    have e:A9 (J2 us l)=.arr 1 l.length (fun k=>eI (gI (J2 us l) k)):=by unfold A9 A8;rw [hwl]
    rw [e];exact hcol.shift
   refine E2 hsh (B2 (A9L amount (J2 us l) hW st) ?_)
   have hX:∀ k,k<l.length→0≤gI (D1 amount (J2 us l)) k∧gI (D1 amount (J2 us l)) k≤100000000000000:=fun k hk=>by
    have h1:=lg3 _ (A5 (show k<(D1 amount (J2 us l)).length by omega))
    have h2:=J7 lg3 (A5 (show k<(D1 amount (J2 us l)).length by omega))
    have:=hW.t1
    exact ⟨h1,by show gI _ _≤_;unfold gI;omega⟩
   have hlf:A3H us l amount=D0 us l (D1 amount (J2 us l)) l.length:=rfl
   have hlen:(D1 amount (J2 us l)).length=l.length:=by omega
   rw [hlf]
   generalize D1 amount (J2 us l)=xs at *
   conv=>whnf
   refine ⟨[0,1,34,35,36],fun m vs st'=>∃ (k:Nat) (f:Nat→AV),k≤l.length∧m=l.length - k∧vs=[.own 3 bo 0 us.length,A9 l,A9 xs,eI xs.length,eI k]∧st'=upd st bo ⟨223,3,us.length,f⟩∧∀ j,j<us.length→f j=A0i (gU (D0 us l xs k) j),?_,?_⟩
   ·conv=>whnf
    exact ⟨_,0,fu,D7C _,rfl,rfl,(C5V hst).symm,hfu⟩
   ·rintro m vs st' ⟨k,f,hk,rfl,rfl,rfl,hf⟩
    conv=>whnf
    cases h2:decide ((k:Int)<(xs.length:Int))
    ·have:=D7g h2
     obtain rfl:k=l.length:=by omega
     conv=>whnf
     exact ⟨rfl,f,rfl,hf⟩
    ·have hk':k<l.length:=by have:=D7h h2;omega
     have hr:=hm.rng k hk'
     have hat:=A4d (offs:=xs) hm hk'
     have hx:=hX k hk'
     have hnet0:0≤(gU us (gI l k).toNat).net:=hu.pos _ (A5 hr.2)
     have hnet1:(gU us (gI l k).toNat).net≤10000000000000:=hu.le (A5 hr.2)
     have hfm:f (0+(gI l k).toNat)=A0i (gU (D0 us l xs k) (gI l k).toNat):=by rw [D7o];exact hf _ hr.2
     conv=>whnf
     refine E9 ?_
     refine E9 ?_
     refine ⟨rfl,⟨by show 0≤gI l k;exact hr.1,by show gI l k<(us.length:Int);have:=hr.2;have:=hr.1;omega⟩,?_⟩;conv=>whnf
     refine ldV (A0 ..) rfl (by show 0+(gI l k).toNat<_;have:=hr.2;omega) hfm ?_;conv=>whnf
     refine ⟨rfl,⟨by show 0≤gI l k;exact hr.1,by show gI l k<(us.length:Int);have:=hr.2;have:=hr.1;omega⟩,?_⟩;conv=>whnf
     refine stV (A0 ..) rfl (by show 0+(gI l k).toNat<_;have:=hr.2;omega) hfm (by rfl) ?_;conv=>whnf
     refine G3 ?_
     refine ⟨l.length - (k+1),by omega,k+1,_,by omega,rfl,by rw [B4 (by omega)],C5,fun j hj=>?_⟩
     have w:IntKind.i64.wrap ((gU (D0 us l xs k) (gI l k).toNat).net - gI xs k)=(gU (D0 us l xs k) (gI l k).toNat).net - gI xs k:=by
      rw [hat];exact A4 (by omega) (by omega)
     show _=A0i (gU (less1 (D0 us l xs k) (gI l k).toNat (gI xs k)) j)
     unfold less1
     rw [A6k (by rw [Q3];exact hr.2)]
     by_cases hj2:j=(gI l k).toNat
     ·rw [if_pos hj2,hj2,←w]
      show I6 f (0+(gI l k).toNat) _ _=_
      rw [D7o,A6];rfl
     ·rw [if_neg hj2]
      show I6 f (0+(gI l k).toNat) _ _=_
      rw [D7o,H7 hj2];exact hf j hj
  ·have hi':i<l.length:=by have:=D7h h;omega
   have hr:=hm.rng i hi'
   have hg:gI (J2 us l) i=(gU us (gI l i).toNat).net:=D4 (fun i:Int=>(gU us i.toNat).net) l hi'
   conv=>whnf
   refine E9 ?_
   refine ⟨rfl,⟨by show 0≤gI l i;exact hr.1,by show gI l i<(us.length:Int);have:=hr.2;have:=hr.1;omega⟩,?_⟩;conv=>whnf
   refine ldV hst' rfl (by show 0+(gI l i).toNat<_;have:=hr.2;omega) (v:=A0i (gU us (gI l i).toNat)) (by show fu (0+(gI l i).toNat)=_;rw [D7o];exact hfu _ hr.2) ?_;conv=>whnf
   refine Col.app (q:=r2) rfl rfl rfl rfl rfl (by simp only [hg];rfl) (by show (i+1) * 8≤140737488355328;omega) hcol (fun sv' st'' hcol'=>?_);conv=>whnf
   refine G3 ?_
   exact ⟨l.length - (i+1),by omega,i+1,sv',by omega,rfl,by rw [B4 (by omega)],hcol'⟩
end Go.Proofs.YtaapofnkmpiknaaGreat
namespace Go.Proofs.YtaapofnkmpiknaaGreat
open Go Go.Ab
def tot:Nat→(Nat→List QE)→Nat
 | 0,_=>0
 | n+1,es=>tot n es+(es n).length
theorem C3a {n:Nat} {es es':Nat→List QE} (h:∀ i,i<n→(es' i).length=(es i).length):tot n es'=tot n es:=by
 induction n with
 | zero=>rfl
 | succ n ih=>unfold tot;rw [ih fun i hi=>h i (by omega),h n (by omega)]
theorem C5T {n:Nat} {es:Nat→List QE} {k:Nat} (hk:k<n) (l:List QE):tot n (A0C es k l)+(es k).length=tot n es+l.length:=by
 induction n with
 | zero=>omega
 | succ n ih =>
  unfold tot
  by_cases e:k=n
  ·subst e
   rw [H8,C3a (es:=es) fun i hi=>by rw [O0 (by omega)]];omega
  ·have:=ih (by omega)
   rw [O0 (fun e'=>e e'.symm)];omega
theorem C2U {n k:Nat} (hk:k<n) {s s':MSt} (h:A1p k s=some s'):tot n s'.es+s'.l.length≤tot n s.es+s.l.length:=by
 have h4:=(A3R s.used (s.es k)).2.2.2
 unfold A1p at h
 split at h
 ·cases h
 ·rename_i i hi
  cases h
  have:=h4 (by rw [hi];simp)
  have:=C5T hk (P2 s.used (s.es k)).2 (es:=s.es)
  simp only [D7p,D7N,D8u]
  omega
theorem B3a {n k:Nat} (hk:k<n) {s:MSt}:∀ {c:Nat} {s':MSt},U1 k c s=some s'→tot n s'.es+s'.l.length≤tot n s.es+s.l.length
 | 0,s',h=>by cases h;exact D7l _
 | c+1,s',h=>by
  unfold U1 at h
  obtain ⟨s1,h1,h2⟩:=D8m.1 h
  exact D8r (C2U hk h2) (B3a hk h1)
theorem A7V {n:Nat} {parts:List A2H} {s:MSt}:∀ {k:Nat} {s':MSt},k≤n→M9 parts k s=some s'→tot n s'.es+s'.l.length≤tot n s.es+s.l.length
 | 0,s',_,h=>by cases h;exact D7l _
 | k+1,s',hk,h=>by
  unfold M9 at h
  obtain ⟨s1,h1,h2⟩:=D8m.1 h
  exact D8r (B3a (by omega) h2) (A7V (by omega) h1)
theorem A6u {p:B1} (hp:A4t p) {s s':MSt} (h:M9 p.parts p.parts.length s=some s'):s.l.length<s'.l.length:=by
 have hn:=hp.n1
 obtain ⟨k,hk⟩:∃ k,p.parts.length=k+1:=⟨p.parts.length - 1,by omega⟩
 have hmono:∀ {k:Nat} {s':MSt},M9 p.parts k s=some s'→s.l.length≤s'.l.length:=fun {k}=>by
  induction k with
  | zero=>intro s' h;cases h;exact D7l _
  | succ k ih =>
   intro s' h
   unfold M9 at h
   obtain ⟨s1,h1,h2⟩:=D8m.1 h
   have:=ih h1
   have:=A2z h2
   omega
 rw [hk] at h
 unfold M9 at h
 obtain ⟨s1,h1,h2⟩:=D8m.1 h
 have h3:=hmono h1
 have h4:=A2z h2
 have h5:=hp.at (show k<p.parts.length by omega)
 omega
structure A0a (u0:List Bool) (s:MSt):Prop where
 free:∀ x∈s.l,u0.getD x.toNat default=false
 nd:(s.l.map Int.toNat).Nodup
 used:∀ j,s.used.getD j default=true↔(u0.getD j default=true∨j∈s.l.map Int.toNat)
theorem A0a.start (u0:List Bool) (es:Nat→List QE):A0a u0 ⟨u0,es,[]⟩:=⟨fun x hx=>by simp at hx,List.nodup_nil,fun j=>by simp⟩
theorem A0a.take {us:List B3} {n:Nat} {u0:List Bool} {s s':MSt} (h:A0a u0 s) (hok:MOk us n s) {k:Nat} (hk:k<n) (ht:A1p k s=some s'):A0a u0 s':=by
 obtain ⟨_,t2,_,_⟩:=A3R s.used (s.es k)
 unfold A1p at ht
 split at ht
 ·cases ht
 ·rename_i i hi
  cases ht
  obtain ⟨e,he,rfl,hu⟩:=t2 i hi
  have hr:=hok.rng k hk e he
  have hfree:u0.getD e.2.toNat default=false∧e.2.toNat∉s.l.map Int.toNat:=by
   have:¬(u0.getD e.2.toNat default=true∨e.2.toNat∈s.l.map Int.toNat):=fun h2=>by
    rw [(h.used _).2 h2] at hu;cases hu
   exact ⟨D8O.2 fun h2=>this (.inl h2),fun h2=>this (.inr h2)⟩
  refine ⟨fun x hx=>?_,?_,fun j=>?_⟩
  ·rcases D8s.1 hx with hx | hx
   ·exact h.free x hx
   ·rw [D7I] at hx;rw [hx];exact hfree.1
  ·show ((s.l++[e.2]).map Int.toNat).Nodup
   rw [D7M]
   refine List.nodup_append.2 ⟨h.nd,by simp,fun a ha b hb=>?_⟩
   simp only [D8k,E0e,D7I] at hb
   subst hb
   exact fun e'=>hfree.2 (e'▸ha)
  ·show (s.used.set e.2.toNat true).getD j default=true↔(u0.getD j default=true∨j∈(s.l++[e.2]).map Int.toNat)
   rw [D7M,D8s,D8k,E0e,D7I]
   by_cases ej:j=e.2.toNat
   ·subst ej
    have:e.2.toNat<s.used.length:=by rw [hok.len];exact hr.2
    simp [D7c,this]
   ·have:(s.used.set e.2.toNat true).getD j default=s.used.getD j default:=by
     simp only [D7c]
     rw [D8V (fun e'=>ej e'.symm)]
    rw [this,h.used j]
    constructor
    ·rintro (h1 | h1)
     ·exact .inl h1
     ·exact .inr (.inl h1)
    ·rintro (h1 | h1 | h1)
     ·exact .inl h1
     ·exact .inr h1
     ·exact absurd h1 ej
theorem A0a.takes {us:List B3} {n:Nat} {u0:List Bool} {s:MSt} (h:A0a u0 s) (hok:MOk us n s) {k:Nat} (hk:k<n):∀ {c:Nat} {s':MSt},U1 k c s=some s'→A0a u0 s'
 | 0,s',e=>by cases e;exact h
 | c+1,s',e=>by
  unfold U1 at e
  obtain ⟨s1,h1,h2⟩:=D8m.1 e
  exact (A0a.takes h hok hk h1).take (hok.takes hk h1) hk h2
theorem A0a.parts {us:List B3} {p:B1} {u0:List Bool} {s:MSt} (h:A0a u0 s) (hok:MOk us p.parts.length s):∀ {k:Nat} {s':MSt},k≤p.parts.length→M9 p.parts k s=some s'→A0a u0 s'
 | 0,s',_,e=>by cases e;exact h
 | k+1,s',hk,e=>by
  unfold M9 at e
  obtain ⟨s1,h1,h2⟩:=D8m.1 e
  exact (A0a.parts h hok (by omega) h1).takes (MOk.parts hok (by omega) h1) (by omega) h2
theorem B3e {us:List B3} (hu:E5 us) {l:List Int} (hm:A0n us l):A2 (J2 us l)≤A2 (D9 us):=by
 have hl:(J2 us l).length=l.length:=by unfold J2;rw [D7i]
 have:=A2O hu hm (offs:=J2 us l) (by omega) (fun k hk=>by
  have h2:gI (J2 us l) k=(gU us (gI l k).toNat).net:=D4 (fun i:Int=>(gU us i.toNat).net) l (by omega)
  rw [h2]
  exact ⟨hu.at0 _,D7L _⟩) (J2 us l).length (D7l _)
 rw [D7m] at this
 have h1:=this.sum
 have h2:=C1 (this.ok hu).nets0
 omega
theorem B4n {us:List B3} {l:List Int} (hm:∀ x∈l,0≤x∧x.toNat<us.length) (hd:(l.map Int.toNat).Nodup):A0n us l:=by
 refine ⟨fun k hk=>hm _ (A5 hk),fun i k hik hk e=>?_⟩
 have hi:(l.map Int.toNat)[i]'(by rw [D7i];omega)=(l.map Int.toNat)[k]'(by rw [D7i];omega):=by
  rw [List.getElem_map,List.getElem_map]
  have h1:gI l i=l[i]:=by simp [gI,show i<l.length by omega]
  have h2:gI l k=l[k]:=by simp [gI,hk]
  rw [←h1,←h2];exact e
 exact (D8I.1 hd i k _ _ hik) hi
structure BSt where
 out:List B3
 ms:MSt
 taken:List Int
 all:Int
def A2B (p:B1) (us:List B3) (b:BSt):Option BSt:=match M9 p.parts p.parts.length ⟨b.ms.used,b.ms.es,[]⟩ with
 | none=>none
 | some s=>if I4 us s.l>p.amount then some ⟨A3H b.out (C3 s.l) (I4 us s.l - p.amount),s,b.taken++C3 s.l,b.all+(I4 us s.l - p.amount)⟩ else none
def A3D (p:B1) (us:List B3):Nat→BSt→BSt
 | 0,b=>b
 | m+1,b=>match A2B p us b with
  | none=>b
  | some b'=>A3D p us m b'
def F9 (us:List B3) (parts:List (List Int)):BSt:=⟨us,⟨List.replicate us.length false,fun k=>E1 us (parts.getD k []),[]⟩,[],0⟩
def S5 (p:B1) (us:List B3) (parts:List (List Int)):List B3×Int :=
 let b:=A3D p us (tot p.parts.length (F9 us parts).ms.es+1) (F9 us parts)
 (if p.closes=true then closeB b.out b.taken else b.out,b.all)
structure BOk (p:B1) (us:List B3) (D:Nat) (b:BSt):Prop where
 off:Off us b.out b.all
 same:∀ j,b.ms.used.getD j default=false→gU b.out j=gU us j
 ok:MOk us p.parts.length b.ms
 mem:∀ x∈b.taken,0≤x∧x.toNat<us.length
 len:b.taken.length+tot p.parts.length b.ms.es≤D
theorem W5 {l:List Int} {x:Int}:x∈C3 l↔x∈l:=(A1E l).mem_iff
structure D0F (p:B1) (us:List B3) (b:BSt) (s:MSt):Prop where
 places:A0n b.out (C3 s.l)
 weights:S3 (I4 us s.l - p.amount) (J2 b.out (C3 s.l))
 le:I4 us s.l - p.amount≤A2 (J2 b.out (C3 s.l))
theorem BOk.step {p:B1} (hp:A4t p) {us:List B3} (hu:E5 us) {D:Nat} {b:BSt} (h:BOk p us D b) {s:MSt} (hs:M9 p.parts p.parts.length ⟨b.ms.used,b.ms.es,[]⟩=some s) (hc:I4 us s.l>p.amount) :
  D0F p us b s∧BOk p us D ⟨A3H b.out (C3 s.l) (I4 us s.l - p.amount),s,b.taken++C3 s.l,b.all+(I4 us s.l - p.amount)⟩∧tot p.parts.length s.es<tot p.parts.length b.ms.es:=by
 have hok0:MOk us p.parts.length ⟨b.ms.used,b.ms.es,[]⟩:=⟨h.ok.len,h.ok.rng,h.ok.srt,fun x hx=>by simp at hx⟩
 have hok:=MOk.parts hok0 (D7l _) hs
 have htr:=A0a.parts (A0a.start b.ms.used b.ms.es) hok0 (D7l _) hs
 have hlen:=A2x hp (D7l _) hs
 have htot:=A7V (n:=p.parts.length) (D7l _) hs
 have hpos:=A6u hp hs
 simp only [D8u] at hlen htot hpos
 have hn8:=hp.n8
 have ha:=hp.amt
 have hpl:A0n b.out (C3 s.l):=B4n (fun x hx=>by rw [h.off.len];exact hok.mem x (W5.1 hx)) (((A1E s.l).map Int.toNat).nodup_iff.2 htr.nd)
 have hsame:∀ x∈s.l,(gU b.out x.toNat).net=(gU us x.toNat).net:=fun x hx=>by rw [h.same _ (htr.free x hx)]
 have hw:A2 (J2 b.out (C3 s.l))=I4 us s.l:=by
  unfold J2 I4
  rw [A7p ((A1E s.l).map fun i=>(gU b.out i.toNat).net)]
  congr 1
  exact D8x fun x hx=>hsame x hx
 have hou:=h.off.ok hu
 have hwl:=B3e hou hpl
 have hos:=hou.sum
 have hcb:=A1J hu s.l hok.mem
 have hW:S3 (I4 us s.l - p.amount) (J2 b.out (C3 s.l)):=by
  refine ⟨by omega,by omega,?_,fun w hw=>?_,by omega,fun e=>by omega⟩
  ·unfold J2;rw [D7i,Z2];omega
  ·obtain ⟨i,hi,rfl⟩:=D7y.1 hw;exact hou.at0 _
 have hL:=C1N hou hpl hW (by omega)
 refine ⟨⟨hpl,hW,by omega⟩,⟨h.off.trans hL,fun j hj=>?_,hok,fun x hx=>?_,?_⟩,by omega⟩
 ·have hnot:¬(b.ms.used.getD j default=true∨j∈s.l.map Int.toNat):=fun h2=>by
   rw [(htr.used j).2 h2] at hj;cases hj
  have hju:b.ms.used.getD j default=false:=D8O.2 fun h2=>hnot (.inl h2)
  rw [←h.same j hju]
  by_cases hjl:j<b.out.length
  ·exact A5G hpl _ (D7l _) j hjl fun i hi e=>hnot (.inr (by
    have:gI (C3 s.l) i∈s.l:=W5.1 (A5 hi)
    rw [e];exact D9R this))
  ·have e1:gU b.out j=default:=by unfold gU;rw [D7c,D9C (by omega)];rfl
   have e2:gU (A3H b.out (C3 s.l) (I4 us s.l - p.amount)) j=default:=by
    unfold gU;rw [D7c,D9C (by rw [hL.len];omega)];rfl
   rw [e1];exact e2
 ·rcases D8s.1 hx with hx | hx
  ·exact h.mem x hx
  ·exact hok.mem x (W5.1 hx)
 ·rw [D7p,Z2]
  have:=h.len
  show _+tot p.parts.length s.es≤D
  omega
theorem C0g {p:B1} (hp:A4t p) {us:List B3} (hu:E5 us) {D:Nat}:∀ (m:Nat) {b:BSt},BOk p us D b→BOk p us D (A3D p us m b)
 | 0,b,h=>h
 | m+1,b,h=>by
  unfold A3D A2B
  cases hs:M9 p.parts p.parts.length ⟨b.ms.used,b.ms.es,[]⟩ with
  | none=>exact h
  | some s =>
   simp only
   by_cases hc:I4 us s.l>p.amount
   ·rw [if_pos hc]
    exact C0g hp hu m (h.step hp hu hs hc).2.1
   ·rw [if_neg hc];exact h
theorem A6g {p:B1} {us:List B3} (hu:E5 us) {parts:List (List Int)} (hl:parts.length=p.parts.length) (hm:∀ k,k<parts.length→O4 us (parts.getD k [])):BOk p us (tot p.parts.length (F9 us parts).ms.es) (F9 us parts):=by
 refine ⟨Off.refl hu,fun j hj=>rfl,⟨by simp [F9],fun k hk e he=>A6Z (hm k (by omega)).rng he,fun k hk=>A5D _,fun x hx=>by simp [F9] at hx⟩,fun x hx=>by simp [F9] at hx,?_⟩
 show 0+_≤_
 omega
theorem B6p {p:B1} (hp:A4t p) {us:List B3} (hu:E5 us) {parts:List (List Int)} (hl:parts.length=p.parts.length) (hm:∀ k,k<parts.length→O4 us (parts.getD k [])):Off us (S5 p us parts).1 (S5 p us parts).2:=by
 have h:=C0g hp hu (tot p.parts.length (F9 us parts).ms.es+1) (A6g hu hl hm)
 unfold S5
 simp only
 split
 ·have h2:=Off.closeB (h.off.ok hu) (A3D p us (tot p.parts.length (F9 us parts).ms.es+1) (F9 us parts)).taken (fun x hx=>by rw [h.off.len];exact (h.mem x hx).2)
  have h3:=h.off.trans h2
  rw [D9s] at h3;exact h3
 ·exact h.off
end Go.Proofs.YtaapofnkmpiknaaGreat
namespace Go.Proofs.YtaapofnkmpiknaaGreat
open Go Go.Ab
attribute [local irreducible] upd del
theorem B8S (l:List (List Int)) (hl:l.length≤9223372036854775807) (g:FuncId) (cs:List AV) (p:(List Int)→Bool) (st:St)
  (hg:∀ x,x∈l→S P g (A9 x::cs) st fun v st'=>v=.bool (p x)∧st'=st) :
  S P 340 [A8 1 A9 l,.fn (.func g) [] cs] st fun v st'=>v=eI (idx p l)∧st'=st:=by
 refine F7 [] Tryz.func340 ?_
 refine ⟨[0,1,7,8],fun m vs st'=>∃ i:Nat,i≤l.length∧(∀ k,k<i→p (l.getD k default)=false)∧m=l.length - i∧vs=[A8 1 A9 l,.fn (.func g) [] cs,eI l.length,eI i]∧st'=st,?_,?_⟩
 ·conv=>whnf
  exact ⟨_,0,D7C _,fun k hk=>absurd hk (by omega),rfl,rfl,rfl⟩
 ·rintro m vs st' ⟨i,hi,hok,rfl,rfl,rfl⟩
  conv=>whnf
  cases h:decide ((i:Int)<(l.length:Int))
  ·have:=D7g h
   conv=>whnf
   refine ⟨?_,rfl⟩
   rw [U8 fun k hk=>hok k (by omega)];rfl
  ·have hi':i<l.length:=by have:=D7h h;omega
   conv=>whnf
   refine E9 ?_
   refine B2 (hg (l.getD (i:Int).toNat default) (by simp [hi'])) ?_
   rw [D7q]
   cases hp:p (l.getD i default)
   ·conv=>whnf
    refine G3 ?_
    refine ⟨l.length - (i+1),by omega,i+1,by omega,fun k hk=>?_,rfl,by rw [B4 (by omega)],rfl⟩
    rcases D7Y.1 hk with h' | h'
    ·exact hok k h'
    ·rw [h'];exact hp
   ·conv=>whnf
    refine ⟨?_,rfl⟩
    rw [A1V hi' hok hp];rfl
theorem C4u (l:List (List Int)) (hl:l.length≤9223372036854775807) (g:FuncId) (cs:List AV) (p:(List Int)→Bool) (st:St)
  (hg:∀ x,x∈l→S P g (A9 x::cs) st fun v st'=>v=.bool (p x)∧st'=st) :
  S P 327 [A8 1 A9 l,.fn (.func g) [] cs] st fun v st'=>v=.bool (l.any p)∧st'=st:=by
 refine F7 [] Tryz.func327 ?_
 refine I3 (B8S l hl g cs p st hg) ?_
 refine ⟨?_,rfl⟩
 rw [←A1U];rfl
theorem C4C (us:List B3) (mine:List Int) (h:E5 us) (hm:O4 us mine) (st:St):S P 328 [A9 mine,.fptr (C4 us) 0] st fun v st'=>v=.bool false∧st'=st:=by
 refine F7 [] Tryz.func328 ?_
 refine I3 (B1G us mine h hm st) ?_
 exact ⟨rfl,rfl⟩
theorem C9e (p:B1) (us:List B3) (parts:List (List Int)) (hfit:R5 p) (hright:I0 p=true) (hk:p.kind=4) (hu:E5 us) (hl:parts.length=p.parts.length) (hl8:parts.length≤8) (hm:∀ x∈parts,O4 us x) (st:St) :
  S P 304 [B8 p,C4 us,A8 1 A9 parts] st fun v st'=>v=.bool true∧st'=st:=by
 refine F7 [3,4] Tryz.func304 ?_
 rw [hk];conv=>whnf
 refine B2 (B1h p hfit st) ?_
 rw [hright];conv=>whnf
 rw [hl]
 have e:((p.parts.length:Int) != (p.parts.length:Int))=false:=by simp
 rw [e];conv=>whnf
 refine I3 (C4u parts (by omega) _ [.fptr (C4 us) 0] (fun _=>false) st fun x hx=>C4C us x hu (hm x hx) st) ?_
 refine ⟨?_,rfl⟩
 have:(parts.any fun _=>false)=false:=by simp
 rw [this];rfl
theorem B7X {s:St} {a b:Nat} {y:L7} (h:a≠b) (hs:s a=none):upd s b y a=none:=by rw [B0 h];exact hs
theorem C5U {n B:Nat} {es:Nat→List QE} (h:∀ i,i<n→(es i).length≤B):tot n es≤n * B:=by
 induction n with
 | zero=>exact D7C _
 | succ n ih =>
  unfold tot
  have h1:=ih fun i hi=>h i (by omega)
  have h2:=h n (by omega)
  have h3:(n+1) * B=n * B+B:=Nat.succ_mul n B
  omega
structure Lay (p:B1) (us:List B3) (E:Nat→List QE) (base:St) (bm bu:Nat) (i:Nat) (q:Nat→Nat) (rv:AV) (t:St):Prop where
 nbm:base bm=none
 nbu:base bu=none
 ne:bu≠bm
 has:∃ f g,f 0=.agg (A2t p++[C4 us,.own 1 bu 0 us.length,rv])∧(∀ k,k<us.length→g k=eB false) ∧
  ROut (Qs i q E) 278 1 (fun k=>.optr 1 (q k) 0 0) i (upd (upd base bm ⟨363,18,1,f⟩) bu ⟨4,1,us.length,g⟩) rv t
theorem Lay.mk' {p:B1} {us:List B3} {E:Nat→List QE} {base:St} {bm bu i:Nat} {q:Nat→Nat} {rv:AV} {t:St} (h:Lay p us E base bm bu i q rv t) (hi:0<i) :
  ∃ br,rv=.own 1 br 0 i∧MkR ⟨p,us,bm,bu,br,i,q⟩ (List.replicate us.length false) E base t:=by
 obtain ⟨h1,h2,h3,f,g,hf,hg,s0,hc,hq⟩:=h
 rcases hc with ⟨e,_,_⟩ | ⟨_,br,y,hb,rfl,rfl,hy⟩
 ·omega
 refine ⟨br,rfl,h1,_,⟨f,rfl,by rw [D8i];exact hf⟩,B7X h3 h2,_,⟨g,by rw [D8i],fun k hk=>?_⟩,hb,_,⟨y,rfl,hy⟩,hq⟩
 rw [D8i] at hk
 rw [hg k hk];simp [hk]
theorem C3P (uv:AV) (st:St):S P 297 [uv,A9 []] st fun v st'=>v=.tuple []∧st'=st:=by
 refine F7 [] Tryz.func297 ?_
 refine B2g [0,6,7,8] ?_;conv=>whnf
 intro I;conv=>whnf
 exact ⟨rfl,rfl⟩
theorem C3K (p:B1) (us:List B3) (parts:List (List Int)) (hfit:R5 p) (hright:I0 p=true) (hk:p.kind=4) (hp:A4t p) (hu:E5 us) (hl:parts.length=p.parts.length) (hm:∀ x∈parts,O4 us x) (st:St) :
  S P 275 [B8 p,C4 us,A8 1 A9 parts] st fun v st'=>v=.tuple [C4 (S5 p us parts).1,eI (S5 p us parts).2]∧st'=st:=by
 refine S.post (post:=fun v st'=>∃ sv,v=.tuple [sv,eI (S5 p us parts).2]∧A5S st (S5 p us parts).1 sv st') ?_
  (fun v st' ⟨sv,hv,hr⟩=>⟨_,st,⟨rfl,rfl⟩,by rw [hv];exact A7.tuple (A7.cons hr.shift (A7.keep _ _)) rfl⟩)
 have hul:=hu.len
 have hn1:=hp.n1
 have hn8:=hp.n8
 have hme:∀ k,k<parts.length→O4 us (parts.getD k default):=fun k hk=>hm _ (A5 hk)
 have hst0:=A6g hu hl (fun k hk=>hme k hk)
 generalize hE:(fun k=>E1 us (parts.getD k default))=E at *
 have hEk:∀ k,E k=E1 us (parts.getD k default):=fun k=>by rw [←hE]
 have hbs:F9 us parts=⟨us,⟨List.replicate us.length false,E,[]⟩,[],0⟩:=by rw [←hE];rfl
 have hD:tot p.parts.length (F9 us parts).ms.es≤800000:=by
  have:=C5U (n:=p.parts.length) (B:=100000) (es:=(F9 us parts).ms.es) (fun i hi=>by
   rw [hbs]
   show (E i).length≤100000
   rw [hEk,A2v]
   exact D8r (hme i (by omega)).len hul)
  have h2:p.parts.length * 100000≤8 * 100000:=D8c _ hn8
  omega
 have hB:S5 p us parts=(if p.closes=true then closeB (A3D p us (tot p.parts.length (F9 us parts).ms.es+1) (F9 us parts)).out (A3D p us (tot p.parts.length (F9 us parts).ms.es+1) (F9 us parts)).taken else (A3D p us (tot p.parts.length (F9 us parts).ms.es+1) (F9 us parts)).out,(A3D p us (tot p.parts.length (F9 us parts).ms.es+1) (F9 us parts)).all):=rfl
 refine F7 [3] Tryz.func275 ?_
 refine call (B1C us hul st) (fun sv base hcol=>?_)
 have hres:=A5S.ofCol hcol
 conv=>whnf
 refine I3 (C9e p us parts hfit hright hk hu hl (by omega) hm _) ?_
 refine ⟨[4,6],[0],[0,1,2,3,4,5,6,7],by kernel_rfl,?_⟩;conv=>whnf
 refine ⟨_,fun s _=>⟨rfl,rfl⟩,?_⟩;conv=>whnf
 refine mkO rfl rfl rfl (by show 1 * us.length≤_;omega) (by omega) (by rfl) (fun bu hbu=>?_);conv=>whnf
 intro bm hbm
 have hne:bu≠bm:=fun e=>by subst e;rw [A0] at hbm;cases hbm
 rw [B0 hne.symm] at hbm;conv=>whnf
 have hlay0:Lay p us E base bm bu 0 (fun _=>0) .emp (upd (upd base bu ⟨4,r4.size,us.length,fun _=>I1 r4.zero⟩) bm ⟨363,18,1,fun _=>.agg (A2t p++[C4 us,.own 1 bu 0 us.length,.emp])⟩) :=
  ⟨hbm,hbu,hne,fun _=>.agg (A2t p++[C4 us,.own 1 bu 0 us.length,.emp]),fun _=>eB false,rfl,fun _ _=>rfl,by
   rw [R9 hne.symm]
   exact ROut.start (Qs.nil (F8.refl _)) _ _ _⟩
 refine ⟨[1,3,8,9,32,33,34],fun m vs t=>∃ (i:Nat) (q:Nat→Nat) (rv:AV),i≤parts.length∧m=parts.length - i∧vs=[C4 us,.fptr (B8 p) 0,sv,.optr 18 bm 0 0,A8 1 A9 parts,eI parts.length,eI i]∧Lay p us E base bm bu i q rv t,?_,?_⟩
 ·conv=>whnf
  exact ⟨_,0,_,.emp,D7C _,rfl,rfl,hlay0⟩
 ·clear hlay0
  rintro m vs t ⟨i,q,rv,hi,rfl,rfl,hlay⟩
  conv=>whnf
  cases h:decide ((i:Int)<(parts.length:Int))
  ·have:=D7g h
   have hin:i=p.parts.length:=by omega
   subst hin
   obtain ⟨br,rfl,hMk⟩:=hlay.mk' (by omega)
   clear hlay
   conv=>whnf
   refine ⟨[3,8,9,12,13],fun m vs t=>∃ (b:BSt) (svT:AV) (ba:St),BOk p us (tot p.parts.length (F9 us parts).ms.es) b∧tot p.parts.length b.ms.es<m∧A3D p us m b=A3D p us (tot p.parts.length (F9 us parts).ms.es+1) (F9 us parts)∧vs=[.fptr (B8 p) 0,sv,.optr 18 bm 0 0,svT,eI b.all]∧A5S st b.out sv ba∧ROut (MkR ⟨p,us,bm,bu,br,p.parts.length,q⟩ b.ms.used b.ms.es) 3 1 (fun k=>eI (gI b.taken k)) b.taken.length ba svT t,?_,?_⟩
   ·conv=>whnf
    refine ⟨_,F9 us parts,.emp,base,hst0,D9J _,rfl,rfl,hres,?_⟩
    rw [hbs]
    exact ROut.start hMk _ _ _
   ·clear hMk hres
    rintro m vs t' ⟨b,svT,ba,hb,hlt,hF,rfl,hres,hout⟩
    obtain ⟨s0,hcol0,hMk⟩:=hout
    obtain ⟨m,rfl⟩:∃ n,m=n+1:=⟨m - 1,by omega⟩
    have hbl:=hb.len
    -- the end: what is closed
    have fin:∀ t2,F8 s0 t2→A2B p us b=none→(p.closes=true→∃ v3 t3,(∀ K:KK,(∀ t3,A5S st (closeB b.out b.taken) sv t3→K (.tuple []) t3)→A2l P 297 [sv,svT] t2 K)∧v3=AV.emp∧t3=t2)∧A5S st b.out sv t2∧S5 p us parts=(if p.closes=true then closeB b.out b.taken else b.out,b.all):=fun t2 hs2 hstep=>by
     have hbf:A3D p us (m+1) b=b:=by unfold A3D;rw [hstep]
     rw [hbf] at hF
     refine ⟨fun hc=>⟨.emp,t2,fun K hK=>?_,rfl,rfl⟩,?_,by rw [hB,←hF]⟩
     ·have hsh:A7 [svT] t2 [A9 b.taken] ba:=(hs2.shift _).trans hcol0.shift
      rcases hres.2 with ⟨h5,h6⟩ | ⟨bo,hb0,rfl,hHas⟩
      ·subst h6
       have hnil:b.taken=[]:=by
        cases hbt:b.taken with
        | nil=>rfl
        | cons x l =>
         have:=(hb.mem x (by rw [hbt];exact D7G ..)).2
         have h7:=hb.off.len
         rw [h5,D8u] at h7
         omega
       rw [hnil] at hsh
       refine E2 (args':=[.emp,A9 []]) (A7.cons (A7.keep _ _) hsh) (call (C3P _ ba) (fun v t3 hv=>?_))
       obtain ⟨rfl,rfl⟩:=hv
       refine hK _ ?_
       rw [h5,hnil]
       exact ⟨hres.1,.inl ⟨rfl,rfl⟩⟩
      ·refine E2 (args':=[.own 3 bo 0 b.out.length,A9 b.taken]) (A7.cons (A7.keep _ _) hsh) (call (B4U bo b.out b.taken (fun x hx=>by rw [hb.off.len];exact hb.mem x hx) (by omega) ba hHas) (fun v t3 hv=>?_))
       obtain ⟨rfl,hH3,hfr⟩:=hv
       refine hK _ ⟨fun x y hx=>?_,.inr ⟨bo,hb0,by rw [A2u],hH3⟩⟩
       rw [hfr x (fun e=>by subst e;rw [hb0] at hx;cases hx)];exact hres.1 x y hx
     ·have hsup:F8 ba t2:=hcol0.sup.trans hs2
      refine ⟨hres.1.trans hsup,?_⟩
      rcases hres.2 with h3 | ⟨bo,h3,h4,f,h5,h6⟩
      ·exact .inl h3
      ·exact .inr ⟨bo,h3,h4,f,hsup bo _ h5,h6⟩
    have hok0:MOk us p.parts.length ⟨b.ms.used,b.ms.es,[]⟩:=⟨hb.ok.len,hb.ok.rng,hb.ok.srt,fun x hx=>by simp at hx⟩
    conv=>whnf
    refine call (C9t ⟨p,us,bm,bu,br,p.parts.length,q⟩ rfl hp hu ⟨b.ms.used,b.ms.es,[]⟩ rfl hok0 s0 t' hMk) (fun v t2 hv=>?_)
    simp only at hv
    cases hs:M9 p.parts p.parts.length ⟨b.ms.used,b.ms.es,[]⟩ with
    | none =>
     rw [hs] at hv
     obtain ⟨rfl,hs2⟩:=hv
     obtain ⟨g1,g2,g3⟩:=fin t2 hs2 (by unfold A2B;rw [hs])
     rw [g3];conv=>whnf
     cases hc:p.closes with
     | true =>
      obtain ⟨_,_,g4,_,_⟩:=g1 hc
      conv=>whnf
      refine g4 _ (fun t3 h3=>?_);conv=>whnf
      exact ⟨_,rfl,h3⟩
     | false =>
      conv=>whnf
      exact ⟨_,rfl,g2⟩
    | some s =>
     rw [hs] at hv
     obtain ⟨rfl,hMk2⟩:=hv
     have hBs:=C0c ⟨p,us,bm,bu,br,p.parts.length,q⟩ s.used s.es
     by_cases hcost:I4 us s.l>p.amount
     ·obtain ⟨k1,k2,k3⟩:=hb.step hp hu hs hcost
      have hcost':decide (I4 us s.l>p.amount)=true:=D7D hcost
      have hstep:A3D p us (m+1) b=A3D p us m ⟨A3H b.out (C3 s.l) (I4 us s.l - p.amount),s,b.taken++C3 s.l,b.all+(I4 us s.l - p.amount)⟩:=by
       conv=>lhs;unfold A3D A2B
       rw [hs];simp only;rw [if_pos hcost]
      rw [hcost']
      have hlen:=A2x hp (D7l _) hs
      have htot:=A7V (n:=p.parts.length) (D7l _) hs
      have hpos:=A6u hp hs
      simp only [D8u] at hlen htot hpos
      rcases hres.2 with ⟨h5,h6⟩ | ⟨bo,hb0,rfl,f,hstb,hf⟩
      ·exfalso
       have:=(k1.places.rng 0 (by rw [Z2];omega)).2
       rw [h5,D8u] at this
       omega
      have hou:=hb.off.ok hu
      have hout2:ROut (MkR ⟨p,us,bm,bu,br,p.parts.length,q⟩ s.used s.es) 3 1 (fun k=>eI (gI b.taken k)) b.taken.length ba svT t2:=⟨s0,hcol0,hMk2⟩
      conv=>whnf
      refine call (C6I bo b.out hou (C3 s.l) (by rw [Z2];omega) k1.places _ k1.weights t2 ⟨f,hout2.sup hBs bo _ hstb,hf⟩) (fun v t3 hv=>?_)
      obtain ⟨rfl,f3,rfl,hf3⟩:=hv
      have hout3:=hout2.write hBs (y':=⟨223,3,b.out.length,f3⟩) hstb
      have hll:(A3H b.out (C3 s.l) (I4 us s.l - p.amount)).length=b.out.length:=by rw [k2.off.len,hb.off.len]
      conv=>whnf
      refine ROut.apps (q:=r3) (m:=s.l.length) (n:=b.taken.length) hBs rfl rfl rfl rfl (B5R (Z2 s.l) _) (f:=fun k=>eI (gI (b.taken++C3 s.l) k)) (fun i hi=>?_) (by show (b.taken.length+s.l.length) * 8≤140737488355328;omega) (hout3.congr fun k hk=>by rw [O1 hk]) (fun sv' t4 hout4=>?_)
      ·show eI (gI (C3 s.l) i)=eI (gI (b.taken++C3 s.l) (b.taken.length+i))
       unfold gI
       rw [D7c,D7c,D7A (by omega),Nat.add_sub_cancel_left]
      have hX1:=hb.off.pos
      have hX3:=k2.off.sum
      have hX4:=C1 (k2.off.ok hu).nets0
      have hX5:=hu.sum
      have hX6:=k1.weights.t0
      simp only at hX3 hX4
      conv=>whnf
      refine G3 ?_
      refine ⟨m,D9J _,⟨A3H b.out (C3 s.l) (I4 us s.l - p.amount),s,b.taken++C3 s.l,b.all+(I4 us s.l - p.amount)⟩,sv',upd ba bo ⟨223,3,b.out.length,f3⟩,k2,by show tot p.parts.length s.es<m;omega,by rw [←hstep];exact hF,?_,?_,?_⟩
      ·have w:IntKind.i64.wrap (b.all+(I4 us s.l - p.amount))=b.all+(I4 us s.l - p.amount):=A4 (by omega) (by omega)
       show [AV.fptr (B8 p) 0,AV.own 3 bo 0 b.out.length,AV.optr 18 bm 0 0,sv',eI (IntKind.i64.wrap (b.all+(I4 us s.l - p.amount)))]=_
       rw [w]
      ·exact ⟨hres.1.over hb0,.inr ⟨bo,hb0,by show AV.own 3 bo 0 b.out.length=_;rw [hll],f3,by rw [A0,hll],by rw [hll];exact hf3⟩⟩
      ·show ROut _ _ _ _ (b.taken++C3 s.l).length _ _ _
       rw [D7p,Z2];exact hout4
     ·have hcost':decide (I4 us s.l>p.amount)=false:=D7j hcost
      obtain ⟨g1,g2,g3⟩:=fin t2 (hBs.sup hMk2) (by unfold A2B;rw [hs];simp only;rw [if_neg hcost])
      rw [g3,hcost'];conv=>whnf
      cases hc:p.closes with
      | true =>
       obtain ⟨_,_,g4,_,_⟩:=g1 hc
       conv=>whnf
       refine g4 _ (fun t3 h3=>?_);conv=>whnf
       exact ⟨_,rfl,h3⟩
      | false =>
       conv=>whnf
       exact ⟨_,rfl,g2⟩
  ·have hi':i<parts.length:=by have:=D7h h;omega
   have hmi:=hme i hi'
   have hml:=hmi.len
   obtain ⟨l1,l2,l3,f,g,hf,hg,hout⟩:=hlay
   have hbmS:∀ {n:Nat} {q:Nat→Nat} {E:Nat→List QE} {rv:AV} {fo:Nat→AV} {n':Nat} {t:St},ROut (Qs n q E) 278 1 fo n' (upd (upd base bm ⟨363,18,1,f⟩) bu ⟨4,1,us.length,g⟩) rv t→t bm=some ⟨363,18,1,f⟩:=fun h =>
    h.sup (A3C _ _ _) bm _ (by rw [B0 l3.symm,A0])
   -- what is behind the call and the append
   have after:∀ (q':Nat) (t2:St),QSt t q' true (E1 us (parts.getD i default)) t2→ROut (Qs (i+1) (A0C q i q') E) 278 1 (fun k=>.optr 1 (A0C q i q' k) 0 0) i (upd (upd base bm ⟨363,18,1,f⟩) bu ⟨4,1,us.length,g⟩) rv t2:=fun q' t2 hq'=>by
    obtain ⟨s0,hc,hqs⟩:=hout
    refine ⟨s0,Col.congr hc fun k hk=>by rw [O0 (by omega)],?_⟩
    refine (hqs.add hq').congr (fun _ _=>rfl) fun k hk=>?_
    by_cases e:k=i
    ·subst e;rw [H8,hEk]
    ·rw [O0 e]
   conv=>whnf
   refine E9 ?_
   refine ⟨[4,7,9,12],[],[],.qui 0 (.qui 1 (.qui 2 (.qui 3 (.qui 5 (.qui 6 (.two 4 7 (.gen 7 (.qui 8 (.gen 9 (.qui 10 (.qui 11 (.gen 12 .done)))))) (.qui 4 (.qui 8 (.gen 9 (.qui 10 (.qui 11 (.gen 12 .done)))))))))))),by kernel_rfl,?_⟩;conv=>whnf
   have stored:∀ (q':Nat) (rv':AV) (t4:St),ROut (Qs (i+1) (A0C q i q') E) 278 1 (fun k=>.optr 1 (A0C q i q' k) 0 0) (i+1) (upd (upd base bm ⟨363,18,1,f⟩) bu ⟨4,1,us.length,g⟩) rv' t4→Lay p us E base bm bu (i+1) (A0C q i q') rv' (upd t4 bm ⟨363,18,1,I6 f 0 (.agg (A2t p++[C4 us,.own 1 bu 0 us.length,rv']))⟩):=fun q' rv' t4 h4=>by
    refine ⟨l1,l2,l3,I6 f 0 (.agg (A2t p++[C4 us,.own 1 bu 0 us.length,rv'])),g,A6 ..,hg,?_⟩
    have h5:=h4.write (A3C _ _ _) (b:=bm) (y':=⟨363,18,1,I6 f 0 (.agg (A2t p++[C4 us,.own 1 bu 0 us.length,rv']))⟩) (by rw [B0 l3.symm,A0])
    rw [R9 l3,C5] at h5
    exact h5
   have fin3:∀ (q':Nat) (rv':AV) (t5:St),Lay p us E base bm bu (i+1) (A0C q i q') rv' t5→∃ m',m'<parts.length - i∧∃ (i_1:Nat) (q:Nat→Nat) (rv:AV),i_1≤parts.length∧m'=parts.length - i_1∧[C4 us,AV.fptr (B8 p) 0,sv,AV.optr 18 bm 0 0,A8 1 A9 parts,eI parts.length,eI (IntKind.i64.wrap ((i:Int)+1))]=[C4 us,.fptr (B8 p) 0,sv,.optr 18 bm 0 0,A8 1 A9 parts,eI parts.length,eI i_1]∧Lay p us E base bm bu i_1 q rv t5 :=
    fun q' rv' t5 h5=>⟨parts.length - (i+1),by omega,i+1,_,rv',by omega,rfl,by rw [B4 (by omega)],h5⟩
   rcases hout.head with rfl | ⟨br,rfl⟩<;>conv=>whnf
   all_goals constructor
   all_goals conv=>whnf
   case inl.left | inr.left =>
    refine L1 (hbmS hout) hf ?_
    refine call (A9y us (parts.getD i default) hul (by omega) hmi.rng t) (fun v t2 hv=>?_)
    obtain ⟨q',rfl,hq'⟩:=hv
    have hout2:=after q' t2 hq'
    conv=>whnf
    refine ⟨_,⟨rfl,rfl⟩,?_⟩;conv=>whnf
    refine ROut.app (q:=C7B) (A3C _ _ _) rfl rfl rfl rfl rfl (by simp only [H8];rfl) (by show (i+1) * 8≤140737488355328;omega) hout2 (fun rv' t4 hout4=>?_)
    rcases hout4.head with e | ⟨br',e⟩<;>subst e
    all_goals conv=>whnf
    all_goals refine stV (hbmS hout4) rfl (by omega) hf (by rfl) ?_
    all_goals conv=>whnf
    all_goals refine ⟨rfl,?_⟩
    all_goals conv=>whnf
    all_goals exact fin3 _ _ _ (stored q' _ _ hout4)
   case inl.right | inr.right =>
    refine call (A9y us (parts.getD i default) hul (by omega) hmi.rng t) (fun v t2 hv=>?_)
    obtain ⟨q',rfl,hq'⟩:=hv
    have hout2:=after q' t2 hq'
    conv=>whnf
    refine L1 (hbmS hout2) hf ?_
    refine ⟨_,⟨rfl,rfl⟩,?_⟩;conv=>whnf
    refine ROut.app (q:=C7B) (A3C _ _ _) rfl rfl rfl rfl rfl (by simp only [H8];rfl) (by show (i+1) * 8≤140737488355328;omega) hout2 (fun rv' t4 hout4=>?_)
    rcases hout4.head with e | ⟨br',e⟩<;>subst e
    all_goals conv=>whnf
    all_goals refine stV (hbmS hout4) rfl (by omega) hf (by rfl) ?_
    all_goals conv=>whnf
    all_goals refine ⟨rfl,?_⟩
    all_goals conv=>whnf
    all_goals exact fin3 _ _ _ (stored q' _ _ hout4)
def inB (l:List C8) (s:C8):Bool:=l.any fun y=>s.toList==y.toList
theorem C4A (l:List C8) (s:C8) (hl:l.length≤9223372036854775807) (st:St):S P 312 [D5 l,eS s] st fun v st'=>v=.bool (inB l s)∧st'=st:=by
 refine F7 [] Tryz.func312 ?_
 refine I3 (C1S l hl s st) ?_
 exact ⟨rfl,rfl⟩
def B0N (s:Z4) (x:Ab.Item):Bool:=(s.skus.length+s.cats.length==0)||inB s.skus x.sku||inB s.cats x.cat
theorem D0g (s:Z4) (x:Ab.Item) (h1:s.skus.length≤20) (h2:s.cats.length≤20) (st:St):S P 292 [A4h s,F2 x] st fun v st'=>v=.bool (B0N s x)∧st'=st:=by
 refine F7 [2,3] Tryz.func292 ?_
 have w:IntKind.i64.wrap ((s.skus.length:Int)+(s.cats.length:Int))=((s.skus.length+s.cats.length:Nat):Int):=by rw [A4 (by omega) (by omega)];omega
 rw [w,A3Z]
 refine B7 (fun h=>?_) (fun h=>?_)<;>rw [h]
 ·conv=>whnf
  refine ⟨?_,rfl⟩
  unfold B0N;rw [h];rfl
 ·conv=>whnf
  refine I3 (C4A s.skus x.sku (by omega) st) ?_
  refine B7 (fun h3=>?_) (fun h3=>?_)<;>rw [h3]
  ·conv=>whnf
   refine ⟨?_,rfl⟩
   unfold B0N;rw [h,h3];rfl
  ·conv=>whnf
   refine I3 (C4A s.cats x.cat (by omega) st) ?_
   refine ⟨?_,rfl⟩
   unfold B0N;rw [h,h3];rfl
theorem Q1:K7 F8 where
 sup:=fun h=>h
 begin:=fun {s t b y} h hb=>fun c x hc=>by
  by_cases e:c=b
  ·subst e;rw [A0] at hc ⊢;exact hc
  ·rw [B0 e] at hc ⊢;exact h c x hc
 grow:=fun {s t b b' y y'} h h0 hb=>by
  have hsub:∀ c x,s c=some x→c≠b∧t c=some x:=fun c x hc=>by
   have hne:c≠b:=fun e=>by subst e;rw [h0] at hc;cases hc
   exact ⟨hne,h c x (by rw [B0 hne];exact hc)⟩
  have hb':s b'=none:=by
   rcases hb with e | e
   ·rw [e];exact h0
   ·cases hx:s b' with
    | none=>rfl
    | some x=>rw [(hsub _ _ hx).2] at e;cases e
  refine ⟨hb',fun c x hc=>?_⟩
  by_cases e:c=b'
  ·subst e;rw [A0] at hc ⊢;exact hc
  ·rw [B0 e] at hc ⊢
   rw [A2U (hsub c x hc).1];exact (hsub c x hc).2
 write:=fun {s t b y y'} h hb=>F8.write (y:=y) h
 forget:=fun {s t b y} h h0=>fun c x hc=>by
  have hne:c≠b:=fun e=>by subst e;rw [h0] at hc;cases hc
  rw [A2U hne];exact h c x (by rw [B0 hne];exact hc)
 drop:=fun {s t b y} h h0=>F8.drop h h0
theorem C3H {ι : Type} {R : ι→St→St→Prop} (h:∀ i,K7 (R i)):K7 fun s t=>∃ i,R i s t where
 sup:=fun ⟨i,hi⟩=>(h i).sup hi
 begin:=fun ⟨i,hi⟩ hb=>⟨i,(h i).begin hi hb⟩
 grow:=fun ⟨i,hi⟩ h0 hb=>⟨((h i).grow (y':=⟨0,0,0,fun _=>.junk⟩) hi h0 hb).1,i,((h i).grow hi h0 hb).2⟩
 write:=fun ⟨i,hi⟩ hb=>⟨i,(h i).write hi hb⟩
 forget:=fun ⟨i,hi⟩ h0=>⟨i,(h i).forget hi h0⟩
 drop:=fun ⟨i,hi⟩ h0=>⟨i,(h i).drop hi h0⟩
theorem Col.off {ty e n:Nat} {fo:Nat→AV} {s s0:St} {sv:AV} (h:Col ty e fo s n sv s0) {b:Nat} (hb:s0 b=none):s b=none:=by
 rcases h with ⟨_,_,rfl⟩ | ⟨_,bo,g,h1,_,rfl,_⟩
 ·exact hb
 ·by_cases e:b=bo
  ·subst e;exact h1
  ·rw [B0 e] at hb;exact hb
theorem Col.under {ty e n:Nat} {fo:Nat→AV} {s s0:St} {sv:AV} (h:Col ty e fo s n sv s0) {b:Nat} {y:L7} (hb:s0 b=none):Col ty e fo (upd s b y) n sv (upd s0 b y):=by
 rcases h with ⟨rfl,rfl,rfl⟩ | ⟨h0,bo,g,h1,rfl,rfl,h3⟩
 ·exact Col.start _ _ _ _
 ·have hne:bo≠b:=fun e=>by subst e;rw [A0] at hb;cases hb
  exact .inr ⟨h0,bo,g,by rw [B0 hne];exact h1,rfl,R9 hne,h3⟩
theorem Col.split {ty e n:Nat} {fo:Nat→AV} {s s0:St} {sv:AV} {b:Nat} {y:L7} (h:Col ty e fo (upd s b y) n sv s0) (hb:s b=none):∃ s1,s1 b=none∧s0=upd s1 b y∧Col ty e fo s n sv s1:=by
 rcases h with ⟨rfl,rfl,rfl⟩ | ⟨h0,bo,g,h1,rfl,rfl,h3⟩
 ·exact ⟨s,hb,rfl,Col.start _ _ _ _⟩
 ·have hne:bo≠b:=fun e=>by subst e;rw [A0] at h1;cases h1
  rw [B0 hne] at h1
  exact ⟨upd s bo ⟨ty,e,n,g⟩,by rw [B0 hne.symm];exact hb,R9 hne.symm,.inr ⟨h0,bo,g,h1,rfl,rfl,h3⟩⟩
theorem W0 {R:St→St→Prop} (hR:K7 R) (ty e:Nat) (fo:Nat→AV) (n:Nat) (sv:AV):K7 fun s t=>ROut R ty e fo n s sv t where
 sup:=fun h=>h.sup hR
 begin:=fun {s t b y} ⟨s0,hc,h⟩ hb=>⟨upd s0 b y,Col.under hc ((hR.sup h).none hb),hR.begin h hb⟩
 grow:=fun {s t b b' y y'} ⟨s0,hc,h⟩ h0 hb=>by
  obtain ⟨s1,h1,rfl,hc1⟩:=Col.split hc h0
  obtain ⟨g1,g2⟩:=hR.grow (y':=y') h h1 hb
  exact ⟨Col.off hc1 g1,_,Col.under hc1 g1,g2⟩
 write:=fun {s t b y y'} ⟨s0,hc,h⟩ hb=>⟨_,Col.write hc hb,hR.write h (hc.sup b y hb)⟩
 forget:=fun {s t b y} ⟨s0,hc,h⟩ h0=>by
  obtain ⟨s1,h1,rfl,hc1⟩:=Col.split hc h0
  exact ⟨s1,hc1,hR.forget h h1⟩
 drop:=fun {s t b y} ⟨s0,hc,h⟩ h0=>by
  obtain ⟨s1,h1,rfl,hc1⟩:=Col.split hc h0
  exact ⟨s1,hc1,hR.drop h h1⟩
structure PSt where
 us:List B3
 deals:List A2o
 groups:List C8
abbrev A1S (l:List A2o):Nat→AV:=fun k=>C0l (l.getD k default)
abbrev A7w (l:List C8):Nat→AV:=fun k=>eS (l.getD k default)
def IsP (items:List Ab.Item) (us:List B3) (dv gv:AV) (y:L7):Prop:=∃ f,y=⟨239,4,1,f⟩∧f 0=.agg [A8 4 F2 items,C4 us,dv,gv]
def RG (groups:List C8) (gv:AV):St→St→Prop:=fun s t=>ROut F8 9 1 (A7w groups) groups.length s gv t
def RD (deals:List A2o) (groups:List C8) (dv gv:AV):St→St→Prop:=fun s t=>ROut (RG groups gv) 221 2 (A1S deals) deals.length s dv t
def PxR (bx:Nat) (items:List Ab.Item) (p:PSt):St→St→Prop:=fun s t=>∃ v:AV×AV,Z9 bx (IsP items p.us v.1 v.2) (RD p.deals p.groups v.1 v.2) s t
theorem A8v (groups:List C8) (gv:AV):K7 (RG groups gv):=W0 Q1 _ _ _ _ _
theorem A3V (deals:List A2o) (groups:List C8) (dv gv:AV):K7 (RD deals groups dv gv):=W0 (A8v groups gv) _ _ _ _ _
theorem A5l (bx:Nat) (items:List Ab.Item) (p:PSt):K7 (PxR bx items p):=C3H fun _=>A0M (A3V _ _ _ _)
theorem PxR.at {bx:Nat} {items:List Ab.Item} {p:PSt} {s t:St} (h:PxR bx items p s t):∃ dv gv f,t bx=some ⟨239,4,1,f⟩∧f 0=.agg [A8 4 F2 items,C4 p.us,dv,gv]∧(dv=.emp∨∃ b,dv=.own 2 b 0 p.deals.length)∧(gv=.emp∨∃ b,gv=.own 1 b 0 p.groups.length):=by
 obtain ⟨⟨dv,gv⟩,h⟩:=h
 obtain ⟨y,⟨f,rfl,hf⟩,hy⟩:=Z9.at (A3V _ _ _ _) h
 obtain ⟨_,_,_,hd⟩:=h
 obtain ⟨s0,hc,hg⟩:=hd
 refine ⟨dv,gv,f,hy,hf,?_,?_⟩
 ·exact (show ROut (RG p.groups gv) _ _ _ _ _ dv t from ⟨s0,hc,hg⟩).head
 ·exact hg.head
def A2d (sc:Z4) (items:List Ab.Item) (u:B3):Bool:=u.opn&&B0N sc (items.getD u.line.toNat default)
def K0 (sc:Z4) (items:List Ab.Item) (us:List B3) (i:Nat):List Int:=((List.range i).filter fun k=>A2d sc items (gU us k)).map Int.ofNat
theorem B2a (sc:Z4) (items:List Ab.Item) (us:List B3) (i:Nat):K0 sc items us (i+1)=K0 sc items us i++(if A2d sc items (gU us i)=true then [(i:Int)] else []):=by
 unfold K0
 rw [D8G,D8Z,D7M]
 congr 1
 by_cases h:A2d sc items (gU us i)=true
 ·rw [if_pos h,D8f (p:=fun k=>A2d sc items (gU us k)) h];rfl
 ·rw [if_neg h,D8l (p:=fun k=>A2d sc items (gU us k)) h];rfl
theorem A3w (sc:Z4) (items:List Ab.Item) (us:List B3) (i:Nat):(K0 sc items us i).length≤i:=by
 unfold K0
 rw [D7i]
 exact D8r (D9D ..) (by simp)
theorem A2b (sc:Z4) (items:List Ab.Item) (us:List B3):O4 us (K0 sc items us us.length):=by
 have hmem:∀ k,k<(K0 sc items us us.length).length→∃ j:Nat,gI (K0 sc items us us.length) k=(j:Int)∧j<us.length∧A2d sc items (gU us j)=true:=fun k hk=>by
  have h:=A5 (l:=K0 sc items us us.length) hk
  obtain ⟨j,hj,he⟩:=D7y.1 h
  obtain ⟨h1,h2⟩:=D8d.1 hj
  exact ⟨j,he.symm,D7t.1 h1,h2⟩
 refine ⟨fun k hk=>?_,fun k hk=>?_,fun k hk=>?_⟩
 ·obtain ⟨j,e,h1,h2⟩:=hmem k hk
  rw [e];omega
 ·obtain ⟨j,e,h1,h2⟩:=hmem k hk
  rw [e]
  unfold A2d at h2
  rw [D7f] at h2
  exact h2.1
 ·have hs:(K0 sc items us us.length).Pairwise (·<·):=by
   unfold K0
   refine List.Pairwise.map _ (fun a b h=>?_) ((List.pairwise_lt_range (n:=us.length)).filter _)
   show (a:Int)<(b:Int)
   omega
  have:=D8I.1 hs k (k+1) (by omega) hk (by omega)
  simpa [gI,hk,show k<(K0 sc items us us.length).length by omega] using this
theorem C4w (bx:Nat) (items:List Ab.Item) (p:PSt) (sc:Z4) (h1:sc.skus.length≤20) (h2:sc.cats.length≤20) (hu:p.us.length≤100000) (hi:items.length≤100000) (hl:∀ u∈p.us,0≤u.line∧u.line.toNat<items.length) (s t:St) (h:PxR bx items p s t) :
  S P 269 [.optr 4 bx 0 0,A4h sc] t fun v t'=>v=A9 (K0 sc items p.us p.us.length)∧t'=t:=by
 refine S.post (post:=fun v t'=>∃ t1,F8 t t1∧Col 3 1 (fun k=>eI (gI (K0 sc items p.us p.us.length) k)) t1 (K0 sc items p.us p.us.length).length v t') ?_
  (fun v t' ⟨t1,hs,hc⟩=>⟨_,t,⟨rfl,rfl⟩,hc.shift.trans (hs.shift _)⟩)
 obtain ⟨dv,gv,fx,hx,hx0,hdv,hgv⟩:=h.at
 refine F7 [3,7,10] Tryz.func269 ?_
 refine L1 hx hx0 ?_
 refine ⟨[0,3,5,14,15,16],fun m vs t'=>∃ (i:Nat) (sv:AV),i≤items.length∧m=items.length - i∧vs=[.optr 4 bx 0 0,.fptr (A4h sc) 0,sv,A8 4 F2 items,eI items.length,eI i]∧Col 4 1 (fun k=>eB (B0N sc (items.getD k default))) t i sv t',?_,?_⟩
 ·conv=>whnf
  exact ⟨_,0,.emp,D7C _,rfl,rfl,Col.start _ _ _ _⟩
 ·rintro m vs t' ⟨i,sv,hi2,rfl,rfl,hcol⟩
  conv=>whnf
  cases hd:decide ((i:Int)<(items.length:Int))
  ·have:=D7g hd
   obtain rfl:i=items.length:=by omega
   have hx':=hcol.sup bx _ hx
   conv=>whnf
   refine L1 hx' hx0 ?_
   refine ⟨[5,8,30,31,32],fun m vs t2=>∃ (k:Nat) (sv2:AV),k≤p.us.length∧m=p.us.length - k∧vs=[sv,sv2,C4 p.us,eI p.us.length,eI k]∧Col 3 1 (fun j=>eI (gI (K0 sc items p.us k) j)) t' (K0 sc items p.us k).length sv2 t2,?_,?_⟩
   ·conv=>whnf
    exact ⟨_,0,.emp,D7C _,rfl,rfl,Col.start _ _ _ _⟩
   ·rintro m vs t2 ⟨k,sv2,hk,rfl,rfl,hcol2⟩
    have hpl:=A3w sc items p.us k
    conv=>whnf
    cases hd2:decide ((k:Int)<(p.us.length:Int))
    ·have:=D7g hd2
     obtain rfl:k=p.us.length:=by omega
     conv=>whnf
     exact ⟨t',hcol.sup,hcol2⟩
    ·have hk':k<p.us.length:=by have:=D7h hd2;omega
     have hlk:0≤(gU p.us k).line∧(gU p.us k).line.toNat<items.length:=hl _ (A5 (l:=p.us) hk')
     have es:=B2a sc items p.us k
     conv=>whnf
     refine E9 ?_
     have fin:∀ (sv3:AV) (t3:St),Col 3 1 (fun j=>eI (gI (K0 sc items p.us (k+1)) j)) t' (K0 sc items p.us (k+1)).length sv3 t3→∃ m',m'<p.us.length - k∧∃ (k_1:Nat) (sv2:AV),k_1≤p.us.length∧m'=p.us.length - k_1∧[sv,sv3,C4 p.us,eI p.us.length,eI (IntKind.i64.wrap ((k:Int)+1))]=[sv,sv2,C4 p.us,eI p.us.length,eI k_1]∧Col 3 1 (fun j=>eI (gI (K0 sc items p.us k_1) j)) t' (K0 sc items p.us k_1).length sv2 t3 :=
      fun sv3 t3 hc=>⟨p.us.length - (k+1),by omega,k+1,sv3,by omega,rfl,by rw [B4 (by omega)],hc⟩
     refine B7 (fun h3=>?_) (fun h3=>?_)<;>rw [h3]
     ·rcases hcol with ⟨h0,rfl,rfl⟩ | ⟨h0,b,g,hb,rfl,rfl,hg⟩
      ·exfalso;omega
      have hbt:=hcol2.sup b _ (A0 ..)
      have hgk:g (0+(gU p.us k).line.toNat)=eB (B0N sc (items.getD (gU p.us k).line.toNat default)):=by rw [D7o];exact hg _ hlk.2
      conv=>whnf
      refine ⟨rfl,⟨by show 0≤(gU p.us k).line;exact hlk.1,by show (gU p.us k).line<(items.length:Int);have:=hlk.2;have:=hlk.1;omega⟩,?_⟩;conv=>whnf
      refine ldV hbt rfl (by show 0+(gU p.us k).line.toNat<_;have:=hlk.2;omega) hgk ?_;conv=>whnf
      refine B7 (fun h4=>?_) (fun h4=>?_)<;>rw [h4]
      ·have ho:A2d sc items (gU p.us k)=true:=by
        unfold A2d;rw [show (gU p.us k).opn=true from h3,h4];rfl
       rw [if_pos ho] at es
       have el:(K0 sc items p.us (k+1)).length=(K0 sc items p.us k).length+1:=by rw [es];simp
       conv=>whnf
       refine Col.app (q:=r3) rfl rfl rfl rfl rfl (f:=fun j=>eI (gI (K0 sc items p.us (k+1)) j)) (by simp only [es,A8C];rfl) (by show ((K0 sc items p.us k).length+1) * 8≤140737488355328;omega) (hcol2.congr fun j hj=>by rw [es,O1 hj]) (fun sv3 t3 hc3=>?_);conv=>whnf
       refine G3 ?_
       exact fin sv3 t3 (by rw [el];exact hc3)
      ·have ho:¬ A2d sc items (gU p.us k)=true:=by
        unfold A2d;rw [h4];simp
       rw [if_neg ho,D8X] at es;conv=>whnf
       refine G3 ?_
       exact fin sv2 t2 (by rw [es];exact hcol2)
     ·have ho:¬ A2d sc items (gU p.us k)=true:=by
       unfold A2d;rw [show (gU p.us k).opn=false from h3];simp
      rw [if_neg ho,D8X] at es;conv=>whnf
      refine G3 ?_
      exact fin sv2 t2 (by rw [es];exact hcol2)
  ·have hi':i<items.length:=by have:=D7h hd;omega
   conv=>whnf
   refine E9 ?_
   refine I3 (D0g sc (items.getD i default) h1 h2 _) ?_
   refine Col.app (q:=r4) rfl rfl rfl rfl rfl rfl (by show (i+1) * 1≤140737488355328;omega) hcol (fun sv' t2 hcol'=>?_);conv=>whnf
   refine G3 ?_
   exact ⟨items.length - (i+1),by omega,i+1,sv',by omega,rfl,by rw [B4 (by omega)],hcol'⟩
end Go.Proofs.YtaapofnkmpiknaaGreat
namespace Go.Proofs.YtaapofnkmpiknaaGreat
open Go Go.Ab Go.Proofs Go.Sort Go.Lib
attribute [local irreducible] upd del
def scF (x:Nat):Nat:=match x with
 | 43=>274
 | n=>n
def scT (x:Nat):Nat:=match x with
 | 22=>29
 | 23=>3
 | 0=>0
 | 3=>3
 | 4=>4
 | n=>n
def D2l:Go.Shelf.Ren:={ f:=scF,t:=scT,g:=fun n=>n }
theorem C8C:SlLaysE.n43 Tryz.prog D2l where
 mixed:=by kernel_rfl
 f43 := ⟨"slices.Compact[[]int,int]", by decide, Tryz.func274.trans (D9e some (by kernel_rfl))⟩
 t0:=Tryz.underlying0
 a0:=Tryz.isAgg0
 z0:=Tryz.sizeOf0
 v0:=Tryz.zeroValue0
 t3:=Tryz.underlying3
 a3:=Tryz.isAgg3
 z3:=Tryz.sizeOf3
 v3:=Tryz.zeroValue3
 t4:=Tryz.underlying4
 a4:=Tryz.isAgg4
 z4:=Tryz.sizeOf4
 v4:=Tryz.zeroValue4
 t22:=Tryz.underlying29
 a22:=Tryz.isAgg29
 z22:=Tryz.sizeOf29
 v22:=Tryz.zeroValue29
 a23:=Tryz.isAgg3
 z23:=Tryz.sizeOf3
def Z5 (l:List Int):List Int:=compactUpTo l.toArray l.length
def A8x (l:List Int):List Int:=Z5 l++List.replicate (l.length - (Z5 l).length) 0
theorem A9x (l:List Int):(Z5 l).length≤l.length:=by
 unfold Z5 compactUpTo
 rw [D7i]
 exact D8r (D9D ..) (by simp)
theorem B3U (l:List Int):(A8x l).length=l.length:=by
 have:=A9x l
 unfold A8x;rw [D7p,D8i];omega
def A6D (l':List Int):L7:=⟨3,1,l'.length,fun k=>eI (gI l' k)⟩
theorem C7N {st:St} {w:World} {b n:Nat} {l l':List Int} (hl:l'.length=l.length) (hb:A5Y st b l) (hS:H9 st w) :
  Evo st w (upd st b (A6D l')) (putRow (Value.int .i64) (Sort.ahead w n) b 0 l'.toArray)∧H9 (upd st b (A6D l')) (putRow (Value.int .i64) (Sort.ahead w n) b 0 l'.toArray):=by
 obtain ⟨f,hst,hf⟩:=hb
 obtain ⟨cs,hok⟩:=hS b _ hst
 have hbl:b<w.heap.size:=(D8b.1 hok.heap).1
 have hsz:l.length * 1≤cs.size:=hok.size
 have hheap:∀ c,c<w.heap.size→(putRow (Value.int .i64) (Sort.ahead w n) b 0 l'.toArray).heap[c]?=if b=c then some (.cells (putCells (Value.int .i64) 0 l'.toArray cs) 3 (0,0)) else w.heap[c]?:=fun c hc=>by
  show (w.heap.modify b (onCells (putCells (Value.int .i64) 0 l'.toArray)))[c]?=_
  rw [D9V]
  split
  ·rename_i e;subst e;rw [hok.heap];rfl
  ·rfl
 have hev:Evo st w (upd st b (A6D l')) (putRow (Value.int .i64) (Sort.ahead w n) b 0 l'.toArray):=by
  refine ⟨rfl,rfl,rfl,?_,fun c hc hs=>?_,fun c=>?_⟩
  ·show w.heap.size≤(w.heap.modify b _).size
   simp
  ·have hne:b≠c:=fun e=>by subst e;rw [hst] at hs;cases hs
   rw [hheap c hc,if_neg hne]
   exact ⟨rfl,by rw [B0 hne.symm];exact hs⟩
  ·by_cases hc:c<w.heap.size
   ·unfold A1F
    rw [hheap c hc]
    by_cases e:b=c
    ·subst e
     rw [hok.heap,if_pos rfl]
     simp [putCells]
    ·rw [if_neg e];exact D7l _
   ·unfold A1F
    rw [D9x (by omega)]
    exact D7C _
 refine ⟨hev,fun c x hx=>?_⟩
 by_cases e:c=b
 ·subst e
  rw [A0] at hx
  cases hx
  refine ⟨putCells (Value.int .i64) 0 l'.toArray cs,?_,?_,fun i hi=>rfl,fun i hi=>rfl,fun i j y hi hy=>?_⟩
  ·rw [hheap c hbl,if_pos rfl];rfl
  ·show l'.length * 1≤_
   rw [hl]
   simpa [putCells] using hsz
  ·have hi':i<l'.length:=hi
   cases j with
   | succ j=>simp [A6D,cellsOf] at hy
   | zero =>
    have hy':y=eI (gI l' i):=by simpa [A6D,cellsOf] using hy.symm
    subst hy'
    refine ⟨.int .i64 (gI l' i),?_,.int _ _⟩
    show (putCells (Value.int .i64) 0 l'.toArray cs)[i * 1+0]?=_
    unfold putCells
    rw [Array.getElem?_mapIdx,Nat.mul_one,D9v,D7x (by omega),D9j]
    rw [if_pos ⟨by omega,by simp;omega⟩,Nat.sub_zero]
    have:l'.toArray[i]! = gI l' i:=by
     rw [getElem!_pos _ i (by simp;omega)]
     simp [gI,hi']
    rw [this]
 ·rw [B0 e] at hx
  obtain ⟨ds,hd⟩:=hS c x hx
  have hcl:c<w.heap.size:=(D8b.1 hd.heap).1
  exact ⟨ds,hd.evo hev (by rw [hheap c hcl,if_neg (fun e'=>e e'.symm)])⟩
theorem C9v:OneCell (Value.int .i64):=fun x=>rfl
theorem C1u (b:Nat) (l:List Int) (hl:l.length≤4611686018427387904) (st:St) (hb:A5Y st b l) :
  S P 274 [.own 1 b 0 l.length] st fun v st'=>v=.own 1 b 0 (Z5 l).length∧st'=upd st b (A6D (A8x l)):=by
 refine ⟨C8C.f43.enters rfl,fun cargs w hr hS=>?_⟩
 obtain ⟨hlen,hr⟩:=hr
 have hb':=hb
 obtain ⟨f,hst,hf⟩:=hb'
 obtain ⟨cs,hok⟩:=hS b _ hst
 have h0:0<cargs.size:=by rw [←hlen];exact Nat.one_pos
 have ha:=hr 0 _ cargs[0] rfl (D7x h0)
 have hc:∃ c,l.length≤c∧c≤A1F w b∧cargs=#[.slice (some ⟨b,0,none⟩) l.length c]:=by
  generalize hv:cargs[0]=v at ha
  cases ha with
  | own e b off n c hc hs =>
   refine ⟨c,hc,by simpa using hs,Array.ext (by rw [←hlen];rfl) fun i h1 h2=>?_⟩
   have:i=0:=by simp at h2;exact h2
   subst this;rw [hv];rfl
 obtain ⟨c,hlc,hcs,rfl⟩:=hc
 have hH:Holds (Value.int .i64) w b 0 l.toArray:=fun j hj=>by
  have hj':j<l.length:=by simpa using hj
  obtain ⟨x,hx,hrep⟩:=hok.cell j 0 (eI (gI l j)) hj' (by show (cellsOf (f j))[0]?=_;rw [hf j hj'];rfl)
  have hxx:x=.int .i64 (gI l j):=by cases hrep;rfl
  subst hxx
  have hg:l.toArray[j]! = gI l j:=by rw [getElem!_pos _ j (by simpa using hj')];simp [gI,hj']
  refine ⟨?_,?_⟩
  ·unfold World.cell?
   rw [hok.heap,hg]
   have:cs[j * 1+0]?=some (.int .i64 (gI l j)):=hx
   simpa using this
  ·unfold World.frozen?
   rw [hok.heap]
   simp
 have hcl:=A9x l
 have hK:=AnyE.slices_Compact C8C (Value.int .i64) C9v (EqlAt.intD P _ .i64) (NeqAt.intD P _ .i64) 0 Tryz.zeroValue3 b 0 c l.toArray w hH (by simp;omega) (by simpa using hlc)
 rw [show l.toArray.size=l.length from by simp] at hK
 refine hK.mono ?_
 rintro e w' ⟨rfl,n,rfl⟩
 obtain ⟨h1,h2⟩:=C7N (n:=n) (B3U l) hb hS
 refine ⟨.own 1 b 0 (Z5 l).length,_,_,⟨rfl,rfl⟩,rfl,?_,h2,h1⟩
 have hr2:K8 w st (.own 1 b 0 (Z5 l).length) (.slice (some ⟨b,0 * 1,none⟩) (Z5 l).length c):=.own 1 b 0 _ c (D8r hcl hlc) (by simpa using hcs)
 exact h1.rep hr2
theorem B8u (st:St):S P 274 [.emp] st fun v st'=>v=.emp∧st'=st:=by
 refine F7 [] Tryz.func274 ?_
 exact ⟨rfl,rfl⟩
theorem C6P {l:List Int} {k:Nat} (h:k<(Z5 l).length):gI (A8x l) k=gI (Z5 l) k:=by
 unfold A8x;exact O1 h
end Go.Proofs.YtaapofnkmpiknaaGreat
namespace Go.Proofs.YtaapofnkmpiknaaGreat
open Go Go.Ab
attribute [local irreducible] upd del
def A2p (us:List B3) (l:List Int):Int:=A2 (l.map fun i=>(gU us i.toNat).net)
theorem B4j {us:List B3} (hu:E5 us) {l:List Int} (hl:∀ k,k<l.length→0≤gI l k∧(gI l k).toNat<us.length) (hn:l.length≤800000) {i:Nat} (hi:i<l.length) :
  IntKind.i64.wrap (A2p us (l.take i)+(gU us (gI l i).toNat).net)=A2p us (l.take (i+1)):=by
 have hc:=A1J hu (l.take i) (fun x hx=>by obtain ⟨k,hk,rfl⟩:=D2 (D8e _ _ hx);exact hl k hk)
 have h3:0≤(gU us (gI l i).toNat).net:=hu.pos _ (A5 (hl i hi).2)
 have h4:(gU us (gI l i).toNat).net≤10000000000000:=hu.le (A5 (hl i hi).2)
 have e:A2p us (l.take (i+1))=A2p us (l.take i)+(gU us (gI l i).toNat).net:=by
  unfold A2p;rw [L6 hi,D7M,G2];simp [A2]
 have hcl:(l.take i).length≤800000:=by rw [D7n];omega
 have e2:I4 us (l.take i)=A2p us (l.take i):=rfl
 rw [e]
 exact A4 (by omega) (by omega)
theorem D1c (bx:Nat) (items:List Ab.Item) (p:PSt) (hu:E5 p.us) (l:List Int) (hn:l.length≤800000) (hl:∀ k,k<l.length→0≤gI l k∧(gI l k).toNat<p.us.length) (s t:St) (h:PxR bx items p s t) :
  S P 270 [.optr 4 bx 0 0,A9 l] t fun v t'=>v=eI (A2p p.us l)∧t'=t:=by
 obtain ⟨dv,gv,fx,hx,hx0,hdv,hgv⟩:=h.at
 refine F7 [] Tryz.func270 ?_
 refine ⟨[0,5,8,9,10],fun m vs t'=>∃ i:Nat,i≤l.length∧m=l.length - i∧vs=[.optr 4 bx 0 0,eI (A2p p.us (l.take i)),A9 l,eI l.length,eI i]∧t'=t,?_,?_⟩
 ·conv=>whnf
  exact ⟨_,0,D7C _,rfl,rfl,rfl⟩
 ·rintro m vs t' ⟨i,hi,rfl,rfl,rfl⟩
  conv=>whnf
  cases h2:decide ((i:Int)<(l.length:Int))
  ·have:=D7g h2
   obtain rfl:i=l.length:=by omega
   rw [D7m];conv=>whnf
   exact ⟨rfl,rfl⟩
  ·have hi':i<l.length:=by have:=D7h h2;omega
   have hr:=hl i hi'
   conv=>whnf
   refine E9 ?_
   refine L1 hx hx0 ?_
   refine ⟨rfl,⟨by show 0≤gI l i;exact hr.1,by show gI l i<(p.us.length:Int);have:=hr.2;have:=hr.1;omega⟩,?_⟩;conv=>whnf
   refine G3 ?_
   exact ⟨l.length - (i+1),by omega,i+1,by omega,rfl,by rw [B4 (by omega),←B4j hu hl hn hi'];rfl,rfl⟩
theorem C9r (bx:Nat) (items:List Ab.Item) (p:PSt) (hu:E5 p.us) (l:List Int) (hn:l.length≤800000) (hl:∀ k,k<l.length→0≤gI l k∧(gI l k).toNat<p.us.length) (s t:St) (h:PxR bx items p s t)
  (b:Nat) (m0:Nat) (f:Nat→AV) (hm0:l.length≤m0) (hb:t b=some ⟨3,1,m0,f⟩) (hf:∀ k,k<l.length→f k=eI (gI l k)) :
  S P 270 [.optr 4 bx 0 0,.own 1 b 0 l.length] t fun v t'=>v=eI (A2p p.us l)∧t'=t:=by
 obtain ⟨dv,gv,fx,hx,hx0,hdv,hgv⟩:=h.at
 refine F7 [] Tryz.func270 ?_
 refine ⟨[0,5,8,9,10],fun m vs t'=>∃ i:Nat,i≤l.length∧m=l.length - i∧vs=[.optr 4 bx 0 0,eI (A2p p.us (l.take i)),.own 1 b 0 l.length,eI l.length,eI i]∧t'=t,?_,?_⟩
 ·conv=>whnf
  exact ⟨_,0,D7C _,rfl,rfl,rfl⟩
 ·rintro m vs t' ⟨i,hi,rfl,rfl,rfl⟩
  conv=>whnf
  cases h2:decide ((i:Int)<(l.length:Int))
  ·have:=D7g h2
   obtain rfl:i=l.length:=by omega
   rw [D7m];conv=>whnf
   exact ⟨rfl,rfl⟩
  ·have hi':i<l.length:=by have:=D7h h2;omega
   have hr:=hl i hi'
   conv=>whnf
   refine E9 ?_
   refine ldV hb rfl (by omega) (v:=eI (gI l i)) (by rw [show 0+(i:Int).toNat=i by omega];exact hf i hi') ?_;conv=>whnf
   refine L1 hx hx0 ?_
   refine ⟨rfl,⟨by show 0≤gI l i;exact hr.1,by show gI l i<(p.us.length:Int);have:=hr.2;have:=hr.1;omega⟩,?_⟩;conv=>whnf
   refine G3 ?_
   exact ⟨l.length - (i+1),by omega,i+1,by omega,rfl,by rw [B4 (by omega),←B4j hu hl hn hi'],rfl⟩
def A2c (p:PSt) (pr:B1) (off:Int):PSt:=⟨p.us,p.deals++[⟨pr.id,off⟩],p.groups++(if N7 pr.group=true then [] else [pr.group])⟩
theorem A4D {α : Type} [Inhabited α] {a b:List α} {k:Nat} (h:k<a.length):(a++b).getD k default=a.getD k default:=by
 rw [D7c,D7c,D7B h]
theorem A8D {α : Type} [Inhabited α] (a:List α) (x : α):(a++[x]).getD a.length default=x:=by
 simp [D7c]
theorem RD.at {bx:Nat} {dl:List A2o} {gr:List C8} {dv gv:AV} {s t:St} {f:Nat→AV} (h:RD dl gr dv gv (upd s bx ⟨239,4,1,f⟩) t):t bx=some ⟨239,4,1,f⟩:=(A3V _ _ _ _).sup h bx _ (A0 ..)
theorem RD.put {bx:Nat} {dl:List A2o} {gr:List C8} {dv gv:AV} {s t:St} {f f':Nat→AV} (h:RD dl gr dv gv (upd s bx ⟨239,4,1,f⟩) t):RD dl gr dv gv (upd s bx ⟨239,4,1,f'⟩) (upd t bx ⟨239,4,1,f'⟩):=by
 have:=(A3V dl gr dv gv).write (y':=⟨239,4,1,f'⟩) h (A0 ..)
 rw [C5] at this;exact this
theorem RD.of {dl:List A2o} {gr:List C8} {dv gv:AV} {s t:St} {d:A2o} (h:ROut (RG gr gv) 221 2 (A1S (dl++[d])) (dl.length+1) s dv t):RD (dl++[d]) gr dv gv s t:=by
 unfold RD;rw [D7p];exact h
theorem RD.grp {K:KK} {X:Prop} {dl:List A2o} {gr:List C8} {dv gv:AV} {s t:St} (h:RD dl gr dv gv s t) (g:C8)
  (happ:∀ {s1:St},ROut F8 9 1 (A7w (gr++[g])) gr.length s1 gv t→(∀ gv' t',ROut F8 9 1 (A7w (gr++[g])) (gr.length+1) s1 gv' t'→K gv' t')→X)
  (hk:∀ gv' t',RD dl (gr++[g]) dv gv' s t'→(gv'=.emp∨∃ b,gv'=.own 1 b 0 (gr++[g]).length)→K gv' t'):X:=by
 obtain ⟨s1,hc,hg⟩:=h
 refine happ (s1:=s1) (hg.congr fun k hk=>by simp only [A7w];rw [A4D hk]) (fun gv' t' hg'=>?_)
 have hg2:RG (gr++[g]) gv' s1 t':=by unfold RG;rw [D7p];exact hg'
 exact hk gv' t' ⟨s1,hc,hg2⟩ (ROut.head hg2)
theorem PxR.mk' {bx:Nat} {items:List Ab.Item} {p:PSt} {dv gv:AV} {s t:St} {f:Nat→AV} (hbx:s bx=none) (hf:f 0=.agg [A8 4 F2 items,C4 p.us,dv,gv]) (h:RD p.deals p.groups dv gv (upd s bx ⟨239,4,1,f⟩) t):PxR bx items p s t :=
 ⟨(dv,gv),hbx,_,⟨f,rfl,hf⟩,h⟩
theorem PxR.fin {bx:Nat} {items:List Ab.Item} {us:List B3} {dl:List A2o} {gr:List C8} {dv gv:AV} {s t:St} {f:Nat→AV} (hbx:s bx=none) (h:RD dl gr dv gv (upd s bx ⟨239,4,1,f⟩) t) (f':Nat→AV) (hf:f' 0=.agg [A8 4 F2 items,C4 us,dv,gv]) :
  PxR bx items ⟨us,dl,gr⟩ s (upd t bx ⟨239,4,1,f'⟩):=PxR.mk' hbx hf (RD.put h)
theorem B8Z (bx:Nat) (items:List Ab.Item) (p:PSt) (pr:B1) (off:Int) (hd:p.deals.length≤1000) (hg:p.groups.length≤1000) (s t:St) (h:PxR bx items p s t) :
  S P 234 [.optr 4 bx 0 0,B8 pr,eI off] t fun v t'=>v=.tuple []∧PxR bx items (A2c p pr off) s t':=by
 obtain ⟨⟨dv,gv⟩,hbx,y,⟨f,rfl,hf⟩,hRD⟩:=h
 simp only at hf hRD
 refine F7 [4] Tryz.func234 ?_
 refine ⟨[10,13],[],[0,1,2,3,4,5,6,7,8,9,10,11,12,13],by kernel_rfl,?_⟩
 have hdv:dv=.emp∨∃ b,dv=.own 2 b 0 p.deals.length:=ROut.head hRD
 have hgv:gv=.emp∨∃ b,gv=.own 1 b 0 p.groups.length:=by obtain ⟨s0,hc,hgg⟩:=hRD;exact ROut.head hgg
 rcases hdv with rfl | ⟨bd,rfl⟩<;>rcases hgv with rfl | ⟨bg,rfl⟩
 all_goals
  conv=>whnf
  refine L1 hRD.at hf ?_
  refine ⟨_,⟨rfl,rfl⟩,?_⟩;conv=>whnf
  refine ROut.app (q:=C7A) (A8v _ _) rfl rfl rfl rfl rfl (f:=A1S (p.deals++[⟨pr.id,off⟩])) (by simp only [A1S,A8D];rfl) (by show (p.deals.length+1) * 24≤140737488355328;omega) (hRD.congr fun k hk=>by simp only [A1S];rw [A4D hk]) (fun dv' t2 hRD2=>?_)
  have hRD2':=RD.of hRD2
  rcases ROut.head hRD2' with rfl | ⟨bd',rfl⟩
  all_goals
   conv=>whnf
   refine stW hRD2'.at hf ?_
   have hnil:(ByteArray.toList pr.group==ByteArray.toList ⟨#[]⟩)=N7 pr.group:=rfl
   rw [hnil]
   cases hgr:N7 pr.group
   ·conv=>whnf
    refine ⟨[8,11],[],[0,1,2,3,4,5,6,7,8,9,10,11],by kernel_rfl,?_⟩;conv=>whnf
    refine L1 (RD.put hRD2').at (by rw [A6]) ?_
    refine ⟨_,⟨rfl,rfl⟩,?_⟩;conv=>whnf
    refine RD.grp (RD.put hRD2') pr.group (fun happ=>ROut.app (q:=r9) Q1 rfl rfl rfl rfl rfl (by simp only [A7w,A8D];rfl) (by show (p.groups.length+1) * 16≤140737488355328;omega) happ) (fun gv' t4 hRD4 hh=>?_)
    rcases hh with rfl | ⟨bg',rfl⟩
    all_goals
     conv=>whnf
     refine stW hRD4.at (by rw [A6]) ?_
     refine ⟨rfl,?_⟩
     unfold A2c
     rw [hgr]
     exact PxR.fin hbx hRD4 _ (by rw [A6];rfl)
   ·conv=>whnf
    refine ⟨rfl,?_⟩
    unfold A2c
    rw [hgr]
    simp only [if_true,D8X]
    exact PxR.fin hbx hRD2' _ (by rw [A6];rfl)
end Go.Proofs.YtaapofnkmpiknaaGreat
namespace Go.Proofs.YtaapofnkmpiknaaGreat
open Go Go.Ab
theorem D3 {lo hi x:Int}:J8 lo hi x=true↔lo≤x∧x≤hi:=by
 unfold J8;simp only [D7f,D7d,ge_iff_le]
theorem A4y {α : Type} [Inhabited α] {l:List α} {p:Nat→α→Bool}:M0 l p=true↔∀ k,k<l.length→p k (l.getD k default)=true:=by
 unfold M0
 rw [D7s]
 exact ⟨fun h k hk=>h k (D7t.2 hk),fun h k hk=>h k (D7t.1 hk)⟩
structure C6s (p:B1):Prop where
 kind:1≤p.kind∧p.kind<8
 skus:p.scope.skus.length≤20
 cats:p.scope.cats.length≤20
 least:0≤p.least∧p.least≤10000000000000
 buy:p.kind=3→B1o p
 bun:p.kind=4→A4t p∧∀ x∈p.parts,x.scope.skus.length≤20∧x.scope.cats.length≤20
 ask:R5 p→p.kind=1∨p.kind=2∨p.kind=5∨p.kind=6→A5X p
 ship:p.kind=7→1≤p.rate∧p.rate≤10000
theorem C2X {l:List A1g} (h:A0r l=true):A8p l:=by
 unfold A0r at h
 simp only [D7f,D7v,D8n,D7e] at h
 refine ⟨by omega,fun t ht=>?_⟩
 obtain ⟨k,hk,rfl⟩:=D2 ht
 have h2:=A4y.1 h.2 k hk
 unfold A4q at h2
 simp only [D7v,D8n,D7e] at h2
 omega
theorem A4b {p:B1} (h:I0 p=true):C6s p:=by
 have h0:=h
 unfold I0 at h
 simp only [D7f,D7d] at h
 obtain ⟨⟨⟨⟨hk1,hk2⟩,hh⟩,hp⟩,hkd⟩:=h
 have hl:=B4l hh
 simp only [A7x,D7f,D3] at hh
 unfold A7y at hkd
 refine ⟨⟨hk1,hk2⟩,hl.1,hl.2,hh.2,fun e=>?_,fun e=>?_,fun hf e=>?_,fun e=>?_⟩
 ·rw [e] at hkd
  simp [A8O,A8P,D3] at hkd
  exact ⟨hkd.2.1,hkd.2.2,⟨by omega,hkd.1.2⟩⟩
 ·rw [e] at hkd
  simp only [show ¬(4:Int)=1 by decide,show ¬(4:Int)=2 by decide,show ¬(4:Int)=3 by decide,D9L,if_true] at hkd
  unfold A7f at hkd
  simp only [D7f,D7v,D8n,D7e,D8q] at hkd
  obtain ⟨⟨⟨⟨a1,a2⟩,a3⟩,a4⟩,a5⟩:=hkd
  have hpt:∀ x∈p.parts,A1m x=true:=fun x hx=>by simpa using a5 x hx
  refine ⟨⟨by omega,by omega,fun x hx=>?_,by omega,by omega⟩,fun x hx=>?_⟩
  ·have:=hpt x hx
   unfold A1m at this
   simp only [D7f,D7v,D8n,D7e] at this
   omega
  ·have:=hpt x hx
   unfold A1m at this
   simp only [D7f] at this
   exact B2N this.1
 ·refine ⟨hf,h0,e,fun e2=>?_,fun e2=>?_⟩
  ·rcases e2 with e2 | e2<;>rw [e2] at hkd<;>simp at hkd<;>exact C2X hkd
  ·rw [e2] at hkd
   simp [A8N,D3] at hkd
   omega
 ·rw [e] at hkd
  simp [A8P,D3] at hkd
  exact hkd
theorem C0E {p:B1} (hp:A5X p) {nets:List Int} (h0:∀ x∈nets,0≤x) (hs:A2 nets≤10000000000000) (hl:nets.length≤100000):∀ k,k<(P6 p nets).length→gI (P6 p nets) k≤gI nets k:=fun k hk=>by
 have hn:=C1 h0
 have hlen:=(A5w hp h0 hs hl).2.1
 have hx:0≤gI nets k:=h0 _ (A5 (by omega))
 have hkn:k<nets.length:=by omega
 unfold P6 at hk ⊢
 have hmap:∀ (r a:Int),0≤a→gI (nets.map fun x=>R1 x r a) k≤gI nets k:=fun r a ha=>by
  rw [show gI (nets.map fun x=>R1 x r a) k=R1 (gI nets k) r a from D4 (fun x=>R1 x r a) nets hkn]
  exact (A0E hx ha).2
 rcases hp.kind with e | e | e | e
 ·rw [if_pos e] at hk ⊢;exact hmap _ _ (D7L _)
 ·rw [if_neg (by omega),if_pos e] at hk ⊢;exact hmap _ _ (hp.amount e).1
 ·rw [if_neg (by omega),if_neg (by omega),if_pos e] at hk ⊢
  have hok:=A0G (hp.tiers (.inl e)) (A2 nets)
  unfold A5O at hk ⊢
  split at hk
  ·simp at hk
  ·rename_i t hr
   rw [hr] at hok
   have hob:0≤R1 (A2 nets) t.rate t.amount∧R1 (A2 nets) t.rate t.amount≤A2 nets:=A0E hn hok.1
   have hW:S3 (R1 (A2 nets) t.rate t.amount) nets:=⟨hob.1,by omega,hl,h0,by omega,fun e=>by omega⟩
   have hll:=(U3 hW).2.1
   exact A3F hW hob.2 (by omega)
 ·rw [if_neg (by omega),if_neg (by omega),if_neg (by omega)] at hk ⊢
  have hok:=A0G (hp.tiers (.inr e)) nets.length
  unfold A5N at hk ⊢
  split at hk
  ·simp at hk
  ·rename_i t hr
   rw [hr] at hok
   exact hmap _ _ hok.1
theorem A8L (us:List B3) (mine:List Int):E7 us mine=J2 us mine:=rfl
theorem B8n {p:B1} (hp:A5X p) {us:List B3} (hu:E5 us) {mine:List Int} (hm:O4 us mine):Off us (A0p p us mine).1 (A0p p us mine).2:=by
 have hnl:(E7 us mine).length=mine.length:=D7i ..
 have hml:=hm.len
 have hul:=hu.len
 have hn0:∀ x∈E7 us mine,0≤x:=fun x hx=>by
  obtain ⟨i,hi,rfl⟩:=D7y.1 hx
  exact hu.at0 _
 have hwl:=B3e hu hm.places
 have hus:=hu.sum
 have hns:A2 (E7 us mine)≤10000000000000:=by rw [A8L];omega
 obtain ⟨ob1,ob2,ob3⟩:=A5w hp hn0 hns (by omega)
 have hle:=C0E hp hn0 hns (by omega)
 have h1:=A2O hu hm.places (offs:=P6 p (E7 us mine)) (by omega) (fun k hk=>⟨ob3 _ (A5 hk),by
  have:=hle k hk
  rw [show gI (E7 us mine) k=(gU us (gI mine k).toNat).net from D4 (fun i:Int=>(gU us i.toNat).net) mine (by omega)] at this
  exact this⟩) (P6 p (E7 us mine)).length (D7l _)
 rw [D7m] at h1
 unfold A0p
 simp only
 split
 ·have h2:=Off.closeB (h1.ok hu) mine (fun x hx=>by
   obtain ⟨k,hk,rfl⟩:=D2 hx
   rw [h1.len];exact (hm.rng k hk).2)
  have h3:=h1.trans h2
  rw [D9s] at h3;exact h3
 ·exact h1
end Go.Proofs.YtaapofnkmpiknaaGreat
