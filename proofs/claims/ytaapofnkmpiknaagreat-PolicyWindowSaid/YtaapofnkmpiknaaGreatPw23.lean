/- Part 23 of the proof: contracts of the functions that the law reaches -/
import Derived.Test.YtaapofnkmpiknaaGreatPw22
import Derived.Shelf.SlicesE.Compact
set_option maxRecDepth 100000
set_option linter.unusedVariables false
set_option linter.unusedSimpArgs false
namespace Go.Proofs.YtaapofnkmpiknaaGreat
open Go Go.Ab
attribute [local irreducible] upd del
structure MkD where
 p:A8
 us:List A9
 bm:Nat
 bu:Nat
 br:Nat
 n:Nat
 q:Nat→Nat
def IsM (d:MkD) (len:Nat) (y:H1):Prop:=∃ f,y=⟨363,18,1,f⟩∧f 0=.agg (V3 d.p++[C5 d.us,.own 1 d.bu 0 len,.own 1 d.br 0 d.n])
def B6o (used:List Bool) (y:H1):Prop:=∃ g,y=⟨4,1,used.length,g⟩∧∀ k,k<used.length→g k=eB (used.getD k default)
def A9j (d:MkD) (y:H1):Prop:=∃ g,y=⟨278,1,d.n,g⟩∧∀ k,k<d.n→g k=.optr 1 (d.q k) 0 0
def MkR (d:MkD) (used:List Bool) (es:Nat→List QE):St→St→Prop:=R8 d.bm (IsM d used.length) (R8 d.bu (B6o used) (R8 d.br (A9j d) (Qs d.n d.q es)))
theorem B3v (d:MkD) (used:List Bool) (es:Nat→List QE):G4 (MkR d used es):=Z8 (Z8 (Z8 (A0r _ _ _)))
theorem MkR.facts {d:MkD} {used:List Bool} {es:Nat→List QE} {s t:St} (h:MkR d used es s t) :
  (∃ f,t d.bm=some ⟨363,18,1,f⟩∧f 0=.agg (V3 d.p++[C5 d.us,.own 1 d.bu 0 used.length,.own 1 d.br 0 d.n])) ∧
  (∃ g,t d.bu=some ⟨4,1,used.length,g⟩∧∀ k,k<used.length→g k=eB (used.getD k default)) ∧
  (∃ g,t d.br=some ⟨278,1,d.n,g⟩∧∀ k,k<d.n→g k=.optr 1 (d.q k) 0 0):=by
 have b1:=A0r d.n d.q es
 have b2:G4 (R8 d.br (A9j d) (Qs d.n d.q es)):=Z8 b1
 have b3:G4 (R8 d.bu (B6o used) (R8 d.br (A9j d) (Qs d.n d.q es))):=Z8 b2
 obtain ⟨y1,⟨f,rfl,hf⟩,h1⟩:=R8.at b3 h
 obtain ⟨_,_,_,h⟩:=h
 obtain ⟨y2,⟨g,rfl,hg⟩,h2⟩:=R8.at b2 h
 obtain ⟨_,_,_,h⟩:=h
 obtain ⟨y3,⟨k,rfl,hk⟩,h3⟩:=R8.at b1 h
 exact ⟨⟨f,h1,hf⟩,⟨g,h2,hg⟩,⟨k,h3,hk⟩⟩
theorem MkR.pop_S {d:MkD} {used:List Bool} {es:Nat→List QE} {s t:St} (h:MkR d used es s t) {k:Nat} (hk:k<d.n) {x:QE} {rest:List QE} (he:es k=x::rest) (htop:∀ y∈rest,D0 y x=false) :
  S P 230 [.optr 1 (d.q k) 0 0] t fun v t'=>v=.tuple [eI x.1,eI x.2,.bool true]∧MkR d used (Q7 es k rest) s t':=by
 obtain ⟨h1,y1,e1,h2,y2,e2,h3,y3,e3,hq⟩:=h
 exact (hq.pop_S hk he htop).mono fun v t' hv=>⟨hv.1,h1,y1,e1,h2,y2,e2,h3,y3,e3,hv.2⟩
theorem MkR.pop0_S {d:MkD} {used:List Bool} {es:Nat→List QE} {s t:St} (h:MkR d used es s t) {k:Nat} (hk:k<d.n) (he:es k=[]) :
  S P 230 [.optr 1 (d.q k) 0 0] t fun v t'=>v=.tuple [eI 0,eI 0,.bool false]∧t'=t:=by
 obtain ⟨h1,y1,e1,h2,y2,e2,h3,y3,e3,hq⟩:=h
 exact hq.pop0_S hk he
theorem MkR.use {d:MkD} {used:List Bool} {es:Nat→List QE} {s t:St} (h:MkR d used es s t) {i:Nat} (hi:i<used.length) {g:Nat→AV} (hb:t d.bu=some ⟨4,1,used.length,g⟩) (hg:∀ k,k<used.length→g k=eB (used.getD k default)) :
  MkR d (used.set i true) es s (upd t d.bu ⟨4,1,used.length,G8 g i (eB true)⟩):=by
 have b1:=A0r d.n d.q es
 have b2:G4 (R8 d.br (A9j d) (Qs d.n d.q es)):=Z8 b1
 unfold MkR at h ⊢
 rw [D0p]
 refine h.map fun s h=>R8.set b2 h ⟨G8 g i (eB true),by rw [D0p],fun k hk=>?_⟩
 rw [D0p] at hk
 by_cases e:k=i
 ·subst e;rw [B4];simp [hi]
 ·rw [J1 e,hg k hk]
  congr 1
  simp only [C9i]
  rw [D0H (fun e'=>e e'.symm)]
def J8 (used:List Bool):List QE→Option Int×List QE
 | []=>(none,[])
 | e::es=>if used.getD e.2.toNat default=true then J8 used es else (some e.2,es)
def C7z (used:List Bool):Option Int→List Bool
 | none=>used
 | some i=>used.set i.toNat true
def C4m:Option Int→AV
 | none=>.tuple [eI 0,eB false]
 | some i=>.tuple [eI i,eB true]
theorem B2w {α : Type} (f:Nat→α) (i:Nat) (u v : α):Q7 (Q7 f i u) i v=Q7 f i v:=by
 funext k;unfold Q7;split<;>rfl
theorem B4S {α : Type} (f:Nat→α) (i:Nat):Q7 f i (f i)=f:=by
 funext k;unfold Q7;split
 ·rename_i e;rw [e]
 ·rfl
theorem C1Q (d:MkD) (used:List Bool) (es:Nat→List QE) (s t:St) (h:MkR d used es s t) (k:Nat) (hk:k<d.n) (hr:∀ e∈es k,0≤e.2∧e.2.toNat<used.length) (hs:(es k).Pairwise fun a b=>D0 b a=false) :
  S P 329 [.optr 18 d.bm 0 0,eI k] t fun v t'=>v=C4m (J8 used (es k)).1∧MkR d (C7z used (J8 used (es k)).1) (Q7 es k (J8 used (es k)).2) s t':=by
 refine F5 [] Tryz.func329 ?_
 refine ⟨[0,1],fun m vs t'=>∃ l:List QE,m=l.length∧vs=[.optr 18 d.bm 0 0,eI k]∧J8 used l=J8 used (es k)∧(∀ e∈l,0≤e.2∧e.2.toNat<used.length)∧(l.Pairwise fun a b=>D0 b a=false)∧MkR d used (Q7 es k l) s t',?_,?_⟩
 ·conv=>whnf
  exact ⟨_,es k,rfl,rfl,rfl,hr,hs,by rw [B4S];exact h⟩
 ·clear h hr hs
  rintro m vs t' ⟨l,rfl,rfl,hF,hr,hs,h⟩
  rw [←hF]
  obtain ⟨⟨fm,hm,hm0⟩,⟨fu,hu,huf⟩,⟨fr,hb,hbf⟩⟩:=h.facts
  conv=>whnf
  refine K9 hm hm0 ?_
  refine I8 ?_
  refine ldV hb rfl (by omega) (v:=.optr 1 (d.q k) 0 0) (by rw [show 0+(k:Int).toNat=k by omega];exact hbf k hk) ?_;conv=>whnf
  cases l with
  | nil =>
   refine J0 (h.pop0_S hk (D5 ..)) ?_
   exact ⟨rfl,h⟩
  | cons x l =>
   rw [D0F] at hs
   refine call (h.pop_S hk (D5 ..) hs.1) (fun v t2 hv=>?_)
   obtain ⟨rfl,h'⟩:=hv
   rw [B2w] at h'
   obtain ⟨⟨fm',hm',hm0'⟩,⟨fu',hu',huf'⟩,_⟩:=h'.facts
   have hx:=hr x (C9C ..)
   have hux:fu' (0+x.2.toNat)=eB (used.getD x.2.toNat default):=by rw [C9y];exact huf' _ hx.2
   conv=>whnf
   refine K9 hm' hm0' ?_
   refine I8 ?_
   refine K9 hu' hux ?_
   cases hx1:used.getD x.2.toNat default with
   | true =>
    conv=>whnf
    refine I9 ?_
    refine ⟨l.length,D1Z _,l,rfl,rfl,?_,fun e he=>hr e (C9x _ he),hs.2,h'⟩
    show _=if used.getD x.2.toNat default=true then J8 used l else (some x.2,l)
    rw [hx1,if_pos rfl]
   | false =>
    have hT:J8 used (x::l)=(some x.2,l):=by
     show (if used.getD x.2.toNat default=true then J8 used l else (some x.2,l))=_
     rw [hx1,if_neg (by simp)]
    rw [hT];conv=>whnf
    refine K9 hm' hm0' ?_
    refine I8 ?_
    refine stW hu' hux ?_
    refine ⟨rfl,?_⟩
    rw [C9y]
    exact h'.use hx.2 hu' huf'
end Go.Proofs.YtaapofnkmpiknaaGreat
namespace Go.Proofs.YtaapofnkmpiknaaGreat
open Go Go.Ab Go.Proofs Go.Sort
attribute [local irreducible] upd del
def C0 (l:List Int):List Int:=l.mergeSort fun x y=>decide (x≤y)
theorem A0B (l:List Int):(C0 l).Perm l:=D1u ..
theorem O4 (l:List Int):(C0 l).length=l.length:=(A0B l).length_eq
def A7P (l:List Int):H1:=⟨3,1,l.length,fun k=>eI (gI (C0 l) k)⟩
theorem B8o {st:St} {w:World} {b n:Nat} {l:List Int} {os:Array Obj} (hb:A2I st b l) (hS:E0 st w) :
  P6 st w (upd st b (A7P l)) (grow (putRow (Value.int .i64) (Sort.ahead w n) b 0 (C0 l).toArray) os)∧E0 (upd st b (A7P l)) (grow (putRow (Value.int .i64) (Sort.ahead w n) b 0 (C0 l).toArray) os):=by
 obtain ⟨f,hst,hf⟩:=hb
 obtain ⟨cs,hok⟩:=hS b _ hst
 have hbl:b<w.heap.size:=(C9U.1 hok.heap).1
 have hsz:l.length * 1≤cs.size:=hok.size
 have hheap:∀ c,c<w.heap.size→(grow (putRow (Value.int .i64) (Sort.ahead w n) b 0 (C0 l).toArray) os).heap[c]?=if b=c then some (.cells (putCells (Value.int .i64) 0 (C0 l).toArray cs) 3 (0,0)) else w.heap[c]?:=fun c hc=>by
  show ((w.heap.modify b (onCells (putCells (Value.int .i64) 0 (C0 l).toArray)))++os)[c]?=_
  rw [D1v (by simpa using hc),D1w]
  split
  ·rename_i e;subst e;rw [hok.heap];rfl
  ·rfl
 have hev:P6 st w (upd st b (A7P l)) (grow (putRow (Value.int .i64) (Sort.ahead w n) b 0 (C0 l).toArray) os):=by
  refine ⟨rfl,rfl,rfl,?_,fun c hc hs=>?_,fun c=>?_⟩
  ·show w.heap.size≤((w.heap.modify b _)++os).size
   simp
  ·have hne:b≠c:=fun e=>by subst e;rw [hst] at hs;cases hs
   rw [hheap c hc,if_neg hne]
   exact ⟨rfl,by rw [A5 hne.symm];exact hs⟩
  ·by_cases hc:c<w.heap.size
   ·unfold S8
    rw [hheap c hc]
    by_cases e:b=c
    ·subst e
     rw [hok.heap,if_pos rfl]
     simp [putCells]
    ·rw [if_neg e];exact C9q _
   ·unfold S8
    rw [D1k (by omega)]
    exact C9v _
 refine ⟨hev,fun c x hx=>?_⟩
 by_cases e:c=b
 ·subst e
  rw [A0] at hx
  cases hx
  refine ⟨putCells (Value.int .i64) 0 (C0 l).toArray cs,?_,?_,fun i hi=>rfl,fun i hi=>rfl,fun i j y hi hy=>?_⟩
  ·rw [hheap c hbl,if_pos rfl];rfl
  ·show l.length * 1≤_
   simpa [putCells] using hsz
  ·have hi':i<l.length:=hi
   cases j with
   | succ j=>simp [A7P,A2] at hy
   | zero =>
    have hy':y=eI (gI (C0 l) i):=by simpa [A7P,A2] using hy.symm
    subst hy'
    refine ⟨.int .i64 (gI (C0 l) i),?_,.int _ _⟩
    show (putCells (Value.int .i64) 0 (C0 l).toArray cs)[i * 1+0]?=_
    unfold putCells
    rw [Array.getElem?_mapIdx,Nat.mul_one,D1p,C9r (by omega),D0U]
    rw [if_pos ⟨by omega,by simp [O4];omega⟩,Nat.sub_zero]
    have:(C0 l).toArray[i]! = gI (C0 l) i:=by
     have hl:=O4 l
     rw [getElem!_pos _ i (by simp [hl];omega)]
     simp [gI,show i<(C0 l).length by omega]
    rw [this]
 ·rw [A5 e] at hx
  obtain ⟨ds,hd⟩:=hS c x hx
  have hcl:c<w.heap.size:=(C9U.1 hd.heap).1
  exact ⟨ds,hd.evo hev (by rw [hheap c hcl,if_neg (fun e'=>e e'.symm)])⟩
theorem C1M (b:Nat) (l:List Int) (hl:l.length<4611686018427387904) (st:St) (hb:A2I st b l) :
  S P 273 [.own 1 b 0 l.length] st fun v st'=>v=.tuple []∧st'=upd st b (A7P l):=by
 refine ⟨B4k.f5.enters rfl,fun cargs w hr hS=>?_⟩
 obtain ⟨hlen,hr⟩:=hr
 have hb':=hb
 obtain ⟨f,hst,hf⟩:=hb'
 obtain ⟨cs,hok⟩:=hS b _ hst
 have h0:0<cargs.size:=by rw [←hlen];exact Nat.one_pos
 have ha:=hr 0 _ cargs[0] rfl (C9r h0)
 have hc:∃ c,cargs=#[.slice (some ⟨b,0,none⟩) l.length c]:=by
  generalize hv:cargs[0]=v at ha
  cases ha with
  | own e b off n c hc hs =>
   refine ⟨c,Array.ext (by rw [←hlen];rfl) fun i h1 h2=>?_⟩
   have:i=0:=by simp at h2;exact h2
   subst this;rw [hv];rfl
 obtain ⟨c,rfl⟩:=hc
 have hH:Holds (Value.int .i64) w b 0 l.toArray:=fun j hj=>by
  have hj':j<l.length:=by simpa using hj
  obtain ⟨x,hx,hrep⟩:=hok.cell j 0 (eI (gI l j)) hj' (by show (A2 (f j))[0]?=_;rw [hf j hj'];rfl)
  have hxx:x=.int .i64 (gI l j):=by cases hrep;rfl
  subst hxx
  have hg:l.toArray[j]! = gI l j:=by rw [getElem!_pos _ j (by simpa using hj')];simp [gI,hj']
  refine ⟨?_,?_⟩
  ·unfold World.cell?
   rw [hok.heap,hg]
   have:cs[j * 1+0]?=some (.int .i64 (gI l j)):=hx
   simpa using this
  ·unfold World.frozen?
   rw [hok.heap]
   simp
 have hbl:b<w.heap.size:=(C9U.1 hok.heap).1
 refine (AnyM.slices_Sort_int B4k b 0 c l w hH hbl hl).mono ?_
 rintro e w' ⟨rfl,n,os,rfl⟩
 obtain ⟨h1,h2⟩:=B8o (n:=n) (os:=os) hb hS
 exact ⟨.tuple [],.tuple #[],_,⟨rfl,rfl⟩,rfl,.tuple [] #[] rfl (fun j y c hy=>by simp at hy),h2,h1⟩
theorem C0a (st:St):S P 273 [.emp] st fun v st'=>v=.tuple []∧st'=st:=by
 refine ⟨B4k.f5.enters rfl,fun cargs w hr hS=>?_⟩
 obtain ⟨hlen,hr⟩:=hr
 have h0:0<cargs.size:=by rw [←hlen];exact Nat.one_pos
 have ha:=hr 0 _ cargs[0] rfl (C9r h0)
 have hc:∃ A,cargs=#[.slice A 0 0]:=by
  generalize hv:cargs[0]=v at ha
  cases ha with
  | emp A =>
   refine ⟨A,Array.ext (by rw [←hlen];rfl) fun i h1 h2=>?_⟩
   have:i=0:=by simp at h2;exact h2
   subst this;rw [hv];rfl
 obtain ⟨A,rfl⟩:=hc
 refine (AnyM.slices_Sort_int_none B4k A 0 w).mono ?_
 rintro e w' ⟨rfl,rfl⟩
 exact ⟨.tuple [],.tuple #[],_,⟨rfl,rfl⟩,rfl,.tuple [] #[] rfl (fun j y c hy=>by simp at hy),hS,P6.refl _ _⟩
theorem A9b {R:St→St→Prop} (hR:G4 R) {l:List Int} {s t:St} {sv:AV} (hl:l.length<4611686018427387904) (h:ROut R 3 1 (fun k=>eI (gI l k)) l.length s sv t) :
  S P 273 [sv] t fun v t'=>v=.tuple []∧ROut R 3 1 (fun k=>eI (gI (C0 l) k)) l.length s sv t':=by
 obtain ⟨s0,hc,h⟩:=h
 rcases hc with ⟨h0,rfl,rfl⟩ | ⟨h0,bo,g,h1,rfl,rfl,h3⟩
 ·exact (C0a t).mono fun v t' hv=>⟨hv.1,by rw [h0];exact ⟨s0,Col.start _ _ _ _,by rw [hv.2];exact h⟩⟩
 ·have hby:=hR.sup h bo _ (A0 ..)
  refine (C1M bo l hl t ⟨g,hby,h3⟩).mono fun v t' hv=>⟨hv.1,_,.inr ⟨h0,bo,fun k=>eI (gI (C0 l) k),h1,rfl,rfl,fun k hk=>rfl⟩,?_⟩
  rw [hv.2]
  have:=hR.write (y':=A7P l) h (A0 ..)
  rw [I2] at this;exact this
end Go.Proofs.YtaapofnkmpiknaaGreat
namespace Go.Proofs.YtaapofnkmpiknaaGreat
open Go Go.Ab
attribute [local irreducible] upd del
structure MSt where
 used:List Bool
 es:Nat→List QE
 l:List Int
def Y0 (k:Nat) (s:MSt):Option MSt:=match (J8 s.used (s.es k)).1 with
 | none=>none
 | some i=>some ⟨s.used.set i.toNat true,Q7 s.es k (J8 s.used (s.es k)).2,s.l++[i]⟩
def O5 (k:Nat):Nat→MSt→Option MSt
 | 0,s=>some s
 | c+1,s=>(O5 k c s).bind (Y0 k)
def H0 (parts:List A4r):Nat→MSt→Option MSt
 | 0,s=>some s
 | k+1,s=>(H0 parts k s).bind (O5 k (parts.getD k default).count.toNat)
theorem A6e {k:Nat} {s:MSt}:∀ {c j:Nat},O5 k j s=none→j≤c→O5 k c s=none
 | 0,j,h,hj=>by
  have:j=0:=by omega
  subst this;exact h
 | c+1,j,h,hj=>by
  rcases D0D c j with h1 | h1
  ·have:j=c+1:=by omega
   subst this;exact h
  ·unfold O5;rw [A6e h h1];rfl
theorem A5V {parts:List A4r} {s:MSt}:∀ {c j:Nat},H0 parts j s=none→j≤c→H0 parts c s=none
 | 0,j,h,hj=>by
  have:j=0:=by omega
  subst this;exact h
 | c+1,j,h,hj=>by
  rcases D0D c j with h1 | h1
  ·have:j=c+1:=by omega
   subst this;exact h
  ·unfold H0;rw [A5V h h1];rfl
structure MOk (us:List A9) (n:Nat) (s:MSt):Prop where
 len:s.used.length=us.length
 rng:∀ k,k<n→∀ e∈s.es k,0≤e.2∧e.2.toNat<us.length
 srt:∀ k,k<n→(s.es k).Pairwise fun a b=>D0 b a=false
 mem:∀ x∈s.l,0≤x∧x.toNat<us.length
theorem A0E (used:List Bool) (l:List QE):(∃ pre,l=pre++(match (J8 used l).1 with | none=>[] | some i=>(match l.find? (fun e=>!used.getD e.2.toNat default) with | none=>[] | some e=>[e]))++(J8 used l).2) ∧
  (∀ i,(J8 used l).1=some i→∃ e∈l,e.2=i∧used.getD i.toNat default=false)∧((J8 used l).2.Sublist l)∧((J8 used l).1≠none→(J8 used l).2.length<l.length):=by
 induction l with
 | nil=>exact ⟨⟨[],rfl⟩,(fun i h=>by cases h),List.Sublist.refl _,fun h=>absurd rfl h⟩
 | cons e l ih =>
  obtain ⟨⟨pre,h1⟩,h2,h3,h4⟩:=ih
  by_cases hu:used.getD e.2.toNat default=true
  ·have ht:J8 used (e::l)=J8 used l:=by
    show (if used.getD e.2.toNat default=true then J8 used l else (some e.2,l))=_
    rw [if_pos hu]
   rw [ht]
   refine ⟨⟨e::pre,?_⟩,fun i hi=>?_,h3.cons _,fun h=>by have:=h4 h;simp;omega⟩
   ·rw [D2i (by rw [hu];simp)]
    rw [D1h,D1h,←h1]
   ·obtain ⟨x,hx,hx2⟩:=h2 i hi
    exact ⟨x,C9x _ hx,hx2⟩
  ·have ht:J8 used (e::l)=(some e.2,l):=by
    show (if used.getD e.2.toNat default=true then J8 used l else (some e.2,l))=_
    rw [if_neg hu]
   rw [ht]
   refine ⟨⟨[],?_⟩,fun i hi=>?_,List.sublist_cons_self _ _,fun _=>by simp⟩
   ·rw [D2h (by rw [D0R.2 hu];rfl)];rfl
   ·have:e.2=i:=by simpa using hi
    exact ⟨e,C9C ..,this,by rw [←this];exact D0R.2 hu⟩
theorem MOk.take {us:List A9} {n:Nat} {s s':MSt} (h:MOk us n s) {k:Nat} (hk:k<n) (ht:Y0 k s=some s'):MOk us n s':=by
 obtain ⟨_,t2,t3,_⟩:=A0E s.used (s.es k)
 unfold Y0 at ht
 split at ht
 ·cases ht
 ·rename_i i hi
  cases ht
  obtain ⟨e,he,rfl,hu⟩:=t2 i hi
  have hr:=h.rng k hk e he
  refine ⟨by rw [D0p];exact h.len,fun j hj x hx=>?_,fun j hj=>?_,fun x hx=>?_⟩
  ·by_cases ej:j=k
   ·subst ej;rw [show (MSt.es _ j)=_ from rfl] at hx;simp only [D5] at hx;exact h.rng j hj x (t3.subset hx)
   ·simp only [G3 ej] at hx;exact h.rng j hj x hx
  ·by_cases ej:j=k
   ·subst ej;simp only [D5];exact (h.srt j hj).sublist t3
   ·simp only [G3 ej];exact h.srt j hj
  ·rcases D0V.1 hx with hx | hx
   ·exact h.mem x hx
   ·rw [C9Z] at hx;rw [hx];exact hr
theorem B5S {k:Nat} {s s':MSt} (ht:Y0 k s=some s'):s'.l.length=s.l.length+1:=by
 unfold Y0 at ht
 split at ht
 ·cases ht
 ·cases ht;simp
theorem A0F {k:Nat} {s:MSt}:∀ {c:Nat} {s':MSt},O5 k c s=some s'→s'.l.length=s.l.length+c
 | 0,s',h=>by cases h;rfl
 | c+1,s',h=>by
  unfold O5 at h
  obtain ⟨s1,h1,h2⟩:=D0g.1 h
  rw [B5S h2,A0F h1];omega
theorem MOk.takes {us:List A9} {n:Nat} {s:MSt} (h:MOk us n s) {k:Nat} (hk:k<n):∀ {c:Nat} {s':MSt},O5 k c s=some s'→MOk us n s'
 | 0,s',e=>by cases e;exact h
 | c+1,s',e=>by
  unfold O5 at e
  obtain ⟨s1,h1,h2⟩:=D0g.1 e
  exact (h.takes hk h1).take hk h2
structure A2H (p:A8):Prop where
 n1:1≤p.parts.length
 n8:p.parts.length≤8
 cnt:∀ x∈p.parts,1≤x.count∧x.count≤100
 amt:0≤p.amount∧p.amount≤10000000000000
theorem A2H.at {p:A8} (h:A2H p) {k:Nat} (hk:k<p.parts.length):1≤(p.parts.getD k default).count∧(p.parts.getD k default).count≤100:=h.cnt _ (A7 hk)
theorem MOk.parts {us:List A9} {p:A8} {s:MSt} (h:MOk us p.parts.length s):∀ {k:Nat} {s':MSt},k≤p.parts.length→H0 p.parts k s=some s'→MOk us p.parts.length s'
 | 0,s',_,e=>by cases e;exact h
 | k+1,s',hk,e=>by
  unfold H0 at e
  obtain ⟨s1,h1,h2⟩:=D0g.1 e
  exact (MOk.parts h (by omega) h1).takes (by omega) h2
theorem A2e {p:A8} (hp:A2H p) {s:MSt}:∀ {k:Nat} {s':MSt},k≤p.parts.length→H0 p.parts k s=some s'→s'.l.length≤s.l.length+100 * k
 | 0,s',_,e=>by cases e;omega
 | k+1,s',hk,e=>by
  unfold H0 at e
  obtain ⟨s1,h1,h2⟩:=D0g.1 e
  have:=A2e hp (by omega) h1
  have:=A0F h2
  have:=hp.at (show k<p.parts.length by omega)
  omega
def F4 (us:List A9) (l:List Int):Int:=A3 (l.map fun i=>(gU us i.toNat).net)
theorem B4L (us:List A9) (l:List Int) (i:Int):F4 us (l++[i])=F4 us l+(gU us i.toNat).net:=by
 unfold F4;rw [C9P,D1];simp [A3]
theorem A0M {us:List A9} (hu:C4 us) (l:List Int) (hl:∀ x∈l,0≤x∧x.toNat<us.length):0≤F4 us l∧F4 us l≤10000000000000 * l.length:=by
 unfold F4
 have c1:∀ (y:Int) (r:List Int),A3 (y::r)=y+A3 r:=fun y r=>by
  have:=D1 [y] r
  rw [D1n] at this
  rw [this];simp [A3]
 induction l with
 | nil=>exact ⟨C9R _,by simp [A3]⟩
 | cons x l ih =>
  have h1:=ih (fun y hy=>hl y (C9x _ hy))
  have h2:=hl x (C9C ..)
  have h3:0≤(gU us x.toNat).net:=hu.pos _ (A7 h2.2)
  have h4:(gU us x.toNat).net≤10000000000000:=hu.le (A7 h2.2)
  rw [D0j,c1,C9G]
  omega
theorem C1n (d:MkD) (hn:d.n=d.p.parts.length) (hp:A2H d.p) (hu:C4 d.us) (ms:MSt) (hl0:ms.l=[]) (hm:MOk d.us d.n ms) (s t:St) (h:MkR d ms.used ms.es s t) :
  S P 305 [.optr 18 d.bm 0 0] t fun v t'=>match H0 d.p.parts d.n ms with
   | none=>v=.tuple [.emp,eI 0,eB false]∧E9 s t'
   | some ms'=>v=.tuple [B2 (C0 ms'.l),eI (F4 d.us ms'.l - d.p.amount),eB (decide (F4 d.us ms'.l>d.p.amount))]∧MkR d ms'.used ms'.es s t':=by
 have hB:=fun (u:List Bool) (es:Nat→List QE)=>B3v d u es
 refine S.post (post:=fun v t'=>match H0 d.p.parts d.n ms with
   | none=>v=.tuple [.emp,eI 0,eB false]∧E9 s t'
   | some ms'=>∃ sv,v=.tuple [sv,eI (F4 d.us ms'.l - d.p.amount),eB (decide (F4 d.us ms'.l>d.p.amount))]∧ROut (MkR d ms'.used ms'.es) 3 1 (fun k=>eI (gI (C0 ms'.l) k)) ms'.l.length s sv t') ?_
  (fun v t' hv=>by
   cases hF:H0 d.p.parts d.n ms with
   | none=>rw [hF] at hv;exact ⟨v,t',hv,A4.refl _ _⟩
   | some ms' =>
    rw [hF] at hv
    obtain ⟨sv,rfl,hout⟩:=hv
    obtain ⟨t'',h1,h2⟩:=hout.shift (hB _ _)
    refine ⟨_,t'',⟨rfl,h2⟩,A4.tuple (A4.cons (h1.trans ?_) (A4.keep _ _)) rfl⟩
    have e:B2 (C0 ms'.l)=.arr 1 ms'.l.length (fun k=>eI (gI (C0 ms'.l) k)):=by unfold B2 B0;rw [O4]
    rw [e];exact A4.keep _ _)
 have hp8:=hp.n8
 refine SyW [8] Tryz.func305 ?_
 obtain ⟨⟨fm,hmb,hm0⟩,_,_⟩:=h.facts
 conv=>whnf
 refine K9 hmb hm0 ?_
 refine ⟨[0,5,6,15,16,17],fun m vs t'=>∃ (k:Nat) (ms':MSt) (sv:AV),k≤d.n∧m=d.n - k∧vs=[.optr 18 d.bm 0 0,sv,eI (F4 d.us ms'.l),B0 3 A2t d.p.parts,eI d.p.parts.length,eI k]∧H0 d.p.parts k ms=some ms'∧ROut (MkR d ms'.used ms'.es) 3 1 (fun j=>eI (gI ms'.l j)) ms'.l.length s sv t',?_,?_⟩
 ·conv=>whnf
  refine ⟨_,0,ms,.emp,C9v _,rfl,?_,rfl,?_⟩
  ·rw [hl0];rfl
  ·rw [hl0];exact ROut.start h _ _ _
 ·clear h hmb hm0
  rintro m vs t' ⟨k,ms1,sv,hk,rfl,rfl,hF,hout⟩
  have hok:=MOk.parts (hn▸hm) (hn▸hk) hF
  have hlen:=A2e hp (hn▸hk) hF
  rw [hl0,D0B] at hlen
  have hcb:=A0M hu ms1.l hok.mem
  conv=>whnf
  cases h2:decide ((k:Int)<(d.p.parts.length:Int))
  ·have:=C9k h2
   obtain rfl:k=d.n:=by omega
   rw [hF];conv=>whnf
   refine call (A9b (hB _ _) (by omega) hout) (fun v t2 hv=>?_)
   obtain ⟨rfl,hout2⟩:=hv
   obtain ⟨⟨fm,hmb,hm0⟩,_,_⟩:=(hout2.dropped (hB _ _)).facts
   conv=>whnf
   refine ⟨[],[],[0,1,2,3,4,5,6,7,8,9,10,11,12,13,14,15,16,17],by kernel_rfl,?_⟩;conv=>whnf
   refine K9 hmb hm0 ?_
   refine K9 hmb hm0 ?_
   have ha:=hp.amt
   have w:IntKind.i64.wrap (F4 d.us ms1.l - d.p.amount)=F4 d.us ms1.l - d.p.amount:=A6 (by omega) (by omega)
   exact ⟨_,by rw [w];rfl,hout2⟩
  ·have hk':k<d.p.parts.length:=by have:=C9j h2;omega
   have hcnt:=hp.at hk'
   conv=>whnf
   refine I8 ?_
   refine ⟨[0,5,6,7,15,16,17,23,24],fun m vs t'=>∃ (j:Nat) (ms':MSt) (sv:AV),(j:Int)≤(d.p.parts.getD k default).count∧m=(d.p.parts.getD k default).count.toNat - j∧vs=[.optr 18 d.bm 0 0,sv,eI (F4 d.us ms'.l),eI k,B0 3 A2t d.p.parts,eI d.p.parts.length,eI k,eI (d.p.parts.getD k default).count,eI j]∧O5 k j ms1=some ms'∧ROut (MkR d ms'.used ms'.es) 3 1 (fun j=>eI (gI ms'.l j)) ms'.l.length s sv t',?_,?_⟩
   ·conv=>whnf
    exact ⟨_,0,ms1,sv,by omega,rfl,rfl,rfl,hout⟩
   ·clear hout
    rintro m vs t' ⟨j,ms2,sv,hj,rfl,rfl,hF2,hout⟩
    have hok2:=hok.takes hk' hF2
    have hlen2:=A0F hF2
    have hcb2:=A0M hu ms2.l hok2.mem
    conv=>whnf
    cases h3:decide ((j:Int)<(d.p.parts.getD k default).count)
    ·have:=C9k h3
     have ej:j=(d.p.parts.getD k default).count.toNat:=by omega
     conv=>whnf
     refine I9 ?_
     refine ⟨d.n - (k+1),by omega,k+1,ms2,sv,by omega,rfl,by rw [C1 (by omega)],?_,hout⟩
     unfold H0;rw [hF,←ej];exact hF2
    ·have hj':(j:Int)<(d.p.parts.getD k default).count:=C9j h3
     obtain ⟨s0,hcol,hMk⟩:=hout
     conv=>whnf
     refine call (C1Q d ms2.used ms2.es s0 t' hMk k (by omega) (fun e he=>by rw [hok2.len];exact hok2.rng k hk' e he) (hok2.srt k hk')) (fun v t2 hv=>?_)
     obtain ⟨rfl,hMk2⟩:=hv
     have hT:O5 k (j+1) ms1=Y0 k ms2:=by
      show (O5 k j ms1).bind (Y0 k)=_
      rw [hF2];rfl
     have hmem:=(A0E ms2.used (ms2.es k)).2.1
     cases hR:(J8 ms2.used (ms2.es k)).1 with
     | none =>
      have h4:Y0 k ms2=none:=by unfold Y0;rw [hR]
      rw [h4] at hT
      have h5:=A6e (c:=(d.p.parts.getD k default).count.toNat) hT (by omega)
      have h6:H0 d.p.parts (k+1) ms=none:=by unfold H0;rw [hF];exact h5
      have h7:=A5V (c:=d.n) h6 (by omega)
      rw [h7];conv=>whnf
      exact ⟨rfl,hcol.sup.trans ((hB _ _).sup hMk2)⟩
     | some i =>
      have h4:Y0 k ms2=some ⟨ms2.used.set i.toNat true,Q7 ms2.es k (J8 ms2.used (ms2.es k)).2,ms2.l++[i]⟩:=by unfold Y0;rw [hR]
      rw [hR] at hMk2
      obtain ⟨e,he,rfl,_⟩:=hmem i hR
      have hx:=hok2.rng k hk' e he
      have hn0:0≤(gU d.us e.2.toNat).net:=hu.pos _ (A7 hx.2)
      have hn1:(gU d.us e.2.toNat).net≤10000000000000:=hu.le (A7 hx.2)
      conv=>whnf
      refine ROut.app (q:=r3) (hB _ _) rfl rfl rfl rfl rfl (f:=fun j=>eI (gI (ms2.l++[e.2]) j)) (by simp only [A9C];rfl) (by show (ms2.l.length+1) * 8≤140737488355328;omega) ⟨s0,Col.congr hcol fun j hj=>by rw [O2 hj],hMk2⟩ (fun sv' t3 hout3=>?_)
      obtain ⟨⟨fm,hmb,hm0⟩,_,_⟩:=(hout3.dropped (hB _ _)).facts
      conv=>whnf
      refine K9 hmb hm0 ?_
      refine ⟨rfl,⟨by show 0≤e.2;omega,by show e.2<(d.us.length:Int);omega⟩,?_⟩;conv=>whnf
      refine I9 ?_
      have w:IntKind.i64.wrap (F4 d.us ms2.l+(gU d.us e.2.toNat).net)=F4 d.us (ms2.l++[e.2]):=by rw [B4L];exact A6 (by omega) (by omega)
      refine ⟨(d.p.parts.getD k default).count.toNat - (j+1),by omega,j+1,⟨ms2.used.set e.2.toNat true,Q7 ms2.es k (J8 ms2.used (ms2.es k)).2,ms2.l++[e.2]⟩,sv',by omega,rfl,?_,by rw [hT];exact h4,?_⟩
      ·rw [C1 (by omega),←w]
      ·rw [C9E];exact hout3
theorem F6 (y:Int) (r:List Int):A3 (y::r)=y+A3 r:=by
 have:=D1 [y] r
 rw [D1n] at this
 rw [this];simp [A3]
theorem A9d {a b:List Int} (h:a.Perm b):A3 a=A3 b:=by
 induction h with
 | nil=>rfl
 | cons x _ ih=>rw [F6,F6,ih]
 | swap x y l=>rw [F6,F6,F6,F6];omega
 | trans _ _ ih1 ih2=>exact ih1.trans ih2
theorem B4n {l:List Int} {B:Int} (h:∀ x∈l,x≤B):A3 l≤l.length * B:=by
 induction l with
 | nil=>simp [A3]
 | cons x l ih =>
  have h1:=ih (fun y hy=>h y (C9x _ hy))
  have h2:=h x (C9C ..)
  rw [F6,C9G]
  have:((l.length+1:Nat):Int) * B=l.length * B+B:=by
   rw [show ((l.length+1:Nat):Int)=(l.length:Int)+1 by omega,D1t,Int.one_mul]
  omega
theorem B4E {qs:List Int} {R:List QE} (hl:∀ e∈R,e.2.toNat<qs.length) (hd:(R.map fun e=>e.2.toNat).Nodup) (k:Nat):gI (N7 qs R) k=gI qs k+if k∈R.map (fun e=>e.2.toNat) then 1 else 0:=by
 unfold N7
 induction R generalizing qs with
 | nil=>simp
 | cons e R ih =>
  rw [D0j,List.nodup_cons] at hd
  have he:=hl e (C9C ..)
  simp only [D0E]
  rw [ih (fun x hx=>by rw [D0p];exact hl x (C9x _ hx)) hd.2]
  have hs:gI (qs.set e.2.toNat (gI qs e.2.toNat+1)) k=if k=e.2.toNat then gI qs k+1 else gI qs k:=by
   unfold gI
   simp only [C9i,D0O]
   by_cases h:k=e.2.toNat
   ·subst h;simp [he]
   ·rw [if_neg (fun e'=>h e'.symm),if_neg h]
  rw [hs,D0j]
  by_cases h:k=e.2.toNat
  ·subst h
   rw [if_pos rfl,if_neg hd.1,if_pos (C9C ..)];omega
  ·rw [if_neg h]
   by_cases h2:k∈R.map (fun e=>e.2.toNat)
   ·rw [if_pos h2,if_pos (C9x _ h2)]
   ·rw [if_neg h2,if_neg (fun h3=>by
     rcases D0M.1 h3 with h4 | h4
     ·exact h h4
     ·exact h2 h4)]
theorem C0g {total:Int} {ws:List Int} (h:M4 total ws) (hS:0<A3 ws) {i:Nat} (hi:(i:Int)<H8 total (A3 ws) ws ws.length):0<((shR total (A3 ws) ws).getD i default).1:=by
 have hlr:=A2a h hS
 have hlen:=B0i total (A3 ws) ws
 have hil:i<(shR total (A3 ws) ws).length:=by omega
 refine Int.lt_of_not_ge fun hneg=>?_
 have hsum:A3 ((shR total (A3 ws) ws).map (·.1))=A3 ws * H8 total (A3 ws) ws ws.length:=by
  have hp:=(A0A total (A3 ws) ws).map (·.1)
  rw [A9d hp,D2c]
  have e:=A6z total (A3 ws) hS ws ws.length (C9q _)
  rw [C9u] at e
  unfold H8
  rw [Int.mul_sub,D1f (A3 ws) total]
  have:(List.range ws.length).map ((fun e:QE=>e.1) ∘ shE total (A3 ws) ws)=(List.range ws.length).map fun k=>total * gI ws k % A3 ws:=rfl
  rw [this];omega
 have hsorted:=A7L total (A3 ws) ws
 have hrest:∀ e∈shR total (A3 ws) ws,0≤e.1∧e.1≤A3 ws - 1:=fun e he=>by
  obtain ⟨k,hk,rfl⟩:=C9H.1 ((A0A total (A3 ws) ws).subset he)
  have h1:=D0k (total * gI ws k) (show A3 ws≠0 by omega)
  have h2:=D0c (total * gI ws k) hS
  show 0≤total * gI ws k % A3 ws∧total * gI ws k % A3 ws≤A3 ws - 1
  omega
 generalize hR:shR total (A3 ws) ws=R at *
 have hsplit:R=R.take i++R.drop i:=(D1l i R).symm
 have hcons:R.drop i=R.getD i default::R.drop (i+1):=by
  rw [C9i,C9p hil]
  exact D1a hil
 have hdrop:A3 ((R.drop i).map (·.1))≤0:=by
  have:∀ x∈(R.drop i).map (·.1),x≤0:=fun x hx=>by
   obtain ⟨e,he,rfl⟩:=C9H.1 hx
   rw [hcons] at he
   rcases D0M.1 he with rfl | he
   ·exact hneg
   ·have hs:=hsorted.sublist (D1G i R)
    rw [hcons,D0F] at hs
    have:=(P3 _ _).1 (hs.1 e he)
    omega
  have:=B4n this
  omega
 have htake:A3 ((R.take i).map (·.1))≤i * (A3 ws - 1):=by
  have h1:=B4n (l:=(R.take i).map (·.1)) (B:=A3 ws - 1) (fun x hx=>by
   obtain ⟨e,he,rfl⟩:=C9H.1 hx
   exact (hrest e (D0m _ _ he)).2)
  rw [C9o,C9D,D2b (by omega)] at h1
  exact h1
 have hall:A3 (R.map (·.1))=A3 ((R.take i).map (·.1))+A3 ((R.drop i).map (·.1)):=by
  conv=>lhs;rw [hsplit]
  rw [C9P,D1]
 have h2:A3 ws * ((i:Int)+1)≤A3 ws * H8 total (A3 ws) ws ws.length:=C9N (by omega) (by omega)
 rw [D1e,D1K] at h2
 have h3:(i:Int) * (A3 ws - 1)=A3 ws * i - i:=by rw [Int.mul_sub,D1K,D1f]
 omega
theorem A0v {total:Int} {ws:List Int} (h:M4 total ws) (ht:total≤A3 ws) {k:Nat} (hk:k<ws.length):gI (C3 total ws) k≤gI ws k:=by
 have hw:=h.w0 _ (A7 hk)
 unfold C3
 split
 ·rename_i h0
  have:gI (ws.map fun _=>(0:Int)) k=0:=F7 (fun _:Int=>(0:Int)) ws hk
  rw [this];exact hw
 ·rename_i h0
  have hS:0<A3 ws:=by have:=B8 h.w0;omega
  have hmem:∀ e∈(shR total (A3 ws) ws).take (H8 total (A3 ws) ws ws.length).toNat,e.2.toNat<((List.range ws.length).map (shQ total (A3 ws) ws)).length:=fun e he=>by
   rw [C9o,D0h];exact (B0j (D0m _ _ he)).2
  have hnd:(((shR total (A3 ws) ws).take (H8 total (A3 ws) ws ws.length).toNat).map fun e=>e.2.toNat).Nodup:=by
   have h1:((shR total (A3 ws) ws).map fun e=>e.2.toNat).Nodup:=by
    have hp:=(A0A total (A3 ws) ws).map fun e=>e.2.toNat
    refine hp.nodup_iff.2 ?_
    rw [D2c]
    have:(List.range ws.length).map ((fun e:QE=>e.2.toNat) ∘ shE total (A3 ws) ws)=(List.range ws.length).map id:=by
     refine D1d fun k _=>?_
     show (k:Int).toNat=k
     omega
    rw [this,List.map_id]
    exact List.nodup_range
   exact h1.sublist ((List.take_sublist _ _).map _)
  rw [B4E hmem hnd,Q0 _ hk]
  have e1:=D0b (total * gI ws k) (A3 ws)
  have e2:=D0k (total * gI ws k) (show A3 ws≠0 by omega)
  have e3:total * gI ws k≤A3 ws * gI ws k:=D0L ht hw
  have e4:shQ total (A3 ws) ws k=total * gI ws k / A3 ws:=rfl
  split
  ·rename_i hin
   obtain ⟨e,he,hek⟩:=C9H.1 hin
   obtain ⟨i,hi,rfl⟩:=F2 he
   rw [C9D] at hi
   have hle:=A2a h hS
   have hpos:=C0g h hS (i:=i) (by omega)
   have hti:((shR total (A3 ws) ws).take (H8 total (A3 ws) ws ws.length).toNat).getD i default=(shR total (A3 ws) ws).getD i default:=by
    rw [C9i,C9i,C9w (by omega)]
   rw [hti] at hek
   have hm2:(shR total (A3 ws) ws).getD i default∈shR total (A3 ws) ws:=A7 (by omega)
   obtain ⟨j,hj,hje⟩:=C9H.1 ((A0A total (A3 ws) ws).subset hm2)
   have hjk:j=k:=by rw [←hek,←hje];show j=(j:Int).toNat;omega
   subst hjk
   rw [←hje] at hpos
   have hpos':0<total * gI ws j % A3 ws:=hpos
   have h5:A3 ws * (total * gI ws j / A3 ws)<A3 ws * gI ws j:=by omega
   have h6:total * gI ws j / A3 ws<gI ws j:=Int.lt_of_mul_lt_mul_left h5 (by omega)
   omega
  ·have h5:A3 ws * (total * gI ws k / A3 ws)≤A3 ws * gI ws k:=by omega
   have h6:total * gI ws k / A3 ws≤gI ws k:=Int.le_of_mul_le_mul_left h5 hS
   omega
structure V0 (us:List A9) (l:List Int):Prop where
 rng:∀ k,k<l.length→0≤gI l k∧(gI l k).toNat<us.length
 ne:∀ i k,i<k→k<l.length→(gI l i).toNat≠(gI l k).toNat
theorem L2.places {us:List A9} {mine:List Int} (h:L2 us mine):V0 us mine :=
 ⟨h.rng,fun i k hik hk=>by
  have h1:=h.lt i k hik hk
  have h2:=(h.rng i (by omega)).1
  omega⟩
theorem A2m {us:List A9} {mine offs:List Int} (hm:V0 us mine):∀ k,k≤mine.length→∀ j,j<us.length→(∀ i,i<k→j≠(gI mine i).toNat)→gU (D8 us mine offs k) j=gU us j
 | 0,_,j,hj,_=>rfl
 | k+1,hk,j,hj,hne=>by
  have ih:=A2m (offs:=offs) hm k (by omega) j hj (fun i hi=>hne i (by omega))
  unfold D8 less1
  rw [A5r (by rw [L7];exact (hm.rng k (by omega)).2),if_neg (hne k (by omega))]
  exact ih
theorem A6b {us:List A9} {mine offs:List Int} (hm:V0 us mine) {k:Nat} (hk:k<mine.length):gU (D8 us mine offs k) (gI mine k).toNat=gU us (gI mine k).toNat :=
 A2m hm k (by omega) _ (hm.rng k hk).2 fun i hi=>fun e=>hm.ne i k hi hk e.symm
theorem A0X {us:List A9} (hu:C4 us) {mine offs:List Int} (hm:V0 us mine) (hlen:offs.length≤mine.length) (h:∀ k,k<offs.length→0≤gI offs k∧gI offs k≤(gU us (gI mine k).toNat).net):∀ k,k≤offs.length→Off us (D8 us mine offs k) (A3 (offs.take k))
 | 0,_=>Off.refl hu
 | k+1,hk=>by
  have ih:=A0X hu hm hlen h k (by omega)
  have hr:=hm.rng k (by omega)
  have hx:=h k (by omega)
  rw [J2 (by omega)]
  refine ih.trans (Off.less1 (ih.ok hu) (by rw [L7];exact hr.2) hx.1 ?_)
  rw [A6b hm (by omega)];exact hx.2
def E5 (us:List A9) (l:List Int):List Int:=l.map fun i=>(gU us i.toNat).net
def A0S (us:List A9) (l:List Int) (amount:Int):List A9:=D8 us l (C3 amount (E5 us l)) l.length
theorem B4X {us:List A9} (hu:C4 us) {l:List Int} (hm:V0 us l) {amount:Int} (hW:M4 amount (E5 us l)) (ha:amount≤A3 (E5 us l)):Off us (A0S us l amount) amount:=by
 obtain ⟨a,b,c⟩:=P1 hW
 have hl:(E5 us l).length=l.length:=by unfold E5;rw [C9o]
 have:=A0X hu hm (offs:=C3 amount (E5 us l)) (by omega) (fun k hk=>⟨c _ (A7 hk),by
  have h1:=A0v hW ha (k:=k) (by omega)
  have h2:gI (E5 us l) k=(gU us (gI l k).toNat).net:=F7 (fun i:Int=>(gU us i.toNat).net) l (by omega)
  rw [h2] at h1;exact h1⟩) (C3 amount (E5 us l)).length (C9q _)
 rw [C9u,a] at this
 unfold A0S
 rw [show l.length=(C3 amount (E5 us l)).length by omega]
 exact this
theorem B9d (bo:Nat) (us:List A9) (hu:C4 us) (l:List Int) (hl:l.length≤100000) (hm:V0 us l) (amount:Int) (hW:M4 amount (E5 us l)) (st:St) (hb:A2J st bo us) :
  S P 306 [.own 3 bo 0 us.length,B2 l,eI amount] st fun v st'=>v=.tuple []∧∃ f,st'=upd st bo ⟨223,3,us.length,f⟩∧∀ k,k<us.length→f k=Z1 (gU (A0S us l amount) k):=by
 have hul:=hu.len
 have hwl:(E5 us l).length=l.length:=by unfold E5;rw [C9o]
 obtain ⟨lg1,lg2,lg3⟩:=P1 hW
 refine SyW [] Tryz.func306 ?_
 obtain ⟨fu,hst,hfu⟩:=hb
 conv=>whnf
 refine ⟨[0,1,2,6,13,14,15],fun m vs st'=>∃ (i:Nat) (sv:AV),i≤l.length∧m=l.length - i∧vs=[.own 3 bo 0 us.length,B2 l,eI amount,sv,B2 l,eI l.length,eI i]∧Col 2 1 (fun k=>eI (gI (E5 us l) k)) st i sv st',?_,?_⟩
 ·conv=>whnf
  exact ⟨_,0,.emp,C9v _,rfl,rfl,Col.start _ _ _ _⟩
 ·rintro m vs st' ⟨i,sv,hi,rfl,rfl,hcol⟩
  have hst':=hcol.sup bo _ hst
  conv=>whnf
  cases h:decide ((i:Int)<(l.length:Int))
  ·have:=C9k h
   obtain rfl:i=l.length:=by omega
   conv=>whnf
   have hsh:A4 [eI amount,sv] st' [eI amount,B2 (E5 us l)] st:=by
    refine A4.cons (A4.keep _ _) ?_
    have e:B2 (E5 us l)=.arr 1 l.length (fun k=>eI (gI (E5 us l) k)):=by unfold B2 B0;rw [hwl]
    rw [e];exact hcol.shift
   refine D3 hsh (B6 (A5x amount (E5 us l) hW st) ?_)
   have hX:∀ k,k<l.length→0≤gI (C3 amount (E5 us l)) k∧gI (C3 amount (E5 us l)) k≤100000000000000:=fun k hk=>by
    have h1:=lg3 _ (A7 (show k<(C3 amount (E5 us l)).length by omega))
    have h2:=I7 lg3 (A7 (show k<(C3 amount (E5 us l)).length by omega))
    have:=hW.t1
    exact ⟨h1,by show gI _ _≤_;unfold gI;omega⟩
   have hlf:A0S us l amount=D8 us l (C3 amount (E5 us l)) l.length:=rfl
   have hlen:(C3 amount (E5 us l)).length=l.length:=by omega
   rw [hlf]
   generalize C3 amount (E5 us l)=xs at *
   conv=>whnf
   refine ⟨[0,1,34,35,36],fun m vs st'=>∃ (k:Nat) (f:Nat→AV),k≤l.length∧m=l.length - k∧vs=[.own 3 bo 0 us.length,B2 l,B2 xs,eI xs.length,eI k]∧st'=upd st bo ⟨223,3,us.length,f⟩∧∀ j,j<us.length→f j=Z1 (gU (D8 us l xs k) j),?_,?_⟩
   ·conv=>whnf
    exact ⟨_,0,fu,C9v _,rfl,rfl,(B8y hst).symm,hfu⟩
   ·rintro m vs st' ⟨k,f,hk,rfl,rfl,rfl,hf⟩
    conv=>whnf
    cases h2:decide ((k:Int)<(xs.length:Int))
    ·have:=C9k h2
     obtain rfl:k=l.length:=by omega
     conv=>whnf
     exact ⟨rfl,f,rfl,hf⟩
    ·have hk':k<l.length:=by have:=C9j h2;omega
     have hr:=hm.rng k hk'
     have hat:=A6b (offs:=xs) hm hk'
     have hx:=hX k hk'
     have hnet0:0≤(gU us (gI l k).toNat).net:=hu.pos _ (A7 hr.2)
     have hnet1:(gU us (gI l k).toNat).net≤10000000000000:=hu.le (A7 hr.2)
     have hfm:f (0+(gI l k).toNat)=Z1 (gU (D8 us l xs k) (gI l k).toNat):=by rw [C9y];exact hf _ hr.2
     conv=>whnf
     refine I8 ?_
     refine I8 ?_
     refine ⟨rfl,⟨by show 0≤gI l k;exact hr.1,by show gI l k<(us.length:Int);have:=hr.2;have:=hr.1;omega⟩,?_⟩;conv=>whnf
     refine ldV (A0 ..) rfl (by show 0+(gI l k).toNat<_;have:=hr.2;omega) hfm ?_;conv=>whnf
     refine ⟨rfl,⟨by show 0≤gI l k;exact hr.1,by show gI l k<(us.length:Int);have:=hr.2;have:=hr.1;omega⟩,?_⟩;conv=>whnf
     refine stV (A0 ..) rfl (by show 0+(gI l k).toNat<_;have:=hr.2;omega) hfm (by rfl) ?_;conv=>whnf
     refine I9 ?_
     refine ⟨l.length - (k+1),by omega,k+1,_,by omega,rfl,by rw [C1 (by omega)],I2,fun j hj=>?_⟩
     have w:IntKind.i64.wrap ((gU (D8 us l xs k) (gI l k).toNat).net - gI xs k)=(gU (D8 us l xs k) (gI l k).toNat).net - gI xs k:=by
      rw [hat];exact A6 (by omega) (by omega)
     show _=Z1 (gU (less1 (D8 us l xs k) (gI l k).toNat (gI xs k)) j)
     unfold less1
     rw [A5r (by rw [L7];exact hr.2)]
     by_cases hj2:j=(gI l k).toNat
     ·rw [if_pos hj2,hj2,←w]
      show G8 f (0+(gI l k).toNat) _ _=_
      rw [C9y,B4];rfl
     ·rw [if_neg hj2]
      show G8 f (0+(gI l k).toNat) _ _=_
      rw [C9y,J1 hj2];exact hf j hj
  ·have hi':i<l.length:=by have:=C9j h;omega
   have hr:=hm.rng i hi'
   have hg:gI (E5 us l) i=(gU us (gI l i).toNat).net:=F7 (fun i:Int=>(gU us i.toNat).net) l hi'
   conv=>whnf
   refine I8 ?_
   refine ⟨rfl,⟨by show 0≤gI l i;exact hr.1,by show gI l i<(us.length:Int);have:=hr.2;have:=hr.1;omega⟩,?_⟩;conv=>whnf
   refine ldV hst' rfl (by show 0+(gI l i).toNat<_;have:=hr.2;omega) (v:=Z1 (gU us (gI l i).toNat)) (by show fu (0+(gI l i).toNat)=_;rw [C9y];exact hfu _ hr.2) ?_;conv=>whnf
   refine Col.app (q:=r2) rfl rfl rfl rfl rfl (by simp only [hg];rfl) (by show (i+1) * 8≤140737488355328;omega) hcol (fun sv' st'' hcol'=>?_);conv=>whnf
   refine I9 ?_
   exact ⟨l.length - (i+1),by omega,i+1,sv',by omega,rfl,by rw [C1 (by omega)],hcol'⟩
end Go.Proofs.YtaapofnkmpiknaaGreat
namespace Go.Proofs.YtaapofnkmpiknaaGreat
open Go Go.Ab
def tot:Nat→(Nat→List QE)→Nat
 | 0,_=>0
 | n+1,es=>tot n es+(es n).length
theorem B5Z {n:Nat} {es es':Nat→List QE} (h:∀ i,i<n→(es' i).length=(es i).length):tot n es'=tot n es:=by
 induction n with
 | zero=>rfl
 | succ n ih=>unfold tot;rw [ih fun i hi=>h i (by omega),h n (by omega)]
theorem B8x {n:Nat} {es:Nat→List QE} {k:Nat} (hk:k<n) (l:List QE):tot n (Q7 es k l)+(es k).length=tot n es+l.length:=by
 induction n with
 | zero=>omega
 | succ n ih =>
  unfold tot
  by_cases e:k=n
  ·subst e
   rw [D5,B5Z (es:=es) fun i hi=>by rw [G3 (by omega)]];omega
  ·have:=ih (by omega)
   rw [G3 (fun e'=>e e'.symm)];omega
theorem B5T {n k:Nat} (hk:k<n) {s s':MSt} (h:Y0 k s=some s'):tot n s'.es+s'.l.length≤tot n s.es+s.l.length:=by
 have h4:=(A0E s.used (s.es k)).2.2.2
 unfold Y0 at h
 split at h
 ·cases h
 ·rename_i i hi
  cases h
  have:=h4 (by rw [hi];simp)
  have:=B8x hk (J8 s.used (s.es k)).2 (es:=s.es)
  simp only [C9E,C9G,D0B]
  omega
theorem A7Z {n k:Nat} (hk:k<n) {s:MSt}:∀ {c:Nat} {s':MSt},O5 k c s=some s'→tot n s'.es+s'.l.length≤tot n s.es+s.l.length
 | 0,s',h=>by cases h;exact C9q _
 | c+1,s',h=>by
  unfold O5 at h
  obtain ⟨s1,h1,h2⟩:=D0g.1 h
  exact D0l (B5T hk h2) (A7Z hk h1)
theorem A4d {n:Nat} {parts:List A4r} {s:MSt}:∀ {k:Nat} {s':MSt},k≤n→H0 parts k s=some s'→tot n s'.es+s'.l.length≤tot n s.es+s.l.length
 | 0,s',_,h=>by cases h;exact C9q _
 | k+1,s',hk,h=>by
  unfold H0 at h
  obtain ⟨s1,h1,h2⟩:=D0g.1 h
  exact D0l (A7Z (by omega) h2) (A4d (by omega) h1)
theorem A5W {p:A8} (hp:A2H p) {s s':MSt} (h:H0 p.parts p.parts.length s=some s'):s.l.length<s'.l.length:=by
 have hn:=hp.n1
 obtain ⟨k,hk⟩:∃ k,p.parts.length=k+1:=⟨p.parts.length - 1,by omega⟩
 have hmono:∀ {k:Nat} {s':MSt},H0 p.parts k s=some s'→s.l.length≤s'.l.length:=fun {k}=>by
  induction k with
  | zero=>intro s' h;cases h;exact C9q _
  | succ k ih =>
   intro s' h
   unfold H0 at h
   obtain ⟨s1,h1,h2⟩:=D0g.1 h
   have:=ih h1
   have:=A0F h2
   omega
 rw [hk] at h
 unfold H0 at h
 obtain ⟨s1,h1,h2⟩:=D0g.1 h
 have h3:=hmono h1
 have h4:=A0F h2
 have h5:=hp.at (show k<p.parts.length by omega)
 omega
structure O9 (u0:List Bool) (s:MSt):Prop where
 free:∀ x∈s.l,u0.getD x.toNat default=false
 nd:(s.l.map Int.toNat).Nodup
 used:∀ j,s.used.getD j default=true↔(u0.getD j default=true∨j∈s.l.map Int.toNat)
theorem O9.start (u0:List Bool) (es:Nat→List QE):O9 u0 ⟨u0,es,[]⟩:=⟨fun x hx=>by simp at hx,List.nodup_nil,fun j=>by simp⟩
theorem O9.take {us:List A9} {n:Nat} {u0:List Bool} {s s':MSt} (h:O9 u0 s) (hok:MOk us n s) {k:Nat} (hk:k<n) (ht:Y0 k s=some s'):O9 u0 s':=by
 obtain ⟨_,t2,_,_⟩:=A0E s.used (s.es k)
 unfold Y0 at ht
 split at ht
 ·cases ht
 ·rename_i i hi
  cases ht
  obtain ⟨e,he,rfl,hu⟩:=t2 i hi
  have hr:=hok.rng k hk e he
  have hfree:u0.getD e.2.toNat default=false∧e.2.toNat∉s.l.map Int.toNat:=by
   have:¬(u0.getD e.2.toNat default=true∨e.2.toNat∈s.l.map Int.toNat):=fun h2=>by
    rw [(h.used _).2 h2] at hu;cases hu
   exact ⟨D0R.2 fun h2=>this (.inl h2),fun h2=>this (.inr h2)⟩
  refine ⟨fun x hx=>?_,?_,fun j=>?_⟩
  ·rcases D0V.1 hx with hx | hx
   ·exact h.free x hx
   ·rw [C9Z] at hx;rw [hx];exact hfree.1
  ·show ((s.l++[e.2]).map Int.toNat).Nodup
   rw [C9P]
   refine List.nodup_append.2 ⟨h.nd,by simp,fun a ha b hb=>?_⟩
   simp only [D0j,D1O,C9Z] at hb
   subst hb
   exact fun e'=>hfree.2 (e'▸ha)
  ·show (s.used.set e.2.toNat true).getD j default=true↔(u0.getD j default=true∨j∈(s.l++[e.2]).map Int.toNat)
   rw [C9P,D0V,D0j,D1O,C9Z]
   by_cases ej:j=e.2.toNat
   ·subst ej
    have:e.2.toNat<s.used.length:=by rw [hok.len];exact hr.2
    simp [C9i,this]
   ·have:(s.used.set e.2.toNat true).getD j default=s.used.getD j default:=by
     simp only [C9i]
     rw [D0H (fun e'=>ej e'.symm)]
    rw [this,h.used j]
    constructor
    ·rintro (h1 | h1)
     ·exact .inl h1
     ·exact .inr (.inl h1)
    ·rintro (h1 | h1 | h1)
     ·exact .inl h1
     ·exact .inr h1
     ·exact absurd h1 ej
theorem O9.takes {us:List A9} {n:Nat} {u0:List Bool} {s:MSt} (h:O9 u0 s) (hok:MOk us n s) {k:Nat} (hk:k<n):∀ {c:Nat} {s':MSt},O5 k c s=some s'→O9 u0 s'
 | 0,s',e=>by cases e;exact h
 | c+1,s',e=>by
  unfold O5 at e
  obtain ⟨s1,h1,h2⟩:=D0g.1 e
  exact (O9.takes h hok hk h1).take (hok.takes hk h1) hk h2
theorem O9.parts {us:List A9} {p:A8} {u0:List Bool} {s:MSt} (h:O9 u0 s) (hok:MOk us p.parts.length s):∀ {k:Nat} {s':MSt},k≤p.parts.length→H0 p.parts k s=some s'→O9 u0 s'
 | 0,s',_,e=>by cases e;exact h
 | k+1,s',hk,e=>by
  unfold H0 at e
  obtain ⟨s1,h1,h2⟩:=D0g.1 e
  exact (O9.parts h hok (by omega) h1).takes (MOk.parts hok (by omega) h1) (by omega) h2
theorem B1U {us:List A9} (hu:C4 us) {l:List Int} (hm:V0 us l):A3 (E5 us l)≤A3 (C6 us):=by
 have hl:(E5 us l).length=l.length:=by unfold E5;rw [C9o]
 have:=A0X hu hm (offs:=E5 us l) (by omega) (fun k hk=>by
  have h2:gI (E5 us l) k=(gU us (gI l k).toNat).net:=F7 (fun i:Int=>(gU us i.toNat).net) l (by omega)
  rw [h2]
  exact ⟨hu.at0 _,C9R _⟩) (E5 us l).length (C9q _)
 rw [C9u] at this
 have h1:=this.sum
 have h2:=B8 (this.ok hu).nets0
 omega
theorem B5l {us:List A9} {l:List Int} (hm:∀ x∈l,0≤x∧x.toNat<us.length) (hd:(l.map Int.toNat).Nodup):V0 us l:=by
 refine ⟨fun k hk=>hm _ (A7 hk),fun i k hik hk e=>?_⟩
 have hi:(l.map Int.toNat)[i]'(by rw [C9o];omega)=(l.map Int.toNat)[k]'(by rw [C9o];omega):=by
  rw [List.getElem_map,List.getElem_map]
  have h1:gI l i=l[i]:=by simp [gI,show i<l.length by omega]
  have h2:gI l k=l[k]:=by simp [gI,hk]
  rw [←h1,←h2];exact e
 exact (D1F.1 hd i k _ _ hik) hi
structure BSt where
 out:List A9
 ms:MSt
 taken:List Int
 all:Int
def A3p (p:A8) (us:List A9) (b:BSt):Option BSt:=match H0 p.parts p.parts.length ⟨b.ms.used,b.ms.es,[]⟩ with
 | none=>none
 | some s=>if F4 us s.l>p.amount then some ⟨A0S b.out (C0 s.l) (F4 us s.l - p.amount),s,b.taken++C0 s.l,b.all+(F4 us s.l - p.amount)⟩ else none
def A3A (p:A8) (us:List A9):Nat→BSt→BSt
 | 0,b=>b
 | m+1,b=>match A3p p us b with
  | none=>b
  | some b'=>A3A p us m b'
def F0 (us:List A9) (parts:List (List Int)):BSt:=⟨us,⟨List.replicate us.length false,fun k=>E8 us (parts.getD k []),[]⟩,[],0⟩
def P8 (p:A8) (us:List A9) (parts:List (List Int)):List A9×Int :=
 let b:=A3A p us (tot p.parts.length (F0 us parts).ms.es+1) (F0 us parts)
 (if p.closes=true then closeB b.out b.taken else b.out,b.all)
structure BOk (p:A8) (us:List A9) (D:Nat) (b:BSt):Prop where
 off:Off us b.out b.all
 same:∀ j,b.ms.used.getD j default=false→gU b.out j=gU us j
 ok:MOk us p.parts.length b.ms
 mem:∀ x∈b.taken,0≤x∧x.toNat<us.length
 len:b.taken.length+tot p.parts.length b.ms.es≤D
theorem V9 {l:List Int} {x:Int}:x∈C0 l↔x∈l:=(A0B l).mem_iff
structure C2b (p:A8) (us:List A9) (b:BSt) (s:MSt):Prop where
 places:V0 b.out (C0 s.l)
 weights:M4 (F4 us s.l - p.amount) (E5 b.out (C0 s.l))
 le:F4 us s.l - p.amount≤A3 (E5 b.out (C0 s.l))
theorem BOk.step {p:A8} (hp:A2H p) {us:List A9} (hu:C4 us) {D:Nat} {b:BSt} (h:BOk p us D b) {s:MSt} (hs:H0 p.parts p.parts.length ⟨b.ms.used,b.ms.es,[]⟩=some s) (hc:F4 us s.l>p.amount) :
  C2b p us b s∧BOk p us D ⟨A0S b.out (C0 s.l) (F4 us s.l - p.amount),s,b.taken++C0 s.l,b.all+(F4 us s.l - p.amount)⟩∧tot p.parts.length s.es<tot p.parts.length b.ms.es:=by
 have hok0:MOk us p.parts.length ⟨b.ms.used,b.ms.es,[]⟩:=⟨h.ok.len,h.ok.rng,h.ok.srt,fun x hx=>by simp at hx⟩
 have hok:=MOk.parts hok0 (C9q _) hs
 have htr:=O9.parts (O9.start b.ms.used b.ms.es) hok0 (C9q _) hs
 have hlen:=A2e hp (C9q _) hs
 have htot:=A4d (n:=p.parts.length) (C9q _) hs
 have hpos:=A5W hp hs
 simp only [D0B] at hlen htot hpos
 have hn8:=hp.n8
 have ha:=hp.amt
 have hpl:V0 b.out (C0 s.l):=B5l (fun x hx=>by rw [h.off.len];exact hok.mem x (V9.1 hx)) (((A0B s.l).map Int.toNat).nodup_iff.2 htr.nd)
 have hsame:∀ x∈s.l,(gU b.out x.toNat).net=(gU us x.toNat).net:=fun x hx=>by rw [h.same _ (htr.free x hx)]
 have hw:A3 (E5 b.out (C0 s.l))=F4 us s.l:=by
  unfold E5 F4
  rw [A9d ((A0B s.l).map fun i=>(gU b.out i.toNat).net)]
  congr 1
  exact D1d fun x hx=>hsame x hx
 have hou:=h.off.ok hu
 have hwl:=B1U hou hpl
 have hos:=hou.sum
 have hcb:=A0M hu s.l hok.mem
 have hW:M4 (F4 us s.l - p.amount) (E5 b.out (C0 s.l)):=by
  refine ⟨by omega,by omega,?_,fun w hw=>?_,by omega,fun e=>by omega⟩
  ·unfold E5;rw [C9o,O4];omega
  ·obtain ⟨i,hi,rfl⟩:=C9H.1 hw;exact hou.at0 _
 have hL:=B4X hou hpl hW (by omega)
 refine ⟨⟨hpl,hW,by omega⟩,⟨h.off.trans hL,fun j hj=>?_,hok,fun x hx=>?_,?_⟩,by omega⟩
 ·have hnot:¬(b.ms.used.getD j default=true∨j∈s.l.map Int.toNat):=fun h2=>by
   rw [(htr.used j).2 h2] at hj;cases hj
  have hju:b.ms.used.getD j default=false:=D0R.2 fun h2=>hnot (.inl h2)
  rw [←h.same j hju]
  by_cases hjl:j<b.out.length
  ·exact A2m hpl _ (C9q _) j hjl fun i hi e=>hnot (.inr (by
    have:gI (C0 s.l) i∈s.l:=V9.1 (A7 hi)
    rw [e];exact D1X this))
  ·have e1:gU b.out j=default:=by unfold gU;rw [C9i,D1A (by omega)];rfl
   have e2:gU (A0S b.out (C0 s.l) (F4 us s.l - p.amount)) j=default:=by
    unfold gU;rw [C9i,D1A (by rw [hL.len];omega)];rfl
   rw [e1];exact e2
 ·rcases D0V.1 hx with hx | hx
  ·exact h.mem x hx
  ·exact hok.mem x (V9.1 hx)
 ·rw [C9E,O4]
  have:=h.len
  show _+tot p.parts.length s.es≤D
  omega
theorem B3z {p:A8} (hp:A2H p) {us:List A9} (hu:C4 us) {D:Nat}:∀ (m:Nat) {b:BSt},BOk p us D b→BOk p us D (A3A p us m b)
 | 0,b,h=>h
 | m+1,b,h=>by
  unfold A3A A3p
  cases hs:H0 p.parts p.parts.length ⟨b.ms.used,b.ms.es,[]⟩ with
  | none=>exact h
  | some s =>
   simp only
   by_cases hc:F4 us s.l>p.amount
   ·rw [if_pos hc]
    exact B3z hp hu m (h.step hp hu hs hc).2.1
   ·rw [if_neg hc];exact h
theorem A5Q {p:A8} {us:List A9} (hu:C4 us) {parts:List (List Int)} (hl:parts.length=p.parts.length) (hm:∀ k,k<parts.length→L2 us (parts.getD k [])):BOk p us (tot p.parts.length (F0 us parts).ms.es) (F0 us parts):=by
 refine ⟨Off.refl hu,fun j hj=>rfl,⟨by simp [F0],fun k hk e he=>A5n (hm k (by omega)).rng he,fun k hk=>A4W _,fun x hx=>by simp [F0] at hx⟩,fun x hx=>by simp [F0] at hx,?_⟩
 show 0+_≤_
 omega
theorem B0R {p:A8} (hp:A2H p) {us:List A9} (hu:C4 us) {parts:List (List Int)} (hl:parts.length=p.parts.length) (hm:∀ k,k<parts.length→L2 us (parts.getD k [])):Off us (P8 p us parts).1 (P8 p us parts).2:=by
 have h:=B3z hp hu (tot p.parts.length (F0 us parts).ms.es+1) (A5Q hu hl hm)
 unfold P8
 simp only
 split
 ·have h2:=Off.closeB (h.off.ok hu) (A3A p us (tot p.parts.length (F0 us parts).ms.es+1) (F0 us parts)).taken (fun x hx=>by rw [h.off.len];exact (h.mem x hx).2)
  have h3:=h.off.trans h2
  rw [D1C] at h3;exact h3
 ·exact h.off
end Go.Proofs.YtaapofnkmpiknaaGreat
namespace Go.Proofs.YtaapofnkmpiknaaGreat
open Go Go.Ab
attribute [local irreducible] upd del
theorem B2C (l:List (List Int)) (hl:l.length≤9223372036854775807) (g:FuncId) (cs:List AV) (p:(List Int)→Bool) (st:St)
  (hg:∀ x,x∈l→S P g (B2 x::cs) st fun v st'=>v=.bool (p x)∧st'=st) :
  S P 340 [B0 1 B2 l,.fn (.func g) [] cs] st fun v st'=>v=eI (idx p l)∧st'=st:=by
 refine F5 [] Tryz.func340 ?_
 refine ⟨[0,1,7,8],fun m vs st'=>∃ i:Nat,i≤l.length∧(∀ k,k<i→p (l.getD k default)=false)∧m=l.length - i∧vs=[B0 1 B2 l,.fn (.func g) [] cs,eI l.length,eI i]∧st'=st,?_,?_⟩
 ·conv=>whnf
  exact ⟨_,0,C9v _,fun k hk=>absurd hk (by omega),rfl,rfl,rfl⟩
 ·rintro m vs st' ⟨i,hi,hok,rfl,rfl,rfl⟩
  conv=>whnf
  cases h:decide ((i:Int)<(l.length:Int))
  ·have:=C9k h
   conv=>whnf
   refine ⟨?_,rfl⟩
   rw [L4 fun k hk=>hok k (by omega)];rfl
  ·have hi':i<l.length:=by have:=C9j h;omega
   conv=>whnf
   refine I8 ?_
   refine B6 (hg (l.getD (i:Int).toNat default) (by simp [hi'])) ?_
   rw [C9Q]
   cases hp:p (l.getD i default)
   ·conv=>whnf
    refine I9 ?_
    refine ⟨l.length - (i+1),by omega,i+1,by omega,fun k hk=>?_,rfl,by rw [C1 (by omega)],rfl⟩
    rcases C9T.1 hk with h' | h'
    ·exact hok k h'
    ·rw [h'];exact hp
   ·conv=>whnf
    refine ⟨?_,rfl⟩
    rw [V5 hi' hok hp];rfl
theorem B7m (l:List (List Int)) (hl:l.length≤9223372036854775807) (g:FuncId) (cs:List AV) (p:(List Int)→Bool) (st:St)
  (hg:∀ x,x∈l→S P g (B2 x::cs) st fun v st'=>v=.bool (p x)∧st'=st) :
  S P 327 [B0 1 B2 l,.fn (.func g) [] cs] st fun v st'=>v=.bool (l.any p)∧st'=st:=by
 refine F5 [] Tryz.func327 ?_
 refine J0 (B2C l hl g cs p st hg) ?_
 refine ⟨?_,rfl⟩
 rw [←W1];rfl
theorem B7v (us:List A9) (mine:List Int) (h:C4 us) (hm:L2 us mine) (st:St):S P 328 [B2 mine,.fptr (C5 us) 0] st fun v st'=>v=.bool false∧st'=st:=by
 refine F5 [] Tryz.func328 ?_
 refine J0 (A6Y us mine h hm st) ?_
 exact ⟨rfl,rfl⟩
theorem C0Z (p:A8) (us:List A9) (parts:List (List Int)) (hfit:K2 p) (hright:I6 p=true) (hk:p.kind=4) (hu:C4 us) (hl:parts.length=p.parts.length) (hl8:parts.length≤8) (hm:∀ x∈parts,L2 us x) (st:St) :
  S P 304 [B9 p,C5 us,B0 1 B2 parts] st fun v st'=>v=.bool true∧st'=st:=by
 refine F5 [3,4] Tryz.func304 ?_
 rw [hk];conv=>whnf
 refine B6 (A6D p hfit st) ?_
 rw [hright];conv=>whnf
 rw [hl]
 have e:((p.parts.length:Int) != (p.parts.length:Int))=false:=by simp
 rw [e];conv=>whnf
 refine J0 (B7m parts (by omega) _ [.fptr (C5 us) 0] (fun _=>false) st fun x hx=>B7v us x hu (hm x hx) st) ?_
 refine ⟨?_,rfl⟩
 have:(parts.any fun _=>false)=false:=by simp
 rw [this];rfl
theorem B1T {s:St} {a b:Nat} {y:H1} (h:a≠b) (hs:s a=none):upd s b y a=none:=by rw [A5 h];exact hs
theorem C1R {n B:Nat} {es:Nat→List QE} (h:∀ i,i<n→(es i).length≤B):tot n es≤n * B:=by
 induction n with
 | zero=>exact C9v _
 | succ n ih =>
  unfold tot
  have h1:=ih fun i hi=>h i (by omega)
  have h2:=h n (by omega)
  have h3:(n+1) * B=n * B+B:=Nat.succ_mul n B
  omega
structure Lay (p:A8) (us:List A9) (E:Nat→List QE) (base:St) (bm bu:Nat) (i:Nat) (q:Nat→Nat) (rv:AV) (t:St):Prop where
 nbm:base bm=none
 nbu:base bu=none
 ne:bu≠bm
 has:∃ f g,f 0=.agg (V3 p++[C5 us,.own 1 bu 0 us.length,rv])∧(∀ k,k<us.length→g k=eB false) ∧
  ROut (Qs i q E) 278 1 (fun k=>.optr 1 (q k) 0 0) i (upd (upd base bm ⟨363,18,1,f⟩) bu ⟨4,1,us.length,g⟩) rv t
theorem Lay.mk' {p:A8} {us:List A9} {E:Nat→List QE} {base:St} {bm bu i:Nat} {q:Nat→Nat} {rv:AV} {t:St} (h:Lay p us E base bm bu i q rv t) (hi:0<i) :
  ∃ br,rv=.own 1 br 0 i∧MkR ⟨p,us,bm,bu,br,i,q⟩ (List.replicate us.length false) E base t:=by
 obtain ⟨h1,h2,h3,f,g,hf,hg,s0,hc,hq⟩:=h
 rcases hc with ⟨e,_,_⟩ | ⟨_,br,y,hb,rfl,rfl,hy⟩
 ·omega
 refine ⟨br,rfl,h1,_,⟨f,rfl,by rw [D0i];exact hf⟩,B1T h3 h2,_,⟨g,by rw [D0i],fun k hk=>?_⟩,hb,_,⟨y,rfl,hy⟩,hq⟩
 rw [D0i] at hk
 rw [hg k hk];simp [hk]
theorem B6P (uv:AV) (st:St):S P 297 [uv,B2 []] st fun v st'=>v=.tuple []∧st'=st:=by
 refine F5 [] Tryz.func297 ?_
 refine A8l [0,6,7,8] ?_;conv=>whnf
 intro I;conv=>whnf
 exact ⟨rfl,rfl⟩
theorem B6L (p:A8) (us:List A9) (parts:List (List Int)) (hfit:K2 p) (hright:I6 p=true) (hk:p.kind=4) (hp:A2H p) (hu:C4 us) (hl:parts.length=p.parts.length) (hm:∀ x∈parts,L2 us x) (st:St) :
  S P 275 [B9 p,C5 us,B0 1 B2 parts] st fun v st'=>v=.tuple [C5 (P8 p us parts).1,eI (P8 p us parts).2]∧st'=st:=by
 refine S.post (post:=fun v st'=>∃ sv,v=.tuple [sv,eI (P8 p us parts).2]∧A2N st (P8 p us parts).1 sv st') ?_
  (fun v st' ⟨sv,hv,hr⟩=>⟨_,st,⟨rfl,rfl⟩,by rw [hv];exact A4.tuple (A4.cons hr.shift (A4.keep _ _)) rfl⟩)
 have hul:=hu.len
 have hn1:=hp.n1
 have hn8:=hp.n8
 have hme:∀ k,k<parts.length→L2 us (parts.getD k default):=fun k hk=>hm _ (A7 hk)
 have hst0:=A5Q hu hl (fun k hk=>hme k hk)
 generalize hE:(fun k=>E8 us (parts.getD k default))=E at *
 have hEk:∀ k,E k=E8 us (parts.getD k default):=fun k=>by rw [←hE]
 have hbs:F0 us parts=⟨us,⟨List.replicate us.length false,E,[]⟩,[],0⟩:=by rw [←hE];rfl
 have hD:tot p.parts.length (F0 us parts).ms.es≤800000:=by
  have:=C1R (n:=p.parts.length) (B:=100000) (es:=(F0 us parts).ms.es) (fun i hi=>by
   rw [hbs]
   show (E i).length≤100000
   rw [hEk,A8E]
   exact D0l (hme i (by omega)).len hul)
  have h2:p.parts.length * 100000≤8 * 100000:=D0e _ hn8
  omega
 have hB:P8 p us parts=(if p.closes=true then closeB (A3A p us (tot p.parts.length (F0 us parts).ms.es+1) (F0 us parts)).out (A3A p us (tot p.parts.length (F0 us parts).ms.es+1) (F0 us parts)).taken else (A3A p us (tot p.parts.length (F0 us parts).ms.es+1) (F0 us parts)).out,(A3A p us (tot p.parts.length (F0 us parts).ms.es+1) (F0 us parts)).all):=rfl
 refine F5 [3] Tryz.func275 ?_
 refine call (A6W us hul st) (fun sv base hcol=>?_)
 have hres:=A2N.ofCol hcol
 conv=>whnf
 refine J0 (C0Z p us parts hfit hright hk hu hl (by omega) hm _) ?_
 refine ⟨[4,6],[0],[0,1,2,3,4,5,6,7],by kernel_rfl,?_⟩;conv=>whnf
 refine ⟨_,fun s _=>⟨rfl,rfl⟩,?_⟩;conv=>whnf
 refine mkO rfl rfl rfl (by show 1 * us.length≤_;omega) (by omega) (by rfl) (fun bu hbu=>?_);conv=>whnf
 intro bm hbm
 have hne:bu≠bm:=fun e=>by subst e;rw [A0] at hbm;cases hbm
 rw [A5 hne.symm] at hbm;conv=>whnf
 have hlay0:Lay p us E base bm bu 0 (fun _=>0) .emp (upd (upd base bu ⟨4,r4.size,us.length,fun _=>H4 r4.zero⟩) bm ⟨363,18,1,fun _=>.agg (V3 p++[C5 us,.own 1 bu 0 us.length,.emp])⟩) :=
  ⟨hbm,hbu,hne,fun _=>.agg (V3 p++[C5 us,.own 1 bu 0 us.length,.emp]),fun _=>eB false,rfl,fun _ _=>rfl,by
   rw [L8 hne.symm]
   exact ROut.start (Qs.nil (E9.refl _)) _ _ _⟩
 refine ⟨[1,3,8,9,32,33,34],fun m vs t=>∃ (i:Nat) (q:Nat→Nat) (rv:AV),i≤parts.length∧m=parts.length - i∧vs=[C5 us,.fptr (B9 p) 0,sv,.optr 18 bm 0 0,B0 1 B2 parts,eI parts.length,eI i]∧Lay p us E base bm bu i q rv t,?_,?_⟩
 ·conv=>whnf
  exact ⟨_,0,_,.emp,C9v _,rfl,rfl,hlay0⟩
 ·clear hlay0
  rintro m vs t ⟨i,q,rv,hi,rfl,rfl,hlay⟩
  conv=>whnf
  cases h:decide ((i:Int)<(parts.length:Int))
  ·have:=C9k h
   have hin:i=p.parts.length:=by omega
   subst hin
   obtain ⟨br,rfl,hMk⟩:=hlay.mk' (by omega)
   clear hlay
   conv=>whnf
   refine ⟨[3,8,9,12,13],fun m vs t=>∃ (b:BSt) (svT:AV) (ba:St),BOk p us (tot p.parts.length (F0 us parts).ms.es) b∧tot p.parts.length b.ms.es<m∧A3A p us m b=A3A p us (tot p.parts.length (F0 us parts).ms.es+1) (F0 us parts)∧vs=[.fptr (B9 p) 0,sv,.optr 18 bm 0 0,svT,eI b.all]∧A2N st b.out sv ba∧ROut (MkR ⟨p,us,bm,bu,br,p.parts.length,q⟩ b.ms.used b.ms.es) 3 1 (fun k=>eI (gI b.taken k)) b.taken.length ba svT t,?_,?_⟩
   ·conv=>whnf
    refine ⟨_,F0 us parts,.emp,base,hst0,D1Z _,rfl,rfl,hres,?_⟩
    rw [hbs]
    exact ROut.start hMk _ _ _
   ·clear hMk hres
    rintro m vs t' ⟨b,svT,ba,hb,hlt,hF,rfl,hres,hout⟩
    obtain ⟨s0,hcol0,hMk⟩:=hout
    obtain ⟨m,rfl⟩:∃ n,m=n+1:=⟨m - 1,by omega⟩
    have hbl:=hb.len
    -- the end: what is closed
    have fin:∀ t2,E9 s0 t2→A3p p us b=none→(p.closes=true→∃ v3 t3,(∀ K:KK,(∀ t3,A2N st (closeB b.out b.taken) sv t3→K (.tuple []) t3)→U8 P 297 [sv,svT] t2 K)∧v3=AV.emp∧t3=t2)∧A2N st b.out sv t2∧P8 p us parts=(if p.closes=true then closeB b.out b.taken else b.out,b.all):=fun t2 hs2 hstep=>by
     have hbf:A3A p us (m+1) b=b:=by unfold A3A;rw [hstep]
     rw [hbf] at hF
     refine ⟨fun hc=>⟨.emp,t2,fun K hK=>?_,rfl,rfl⟩,?_,by rw [hB,←hF]⟩
     ·have hsh:A4 [svT] t2 [B2 b.taken] ba:=(hs2.shift _).trans hcol0.shift
      rcases hres.2 with ⟨h5,h6⟩ | ⟨bo,hb0,rfl,hHas⟩
      ·subst h6
       have hnil:b.taken=[]:=by
        cases hbt:b.taken with
        | nil=>rfl
        | cons x l =>
         have:=(hb.mem x (by rw [hbt];exact C9C ..)).2
         have h7:=hb.off.len
         rw [h5,D0B] at h7
         omega
       rw [hnil] at hsh
       refine D3 (args':=[.emp,B2 []]) (A4.cons (A4.keep _ _) hsh) (call (B6P _ ba) (fun v t3 hv=>?_))
       obtain ⟨rfl,rfl⟩:=hv
       refine hK _ ?_
       rw [h5,hnil]
       exact ⟨hres.1,.inl ⟨rfl,rfl⟩⟩
      ·refine D3 (args':=[.own 3 bo 0 b.out.length,B2 b.taken]) (A4.cons (A4.keep _ _) hsh) (call (A9x bo b.out b.taken (fun x hx=>by rw [hb.off.len];exact hb.mem x hx) (by omega) ba hHas) (fun v t3 hv=>?_))
       obtain ⟨rfl,hH3,hfr⟩:=hv
       refine hK _ ⟨fun x y hx=>?_,.inr ⟨bo,hb0,by rw [A1R],hH3⟩⟩
       rw [hfr x (fun e=>by subst e;rw [hb0] at hx;cases hx)];exact hres.1 x y hx
     ·have hsup:E9 ba t2:=hcol0.sup.trans hs2
      refine ⟨hres.1.trans hsup,?_⟩
      rcases hres.2 with h3 | ⟨bo,h3,h4,f,h5,h6⟩
      ·exact .inl h3
      ·exact .inr ⟨bo,h3,h4,f,hsup bo _ h5,h6⟩
    have hok0:MOk us p.parts.length ⟨b.ms.used,b.ms.es,[]⟩:=⟨hb.ok.len,hb.ok.rng,hb.ok.srt,fun x hx=>by simp at hx⟩
    conv=>whnf
    refine call (C1n ⟨p,us,bm,bu,br,p.parts.length,q⟩ rfl hp hu ⟨b.ms.used,b.ms.es,[]⟩ rfl hok0 s0 t' hMk) (fun v t2 hv=>?_)
    simp only at hv
    cases hs:H0 p.parts p.parts.length ⟨b.ms.used,b.ms.es,[]⟩ with
    | none =>
     rw [hs] at hv
     obtain ⟨rfl,hs2⟩:=hv
     obtain ⟨g1,g2,g3⟩:=fin t2 hs2 (by unfold A3p;rw [hs])
     rw [g3];conv=>whnf
     cases hc:p.closes with
     | true =>
      obtain ⟨_,_,g4,_,_⟩:=g1 hc
      conv=>whnf
      refine g4 _ (fun t3 h3=>?_);conv=>whnf
      exact ⟨_,rfl,h3⟩
     | false =>
      conv=>whnf
      exact ⟨_,rfl,g2⟩
    | some s =>
     rw [hs] at hv
     obtain ⟨rfl,hMk2⟩:=hv
     have hBs:=B3v ⟨p,us,bm,bu,br,p.parts.length,q⟩ s.used s.es
     by_cases hcost:F4 us s.l>p.amount
     ·obtain ⟨k1,k2,k3⟩:=hb.step hp hu hs hcost
      have hcost':decide (F4 us s.l>p.amount)=true:=D0r hcost
      have hstep:A3A p us (m+1) b=A3A p us m ⟨A0S b.out (C0 s.l) (F4 us s.l - p.amount),s,b.taken++C0 s.l,b.all+(F4 us s.l - p.amount)⟩:=by
       conv=>lhs;unfold A3A A3p
       rw [hs];simp only;rw [if_pos hcost]
      rw [hcost']
      have hlen:=A2e hp (C9q _) hs
      have htot:=A4d (n:=p.parts.length) (C9q _) hs
      have hpos:=A5W hp hs
      simp only [D0B] at hlen htot hpos
      rcases hres.2 with ⟨h5,h6⟩ | ⟨bo,hb0,rfl,f,hstb,hf⟩
      ·exfalso
       have:=(k1.places.rng 0 (by rw [O4];omega)).2
       rw [h5,D0B] at this
       omega
      have hou:=hb.off.ok hu
      have hout2:ROut (MkR ⟨p,us,bm,bu,br,p.parts.length,q⟩ s.used s.es) 3 1 (fun k=>eI (gI b.taken k)) b.taken.length ba svT t2:=⟨s0,hcol0,hMk2⟩
      conv=>whnf
      refine call (B9d bo b.out hou (C0 s.l) (by rw [O4];omega) k1.places _ k1.weights t2 ⟨f,hout2.sup hBs bo _ hstb,hf⟩) (fun v t3 hv=>?_)
      obtain ⟨rfl,f3,rfl,hf3⟩:=hv
      have hout3:=hout2.write hBs (y':=⟨223,3,b.out.length,f3⟩) hstb
      have hll:(A0S b.out (C0 s.l) (F4 us s.l - p.amount)).length=b.out.length:=by rw [k2.off.len,hb.off.len]
      conv=>whnf
      refine ROut.apps (q:=r3) (m:=s.l.length) (n:=b.taken.length) hBs rfl rfl rfl rfl (B0s (O4 s.l) _) (f:=fun k=>eI (gI (b.taken++C0 s.l) k)) (fun i hi=>?_) (by show (b.taken.length+s.l.length) * 8≤140737488355328;omega) (hout3.congr fun k hk=>by rw [O2 hk]) (fun sv' t4 hout4=>?_)
      ·show eI (gI (C0 s.l) i)=eI (gI (b.taken++C0 s.l) (b.taken.length+i))
       unfold gI
       rw [C9i,C9i,C9B (by omega),Nat.add_sub_cancel_left]
      have hX1:=hb.off.pos
      have hX3:=k2.off.sum
      have hX4:=B8 (k2.off.ok hu).nets0
      have hX5:=hu.sum
      have hX6:=k1.weights.t0
      simp only at hX3 hX4
      conv=>whnf
      refine I9 ?_
      refine ⟨m,D1Z _,⟨A0S b.out (C0 s.l) (F4 us s.l - p.amount),s,b.taken++C0 s.l,b.all+(F4 us s.l - p.amount)⟩,sv',upd ba bo ⟨223,3,b.out.length,f3⟩,k2,by show tot p.parts.length s.es<m;omega,by rw [←hstep];exact hF,?_,?_,?_⟩
      ·have w:IntKind.i64.wrap (b.all+(F4 us s.l - p.amount))=b.all+(F4 us s.l - p.amount):=A6 (by omega) (by omega)
       show [AV.fptr (B9 p) 0,AV.own 3 bo 0 b.out.length,AV.optr 18 bm 0 0,sv',eI (IntKind.i64.wrap (b.all+(F4 us s.l - p.amount)))]=_
       rw [w]
      ·exact ⟨hres.1.over hb0,.inr ⟨bo,hb0,by show AV.own 3 bo 0 b.out.length=_;rw [hll],f3,by rw [A0,hll],by rw [hll];exact hf3⟩⟩
      ·show ROut _ _ _ _ (b.taken++C0 s.l).length _ _ _
       rw [C9E,O4];exact hout4
     ·have hcost':decide (F4 us s.l>p.amount)=false:=C9s hcost
      obtain ⟨g1,g2,g3⟩:=fin t2 (hBs.sup hMk2) (by unfold A3p;rw [hs];simp only;rw [if_neg hcost])
      rw [g3,hcost'];conv=>whnf
      cases hc:p.closes with
      | true =>
       obtain ⟨_,_,g4,_,_⟩:=g1 hc
       conv=>whnf
       refine g4 _ (fun t3 h3=>?_);conv=>whnf
       exact ⟨_,rfl,h3⟩
      | false =>
       conv=>whnf
       exact ⟨_,rfl,g2⟩
  ·have hi':i<parts.length:=by have:=C9j h;omega
   have hmi:=hme i hi'
   have hml:=hmi.len
   obtain ⟨l1,l2,l3,f,g,hf,hg,hout⟩:=hlay
   have hbmS:∀ {n:Nat} {q:Nat→Nat} {E:Nat→List QE} {rv:AV} {fo:Nat→AV} {n':Nat} {t:St},ROut (Qs n q E) 278 1 fo n' (upd (upd base bm ⟨363,18,1,f⟩) bu ⟨4,1,us.length,g⟩) rv t→t bm=some ⟨363,18,1,f⟩:=fun h =>
    h.sup (A0r _ _ _) bm _ (by rw [A5 l3.symm,A0])
   -- what is behind the call and the append
   have after:∀ (q':Nat) (t2:St),T8 t q' true (E8 us (parts.getD i default)) t2→ROut (Qs (i+1) (Q7 q i q') E) 278 1 (fun k=>.optr 1 (Q7 q i q' k) 0 0) i (upd (upd base bm ⟨363,18,1,f⟩) bu ⟨4,1,us.length,g⟩) rv t2:=fun q' t2 hq'=>by
    obtain ⟨s0,hc,hqs⟩:=hout
    refine ⟨s0,Col.congr hc fun k hk=>by rw [G3 (by omega)],?_⟩
    refine (hqs.add hq').congr (fun _ _=>rfl) fun k hk=>?_
    by_cases e:k=i
    ·subst e;rw [D5,hEk]
    ·rw [G3 e]
   conv=>whnf
   refine I8 ?_
   refine ⟨[4,7,9,12],[],[],.qui 0 (.qui 1 (.qui 2 (.qui 3 (.qui 5 (.qui 6 (.two 4 7 (.gen 7 (.qui 8 (.gen 9 (.qui 10 (.qui 11 (.gen 12 .done)))))) (.qui 4 (.qui 8 (.gen 9 (.qui 10 (.qui 11 (.gen 12 .done)))))))))))),by kernel_rfl,?_⟩;conv=>whnf
   have stored:∀ (q':Nat) (rv':AV) (t4:St),ROut (Qs (i+1) (Q7 q i q') E) 278 1 (fun k=>.optr 1 (Q7 q i q' k) 0 0) (i+1) (upd (upd base bm ⟨363,18,1,f⟩) bu ⟨4,1,us.length,g⟩) rv' t4→Lay p us E base bm bu (i+1) (Q7 q i q') rv' (upd t4 bm ⟨363,18,1,G8 f 0 (.agg (V3 p++[C5 us,.own 1 bu 0 us.length,rv']))⟩):=fun q' rv' t4 h4=>by
    refine ⟨l1,l2,l3,G8 f 0 (.agg (V3 p++[C5 us,.own 1 bu 0 us.length,rv'])),g,B4 ..,hg,?_⟩
    have h5:=h4.write (A0r _ _ _) (b:=bm) (y':=⟨363,18,1,G8 f 0 (.agg (V3 p++[C5 us,.own 1 bu 0 us.length,rv']))⟩) (by rw [A5 l3.symm,A0])
    rw [L8 l3,I2] at h5
    exact h5
   have fin3:∀ (q':Nat) (rv':AV) (t5:St),Lay p us E base bm bu (i+1) (Q7 q i q') rv' t5→∃ m',m'<parts.length - i∧∃ (i_1:Nat) (q:Nat→Nat) (rv:AV),i_1≤parts.length∧m'=parts.length - i_1∧[C5 us,AV.fptr (B9 p) 0,sv,AV.optr 18 bm 0 0,B0 1 B2 parts,eI parts.length,eI (IntKind.i64.wrap ((i:Int)+1))]=[C5 us,.fptr (B9 p) 0,sv,.optr 18 bm 0 0,B0 1 B2 parts,eI parts.length,eI i_1]∧Lay p us E base bm bu i_1 q rv t5 :=
    fun q' rv' t5 h5=>⟨parts.length - (i+1),by omega,i+1,_,rv',by omega,rfl,by rw [C1 (by omega)],h5⟩
   rcases hout.head with rfl | ⟨br,rfl⟩<;>conv=>whnf
   all_goals constructor
   all_goals conv=>whnf
   case inl.left | inr.left =>
    refine K9 (hbmS hout) hf ?_
    refine call (A5o us (parts.getD i default) hul (by omega) hmi.rng t) (fun v t2 hv=>?_)
    obtain ⟨q',rfl,hq'⟩:=hv
    have hout2:=after q' t2 hq'
    conv=>whnf
    refine ⟨_,⟨rfl,rfl⟩,?_⟩;conv=>whnf
    refine ROut.app (q:=B9P) (A0r _ _ _) rfl rfl rfl rfl rfl (by simp only [D5];rfl) (by show (i+1) * 8≤140737488355328;omega) hout2 (fun rv' t4 hout4=>?_)
    rcases hout4.head with e | ⟨br',e⟩<;>subst e
    all_goals conv=>whnf
    all_goals refine stV (hbmS hout4) rfl (by omega) hf (by rfl) ?_
    all_goals conv=>whnf
    all_goals refine ⟨rfl,?_⟩
    all_goals conv=>whnf
    all_goals exact fin3 _ _ _ (stored q' _ _ hout4)
   case inl.right | inr.right =>
    refine call (A5o us (parts.getD i default) hul (by omega) hmi.rng t) (fun v t2 hv=>?_)
    obtain ⟨q',rfl,hq'⟩:=hv
    have hout2:=after q' t2 hq'
    conv=>whnf
    refine K9 (hbmS hout2) hf ?_
    refine ⟨_,⟨rfl,rfl⟩,?_⟩;conv=>whnf
    refine ROut.app (q:=B9P) (A0r _ _ _) rfl rfl rfl rfl rfl (by simp only [D5];rfl) (by show (i+1) * 8≤140737488355328;omega) hout2 (fun rv' t4 hout4=>?_)
    rcases hout4.head with e | ⟨br',e⟩<;>subst e
    all_goals conv=>whnf
    all_goals refine stV (hbmS hout4) rfl (by omega) hf (by rfl) ?_
    all_goals conv=>whnf
    all_goals refine ⟨rfl,?_⟩
    all_goals conv=>whnf
    all_goals exact fin3 _ _ _ (stored q' _ _ hout4)
def inB (l:List C9) (s:C9):Bool:=l.any fun y=>s.toList==y.toList
theorem B7t (l:List C9) (s:C9) (hl:l.length≤9223372036854775807) (st:St):S P 312 [E3 l,eS s] st fun v st'=>v=.bool (inB l s)∧st'=st:=by
 refine F5 [] Tryz.func312 ?_
 refine J0 (B5a l hl s st) ?_
 exact ⟨rfl,rfl⟩
def B2x (s:R4) (x:Ab.Item):Bool:=(s.skus.length+s.cats.length==0)||inB s.skus x.sku||inB s.cats x.cat
theorem C1C (s:R4) (x:Ab.Item) (h1:s.skus.length≤20) (h2:s.cats.length≤20) (st:St):S P 292 [A9z s,H2 x] st fun v st'=>v=.bool (B2x s x)∧st'=st:=by
 refine F5 [2,3] Tryz.func292 ?_
 have w:IntKind.i64.wrap ((s.skus.length:Int)+(s.cats.length:Int))=((s.skus.length+s.cats.length:Nat):Int):=by rw [A6 (by omega) (by omega)];omega
 rw [w,B3X]
 refine B7 (fun h=>?_) (fun h=>?_)<;>rw [h]
 ·conv=>whnf
  refine ⟨?_,rfl⟩
  unfold B2x;rw [h];rfl
 ·conv=>whnf
  refine J0 (B7t s.skus x.sku (by omega) st) ?_
  refine B7 (fun h3=>?_) (fun h3=>?_)<;>rw [h3]
  ·conv=>whnf
   refine ⟨?_,rfl⟩
   unfold B2x;rw [h,h3];rfl
  ·conv=>whnf
   refine J0 (B7t s.cats x.cat (by omega) st) ?_
   refine ⟨?_,rfl⟩
   unfold B2x;rw [h,h3];rfl
theorem O1:G4 E9 where
 sup:=fun h=>h
 begin:=fun {s t b y} h hb=>fun c x hc=>by
  by_cases e:c=b
  ·subst e;rw [A0] at hc ⊢;exact hc
  ·rw [A5 e] at hc ⊢;exact h c x hc
 grow:=fun {s t b b' y y'} h h0 hb=>by
  have hsub:∀ c x,s c=some x→c≠b∧t c=some x:=fun c x hc=>by
   have hne:c≠b:=fun e=>by subst e;rw [h0] at hc;cases hc
   exact ⟨hne,h c x (by rw [A5 hne];exact hc)⟩
  have hb':s b'=none:=by
   rcases hb with e | e
   ·rw [e];exact h0
   ·cases hx:s b' with
    | none=>rfl
    | some x=>rw [(hsub _ _ hx).2] at e;cases e
  refine ⟨hb',fun c x hc=>?_⟩
  by_cases e:c=b'
  ·subst e;rw [A0] at hc ⊢;exact hc
  ·rw [A5 e] at hc ⊢
   rw [A0s (hsub c x hc).1];exact (hsub c x hc).2
 write:=fun {s t b y y'} h hb=>E9.write (y:=y) h
 forget:=fun {s t b y} h h0=>fun c x hc=>by
  have hne:c≠b:=fun e=>by subst e;rw [h0] at hc;cases hc
  rw [A0s hne];exact h c x (by rw [A5 hne];exact hc)
 drop:=fun {s t b y} h h0=>E9.drop h h0
theorem B6I {ι : Type} {R : ι→St→St→Prop} (h:∀ i,G4 (R i)):G4 fun s t=>∃ i,R i s t where
 sup:=fun ⟨i,hi⟩=>(h i).sup hi
 begin:=fun ⟨i,hi⟩ hb=>⟨i,(h i).begin hi hb⟩
 grow:=fun ⟨i,hi⟩ h0 hb=>⟨((h i).grow (y':=⟨0,0,0,fun _=>.junk⟩) hi h0 hb).1,i,((h i).grow hi h0 hb).2⟩
 write:=fun ⟨i,hi⟩ hb=>⟨i,(h i).write hi hb⟩
 forget:=fun ⟨i,hi⟩ h0=>⟨i,(h i).forget hi h0⟩
 drop:=fun ⟨i,hi⟩ h0=>⟨i,(h i).drop hi h0⟩
theorem Col.off {ty e n:Nat} {fo:Nat→AV} {s s0:St} {sv:AV} (h:Col ty e fo s n sv s0) {b:Nat} (hb:s0 b=none):s b=none:=by
 rcases h with ⟨_,_,rfl⟩ | ⟨_,bo,g,h1,_,rfl,_⟩
 ·exact hb
 ·by_cases e:b=bo
  ·subst e;exact h1
  ·rw [A5 e] at hb;exact hb
theorem Col.under {ty e n:Nat} {fo:Nat→AV} {s s0:St} {sv:AV} (h:Col ty e fo s n sv s0) {b:Nat} {y:H1} (hb:s0 b=none):Col ty e fo (upd s b y) n sv (upd s0 b y):=by
 rcases h with ⟨rfl,rfl,rfl⟩ | ⟨h0,bo,g,h1,rfl,rfl,h3⟩
 ·exact Col.start _ _ _ _
 ·have hne:bo≠b:=fun e=>by subst e;rw [A0] at hb;cases hb
  exact .inr ⟨h0,bo,g,by rw [A5 hne];exact h1,rfl,L8 hne,h3⟩
theorem Col.split {ty e n:Nat} {fo:Nat→AV} {s s0:St} {sv:AV} {b:Nat} {y:H1} (h:Col ty e fo (upd s b y) n sv s0) (hb:s b=none):∃ s1,s1 b=none∧s0=upd s1 b y∧Col ty e fo s n sv s1:=by
 rcases h with ⟨rfl,rfl,rfl⟩ | ⟨h0,bo,g,h1,rfl,rfl,h3⟩
 ·exact ⟨s,hb,rfl,Col.start _ _ _ _⟩
 ·have hne:bo≠b:=fun e=>by subst e;rw [A0] at h1;cases h1
  rw [A5 hne] at h1
  exact ⟨upd s bo ⟨ty,e,n,g⟩,by rw [A5 hne.symm];exact hb,L8 hne.symm,.inr ⟨h0,bo,g,h1,rfl,rfl,h3⟩⟩
theorem V2 {R:St→St→Prop} (hR:G4 R) (ty e:Nat) (fo:Nat→AV) (n:Nat) (sv:AV):G4 fun s t=>ROut R ty e fo n s sv t where
 sup:=fun h=>h.sup hR
 begin:=fun {s t b y} ⟨s0,hc,h⟩ hb=>⟨upd s0 b y,Col.under hc ((hR.sup h).none hb),hR.begin h hb⟩
 grow:=fun {s t b b' y y'} ⟨s0,hc,h⟩ h0 hb=>by
  obtain ⟨s1,h1,rfl,hc1⟩:=Col.split hc h0
  obtain ⟨g1,g2⟩:=hR.grow (y':=y') h h1 hb
  exact ⟨Col.off hc1 g1,_,Col.under hc1 g1,g2⟩
 write:=fun {s t b y y'} ⟨s0,hc,h⟩ hb=>⟨_,Col.write hc hb,hR.write h (hc.sup b y hb)⟩
 forget:=fun {s t b y} ⟨s0,hc,h⟩ h0=>by
  obtain ⟨s1,h1,rfl,hc1⟩:=Col.split hc h0
  exact ⟨s1,hc1,hR.forget h h1⟩
 drop:=fun {s t b y} ⟨s0,hc,h⟩ h0=>by
  obtain ⟨s1,h1,rfl,hc1⟩:=Col.split hc h0
  exact ⟨s1,hc1,hR.drop h h1⟩
structure Z7 where
 us:List A9
 deals:List A0Z
 groups:List C9
abbrev A1U (l:List A0Z):Nat→AV:=fun k=>B6T (l.getD k default)
abbrev A7c (l:List C9):Nat→AV:=fun k=>eS (l.getD k default)
def IsP (items:List Ab.Item) (us:List A9) (dv gv:AV) (y:H1):Prop:=∃ f,y=⟨239,4,1,f⟩∧f 0=.agg [B0 4 H2 items,C5 us,dv,gv]
def RG (groups:List C9) (gv:AV):St→St→Prop:=fun s t=>ROut E9 9 1 (A7c groups) groups.length s gv t
def RD (deals:List A0Z) (groups:List C9) (dv gv:AV):St→St→Prop:=fun s t=>ROut (RG groups gv) 221 2 (A1U deals) deals.length s dv t
def PxR (bx:Nat) (items:List Ab.Item) (p:Z7):St→St→Prop:=fun s t=>∃ v:AV×AV,R8 bx (IsP items p.us v.1 v.2) (RD p.deals p.groups v.1 v.2) s t
theorem A6u (groups:List C9) (gv:AV):G4 (RG groups gv):=V2 O1 _ _ _ _ _
theorem A1N (deals:List A0Z) (groups:List C9) (dv gv:AV):G4 (RD deals groups dv gv):=V2 (A6u groups gv) _ _ _ _ _
theorem A1O (bx:Nat) (items:List Ab.Item) (p:Z7):G4 (PxR bx items p):=B6I fun _=>Z8 (A1N _ _ _ _)
theorem PxR.at {bx:Nat} {items:List Ab.Item} {p:Z7} {s t:St} (h:PxR bx items p s t):∃ dv gv f,t bx=some ⟨239,4,1,f⟩∧f 0=.agg [B0 4 H2 items,C5 p.us,dv,gv]∧(dv=.emp∨∃ b,dv=.own 2 b 0 p.deals.length)∧(gv=.emp∨∃ b,gv=.own 1 b 0 p.groups.length):=by
 obtain ⟨⟨dv,gv⟩,h⟩:=h
 obtain ⟨y,⟨f,rfl,hf⟩,hy⟩:=R8.at (A1N _ _ _ _) h
 obtain ⟨_,_,_,hd⟩:=h
 obtain ⟨s0,hc,hg⟩:=hd
 refine ⟨dv,gv,f,hy,hf,?_,?_⟩
 ·exact (show ROut (RG p.groups gv) _ _ _ _ _ dv t from ⟨s0,hc,hg⟩).head
 ·exact hg.head
def V6 (sc:R4) (items:List Ab.Item) (u:A9):Bool:=u.opn&&B2x sc (items.getD u.line.toNat default)
def H3 (sc:R4) (items:List Ab.Item) (us:List A9) (i:Nat):List Int:=((List.range i).filter fun k=>V6 sc items (gU us k)).map Int.ofNat
theorem B2E (sc:R4) (items:List Ab.Item) (us:List A9) (i:Nat):H3 sc items us (i+1)=H3 sc items us i++(if V6 sc items (gU us i)=true then [(i:Int)] else []):=by
 unfold H3
 rw [D1m,D1g,C9P]
 congr 1
 by_cases h:V6 sc items (gU us i)=true
 ·rw [if_pos h,D0o (p:=fun k=>V6 sc items (gU us k)) h];rfl
 ·rw [if_neg h,D0w (p:=fun k=>V6 sc items (gU us k)) h];rfl
theorem A5y (sc:R4) (items:List Ab.Item) (us:List A9) (i:Nat):(H3 sc items us i).length≤i:=by
 unfold H3
 rw [C9o]
 exact D0l (D1B ..) (by simp)
theorem A1s (sc:R4) (items:List Ab.Item) (us:List A9):L2 us (H3 sc items us us.length):=by
 have hmem:∀ k,k<(H3 sc items us us.length).length→∃ j:Nat,gI (H3 sc items us us.length) k=(j:Int)∧j<us.length∧V6 sc items (gU us j)=true:=fun k hk=>by
  have h:=A7 (l:=H3 sc items us us.length) hk
  obtain ⟨j,hj,he⟩:=C9H.1 h
  obtain ⟨h1,h2⟩:=D0C.1 hj
  exact ⟨j,he.symm,C9S.1 h1,h2⟩
 refine ⟨fun k hk=>?_,fun k hk=>?_,fun k hk=>?_⟩
 ·obtain ⟨j,e,h1,h2⟩:=hmem k hk
  rw [e];omega
 ·obtain ⟨j,e,h1,h2⟩:=hmem k hk
  rw [e]
  unfold V6 at h2
  rw [C9l] at h2
  exact h2.1
 ·have hs:(H3 sc items us us.length).Pairwise (·<·):=by
   unfold H3
   refine List.Pairwise.map _ (fun a b h=>?_) ((List.pairwise_lt_range (n:=us.length)).filter _)
   show (a:Int)<(b:Int)
   omega
  have:=D1F.1 hs k (k+1) (by omega) hk (by omega)
  simpa [gI,hk,show k<(H3 sc items us us.length).length by omega] using this
theorem B7o (bx:Nat) (items:List Ab.Item) (p:Z7) (sc:R4) (h1:sc.skus.length≤20) (h2:sc.cats.length≤20) (hu:p.us.length≤100000) (hi:items.length≤100000) (hl:∀ u∈p.us,0≤u.line∧u.line.toNat<items.length) (s t:St) (h:PxR bx items p s t) :
  S P 269 [.optr 4 bx 0 0,A9z sc] t fun v t'=>v=B2 (H3 sc items p.us p.us.length)∧t'=t:=by
 refine S.post (post:=fun v t'=>∃ t1,E9 t t1∧Col 3 1 (fun k=>eI (gI (H3 sc items p.us p.us.length) k)) t1 (H3 sc items p.us p.us.length).length v t') ?_
  (fun v t' ⟨t1,hs,hc⟩=>⟨_,t,⟨rfl,rfl⟩,hc.shift.trans (hs.shift _)⟩)
 obtain ⟨dv,gv,fx,hx,hx0,hdv,hgv⟩:=h.at
 refine F5 [3,7,10] Tryz.func269 ?_
 refine K9 hx hx0 ?_
 refine ⟨[0,3,5,14,15,16],fun m vs t'=>∃ (i:Nat) (sv:AV),i≤items.length∧m=items.length - i∧vs=[.optr 4 bx 0 0,.fptr (A9z sc) 0,sv,B0 4 H2 items,eI items.length,eI i]∧Col 4 1 (fun k=>eB (B2x sc (items.getD k default))) t i sv t',?_,?_⟩
 ·conv=>whnf
  exact ⟨_,0,.emp,C9v _,rfl,rfl,Col.start _ _ _ _⟩
 ·rintro m vs t' ⟨i,sv,hi2,rfl,rfl,hcol⟩
  conv=>whnf
  cases hd:decide ((i:Int)<(items.length:Int))
  ·have:=C9k hd
   obtain rfl:i=items.length:=by omega
   have hx':=hcol.sup bx _ hx
   conv=>whnf
   refine K9 hx' hx0 ?_
   refine ⟨[5,8,30,31,32],fun m vs t2=>∃ (k:Nat) (sv2:AV),k≤p.us.length∧m=p.us.length - k∧vs=[sv,sv2,C5 p.us,eI p.us.length,eI k]∧Col 3 1 (fun j=>eI (gI (H3 sc items p.us k) j)) t' (H3 sc items p.us k).length sv2 t2,?_,?_⟩
   ·conv=>whnf
    exact ⟨_,0,.emp,C9v _,rfl,rfl,Col.start _ _ _ _⟩
   ·rintro m vs t2 ⟨k,sv2,hk,rfl,rfl,hcol2⟩
    have hpl:=A5y sc items p.us k
    conv=>whnf
    cases hd2:decide ((k:Int)<(p.us.length:Int))
    ·have:=C9k hd2
     obtain rfl:k=p.us.length:=by omega
     conv=>whnf
     exact ⟨t',hcol.sup,hcol2⟩
    ·have hk':k<p.us.length:=by have:=C9j hd2;omega
     have hlk:0≤(gU p.us k).line∧(gU p.us k).line.toNat<items.length:=hl _ (A7 (l:=p.us) hk')
     have es:=B2E sc items p.us k
     conv=>whnf
     refine I8 ?_
     have fin:∀ (sv3:AV) (t3:St),Col 3 1 (fun j=>eI (gI (H3 sc items p.us (k+1)) j)) t' (H3 sc items p.us (k+1)).length sv3 t3→∃ m',m'<p.us.length - k∧∃ (k_1:Nat) (sv2:AV),k_1≤p.us.length∧m'=p.us.length - k_1∧[sv,sv3,C5 p.us,eI p.us.length,eI (IntKind.i64.wrap ((k:Int)+1))]=[sv,sv2,C5 p.us,eI p.us.length,eI k_1]∧Col 3 1 (fun j=>eI (gI (H3 sc items p.us k_1) j)) t' (H3 sc items p.us k_1).length sv2 t3 :=
      fun sv3 t3 hc=>⟨p.us.length - (k+1),by omega,k+1,sv3,by omega,rfl,by rw [C1 (by omega)],hc⟩
     refine B7 (fun h3=>?_) (fun h3=>?_)<;>rw [h3]
     ·rcases hcol with ⟨h0,rfl,rfl⟩ | ⟨h0,b,g,hb,rfl,rfl,hg⟩
      ·exfalso;omega
      have hbt:=hcol2.sup b _ (A0 ..)
      have hgk:g (0+(gU p.us k).line.toNat)=eB (B2x sc (items.getD (gU p.us k).line.toNat default)):=by rw [C9y];exact hg _ hlk.2
      conv=>whnf
      refine ⟨rfl,⟨by show 0≤(gU p.us k).line;exact hlk.1,by show (gU p.us k).line<(items.length:Int);have:=hlk.2;have:=hlk.1;omega⟩,?_⟩;conv=>whnf
      refine ldV hbt rfl (by show 0+(gU p.us k).line.toNat<_;have:=hlk.2;omega) hgk ?_;conv=>whnf
      refine B7 (fun h4=>?_) (fun h4=>?_)<;>rw [h4]
      ·have ho:V6 sc items (gU p.us k)=true:=by
        unfold V6;rw [show (gU p.us k).opn=true from h3,h4];rfl
       rw [if_pos ho] at es
       have el:(H3 sc items p.us (k+1)).length=(H3 sc items p.us k).length+1:=by rw [es];simp
       conv=>whnf
       refine Col.app (q:=r3) rfl rfl rfl rfl rfl (f:=fun j=>eI (gI (H3 sc items p.us (k+1)) j)) (by simp only [es,A9C];rfl) (by show ((H3 sc items p.us k).length+1) * 8≤140737488355328;omega) (hcol2.congr fun j hj=>by rw [es,O2 hj]) (fun sv3 t3 hc3=>?_);conv=>whnf
       refine I9 ?_
       exact fin sv3 t3 (by rw [el];exact hc3)
      ·have ho:¬ V6 sc items (gU p.us k)=true:=by
        unfold V6;rw [h4];simp
       rw [if_neg ho,D1R] at es;conv=>whnf
       refine I9 ?_
       exact fin sv2 t2 (by rw [es];exact hcol2)
     ·have ho:¬ V6 sc items (gU p.us k)=true:=by
       unfold V6;rw [show (gU p.us k).opn=false from h3];simp
      rw [if_neg ho,D1R] at es;conv=>whnf
      refine I9 ?_
      exact fin sv2 t2 (by rw [es];exact hcol2)
  ·have hi':i<items.length:=by have:=C9j hd;omega
   conv=>whnf
   refine I8 ?_
   refine J0 (C1C sc (items.getD i default) h1 h2 _) ?_
   refine Col.app (q:=r4) rfl rfl rfl rfl rfl rfl (by show (i+1) * 1≤140737488355328;omega) hcol (fun sv' t2 hcol'=>?_);conv=>whnf
   refine I9 ?_
   exact ⟨items.length - (i+1),by omega,i+1,sv',by omega,rfl,by rw [C1 (by omega)],hcol'⟩
end Go.Proofs.YtaapofnkmpiknaaGreat
namespace Go.Proofs.YtaapofnkmpiknaaGreat
open Go Go.Ab Go.Proofs Go.Sort Go.Lib
attribute [local irreducible] upd del
def scF (x:Nat):Nat:=match x with
 | 43=>274
 | n=>n
def scT (x:Nat):Nat:=match x with
 | 22=>29
 | 23=>3
 | 0=>0
 | 3=>3
 | 4=>4
 | n=>n
def C4j:Go.Shelf.Ren:={ f:=scF,t:=scT,g:=fun n=>n }
theorem C0x:SlLaysE.n43 Tryz.prog C4j where
 mixed:=by kernel_rfl
 f43 := ⟨"slices.Compact[[]int,int]", by decide, Tryz.func274.trans (D1j some (by kernel_rfl))⟩
 t0:=Tryz.underlying0
 a0:=Tryz.isAgg0
 z0:=Tryz.sizeOf0
 v0:=Tryz.zeroValue0
 t3:=Tryz.underlying3
 a3:=Tryz.isAgg3
 z3:=Tryz.sizeOf3
 v3:=Tryz.zeroValue3
 t4:=Tryz.underlying4
 a4:=Tryz.isAgg4
 z4:=Tryz.sizeOf4
 v4:=Tryz.zeroValue4
 t22:=Tryz.underlying29
 a22:=Tryz.isAgg29
 z22:=Tryz.sizeOf29
 v22:=Tryz.zeroValue29
 a23:=Tryz.isAgg3
 z23:=Tryz.sizeOf3
def T3 (l:List Int):List Int:=compactUpTo l.toArray l.length
def A4B (l:List Int):List Int:=T3 l++List.replicate (l.length - (T3 l).length) 0
theorem A5m (l:List Int):(T3 l).length≤l.length:=by
 unfold T3 compactUpTo
 rw [C9o]
 exact D0l (D1B ..) (by simp)
theorem A8C (l:List Int):(A4B l).length=l.length:=by
 have:=A5m l
 unfold A4B;rw [C9E,D0i];omega
def A3a (l':List Int):H1:=⟨3,1,l'.length,fun k=>eI (gI l' k)⟩
theorem B9T {st:St} {w:World} {b n:Nat} {l l':List Int} (hl:l'.length=l.length) (hb:A2I st b l) (hS:E0 st w) :
  P6 st w (upd st b (A3a l')) (putRow (Value.int .i64) (Sort.ahead w n) b 0 l'.toArray)∧E0 (upd st b (A3a l')) (putRow (Value.int .i64) (Sort.ahead w n) b 0 l'.toArray):=by
 obtain ⟨f,hst,hf⟩:=hb
 obtain ⟨cs,hok⟩:=hS b _ hst
 have hbl:b<w.heap.size:=(C9U.1 hok.heap).1
 have hsz:l.length * 1≤cs.size:=hok.size
 have hheap:∀ c,c<w.heap.size→(putRow (Value.int .i64) (Sort.ahead w n) b 0 l'.toArray).heap[c]?=if b=c then some (.cells (putCells (Value.int .i64) 0 l'.toArray cs) 3 (0,0)) else w.heap[c]?:=fun c hc=>by
  show (w.heap.modify b (onCells (putCells (Value.int .i64) 0 l'.toArray)))[c]?=_
  rw [D1w]
  split
  ·rename_i e;subst e;rw [hok.heap];rfl
  ·rfl
 have hev:P6 st w (upd st b (A3a l')) (putRow (Value.int .i64) (Sort.ahead w n) b 0 l'.toArray):=by
  refine ⟨rfl,rfl,rfl,?_,fun c hc hs=>?_,fun c=>?_⟩
  ·show w.heap.size≤(w.heap.modify b _).size
   simp
  ·have hne:b≠c:=fun e=>by subst e;rw [hst] at hs;cases hs
   rw [hheap c hc,if_neg hne]
   exact ⟨rfl,by rw [A5 hne.symm];exact hs⟩
  ·by_cases hc:c<w.heap.size
   ·unfold S8
    rw [hheap c hc]
    by_cases e:b=c
    ·subst e
     rw [hok.heap,if_pos rfl]
     simp [putCells]
    ·rw [if_neg e];exact C9q _
   ·unfold S8
    rw [D1k (by omega)]
    exact C9v _
 refine ⟨hev,fun c x hx=>?_⟩
 by_cases e:c=b
 ·subst e
  rw [A0] at hx
  cases hx
  refine ⟨putCells (Value.int .i64) 0 l'.toArray cs,?_,?_,fun i hi=>rfl,fun i hi=>rfl,fun i j y hi hy=>?_⟩
  ·rw [hheap c hbl,if_pos rfl];rfl
  ·show l'.length * 1≤_
   rw [hl]
   simpa [putCells] using hsz
  ·have hi':i<l'.length:=hi
   cases j with
   | succ j=>simp [A3a,A2] at hy
   | zero =>
    have hy':y=eI (gI l' i):=by simpa [A3a,A2] using hy.symm
    subst hy'
    refine ⟨.int .i64 (gI l' i),?_,.int _ _⟩
    show (putCells (Value.int .i64) 0 l'.toArray cs)[i * 1+0]?=_
    unfold putCells
    rw [Array.getElem?_mapIdx,Nat.mul_one,D1p,C9r (by omega),D0U]
    rw [if_pos ⟨by omega,by simp;omega⟩,Nat.sub_zero]
    have:l'.toArray[i]! = gI l' i:=by
     rw [getElem!_pos _ i (by simp;omega)]
     simp [gI,hi']
    rw [this]
 ·rw [A5 e] at hx
  obtain ⟨ds,hd⟩:=hS c x hx
  have hcl:c<w.heap.size:=(C9U.1 hd.heap).1
  exact ⟨ds,hd.evo hev (by rw [hheap c hcl,if_neg (fun e'=>e e'.symm)])⟩
theorem C1p:OneCell (Value.int .i64):=fun x=>rfl
theorem B4K (b:Nat) (l:List Int) (hl:l.length≤4611686018427387904) (st:St) (hb:A2I st b l) :
  S P 274 [.own 1 b 0 l.length] st fun v st'=>v=.own 1 b 0 (T3 l).length∧st'=upd st b (A3a (A4B l)):=by
 refine ⟨C0x.f43.enters rfl,fun cargs w hr hS=>?_⟩
 obtain ⟨hlen,hr⟩:=hr
 have hb':=hb
 obtain ⟨f,hst,hf⟩:=hb'
 obtain ⟨cs,hok⟩:=hS b _ hst
 have h0:0<cargs.size:=by rw [←hlen];exact Nat.one_pos
 have ha:=hr 0 _ cargs[0] rfl (C9r h0)
 have hc:∃ c,l.length≤c∧c≤S8 w b∧cargs=#[.slice (some ⟨b,0,none⟩) l.length c]:=by
  generalize hv:cargs[0]=v at ha
  cases ha with
  | own e b off n c hc hs =>
   refine ⟨c,hc,by simpa using hs,Array.ext (by rw [←hlen];rfl) fun i h1 h2=>?_⟩
   have:i=0:=by simp at h2;exact h2
   subst this;rw [hv];rfl
 obtain ⟨c,hlc,hcs,rfl⟩:=hc
 have hH:Holds (Value.int .i64) w b 0 l.toArray:=fun j hj=>by
  have hj':j<l.length:=by simpa using hj
  obtain ⟨x,hx,hrep⟩:=hok.cell j 0 (eI (gI l j)) hj' (by show (A2 (f j))[0]?=_;rw [hf j hj'];rfl)
  have hxx:x=.int .i64 (gI l j):=by cases hrep;rfl
  subst hxx
  have hg:l.toArray[j]! = gI l j:=by rw [getElem!_pos _ j (by simpa using hj')];simp [gI,hj']
  refine ⟨?_,?_⟩
  ·unfold World.cell?
   rw [hok.heap,hg]
   have:cs[j * 1+0]?=some (.int .i64 (gI l j)):=hx
   simpa using this
  ·unfold World.frozen?
   rw [hok.heap]
   simp
 have hcl:=A5m l
 have hK:=AnyE.slices_Compact C0x (Value.int .i64) C1p (EqlAt.intD P _ .i64) (NeqAt.intD P _ .i64) 0 Tryz.zeroValue3 b 0 c l.toArray w hH (by simp;omega) (by simpa using hlc)
 rw [show l.toArray.size=l.length from by simp] at hK
 refine hK.mono ?_
 rintro e w' ⟨rfl,n,rfl⟩
 obtain ⟨h1,h2⟩:=B9T (n:=n) (A8C l) hb hS
 refine ⟨.own 1 b 0 (T3 l).length,_,_,⟨rfl,rfl⟩,rfl,?_,h2,h1⟩
 have hr2:G5 w st (.own 1 b 0 (T3 l).length) (.slice (some ⟨b,0 * 1,none⟩) (T3 l).length c):=.own 1 b 0 _ c (D0l hcl hlc) (by simpa using hcs)
 exact h1.rep hr2
theorem B2i (st:St):S P 274 [.emp] st fun v st'=>v=.emp∧st'=st:=by
 refine F5 [] Tryz.func274 ?_
 exact ⟨rfl,rfl⟩
theorem B9l {l:List Int} {k:Nat} (h:k<(T3 l).length):gI (A4B l) k=gI (T3 l) k:=by
 unfold A4B;exact O2 h
end Go.Proofs.YtaapofnkmpiknaaGreat
