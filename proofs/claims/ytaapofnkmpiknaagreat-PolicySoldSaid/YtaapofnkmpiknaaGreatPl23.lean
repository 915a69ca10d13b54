/- Part 23 of the proof: contracts of the functions that the law reaches -/
import Derived.Test.YtaapofnkmpiknaaGreatPl22
import Derived.Shelf.SlicesE.Compact
set_option maxRecDepth 100000
set_option linter.unusedVariables false
set_option linter.unusedSimpArgs false
namespace Go.Proofs.YtaapofnkmpiknaaGreat
open Go Go.Ab
attribute [local irreducible] upd del
structure MkD where
 p:B1
 us:List B2
 bm:Nat
 bu:Nat
 br:Nat
 n:Nat
 q:Nat→Nat
def IsM (d:MkD) (len:Nat) (y:K4):Prop:=∃ f,y=⟨363,18,1,f⟩∧f 0=.agg (A1W d.p++[C6 d.us,.own 1 d.bu 0 len,.own 1 d.br 0 d.n])
def C2R (used:List Bool) (y:K4):Prop:=∃ g,y=⟨4,1,used.length,g⟩∧∀ k,k<used.length→g k=eB (used.getD k default)
def B4l (d:MkD) (y:K4):Prop:=∃ g,y=⟨278,1,d.n,g⟩∧∀ k,k<d.n→g k=.optr 1 (d.q k) 0 0
def MkR (d:MkD) (used:List Bool) (es:Nat→List QE):St→St→Prop:=Y7 d.bm (IsM d used.length) (Y7 d.bu (C2R used) (Y7 d.br (B4l d) (Qs d.n d.q es)))
theorem B9F (d:MkD) (used:List Bool) (es:Nat→List QE):L2 (MkR d used es):=A0w (A0w (A0w (A3p _ _ _)))
theorem MkR.facts {d:MkD} {used:List Bool} {es:Nat→List QE} {s t:St} (h:MkR d used es s t) :
  (∃ f,t d.bm=some ⟨363,18,1,f⟩∧f 0=.agg (A1W d.p++[C6 d.us,.own 1 d.bu 0 used.length,.own 1 d.br 0 d.n])) ∧
  (∃ g,t d.bu=some ⟨4,1,used.length,g⟩∧∀ k,k<used.length→g k=eB (used.getD k default)) ∧
  (∃ g,t d.br=some ⟨278,1,d.n,g⟩∧∀ k,k<d.n→g k=.optr 1 (d.q k) 0 0):=by
 have b1:=A3p d.n d.q es
 have b2:L2 (Y7 d.br (B4l d) (Qs d.n d.q es)):=A0w b1
 have b3:L2 (Y7 d.bu (C2R used) (Y7 d.br (B4l d) (Qs d.n d.q es))):=A0w b2
 obtain ⟨y1,⟨f,rfl,hf⟩,h1⟩:=Y7.at b3 h
 obtain ⟨_,_,_,h⟩:=h
 obtain ⟨y2,⟨g,rfl,hg⟩,h2⟩:=Y7.at b2 h
 obtain ⟨_,_,_,h⟩:=h
 obtain ⟨y3,⟨k,rfl,hk⟩,h3⟩:=Y7.at b1 h
 exact ⟨⟨f,h1,hf⟩,⟨g,h2,hg⟩,⟨k,h3,hk⟩⟩
theorem MkR.pop_S {d:MkD} {used:List Bool} {es:Nat→List QE} {s t:St} (h:MkR d used es s t) {k:Nat} (hk:k<d.n) {x:QE} {rest:List QE} (he:es k=x::rest) (htop:∀ y∈rest,G6 y x=false) :
  S P 230 [.optr 1 (d.q k) 0 0] t fun v t'=>v=.tuple [eI x.1,eI x.2,.bool true]∧MkR d used (A0k es k rest) s t':=by
 obtain ⟨h1,y1,e1,h2,y2,e2,h3,y3,e3,hq⟩:=h
 exact (hq.pop_S hk he htop).mono fun v t' hv=>⟨hv.1,h1,y1,e1,h2,y2,e2,h3,y3,e3,hv.2⟩
theorem MkR.pop0_S {d:MkD} {used:List Bool} {es:Nat→List QE} {s t:St} (h:MkR d used es s t) {k:Nat} (hk:k<d.n) (he:es k=[]) :
  S P 230 [.optr 1 (d.q k) 0 0] t fun v t'=>v=.tuple [eI 0,eI 0,.bool false]∧t'=t:=by
 obtain ⟨h1,y1,e1,h2,y2,e2,h3,y3,e3,hq⟩:=h
 exact hq.pop0_S hk he
theorem MkR.use {d:MkD} {used:List Bool} {es:Nat→List QE} {s t:St} (h:MkR d used es s t) {i:Nat} (hi:i<used.length) {g:Nat→AV} (hb:t d.bu=some ⟨4,1,used.length,g⟩) (hg:∀ k,k<used.length→g k=eB (used.getD k default)) :
  MkR d (used.set i true) es s (upd t d.bu ⟨4,1,used.length,I4 g i (eB true)⟩):=by
 have b1:=A3p d.n d.q es
 have b2:L2 (Y7 d.br (B4l d) (Qs d.n d.q es)):=A0w b1
 unfold MkR at h ⊢
 rw [D7W]
 refine h.map fun s h=>Y7.set b2 h ⟨I4 g i (eB true),by rw [D7W],fun k hk=>?_⟩
 rw [D7W] at hk
 by_cases e:k=i
 ·subst e;rw [A4];simp [hi]
 ·rw [H4 e,hg k hk]
  congr 1
  simp only [D6D]
  rw [D8w (fun e'=>e e'.symm)]
def O5 (used:List Bool):List QE→Option Int×List QE
 | []=>(none,[])
 | e::es=>if used.getD e.2.toNat default=true then O5 used es else (some e.2,es)
def D5a (used:List Bool):Option Int→List Bool
 | none=>used
 | some i=>used.set i.toNat true
def D1O:Option Int→AV
 | none=>.tuple [eI 0,eB false]
 | some i=>.tuple [eI i,eB true]
theorem B8l {α : Type} (f:Nat→α) (i:Nat) (u v : α):A0k (A0k f i u) i v=A0k f i v:=by
 funext k;unfold A0k;split<;>rfl
theorem C1e {α : Type} (f:Nat→α) (i:Nat):A0k f i (f i)=f:=by
 funext k;unfold A0k;split
 ·rename_i e;rw [e]
 ·rfl
theorem C9x (d:MkD) (used:List Bool) (es:Nat→List QE) (s t:St) (h:MkR d used es s t) (k:Nat) (hk:k<d.n) (hr:∀ e∈es k,0≤e.2∧e.2.toNat<used.length) (hs:(es k).Pairwise fun a b=>G6 b a=false) :
  S P 329 [.optr 18 d.bm 0 0,eI k] t fun v t'=>v=D1O (O5 used (es k)).1∧MkR d (D5a used (O5 used (es k)).1) (A0k es k (O5 used (es k)).2) s t':=by
 refine F4 [] Tryz.func329 ?_
 refine ⟨[0,1],fun m vs t'=>∃ l:List QE,m=l.length∧vs=[.optr 18 d.bm 0 0,eI k]∧O5 used l=O5 used (es k)∧(∀ e∈l,0≤e.2∧e.2.toNat<used.length)∧(l.Pairwise fun a b=>G6 b a=false)∧MkR d used (A0k es k l) s t',?_,?_⟩
 ·conv=>whnf
  exact ⟨_,es k,rfl,rfl,rfl,hr,hs,by rw [C1e];exact h⟩
 ·clear h hr hs
  rintro m vs t' ⟨l,rfl,rfl,hF,hr,hs,h⟩
  rw [←hF]
  obtain ⟨⟨fm,hm,hm0⟩,⟨fu,hu,huf⟩,⟨fr,hb,hbf⟩⟩:=h.facts
  conv=>whnf
  refine J6 hm hm0 ?_
  refine E7 ?_
  refine ldV hb rfl (by omega) (v:=.optr 1 (d.q k) 0 0) (by rw [show 0+(k:Int).toNat=k by omega];exact hbf k hk) ?_;conv=>whnf
  cases l with
  | nil =>
   refine I2 (h.pop0_S hk (H1 ..)) ?_
   exact ⟨rfl,h⟩
  | cons x l =>
   rw [D8p] at hs
   refine call (h.pop_S hk (H1 ..) hs.1) (fun v t2 hv=>?_)
   obtain ⟨rfl,h'⟩:=hv
   rw [B8l] at h'
   obtain ⟨⟨fm',hm',hm0'⟩,⟨fu',hu',huf'⟩,_⟩:=h'.facts
   have hx:=hr x (D7f ..)
   have hux:fu' (0+x.2.toNat)=eB (used.getD x.2.toNat default):=by rw [D6Q];exact huf' _ hx.2
   conv=>whnf
   refine J6 hm' hm0' ?_
   refine E7 ?_
   refine J6 hu' hux ?_
   cases hx1:used.getD x.2.toNat default with
   | true =>
    conv=>whnf
    refine G2 ?_
    refine ⟨l.length,D9w _,l,rfl,rfl,?_,fun e he=>hr e (D7d _ he),hs.2,h'⟩
    show _=if used.getD x.2.toNat default=true then O5 used l else (some x.2,l)
    rw [hx1,if_pos rfl]
   | false =>
    have hT:O5 used (x::l)=(some x.2,l):=by
     show (if used.getD x.2.toNat default=true then O5 used l else (some x.2,l))=_
     rw [hx1,if_neg (by simp)]
    rw [hT];conv=>whnf
    refine J6 hm' hm0' ?_
    refine E7 ?_
    refine Z7 hu' hux ?_
    refine ⟨rfl,?_⟩
    rw [D6Q]
    exact h'.use hx.2 hu' huf'
end Go.Proofs.YtaapofnkmpiknaaGreat
namespace Go.Proofs.YtaapofnkmpiknaaGreat
open Go Go.Ab Go.Proofs Go.Sort
attribute [local irreducible] upd del
def C4 (l:List Int):List Int:=l.mergeSort fun x y=>decide (x≤y)
theorem A1m (l:List Int):(C4 l).Perm l:=D9r ..
theorem Y0 (l:List Int):(C4 l).length=l.length:=(A1m l).length_eq
def B2x (l:List Int):K4:=⟨3,1,l.length,fun k=>eI (gI (C4 l) k)⟩
theorem C5i {st:St} {w:World} {b n:Nat} {l:List Int} {os:Array Obj} (hb:A5O st b l) (hS:I3 st w) :
  Evo st w (upd st b (B2x l)) (grow (putRow (Value.int .i64) (Sort.ahead w n) b 0 (C4 l).toArray) os)∧I3 (upd st b (B2x l)) (grow (putRow (Value.int .i64) (Sort.ahead w n) b 0 (C4 l).toArray) os):=by
 obtain ⟨f,hst,hf⟩:=hb
 obtain ⟨cs,hok⟩:=hS b _ hst
 have hbl:b<w.heap.size:=(D7D.1 hok.heap).1
 have hsz:l.length * 1≤cs.size:=hok.size
 have hheap:∀ c,c<w.heap.size→(grow (putRow (Value.int .i64) (Sort.ahead w n) b 0 (C4 l).toArray) os).heap[c]?=if b=c then some (.cells (putCells (Value.int .i64) 0 (C4 l).toArray cs) 3 (0,0)) else w.heap[c]?:=fun c hc=>by
  show ((w.heap.modify b (onCells (putCells (Value.int .i64) 0 (C4 l).toArray)))++os)[c]?=_
  rw [D9v (by simpa using hc),D9x]
  split
  ·rename_i e;subst e;rw [hok.heap];rfl
  ·rfl
 have hev:Evo st w (upd st b (B2x l)) (grow (putRow (Value.int .i64) (Sort.ahead w n) b 0 (C4 l).toArray) os):=by
  refine ⟨rfl,rfl,rfl,?_,fun c hc hs=>?_,fun c=>?_⟩
  ·show w.heap.size≤((w.heap.modify b _)++os).size
   simp
  ·have hne:b≠c:=fun e=>by subst e;rw [hst] at hs;cases hs
   rw [hheap c hc,if_neg hne]
   exact ⟨rfl,by rw [A9 hne.symm];exact hs⟩
  ·by_cases hc:c<w.heap.size
   ·unfold A1n
    rw [hheap c hc]
    by_cases e:b=c
    ·subst e
     rw [hok.heap,if_pos rfl]
     simp [putCells]
    ·rw [if_neg e];exact D6M _
   ·unfold A1n
    rw [D9b (by omega)]
    exact D7e _
 refine ⟨hev,fun c x hx=>?_⟩
 by_cases e:c=b
 ·subst e
  rw [A0] at hx
  cases hx
  refine ⟨putCells (Value.int .i64) 0 (C4 l).toArray cs,?_,?_,fun i hi=>rfl,fun i hi=>rfl,fun i j y hi hy=>?_⟩
  ·rw [hheap c hbl,if_pos rfl];rfl
  ·show l.length * 1≤_
   simpa [putCells] using hsz
  ·have hi':i<l.length:=hi
   cases j with
   | succ j=>simp [B2x,cellsOf] at hy
   | zero =>
    have hy':y=eI (gI (C4 l) i):=by simpa [B2x,cellsOf] using hy.symm
    subst hy'
    refine ⟨.int .i64 (gI (C4 l) i),?_,.int _ _⟩
    show (putCells (Value.int .i64) 0 (C4 l).toArray cs)[i * 1+0]?=_
    unfold putCells
    rw [Array.getElem?_mapIdx,Nat.mul_one,D8X,D6V (by omega),D8K]
    rw [if_pos ⟨by omega,by simp [Y0];omega⟩,Nat.sub_zero]
    have:(C4 l).toArray[i]! = gI (C4 l) i:=by
     have hl:=Y0 l
     rw [getElem!_pos _ i (by simp [hl];omega)]
     simp [gI,show i<(C4 l).length by omega]
    rw [this]
 ·rw [A9 e] at hx
  obtain ⟨ds,hd⟩:=hS c x hx
  have hcl:c<w.heap.size:=(D7D.1 hd.heap).1
  exact ⟨ds,hd.evo hev (by rw [hheap c hcl,if_neg (fun e'=>e e'.symm)])⟩
theorem C9t (b:Nat) (l:List Int) (hl:l.length<4611686018427387904) (st:St) (hb:A5O st b l) :
  S P 273 [.own 1 b 0 l.length] st fun v st'=>v=.tuple []∧st'=upd st b (B2x l):=by
 refine ⟨C0r.f5.enters rfl,fun cargs w hr hS=>?_⟩
 obtain ⟨hlen,hr⟩:=hr
 have hb':=hb
 obtain ⟨f,hst,hf⟩:=hb'
 obtain ⟨cs,hok⟩:=hS b _ hst
 have h0:0<cargs.size:=by rw [←hlen];exact Nat.one_pos
 have ha:=hr 0 _ cargs[0] rfl (D6V h0)
 have hc:∃ c,cargs=#[.slice (some ⟨b,0,none⟩) l.length c]:=by
  generalize hv:cargs[0]=v at ha
  cases ha with
  | own e b off n c hc hs =>
   refine ⟨c,Array.ext (by rw [←hlen];rfl) fun i h1 h2=>?_⟩
   have:i=0:=by simp at h2;exact h2
   subst this;rw [hv];rfl
 obtain ⟨c,rfl⟩:=hc
 have hH:Holds (Value.int .i64) w b 0 l.toArray:=fun j hj=>by
  have hj':j<l.length:=by simpa using hj
  obtain ⟨x,hx,hrep⟩:=hok.cell j 0 (eI (gI l j)) hj' (by show (cellsOf (f j))[0]?=_;rw [hf j hj'];rfl)
  have hxx:x=.int .i64 (gI l j):=by cases hrep;rfl
  subst hxx
  have hg:l.toArray[j]! = gI l j:=by rw [getElem!_pos _ j (by simpa using hj')];simp [gI,hj']
  refine ⟨?_,?_⟩
  ·unfold World.cell?
   rw [hok.heap,hg]
   have:cs[j * 1+0]?=some (.int .i64 (gI l j)):=hx
   simpa using this
  ·unfold World.frozen?
   rw [hok.heap]
   simp
 have hbl:b<w.heap.size:=(D7D.1 hok.heap).1
 refine (AnyM.slices_Sort_int C0r b 0 c l w hH hbl hl).mono ?_
 rintro e w' ⟨rfl,n,os,rfl⟩
 obtain ⟨h1,h2⟩:=C5i (n:=n) (os:=os) hb hS
 exact ⟨.tuple [],.tuple #[],_,⟨rfl,rfl⟩,rfl,.tuple [] #[] rfl (fun j y c hy=>by simp at hy),h2,h1⟩
theorem C7v (st:St):S P 273 [.emp] st fun v st'=>v=.tuple []∧st'=st:=by
 refine ⟨C0r.f5.enters rfl,fun cargs w hr hS=>?_⟩
 obtain ⟨hlen,hr⟩:=hr
 have h0:0<cargs.size:=by rw [←hlen];exact Nat.one_pos
 have ha:=hr 0 _ cargs[0] rfl (D6V h0)
 have hc:∃ A,cargs=#[.slice A 0 0]:=by
  generalize hv:cargs[0]=v at ha
  cases ha with
  | emp A =>
   refine ⟨A,Array.ext (by rw [←hlen];rfl) fun i h1 h2=>?_⟩
   have:i=0:=by simp at h2;exact h2
   subst this;rw [hv];rfl
 obtain ⟨A,rfl⟩:=hc
 refine (AnyM.slices_Sort_int_none C0r A 0 w).mono ?_
 rintro e w' ⟨rfl,rfl⟩
 exact ⟨.tuple [],.tuple #[],_,⟨rfl,rfl⟩,rfl,.tuple [] #[] rfl (fun j y c hy=>by simp at hy),hS,Evo.refl _ _⟩
theorem B4d {R:St→St→Prop} (hR:L2 R) {l:List Int} {s t:St} {sv:AV} (hl:l.length<4611686018427387904) (h:ROut R 3 1 (fun k=>eI (gI l k)) l.length s sv t) :
  S P 273 [sv] t fun v t'=>v=.tuple []∧ROut R 3 1 (fun k=>eI (gI (C4 l) k)) l.length s sv t':=by
 obtain ⟨s0,hc,h⟩:=h
 rcases hc with ⟨h0,rfl,rfl⟩ | ⟨h0,bo,g,h1,rfl,rfl,h3⟩
 ·exact (C7v t).mono fun v t' hv=>⟨hv.1,by rw [h0];exact ⟨s0,Col.start _ _ _ _,by rw [hv.2];exact h⟩⟩
 ·have hby:=hR.sup h bo _ (A0 ..)
  refine (C9t bo l hl t ⟨g,hby,h3⟩).mono fun v t' hv=>⟨hv.1,_,.inr ⟨h0,bo,fun k=>eI (gI (C4 l) k),h1,rfl,rfl,fun k hk=>rfl⟩,?_⟩
  rw [hv.2]
  have:=hR.write (y':=B2x l) h (A0 ..)
  rw [C0] at this;exact this
end Go.Proofs.YtaapofnkmpiknaaGreat
namespace Go.Proofs.YtaapofnkmpiknaaGreat
open Go Go.Ab
attribute [local irreducible] upd del
structure MSt where
 used:List Bool
 es:Nat→List QE
 l:List Int
def A0Y (k:Nat) (s:MSt):Option MSt:=match (O5 s.used (s.es k)).1 with
 | none=>none
 | some i=>some ⟨s.used.set i.toNat true,A0k s.es k (O5 s.used (s.es k)).2,s.l++[i]⟩
def S9 (k:Nat):Nat→MSt→Option MSt
 | 0,s=>some s
 | c+1,s=>(S9 k c s).bind (A0Y k)
def L6 (parts:List A2q):Nat→MSt→Option MSt
 | 0,s=>some s
 | k+1,s=>(L6 parts k s).bind (S9 k (parts.getD k default).count.toNat)
theorem A6C {k:Nat} {s:MSt}:∀ {c j:Nat},S9 k j s=none→j≤c→S9 k c s=none
 | 0,j,h,hj=>by
  have:j=0:=by omega
  subst this;exact h
 | c+1,j,h,hj=>by
  rcases D8k c j with h1 | h1
  ·have:j=c+1:=by omega
   subst this;exact h
  ·unfold S9;rw [A6C h h1];rfl
theorem A6l {parts:List A2q} {s:MSt}:∀ {c j:Nat},L6 parts j s=none→j≤c→L6 parts c s=none
 | 0,j,h,hj=>by
  have:j=0:=by omega
  subst this;exact h
 | c+1,j,h,hj=>by
  rcases D8k c j with h1 | h1
  ·have:j=c+1:=by omega
   subst this;exact h
  ·unfold L6;rw [A6l h h1];rfl
structure MOk (us:List B2) (n:Nat) (s:MSt):Prop where
 len:s.used.length=us.length
 rng:∀ k,k<n→∀ e∈s.es k,0≤e.2∧e.2.toNat<us.length
 srt:∀ k,k<n→(s.es k).Pairwise fun a b=>G6 b a=false
 mem:∀ x∈s.l,0≤x∧x.toNat<us.length
theorem A3H (used:List Bool) (l:List QE):(∃ pre,l=pre++(match (O5 used l).1 with | none=>[] | some i=>(match l.find? (fun e=>!used.getD e.2.toNat default) with | none=>[] | some e=>[e]))++(O5 used l).2) ∧
  (∀ i,(O5 used l).1=some i→∃ e∈l,e.2=i∧used.getD i.toNat default=false)∧((O5 used l).2.Sublist l)∧((O5 used l).1≠none→(O5 used l).2.length<l.length):=by
 induction l with
 | nil=>exact ⟨⟨[],rfl⟩,(fun i h=>by cases h),List.Sublist.refl _,fun h=>absurd rfl h⟩
 | cons e l ih =>
  obtain ⟨⟨pre,h1⟩,h2,h3,h4⟩:=ih
  by_cases hu:used.getD e.2.toNat default=true
  ·have ht:O5 used (e::l)=O5 used l:=by
    show (if used.getD e.2.toNat default=true then O5 used l else (some e.2,l))=_
    rw [if_pos hu]
   rw [ht]
   refine ⟨⟨e::pre,?_⟩,fun i hi=>?_,h3.cons _,fun h=>by have:=h4 h;simp;omega⟩
   ·rw [D9u (by rw [hu];simp)]
    rw [D8Z,D8Z,←h1]
   ·obtain ⟨x,hx,hx2⟩:=h2 i hi
    exact ⟨x,D7d _ hx,hx2⟩
  ·have ht:O5 used (e::l)=(some e.2,l):=by
    show (if used.getD e.2.toNat default=true then O5 used l else (some e.2,l))=_
    rw [if_neg hu]
   rw [ht]
   refine ⟨⟨[],?_⟩,fun i hi=>?_,List.sublist_cons_self _ _,fun _=>by simp⟩
   ·rw [D9t (by rw [D8x.2 hu];rfl)];rfl
   ·have:e.2=i:=by simpa using hi
    exact ⟨e,D7f ..,this,by rw [←this];exact D8x.2 hu⟩
theorem MOk.take {us:List B2} {n:Nat} {s s':MSt} (h:MOk us n s) {k:Nat} (hk:k<n) (ht:A0Y k s=some s'):MOk us n s':=by
 obtain ⟨_,t2,t3,_⟩:=A3H s.used (s.es k)
 unfold A0Y at ht
 split at ht
 ·cases ht
 ·rename_i i hi
  cases ht
  obtain ⟨e,he,rfl,hu⟩:=t2 i hi
  have hr:=h.rng k hk e he
  refine ⟨by rw [D7W];exact h.len,fun j hj x hx=>?_,fun j hj=>?_,fun x hx=>?_⟩
  ·by_cases ej:j=k
   ·subst ej;rw [show (MSt.es _ j)=_ from rfl] at hx;simp only [H1] at hx;exact h.rng j hj x (t3.subset hx)
   ·simp only [N4 ej] at hx;exact h.rng j hj x hx
  ·by_cases ej:j=k
   ·subst ej;simp only [H1];exact (h.srt j hj).sublist t3
   ·simp only [N4 ej];exact h.srt j hj
  ·rcases D7T.1 hx with hx | hx
   ·exact h.mem x hx
   ·rw [D7i] at hx;rw [hx];exact hr
theorem C2v {k:Nat} {s s':MSt} (ht:A0Y k s=some s'):s'.l.length=s.l.length+1:=by
 unfold A0Y at ht
 split at ht
 ·cases ht
 ·cases ht;simp
theorem A2f {k:Nat} {s:MSt}:∀ {c:Nat} {s':MSt},S9 k c s=some s'→s'.l.length=s.l.length+c
 | 0,s',h=>by cases h;rfl
 | c+1,s',h=>by
  unfold S9 at h
  obtain ⟨s1,h1,h2⟩:=D7P.1 h
  rw [C2v h2,A2f h1];omega
theorem MOk.takes {us:List B2} {n:Nat} {s:MSt} (h:MOk us n s) {k:Nat} (hk:k<n):∀ {c:Nat} {s':MSt},S9 k c s=some s'→MOk us n s'
 | 0,s',e=>by cases e;exact h
 | c+1,s',e=>by
  unfold S9 at e
  obtain ⟨s1,h1,h2⟩:=D7P.1 e
  exact (h.takes hk h1).take hk h2
structure A4k (p:B1):Prop where
 n1:1≤p.parts.length
 n8:p.parts.length≤8
 cnt:∀ x∈p.parts,1≤x.count∧x.count≤100
 amt:0≤p.amount∧p.amount≤10000000000000
theorem A4k.at {p:B1} (h:A4k p) {k:Nat} (hk:k<p.parts.length):1≤(p.parts.getD k default).count∧(p.parts.getD k default).count≤100:=h.cnt _ (A7 hk)
theorem MOk.parts {us:List B2} {p:B1} {s:MSt} (h:MOk us p.parts.length s):∀ {k:Nat} {s':MSt},k≤p.parts.length→L6 p.parts k s=some s'→MOk us p.parts.length s'
 | 0,s',_,e=>by cases e;exact h
 | k+1,s',hk,e=>by
  unfold L6 at e
  obtain ⟨s1,h1,h2⟩:=D7P.1 e
  exact (MOk.parts h (by omega) h1).takes (by omega) h2
theorem A2b {p:B1} (hp:A4k p) {s:MSt}:∀ {k:Nat} {s':MSt},k≤p.parts.length→L6 p.parts k s=some s'→s'.l.length≤s.l.length+100 * k
 | 0,s',_,e=>by cases e;omega
 | k+1,s',hk,e=>by
  unfold L6 at e
  obtain ⟨s1,h1,h2⟩:=D7P.1 e
  have:=A2b hp (by omega) h1
  have:=A2f h2
  have:=hp.at (show k<p.parts.length by omega)
  omega
def I0 (us:List B2) (l:List Int):Int:=A2 (l.map fun i=>(gU us i.toNat).net)
theorem B3B (us:List B2) (l:List Int) (i:Int):I0 us (l++[i])=I0 us l+(gU us i.toNat).net:=by
 unfold I0;rw [D7k,F5];simp [A2]
theorem A1q {us:List B2} (hu:E3 us) (l:List Int) (hl:∀ x∈l,0≤x∧x.toNat<us.length):0≤I0 us l∧I0 us l≤10000000000000 * l.length:=by
 unfold I0
 have c1:∀ (y:Int) (r:List Int),A2 (y::r)=y+A2 r:=fun y r=>by
  have:=F5 [y] r
  rw [D9h] at this
  rw [this];simp [A2]
 induction l with
 | nil=>exact ⟨D7l _,by simp [A2]⟩
 | cons x l ih =>
  have h1:=ih (fun y hy=>hl y (D7d _ hy))
  have h2:=hl x (D7f ..)
  have h3:0≤(gU us x.toNat).net:=hu.pos _ (A7 h2.2)
  have h4:(gU us x.toNat).net≤10000000000000:=hu.le (A7 h2.2)
  rw [D7H,c1,D7o]
  omega
theorem C8W (d:MkD) (hn:d.n=d.p.parts.length) (hp:A4k d.p) (hu:E3 d.us) (ms:MSt) (hl0:ms.l=[]) (hm:MOk d.us d.n ms) (s t:St) (h:MkR d ms.used ms.es s t) :
  S P 305 [.optr 18 d.bm 0 0] t fun v t'=>match L6 d.p.parts d.n ms with
   | none=>v=.tuple [.emp,eI 0,eB false]∧F1 s t'
   | some ms'=>v=.tuple [B0 (C4 ms'.l),eI (I0 d.us ms'.l - d.p.amount),eB (decide (I0 d.us ms'.l>d.p.amount))]∧MkR d ms'.used ms'.es s t':=by
 have hB:=fun (u:List Bool) (es:Nat→List QE)=>B9F d u es
 refine S.post (post:=fun v t'=>match L6 d.p.parts d.n ms with
   | none=>v=.tuple [.emp,eI 0,eB false]∧F1 s t'
   | some ms'=>∃ sv,v=.tuple [sv,eI (I0 d.us ms'.l - d.p.amount),eB (decide (I0 d.us ms'.l>d.p.amount))]∧ROut (MkR d ms'.used ms'.es) 3 1 (fun k=>eI (gI (C4 ms'.l) k)) ms'.l.length s sv t') ?_
  (fun v t' hv=>by
   cases hF:L6 d.p.parts d.n ms with
   | none=>rw [hF] at hv;exact ⟨v,t',hv,A6.refl _ _⟩
   | some ms' =>
    rw [hF] at hv
    obtain ⟨sv,rfl,hout⟩:=hv
    obtain ⟨t'',h1,h2⟩:=hout.shift (hB _ _)
    refine ⟨_,t'',⟨rfl,h2⟩,A6.tuple (A6.cons (h1.trans ?_) (A6.keep _ _)) rfl⟩
    have e:B0 (C4 ms'.l)=.arr 1 ms'.l.length (fun k=>eI (gI (C4 ms'.l) k)):=by unfold B0 A8;rw [Y0]
    rw [e];exact A6.keep _ _)
 have hp8:=hp.n8
 refine SyW [8] Tryz.func305 ?_
 obtain ⟨⟨fm,hmb,hm0⟩,_,_⟩:=h.facts
 conv=>whnf
 refine J6 hmb hm0 ?_
 refine ⟨[0,5,6,15,16,17],fun m vs t'=>∃ (k:Nat) (ms':MSt) (sv:AV),k≤d.n∧m=d.n - k∧vs=[.optr 18 d.bm 0 0,sv,eI (I0 d.us ms'.l),A8 3 W6 d.p.parts,eI d.p.parts.length,eI k]∧L6 d.p.parts k ms=some ms'∧ROut (MkR d ms'.used ms'.es) 3 1 (fun j=>eI (gI ms'.l j)) ms'.l.length s sv t',?_,?_⟩
 ·conv=>whnf
  refine ⟨_,0,ms,.emp,D7e _,rfl,?_,rfl,?_⟩
  ·rw [hl0];rfl
  ·rw [hl0];exact ROut.start h _ _ _
 ·clear h hmb hm0
  rintro m vs t' ⟨k,ms1,sv,hk,rfl,rfl,hF,hout⟩
  have hok:=MOk.parts (hn▸hm) (hn▸hk) hF
  have hlen:=A2b hp (hn▸hk) hF
  rw [hl0,D7X] at hlen
  have hcb:=A1q hu ms1.l hok.mem
  conv=>whnf
  cases h2:decide ((k:Int)<(d.p.parts.length:Int))
  ·have:=D6G h2
   obtain rfl:k=d.n:=by omega
   rw [hF];conv=>whnf
   refine call (B4d (hB _ _) (by omega) hout) (fun v t2 hv=>?_)
   obtain ⟨rfl,hout2⟩:=hv
   obtain ⟨⟨fm,hmb,hm0⟩,_,_⟩:=(hout2.dropped (hB _ _)).facts
   conv=>whnf
   refine ⟨[],[],[0,1,2,3,4,5,6,7,8,9,10,11,12,13,14,15,16,17],by kernel_rfl,?_⟩;conv=>whnf
   refine J6 hmb hm0 ?_
   refine J6 hmb hm0 ?_
   have ha:=hp.amt
   have w:IntKind.i64.wrap (I0 d.us ms1.l - d.p.amount)=I0 d.us ms1.l - d.p.amount:=A5 (by omega) (by omega)
   exact ⟨_,by rw [w];rfl,hout2⟩
  ·have hk':k<d.p.parts.length:=by have:=D6H h2;omega
   have hcnt:=hp.at hk'
   conv=>whnf
   refine E7 ?_
   refine ⟨[0,5,6,7,15,16,17,23,24],fun m vs t'=>∃ (j:Nat) (ms':MSt) (sv:AV),(j:Int)≤(d.p.parts.getD k default).count∧m=(d.p.parts.getD k default).count.toNat - j∧vs=[.optr 18 d.bm 0 0,sv,eI (I0 d.us ms'.l),eI k,A8 3 W6 d.p.parts,eI d.p.parts.length,eI k,eI (d.p.parts.getD k default).count,eI j]∧S9 k j ms1=some ms'∧ROut (MkR d ms'.used ms'.es) 3 1 (fun j=>eI (gI ms'.l j)) ms'.l.length s sv t',?_,?_⟩
   ·conv=>whnf
    exact ⟨_,0,ms1,sv,by omega,rfl,rfl,rfl,hout⟩
   ·clear hout
    rintro m vs t' ⟨j,ms2,sv,hj,rfl,rfl,hF2,hout⟩
    have hok2:=hok.takes hk' hF2
    have hlen2:=A2f hF2
    have hcb2:=A1q hu ms2.l hok2.mem
    conv=>whnf
    cases h3:decide ((j:Int)<(d.p.parts.getD k default).count)
    ·have:=D6G h3
     have ej:j=(d.p.parts.getD k default).count.toNat:=by omega
     conv=>whnf
     refine G2 ?_
     refine ⟨d.n - (k+1),by omega,k+1,ms2,sv,by omega,rfl,by rw [B4 (by omega)],?_,hout⟩
     unfold L6;rw [hF,←ej];exact hF2
    ·have hj':(j:Int)<(d.p.parts.getD k default).count:=D6H h3
     obtain ⟨s0,hcol,hMk⟩:=hout
     conv=>whnf
     refine call (C9x d ms2.used ms2.es s0 t' hMk k (by omega) (fun e he=>by rw [hok2.len];exact hok2.rng k hk' e he) (hok2.srt k hk')) (fun v t2 hv=>?_)
     obtain ⟨rfl,hMk2⟩:=hv
     have hT:S9 k (j+1) ms1=A0Y k ms2:=by
      show (S9 k j ms1).bind (A0Y k)=_
      rw [hF2];rfl
     have hmem:=(A3H ms2.used (ms2.es k)).2.1
     cases hR:(O5 ms2.used (ms2.es k)).1 with
     | none =>
      have h4:A0Y k ms2=none:=by unfold A0Y;rw [hR]
      rw [h4] at hT
      have h5:=A6C (c:=(d.p.parts.getD k default).count.toNat) hT (by omega)
      have h6:L6 d.p.parts (k+1) ms=none:=by unfold L6;rw [hF];exact h5
      have h7:=A6l (c:=d.n) h6 (by omega)
      rw [h7];conv=>whnf
      exact ⟨rfl,hcol.sup.trans ((hB _ _).sup hMk2)⟩
     | some i =>
      have h4:A0Y k ms2=some ⟨ms2.used.set i.toNat true,A0k ms2.es k (O5 ms2.used (ms2.es k)).2,ms2.l++[i]⟩:=by unfold A0Y;rw [hR]
      rw [hR] at hMk2
      obtain ⟨e,he,rfl,_⟩:=hmem i hR
      have hx:=hok2.rng k hk' e he
      have hn0:0≤(gU d.us e.2.toNat).net:=hu.pos _ (A7 hx.2)
      have hn1:(gU d.us e.2.toNat).net≤10000000000000:=hu.le (A7 hx.2)
      conv=>whnf
      refine ROut.app (q:=r3) (hB _ _) rfl rfl rfl rfl rfl (f:=fun j=>eI (gI (ms2.l++[e.2]) j)) (by simp only [A8v];rfl) (by show (ms2.l.length+1) * 8≤140737488355328;omega) ⟨s0,Col.congr hcol fun j hj=>by rw [N5 hj],hMk2⟩ (fun sv' t3 hout3=>?_)
      obtain ⟨⟨fm,hmb,hm0⟩,_,_⟩:=(hout3.dropped (hB _ _)).facts
      conv=>whnf
      refine J6 hmb hm0 ?_
      refine ⟨rfl,⟨by show 0≤e.2;omega,by show e.2<(d.us.length:Int);omega⟩,?_⟩;conv=>whnf
      refine G2 ?_
      have w:IntKind.i64.wrap (I0 d.us ms2.l+(gU d.us e.2.toNat).net)=I0 d.us (ms2.l++[e.2]):=by rw [B3B];exact A5 (by omega) (by omega)
      refine ⟨(d.p.parts.getD k default).count.toNat - (j+1),by omega,j+1,⟨ms2.used.set e.2.toNat true,A0k ms2.es k (O5 ms2.used (ms2.es k)).2,ms2.l++[e.2]⟩,sv',by omega,rfl,?_,by rw [hT];exact h4,?_⟩
      ·rw [B4 (by omega),←w]
      ·rw [D6P];exact hout3
theorem J7 (y:Int) (r:List Int):A2 (y::r)=y+A2 r:=by
 have:=F5 [y] r
 rw [D9h] at this
 rw [this];simp [A2]
theorem A7h {a b:List Int} (h:a.Perm b):A2 a=A2 b:=by
 induction h with
 | nil=>rfl
 | cons x _ ih=>rw [J7,J7,ih]
 | swap x y l=>rw [J7,J7,J7,J7];omega
 | trans _ _ ih1 ih2=>exact ih1.trans ih2
theorem C0v {l:List Int} {B:Int} (h:∀ x∈l,x≤B):A2 l≤l.length * B:=by
 induction l with
 | nil=>simp [A2]
 | cons x l ih =>
  have h1:=ih (fun y hy=>h y (D7d _ hy))
  have h2:=h x (D7f ..)
  rw [J7,D7o]
  have:((l.length+1:Nat):Int) * B=l.length * B+B:=by
   rw [show ((l.length+1:Nat):Int)=(l.length:Int)+1 by omega,D9j,Int.one_mul]
  omega
theorem C0M {qs:List Int} {R:List QE} (hl:∀ e∈R,e.2.toNat<qs.length) (hd:(R.map fun e=>e.2.toNat).Nodup) (k:Nat):gI (S5 qs R) k=gI qs k+if k∈R.map (fun e=>e.2.toNat) then 1 else 0:=by
 unfold S5
 induction R generalizing qs with
 | nil=>simp
 | cons e R ih =>
  rw [D7H,List.nodup_cons] at hd
  have he:=hl e (D7f ..)
  simp only [D7U]
  rw [ih (fun x hx=>by rw [D7W];exact hl x (D7d _ hx)) hd.2]
  have hs:gI (qs.set e.2.toNat (gI qs e.2.toNat+1)) k=if k=e.2.toNat then gI qs k+1 else gI qs k:=by
   unfold gI
   simp only [D6D,D8G]
   by_cases h:k=e.2.toNat
   ·subst h;simp [he]
   ·rw [if_neg (fun e'=>h e'.symm),if_neg h]
  rw [hs,D7H]
  by_cases h:k=e.2.toNat
  ·subst h
   rw [if_pos rfl,if_neg hd.1,if_pos (D7f ..)];omega
  ·rw [if_neg h]
   by_cases h2:k∈R.map (fun e=>e.2.toNat)
   ·rw [if_pos h2,if_pos (D7d _ h2)]
   ·rw [if_neg h2,if_neg (fun h3=>by
     rcases D8f.1 h3 with h4 | h4
     ·exact h h4
     ·exact h2 h4)]
theorem C7E {total:Int} {ws:List Int} (h:R3 total ws) (hS:0<A2 ws) {i:Nat} (hi:(i:Int)<F9 total (A2 ws) ws ws.length):0<((shR total (A2 ws) ws).getD i default).1:=by
 have hlr:=A3v h hS
 have hlen:=A7d total (A2 ws) ws
 have hil:i<(shR total (A2 ws) ws).length:=by omega
 refine Int.lt_of_not_ge fun hneg=>?_
 have hsum:A2 ((shR total (A2 ws) ws).map (·.1))=A2 ws * F9 total (A2 ws) ws ws.length:=by
  have hp:=(A2x total (A2 ws) ws).map (·.1)
  rw [A7h hp,D8Y]
  have e:=B0J total (A2 ws) hS ws ws.length (D6M _)
  rw [D6O] at e
  unfold F9
  rw [Int.mul_sub,D8T (A2 ws) total]
  have:(List.range ws.length).map ((fun e:QE=>e.1) ∘ shE total (A2 ws) ws)=(List.range ws.length).map fun k=>total * gI ws k % A2 ws:=rfl
  rw [this];omega
 have hsorted:=A7V total (A2 ws) ws
 have hrest:∀ e∈shR total (A2 ws) ws,0≤e.1∧e.1≤A2 ws - 1:=fun e he=>by
  obtain ⟨k,hk,rfl⟩:=D6Z.1 ((A2x total (A2 ws) ws).subset he)
  have h1:=D8a (total * gI ws k) (show A2 ws≠0 by omega)
  have h2:=D7N (total * gI ws k) hS
  show 0≤total * gI ws k % A2 ws∧total * gI ws k % A2 ws≤A2 ws - 1
  omega
 generalize hR:shR total (A2 ws) ws=R at *
 have hsplit:R=R.take i++R.drop i:=(D8U i R).symm
 have hcons:R.drop i=R.getD i default::R.drop (i+1):=by
  rw [D6D,D6K hil]
  exact D8I hil
 have hdrop:A2 ((R.drop i).map (·.1))≤0:=by
  have:∀ x∈(R.drop i).map (·.1),x≤0:=fun x hx=>by
   obtain ⟨e,he,rfl⟩:=D6Z.1 hx
   rw [hcons] at he
   rcases D8f.1 he with rfl | he
   ·exact hneg
   ·have hs:=hsorted.sublist (D9q i R)
    rw [hcons,D8p] at hs
    have:=(S4 _ _).1 (hs.1 e he)
    omega
  have:=C0v this
  omega
 have htake:A2 ((R.take i).map (·.1))≤i * (A2 ws - 1):=by
  have h1:=C0v (l:=(R.take i).map (·.1)) (B:=A2 ws - 1) (fun x hx=>by
   obtain ⟨e,he,rfl⟩:=D6Z.1 hx
   exact (hrest e (D7G _ _ he)).2)
  rw [D6J,D6N,D9K (by omega)] at h1
  exact h1
 have hall:A2 (R.map (·.1))=A2 ((R.take i).map (·.1))+A2 ((R.drop i).map (·.1)):=by
  conv=>lhs;rw [hsplit]
  rw [D7k,F5]
 have h2:A2 ws * ((i:Int)+1)≤A2 ws * F9 total (A2 ws) ws ws.length:=D7y (by omega) (by omega)
 rw [D8Q,D9B] at h2
 have h3:(i:Int) * (A2 ws - 1)=A2 ws * i - i:=by rw [Int.mul_sub,D9B,D8T]
 omega
theorem A3u {total:Int} {ws:List Int} (h:R3 total ws) (ht:total≤A2 ws) {k:Nat} (hk:k<ws.length):gI (D2 total ws) k≤gI ws k:=by
 have hw:=h.w0 _ (A7 hk)
 unfold D2
 split
 ·rename_i h0
  have:gI (ws.map fun _=>(0:Int)) k=0:=D4 (fun _:Int=>(0:Int)) ws hk
  rw [this];exact hw
 ·rename_i h0
  have hS:0<A2 ws:=by have:=C1 h.w0;omega
  have hmem:∀ e∈(shR total (A2 ws) ws).take (F9 total (A2 ws) ws ws.length).toNat,e.2.toNat<((List.range ws.length).map (shQ total (A2 ws) ws)).length:=fun e he=>by
   rw [D6J,D7g];exact (B0Q (D7G _ _ he)).2
  have hnd:(((shR total (A2 ws) ws).take (F9 total (A2 ws) ws ws.length).toNat).map fun e=>e.2.toNat).Nodup:=by
   have h1:((shR total (A2 ws) ws).map fun e=>e.2.toNat).Nodup:=by
    have hp:=(A2x total (A2 ws) ws).map fun e=>e.2.toNat
    refine hp.nodup_iff.2 ?_
    rw [D8Y]
    have:(List.range ws.length).map ((fun e:QE=>e.2.toNat) ∘ shE total (A2 ws) ws)=(List.range ws.length).map id:=by
     refine D7V fun k _=>?_
     show (k:Int).toNat=k
     omega
    rw [this,List.map_id]
    exact List.nodup_range
   exact h1.sublist ((List.take_sublist _ _).map _)
  rw [C0M hmem hnd,M8 _ hk]
  have e1:=D7M (total * gI ws k) (A2 ws)
  have e2:=D8a (total * gI ws k) (show A2 ws≠0 by omega)
  have e3:total * gI ws k≤A2 ws * gI ws k:=D8C ht hw
  have e4:shQ total (A2 ws) ws k=total * gI ws k / A2 ws:=rfl
  split
  ·rename_i hin
   obtain ⟨e,he,hek⟩:=D6Z.1 hin
   obtain ⟨i,hi,rfl⟩:=D5 he
   rw [D6N] at hi
   have hle:=A3v h hS
   have hpos:=C7E h hS (i:=i) (by omega)
   have hti:((shR total (A2 ws) ws).take (F9 total (A2 ws) ws ws.length).toNat).getD i default=(shR total (A2 ws) ws).getD i default:=by
    rw [D6D,D6D,D6S (by omega)]
   rw [hti] at hek
   have hm2:(shR total (A2 ws) ws).getD i default∈shR total (A2 ws) ws:=A7 (by omega)
   obtain ⟨j,hj,hje⟩:=D6Z.1 ((A2x total (A2 ws) ws).subset hm2)
   have hjk:j=k:=by rw [←hek,←hje];show j=(j:Int).toNat;omega
   subst hjk
   rw [←hje] at hpos
   have hpos':0<total * gI ws j % A2 ws:=hpos
   have h5:A2 ws * (total * gI ws j / A2 ws)<A2 ws * gI ws j:=by omega
   have h6:total * gI ws j / A2 ws<gI ws j:=Int.lt_of_mul_lt_mul_left h5 (by omega)
   omega
  ·have h5:A2 ws * (total * gI ws k / A2 ws)≤A2 ws * gI ws k:=by omega
   have h6:total * gI ws k / A2 ws≤gI ws k:=Int.le_of_mul_le_mul_left h5 hS
   omega
structure A0a (us:List B2) (l:List Int):Prop where
 rng:∀ k,k<l.length→0≤gI l k∧(gI l k).toNat<us.length
 ne:∀ i k,i<k→k<l.length→(gI l i).toNat≠(gI l k).toNat
theorem N7.places {us:List B2} {mine:List Int} (h:N7 us mine):A0a us mine :=
 ⟨h.rng,fun i k hik hk=>by
  have h1:=h.lt i k hik hk
  have h2:=(h.rng i (by omega)).1
  omega⟩
theorem A5v {us:List B2} {mine offs:List Int} (hm:A0a us mine):∀ k,k≤mine.length→∀ j,j<us.length→(∀ i,i<k→j≠(gI mine i).toNat)→gU (D0 us mine offs k) j=gU us j
 | 0,_,j,hj,_=>rfl
 | k+1,hk,j,hj,hne=>by
  have ih:=A5v (offs:=offs) hm k (by omega) j hj (fun i hi=>hne i (by omega))
  unfold D0 less1
  rw [A6b (by rw [P8];exact (hm.rng k (by omega)).2),if_neg (hne k (by omega))]
  exact ih
theorem A3T {us:List B2} {mine offs:List Int} (hm:A0a us mine) {k:Nat} (hk:k<mine.length):gU (D0 us mine offs k) (gI mine k).toNat=gU us (gI mine k).toNat :=
 A5v hm k (by omega) _ (hm.rng k hk).2 fun i hi=>fun e=>hm.ne i k hi hk e.symm
theorem A2z {us:List B2} (hu:E3 us) {mine offs:List Int} (hm:A0a us mine) (hlen:offs.length≤mine.length) (h:∀ k,k<offs.length→0≤gI offs k∧gI offs k≤(gU us (gI mine k).toNat).net):∀ k,k≤offs.length→Off us (D0 us mine offs k) (A2 (offs.take k))
 | 0,_=>Off.refl hu
 | k+1,hk=>by
  have ih:=A2z hu hm hlen h k (by omega)
  have hr:=hm.rng k (by omega)
  have hx:=h k (by omega)
  rw [K9 (by omega)]
  refine ih.trans (Off.less1 (ih.ok hu) (by rw [P8];exact hr.2) hx.1 ?_)
  rw [A3T hm (by omega)];exact hx.2
def J0 (us:List B2) (l:List Int):List Int:=l.map fun i=>(gU us i.toNat).net
def A3w (us:List B2) (l:List Int) (amount:Int):List B2:=D0 us l (D2 amount (J0 us l)) l.length
theorem C1n {us:List B2} (hu:E3 us) {l:List Int} (hm:A0a us l) {amount:Int} (hW:R3 amount (J0 us l)) (ha:amount≤A2 (J0 us l)):Off us (A3w us l amount) amount:=by
 obtain ⟨a,b,c⟩:=T2 hW
 have hl:(J0 us l).length=l.length:=by unfold J0;rw [D6J]
 have:=A2z hu hm (offs:=D2 amount (J0 us l)) (by omega) (fun k hk=>⟨c _ (A7 hk),by
  have h1:=A3u hW ha (k:=k) (by omega)
  have h2:gI (J0 us l) k=(gU us (gI l k).toNat).net:=D4 (fun i:Int=>(gU us i.toNat).net) l (by omega)
  rw [h2] at h1;exact h1⟩) (D2 amount (J0 us l)).length (D6M _)
 rw [D6O,a] at this
 unfold A3w
 rw [show l.length=(D2 amount (J0 us l)).length by omega]
 exact this
theorem C6g (bo:Nat) (us:List B2) (hu:E3 us) (l:List Int) (hl:l.length≤100000) (hm:A0a us l) (amount:Int) (hW:R3 amount (J0 us l)) (st:St) (hb:A5P st bo us) :
  S P 306 [.own 3 bo 0 us.length,B0 l,eI amount] st fun v st'=>v=.tuple []∧∃ f,st'=upd st bo ⟨223,3,us.length,f⟩∧∀ k,k<us.length→f k=Z4 (gU (A3w us l amount) k):=by
 have hul:=hu.len
 have hwl:(J0 us l).length=l.length:=by unfold J0;rw [D6J]
 obtain ⟨lg1,lg2,lg3⟩:=T2 hW
 refine SyW [] Tryz.func306 ?_
 obtain ⟨fu,hst,hfu⟩:=hb
 conv=>whnf
 refine ⟨[0,1,2,6,13,14,15],fun m vs st'=>∃ (i:Nat) (sv:AV),i≤l.length∧m=l.length - i∧vs=[.own 3 bo 0 us.length,B0 l,eI amount,sv,B0 l,eI l.length,eI i]∧Col 2 1 (fun k=>eI (gI (J0 us l) k)) st i sv st',?_,?_⟩
 ·conv=>whnf
  exact ⟨_,0,.emp,D7e _,rfl,rfl,Col.start _ _ _ _⟩
 ·rintro m vs st' ⟨i,sv,hi,rfl,rfl,hcol⟩
  have hst':=hcol.sup bo _ hst
  conv=>whnf
  cases h:decide ((i:Int)<(l.length:Int))
  ·have:=D6G h
   obtain rfl:i=l.length:=by omega
   conv=>whnf
   have hsh:A6 [eI amount,sv] st' [eI amount,B0 (J0 us l)] st:=by
    refine A6.cons (A6.keep _ _) ?_
    have e:B0 (J0 us l)=.arr 1 l.length (fun k=>eI (gI (J0 us l) k)):=by unfold B0 A8;rw [hwl]
    rw [e];exact hcol.shift
   refine E5 hsh (B3 (A9y amount (J0 us l) hW st) ?_)
   have hX:∀ k,k<l.length→0≤gI (D2 amount (J0 us l)) k∧gI (D2 amount (J0 us l)) k≤100000000000000:=fun k hk=>by
    have h1:=lg3 _ (A7 (show k<(D2 amount (J0 us l)).length by omega))
    have h2:=J4 lg3 (A7 (show k<(D2 amount (J0 us l)).length by omega))
    have:=hW.t1
    exact ⟨h1,by show gI _ _≤_;unfold gI;omega⟩
   have hlf:A3w us l amount=D0 us l (D2 amount (J0 us l)) l.length:=rfl
   have hlen:(D2 amount (J0 us l)).length=l.length:=by omega
   rw [hlf]
   generalize D2 amount (J0 us l)=xs at *
   conv=>whnf
   refine ⟨[0,1,34,35,36],fun m vs st'=>∃ (k:Nat) (f:Nat→AV),k≤l.length∧m=l.length - k∧vs=[.own 3 bo 0 us.length,B0 l,B0 xs,eI xs.length,eI k]∧st'=upd st bo ⟨223,3,us.length,f⟩∧∀ j,j<us.length→f j=Z4 (gU (D0 us l xs k) j),?_,?_⟩
   ·conv=>whnf
    exact ⟨_,0,fu,D7e _,rfl,rfl,(C5u hst).symm,hfu⟩
   ·rintro m vs st' ⟨k,f,hk,rfl,rfl,rfl,hf⟩
    conv=>whnf
    cases h2:decide ((k:Int)<(xs.length:Int))
    ·have:=D6G h2
     obtain rfl:k=l.length:=by omega
     conv=>whnf
     exact ⟨rfl,f,rfl,hf⟩
    ·have hk':k<l.length:=by have:=D6H h2;omega
     have hr:=hm.rng k hk'
     have hat:=A3T (offs:=xs) hm hk'
     have hx:=hX k hk'
     have hnet0:0≤(gU us (gI l k).toNat).net:=hu.pos _ (A7 hr.2)
     have hnet1:(gU us (gI l k).toNat).net≤10000000000000:=hu.le (A7 hr.2)
     have hfm:f (0+(gI l k).toNat)=Z4 (gU (D0 us l xs k) (gI l k).toNat):=by rw [D6Q];exact hf _ hr.2
     conv=>whnf
     refine E7 ?_
     refine E7 ?_
     refine ⟨rfl,⟨by show 0≤gI l k;exact hr.1,by show gI l k<(us.length:Int);have:=hr.2;have:=hr.1;omega⟩,?_⟩;conv=>whnf
     refine ldV (A0 ..) rfl (by show 0+(gI l k).toNat<_;have:=hr.2;omega) hfm ?_;conv=>whnf
     refine ⟨rfl,⟨by show 0≤gI l k;exact hr.1,by show gI l k<(us.length:Int);have:=hr.2;have:=hr.1;omega⟩,?_⟩;conv=>whnf
     refine stV (A0 ..) rfl (by show 0+(gI l k).toNat<_;have:=hr.2;omega) hfm (by rfl) ?_;conv=>whnf
     refine G2 ?_
     refine ⟨l.length - (k+1),by omega,k+1,_,by omega,rfl,by rw [B4 (by omega)],C0,fun j hj=>?_⟩
     have w:IntKind.i64.wrap ((gU (D0 us l xs k) (gI l k).toNat).net - gI xs k)=(gU (D0 us l xs k) (gI l k).toNat).net - gI xs k:=by
      rw [hat];exact A5 (by omega) (by omega)
     show _=Z4 (gU (less1 (D0 us l xs k) (gI l k).toNat (gI xs k)) j)
     unfold less1
     rw [A6b (by rw [P8];exact hr.2)]
     by_cases hj2:j=(gI l k).toNat
     ·rw [if_pos hj2,hj2,←w]
      show I4 f (0+(gI l k).toNat) _ _=_
      rw [D6Q,A4];rfl
     ·rw [if_neg hj2]
      show I4 f (0+(gI l k).toNat) _ _=_
      rw [D6Q,H4 hj2];exact hf j hj
  ·have hi':i<l.length:=by have:=D6H h;omega
   have hr:=hm.rng i hi'
   have hg:gI (J0 us l) i=(gU us (gI l i).toNat).net:=D4 (fun i:Int=>(gU us i.toNat).net) l hi'
   conv=>whnf
   refine E7 ?_
   refine ⟨rfl,⟨by show 0≤gI l i;exact hr.1,by show gI l i<(us.length:Int);have:=hr.2;have:=hr.1;omega⟩,?_⟩;conv=>whnf
   refine ldV hst' rfl (by show 0+(gI l i).toNat<_;have:=hr.2;omega) (v:=Z4 (gU us (gI l i).toNat)) (by show fu (0+(gI l i).toNat)=_;rw [D6Q];exact hfu _ hr.2) ?_;conv=>whnf
   refine Col.app (q:=r2) rfl rfl rfl rfl rfl (by simp only [hg];rfl) (by show (i+1) * 8≤140737488355328;omega) hcol (fun sv' st'' hcol'=>?_);conv=>whnf
   refine G2 ?_
   exact ⟨l.length - (i+1),by omega,i+1,sv',by omega,rfl,by rw [B4 (by omega)],hcol'⟩
end Go.Proofs.YtaapofnkmpiknaaGreat
namespace Go.Proofs.YtaapofnkmpiknaaGreat
open Go Go.Ab
def tot:Nat→(Nat→List QE)→Nat
 | 0,_=>0
 | n+1,es=>tot n es+(es n).length
theorem C2C {n:Nat} {es es':Nat→List QE} (h:∀ i,i<n→(es' i).length=(es i).length):tot n es'=tot n es:=by
 induction n with
 | zero=>rfl
 | succ n ih=>unfold tot;rw [ih fun i hi=>h i (by omega),h n (by omega)]
theorem C5s {n:Nat} {es:Nat→List QE} {k:Nat} (hk:k<n) (l:List QE):tot n (A0k es k l)+(es k).length=tot n es+l.length:=by
 induction n with
 | zero=>omega
 | succ n ih =>
  unfold tot
  by_cases e:k=n
  ·subst e
   rw [H1,C2C (es:=es) fun i hi=>by rw [N4 (by omega)]];omega
  ·have:=ih (by omega)
   rw [N4 (fun e'=>e e'.symm)];omega
theorem C2w {n k:Nat} (hk:k<n) {s s':MSt} (h:A0Y k s=some s'):tot n s'.es+s'.l.length≤tot n s.es+s.l.length:=by
 have h4:=(A3H s.used (s.es k)).2.2.2
 unfold A0Y at h
 split at h
 ·cases h
 ·rename_i i hi
  cases h
  have:=h4 (by rw [hi];simp)
  have:=C5s hk (O5 s.used (s.es k)).2 (es:=s.es)
  simp only [D6P,D7o,D7X]
  omega
theorem B2G {n k:Nat} (hk:k<n) {s:MSt}:∀ {c:Nat} {s':MSt},S9 k c s=some s'→tot n s'.es+s'.l.length≤tot n s.es+s.l.length
 | 0,s',h=>by cases h;exact D6M _
 | c+1,s',h=>by
  unfold S9 at h
  obtain ⟨s1,h1,h2⟩:=D7P.1 h
  exact D7S (C2w hk h2) (B2G hk h1)
theorem A7P {n:Nat} {parts:List A2q} {s:MSt}:∀ {k:Nat} {s':MSt},k≤n→L6 parts k s=some s'→tot n s'.es+s'.l.length≤tot n s.es+s.l.length
 | 0,s',_,h=>by cases h;exact D6M _
 | k+1,s',hk,h=>by
  unfold L6 at h
  obtain ⟨s1,h1,h2⟩:=D7P.1 h
  exact D7S (B2G (by omega) h2) (A7P (by omega) h1)
theorem A6m {p:B1} (hp:A4k p) {s s':MSt} (h:L6 p.parts p.parts.length s=some s'):s.l.length<s'.l.length:=by
 have hn:=hp.n1
 obtain ⟨k,hk⟩:∃ k,p.parts.length=k+1:=⟨p.parts.length - 1,by omega⟩
 have hmono:∀ {k:Nat} {s':MSt},L6 p.parts k s=some s'→s.l.length≤s'.l.length:=fun {k}=>by
  induction k with
  | zero=>intro s' h;cases h;exact D6M _
  | succ k ih =>
   intro s' h
   unfold L6 at h
   obtain ⟨s1,h1,h2⟩:=D7P.1 h
   have:=ih h1
   have:=A2f h2
   omega
 rw [hk] at h
 unfold L6 at h
 obtain ⟨s1,h1,h2⟩:=D7P.1 h
 have h3:=hmono h1
 have h4:=A2f h2
 have h5:=hp.at (show k<p.parts.length by omega)
 omega
structure Y8 (u0:List Bool) (s:MSt):Prop where
 free:∀ x∈s.l,u0.getD x.toNat default=false
 nd:(s.l.map Int.toNat).Nodup
 used:∀ j,s.used.getD j default=true↔(u0.getD j default=true∨j∈s.l.map Int.toNat)
theorem Y8.start (u0:List Bool) (es:Nat→List QE):Y8 u0 ⟨u0,es,[]⟩:=⟨fun x hx=>by simp at hx,List.nodup_nil,fun j=>by simp⟩
theorem Y8.take {us:List B2} {n:Nat} {u0:List Bool} {s s':MSt} (h:Y8 u0 s) (hok:MOk us n s) {k:Nat} (hk:k<n) (ht:A0Y k s=some s'):Y8 u0 s':=by
 obtain ⟨_,t2,_,_⟩:=A3H s.used (s.es k)
 unfold A0Y at ht
 split at ht
 ·cases ht
 ·rename_i i hi
  cases ht
  obtain ⟨e,he,rfl,hu⟩:=t2 i hi
  have hr:=hok.rng k hk e he
  have hfree:u0.getD e.2.toNat default=false∧e.2.toNat∉s.l.map Int.toNat:=by
   have:¬(u0.getD e.2.toNat default=true∨e.2.toNat∈s.l.map Int.toNat):=fun h2=>by
    rw [(h.used _).2 h2] at hu;cases hu
   exact ⟨D8x.2 fun h2=>this (.inl h2),fun h2=>this (.inr h2)⟩
  refine ⟨fun x hx=>?_,?_,fun j=>?_⟩
  ·rcases D7T.1 hx with hx | hx
   ·exact h.free x hx
   ·rw [D7i] at hx;rw [hx];exact hfree.1
  ·show ((s.l++[e.2]).map Int.toNat).Nodup
   rw [D7k]
   refine List.nodup_append.2 ⟨h.nd,by simp,fun a ha b hb=>?_⟩
   simp only [D7H,D9H,D7i] at hb
   subst hb
   exact fun e'=>hfree.2 (e'▸ha)
  ·show (s.used.set e.2.toNat true).getD j default=true↔(u0.getD j default=true∨j∈(s.l++[e.2]).map Int.toNat)
   rw [D7k,D7T,D7H,D9H,D7i]
   by_cases ej:j=e.2.toNat
   ·subst ej
    have:e.2.toNat<s.used.length:=by rw [hok.len];exact hr.2
    simp [D6D,this]
   ·have:(s.used.set e.2.toNat true).getD j default=s.used.getD j default:=by
     simp only [D6D]
     rw [D8w (fun e'=>ej e'.symm)]
    rw [this,h.used j]
    constructor
    ·rintro (h1 | h1)
     ·exact .inl h1
     ·exact .inr (.inl h1)
    ·rintro (h1 | h1 | h1)
     ·exact .inl h1
     ·exact .inr h1
     ·exact absurd h1 ej
theorem Y8.takes {us:List B2} {n:Nat} {u0:List Bool} {s:MSt} (h:Y8 u0 s) (hok:MOk us n s) {k:Nat} (hk:k<n):∀ {c:Nat} {s':MSt},S9 k c s=some s'→Y8 u0 s'
 | 0,s',e=>by cases e;exact h
 | c+1,s',e=>by
  unfold S9 at e
  obtain ⟨s1,h1,h2⟩:=D7P.1 e
  exact (Y8.takes h hok hk h1).take (hok.takes hk h1) hk h2
theorem Y8.parts {us:List B2} {p:B1} {u0:List Bool} {s:MSt} (h:Y8 u0 s) (hok:MOk us p.parts.length s):∀ {k:Nat} {s':MSt},k≤p.parts.length→L6 p.parts k s=some s'→Y8 u0 s'
 | 0,s',_,e=>by cases e;exact h
 | k+1,s',hk,e=>by
  unfold L6 at e
  obtain ⟨s1,h1,h2⟩:=D7P.1 e
  exact (Y8.parts h hok (by omega) h1).takes (MOk.parts hok (by omega) h1) (by omega) h2
theorem B2J {us:List B2} (hu:E3 us) {l:List Int} (hm:A0a us l):A2 (J0 us l)≤A2 (D9 us):=by
 have hl:(J0 us l).length=l.length:=by unfold J0;rw [D6J]
 have:=A2z hu hm (offs:=J0 us l) (by omega) (fun k hk=>by
  have h2:gI (J0 us l) k=(gU us (gI l k).toNat).net:=D4 (fun i:Int=>(gU us i.toNat).net) l (by omega)
  rw [h2]
  exact ⟨hu.at0 _,D7l _⟩) (J0 us l).length (D6M _)
 rw [D6O] at this
 have h1:=this.sum
 have h2:=C1 (this.ok hu).nets0
 omega
theorem B3T {us:List B2} {l:List Int} (hm:∀ x∈l,0≤x∧x.toNat<us.length) (hd:(l.map Int.toNat).Nodup):A0a us l:=by
 refine ⟨fun k hk=>hm _ (A7 hk),fun i k hik hk e=>?_⟩
 have hi:(l.map Int.toNat)[i]'(by rw [D6J];omega)=(l.map Int.toNat)[k]'(by rw [D6J];omega):=by
  rw [List.getElem_map,List.getElem_map]
  have h1:gI l i=l[i]:=by simp [gI,show i<l.length by omega]
  have h2:gI l k=l[k]:=by simp [gI,hk]
  rw [←h1,←h2];exact e
 exact (D8n.1 hd i k _ _ hik) hi
structure BSt where
 out:List B2
 ms:MSt
 taken:List Int
 all:Int
def A2i (p:B1) (us:List B2) (b:BSt):Option BSt:=match L6 p.parts p.parts.length ⟨b.ms.used,b.ms.es,[]⟩ with
 | none=>none
 | some s=>if I0 us s.l>p.amount then some ⟨A3w b.out (C4 s.l) (I0 us s.l - p.amount),s,b.taken++C4 s.l,b.all+(I0 us s.l - p.amount)⟩ else none
def A3q (p:B1) (us:List B2):Nat→BSt→BSt
 | 0,b=>b
 | m+1,b=>match A2i p us b with
  | none=>b
  | some b'=>A3q p us m b'
def F6 (us:List B2) (parts:List (List Int)):BSt:=⟨us,⟨List.replicate us.length false,fun k=>E1 us (parts.getD k []),[]⟩,[],0⟩
def R5 (p:B1) (us:List B2) (parts:List (List Int)):List B2×Int :=
 let b:=A3q p us (tot p.parts.length (F6 us parts).ms.es+1) (F6 us parts)
 (if p.closes=true then closeB b.out b.taken else b.out,b.all)
structure BOk (p:B1) (us:List B2) (D:Nat) (b:BSt):Prop where
 off:Off us b.out b.all
 same:∀ j,b.ms.used.getD j default=false→gU b.out j=gU us j
 ok:MOk us p.parts.length b.ms
 mem:∀ x∈b.taken,0≤x∧x.toNat<us.length
 len:b.taken.length+tot p.parts.length b.ms.es≤D
theorem V6 {l:List Int} {x:Int}:x∈C4 l↔x∈l:=(A1m l).mem_iff
structure C9H (p:B1) (us:List B2) (b:BSt) (s:MSt):Prop where
 places:A0a b.out (C4 s.l)
 weights:R3 (I0 us s.l - p.amount) (J0 b.out (C4 s.l))
 le:I0 us s.l - p.amount≤A2 (J0 b.out (C4 s.l))
theorem BOk.step {p:B1} (hp:A4k p) {us:List B2} (hu:E3 us) {D:Nat} {b:BSt} (h:BOk p us D b) {s:MSt} (hs:L6 p.parts p.parts.length ⟨b.ms.used,b.ms.es,[]⟩=some s) (hc:I0 us s.l>p.amount) :
  C9H p us b s∧BOk p us D ⟨A3w b.out (C4 s.l) (I0 us s.l - p.amount),s,b.taken++C4 s.l,b.all+(I0 us s.l - p.amount)⟩∧tot p.parts.length s.es<tot p.parts.length b.ms.es:=by
 have hok0:MOk us p.parts.length ⟨b.ms.used,b.ms.es,[]⟩:=⟨h.ok.len,h.ok.rng,h.ok.srt,fun x hx=>by simp at hx⟩
 have hok:=MOk.parts hok0 (D6M _) hs
 have htr:=Y8.parts (Y8.start b.ms.used b.ms.es) hok0 (D6M _) hs
 have hlen:=A2b hp (D6M _) hs
 have htot:=A7P (n:=p.parts.length) (D6M _) hs
 have hpos:=A6m hp hs
 simp only [D7X] at hlen htot hpos
 have hn8:=hp.n8
 have ha:=hp.amt
 have hpl:A0a b.out (C4 s.l):=B3T (fun x hx=>by rw [h.off.len];exact hok.mem x (V6.1 hx)) (((A1m s.l).map Int.toNat).nodup_iff.2 htr.nd)
 have hsame:∀ x∈s.l,(gU b.out x.toNat).net=(gU us x.toNat).net:=fun x hx=>by rw [h.same _ (htr.free x hx)]
 have hw:A2 (J0 b.out (C4 s.l))=I0 us s.l:=by
  unfold J0 I0
  rw [A7h ((A1m s.l).map fun i=>(gU b.out i.toNat).net)]
  congr 1
  exact D7V fun x hx=>hsame x hx
 have hou:=h.off.ok hu
 have hwl:=B2J hou hpl
 have hos:=hou.sum
 have hcb:=A1q hu s.l hok.mem
 have hW:R3 (I0 us s.l - p.amount) (J0 b.out (C4 s.l)):=by
  refine ⟨by omega,by omega,?_,fun w hw=>?_,by omega,fun e=>by omega⟩
  ·unfold J0;rw [D6J,Y0];omega
  ·obtain ⟨i,hi,rfl⟩:=D6Z.1 hw;exact hou.at0 _
 have hL:=C1n hou hpl hW (by omega)
 refine ⟨⟨hpl,hW,by omega⟩,⟨h.off.trans hL,fun j hj=>?_,hok,fun x hx=>?_,?_⟩,by omega⟩
 ·have hnot:¬(b.ms.used.getD j default=true∨j∈s.l.map Int.toNat):=fun h2=>by
   rw [(htr.used j).2 h2] at hj;cases hj
  have hju:b.ms.used.getD j default=false:=D8x.2 fun h2=>hnot (.inl h2)
  rw [←h.same j hju]
  by_cases hjl:j<b.out.length
  ·exact A5v hpl _ (D6M _) j hjl fun i hi e=>hnot (.inr (by
    have:gI (C4 s.l) i∈s.l:=V6.1 (A7 hi)
    rw [e];exact D9s this))
  ·have e1:gU b.out j=default:=by unfold gU;rw [D6D,D9f (by omega)];rfl
   have e2:gU (A3w b.out (C4 s.l) (I0 us s.l - p.amount)) j=default:=by
    unfold gU;rw [D6D,D9f (by rw [hL.len];omega)];rfl
   rw [e1];exact e2
 ·rcases D7T.1 hx with hx | hx
  ·exact h.mem x hx
  ·exact hok.mem x (V6.1 hx)
 ·rw [D6P,Y0]
  have:=h.len
  show _+tot p.parts.length s.es≤D
  omega
theorem B9J {p:B1} (hp:A4k p) {us:List B2} (hu:E3 us) {D:Nat}:∀ (m:Nat) {b:BSt},BOk p us D b→BOk p us D (A3q p us m b)
 | 0,b,h=>h
 | m+1,b,h=>by
  unfold A3q A2i
  cases hs:L6 p.parts p.parts.length ⟨b.ms.used,b.ms.es,[]⟩ with
  | none=>exact h
  | some s =>
   simp only
   by_cases hc:I0 us s.l>p.amount
   ·rw [if_pos hc]
    exact B9J hp hu m (h.step hp hu hs hc).2.1
   ·rw [if_neg hc];exact h
theorem A5X {p:B1} {us:List B2} (hu:E3 us) {parts:List (List Int)} (hl:parts.length=p.parts.length) (hm:∀ k,k<parts.length→N7 us (parts.getD k [])):BOk p us (tot p.parts.length (F6 us parts).ms.es) (F6 us parts):=by
 refine ⟨Off.refl hu,fun j hj=>rfl,⟨by simp [F6],fun k hk e he=>A6S (hm k (by omega)).rng he,fun k hk=>A5s _,fun x hx=>by simp [F6] at hx⟩,fun x hx=>by simp [F6] at hx,?_⟩
 show 0+_≤_
 omega
theorem B5S {p:B1} (hp:A4k p) {us:List B2} (hu:E3 us) {parts:List (List Int)} (hl:parts.length=p.parts.length) (hm:∀ k,k<parts.length→N7 us (parts.getD k [])):Off us (R5 p us parts).1 (R5 p us parts).2:=by
 have h:=B9J hp hu (tot p.parts.length (F6 us parts).ms.es+1) (A5X hu hl hm)
 unfold R5
 simp only
 split
 ·have h2:=Off.closeB (h.off.ok hu) (A3q p us (tot p.parts.length (F6 us parts).ms.es+1) (F6 us parts)).taken (fun x hx=>by rw [h.off.len];exact (h.mem x hx).2)
  have h3:=h.off.trans h2
  rw [D8R] at h3;exact h3
 ·exact h.off
end Go.Proofs.YtaapofnkmpiknaaGreat
namespace Go.Proofs.YtaapofnkmpiknaaGreat
open Go Go.Ab
attribute [local irreducible] upd del
theorem B8t (l:List (List Int)) (hl:l.length≤9223372036854775807) (g:FuncId) (cs:List AV) (p:(List Int)→Bool) (st:St)
  (hg:∀ x,x∈l→S P g (B0 x::cs) st fun v st'=>v=.bool (p x)∧st'=st) :
  S P 340 [A8 1 B0 l,.fn (.func g) [] cs] st fun v st'=>v=eI (idx p l)∧st'=st:=by
 refine F4 [] Tryz.func340 ?_
 refine ⟨[0,1,7,8],fun m vs st'=>∃ i:Nat,i≤l.length∧(∀ k,k<i→p (l.getD k default)=false)∧m=l.length - i∧vs=[A8 1 B0 l,.fn (.func g) [] cs,eI l.length,eI i]∧st'=st,?_,?_⟩
 ·conv=>whnf
  exact ⟨_,0,D7e _,fun k hk=>absurd hk (by omega),rfl,rfl,rfl⟩
 ·rintro m vs st' ⟨i,hi,hok,rfl,rfl,rfl⟩
  conv=>whnf
  cases h:decide ((i:Int)<(l.length:Int))
  ·have:=D6G h
   conv=>whnf
   refine ⟨?_,rfl⟩
   rw [T8 fun k hk=>hok k (by omega)];rfl
  ·have hi':i<l.length:=by have:=D6H h;omega
   conv=>whnf
   refine E7 ?_
   refine B3 (hg (l.getD (i:Int).toNat default) (by simp [hi'])) ?_
   rw [D6R]
   cases hp:p (l.getD i default)
   ·conv=>whnf
    refine G2 ?_
    refine ⟨l.length - (i+1),by omega,i+1,by omega,fun k hk=>?_,rfl,by rw [B4 (by omega)],rfl⟩
    rcases D7A.1 hk with h' | h'
    ·exact hok k h'
    ·rw [h'];exact hp
   ·conv=>whnf
    refine ⟨?_,rfl⟩
    rw [A1B hi' hok hp];rfl
theorem C3X (l:List (List Int)) (hl:l.length≤9223372036854775807) (g:FuncId) (cs:List AV) (p:(List Int)→Bool) (st:St)
  (hg:∀ x,x∈l→S P g (B0 x::cs) st fun v st'=>v=.bool (p x)∧st'=st) :
  S P 327 [A8 1 B0 l,.fn (.func g) [] cs] st fun v st'=>v=.bool (l.any p)∧st'=st:=by
 refine F4 [] Tryz.func327 ?_
 refine I2 (B8t l hl g cs p st hg) ?_
 refine ⟨?_,rfl⟩
 rw [←A1A];rfl
theorem C4f (us:List B2) (mine:List Int) (h:E3 us) (hm:N7 us mine) (st:St):S P 328 [B0 mine,.fptr (C6 us) 0] st fun v st'=>v=.bool false∧st'=st:=by
 refine F4 [] Tryz.func328 ?_
 refine I2 (B1n us mine h hm st) ?_
 exact ⟨rfl,rfl⟩
theorem C8G (p:B1) (us:List B2) (parts:List (List Int)) (hfit:Q7 p) (hright:H2 p=true) (hk:p.kind=4) (hu:E3 us) (hl:parts.length=p.parts.length) (hl8:parts.length≤8) (hm:∀ x∈parts,N7 us x) (st:St) :
  S P 304 [B7 p,C6 us,A8 1 B0 parts] st fun v st'=>v=.bool true∧st'=st:=by
 refine F4 [3,4] Tryz.func304 ?_
 rw [hk];conv=>whnf
 refine B3 (B0N p hfit st) ?_
 rw [hright];conv=>whnf
 rw [hl]
 have e:((p.parts.length:Int) != (p.parts.length:Int))=false:=by simp
 rw [e];conv=>whnf
 refine I2 (C3X parts (by omega) _ [.fptr (C6 us) 0] (fun _=>false) st fun x hx=>C4f us x hu (hm x hx) st) ?_
 refine ⟨?_,rfl⟩
 have:(parts.any fun _=>false)=false:=by simp
 rw [this];rfl
theorem B7y {s:St} {a b:Nat} {y:K4} (h:a≠b) (hs:s a=none):upd s b y a=none:=by rw [A9 h];exact hs
theorem C5t {n B:Nat} {es:Nat→List QE} (h:∀ i,i<n→(es i).length≤B):tot n es≤n * B:=by
 induction n with
 | zero=>exact D7e _
 | succ n ih =>
  unfold tot
  have h1:=ih fun i hi=>h i (by omega)
  have h2:=h n (by omega)
  have h3:(n+1) * B=n * B+B:=Nat.succ_mul n B
  omega
structure Lay (p:B1) (us:List B2) (E:Nat→List QE) (base:St) (bm bu:Nat) (i:Nat) (q:Nat→Nat) (rv:AV) (t:St):Prop where
 nbm:base bm=none
 nbu:base bu=none
 ne:bu≠bm
 has:∃ f g,f 0=.agg (A1W p++[C6 us,.own 1 bu 0 us.length,rv])∧(∀ k,k<us.length→g k=eB false) ∧
  ROut (Qs i q E) 278 1 (fun k=>.optr 1 (q k) 0 0) i (upd (upd base bm ⟨363,18,1,f⟩) bu ⟨4,1,us.length,g⟩) rv t
theorem Lay.mk' {p:B1} {us:List B2} {E:Nat→List QE} {base:St} {bm bu i:Nat} {q:Nat→Nat} {rv:AV} {t:St} (h:Lay p us E base bm bu i q rv t) (hi:0<i) :
  ∃ br,rv=.own 1 br 0 i∧MkR ⟨p,us,bm,bu,br,i,q⟩ (List.replicate us.length false) E base t:=by
 obtain ⟨h1,h2,h3,f,g,hf,hg,s0,hc,hq⟩:=h
 rcases hc with ⟨e,_,_⟩ | ⟨_,br,y,hb,rfl,rfl,hy⟩
 ·omega
 refine ⟨br,rfl,h1,_,⟨f,rfl,by rw [D7L];exact hf⟩,B7y h3 h2,_,⟨g,by rw [D7L],fun k hk=>?_⟩,hb,_,⟨y,rfl,hy⟩,hq⟩
 rw [D7L] at hk
 rw [hg k hk];simp [hk]
theorem C3r (uv:AV) (st:St):S P 297 [uv,B0 []] st fun v st'=>v=.tuple []∧st'=st:=by
 refine F4 [] Tryz.func297 ?_
 refine B1M [0,6,7,8] ?_;conv=>whnf
 intro I;conv=>whnf
 exact ⟨rfl,rfl⟩
theorem C3m (p:B1) (us:List B2) (parts:List (List Int)) (hfit:Q7 p) (hright:H2 p=true) (hk:p.kind=4) (hp:A4k p) (hu:E3 us) (hl:parts.length=p.parts.length) (hm:∀ x∈parts,N7 us x) (st:St) :
  S P 275 [B7 p,C6 us,A8 1 B0 parts] st fun v st'=>v=.tuple [C6 (R5 p us parts).1,eI (R5 p us parts).2]∧st'=st:=by
 refine S.post (post:=fun v st'=>∃ sv,v=.tuple [sv,eI (R5 p us parts).2]∧A5I st (R5 p us parts).1 sv st') ?_
  (fun v st' ⟨sv,hv,hr⟩=>⟨_,st,⟨rfl,rfl⟩,by rw [hv];exact A6.tuple (A6.cons hr.shift (A6.keep _ _)) rfl⟩)
 have hul:=hu.len
 have hn1:=hp.n1
 have hn8:=hp.n8
 have hme:∀ k,k<parts.length→N7 us (parts.getD k default):=fun k hk=>hm _ (A7 hk)
 have hst0:=A5X hu hl (fun k hk=>hme k hk)
 generalize hE:(fun k=>E1 us (parts.getD k default))=E at *
 have hEk:∀ k,E k=E1 us (parts.getD k default):=fun k=>by rw [←hE]
 have hbs:F6 us parts=⟨us,⟨List.replicate us.length false,E,[]⟩,[],0⟩:=by rw [←hE];rfl
 have hD:tot p.parts.length (F6 us parts).ms.es≤800000:=by
  have:=C5t (n:=p.parts.length) (B:=100000) (es:=(F6 us parts).ms.es) (fun i hi=>by
   rw [hbs]
   show (E i).length≤100000
   rw [hEk,A1Y]
   exact D7S (hme i (by omega)).len hul)
  have h2:p.parts.length * 100000≤8 * 100000:=D7E _ hn8
  omega
 have hB:R5 p us parts=(if p.closes=true then closeB (A3q p us (tot p.parts.length (F6 us parts).ms.es+1) (F6 us parts)).out (A3q p us (tot p.parts.length (F6 us parts).ms.es+1) (F6 us parts)).taken else (A3q p us (tot p.parts.length (F6 us parts).ms.es+1) (F6 us parts)).out,(A3q p us (tot p.parts.length (F6 us parts).ms.es+1) (F6 us parts)).all):=rfl
 refine F4 [3] Tryz.func275 ?_
 refine call (B1j us hul st) (fun sv base hcol=>?_)
 have hres:=A5I.ofCol hcol
 conv=>whnf
 refine I2 (C8G p us parts hfit hright hk hu hl (by omega) hm _) ?_
 refine ⟨[4,6],[0],[0,1,2,3,4,5,6,7],by kernel_rfl,?_⟩;conv=>whnf
 refine ⟨_,fun s _=>⟨rfl,rfl⟩,?_⟩;conv=>whnf
 refine mkO rfl rfl rfl (by show 1 * us.length≤_;omega) (by omega) (by rfl) (fun bu hbu=>?_);conv=>whnf
 intro bm hbm
 have hne:bu≠bm:=fun e=>by subst e;rw [A0] at hbm;cases hbm
 rw [A9 hne.symm] at hbm;conv=>whnf
 have hlay0:Lay p us E base bm bu 0 (fun _=>0) .emp (upd (upd base bu ⟨4,r4.size,us.length,fun _=>H7 r4.zero⟩) bm ⟨363,18,1,fun _=>.agg (A1W p++[C6 us,.own 1 bu 0 us.length,.emp])⟩) :=
  ⟨hbm,hbu,hne,fun _=>.agg (A1W p++[C6 us,.own 1 bu 0 us.length,.emp]),fun _=>eB false,rfl,fun _ _=>rfl,by
   rw [R1 hne.symm]
   exact ROut.start (Qs.nil (F1.refl _)) _ _ _⟩
 refine ⟨[1,3,8,9,32,33,34],fun m vs t=>∃ (i:Nat) (q:Nat→Nat) (rv:AV),i≤parts.length∧m=parts.length - i∧vs=[C6 us,.fptr (B7 p) 0,sv,.optr 18 bm 0 0,A8 1 B0 parts,eI parts.length,eI i]∧Lay p us E base bm bu i q rv t,?_,?_⟩
 ·conv=>whnf
  exact ⟨_,0,_,.emp,D7e _,rfl,rfl,hlay0⟩
 ·clear hlay0
  rintro m vs t ⟨i,q,rv,hi,rfl,rfl,hlay⟩
  conv=>whnf
  cases h:decide ((i:Int)<(parts.length:Int))
  ·have:=D6G h
   have hin:i=p.parts.length:=by omega
   subst hin
   obtain ⟨br,rfl,hMk⟩:=hlay.mk' (by omega)
   clear hlay
   conv=>whnf
   refine ⟨[3,8,9,12,13],fun m vs t=>∃ (b:BSt) (svT:AV) (ba:St),BOk p us (tot p.parts.length (F6 us parts).ms.es) b∧tot p.parts.length b.ms.es<m∧A3q p us m b=A3q p us (tot p.parts.length (F6 us parts).ms.es+1) (F6 us parts)∧vs=[.fptr (B7 p) 0,sv,.optr 18 bm 0 0,svT,eI b.all]∧A5I st b.out sv ba∧ROut (MkR ⟨p,us,bm,bu,br,p.parts.length,q⟩ b.ms.used b.ms.es) 3 1 (fun k=>eI (gI b.taken k)) b.taken.length ba svT t,?_,?_⟩
   ·conv=>whnf
    refine ⟨_,F6 us parts,.emp,base,hst0,D9w _,rfl,rfl,hres,?_⟩
    rw [hbs]
    exact ROut.start hMk _ _ _
   ·clear hMk hres
    rintro m vs t' ⟨b,svT,ba,hb,hlt,hF,rfl,hres,hout⟩
    obtain ⟨s0,hcol0,hMk⟩:=hout
    obtain ⟨m,rfl⟩:∃ n,m=n+1:=⟨m - 1,by omega⟩
    have hbl:=hb.len
    -- the end: what is closed
    have fin:∀ t2,F1 s0 t2→A2i p us b=none→(p.closes=true→∃ v3 t3,(∀ K:KK,(∀ t3,A5I st (closeB b.out b.taken) sv t3→K (.tuple []) t3)→A1M P 297 [sv,svT] t2 K)∧v3=AV.emp∧t3=t2)∧A5I st b.out sv t2∧R5 p us parts=(if p.closes=true then closeB b.out b.taken else b.out,b.all):=fun t2 hs2 hstep=>by
     have hbf:A3q p us (m+1) b=b:=by unfold A3q;rw [hstep]
     rw [hbf] at hF
     refine ⟨fun hc=>⟨.emp,t2,fun K hK=>?_,rfl,rfl⟩,?_,by rw [hB,←hF]⟩
     ·have hsh:A6 [svT] t2 [B0 b.taken] ba:=(hs2.shift _).trans hcol0.shift
      rcases hres.2 with ⟨h5,h6⟩ | ⟨bo,hb0,rfl,hHas⟩
      ·subst h6
       have hnil:b.taken=[]:=by
        cases hbt:b.taken with
        | nil=>rfl
        | cons x l =>
         have:=(hb.mem x (by rw [hbt];exact D7f ..)).2
         have h7:=hb.off.len
         rw [h5,D7X] at h7
         omega
       rw [hnil] at hsh
       refine E5 (args':=[.emp,B0 []]) (A6.cons (A6.keep _ _) hsh) (call (C3r _ ba) (fun v t3 hv=>?_))
       obtain ⟨rfl,rfl⟩:=hv
       refine hK _ ?_
       rw [h5,hnil]
       exact ⟨hres.1,.inl ⟨rfl,rfl⟩⟩
      ·refine E5 (args':=[.own 3 bo 0 b.out.length,B0 b.taken]) (A6.cons (A6.keep _ _) hsh) (call (B4A bo b.out b.taken (fun x hx=>by rw [hb.off.len];exact hb.mem x hx) (by omega) ba hHas) (fun v t3 hv=>?_))
       obtain ⟨rfl,hH3,hfr⟩:=hv
       refine hK _ ⟨fun x y hx=>?_,.inr ⟨bo,hb0,by rw [A1X],hH3⟩⟩
       rw [hfr x (fun e=>by subst e;rw [hb0] at hx;cases hx)];exact hres.1 x y hx
     ·have hsup:F1 ba t2:=hcol0.sup.trans hs2
      refine ⟨hres.1.trans hsup,?_⟩
      rcases hres.2 with h3 | ⟨bo,h3,h4,f,h5,h6⟩
      ·exact .inl h3
      ·exact .inr ⟨bo,h3,h4,f,hsup bo _ h5,h6⟩
    have hok0:MOk us p.parts.length ⟨b.ms.used,b.ms.es,[]⟩:=⟨hb.ok.len,hb.ok.rng,hb.ok.srt,fun x hx=>by simp at hx⟩
    conv=>whnf
    refine call (C8W ⟨p,us,bm,bu,br,p.parts.length,q⟩ rfl hp hu ⟨b.ms.used,b.ms.es,[]⟩ rfl hok0 s0 t' hMk) (fun v t2 hv=>?_)
    simp only at hv
    cases hs:L6 p.parts p.parts.length ⟨b.ms.used,b.ms.es,[]⟩ with
    | none =>
     rw [hs] at hv
     obtain ⟨rfl,hs2⟩:=hv
     obtain ⟨g1,g2,g3⟩:=fin t2 hs2 (by unfold A2i;rw [hs])
     rw [g3];conv=>whnf
     cases hc:p.closes with
     | true =>
      obtain ⟨_,_,g4,_,_⟩:=g1 hc
      conv=>whnf
      refine g4 _ (fun t3 h3=>?_);conv=>whnf
      exact ⟨_,rfl,h3⟩
     | false =>
      conv=>whnf
      exact ⟨_,rfl,g2⟩
    | some s =>
     rw [hs] at hv
     obtain ⟨rfl,hMk2⟩:=hv
     have hBs:=B9F ⟨p,us,bm,bu,br,p.parts.length,q⟩ s.used s.es
     by_cases hcost:I0 us s.l>p.amount
     ·obtain ⟨k1,k2,k3⟩:=hb.step hp hu hs hcost
      have hcost':decide (I0 us s.l>p.amount)=true:=D7m hcost
      have hstep:A3q p us (m+1) b=A3q p us m ⟨A3w b.out (C4 s.l) (I0 us s.l - p.amount),s,b.taken++C4 s.l,b.all+(I0 us s.l - p.amount)⟩:=by
       conv=>lhs;unfold A3q A2i
       rw [hs];simp only;rw [if_pos hcost]
      rw [hcost']
      have hlen:=A2b hp (D6M _) hs
      have htot:=A7P (n:=p.parts.length) (D6M _) hs
      have hpos:=A6m hp hs
      simp only [D7X] at hlen htot hpos
      rcases hres.2 with ⟨h5,h6⟩ | ⟨bo,hb0,rfl,f,hstb,hf⟩
      ·exfalso
       have:=(k1.places.rng 0 (by rw [Y0];omega)).2
       rw [h5,D7X] at this
       omega
      have hou:=hb.off.ok hu
      have hout2:ROut (MkR ⟨p,us,bm,bu,br,p.parts.length,q⟩ s.used s.es) 3 1 (fun k=>eI (gI b.taken k)) b.taken.length ba svT t2:=⟨s0,hcol0,hMk2⟩
      conv=>whnf
      refine call (C6g bo b.out hou (C4 s.l) (by rw [Y0];omega) k1.places _ k1.weights t2 ⟨f,hout2.sup hBs bo _ hstb,hf⟩) (fun v t3 hv=>?_)
      obtain ⟨rfl,f3,rfl,hf3⟩:=hv
      have hout3:=hout2.write hBs (y':=⟨223,3,b.out.length,f3⟩) hstb
      have hll:(A3w b.out (C4 s.l) (I0 us s.l - p.amount)).length=b.out.length:=by rw [k2.off.len,hb.off.len]
      conv=>whnf
      refine ROut.apps (q:=r3) (m:=s.l.length) (n:=b.taken.length) hBs rfl rfl rfl rfl (B5w (Y0 s.l) _) (f:=fun k=>eI (gI (b.taken++C4 s.l) k)) (fun i hi=>?_) (by show (b.taken.length+s.l.length) * 8≤140737488355328;omega) (hout3.congr fun k hk=>by rw [N5 hk]) (fun sv' t4 hout4=>?_)
      ·show eI (gI (C4 s.l) i)=eI (gI (b.taken++C4 s.l) (b.taken.length+i))
       unfold gI
       rw [D6D,D6D,D7a (by omega),Nat.add_sub_cancel_left]
      have hX1:=hb.off.pos
      have hX3:=k2.off.sum
      have hX4:=C1 (k2.off.ok hu).nets0
      have hX5:=hu.sum
      have hX6:=k1.weights.t0
      simp only at hX3 hX4
      conv=>whnf
      refine G2 ?_
      refine ⟨m,D9w _,⟨A3w b.out (C4 s.l) (I0 us s.l - p.amount),s,b.taken++C4 s.l,b.all+(I0 us s.l - p.amount)⟩,sv',upd ba bo ⟨223,3,b.out.length,f3⟩,k2,by show tot p.parts.length s.es<m;omega,by rw [←hstep];exact hF,?_,?_,?_⟩
      ·have w:IntKind.i64.wrap (b.all+(I0 us s.l - p.amount))=b.all+(I0 us s.l - p.amount):=A5 (by omega) (by omega)
       show [AV.fptr (B7 p) 0,AV.own 3 bo 0 b.out.length,AV.optr 18 bm 0 0,sv',eI (IntKind.i64.wrap (b.all+(I0 us s.l - p.amount)))]=_
       rw [w]
      ·exact ⟨hres.1.over hb0,.inr ⟨bo,hb0,by show AV.own 3 bo 0 b.out.length=_;rw [hll],f3,by rw [A0,hll],by rw [hll];exact hf3⟩⟩
      ·show ROut _ _ _ _ (b.taken++C4 s.l).length _ _ _
       rw [D6P,Y0];exact hout4
     ·have hcost':decide (I0 us s.l>p.amount)=false:=D6L hcost
      obtain ⟨g1,g2,g3⟩:=fin t2 (hBs.sup hMk2) (by unfold A2i;rw [hs];simp only;rw [if_neg hcost])
      rw [g3,hcost'];conv=>whnf
      cases hc:p.closes with
      | true =>
       obtain ⟨_,_,g4,_,_⟩:=g1 hc
       conv=>whnf
       refine g4 _ (fun t3 h3=>?_);conv=>whnf
       exact ⟨_,rfl,h3⟩
      | false =>
       conv=>whnf
       exact ⟨_,rfl,g2⟩
  ·have hi':i<parts.length:=by have:=D6H h;omega
   have hmi:=hme i hi'
   have hml:=hmi.len
   obtain ⟨l1,l2,l3,f,g,hf,hg,hout⟩:=hlay
   have hbmS:∀ {n:Nat} {q:Nat→Nat} {E:Nat→List QE} {rv:AV} {fo:Nat→AV} {n':Nat} {t:St},ROut (Qs n q E) 278 1 fo n' (upd (upd base bm ⟨363,18,1,f⟩) bu ⟨4,1,us.length,g⟩) rv t→t bm=some ⟨363,18,1,f⟩:=fun h =>
    h.sup (A3p _ _ _) bm _ (by rw [A9 l3.symm,A0])
   -- what is behind the call and the append
   have after:∀ (q':Nat) (t2:St),QSt t q' true (E1 us (parts.getD i default)) t2→ROut (Qs (i+1) (A0k q i q') E) 278 1 (fun k=>.optr 1 (A0k q i q' k) 0 0) i (upd (upd base bm ⟨363,18,1,f⟩) bu ⟨4,1,us.length,g⟩) rv t2:=fun q' t2 hq'=>by
    obtain ⟨s0,hc,hqs⟩:=hout
    refine ⟨s0,Col.congr hc fun k hk=>by rw [N4 (by omega)],?_⟩
    refine (hqs.add hq').congr (fun _ _=>rfl) fun k hk=>?_
    by_cases e:k=i
    ·subst e;rw [H1,hEk]
    ·rw [N4 e]
   conv=>whnf
   refine E7 ?_
   refine ⟨[4,7,9,12],[],[],.qui 0 (.qui 1 (.qui 2 (.qui 3 (.qui 5 (.qui 6 (.two 4 7 (.gen 7 (.qui 8 (.gen 9 (.qui 10 (.qui 11 (.gen 12 .done)))))) (.qui 4 (.qui 8 (.gen 9 (.qui 10 (.qui 11 (.gen 12 .done)))))))))))),by kernel_rfl,?_⟩;conv=>whnf
   have stored:∀ (q':Nat) (rv':AV) (t4:St),ROut (Qs (i+1) (A0k q i q') E) 278 1 (fun k=>.optr 1 (A0k q i q' k) 0 0) (i+1) (upd (upd base bm ⟨363,18,1,f⟩) bu ⟨4,1,us.length,g⟩) rv' t4→Lay p us E base bm bu (i+1) (A0k q i q') rv' (upd t4 bm ⟨363,18,1,I4 f 0 (.agg (A1W p++[C6 us,.own 1 bu 0 us.length,rv']))⟩):=fun q' rv' t4 h4=>by
    refine ⟨l1,l2,l3,I4 f 0 (.agg (A1W p++[C6 us,.own 1 bu 0 us.length,rv'])),g,A4 ..,hg,?_⟩
    have h5:=h4.write (A3p _ _ _) (b:=bm) (y':=⟨363,18,1,I4 f 0 (.agg (A1W p++[C6 us,.own 1 bu 0 us.length,rv']))⟩) (by rw [A9 l3.symm,A0])
    rw [R1 l3,C0] at h5
    exact h5
   have fin3:∀ (q':Nat) (rv':AV) (t5:St),Lay p us E base bm bu (i+1) (A0k q i q') rv' t5→∃ m',m'<parts.length - i∧∃ (i_1:Nat) (q:Nat→Nat) (rv:AV),i_1≤parts.length∧m'=parts.length - i_1∧[C6 us,AV.fptr (B7 p) 0,sv,AV.optr 18 bm 0 0,A8 1 B0 parts,eI parts.length,eI (IntKind.i64.wrap ((i:Int)+1))]=[C6 us,.fptr (B7 p) 0,sv,.optr 18 bm 0 0,A8 1 B0 parts,eI parts.length,eI i_1]∧Lay p us E base bm bu i_1 q rv t5 :=
    fun q' rv' t5 h5=>⟨parts.length - (i+1),by omega,i+1,_,rv',by omega,rfl,by rw [B4 (by omega)],h5⟩
   rcases hout.head with rfl | ⟨br,rfl⟩<;>conv=>whnf
   all_goals constructor
   all_goals conv=>whnf
   case inl.left | inr.left =>
    refine J6 (hbmS hout) hf ?_
    refine call (A9n us (parts.getD i default) hul (by omega) hmi.rng t) (fun v t2 hv=>?_)
    obtain ⟨q',rfl,hq'⟩:=hv
    have hout2:=after q' t2 hq'
    conv=>whnf
    refine ⟨_,⟨rfl,rfl⟩,?_⟩;conv=>whnf
    refine ROut.app (q:=C7b) (A3p _ _ _) rfl rfl rfl rfl rfl (by simp only [H1];rfl) (by show (i+1) * 8≤140737488355328;omega) hout2 (fun rv' t4 hout4=>?_)
    rcases hout4.head with e | ⟨br',e⟩<;>subst e
    all_goals conv=>whnf
    all_goals refine stV (hbmS hout4) rfl (by omega) hf (by rfl) ?_
    all_goals conv=>whnf
    all_goals refine ⟨rfl,?_⟩
    all_goals conv=>whnf
    all_goals exact fin3 _ _ _ (stored q' _ _ hout4)
   case inl.right | inr.right =>
    refine call (A9n us (parts.getD i default) hul (by omega) hmi.rng t) (fun v t2 hv=>?_)
    obtain ⟨q',rfl,hq'⟩:=hv
    have hout2:=after q' t2 hq'
    conv=>whnf
    refine J6 (hbmS hout2) hf ?_
    refine ⟨_,⟨rfl,rfl⟩,?_⟩;conv=>whnf
    refine ROut.app (q:=C7b) (A3p _ _ _) rfl rfl rfl rfl rfl (by simp only [H1];rfl) (by show (i+1) * 8≤140737488355328;omega) hout2 (fun rv' t4 hout4=>?_)
    rcases hout4.head with e | ⟨br',e⟩<;>subst e
    all_goals conv=>whnf
    all_goals refine stV (hbmS hout4) rfl (by omega) hf (by rfl) ?_
    all_goals conv=>whnf
    all_goals refine ⟨rfl,?_⟩
    all_goals conv=>whnf
    all_goals exact fin3 _ _ _ (stored q' _ _ hout4)
def inB (l:List C8) (s:C8):Bool:=l.any fun y=>s.toList==y.toList
theorem C4d (l:List C8) (s:C8) (hl:l.length≤9223372036854775807) (st:St):S P 312 [C7 l,eS s] st fun v st'=>v=.bool (inB l s)∧st'=st:=by
 refine F4 [] Tryz.func312 ?_
 refine I2 (C1s l hl s st) ?_
 exact ⟨rfl,rfl⟩
def B0v (s:W4) (x:Ab.Item):Bool:=(s.skus.length+s.cats.length==0)||inB s.skus x.sku||inB s.cats x.cat
theorem C9j (s:W4) (x:Ab.Item) (h1:s.skus.length≤20) (h2:s.cats.length≤20) (st:St):S P 292 [A3Y s,E9 x] st fun v st'=>v=.bool (B0v s x)∧st'=st:=by
 refine F4 [2,3] Tryz.func292 ?_
 have w:IntKind.i64.wrap ((s.skus.length:Int)+(s.cats.length:Int))=((s.skus.length+s.cats.length:Nat):Int):=by rw [A5 (by omega) (by omega)];omega
 rw [w,A3P]
 refine B9 (fun h=>?_) (fun h=>?_)<;>rw [h]
 ·conv=>whnf
  refine ⟨?_,rfl⟩
  unfold B0v;rw [h];rfl
 ·conv=>whnf
  refine I2 (C4d s.skus x.sku (by omega) st) ?_
  refine B9 (fun h3=>?_) (fun h3=>?_)<;>rw [h3]
  ·conv=>whnf
   refine ⟨?_,rfl⟩
   unfold B0v;rw [h,h3];rfl
  ·conv=>whnf
   refine I2 (C4d s.cats x.cat (by omega) st) ?_
   refine ⟨?_,rfl⟩
   unfold B0v;rw [h,h3];rfl
theorem J5:L2 F1 where
 sup:=fun h=>h
 begin:=fun {s t b y} h hb=>fun c x hc=>by
  by_cases e:c=b
  ·subst e;rw [A0] at hc ⊢;exact hc
  ·rw [A9 e] at hc ⊢;exact h c x hc
 grow:=fun {s t b b' y y'} h h0 hb=>by
  have hsub:∀ c x,s c=some x→c≠b∧t c=some x:=fun c x hc=>by
   have hne:c≠b:=fun e=>by subst e;rw [h0] at hc;cases hc
   exact ⟨hne,h c x (by rw [A9 hne];exact hc)⟩
  have hb':s b'=none:=by
   rcases hb with e | e
   ·rw [e];exact h0
   ·cases hx:s b' with
    | none=>rfl
    | some x=>rw [(hsub _ _ hx).2] at e;cases e
  refine ⟨hb',fun c x hc=>?_⟩
  by_cases e:c=b'
  ·subst e;rw [A0] at hc ⊢;exact hc
  ·rw [A9 e] at hc ⊢
   rw [A2F (hsub c x hc).1];exact (hsub c x hc).2
 write:=fun {s t b y y'} h hb=>F1.write (y:=y) h
 forget:=fun {s t b y} h h0=>fun c x hc=>by
  have hne:c≠b:=fun e=>by subst e;rw [h0] at hc;cases hc
  rw [A2F hne];exact h c x (by rw [A9 hne];exact hc)
 drop:=fun {s t b y} h h0=>F1.drop h h0
theorem C3j {ι : Type} {R : ι→St→St→Prop} (h:∀ i,L2 (R i)):L2 fun s t=>∃ i,R i s t where
 sup:=fun ⟨i,hi⟩=>(h i).sup hi
 begin:=fun ⟨i,hi⟩ hb=>⟨i,(h i).begin hi hb⟩
 grow:=fun ⟨i,hi⟩ h0 hb=>⟨((h i).grow (y':=⟨0,0,0,fun _=>.junk⟩) hi h0 hb).1,i,((h i).grow hi h0 hb).2⟩
 write:=fun ⟨i,hi⟩ hb=>⟨i,(h i).write hi hb⟩
 forget:=fun ⟨i,hi⟩ h0=>⟨i,(h i).forget hi h0⟩
 drop:=fun ⟨i,hi⟩ h0=>⟨i,(h i).drop hi h0⟩
theorem Col.off {ty e n:Nat} {fo:Nat→AV} {s s0:St} {sv:AV} (h:Col ty e fo s n sv s0) {b:Nat} (hb:s0 b=none):s b=none:=by
 rcases h with ⟨_,_,rfl⟩ | ⟨_,bo,g,h1,_,rfl,_⟩
 ·exact hb
 ·by_cases e:b=bo
  ·subst e;exact h1
  ·rw [A9 e] at hb;exact hb
theorem Col.under {ty e n:Nat} {fo:Nat→AV} {s s0:St} {sv:AV} (h:Col ty e fo s n sv s0) {b:Nat} {y:K4} (hb:s0 b=none):Col ty e fo (upd s b y) n sv (upd s0 b y):=by
 rcases h with ⟨rfl,rfl,rfl⟩ | ⟨h0,bo,g,h1,rfl,rfl,h3⟩
 ·exact Col.start _ _ _ _
 ·have hne:bo≠b:=fun e=>by subst e;rw [A0] at hb;cases hb
  exact .inr ⟨h0,bo,g,by rw [A9 hne];exact h1,rfl,R1 hne,h3⟩
theorem Col.split {ty e n:Nat} {fo:Nat→AV} {s s0:St} {sv:AV} {b:Nat} {y:K4} (h:Col ty e fo (upd s b y) n sv s0) (hb:s b=none):∃ s1,s1 b=none∧s0=upd s1 b y∧Col ty e fo s n sv s1:=by
 rcases h with ⟨rfl,rfl,rfl⟩ | ⟨h0,bo,g,h1,rfl,rfl,h3⟩
 ·exact ⟨s,hb,rfl,Col.start _ _ _ _⟩
 ·have hne:bo≠b:=fun e=>by subst e;rw [A0] at h1;cases h1
  rw [A9 hne] at h1
  exact ⟨upd s bo ⟨ty,e,n,g⟩,by rw [A9 hne.symm];exact hb,R1 hne.symm,.inr ⟨h0,bo,g,h1,rfl,rfl,h3⟩⟩
theorem U9 {R:St→St→Prop} (hR:L2 R) (ty e:Nat) (fo:Nat→AV) (n:Nat) (sv:AV):L2 fun s t=>ROut R ty e fo n s sv t where
 sup:=fun h=>h.sup hR
 begin:=fun {s t b y} ⟨s0,hc,h⟩ hb=>⟨upd s0 b y,Col.under hc ((hR.sup h).none hb),hR.begin h hb⟩
 grow:=fun {s t b b' y y'} ⟨s0,hc,h⟩ h0 hb=>by
  obtain ⟨s1,h1,rfl,hc1⟩:=Col.split hc h0
  obtain ⟨g1,g2⟩:=hR.grow (y':=y') h h1 hb
  exact ⟨Col.off hc1 g1,_,Col.under hc1 g1,g2⟩
 write:=fun {s t b y y'} ⟨s0,hc,h⟩ hb=>⟨_,Col.write hc hb,hR.write h (hc.sup b y hb)⟩
 forget:=fun {s t b y} ⟨s0,hc,h⟩ h0=>by
  obtain ⟨s1,h1,rfl,hc1⟩:=Col.split hc h0
  exact ⟨s1,hc1,hR.forget h h1⟩
 drop:=fun {s t b y} ⟨s0,hc,h⟩ h0=>by
  obtain ⟨s1,h1,rfl,hc1⟩:=Col.split hc h0
  exact ⟨s1,hc1,hR.drop h h1⟩
structure PSt where
 us:List B2
 deals:List A1O
 groups:List C8
abbrev A1y (l:List A1O):Nat→AV:=fun k=>B9O (l.getD k default)
abbrev A7r (l:List C8):Nat→AV:=fun k=>eS (l.getD k default)
def IsP (items:List Ab.Item) (us:List B2) (dv gv:AV) (y:K4):Prop:=∃ f,y=⟨239,4,1,f⟩∧f 0=.agg [A8 4 E9 items,C6 us,dv,gv]
def RG (groups:List C8) (gv:AV):St→St→Prop:=fun s t=>ROut F1 9 1 (A7r groups) groups.length s gv t
def RD (deals:List A1O) (groups:List C8) (dv gv:AV):St→St→Prop:=fun s t=>ROut (RG groups gv) 221 2 (A1y deals) deals.length s dv t
def PxR (bx:Nat) (items:List Ab.Item) (p:PSt):St→St→Prop:=fun s t=>∃ v:AV×AV,Y7 bx (IsP items p.us v.1 v.2) (RD p.deals p.groups v.1 v.2) s t
theorem A8n (groups:List C8) (gv:AV):L2 (RG groups gv):=U9 J5 _ _ _ _ _
theorem A3K (deals:List A1O) (groups:List C8) (dv gv:AV):L2 (RD deals groups dv gv):=U9 (A8n groups gv) _ _ _ _ _
theorem A4Z (bx:Nat) (items:List Ab.Item) (p:PSt):L2 (PxR bx items p):=C3j fun _=>A0w (A3K _ _ _ _)
theorem PxR.at {bx:Nat} {items:List Ab.Item} {p:PSt} {s t:St} (h:PxR bx items p s t):∃ dv gv f,t bx=some ⟨239,4,1,f⟩∧f 0=.agg [A8 4 E9 items,C6 p.us,dv,gv]∧(dv=.emp∨∃ b,dv=.own 2 b 0 p.deals.length)∧(gv=.emp∨∃ b,gv=.own 1 b 0 p.groups.length):=by
 obtain ⟨⟨dv,gv⟩,h⟩:=h
 obtain ⟨y,⟨f,rfl,hf⟩,hy⟩:=Y7.at (A3K _ _ _ _) h
 obtain ⟨_,_,_,hd⟩:=h
 obtain ⟨s0,hc,hg⟩:=hd
 refine ⟨dv,gv,f,hy,hf,?_,?_⟩
 ·exact (show ROut (RG p.groups gv) _ _ _ _ _ dv t from ⟨s0,hc,hg⟩).head
 ·exact hg.head
def A1G (sc:W4) (items:List Ab.Item) (u:B2):Bool:=u.opn&&B0v sc (items.getD u.line.toNat default)
def K0 (sc:W4) (items:List Ab.Item) (us:List B2) (i:Nat):List Int:=((List.range i).filter fun k=>A1G sc items (gU us k)).map Int.ofNat
theorem B1F (sc:W4) (items:List Ab.Item) (us:List B2) (i:Nat):K0 sc items us (i+1)=K0 sc items us i++(if A1G sc items (gU us i)=true then [(i:Int)] else []):=by
 unfold K0
 rw [D8m,D8A,D7k]
 congr 1
 by_cases h:A1G sc items (gU us i)=true
 ·rw [if_pos h,D7I (p:=fun k=>A1G sc items (gU us k)) h];rfl
 ·rw [if_neg h,D7O (p:=fun k=>A1G sc items (gU us k)) h];rfl
theorem A3i (sc:W4) (items:List Ab.Item) (us:List B2) (i:Nat):(K0 sc items us i).length≤i:=by
 unfold K0
 rw [D6J]
 exact D7S (D9g ..) (by simp)
theorem A1E (sc:W4) (items:List Ab.Item) (us:List B2):N7 us (K0 sc items us us.length):=by
 have hmem:∀ k,k<(K0 sc items us us.length).length→∃ j:Nat,gI (K0 sc items us us.length) k=(j:Int)∧j<us.length∧A1G sc items (gU us j)=true:=fun k hk=>by
  have h:=A7 (l:=K0 sc items us us.length) hk
  obtain ⟨j,hj,he⟩:=D6Z.1 h
  obtain ⟨h1,h2⟩:=D7F.1 hj
  exact ⟨j,he.symm,D6T.1 h1,h2⟩
 refine ⟨fun k hk=>?_,fun k hk=>?_,fun k hk=>?_⟩
 ·obtain ⟨j,e,h1,h2⟩:=hmem k hk
  rw [e];omega
 ·obtain ⟨j,e,h1,h2⟩:=hmem k hk
  rw [e]
  unfold A1G at h2
  rw [D6I] at h2
  exact h2.1
 ·have hs:(K0 sc items us us.length).Pairwise (·<·):=by
   unfold K0
   refine List.Pairwise.map _ (fun a b h=>?_) ((List.pairwise_lt_range (n:=us.length)).filter _)
   show (a:Int)<(b:Int)
   omega
  have:=D8n.1 hs k (k+1) (by omega) hk (by omega)
  simpa [gI,hk,show k<(K0 sc items us us.length).length by omega] using this
theorem C3Z (bx:Nat) (items:List Ab.Item) (p:PSt) (sc:W4) (h1:sc.skus.length≤20) (h2:sc.cats.length≤20) (hu:p.us.length≤100000) (hi:items.length≤100000) (hl:∀ u∈p.us,0≤u.line∧u.line.toNat<items.length) (s t:St) (h:PxR bx items p s t) :
  S P 269 [.optr 4 bx 0 0,A3Y sc] t fun v t'=>v=B0 (K0 sc items p.us p.us.length)∧t'=t:=by
 refine S.post (post:=fun v t'=>∃ t1,F1 t t1∧Col 3 1 (fun k=>eI (gI (K0 sc items p.us p.us.length) k)) t1 (K0 sc items p.us p.us.length).length v t') ?_
  (fun v t' ⟨t1,hs,hc⟩=>⟨_,t,⟨rfl,rfl⟩,hc.shift.trans (hs.shift _)⟩)
 obtain ⟨dv,gv,fx,hx,hx0,hdv,hgv⟩:=h.at
 refine F4 [3,7,10] Tryz.func269 ?_
 refine J6 hx hx0 ?_
 refine ⟨[0,3,5,14,15,16],fun m vs t'=>∃ (i:Nat) (sv:AV),i≤items.length∧m=items.length - i∧vs=[.optr 4 bx 0 0,.fptr (A3Y sc) 0,sv,A8 4 E9 items,eI items.length,eI i]∧Col 4 1 (fun k=>eB (B0v sc (items.getD k default))) t i sv t',?_,?_⟩
 ·conv=>whnf
  exact ⟨_,0,.emp,D7e _,rfl,rfl,Col.start _ _ _ _⟩
 ·rintro m vs t' ⟨i,sv,hi2,rfl,rfl,hcol⟩
  conv=>whnf
  cases hd:decide ((i:Int)<(items.length:Int))
  ·have:=D6G hd
   obtain rfl:i=items.length:=by omega
   have hx':=hcol.sup bx _ hx
   conv=>whnf
   refine J6 hx' hx0 ?_
   refine ⟨[5,8,30,31,32],fun m vs t2=>∃ (k:Nat) (sv2:AV),k≤p.us.length∧m=p.us.length - k∧vs=[sv,sv2,C6 p.us,eI p.us.length,eI k]∧Col 3 1 (fun j=>eI (gI (K0 sc items p.us k) j)) t' (K0 sc items p.us k).length sv2 t2,?_,?_⟩
   ·conv=>whnf
    exact ⟨_,0,.emp,D7e _,rfl,rfl,Col.start _ _ _ _⟩
   ·rintro m vs t2 ⟨k,sv2,hk,rfl,rfl,hcol2⟩
    have hpl:=A3i sc items p.us k
    conv=>whnf
    cases hd2:decide ((k:Int)<(p.us.length:Int))
    ·have:=D6G hd2
     obtain rfl:k=p.us.length:=by omega
     conv=>whnf
     exact ⟨t',hcol.sup,hcol2⟩
    ·have hk':k<p.us.length:=by have:=D6H hd2;omega
     have hlk:0≤(gU p.us k).line∧(gU p.us k).line.toNat<items.length:=hl _ (A7 (l:=p.us) hk')
     have es:=B1F sc items p.us k
     conv=>whnf
     refine E7 ?_
     have fin:∀ (sv3:AV) (t3:St),Col 3 1 (fun j=>eI (gI (K0 sc items p.us (k+1)) j)) t' (K0 sc items p.us (k+1)).length sv3 t3→∃ m',m'<p.us.length - k∧∃ (k_1:Nat) (sv2:AV),k_1≤p.us.length∧m'=p.us.length - k_1∧[sv,sv3,C6 p.us,eI p.us.length,eI (IntKind.i64.wrap ((k:Int)+1))]=[sv,sv2,C6 p.us,eI p.us.length,eI k_1]∧Col 3 1 (fun j=>eI (gI (K0 sc items p.us k_1) j)) t' (K0 sc items p.us k_1).length sv2 t3 :=
      fun sv3 t3 hc=>⟨p.us.length - (k+1),by omega,k+1,sv3,by omega,rfl,by rw [B4 (by omega)],hc⟩
     refine B9 (fun h3=>?_) (fun h3=>?_)<;>rw [h3]
     ·rcases hcol with ⟨h0,rfl,rfl⟩ | ⟨h0,b,g,hb,rfl,rfl,hg⟩
      ·exfalso;omega
      have hbt:=hcol2.sup b _ (A0 ..)
      have hgk:g (0+(gU p.us k).line.toNat)=eB (B0v sc (items.getD (gU p.us k).line.toNat default)):=by rw [D6Q];exact hg _ hlk.2
      conv=>whnf
      refine ⟨rfl,⟨by show 0≤(gU p.us k).line;exact hlk.1,by show (gU p.us k).line<(items.length:Int);have:=hlk.2;have:=hlk.1;omega⟩,?_⟩;conv=>whnf
      refine ldV hbt rfl (by show 0+(gU p.us k).line.toNat<_;have:=hlk.2;omega) hgk ?_;conv=>whnf
      refine B9 (fun h4=>?_) (fun h4=>?_)<;>rw [h4]
      ·have ho:A1G sc items (gU p.us k)=true:=by
        unfold A1G;rw [show (gU p.us k).opn=true from h3,h4];rfl
       rw [if_pos ho] at es
       have el:(K0 sc items p.us (k+1)).length=(K0 sc items p.us k).length+1:=by rw [es];simp
       conv=>whnf
       refine Col.app (q:=r3) rfl rfl rfl rfl rfl (f:=fun j=>eI (gI (K0 sc items p.us (k+1)) j)) (by simp only [es,A8v];rfl) (by show ((K0 sc items p.us k).length+1) * 8≤140737488355328;omega) (hcol2.congr fun j hj=>by rw [es,N5 hj]) (fun sv3 t3 hc3=>?_);conv=>whnf
       refine G2 ?_
       exact fin sv3 t3 (by rw [el];exact hc3)
      ·have ho:¬ A1G sc items (gU p.us k)=true:=by
        unfold A1G;rw [h4];simp
       rw [if_neg ho,D8y] at es;conv=>whnf
       refine G2 ?_
       exact fin sv2 t2 (by rw [es];exact hcol2)
     ·have ho:¬ A1G sc items (gU p.us k)=true:=by
       unfold A1G;rw [show (gU p.us k).opn=false from h3];simp
      rw [if_neg ho,D8y] at es;conv=>whnf
      refine G2 ?_
      exact fin sv2 t2 (by rw [es];exact hcol2)
  ·have hi':i<items.length:=by have:=D6H hd;omega
   conv=>whnf
   refine E7 ?_
   refine I2 (C9j sc (items.getD i default) h1 h2 _) ?_
   refine Col.app (q:=r4) rfl rfl rfl rfl rfl rfl (by show (i+1) * 1≤140737488355328;omega) hcol (fun sv' t2 hcol'=>?_);conv=>whnf
   refine G2 ?_
   exact ⟨items.length - (i+1),by omega,i+1,sv',by omega,rfl,by rw [B4 (by omega)],hcol'⟩
end Go.Proofs.YtaapofnkmpiknaaGreat
namespace Go.Proofs.YtaapofnkmpiknaaGreat
open Go Go.Ab Go.Proofs Go.Sort Go.Lib
attribute [local irreducible] upd del
def scF (x:Nat):Nat:=match x with
 | 43=>274
 | n=>n
def scT (x:Nat):Nat:=match x with
 | 22=>29
 | 23=>3
 | 0=>0
 | 3=>3
 | 4=>4
 | n=>n
def D1L:Go.Shelf.Ren:={ f:=scF,t:=scT,g:=fun n=>n }
theorem C8e:SlLaysE.n43 Tryz.prog D1L where
 mixed:=by kernel_rfl
 f43 := ⟨"slices.Compact[[]int,int]", by decide, Tryz.func274.trans (D8E some (by kernel_rfl))⟩
 t0:=Tryz.underlying0
 a0:=Tryz.isAgg0
 z0:=Tryz.sizeOf0
 v0:=Tryz.zeroValue0
 t3:=Tryz.underlying3
 a3:=Tryz.isAgg3
 z3:=Tryz.sizeOf3
 v3:=Tryz.zeroValue3
 t4:=Tryz.underlying4
 a4:=Tryz.isAgg4
 z4:=Tryz.sizeOf4
 v4:=Tryz.zeroValue4
 t22:=Tryz.underlying29
 a22:=Tryz.isAgg29
 z22:=Tryz.sizeOf29
 v22:=Tryz.zeroValue29
 a23:=Tryz.isAgg3
 z23:=Tryz.sizeOf3
def Y3 (l:List Int):List Int:=compactUpTo l.toArray l.length
def A8p (l:List Int):List Int:=Y3 l++List.replicate (l.length - (Y3 l).length) 0
theorem A9m (l:List Int):(Y3 l).length≤l.length:=by
 unfold Y3 compactUpTo
 rw [D6J]
 exact D7S (D9g ..) (by simp)
theorem B3A (l:List Int):(A8p l).length=l.length:=by
 have:=A9m l
 unfold A8p;rw [D6P,D7L];omega
def A6v (l':List Int):K4:=⟨3,1,l'.length,fun k=>eI (gI l' k)⟩
theorem C7n {st:St} {w:World} {b n:Nat} {l l':List Int} (hl:l'.length=l.length) (hb:A5O st b l) (hS:I3 st w) :
  Evo st w (upd st b (A6v l')) (putRow (Value.int .i64) (Sort.ahead w n) b 0 l'.toArray)∧I3 (upd st b (A6v l')) (putRow (Value.int .i64) (Sort.ahead w n) b 0 l'.toArray):=by
 obtain ⟨f,hst,hf⟩:=hb
 obtain ⟨cs,hok⟩:=hS b _ hst
 have hbl:b<w.heap.size:=(D7D.1 hok.heap).1
 have hsz:l.length * 1≤cs.size:=hok.size
 have hheap:∀ c,c<w.heap.size→(putRow (Value.int .i64) (Sort.ahead w n) b 0 l'.toArray).heap[c]?=if b=c then some (.cells (putCells (Value.int .i64) 0 l'.toArray cs) 3 (0,0)) else w.heap[c]?:=fun c hc=>by
  show (w.heap.modify b (onCells (putCells (Value.int .i64) 0 l'.toArray)))[c]?=_
  rw [D9x]
  split
  ·rename_i e;subst e;rw [hok.heap];rfl
  ·rfl
 have hev:Evo st w (upd st b (A6v l')) (putRow (Value.int .i64) (Sort.ahead w n) b 0 l'.toArray):=by
  refine ⟨rfl,rfl,rfl,?_,fun c hc hs=>?_,fun c=>?_⟩
  ·show w.heap.size≤(w.heap.modify b _).size
   simp
  ·have hne:b≠c:=fun e=>by subst e;rw [hst] at hs;cases hs
   rw [hheap c hc,if_neg hne]
   exact ⟨rfl,by rw [A9 hne.symm];exact hs⟩
  ·by_cases hc:c<w.heap.size
   ·unfold A1n
    rw [hheap c hc]
    by_cases e:b=c
    ·subst e
     rw [hok.heap,if_pos rfl]
     simp [putCells]
    ·rw [if_neg e];exact D6M _
   ·unfold A1n
    rw [D9b (by omega)]
    exact D7e _
 refine ⟨hev,fun c x hx=>?_⟩
 by_cases e:c=b
 ·subst e
  rw [A0] at hx
  cases hx
  refine ⟨putCells (Value.int .i64) 0 l'.toArray cs,?_,?_,fun i hi=>rfl,fun i hi=>rfl,fun i j y hi hy=>?_⟩
  ·rw [hheap c hbl,if_pos rfl];rfl
  ·show l'.length * 1≤_
   rw [hl]
   simpa [putCells] using hsz
  ·have hi':i<l'.length:=hi
   cases j with
   | succ j=>simp [A6v,cellsOf] at hy
   | zero =>
    have hy':y=eI (gI l' i):=by simpa [A6v,cellsOf] using hy.symm
    subst hy'
    refine ⟨.int .i64 (gI l' i),?_,.int _ _⟩
    show (putCells (Value.int .i64) 0 l'.toArray cs)[i * 1+0]?=_
    unfold putCells
    rw [Array.getElem?_mapIdx,Nat.mul_one,D8X,D6V (by omega),D8K]
    rw [if_pos ⟨by omega,by simp;omega⟩,Nat.sub_zero]
    have:l'.toArray[i]! = gI l' i:=by
     rw [getElem!_pos _ i (by simp;omega)]
     simp [gI,hi']
    rw [this]
 ·rw [A9 e] at hx
  obtain ⟨ds,hd⟩:=hS c x hx
  have hcl:c<w.heap.size:=(D7D.1 hd.heap).1
  exact ⟨ds,hd.evo hev (by rw [hheap c hcl,if_neg (fun e'=>e e'.symm)])⟩
theorem C8Y:OneCell (Value.int .i64):=fun x=>rfl
theorem C0W (b:Nat) (l:List Int) (hl:l.length≤4611686018427387904) (st:St) (hb:A5O st b l) :
  S P 274 [.own 1 b 0 l.length] st fun v st'=>v=.own 1 b 0 (Y3 l).length∧st'=upd st b (A6v (A8p l)):=by
 refine ⟨C8e.f43.enters rfl,fun cargs w hr hS=>?_⟩
 obtain ⟨hlen,hr⟩:=hr
 have hb':=hb
 obtain ⟨f,hst,hf⟩:=hb'
 obtain ⟨cs,hok⟩:=hS b _ hst
 have h0:0<cargs.size:=by rw [←hlen];exact Nat.one_pos
 have ha:=hr 0 _ cargs[0] rfl (D6V h0)
 have hc:∃ c,l.length≤c∧c≤A1n w b∧cargs=#[.slice (some ⟨b,0,none⟩) l.length c]:=by
  generalize hv:cargs[0]=v at ha
  cases ha with
  | own e b off n c hc hs =>
   refine ⟨c,hc,by simpa using hs,Array.ext (by rw [←hlen];rfl) fun i h1 h2=>?_⟩
   have:i=0:=by simp at h2;exact h2
   subst this;rw [hv];rfl
 obtain ⟨c,hlc,hcs,rfl⟩:=hc
 have hH:Holds (Value.int .i64) w b 0 l.toArray:=fun j hj=>by
  have hj':j<l.length:=by simpa using hj
  obtain ⟨x,hx,hrep⟩:=hok.cell j 0 (eI (gI l j)) hj' (by show (cellsOf (f j))[0]?=_;rw [hf j hj'];rfl)
  have hxx:x=.int .i64 (gI l j):=by cases hrep;rfl
  subst hxx
  have hg:l.toArray[j]! = gI l j:=by rw [getElem!_pos _ j (by simpa using hj')];simp [gI,hj']
  refine ⟨?_,?_⟩
  ·unfold World.cell?
   rw [hok.heap,hg]
   have:cs[j * 1+0]?=some (.int .i64 (gI l j)):=hx
   simpa using this
  ·unfold World.frozen?
   rw [hok.heap]
   simp
 have hcl:=A9m l
 have hK:=AnyE.slices_Compact C8e (Value.int .i64) C8Y (EqlAt.intD P _ .i64) (NeqAt.intD P _ .i64) 0 Tryz.zeroValue3 b 0 c l.toArray w hH (by simp;omega) (by simpa using hlc)
 rw [show l.toArray.size=l.length from by simp] at hK
 refine hK.mono ?_
 rintro e w' ⟨rfl,n,rfl⟩
 obtain ⟨h1,h2⟩:=C7n (n:=n) (B3A l) hb hS
 refine ⟨.own 1 b 0 (Y3 l).length,_,_,⟨rfl,rfl⟩,rfl,?_,h2,h1⟩
 have hr2:M0 w st (.own 1 b 0 (Y3 l).length) (.slice (some ⟨b,0 * 1,none⟩) (Y3 l).length c):=.own 1 b 0 _ c (D7S hcl hlc) (by simpa using hcs)
 exact h1.rep hr2
theorem B7V (st:St):S P 274 [.emp] st fun v st'=>v=.emp∧st'=st:=by
 refine F4 [] Tryz.func274 ?_
 exact ⟨rfl,rfl⟩
theorem C6n {l:List Int} {k:Nat} (h:k<(Y3 l).length):gI (A8p l) k=gI (Y3 l) k:=by
 unfold A8p;exact N5 h
end Go.Proofs.YtaapofnkmpiknaaGreat
