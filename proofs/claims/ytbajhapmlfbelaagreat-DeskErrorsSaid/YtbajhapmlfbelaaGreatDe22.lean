/- Part 22 of the proof: contracts of the functions that the law reaches -/
import Derived.Test.YtbajhapmlfbelaaGreatDe21
set_option maxRecDepth 100000
set_option linter.unusedVariables false
set_option linter.unusedSimpArgs false
namespace Go.Proofs.YtbajhapmlfbelaaGreat
open Go Go.Ab
attribute [local irreducible] upd del
structure MkD where
 p:B2
 us:List B7
 bm:Nat
 bu:Nat
 br:Nat
 n:Nat
 q:Nat→Nat
def IsM (d:MkD) (len:Nat) (y:Q3):Prop:=∃ f,y=⟨349,18,1,f⟩∧f 0=.agg (A1d d.p++[C9 d.us,.own 1 d.bu 0 len,.own 1 d.br 0 d.n])
def B9i (used:List Bool) (y:Q3):Prop:=∃ g,y=⟨4,1,used.length,g⟩∧∀ k,k<used.length→g k=eB (used.getD k default)
def B1L (d:MkD) (y:Q3):Prop:=∃ g,y=⟨216,1,d.n,g⟩∧∀ k,k<d.n→g k=.optr 1 (d.q k) 0 0
def MkR (d:MkD) (used:List Bool) (es:Nat→List QE):St→St→Prop:=A1a d.bm (IsM d used.length) (A1a d.bu (B9i used) (A1a d.br (B1L d) (Qs d.n d.q es)))
theorem B6K (d:MkD) (used:List Bool) (es:Nat→List QE):H2 (MkR d used es):=A1S (A1S (A1S (A2l _ _ _)))
theorem MkR.facts {d:MkD} {used:List Bool} {es:Nat→List QE} {s t:St} (h:MkR d used es s t) :
  (∃ f,t d.bm=some ⟨349,18,1,f⟩∧f 0=.agg (A1d d.p++[C9 d.us,.own 1 d.bu 0 used.length,.own 1 d.br 0 d.n])) ∧
  (∃ g,t d.bu=some ⟨4,1,used.length,g⟩∧∀ k,k<used.length→g k=eB (used.getD k default)) ∧
  (∃ g,t d.br=some ⟨216,1,d.n,g⟩∧∀ k,k<d.n→g k=.optr 1 (d.q k) 0 0):=by
 have b1:=A2l d.n d.q es
 have b2:H2 (A1a d.br (B1L d) (Qs d.n d.q es)):=A1S b1
 have b3:H2 (A1a d.bu (B9i used) (A1a d.br (B1L d) (Qs d.n d.q es))):=A1S b2
 obtain ⟨y1,⟨f,rfl,hf⟩,h1⟩:=A1a.at b3 h
 obtain ⟨_,_,_,h⟩:=h
 obtain ⟨y2,⟨g,rfl,hg⟩,h2⟩:=A1a.at b2 h
 obtain ⟨_,_,_,h⟩:=h
 obtain ⟨y3,⟨k,rfl,hk⟩,h3⟩:=A1a.at b1 h
 exact ⟨⟨f,h1,hf⟩,⟨g,h2,hg⟩,⟨k,h3,hk⟩⟩
theorem MkR.pop_S {d:MkD} {used:List Bool} {es:Nat→List QE} {s t:St} (h:MkR d used es s t) {k:Nat} (hk:k<d.n) {x:QE} {rest:List QE} (he:es k=x::rest) (htop:∀ y∈rest,H7 y x=false) :
  S P 149 [.optr 1 (d.q k) 0 0] t fun v t'=>v=.tuple [eI x.1,eI x.2,.bool true]∧MkR d used (X6 es k rest) s t':=by
 obtain ⟨h1,y1,e1,h2,y2,e2,h3,y3,e3,hq⟩:=h
 exact (hq.pop_S hk he htop).mono fun v t' hv=>⟨hv.1,h1,y1,e1,h2,y2,e2,h3,y3,e3,hv.2⟩
theorem MkR.pop0_S {d:MkD} {used:List Bool} {es:Nat→List QE} {s t:St} (h:MkR d used es s t) {k:Nat} (hk:k<d.n) (he:es k=[]) :
  S P 149 [.optr 1 (d.q k) 0 0] t fun v t'=>v=.tuple [eI 0,eI 0,.bool false]∧t'=t:=by
 obtain ⟨h1,y1,e1,h2,y2,e2,h3,y3,e3,hq⟩:=h
 exact hq.pop0_S hk he
theorem MkR.use {d:MkD} {used:List Bool} {es:Nat→List QE} {s t:St} (h:MkR d used es s t) {i:Nat} (hi:i<used.length) {g:Nat→AV} (hb:t d.bu=some ⟨4,1,used.length,g⟩) (hg:∀ k,k<used.length→g k=eB (used.getD k default)) :
  MkR d (used.set i true) es s (upd t d.bu ⟨4,1,used.length,G6 g i (eB true)⟩):=by
 have b1:=A2l d.n d.q es
 have b2:H2 (A1a d.br (B1L d) (Qs d.n d.q es)):=A1S b1
 unfold MkR at h ⊢
 rw [List.length_set]
 refine h.map fun s h=>A1a.set b2 h ⟨G6 g i (eB true),by rw [List.length_set],fun k hk=>?_⟩
 rw [List.length_set] at hk
 by_cases e:k=i
 ·subst e;rw [A5];simp [hi]
 ·rw [F4 e,hg k hk]
  congr 1
  simp only [List.getD_eq_getElem?_getD]
  rw [List.getElem?_set_ne (fun e'=>e e'.symm)]
def L1 (used:List Bool):List QE→Option Int×List QE
 | []=>(none,[])
 | e::es=>if used.getD e.2.toNat default=true then L1 used es else (some e.2,es)
def C9s (used:List Bool):Option Int→List Bool
 | none=>used
 | some i=>used.set i.toNat true
def C6Q:Option Int→AV
 | none=>.tuple [eI 0,eB false]
 | some i=>.tuple [eI i,eB true]
theorem B5F {α : Type} (f:Nat→α) (i:Nat) (u v : α):X6 (X6 f i u) i v=X6 f i v:=by
 funext k;unfold X6;split<;>rfl
theorem B7Y {α : Type} (f:Nat→α) (i:Nat):X6 f i (f i)=f:=by
 funext k;unfold X6;split
 ·rename_i e;rw [e]
 ·rfl
theorem C4R (d:MkD) (used:List Bool) (es:Nat→List QE) (s t:St) (h:MkR d used es s t) (k:Nat) (hk:k<d.n) (hr:∀ e∈es k,0≤e.2∧e.2.toNat<used.length) (hs:(es k).Pairwise fun a b=>H7 b a=false) :
  S P 335 [.optr 18 d.bm 0 0,eI k] t fun v t'=>v=C6Q (L1 used (es k)).1∧MkR d (C9s used (L1 used (es k)).1) (X6 es k (L1 used (es k)).2) s t':=by
 refine A7 [] C0 mixed Tryz.func335 (by rfl) rfl rfl rfl ?_;conv=>whnf
 refine ⟨[0,1],fun m vs t'=>∃ l:List QE,m=l.length∧vs=[.optr 18 d.bm 0 0,eI k]∧L1 used l=L1 used (es k)∧(∀ e∈l,0≤e.2∧e.2.toNat<used.length)∧(l.Pairwise fun a b=>H7 b a=false)∧MkR d used (X6 es k l) s t',?_,?_⟩
 ·conv=>whnf
  exact ⟨_,es k,rfl,rfl,rfl,hr,hs,by rw [B7Y];exact h⟩
 ·clear h hr hs
  rintro m vs t' ⟨l,rfl,rfl,hF,hr,hs,h⟩
  rw [←hF]
  obtain ⟨⟨fm,hm,hm0⟩,⟨fu,hu,huf⟩,⟨fr,hb,hbf⟩⟩:=h.facts
  conv=>whnf
  refine E9 hm rfl (by omega) hm0 ?_;conv=>whnf
  refine ⟨rfl,⟨by omega,by omega⟩,?_⟩;conv=>whnf
  refine E9 hb rfl (by omega) (v:=.optr 1 (d.q k) 0 0) (by rw [show 0+(k:Int).toNat=k by omega];exact hbf k hk) ?_;conv=>whnf
  cases l with
  | nil =>
   refine B3 (h.pop0_S hk (G7 ..)) ?_;conv=>whnf
   exact ⟨rfl,h⟩
  | cons x l =>
   rw [List.pairwise_cons] at hs
   refine call (h.pop_S hk (G7 ..) hs.1) (fun v t2 hv=>?_)
   obtain ⟨rfl,h'⟩:=hv
   rw [B5F] at h'
   obtain ⟨⟨fm',hm',hm0'⟩,⟨fu',hu',huf'⟩,_⟩:=h'.facts
   have hx:=hr x (List.mem_cons_self ..)
   have hux:fu' (0+x.2.toNat)=eB (used.getD x.2.toNat default):=by rw [Nat.zero_add];exact huf' _ hx.2
   conv=>whnf
   refine E9 hm' rfl (by omega) hm0' ?_;conv=>whnf
   refine ⟨rfl,⟨by omega,by omega⟩,?_⟩;conv=>whnf
   refine E9 hu' rfl (by omega) hux ?_;conv=>whnf
   cases hx1:used.getD x.2.toNat default with
   | true =>
    conv=>whnf
    refine ⟨rfl,?_⟩;conv=>whnf
    refine ⟨l.length,Nat.lt_succ_self _,l,rfl,rfl,?_,fun e he=>hr e (List.mem_cons_of_mem _ he),hs.2,h'⟩
    show _=if used.getD x.2.toNat default=true then L1 used l else (some x.2,l)
    rw [hx1,if_pos rfl]
   | false =>
    have hT:L1 used (x::l)=(some x.2,l):=by
     show (if used.getD x.2.toNat default=true then L1 used l else (some x.2,l))=_
     rw [hx1,if_neg (by simp)]
    rw [hT];conv=>whnf
    refine E9 hm' rfl (by omega) hm0' ?_;conv=>whnf
    refine ⟨rfl,⟨by omega,by omega⟩,?_⟩;conv=>whnf
    refine J7 hu' rfl (by omega) hux (by rfl) ?_;conv=>whnf
    refine ⟨rfl,?_⟩
    rw [Nat.zero_add]
    exact h'.use hx.2 hu' huf'
end Go.Proofs.YtbajhapmlfbelaaGreat
namespace Go.Proofs.YtbajhapmlfbelaaGreat
open Go Go.Ab Go.Proofs Go.Sort
attribute [local irreducible] upd del
def C5 (l:List Int):List Int:=l.mergeSort fun x y=>decide (x≤y)
theorem Y4 (l:List Int):(C5 l).Perm l:=List.mergeSort_perm ..
theorem Q2 (l:List Int):(C5 l).length=l.length:=(Y4 l).length_eq
def B0j (l:List Int):Q3:=⟨3,1,l.length,fun k=>eI (gI (C5 l) k)⟩
theorem C1q {st:St} {w:World} {b n:Nat} {l:List Int} {os:Array Obj} (hb:A0c st b l) (hS:H4 st w) :
  Z6 st w (upd st b (B0j l)) (grow (putRow (Value.int .i64) (Sort.ahead w n) b 0 (C5 l).toArray) os)∧H4 (upd st b (B0j l)) (grow (putRow (Value.int .i64) (Sort.ahead w n) b 0 (C5 l).toArray) os):=by
 obtain ⟨f,hst,hf⟩:=hb
 obtain ⟨cs,hok⟩:=hS b _ hst
 have hbl:b<w.heap.size:=(Array.getElem?_eq_some_iff.1 hok.heap).1
 have hsz:l.length * 1≤cs.size:=hok.size
 have hheap:∀ c,c<w.heap.size→(grow (putRow (Value.int .i64) (Sort.ahead w n) b 0 (C5 l).toArray) os).heap[c]?=if b=c then some (.cells (putCells (Value.int .i64) 0 (C5 l).toArray cs) 3 (0,0)) else w.heap[c]?:=fun c hc=>by
  show ((w.heap.modify b (onCells (putCells (Value.int .i64) 0 (C5 l).toArray)))++os)[c]?=_
  rw [Array.getElem?_append_left (by simpa using hc),Array.getElem?_modify]
  split
  ·rename_i e;subst e;rw [hok.heap];rfl
  ·rfl
 have hev:Z6 st w (upd st b (B0j l)) (grow (putRow (Value.int .i64) (Sort.ahead w n) b 0 (C5 l).toArray) os):=by
  refine ⟨rfl,rfl,rfl,?_,fun c hc hs=>?_,fun c=>?_⟩
  ·show w.heap.size≤((w.heap.modify b _)++os).size
   simp
  ·have hne:b≠c:=fun e=>by subst e;rw [hst] at hs;cases hs
   rw [hheap c hc,if_neg hne]
   exact ⟨rfl,by rw [A9 hne.symm];exact hs⟩
  ·by_cases hc:c<w.heap.size
   ·unfold A1m
    rw [hheap c hc]
    by_cases e:b=c
    ·subst e
     rw [hok.heap,if_pos rfl]
     simp [putCells]
    ·rw [if_neg e];exact Nat.le_refl _
   ·unfold A1m
    rw [Array.getElem?_eq_none (by omega)]
    exact Nat.zero_le _
 refine ⟨hev,fun c x hx=>?_⟩
 by_cases e:c=b
 ·subst e
  rw [A0] at hx
  cases hx
  refine ⟨putCells (Value.int .i64) 0 (C5 l).toArray cs,?_,?_,fun i hi=>rfl,fun i hi=>rfl,fun i j y hi hy=>?_⟩
  ·rw [hheap c hbl,if_pos rfl];rfl
  ·show l.length * 1≤_
   simpa [putCells] using hsz
  ·have hi':i<l.length:=hi
   cases j with
   | succ j=>simp [B0j,cellsOf] at hy
   | zero =>
    have hy':y=eI (gI (C5 l) i):=by simpa [B0j,cellsOf] using hy.symm
    subst hy'
    refine ⟨.int .i64 (gI (C5 l) i),?_,.int _ _⟩
    show (putCells (Value.int .i64) 0 (C5 l).toArray cs)[i * 1+0]?=_
    unfold putCells
    rw [Array.getElem?_mapIdx,Nat.mul_one,Nat.add_zero,Array.getElem?_eq_getElem (by omega),Option.map_some]
    rw [if_pos ⟨by omega,by simp [Q2];omega⟩,Nat.sub_zero]
    have:(C5 l).toArray[i]! = gI (C5 l) i:=by
     have hl:=Q2 l
     rw [getElem!_pos _ i (by simp [hl];omega)]
     simp [gI,show i<(C5 l).length by omega]
    rw [this]
 ·rw [A9 e] at hx
  obtain ⟨ds,hd⟩:=hS c x hx
  have hcl:c<w.heap.size:=(Array.getElem?_eq_some_iff.1 hd.heap).1
  exact ⟨ds,hd.evo hev (by rw [hheap c hcl,if_neg (fun e'=>e e'.symm)])⟩
theorem C4N (b:Nat) (l:List Int) (hl:l.length<4611686018427387904) (st:St) (hb:A0c st b l) :
  S P 100 [.own 1 b 0 l.length] st fun v st'=>v=.tuple []∧st'=upd st b (B0j l):=by
 refine ⟨B7r.f5.enters rfl,fun cargs w hr hS=>?_⟩
 obtain ⟨hlen,hr⟩:=hr
 have hb':=hb
 obtain ⟨f,hst,hf⟩:=hb'
 obtain ⟨cs,hok⟩:=hS b _ hst
 have h0:0<cargs.size:=by rw [←hlen];exact Nat.one_pos
 have ha:=hr 0 _ cargs[0] rfl (Array.getElem?_eq_getElem h0)
 have hc:∃ c,cargs=#[.slice (some ⟨b,0,none⟩) l.length c]:=by
  generalize hv:cargs[0]=v at ha
  cases ha with
  | own e b off n c hc hs =>
   refine ⟨c,Array.ext (by rw [←hlen];rfl) fun i h1 h2=>?_⟩
   have:i=0:=by simp at h2;exact h2
   subst this;rw [hv];rfl
 obtain ⟨c,rfl⟩:=hc
 have hH:Holds (Value.int .i64) w b 0 l.toArray:=fun j hj=>by
  have hj':j<l.length:=by simpa using hj
  obtain ⟨x,hx,hrep⟩:=hok.cell j 0 (eI (gI l j)) hj' (by show (cellsOf (f j))[0]?=_;rw [hf j hj'];rfl)
  have hxx:x=.int .i64 (gI l j):=by cases hrep;rfl
  subst hxx
  have hg:l.toArray[j]! = gI l j:=by rw [getElem!_pos _ j (by simpa using hj')];simp [gI,hj']
  refine ⟨?_,?_⟩
  ·unfold World.cell?
   rw [hok.heap,hg]
   have:cs[j * 1+0]?=some (.int .i64 (gI l j)):=hx
   simpa using this
  ·unfold World.frozen?
   rw [hok.heap]
   simp
 have hbl:b<w.heap.size:=(Array.getElem?_eq_some_iff.1 hok.heap).1
 refine (AnyM.slices_Sort_int B7r b 0 c l w hH hbl hl).mono ?_
 rintro e w' ⟨rfl,n,os,rfl⟩
 obtain ⟨h1,h2⟩:=C1q (n:=n) (os:=os) hb hS
 exact ⟨.tuple [],.tuple #[],_,⟨rfl,rfl⟩,rfl,.tuple [] #[] rfl (fun j y c hy=>by simp at hy),h2,h1⟩
theorem C3b (st:St):S P 100 [.emp] st fun v st'=>v=.tuple []∧st'=st:=by
 refine ⟨B7r.f5.enters rfl,fun cargs w hr hS=>?_⟩
 obtain ⟨hlen,hr⟩:=hr
 have h0:0<cargs.size:=by rw [←hlen];exact Nat.one_pos
 have ha:=hr 0 _ cargs[0] rfl (Array.getElem?_eq_getElem h0)
 have hc:∃ A,cargs=#[.slice A 0 0]:=by
  generalize hv:cargs[0]=v at ha
  cases ha with
  | emp A =>
   refine ⟨A,Array.ext (by rw [←hlen];rfl) fun i h1 h2=>?_⟩
   have:i=0:=by simp at h2;exact h2
   subst this;rw [hv];rfl
 obtain ⟨A,rfl⟩:=hc
 refine (AnyM.slices_Sort_int_none B7r A 0 w).mono ?_
 rintro e w' ⟨rfl,rfl⟩
 exact ⟨.tuple [],.tuple #[],_,⟨rfl,rfl⟩,rfl,.tuple [] #[] rfl (fun j y c hy=>by simp at hy),hS,Z6.refl _ _⟩
theorem A5D {R:St→St→Prop} (hR:H2 R) {l:List Int} {s t:St} {sv:AV} (hl:l.length<4611686018427387904) (h:ROut R 3 1 (fun k=>eI (gI l k)) l.length s sv t) :
  S P 100 [sv] t fun v t'=>v=.tuple []∧ROut R 3 1 (fun k=>eI (gI (C5 l) k)) l.length s sv t':=by
 obtain ⟨s0,hc,h⟩:=h
 rcases hc with ⟨h0,rfl,rfl⟩ | ⟨h0,bo,g,h1,rfl,rfl,h3⟩
 ·exact (C3b t).mono fun v t' hv=>⟨hv.1,by rw [h0];exact ⟨s0,H9.start _ _ _ _,by rw [hv.2];exact h⟩⟩
 ·have hby:=hR.sup h bo _ (A0 ..)
  refine (C4N bo l hl t ⟨g,hby,h3⟩).mono fun v t' hv=>⟨hv.1,_,.inr ⟨h0,bo,fun k=>eI (gI (C5 l) k),h1,rfl,rfl,fun k hk=>rfl⟩,?_⟩
  rw [hv.2]
  have:=hR.write (y':=B0j l) h (A0 ..)
  rw [B8] at this;exact this
end Go.Proofs.YtbajhapmlfbelaaGreat
namespace Go.Proofs.YtbajhapmlfbelaaGreat
open Go Go.Ab
attribute [local irreducible] upd del
structure MSt where
 used:List Bool
 es:Nat→List QE
 l:List Int
def A0k (k:Nat) (s:MSt):Option MSt:=match (L1 s.used (s.es k)).1 with
 | none=>none
 | some i=>some ⟨s.used.set i.toNat true,X6 s.es k (L1 s.used (s.es k)).2,s.l++[i]⟩
def P8 (k:Nat):Nat→MSt→Option MSt
 | 0,s=>some s
 | c+1,s=>(P8 k c s).bind (A0k k)
def J4 (parts:List Q0):Nat→MSt→Option MSt
 | 0,s=>some s
 | k+1,s=>(J4 parts k s).bind (P8 k (parts.getD k default).count.toNat)
theorem A5e {k:Nat} {s:MSt}:∀ {c j:Nat},P8 k j s=none→j≤c→P8 k c s=none
 | 0,j,h,hj=>by
  have:j=0:=by omega
  subst this;exact h
 | c+1,j,h,hj=>by
  rcases Nat.lt_or_ge c j with h1 | h1
  ·have:j=c+1:=by omega
   subst this;exact h
  ·unfold P8;rw [A5e h h1];rfl
theorem A4N {parts:List Q0} {s:MSt}:∀ {c j:Nat},J4 parts j s=none→j≤c→J4 parts c s=none
 | 0,j,h,hj=>by
  have:j=0:=by omega
  subst this;exact h
 | c+1,j,h,hj=>by
  rcases Nat.lt_or_ge c j with h1 | h1
  ·have:j=c+1:=by omega
   subst this;exact h
  ·unfold J4;rw [A4N h h1];rfl
structure MOk (us:List B7) (n:Nat) (s:MSt):Prop where
 len:s.used.length=us.length
 rng:∀ k,k<n→∀ e∈s.es k,0≤e.2∧e.2.toNat<us.length
 srt:∀ k,k<n→(s.es k).Pairwise fun a b=>H7 b a=false
 mem:∀ x∈s.l,0≤x∧x.toNat<us.length
theorem A2A (used:List Bool) (l:List QE):(∃ pre,l=pre++(match (L1 used l).1 with | none=>[] | some i=>(match l.find? (fun e=>!used.getD e.2.toNat default) with | none=>[] | some e=>[e]))++(L1 used l).2) ∧
  (∀ i,(L1 used l).1=some i→∃ e∈l,e.2=i∧used.getD i.toNat default=false)∧((L1 used l).2.Sublist l)∧((L1 used l).1≠none→(L1 used l).2.length<l.length):=by
 induction l with
 | nil=>exact ⟨⟨[],rfl⟩,(fun i h=>by cases h),List.Sublist.refl _,fun h=>absurd rfl h⟩
 | cons e l ih =>
  obtain ⟨⟨pre,h1⟩,h2,h3,h4⟩:=ih
  by_cases hu:used.getD e.2.toNat default=true
  ·have ht:L1 used (e::l)=L1 used l:=by
    show (if used.getD e.2.toNat default=true then L1 used l else (some e.2,l))=_
    rw [if_pos hu]
   rw [ht]
   refine ⟨⟨e::pre,?_⟩,fun i hi=>?_,h3.cons _,fun h=>by have:=h4 h;simp;omega⟩
   ·rw [List.find?_cons_of_neg (by rw [hu];simp)]
    rw [List.cons_append,List.cons_append,←h1]
   ·obtain ⟨x,hx,hx2⟩:=h2 i hi
    exact ⟨x,List.mem_cons_of_mem _ hx,hx2⟩
  ·have ht:L1 used (e::l)=(some e.2,l):=by
    show (if used.getD e.2.toNat default=true then L1 used l else (some e.2,l))=_
    rw [if_neg hu]
   rw [ht]
   refine ⟨⟨[],?_⟩,fun i hi=>?_,List.sublist_cons_self _ _,fun _=>by simp⟩
   ·rw [List.find?_cons_of_pos (by rw [Bool.eq_false_iff.2 hu];rfl)];rfl
   ·have:e.2=i:=by simpa using hi
    exact ⟨e,List.mem_cons_self ..,this,by rw [←this];exact Bool.eq_false_iff.2 hu⟩
theorem MOk.take {us:List B7} {n:Nat} {s s':MSt} (h:MOk us n s) {k:Nat} (hk:k<n) (ht:A0k k s=some s'):MOk us n s':=by
 obtain ⟨_,t2,t3,_⟩:=A2A s.used (s.es k)
 unfold A0k at ht
 split at ht
 ·cases ht
 ·rename_i i hi
  cases ht
  obtain ⟨e,he,rfl,hu⟩:=t2 i hi
  have hr:=h.rng k hk e he
  refine ⟨by rw [List.length_set];exact h.len,fun j hj x hx=>?_,fun j hj=>?_,fun x hx=>?_⟩
  ·by_cases ej:j=k
   ·subst ej;rw [show (MSt.es _ j)=_ from rfl] at hx;simp only [G7] at hx;exact h.rng j hj x (t3.subset hx)
   ·simp only [K3 ej] at hx;exact h.rng j hj x hx
  ·by_cases ej:j=k
   ·subst ej;simp only [G7];exact (h.srt j hj).sublist t3
   ·simp only [K3 ej];exact h.srt j hj
  ·rcases List.mem_append.1 hx with hx | hx
   ·exact h.mem x hx
   ·rw [List.mem_singleton] at hx;rw [hx];exact hr
theorem B8R {k:Nat} {s s':MSt} (ht:A0k k s=some s'):s'.l.length=s.l.length+1:=by
 unfold A0k at ht
 split at ht
 ·cases ht
 ·cases ht;simp
theorem A1n {k:Nat} {s:MSt}:∀ {c:Nat} {s':MSt},P8 k c s=some s'→s'.l.length=s.l.length+c
 | 0,s',h=>by cases h;rfl
 | c+1,s',h=>by
  unfold P8 at h
  obtain ⟨s1,h1,h2⟩:=Option.bind_eq_some_iff.1 h
  rw [B8R h2,A1n h1];omega
theorem MOk.takes {us:List B7} {n:Nat} {s:MSt} (h:MOk us n s) {k:Nat} (hk:k<n):∀ {c:Nat} {s':MSt},P8 k c s=some s'→MOk us n s'
 | 0,s',e=>by cases e;exact h
 | c+1,s',e=>by
  unfold P8 at e
  obtain ⟨s1,h1,h2⟩:=Option.bind_eq_some_iff.1 e
  exact (h.takes hk h1).take hk h2
structure A3d (p:B2):Prop where
 n1:1≤p.parts.length
 n8:p.parts.length≤8
 cnt:∀ x∈p.parts,1≤x.count∧x.count≤100
 amt:0≤p.amount∧p.amount≤10000000000000
theorem A3d.at {p:B2} (h:A3d p) {k:Nat} (hk:k<p.parts.length):1≤(p.parts.getD k default).count∧(p.parts.getD k default).count≤100:=h.cnt _ (B5 hk)
theorem MOk.parts {us:List B7} {p:B2} {s:MSt} (h:MOk us p.parts.length s):∀ {k:Nat} {s':MSt},k≤p.parts.length→J4 p.parts k s=some s'→MOk us p.parts.length s'
 | 0,s',_,e=>by cases e;exact h
 | k+1,s',hk,e=>by
  unfold J4 at e
  obtain ⟨s1,h1,h2⟩:=Option.bind_eq_some_iff.1 e
  exact (MOk.parts h (by omega) h1).takes (by omega) h2
theorem A1i {p:B2} (hp:A3d p) {s:MSt}:∀ {k:Nat} {s':MSt},k≤p.parts.length→J4 p.parts k s=some s'→s'.l.length≤s.l.length+100 * k
 | 0,s',_,e=>by cases e;omega
 | k+1,s',hk,e=>by
  unfold J4 at e
  obtain ⟨s1,h1,h2⟩:=Option.bind_eq_some_iff.1 e
  have:=A1i hp (by omega) h1
  have:=A1n h2
  have:=hp.at (show k<p.parts.length by omega)
  omega
def H1 (us:List B7) (l:List Int):Int:=A6 (l.map fun i=>(gU us i.toNat).net)
theorem B1h (us:List B7) (l:List Int) (i:Int):H1 us (l++[i])=H1 us l+(gU us i.toNat).net:=by
 unfold H1;rw [List.map_append,G5];simp [A6]
theorem A0y {us:List B7} (hu:E6 us) (l:List Int) (hl:∀ x∈l,0≤x∧x.toNat<us.length):0≤H1 us l∧H1 us l≤10000000000000 * l.length:=by
 unfold H1
 have c1:∀ (y:Int) (r:List Int),A6 (y::r)=y+A6 r:=fun y r=>by
  have:=G5 [y] r
  rw [List.singleton_append] at this
  rw [this];simp [A6]
 induction l with
 | nil=>exact ⟨Int.le_refl _,by simp [A6]⟩
 | cons x l ih =>
  have h1:=ih (fun y hy=>hl y (List.mem_cons_of_mem _ hy))
  have h2:=hl x (List.mem_cons_self ..)
  have h3:0≤(gU us x.toNat).net:=hu.pos _ (B5 h2.2)
  have h4:(gU us x.toNat).net≤10000000000000:=hu.le (B5 h2.2)
  rw [List.map_cons,c1,List.length_cons]
  omega
theorem C4s (d:MkD) (hn:d.n=d.p.parts.length) (hp:A3d d.p) (hu:E6 d.us) (ms:MSt) (hl0:ms.l=[]) (hm:MOk d.us d.n ms) (s t:St) (h:MkR d ms.used ms.es s t) :
  S P 296 [.optr 18 d.bm 0 0] t fun v t'=>match J4 d.p.parts d.n ms with
   | none=>v=.tuple [.emp,eI 0,eB false]∧F3 s t'
   | some ms'=>v=.tuple [B6 (C5 ms'.l),eI (H1 d.us ms'.l - d.p.amount),eB (decide (H1 d.us ms'.l>d.p.amount))]∧MkR d ms'.used ms'.es s t':=by
 have hB:=fun (u:List Bool) (es:Nat→List QE)=>B6K d u es
 refine S.post (post:=fun v t'=>match J4 d.p.parts d.n ms with
   | none=>v=.tuple [.emp,eI 0,eB false]∧F3 s t'
   | some ms'=>∃ sv,v=.tuple [sv,eI (H1 d.us ms'.l - d.p.amount),eB (decide (H1 d.us ms'.l>d.p.amount))]∧ROut (MkR d ms'.used ms'.es) 3 1 (fun k=>eI (gI (C5 ms'.l) k)) ms'.l.length s sv t') ?_
  (fun v t' hv=>by
   cases hF:J4 d.p.parts d.n ms with
   | none=>rw [hF] at hv;exact ⟨v,t',hv,B4.refl _ _⟩
   | some ms' =>
    rw [hF] at hv
    obtain ⟨sv,rfl,hout⟩:=hv
    obtain ⟨t'',h1,h2⟩:=hout.shift (hB _ _)
    refine ⟨_,t'',⟨rfl,h2⟩,B4.tuple (B4.cons (h1.trans ?_) (B4.keep _ _)) rfl⟩
    have e:B6 (C5 ms'.l)=.arr 1 ms'.l.length (fun k=>eI (gI (C5 ms'.l) k)):=by unfold B6 B1;rw [Q2]
    rw [e];exact B4.keep _ _)
 have hp8:=hp.n8
 refine A7 [8] C0 mixed Tryz.func296 (by rfl) rfl rfl rfl ?_
 obtain ⟨⟨fm,hmb,hm0⟩,_,_⟩:=h.facts
 conv=>whnf
 refine E9 hmb rfl (by omega) hm0 ?_;conv=>whnf
 refine ⟨[0,5,6,15,16,17],fun m vs t'=>∃ (k:Nat) (ms':MSt) (sv:AV),k≤d.n∧m=d.n - k∧vs=[.optr 18 d.bm 0 0,sv,eI (H1 d.us ms'.l),B1 3 O6 d.p.parts,eI d.p.parts.length,eI k]∧J4 d.p.parts k ms=some ms'∧ROut (MkR d ms'.used ms'.es) 3 1 (fun j=>eI (gI ms'.l j)) ms'.l.length s sv t',?_,?_⟩
 ·conv=>whnf
  refine ⟨_,0,ms,.emp,Nat.zero_le _,rfl,?_,rfl,?_⟩
  ·rw [hl0];rfl
  ·rw [hl0];exact ROut.start h _ _ _
 ·clear h hmb hm0
  rintro m vs t' ⟨k,ms1,sv,hk,rfl,rfl,hF,hout⟩
  have hok:=MOk.parts (hn▸hm) (hn▸hk) hF
  have hlen:=A1i hp (hn▸hk) hF
  rw [hl0,List.length_nil] at hlen
  have hcb:=A0y hu ms1.l hok.mem
  conv=>whnf
  cases h2:decide ((k:Int)<(d.p.parts.length:Int))
  ·have:=of_decide_eq_false h2
   obtain rfl:k=d.n:=by omega
   rw [hF];conv=>whnf
   refine call (A5D (hB _ _) (by omega) hout) (fun v t2 hv=>?_)
   obtain ⟨rfl,hout2⟩:=hv
   obtain ⟨⟨fm,hmb,hm0⟩,_,_⟩:=(hout2.dropped (hB _ _)).facts
   conv=>whnf
   refine ⟨[],[],[0,1,2,3,4,5,6,7,8,9,10,11,12,13,14,15,16,17],by kernel_rfl,?_⟩;conv=>whnf
   refine E9 hmb rfl (by omega) hm0 ?_;conv=>whnf
   refine E9 hmb rfl (by omega) hm0 ?_;conv=>whnf
   have ha:=hp.amt
   have w:IntKind.i64.wrap (H1 d.us ms1.l - d.p.amount)=H1 d.us ms1.l - d.p.amount:=A8 (by omega) (by omega)
   exact ⟨_,by rw [w];rfl,hout2⟩
  ·have hk':k<d.p.parts.length:=by have:=of_decide_eq_true h2;omega
   have hcnt:=hp.at hk'
   conv=>whnf
   refine ⟨rfl,⟨by omega,by omega⟩,?_⟩;conv=>whnf
   refine ⟨[0,5,6,7,15,16,17,23,24],fun m vs t'=>∃ (j:Nat) (ms':MSt) (sv:AV),(j:Int)≤(d.p.parts.getD k default).count∧m=(d.p.parts.getD k default).count.toNat - j∧vs=[.optr 18 d.bm 0 0,sv,eI (H1 d.us ms'.l),eI k,B1 3 O6 d.p.parts,eI d.p.parts.length,eI k,eI (d.p.parts.getD k default).count,eI j]∧P8 k j ms1=some ms'∧ROut (MkR d ms'.used ms'.es) 3 1 (fun j=>eI (gI ms'.l j)) ms'.l.length s sv t',?_,?_⟩
   ·conv=>whnf
    exact ⟨_,0,ms1,sv,by omega,rfl,rfl,rfl,hout⟩
   ·clear hout
    rintro m vs t' ⟨j,ms2,sv,hj,rfl,rfl,hF2,hout⟩
    have hok2:=hok.takes hk' hF2
    have hlen2:=A1n hF2
    have hcb2:=A0y hu ms2.l hok2.mem
    conv=>whnf
    cases h3:decide ((j:Int)<(d.p.parts.getD k default).count)
    ·have:=of_decide_eq_false h3
     have ej:j=(d.p.parts.getD k default).count.toNat:=by omega
     conv=>whnf
     refine ⟨rfl,?_⟩;conv=>whnf
     refine ⟨d.n - (k+1),by omega,k+1,ms2,sv,by omega,rfl,by rw [C2 (by omega)],?_,hout⟩
     unfold J4;rw [hF,←ej];exact hF2
    ·have hj':(j:Int)<(d.p.parts.getD k default).count:=of_decide_eq_true h3
     obtain ⟨s0,hcol,hMk⟩:=hout
     conv=>whnf
     refine call (C4R d ms2.used ms2.es s0 t' hMk k (by omega) (fun e he=>by rw [hok2.len];exact hok2.rng k hk' e he) (hok2.srt k hk')) (fun v t2 hv=>?_)
     obtain ⟨rfl,hMk2⟩:=hv
     have hT:P8 k (j+1) ms1=A0k k ms2:=by
      show (P8 k j ms1).bind (A0k k)=_
      rw [hF2];rfl
     have hmem:=(A2A ms2.used (ms2.es k)).2.1
     cases hR:(L1 ms2.used (ms2.es k)).1 with
     | none =>
      have h4:A0k k ms2=none:=by unfold A0k;rw [hR]
      rw [h4] at hT
      have h5:=A5e (c:=(d.p.parts.getD k default).count.toNat) hT (by omega)
      have h6:J4 d.p.parts (k+1) ms=none:=by unfold J4;rw [hF];exact h5
      have h7:=A4N (c:=d.n) h6 (by omega)
      rw [h7];conv=>whnf
      exact ⟨rfl,hcol.sup.trans ((hB _ _).sup hMk2)⟩
     | some i =>
      have h4:A0k k ms2=some ⟨ms2.used.set i.toNat true,X6 ms2.es k (L1 ms2.used (ms2.es k)).2,ms2.l++[i]⟩:=by unfold A0k;rw [hR]
      rw [hR] at hMk2
      obtain ⟨e,he,rfl,_⟩:=hmem i hR
      have hx:=hok2.rng k hk' e he
      have hn0:0≤(gU d.us e.2.toNat).net:=hu.pos _ (B5 hx.2)
      have hn1:(gU d.us e.2.toNat).net≤10000000000000:=hu.le (B5 hx.2)
      conv=>whnf
      refine ROut.app (q:=r3) (hB _ _) rfl rfl rfl rfl rfl (f:=fun j=>eI (gI (ms2.l++[e.2]) j)) (by simp only [A6S];rfl) (by show (ms2.l.length+1) * 8≤140737488355328;omega) ⟨s0,H9.congr hcol fun j hj=>by rw [K5 hj],hMk2⟩ (fun sv' t3 hout3=>?_)
      obtain ⟨⟨fm,hmb,hm0⟩,_,_⟩:=(hout3.dropped (hB _ _)).facts
      conv=>whnf
      refine E9 hmb rfl (by omega) hm0 ?_;conv=>whnf
      refine ⟨rfl,⟨by show 0≤e.2;omega,by show e.2<(d.us.length:Int);omega⟩,?_⟩;conv=>whnf
      refine ⟨rfl,?_⟩;conv=>whnf
      have w:IntKind.i64.wrap (H1 d.us ms2.l+(gU d.us e.2.toNat).net)=H1 d.us (ms2.l++[e.2]):=by rw [B1h];exact A8 (by omega) (by omega)
      refine ⟨(d.p.parts.getD k default).count.toNat - (j+1),by omega,j+1,⟨ms2.used.set e.2.toNat true,X6 ms2.es k (L1 ms2.used (ms2.es k)).2,ms2.l++[e.2]⟩,sv',by omega,rfl,?_,by rw [hT];exact h4,?_⟩
      ·rw [C2 (by omega),←w]
      ·rw [List.length_append];exact hout3
theorem N6 (y:Int) (r:List Int):A6 (y::r)=y+A6 r:=by
 have:=G5 [y] r
 rw [List.singleton_append] at this
 rw [this];simp [A6]
theorem A5E {a b:List Int} (h:a.Perm b):A6 a=A6 b:=by
 induction h with
 | nil=>rfl
 | cons x _ ih=>rw [N6,N6,ih]
 | swap x y l=>rw [N6,N6,N6,N6];omega
 | trans _ _ ih1 ih2=>exact ih1.trans ih2
theorem B7u {l:List Int} {B:Int} (h:∀ x∈l,x≤B):A6 l≤l.length * B:=by
 induction l with
 | nil=>simp [A6]
 | cons x l ih =>
  have h1:=ih (fun y hy=>h y (List.mem_cons_of_mem _ hy))
  have h2:=h x (List.mem_cons_self ..)
  rw [N6,List.length_cons]
  have:((l.length+1:Nat):Int) * B=l.length * B+B:=by
   rw [show ((l.length+1:Nat):Int)=(l.length:Int)+1 by omega,Int.add_mul,Int.one_mul]
  omega
theorem B7H {qs:List Int} {R:List QE} (hl:∀ e∈R,e.2.toNat<qs.length) (hd:(R.map fun e=>e.2.toNat).Nodup) (k:Nat):gI (P6 qs R) k=gI qs k+if k∈R.map (fun e=>e.2.toNat) then 1 else 0:=by
 unfold P6
 induction R generalizing qs with
 | nil=>simp
 | cons e R ih =>
  rw [List.map_cons,List.nodup_cons] at hd
  have he:=hl e (List.mem_cons_self ..)
  simp only [List.foldl_cons]
  rw [ih (fun x hx=>by rw [List.length_set];exact hl x (List.mem_cons_of_mem _ hx)) hd.2]
  have hs:gI (qs.set e.2.toNat (gI qs e.2.toNat+1)) k=if k=e.2.toNat then gI qs k+1 else gI qs k:=by
   unfold gI
   simp only [List.getD_eq_getElem?_getD,List.getElem?_set]
   by_cases h:k=e.2.toNat
   ·subst h;simp [he]
   ·rw [if_neg (fun e'=>h e'.symm),if_neg h]
  rw [hs,List.map_cons]
  by_cases h:k=e.2.toNat
  ·subst h
   rw [if_pos rfl,if_neg hd.1,if_pos (List.mem_cons_self ..)];omega
  ·rw [if_neg h]
   by_cases h2:k∈R.map (fun e=>e.2.toNat)
   ·rw [if_pos h2,if_pos (List.mem_cons_of_mem _ h2)]
   ·rw [if_neg h2,if_neg (fun h3=>by
     rcases List.mem_cons.1 h3 with h4 | h4
     ·exact h h4
     ·exact h2 h4)]
theorem C3k {total:Int} {ws:List Int} (h:P5 total ws) (hS:0<A6 ws) {i:Nat} (hi:(i:Int)<G0 total (A6 ws) ws ws.length):0<((shR total (A6 ws) ws).getD i default).1:=by
 have hlr:=A2p h hS
 have hlen:=A5A total (A6 ws) ws
 have hil:i<(shR total (A6 ws) ws).length:=by omega
 refine Int.lt_of_not_ge fun hneg=>?_
 have hsum:A6 ((shR total (A6 ws) ws).map (·.1))=A6 ws * G0 total (A6 ws) ws ws.length:=by
  have hp:=(A1x total (A6 ws) ws).map (·.1)
  rw [A5E hp,List.map_map]
  have e:=A8H total (A6 ws) hS ws ws.length (Nat.le_refl _)
  rw [List.take_length] at e
  unfold G0
  rw [Int.mul_sub,Int.mul_comm (A6 ws) total]
  have:(List.range ws.length).map ((fun e:QE=>e.1) ∘ shE total (A6 ws) ws)=(List.range ws.length).map fun k=>total * gI ws k % A6 ws:=rfl
  rw [this];omega
 have hsorted:=A6o total (A6 ws) ws
 have hrest:∀ e∈shR total (A6 ws) ws,0≤e.1∧e.1≤A6 ws - 1:=fun e he=>by
  obtain ⟨k,hk,rfl⟩:=List.mem_map.1 ((A1x total (A6 ws) ws).subset he)
  have h1:=Int.emod_nonneg (total * gI ws k) (show A6 ws≠0 by omega)
  have h2:=Int.emod_lt_of_pos (total * gI ws k) hS
  show 0≤total * gI ws k % A6 ws∧total * gI ws k % A6 ws≤A6 ws - 1
  omega
 generalize hR:shR total (A6 ws) ws=R at *
 have hsplit:R=R.take i++R.drop i:=(List.take_append_drop i R).symm
 have hcons:R.drop i=R.getD i default::R.drop (i+1):=by
  rw [List.getD_eq_getElem?_getD,List.getElem?_eq_getElem hil]
  exact List.drop_eq_getElem_cons hil
 have hdrop:A6 ((R.drop i).map (·.1))≤0:=by
  have:∀ x∈(R.drop i).map (·.1),x≤0:=fun x hx=>by
   obtain ⟨e,he,rfl⟩:=List.mem_map.1 hx
   rw [hcons] at he
   rcases List.mem_cons.1 he with rfl | he
   ·exact hneg
   ·have hs:=hsorted.sublist (List.drop_sublist i R)
    rw [hcons,List.pairwise_cons] at hs
    have:=(U1 _ _).1 (hs.1 e he)
    omega
  have:=B7u this
  omega
 have htake:A6 ((R.take i).map (·.1))≤i * (A6 ws - 1):=by
  have h1:=B7u (l:=(R.take i).map (·.1)) (B:=A6 ws - 1) (fun x hx=>by
   obtain ⟨e,he,rfl⟩:=List.mem_map.1 hx
   exact (hrest e (List.take_subset _ _ he)).2)
  rw [List.length_map,List.length_take,Nat.min_eq_left (by omega)] at h1
  exact h1
 have hall:A6 (R.map (·.1))=A6 ((R.take i).map (·.1))+A6 ((R.drop i).map (·.1)):=by
  conv=>lhs;rw [hsplit]
  rw [List.map_append,G5]
 have h2:A6 ws * ((i:Int)+1)≤A6 ws * G0 total (A6 ws) ws ws.length:=Int.mul_le_mul_of_nonneg_left (by omega) (by omega)
 rw [Int.mul_add,Int.mul_one] at h2
 have h3:(i:Int) * (A6 ws - 1)=A6 ws * i - i:=by rw [Int.mul_sub,Int.mul_one,Int.mul_comm]
 omega
theorem A6g {total:Int} {ws:List Int} (h:P5 total ws) (ht:total≤A6 ws) {k:Nat} (hk:k<ws.length):gI (D8 total ws) k≤gI ws k:=by
 have hw:=h.w0 _ (B5 hk)
 unfold D8
 split
 ·rename_i h0
  have:gI (ws.map fun _=>(0:Int)) k=0:=E2 (fun _:Int=>(0:Int)) ws hk
  rw [this];exact hw
 ·rename_i h0
  have hS:0<A6 ws:=by have:=D0 h.w0;omega
  have hmem:∀ e∈(shR total (A6 ws) ws).take (G0 total (A6 ws) ws ws.length).toNat,e.2.toNat<((List.range ws.length).map (shQ total (A6 ws) ws)).length:=fun e he=>by
   rw [List.length_map,List.length_range];exact (A8L (List.take_subset _ _ he)).2
  have hnd:(((shR total (A6 ws) ws).take (G0 total (A6 ws) ws ws.length).toNat).map fun e=>e.2.toNat).Nodup:=by
   have h1:((shR total (A6 ws) ws).map fun e=>e.2.toNat).Nodup:=by
    have hp:=(A1x total (A6 ws) ws).map fun e=>e.2.toNat
    refine hp.nodup_iff.2 ?_
    rw [List.map_map]
    have:(List.range ws.length).map ((fun e:QE=>e.2.toNat) ∘ shE total (A6 ws) ws)=(List.range ws.length).map id:=by
     refine List.map_congr_left fun k _=>?_
     show (k:Int).toNat=k
     omega
    rw [this,List.map_id]
    exact List.nodup_range
   exact h1.sublist ((List.take_sublist _ _).map _)
  rw [B7H hmem hnd,J9 _ hk]
  have e1:=Int.mul_ediv_add_emod (total * gI ws k) (A6 ws)
  have e2:=Int.emod_nonneg (total * gI ws k) (show A6 ws≠0 by omega)
  have e3:total * gI ws k≤A6 ws * gI ws k:=Int.mul_le_mul_of_nonneg_right ht hw
  have e4:shQ total (A6 ws) ws k=total * gI ws k / A6 ws:=rfl
  split
  ·rename_i hin
   obtain ⟨e,he,hek⟩:=List.mem_map.1 hin
   obtain ⟨i,hi,rfl⟩:=F2 he
   rw [List.length_take] at hi
   have hle:=A2p h hS
   have hpos:=C3k h hS (i:=i) (by omega)
   have hti:((shR total (A6 ws) ws).take (G0 total (A6 ws) ws ws.length).toNat).getD i default=(shR total (A6 ws) ws).getD i default:=by
    rw [List.getD_eq_getElem?_getD,List.getD_eq_getElem?_getD,List.getElem?_take_of_lt (by omega)]
   rw [hti] at hek
   have hm2:(shR total (A6 ws) ws).getD i default∈shR total (A6 ws) ws:=B5 (by omega)
   obtain ⟨j,hj,hje⟩:=List.mem_map.1 ((A1x total (A6 ws) ws).subset hm2)
   have hjk:j=k:=by rw [←hek,←hje];show j=(j:Int).toNat;omega
   subst hjk
   rw [←hje] at hpos
   have hpos':0<total * gI ws j % A6 ws:=hpos
   have h5:A6 ws * (total * gI ws j / A6 ws)<A6 ws * gI ws j:=by omega
   have h6:total * gI ws j / A6 ws<gI ws j:=Int.lt_of_mul_lt_mul_left h5 (by omega)
   omega
  ·have h5:A6 ws * (total * gI ws k / A6 ws)≤A6 ws * gI ws k:=by omega
   have h6:total * gI ws k / A6 ws≤gI ws k:=Int.le_of_mul_le_mul_left h5 hS
   omega
structure W8 (us:List B7) (l:List Int):Prop where
 rng:∀ k,k<l.length→0≤gI l k∧(gI l k).toNat<us.length
 ne:∀ i k,i<k→k<l.length→(gI l i).toNat≠(gI l k).toNat
theorem K7.places {us:List B7} {mine:List Int} (h:K7 us mine):W8 us mine :=
 ⟨h.rng,fun i k hik hk=>by
  have h1:=h.lt i k hik hk
  have h2:=(h.rng i (by omega)).1
  omega⟩
theorem A3Z {us:List B7} {mine offs:List Int} (hm:W8 us mine):∀ k,k≤mine.length→∀ j,j<us.length→(∀ i,i<k→j≠(gI mine i).toNat)→gU (D5 us mine offs k) j=gU us j
 | 0,_,j,hj,_=>rfl
 | k+1,hk,j,hj,hne=>by
  have ih:=A3Z (offs:=offs) hm k (by omega) j hj (fun i hi=>hne i (by omega))
  unfold D5 less1
  rw [A4C (by rw [N9];exact (hm.rng k (by omega)).2),if_neg (hne k (by omega))]
  exact ih
theorem A2Q {us:List B7} {mine offs:List Int} (hm:W8 us mine) {k:Nat} (hk:k<mine.length):gU (D5 us mine offs k) (gI mine k).toNat=gU us (gI mine k).toNat :=
 A3Z hm k (by omega) _ (hm.rng k hk).2 fun i hi=>fun e=>hm.ne i k hi hk e.symm
theorem A1z {us:List B7} (hu:E6 us) {mine offs:List Int} (hm:W8 us mine) (hlen:offs.length≤mine.length) (h:∀ k,k<offs.length→0≤gI offs k∧gI offs k≤(gU us (gI mine k).toNat).net):∀ k,k≤offs.length→Off us (D5 us mine offs k) (A6 (offs.take k))
 | 0,_=>Off.refl hu
 | k+1,hk=>by
  have ih:=A1z hu hm hlen h k (by omega)
  have hr:=hm.rng k (by omega)
  have hx:=h k (by omega)
  rw [N7 (by omega)]
  refine ih.trans (Off.less1 (ih.ok hu) (by rw [N9];exact hr.2) hx.1 ?_)
  rw [A2Q hm (by omega)];exact hx.2
def H6 (us:List B7) (l:List Int):List Int:=l.map fun i=>(gU us i.toNat).net
def A2q (us:List B7) (l:List Int) (amount:Int):List B7:=D5 us l (D8 amount (H6 us l)) l.length
theorem B8e {us:List B7} (hu:E6 us) {l:List Int} (hm:W8 us l) {amount:Int} (hW:P5 amount (H6 us l)) (ha:amount≤A6 (H6 us l)):Off us (A2q us l amount) amount:=by
 obtain ⟨a,b,c⟩:=X8 hW
 have hl:(H6 us l).length=l.length:=by unfold H6;rw [List.length_map]
 have:=A1z hu hm (offs:=D8 amount (H6 us l)) (by omega) (fun k hk=>⟨c _ (B5 hk),by
  have h1:=A6g hW ha (k:=k) (by omega)
  have h2:gI (H6 us l) k=(gU us (gI l k).toNat).net:=E2 (fun i:Int=>(gU us i.toNat).net) l (by omega)
  rw [h2] at h1;exact h1⟩) (D8 amount (H6 us l)).length (Nat.le_refl _)
 rw [List.take_length,a] at this
 unfold A2q
 rw [show l.length=(D8 amount (H6 us l)).length by omega]
 exact this
theorem C2h (bo:Nat) (us:List B7) (hu:E6 us) (l:List Int) (hl:l.length≤100000) (hm:W8 us l) (amount:Int) (hW:P5 amount (H6 us l)) (st:St) (hb:A4r st bo us) :
  S P 297 [.own 3 bo 0 us.length,B6 l,eI amount] st fun v st'=>v=.tuple []∧∃ f,st'=upd st bo ⟨152,3,us.length,f⟩∧∀ k,k<us.length→f k=V8 (gU (A2q us l amount) k):=by
 have hul:=hu.len
 have hwl:(H6 us l).length=l.length:=by unfold H6;rw [List.length_map]
 obtain ⟨lg1,lg2,lg3⟩:=X8 hW
 refine A7 [] C0 mixed Tryz.func297 (by rfl) rfl rfl rfl ?_
 obtain ⟨fu,hst,hfu⟩:=hb
 conv=>whnf
 refine ⟨[0,1,2,6,13,14,15],fun m vs st'=>∃ (i:Nat) (sv:AV),i≤l.length∧m=l.length - i∧vs=[.own 3 bo 0 us.length,B6 l,eI amount,sv,B6 l,eI l.length,eI i]∧H9 2 1 (fun k=>eI (gI (H6 us l) k)) st i sv st',?_,?_⟩
 ·conv=>whnf
  exact ⟨_,0,.emp,Nat.zero_le _,rfl,rfl,H9.start _ _ _ _⟩
 ·rintro m vs st' ⟨i,sv,hi,rfl,rfl,hcol⟩
  have hst':=hcol.sup bo _ hst
  conv=>whnf
  cases h:decide ((i:Int)<(l.length:Int))
  ·have:=of_decide_eq_false h
   obtain rfl:i=l.length:=by omega
   conv=>whnf
   have hsh:B4 [eI amount,sv] st' [eI amount,B6 (H6 us l)] st:=by
    refine B4.cons (B4.keep _ _) ?_
    have e:B6 (H6 us l)=.arr 1 l.length (fun k=>eI (gI (H6 us l) k)):=by unfold B6 B1;rw [hwl]
    rw [e];exact hcol.shift
   refine I7 hsh (B3 (B1n amount (H6 us l) hW st) ?_)
   have hX:∀ k,k<l.length→0≤gI (D8 amount (H6 us l)) k∧gI (D8 amount (H6 us l)) k≤100000000000000:=fun k hk=>by
    have h1:=lg3 _ (B5 (show k<(D8 amount (H6 us l)).length by omega))
    have h2:=P9 lg3 (B5 (show k<(D8 amount (H6 us l)).length by omega))
    have:=hW.t1
    exact ⟨h1,by show gI _ _≤_;unfold gI;omega⟩
   have hlf:A2q us l amount=D5 us l (D8 amount (H6 us l)) l.length:=rfl
   have hlen:(D8 amount (H6 us l)).length=l.length:=by omega
   rw [hlf]
   generalize D8 amount (H6 us l)=xs at *
   conv=>whnf
   refine ⟨[0,1,34,35,36],fun m vs st'=>∃ (k:Nat) (f:Nat→AV),k≤l.length∧m=l.length - k∧vs=[.own 3 bo 0 us.length,B6 l,B6 xs,eI xs.length,eI k]∧st'=upd st bo ⟨152,3,us.length,f⟩∧∀ j,j<us.length→f j=V8 (gU (D5 us l xs k) j),?_,?_⟩
   ·conv=>whnf
    exact ⟨_,0,fu,Nat.zero_le _,rfl,rfl,(B4Y hst).symm,hfu⟩
   ·rintro m vs st' ⟨k,f,hk,rfl,rfl,rfl,hf⟩
    conv=>whnf
    cases h2:decide ((k:Int)<(xs.length:Int))
    ·have:=of_decide_eq_false h2
     obtain rfl:k=l.length:=by omega
     conv=>whnf
     exact ⟨rfl,f,rfl,hf⟩
    ·have hk':k<l.length:=by have:=of_decide_eq_true h2;omega
     have hr:=hm.rng k hk'
     have hat:=A2Q (offs:=xs) hm hk'
     have hx:=hX k hk'
     have hnet0:0≤(gU us (gI l k).toNat).net:=hu.pos _ (B5 hr.2)
     have hnet1:(gU us (gI l k).toNat).net≤10000000000000:=hu.le (B5 hr.2)
     have hfm:f (0+(gI l k).toNat)=V8 (gU (D5 us l xs k) (gI l k).toNat):=by rw [Nat.zero_add];exact hf _ hr.2
     conv=>whnf
     refine ⟨rfl,⟨by omega,by omega⟩,?_⟩;conv=>whnf
     refine ⟨rfl,⟨by omega,by omega⟩,?_⟩;conv=>whnf
     refine ⟨rfl,⟨by show 0≤gI l k;exact hr.1,by show gI l k<(us.length:Int);have:=hr.2;have:=hr.1;omega⟩,?_⟩;conv=>whnf
     refine E9 (A0 ..) rfl (by show 0+(gI l k).toNat<_;have:=hr.2;omega) hfm ?_;conv=>whnf
     refine ⟨rfl,⟨by show 0≤gI l k;exact hr.1,by show gI l k<(us.length:Int);have:=hr.2;have:=hr.1;omega⟩,?_⟩;conv=>whnf
     refine J7 (A0 ..) rfl (by show 0+(gI l k).toNat<_;have:=hr.2;omega) hfm (by rfl) ?_;conv=>whnf
     refine ⟨rfl,?_⟩;conv=>whnf
     refine ⟨l.length - (k+1),by omega,k+1,_,by omega,rfl,by rw [C2 (by omega)],B8,fun j hj=>?_⟩
     have w:IntKind.i64.wrap ((gU (D5 us l xs k) (gI l k).toNat).net - gI xs k)=(gU (D5 us l xs k) (gI l k).toNat).net - gI xs k:=by
      rw [hat];exact A8 (by omega) (by omega)
     show _=V8 (gU (less1 (D5 us l xs k) (gI l k).toNat (gI xs k)) j)
     unfold less1
     rw [A4C (by rw [N9];exact hr.2)]
     by_cases hj2:j=(gI l k).toNat
     ·rw [if_pos hj2,hj2,←w]
      show G6 f (0+(gI l k).toNat) _ _=_
      rw [Nat.zero_add,A5];rfl
     ·rw [if_neg hj2]
      show G6 f (0+(gI l k).toNat) _ _=_
      rw [Nat.zero_add,F4 hj2];exact hf j hj
  ·have hi':i<l.length:=by have:=of_decide_eq_true h;omega
   have hr:=hm.rng i hi'
   have hg:gI (H6 us l) i=(gU us (gI l i).toNat).net:=E2 (fun i:Int=>(gU us i.toNat).net) l hi'
   conv=>whnf
   refine ⟨rfl,⟨by omega,by omega⟩,?_⟩;conv=>whnf
   refine ⟨rfl,⟨by show 0≤gI l i;exact hr.1,by show gI l i<(us.length:Int);have:=hr.2;have:=hr.1;omega⟩,?_⟩;conv=>whnf
   refine E9 hst' rfl (by show 0+(gI l i).toNat<_;have:=hr.2;omega) (v:=V8 (gU us (gI l i).toNat)) (by show fu (0+(gI l i).toNat)=_;rw [Nat.zero_add];exact hfu _ hr.2) ?_;conv=>whnf
   refine H9.app (q:=r2) rfl rfl rfl rfl rfl (by simp only [hg];rfl) (by show (i+1) * 8≤140737488355328;omega) hcol (fun sv' st'' hcol'=>?_);conv=>whnf
   refine ⟨rfl,?_⟩;conv=>whnf
   exact ⟨l.length - (i+1),by omega,i+1,sv',by omega,rfl,by rw [C2 (by omega)],hcol'⟩
end Go.Proofs.YtbajhapmlfbelaaGreat
namespace Go.Proofs.YtbajhapmlfbelaaGreat
open Go Go.Ab
def tot:Nat→(Nat→List QE)→Nat
 | 0,_=>0
 | n+1,es=>tot n es+(es n).length
theorem B8Y {n:Nat} {es es':Nat→List QE} (h:∀ i,i<n→(es' i).length=(es i).length):tot n es'=tot n es:=by
 induction n with
 | zero=>rfl
 | succ n ih=>unfold tot;rw [ih fun i hi=>h i (by omega),h n (by omega)]
theorem C1y {n:Nat} {es:Nat→List QE} {k:Nat} (hk:k<n) (l:List QE):tot n (X6 es k l)+(es k).length=tot n es+l.length:=by
 induction n with
 | zero=>omega
 | succ n ih =>
  unfold tot
  by_cases e:k=n
  ·subst e
   rw [G7,B8Y (es:=es) fun i hi=>by rw [K3 (by omega)]];omega
  ·have:=ih (by omega)
   rw [K3 (fun e'=>e e'.symm)];omega
theorem B8S {n k:Nat} (hk:k<n) {s s':MSt} (h:A0k k s=some s'):tot n s'.es+s'.l.length≤tot n s.es+s.l.length:=by
 have h4:=(A2A s.used (s.es k)).2.2.2
 unfold A0k at h
 split at h
 ·cases h
 ·rename_i i hi
  cases h
  have:=h4 (by rw [hi];simp)
  have:=C1y hk (L1 s.used (s.es k)).2 (es:=s.es)
  simp only [List.length_append,List.length_cons,List.length_nil]
  omega
theorem B0q {n k:Nat} (hk:k<n) {s:MSt}:∀ {c:Nat} {s':MSt},P8 k c s=some s'→tot n s'.es+s'.l.length≤tot n s.es+s.l.length
 | 0,s',h=>by cases h;exact Nat.le_refl _
 | c+1,s',h=>by
  unfold P8 at h
  obtain ⟨s1,h1,h2⟩:=Option.bind_eq_some_iff.1 h
  exact Nat.le_trans (B8S hk h2) (B0q hk h1)
theorem A6j {n:Nat} {parts:List Q0} {s:MSt}:∀ {k:Nat} {s':MSt},k≤n→J4 parts k s=some s'→tot n s'.es+s'.l.length≤tot n s.es+s.l.length
 | 0,s',_,h=>by cases h;exact Nat.le_refl _
 | k+1,s',hk,h=>by
  unfold J4 at h
  obtain ⟨s1,h1,h2⟩:=Option.bind_eq_some_iff.1 h
  exact Nat.le_trans (B0q (by omega) h2) (A6j (by omega) h1)
theorem A4O {p:B2} (hp:A3d p) {s s':MSt} (h:J4 p.parts p.parts.length s=some s'):s.l.length<s'.l.length:=by
 have hn:=hp.n1
 obtain ⟨k,hk⟩:∃ k,p.parts.length=k+1:=⟨p.parts.length - 1,by omega⟩
 have hmono:∀ {k:Nat} {s':MSt},J4 p.parts k s=some s'→s.l.length≤s'.l.length:=fun {k}=>by
  induction k with
  | zero=>intro s' h;cases h;exact Nat.le_refl _
  | succ k ih =>
   intro s' h
   unfold J4 at h
   obtain ⟨s1,h1,h2⟩:=Option.bind_eq_some_iff.1 h
   have:=ih h1
   have:=A1n h2
   omega
 rw [hk] at h
 unfold J4 at h
 obtain ⟨s1,h1,h2⟩:=Option.bind_eq_some_iff.1 h
 have h3:=hmono h1
 have h4:=A1n h2
 have h5:=hp.at (show k<p.parts.length by omega)
 omega
structure U5 (u0:List Bool) (s:MSt):Prop where
 free:∀ x∈s.l,u0.getD x.toNat default=false
 nd:(s.l.map Int.toNat).Nodup
 used:∀ j,s.used.getD j default=true↔(u0.getD j default=true∨j∈s.l.map Int.toNat)
theorem U5.start (u0:List Bool) (es:Nat→List QE):U5 u0 ⟨u0,es,[]⟩:=⟨fun x hx=>by simp at hx,List.nodup_nil,fun j=>by simp⟩
theorem U5.take {us:List B7} {n:Nat} {u0:List Bool} {s s':MSt} (h:U5 u0 s) (hok:MOk us n s) {k:Nat} (hk:k<n) (ht:A0k k s=some s'):U5 u0 s':=by
 obtain ⟨_,t2,_,_⟩:=A2A s.used (s.es k)
 unfold A0k at ht
 split at ht
 ·cases ht
 ·rename_i i hi
  cases ht
  obtain ⟨e,he,rfl,hu⟩:=t2 i hi
  have hr:=hok.rng k hk e he
  have hfree:u0.getD e.2.toNat default=false∧e.2.toNat∉s.l.map Int.toNat:=by
   have:¬(u0.getD e.2.toNat default=true∨e.2.toNat∈s.l.map Int.toNat):=fun h2=>by
    rw [(h.used _).2 h2] at hu;cases hu
   exact ⟨Bool.eq_false_iff.2 fun h2=>this (.inl h2),fun h2=>this (.inr h2)⟩
  refine ⟨fun x hx=>?_,?_,fun j=>?_⟩
  ·rcases List.mem_append.1 hx with hx | hx
   ·exact h.free x hx
   ·rw [List.mem_singleton] at hx;rw [hx];exact hfree.1
  ·show ((s.l++[e.2]).map Int.toNat).Nodup
   rw [List.map_append]
   refine List.nodup_append.2 ⟨h.nd,by simp,fun a ha b hb=>?_⟩
   simp only [List.map_cons,List.map_nil,List.mem_singleton] at hb
   subst hb
   exact fun e'=>hfree.2 (e'▸ha)
  ·show (s.used.set e.2.toNat true).getD j default=true↔(u0.getD j default=true∨j∈(s.l++[e.2]).map Int.toNat)
   rw [List.map_append,List.mem_append,List.map_cons,List.map_nil,List.mem_singleton]
   by_cases ej:j=e.2.toNat
   ·subst ej
    have:e.2.toNat<s.used.length:=by rw [hok.len];exact hr.2
    simp [List.getD_eq_getElem?_getD,this]
   ·have:(s.used.set e.2.toNat true).getD j default=s.used.getD j default:=by
     simp only [List.getD_eq_getElem?_getD]
     rw [List.getElem?_set_ne (fun e'=>ej e'.symm)]
    rw [this,h.used j]
    constructor
    ·rintro (h1 | h1)
     ·exact .inl h1
     ·exact .inr (.inl h1)
    ·rintro (h1 | h1 | h1)
     ·exact .inl h1
     ·exact .inr h1
     ·exact absurd h1 ej
theorem U5.takes {us:List B7} {n:Nat} {u0:List Bool} {s:MSt} (h:U5 u0 s) (hok:MOk us n s) {k:Nat} (hk:k<n):∀ {c:Nat} {s':MSt},P8 k c s=some s'→U5 u0 s'
 | 0,s',e=>by cases e;exact h
 | c+1,s',e=>by
  unfold P8 at e
  obtain ⟨s1,h1,h2⟩:=Option.bind_eq_some_iff.1 e
  exact (U5.takes h hok hk h1).take (hok.takes hk h1) hk h2
theorem U5.parts {us:List B7} {p:B2} {u0:List Bool} {s:MSt} (h:U5 u0 s) (hok:MOk us p.parts.length s):∀ {k:Nat} {s':MSt},k≤p.parts.length→J4 p.parts k s=some s'→U5 u0 s'
 | 0,s',_,e=>by cases e;exact h
 | k+1,s',hk,e=>by
  unfold J4 at e
  obtain ⟨s1,h1,h2⟩:=Option.bind_eq_some_iff.1 e
  exact (U5.parts h hok (by omega) h1).takes (MOk.parts hok (by omega) h1) (by omega) h2
theorem B0t {us:List B7} (hu:E6 us) {l:List Int} (hm:W8 us l):A6 (H6 us l)≤A6 (E1 us):=by
 have hl:(H6 us l).length=l.length:=by unfold H6;rw [List.length_map]
 have:=A1z hu hm (offs:=H6 us l) (by omega) (fun k hk=>by
  have h2:gI (H6 us l) k=(gU us (gI l k).toNat).net:=E2 (fun i:Int=>(gU us i.toNat).net) l (by omega)
  rw [h2]
  exact ⟨hu.at0 _,Int.le_refl _⟩) (H6 us l).length (Nat.le_refl _)
 rw [List.take_length] at this
 have h1:=this.sum
 have h2:=D0 (this.ok hu).nets0
 omega
theorem B1s {us:List B7} {l:List Int} (hm:∀ x∈l,0≤x∧x.toNat<us.length) (hd:(l.map Int.toNat).Nodup):W8 us l:=by
 refine ⟨fun k hk=>hm _ (B5 hk),fun i k hik hk e=>?_⟩
 have hi:(l.map Int.toNat)[i]'(by rw [List.length_map];omega)=(l.map Int.toNat)[k]'(by rw [List.length_map];omega):=by
  rw [List.getElem_map,List.getElem_map]
  have h1:gI l i=l[i]:=by simp [gI,show i<l.length by omega]
  have h2:gI l k=l[k]:=by simp [gI,hk]
  rw [←h1,←h2];exact e
 exact (List.pairwise_iff_getElem.1 hd i k _ _ hik) hi
structure BSt where
 out:List B7
 ms:MSt
 taken:List Int
 all:Int
def A1o (p:B2) (us:List B7) (b:BSt):Option BSt:=match J4 p.parts p.parts.length ⟨b.ms.used,b.ms.es,[]⟩ with
 | none=>none
 | some s=>if H1 us s.l>p.amount then some ⟨A2q b.out (C5 s.l) (H1 us s.l - p.amount),s,b.taken++C5 s.l,b.all+(H1 us s.l - p.amount)⟩ else none
def A2n (p:B2) (us:List B7):Nat→BSt→BSt
 | 0,b=>b
 | m+1,b=>match A1o p us b with
  | none=>b
  | some b'=>A2n p us m b'
def F6 (us:List B7) (parts:List (List Int)):BSt:=⟨us,⟨List.replicate us.length false,fun k=>E4 us (parts.getD k []),[]⟩,[],0⟩
def O9 (p:B2) (us:List B7) (parts:List (List Int)):List B7×Int :=
 let b:=A2n p us (tot p.parts.length (F6 us parts).ms.es+1) (F6 us parts)
 (if p.closes=true then closeB b.out b.taken else b.out,b.all)
structure BOk (p:B2) (us:List B7) (D:Nat) (b:BSt):Prop where
 off:Off us b.out b.all
 same:∀ j,b.ms.used.getD j default=false→gU b.out j=gU us j
 ok:MOk us p.parts.length b.ms
 mem:∀ x∈b.taken,0≤x∧x.toNat<us.length
 len:b.taken.length+tot p.parts.length b.ms.es≤D
theorem R4 {l:List Int} {x:Int}:x∈C5 l↔x∈l:=(Y4 l).mem_iff
structure C5b (p:B2) (us:List B7) (b:BSt) (s:MSt):Prop where
 places:W8 b.out (C5 s.l)
 weights:P5 (H1 us s.l - p.amount) (H6 b.out (C5 s.l))
 le:H1 us s.l - p.amount≤A6 (H6 b.out (C5 s.l))
theorem BOk.step {p:B2} (hp:A3d p) {us:List B7} (hu:E6 us) {D:Nat} {b:BSt} (h:BOk p us D b) {s:MSt} (hs:J4 p.parts p.parts.length ⟨b.ms.used,b.ms.es,[]⟩=some s) (hc:H1 us s.l>p.amount) :
  C5b p us b s∧BOk p us D ⟨A2q b.out (C5 s.l) (H1 us s.l - p.amount),s,b.taken++C5 s.l,b.all+(H1 us s.l - p.amount)⟩∧tot p.parts.length s.es<tot p.parts.length b.ms.es:=by
 have hok0:MOk us p.parts.length ⟨b.ms.used,b.ms.es,[]⟩:=⟨h.ok.len,h.ok.rng,h.ok.srt,fun x hx=>by simp at hx⟩
 have hok:=MOk.parts hok0 (Nat.le_refl _) hs
 have htr:=U5.parts (U5.start b.ms.used b.ms.es) hok0 (Nat.le_refl _) hs
 have hlen:=A1i hp (Nat.le_refl _) hs
 have htot:=A6j (n:=p.parts.length) (Nat.le_refl _) hs
 have hpos:=A4O hp hs
 simp only [List.length_nil] at hlen htot hpos
 have hn8:=hp.n8
 have ha:=hp.amt
 have hpl:W8 b.out (C5 s.l):=B1s (fun x hx=>by rw [h.off.len];exact hok.mem x (R4.1 hx)) (((Y4 s.l).map Int.toNat).nodup_iff.2 htr.nd)
 have hsame:∀ x∈s.l,(gU b.out x.toNat).net=(gU us x.toNat).net:=fun x hx=>by rw [h.same _ (htr.free x hx)]
 have hw:A6 (H6 b.out (C5 s.l))=H1 us s.l:=by
  unfold H6 H1
  rw [A5E ((Y4 s.l).map fun i=>(gU b.out i.toNat).net)]
  congr 1
  exact List.map_congr_left fun x hx=>hsame x hx
 have hou:=h.off.ok hu
 have hwl:=B0t hou hpl
 have hos:=hou.sum
 have hcb:=A0y hu s.l hok.mem
 have hW:P5 (H1 us s.l - p.amount) (H6 b.out (C5 s.l)):=by
  refine ⟨by omega,by omega,?_,fun w hw=>?_,by omega,fun e=>by omega⟩
  ·unfold H6;rw [List.length_map,Q2];omega
  ·obtain ⟨i,hi,rfl⟩:=List.mem_map.1 hw;exact hou.at0 _
 have hL:=B8e hou hpl hW (by omega)
 refine ⟨⟨hpl,hW,by omega⟩,⟨h.off.trans hL,fun j hj=>?_,hok,fun x hx=>?_,?_⟩,by omega⟩
 ·have hnot:¬(b.ms.used.getD j default=true∨j∈s.l.map Int.toNat):=fun h2=>by
   rw [(htr.used j).2 h2] at hj;cases hj
  have hju:b.ms.used.getD j default=false:=Bool.eq_false_iff.2 fun h2=>hnot (.inl h2)
  rw [←h.same j hju]
  by_cases hjl:j<b.out.length
  ·exact A3Z hpl _ (Nat.le_refl _) j hjl fun i hi e=>hnot (.inr (by
    have:gI (C5 s.l) i∈s.l:=R4.1 (B5 hi)
    rw [e];exact List.mem_map_of_mem this))
  ·have e1:gU b.out j=default:=by unfold gU;rw [List.getD_eq_getElem?_getD,List.getElem?_eq_none (by omega)];rfl
   have e2:gU (A2q b.out (C5 s.l) (H1 us s.l - p.amount)) j=default:=by
    unfold gU;rw [List.getD_eq_getElem?_getD,List.getElem?_eq_none (by rw [hL.len];omega)];rfl
   rw [e1];exact e2
 ·rcases List.mem_append.1 hx with hx | hx
  ·exact h.mem x hx
  ·exact hok.mem x (R4.1 hx)
 ·rw [List.length_append,Q2]
  have:=h.len
  show _+tot p.parts.length s.es≤D
  omega
theorem B6N {p:B2} (hp:A3d p) {us:List B7} (hu:E6 us) {D:Nat}:∀ (m:Nat) {b:BSt},BOk p us D b→BOk p us D (A2n p us m b)
 | 0,b,h=>h
 | m+1,b,h=>by
  unfold A2n A1o
  cases hs:J4 p.parts p.parts.length ⟨b.ms.used,b.ms.es,[]⟩ with
  | none=>exact h
  | some s =>
   simp only
   by_cases hc:H1 us s.l>p.amount
   ·rw [if_pos hc]
    exact B6N hp hu m (h.step hp hu hs hc).2.1
   ·rw [if_neg hc];exact h
theorem A4y {p:B2} {us:List B7} (hu:E6 us) {parts:List (List Int)} (hl:parts.length=p.parts.length) (hm:∀ k,k<parts.length→K7 us (parts.getD k [])):BOk p us (tot p.parts.length (F6 us parts).ms.es) (F6 us parts):=by
 refine ⟨Off.refl hu,fun j hj=>rfl,⟨by simp [F6],fun k hk e he=>A5s (hm k (by omega)).rng he,fun k hk=>A3X _,fun x hx=>by simp [F6] at hx⟩,fun x hx=>by simp [F6] at hx,?_⟩
 show 0+_≤_
 omega
theorem B3x {p:B2} (hp:A3d p) {us:List B7} (hu:E6 us) {parts:List (List Int)} (hl:parts.length=p.parts.length) (hm:∀ k,k<parts.length→K7 us (parts.getD k [])):Off us (O9 p us parts).1 (O9 p us parts).2:=by
 have h:=B6N hp hu (tot p.parts.length (F6 us parts).ms.es+1) (A4y hu hl hm)
 unfold O9
 simp only
 split
 ·have h2:=Off.closeB (h.off.ok hu) (A2n p us (tot p.parts.length (F6 us parts).ms.es+1) (F6 us parts)).taken (fun x hx=>by rw [h.off.len];exact (h.mem x hx).2)
  have h3:=h.off.trans h2
  rw [Int.add_zero] at h3;exact h3
 ·exact h.off
end Go.Proofs.YtbajhapmlfbelaaGreat
namespace Go.Proofs.YtbajhapmlfbelaaGreat
open Go Go.Ab
attribute [local irreducible] upd del
theorem B5N (l:List (List Int)) (hl:l.length≤9223372036854775807) (g:FuncId) (cs:List AV) (p:(List Int)→Bool) (st:St)
  (hg:∀ x,x∈l→S P g (B6 x::cs) st fun v st'=>v=.bool (p x)∧st'=st) :
  S P 346 [B1 1 B6 l,.fn (.func g) [] cs] st fun v st'=>v=eI (idx p l)∧st'=st:=by
 refine A7 [] C0 mixed Tryz.func346 (by rfl) rfl rfl rfl ?_;conv=>whnf
 refine ⟨[0,1,7,8],fun m vs st'=>∃ i:Nat,i≤l.length∧(∀ k,k<i→p (l.getD k default)=false)∧m=l.length - i∧vs=[B1 1 B6 l,.fn (.func g) [] cs,eI l.length,eI i]∧st'=st,?_,?_⟩
 ·conv=>whnf
  exact ⟨_,0,Nat.zero_le _,fun k hk=>absurd hk (by omega),rfl,rfl,rfl⟩
 ·rintro m vs st' ⟨i,hi,hok,rfl,rfl,rfl⟩
  conv=>whnf
  cases h:decide ((i:Int)<(l.length:Int))
  ·have:=of_decide_eq_false h
   conv=>whnf
   refine ⟨?_,rfl⟩
   rw [R5 fun k hk=>hok k (by omega)];rfl
  ·have hi':i<l.length:=by have:=of_decide_eq_true h;omega
   conv=>whnf
   refine ⟨rfl,⟨by omega,by omega⟩,?_⟩;conv=>whnf
   refine B3 (hg (l.getD (i:Int).toNat default) (by simp [hi'])) ?_
   rw [Int.toNat_natCast]
   cases hp:p (l.getD i default)
   ·conv=>whnf
    refine ⟨rfl,?_⟩;conv=>whnf
    refine ⟨l.length - (i+1),by omega,i+1,by omega,fun k hk=>?_,rfl,by rw [C2 (by omega)],rfl⟩
    rcases Nat.lt_succ_iff_lt_or_eq.1 hk with h' | h'
    ·exact hok k h'
    ·rw [h'];exact hp
   ·conv=>whnf
    refine ⟨?_,rfl⟩
    rw [A1h hi' hok hp];rfl
theorem C0o (l:List (List Int)) (hl:l.length≤9223372036854775807) (g:FuncId) (cs:List AV) (p:(List Int)→Bool) (st:St)
  (hg:∀ x,x∈l→S P g (B6 x::cs) st fun v st'=>v=.bool (p x)∧st'=st) :
  S P 333 [B1 1 B6 l,.fn (.func g) [] cs] st fun v st'=>v=.bool (l.any p)∧st'=st:=by
 refine A7 [] C0 mixed Tryz.func333 (by rfl) rfl rfl rfl ?_;conv=>whnf
 refine B3 (B5N l hl g cs p st hg) ?_;conv=>whnf
 refine ⟨?_,rfl⟩
 rw [←A1p];rfl
theorem C0v (us:List B7) (mine:List Int) (h:E6 us) (hm:K7 us mine) (st:St):S P 334 [B6 mine,.fptr (C9 us) 0] st fun v st'=>v=.bool false∧st'=st:=by
 refine A7 [] C0 mixed Tryz.func334 (by rfl) rfl rfl rfl ?_;conv=>whnf
 refine B3 (A9g us mine h hm st) ?_;conv=>whnf
 exact ⟨rfl,rfl⟩
theorem C4f (p:B2) (us:List B7) (parts:List (List Int)) (hfit:O0 p) (hright:G2 p=true) (hk:p.kind=4) (hu:E6 us) (hl:parts.length=p.parts.length) (hl8:parts.length≤8) (hm:∀ x∈parts,K7 us x) (st:St) :
  S P 295 [B9 p,C9 us,B1 1 B6 parts] st fun v st'=>v=.bool true∧st'=st:=by
 refine A7 [3,4] C0 mixed Tryz.func295 (by rfl) rfl rfl rfl ?_;conv=>whnf
 rw [hk];conv=>whnf
 refine B3 (A8J p hfit st) ?_
 rw [hright];conv=>whnf
 rw [hl]
 have e:((p.parts.length:Int) != (p.parts.length:Int))=false:=by simp
 rw [e];conv=>whnf
 refine B3 (C0o parts (by omega) _ [.fptr (C9 us) 0] (fun _=>false) st fun x hx=>C0v us x hu (hm x hx) st) ?_;conv=>whnf
 refine ⟨?_,rfl⟩
 have:(parts.any fun _=>false)=false:=by simp
 rw [this];rfl
theorem B4X {s:St} {a b:Nat} {y:Q3} (h:a≠b) (hs:s a=none):upd s b y a=none:=by rw [A9 h];exact hs
theorem C1z {n B:Nat} {es:Nat→List QE} (h:∀ i,i<n→(es i).length≤B):tot n es≤n * B:=by
 induction n with
 | zero=>exact Nat.zero_le _
 | succ n ih =>
  unfold tot
  have h1:=ih fun i hi=>h i (by omega)
  have h2:=h n (by omega)
  have h3:(n+1) * B=n * B+B:=Nat.succ_mul n B
  omega
structure Lay (p:B2) (us:List B7) (E:Nat→List QE) (base:St) (bm bu:Nat) (i:Nat) (q:Nat→Nat) (rv:AV) (t:St):Prop where
 nbm:base bm=none
 nbu:base bu=none
 ne:bu≠bm
 has:∃ f g,f 0=.agg (A1d p++[C9 us,.own 1 bu 0 us.length,rv])∧(∀ k,k<us.length→g k=eB false) ∧
  ROut (Qs i q E) 216 1 (fun k=>.optr 1 (q k) 0 0) i (upd (upd base bm ⟨349,18,1,f⟩) bu ⟨4,1,us.length,g⟩) rv t
theorem Lay.mk' {p:B2} {us:List B7} {E:Nat→List QE} {base:St} {bm bu i:Nat} {q:Nat→Nat} {rv:AV} {t:St} (h:Lay p us E base bm bu i q rv t) (hi:0<i) :
  ∃ br,rv=.own 1 br 0 i∧MkR ⟨p,us,bm,bu,br,i,q⟩ (List.replicate us.length false) E base t:=by
 obtain ⟨h1,h2,h3,f,g,hf,hg,s0,hc,hq⟩:=h
 rcases hc with ⟨e,_,_⟩ | ⟨_,br,y,hb,rfl,rfl,hy⟩
 ·omega
 refine ⟨br,rfl,h1,_,⟨f,rfl,by rw [List.length_replicate];exact hf⟩,B4X h3 h2,_,⟨g,by rw [List.length_replicate],fun k hk=>?_⟩,hb,_,⟨y,rfl,hy⟩,hq⟩
 rw [List.length_replicate] at hk
 rw [hg k hk];simp [hk]
theorem B9J (uv:AV) (st:St):S P 290 [uv,B6 []] st fun v st'=>v=.tuple []∧st'=st:=by
 refine A7 [] C0 mixed Tryz.func290 (by rfl) rfl rfl rfl ?_;conv=>whnf
 refine A5K [0,6,7,8] ?_;conv=>whnf
 intro I;conv=>whnf
 exact ⟨rfl,rfl⟩
theorem B9E (p:B2) (us:List B7) (parts:List (List Int)) (hfit:O0 p) (hright:G2 p=true) (hk:p.kind=4) (hp:A3d p) (hu:E6 us) (hl:parts.length=p.parts.length) (hm:∀ x∈parts,K7 us x) (st:St) :
  S P 244 [B9 p,C9 us,B1 1 B6 parts] st fun v st'=>v=.tuple [C9 (O9 p us parts).1,eI (O9 p us parts).2]∧st'=st:=by
 refine S.post (post:=fun v st'=>∃ sv,v=.tuple [sv,eI (O9 p us parts).2]∧A4l st (O9 p us parts).1 sv st') ?_
  (fun v st' ⟨sv,hv,hr⟩=>⟨_,st,⟨rfl,rfl⟩,by rw [hv];exact B4.tuple (B4.cons hr.shift (B4.keep _ _)) rfl⟩)
 have hul:=hu.len
 have hn1:=hp.n1
 have hn8:=hp.n8
 have hme:∀ k,k<parts.length→K7 us (parts.getD k default):=fun k hk=>hm _ (B5 hk)
 have hst0:=A4y hu hl (fun k hk=>hme k hk)
 generalize hE:(fun k=>E4 us (parts.getD k default))=E at *
 have hEk:∀ k,E k=E4 us (parts.getD k default):=fun k=>by rw [←hE]
 have hbs:F6 us parts=⟨us,⟨List.replicate us.length false,E,[]⟩,[],0⟩:=by rw [←hE];rfl
 have hD:tot p.parts.length (F6 us parts).ms.es≤800000:=by
  have:=C1z (n:=p.parts.length) (B:=100000) (es:=(F6 us parts).ms.es) (fun i hi=>by
   rw [hbs]
   show (E i).length≤100000
   rw [hEk,A1f]
   exact Nat.le_trans (hme i (by omega)).len hul)
  have h2:p.parts.length * 100000≤8 * 100000:=Nat.mul_le_mul_right _ hn8
  omega
 have hB:O9 p us parts=(if p.closes=true then closeB (A2n p us (tot p.parts.length (F6 us parts).ms.es+1) (F6 us parts)).out (A2n p us (tot p.parts.length (F6 us parts).ms.es+1) (F6 us parts)).taken else (A2n p us (tot p.parts.length (F6 us parts).ms.es+1) (F6 us parts)).out,(A2n p us (tot p.parts.length (F6 us parts).ms.es+1) (F6 us parts)).all):=rfl
 refine A7 [3] C0 mixed Tryz.func244 (by rfl) rfl rfl rfl ?_;conv=>whnf
 refine call (A9c us hul st) (fun sv base hcol=>?_)
 have hres:=A4l.ofCol hcol
 conv=>whnf
 refine B3 (C4f p us parts hfit hright hk hu hl (by omega) hm _) ?_;conv=>whnf
 refine ⟨[4,6],[0],[0,1,2,3,4,5,6,7],by kernel_rfl,?_⟩;conv=>whnf
 refine ⟨_,fun s _=>⟨rfl,rfl⟩,?_⟩;conv=>whnf
 refine mkO rfl rfl rfl (by show 1 * us.length≤_;omega) (by omega) (by rfl) (fun bu hbu=>?_);conv=>whnf
 intro bm hbm
 have hne:bu≠bm:=fun e=>by subst e;rw [A0] at hbm;cases hbm
 rw [A9 hne.symm] at hbm;conv=>whnf
 have hlay0:Lay p us E base bm bu 0 (fun _=>0) .emp (upd (upd base bu ⟨4,r4.size,us.length,fun _=>K6 r4.zero⟩) bm ⟨349,18,1,fun _=>.agg (A1d p++[C9 us,.own 1 bu 0 us.length,.emp])⟩) :=
  ⟨hbm,hbu,hne,fun _=>.agg (A1d p++[C9 us,.own 1 bu 0 us.length,.emp]),fun _=>eB false,rfl,fun _ _=>rfl,by
   rw [L3 hne.symm]
   exact ROut.start (Qs.nil (F3.refl _)) _ _ _⟩
 refine ⟨[1,3,8,9,32,33,34],fun m vs t=>∃ (i:Nat) (q:Nat→Nat) (rv:AV),i≤parts.length∧m=parts.length - i∧vs=[C9 us,.fptr (B9 p) 0,sv,.optr 18 bm 0 0,B1 1 B6 parts,eI parts.length,eI i]∧Lay p us E base bm bu i q rv t,?_,?_⟩
 ·conv=>whnf
  exact ⟨_,0,_,.emp,Nat.zero_le _,rfl,rfl,hlay0⟩
 ·clear hlay0
  rintro m vs t ⟨i,q,rv,hi,rfl,rfl,hlay⟩
  conv=>whnf
  cases h:decide ((i:Int)<(parts.length:Int))
  ·have:=of_decide_eq_false h
   have hin:i=p.parts.length:=by omega
   subst hin
   obtain ⟨br,rfl,hMk⟩:=hlay.mk' (by omega)
   clear hlay
   conv=>whnf
   refine ⟨[3,8,9,12,13],fun m vs t=>∃ (b:BSt) (svT:AV) (ba:St),BOk p us (tot p.parts.length (F6 us parts).ms.es) b∧tot p.parts.length b.ms.es<m∧A2n p us m b=A2n p us (tot p.parts.length (F6 us parts).ms.es+1) (F6 us parts)∧vs=[.fptr (B9 p) 0,sv,.optr 18 bm 0 0,svT,eI b.all]∧A4l st b.out sv ba∧ROut (MkR ⟨p,us,bm,bu,br,p.parts.length,q⟩ b.ms.used b.ms.es) 3 1 (fun k=>eI (gI b.taken k)) b.taken.length ba svT t,?_,?_⟩
   ·conv=>whnf
    refine ⟨_,F6 us parts,.emp,base,hst0,Nat.lt_succ_self _,rfl,rfl,hres,?_⟩
    rw [hbs]
    exact ROut.start hMk _ _ _
   ·clear hMk hres
    rintro m vs t' ⟨b,svT,ba,hb,hlt,hF,rfl,hres,hout⟩
    obtain ⟨s0,hcol0,hMk⟩:=hout
    obtain ⟨m,rfl⟩:∃ n,m=n+1:=⟨m - 1,by omega⟩
    have hbl:=hb.len
    -- the end: what is closed
    have fin:∀ t2,F3 s0 t2→A1o p us b=none→(p.closes=true→∃ v3 t3,(∀ K:KK,(∀ t3,A4l st (closeB b.out b.taken) sv t3→K (.tuple []) t3)→A1B P 290 [sv,svT] t2 K)∧v3=AV.emp∧t3=t2)∧A4l st b.out sv t2∧O9 p us parts=(if p.closes=true then closeB b.out b.taken else b.out,b.all):=fun t2 hs2 hstep=>by
     have hbf:A2n p us (m+1) b=b:=by unfold A2n;rw [hstep]
     rw [hbf] at hF
     refine ⟨fun hc=>⟨.emp,t2,fun K hK=>?_,rfl,rfl⟩,?_,by rw [hB,←hF]⟩
     ·have hsh:B4 [svT] t2 [B6 b.taken] ba:=(hs2.shift _).trans hcol0.shift
      rcases hres.2 with ⟨h5,h6⟩ | ⟨bo,hb0,rfl,hHas⟩
      ·subst h6
       have hnil:b.taken=[]:=by
        cases hbt:b.taken with
        | nil=>rfl
        | cons x l =>
         have:=(hb.mem x (by rw [hbt];exact List.mem_cons_self ..)).2
         have h7:=hb.off.len
         rw [h5,List.length_nil] at h7
         omega
       rw [hnil] at hsh
       refine I7 (args':=[.emp,B6 []]) (B4.cons (B4.keep _ _) hsh) (call (B9J _ ba) (fun v t3 hv=>?_))
       obtain ⟨rfl,rfl⟩:=hv
       refine hK _ ?_
       rw [h5,hnil]
       exact ⟨hres.1,.inl ⟨rfl,rfl⟩⟩
      ·refine I7 (args':=[.own 3 bo 0 b.out.length,B6 b.taken]) (B4.cons (B4.keep _ _) hsh) (call (B2d bo b.out b.taken (fun x hx=>by rw [hb.off.len];exact hb.mem x hx) (by omega) ba hHas) (fun v t3 hv=>?_))
       obtain ⟨rfl,hH3,hfr⟩:=hv
       refine hK _ ⟨fun x y hx=>?_,.inr ⟨bo,hb0,by rw [A1e],hH3⟩⟩
       rw [hfr x (fun e=>by subst e;rw [hb0] at hx;cases hx)];exact hres.1 x y hx
     ·have hsup:F3 ba t2:=hcol0.sup.trans hs2
      refine ⟨hres.1.trans hsup,?_⟩
      rcases hres.2 with h3 | ⟨bo,h3,h4,f,h5,h6⟩
      ·exact .inl h3
      ·exact .inr ⟨bo,h3,h4,f,hsup bo _ h5,h6⟩
    have hok0:MOk us p.parts.length ⟨b.ms.used,b.ms.es,[]⟩:=⟨hb.ok.len,hb.ok.rng,hb.ok.srt,fun x hx=>by simp at hx⟩
    conv=>whnf
    refine call (C4s ⟨p,us,bm,bu,br,p.parts.length,q⟩ rfl hp hu ⟨b.ms.used,b.ms.es,[]⟩ rfl hok0 s0 t' hMk) (fun v t2 hv=>?_)
    simp only at hv
    cases hs:J4 p.parts p.parts.length ⟨b.ms.used,b.ms.es,[]⟩ with
    | none =>
     rw [hs] at hv
     obtain ⟨rfl,hs2⟩:=hv
     obtain ⟨g1,g2,g3⟩:=fin t2 hs2 (by unfold A1o;rw [hs])
     rw [g3];conv=>whnf
     cases hc:p.closes with
     | true =>
      obtain ⟨_,_,g4,_,_⟩:=g1 hc
      conv=>whnf
      refine g4 _ (fun t3 h3=>?_);conv=>whnf
      exact ⟨_,rfl,h3⟩
     | false =>
      conv=>whnf
      exact ⟨_,rfl,g2⟩
    | some s =>
     rw [hs] at hv
     obtain ⟨rfl,hMk2⟩:=hv
     have hBs:=B6K ⟨p,us,bm,bu,br,p.parts.length,q⟩ s.used s.es
     by_cases hcost:H1 us s.l>p.amount
     ·obtain ⟨k1,k2,k3⟩:=hb.step hp hu hs hcost
      have hcost':decide (H1 us s.l>p.amount)=true:=decide_eq_true hcost
      have hstep:A2n p us (m+1) b=A2n p us m ⟨A2q b.out (C5 s.l) (H1 us s.l - p.amount),s,b.taken++C5 s.l,b.all+(H1 us s.l - p.amount)⟩:=by
       conv=>lhs;unfold A2n A1o
       rw [hs];simp only;rw [if_pos hcost]
      rw [hcost']
      have hlen:=A1i hp (Nat.le_refl _) hs
      have htot:=A6j (n:=p.parts.length) (Nat.le_refl _) hs
      have hpos:=A4O hp hs
      simp only [List.length_nil] at hlen htot hpos
      rcases hres.2 with ⟨h5,h6⟩ | ⟨bo,hb0,rfl,f,hstb,hf⟩
      ·exfalso
       have:=(k1.places.rng 0 (by rw [Q2];omega)).2
       rw [h5,List.length_nil] at this
       omega
      have hou:=hb.off.ok hu
      have hout2:ROut (MkR ⟨p,us,bm,bu,br,p.parts.length,q⟩ s.used s.es) 3 1 (fun k=>eI (gI b.taken k)) b.taken.length ba svT t2:=⟨s0,hcol0,hMk2⟩
      conv=>whnf
      refine call (C2h bo b.out hou (C5 s.l) (by rw [Q2];omega) k1.places _ k1.weights t2 ⟨f,hout2.sup hBs bo _ hstb,hf⟩) (fun v t3 hv=>?_)
      obtain ⟨rfl,f3,rfl,hf3⟩:=hv
      have hout3:=hout2.write hBs (y':=⟨152,3,b.out.length,f3⟩) hstb
      have hll:(A2q b.out (C5 s.l) (H1 us s.l - p.amount)).length=b.out.length:=by rw [k2.off.len,hb.off.len]
      conv=>whnf
      refine ROut.apps (q:=r3) (m:=s.l.length) (n:=b.taken.length) hBs rfl rfl rfl rfl (B2Z (Q2 s.l) _) (f:=fun k=>eI (gI (b.taken++C5 s.l) k)) (fun i hi=>?_) (by show (b.taken.length+s.l.length) * 8≤140737488355328;omega) (hout3.congr fun k hk=>by rw [K5 hk]) (fun sv' t4 hout4=>?_)
      ·show eI (gI (C5 s.l) i)=eI (gI (b.taken++C5 s.l) (b.taken.length+i))
       unfold gI
       rw [List.getD_eq_getElem?_getD,List.getD_eq_getElem?_getD,List.getElem?_append_right (by omega),Nat.add_sub_cancel_left]
      have hX1:=hb.off.pos
      have hX3:=k2.off.sum
      have hX4:=D0 (k2.off.ok hu).nets0
      have hX5:=hu.sum
      have hX6:=k1.weights.t0
      simp only at hX3 hX4
      conv=>whnf
      refine ⟨rfl,?_⟩;conv=>whnf
      refine ⟨m,Nat.lt_succ_self _,⟨A2q b.out (C5 s.l) (H1 us s.l - p.amount),s,b.taken++C5 s.l,b.all+(H1 us s.l - p.amount)⟩,sv',upd ba bo ⟨152,3,b.out.length,f3⟩,k2,by show tot p.parts.length s.es<m;omega,by rw [←hstep];exact hF,?_,?_,?_⟩
      ·have w:IntKind.i64.wrap (b.all+(H1 us s.l - p.amount))=b.all+(H1 us s.l - p.amount):=A8 (by omega) (by omega)
       show [AV.fptr (B9 p) 0,AV.own 3 bo 0 b.out.length,AV.optr 18 bm 0 0,sv',eI (IntKind.i64.wrap (b.all+(H1 us s.l - p.amount)))]=_
       rw [w]
      ·exact ⟨hres.1.over hb0,.inr ⟨bo,hb0,by show AV.own 3 bo 0 b.out.length=_;rw [hll],f3,by rw [A0,hll],by rw [hll];exact hf3⟩⟩
      ·show ROut _ _ _ _ (b.taken++C5 s.l).length _ _ _
       rw [List.length_append,Q2];exact hout4
     ·have hcost':decide (H1 us s.l>p.amount)=false:=decide_eq_false hcost
      obtain ⟨g1,g2,g3⟩:=fin t2 (hBs.sup hMk2) (by unfold A1o;rw [hs];simp only;rw [if_neg hcost])
      rw [g3,hcost'];conv=>whnf
      cases hc:p.closes with
      | true =>
       obtain ⟨_,_,g4,_,_⟩:=g1 hc
       conv=>whnf
       refine g4 _ (fun t3 h3=>?_);conv=>whnf
       exact ⟨_,rfl,h3⟩
      | false =>
       conv=>whnf
       exact ⟨_,rfl,g2⟩
  ·have hi':i<parts.length:=by have:=of_decide_eq_true h;omega
   have hmi:=hme i hi'
   have hml:=hmi.len
   obtain ⟨l1,l2,l3,f,g,hf,hg,hout⟩:=hlay
   have hbmS:∀ {n:Nat} {q:Nat→Nat} {E:Nat→List QE} {rv:AV} {fo:Nat→AV} {n':Nat} {t:St},ROut (Qs n q E) 216 1 fo n' (upd (upd base bm ⟨349,18,1,f⟩) bu ⟨4,1,us.length,g⟩) rv t→t bm=some ⟨349,18,1,f⟩:=fun h =>
    h.sup (A2l _ _ _) bm _ (by rw [A9 l3.symm,A0])
   -- what is behind the call and the append
   have after:∀ (q':Nat) (t2:St),QSt t q' true (E4 us (parts.getD i default)) t2→ROut (Qs (i+1) (X6 q i q') E) 216 1 (fun k=>.optr 1 (X6 q i q' k) 0 0) i (upd (upd base bm ⟨349,18,1,f⟩) bu ⟨4,1,us.length,g⟩) rv t2:=fun q' t2 hq'=>by
    obtain ⟨s0,hc,hqs⟩:=hout
    refine ⟨s0,H9.congr hc fun k hk=>by rw [K3 (by omega)],?_⟩
    refine (hqs.add hq').congr (fun _ _=>rfl) fun k hk=>?_
    by_cases e:k=i
    ·subst e;rw [G7,hEk]
    ·rw [K3 e]
   conv=>whnf
   refine ⟨rfl,⟨by omega,by omega⟩,?_⟩;conv=>whnf
   refine ⟨[4,7,9,12],[],[],.qui 0 (.qui 1 (.qui 2 (.qui 3 (.qui 5 (.qui 6 (.two 4 7 (.gen 7 (.qui 8 (.gen 9 (.qui 10 (.qui 11 (.gen 12 .done)))))) (.qui 4 (.qui 8 (.gen 9 (.qui 10 (.qui 11 (.gen 12 .done)))))))))))),by kernel_rfl,?_⟩;conv=>whnf
   have stored:∀ (q':Nat) (rv':AV) (t4:St),ROut (Qs (i+1) (X6 q i q') E) 216 1 (fun k=>.optr 1 (X6 q i q' k) 0 0) (i+1) (upd (upd base bm ⟨349,18,1,f⟩) bu ⟨4,1,us.length,g⟩) rv' t4→Lay p us E base bm bu (i+1) (X6 q i q') rv' (upd t4 bm ⟨349,18,1,G6 f 0 (.agg (A1d p++[C9 us,.own 1 bu 0 us.length,rv']))⟩):=fun q' rv' t4 h4=>by
    refine ⟨l1,l2,l3,G6 f 0 (.agg (A1d p++[C9 us,.own 1 bu 0 us.length,rv'])),g,A5 ..,hg,?_⟩
    have h5:=h4.write (A2l _ _ _) (b:=bm) (y':=⟨349,18,1,G6 f 0 (.agg (A1d p++[C9 us,.own 1 bu 0 us.length,rv']))⟩) (by rw [A9 l3.symm,A0])
    rw [L3 l3,B8] at h5
    exact h5
   have fin3:∀ (q':Nat) (rv':AV) (t5:St),Lay p us E base bm bu (i+1) (X6 q i q') rv' t5→∃ m',m'<parts.length - i∧∃ (i_1:Nat) (q:Nat→Nat) (rv:AV),i_1≤parts.length∧m'=parts.length - i_1∧[C9 us,AV.fptr (B9 p) 0,sv,AV.optr 18 bm 0 0,B1 1 B6 parts,eI parts.length,eI (IntKind.i64.wrap ((i:Int)+1))]=[C9 us,.fptr (B9 p) 0,sv,.optr 18 bm 0 0,B1 1 B6 parts,eI parts.length,eI i_1]∧Lay p us E base bm bu i_1 q rv t5 :=
    fun q' rv' t5 h5=>⟨parts.length - (i+1),by omega,i+1,_,rv',by omega,rfl,by rw [C2 (by omega)],h5⟩
   rcases hout.head with rfl | ⟨br,rfl⟩<;>conv=>whnf
   all_goals constructor
   all_goals conv=>whnf
   case inl.left | inr.left =>
    refine E9 (hbmS hout) rfl (by omega) hf ?_;conv=>whnf
    refine call (A7C us (parts.getD i default) hul (by omega) hmi.rng t) (fun v t2 hv=>?_)
    obtain ⟨q',rfl,hq'⟩:=hv
    have hout2:=after q' t2 hq'
    conv=>whnf
    refine ⟨_,⟨rfl,rfl⟩,?_⟩;conv=>whnf
    refine ROut.app (q:=C2N) (A2l _ _ _) rfl rfl rfl rfl rfl (by simp only [G7];rfl) (by show (i+1) * 8≤140737488355328;omega) hout2 (fun rv' t4 hout4=>?_)
    rcases hout4.head with e | ⟨br',e⟩<;>subst e
    all_goals conv=>whnf
    all_goals refine J7 (hbmS hout4) rfl (by omega) hf (by rfl) ?_
    all_goals conv=>whnf
    all_goals refine ⟨rfl,?_⟩
    all_goals conv=>whnf
    all_goals exact fin3 _ _ _ (stored q' _ _ hout4)
   case inl.right | inr.right =>
    refine call (A7C us (parts.getD i default) hul (by omega) hmi.rng t) (fun v t2 hv=>?_)
    obtain ⟨q',rfl,hq'⟩:=hv
    have hout2:=after q' t2 hq'
    conv=>whnf
    refine E9 (hbmS hout2) rfl (by omega) hf ?_;conv=>whnf
    refine ⟨_,⟨rfl,rfl⟩,?_⟩;conv=>whnf
    refine ROut.app (q:=C2N) (A2l _ _ _) rfl rfl rfl rfl rfl (by simp only [G7];rfl) (by show (i+1) * 8≤140737488355328;omega) hout2 (fun rv' t4 hout4=>?_)
    rcases hout4.head with e | ⟨br',e⟩<;>subst e
    all_goals conv=>whnf
    all_goals refine J7 (hbmS hout4) rfl (by omega) hf (by rfl) ?_
    all_goals conv=>whnf
    all_goals refine ⟨rfl,?_⟩
    all_goals conv=>whnf
    all_goals exact fin3 _ _ _ (stored q' _ _ hout4)
def inB (l:List E0) (s:E0):Bool:=l.any fun y=>s.toList==y.toList
theorem B2x (l:List E0) (s:E0) (hl:l.length≤9223372036854775807) (st:St):S P 277 [D6 l,eS s] st fun v st'=>v=.bool (inB l s)∧st'=st:=by
 refine A7 [] C0 mixed Tryz.func277 (by rfl) rfl rfl rfl ?_;conv=>whnf
 refine B3 (B8g l hl s st) ?_;conv=>whnf
 exact ⟨rfl,rfl⟩
def A1T (s:O5) (x:Ab.Item):Bool:=(s.skus.length+s.cats.length==0)||inB s.skus x.sku||inB s.cats x.cat
theorem C4F (s:O5) (x:Ab.Item) (h1:s.skus.length≤20) (h2:s.cats.length≤20) (st:St):S P 285 [J8 s,E5 x] st fun v st'=>v=.bool (A1T s x)∧st'=st:=by
 refine A7 [2,3] C0 mixed Tryz.func285 (by rfl) rfl rfl rfl ?_;conv=>whnf
 have w:IntKind.i64.wrap ((s.skus.length:Int)+(s.cats.length:Int))=((s.skus.length+s.cats.length:Nat):Int):=by rw [A8 (by omega) (by omega)];omega
 rw [w,A1U]
 refine C4 (fun h=>?_) (fun h=>?_)<;>rw [h]
 ·conv=>whnf
  refine ⟨?_,rfl⟩
  unfold A1T;rw [h];rfl
 ·conv=>whnf
  refine B3 (B2x s.skus x.sku (by omega) st) ?_;conv=>whnf
  refine C4 (fun h3=>?_) (fun h3=>?_)<;>rw [h3]
  ·conv=>whnf
   refine ⟨?_,rfl⟩
   unfold A1T;rw [h,h3];rfl
  ·conv=>whnf
   refine B3 (B2x s.cats x.cat (by omega) st) ?_;conv=>whnf
   refine ⟨?_,rfl⟩
   unfold A1T;rw [h,h3];rfl
theorem C8:H2 F3 where
 sup:=fun h=>h
 begin:=fun {s t b y} h hb=>fun c x hc=>by
  by_cases e:c=b
  ·subst e;rw [A0] at hc ⊢;exact hc
  ·rw [A9 e] at hc ⊢;exact h c x hc
 grow:=fun {s t b b' y y'} h h0 hb=>by
  have hsub:∀ c x,s c=some x→c≠b∧t c=some x:=fun c x hc=>by
   have hne:c≠b:=fun e=>by subst e;rw [h0] at hc;cases hc
   exact ⟨hne,h c x (by rw [A9 hne];exact hc)⟩
  have hb':s b'=none:=by
   rcases hb with e | e
   ·rw [e];exact h0
   ·cases hx:s b' with
    | none=>rfl
    | some x=>rw [(hsub _ _ hx).2] at e;cases e
  refine ⟨hb',fun c x hc=>?_⟩
  by_cases e:c=b'
  ·subst e;rw [A0] at hc ⊢;exact hc
  ·rw [A9 e] at hc ⊢
   rw [A0M (hsub c x hc).1];exact (hsub c x hc).2
 write:=fun {s t b y y'} h hb=>F3.write (y:=y) h
 forget:=fun {s t b y} h h0=>fun c x hc=>by
  have hne:c≠b:=fun e=>by subst e;rw [h0] at hc;cases hc
  rw [A0M hne];exact h c x (by rw [A9 hne];exact hc)
 drop:=fun {s t b y} h h0=>F3.drop h h0
theorem B3v {ι : Type} {R : ι→St→St→Prop} (h:∀ i,H2 (R i)):H2 fun s t=>∃ i,R i s t where
 sup:=fun ⟨i,hi⟩=>(h i).sup hi
 begin:=fun ⟨i,hi⟩ hb=>⟨i,(h i).begin hi hb⟩
 grow:=fun ⟨i,hi⟩ h0 hb=>⟨((h i).grow (y':=⟨0,0,0,fun _=>.junk⟩) hi h0 hb).1,i,((h i).grow hi h0 hb).2⟩
 write:=fun ⟨i,hi⟩ hb=>⟨i,(h i).write hi hb⟩
 forget:=fun ⟨i,hi⟩ h0=>⟨i,(h i).forget hi h0⟩
 drop:=fun ⟨i,hi⟩ h0=>⟨i,(h i).drop hi h0⟩
theorem H9.off {ty e n:Nat} {fo:Nat→AV} {s s0:St} {sv:AV} (h:H9 ty e fo s n sv s0) {b:Nat} (hb:s0 b=none):s b=none:=by
 rcases h with ⟨_,_,rfl⟩ | ⟨_,bo,g,h1,_,rfl,_⟩
 ·exact hb
 ·by_cases e:b=bo
  ·subst e;exact h1
  ·rw [A9 e] at hb;exact hb
theorem H9.under {ty e n:Nat} {fo:Nat→AV} {s s0:St} {sv:AV} (h:H9 ty e fo s n sv s0) {b:Nat} {y:Q3} (hb:s0 b=none):H9 ty e fo (upd s b y) n sv (upd s0 b y):=by
 rcases h with ⟨rfl,rfl,rfl⟩ | ⟨h0,bo,g,h1,rfl,rfl,h3⟩
 ·exact H9.start _ _ _ _
 ·have hne:bo≠b:=fun e=>by subst e;rw [A0] at hb;cases hb
  exact .inr ⟨h0,bo,g,by rw [A9 hne];exact h1,rfl,L3 hne,h3⟩
theorem H9.split {ty e n:Nat} {fo:Nat→AV} {s s0:St} {sv:AV} {b:Nat} {y:Q3} (h:H9 ty e fo (upd s b y) n sv s0) (hb:s b=none):∃ s1,s1 b=none∧s0=upd s1 b y∧H9 ty e fo s n sv s1:=by
 rcases h with ⟨rfl,rfl,rfl⟩ | ⟨h0,bo,g,h1,rfl,rfl,h3⟩
 ·exact ⟨s,hb,rfl,H9.start _ _ _ _⟩
 ·have hne:bo≠b:=fun e=>by subst e;rw [A0] at h1;cases h1
  rw [A9 hne] at h1
  exact ⟨upd s bo ⟨ty,e,n,g⟩,by rw [A9 hne.symm];exact hb,L3 hne.symm,.inr ⟨h0,bo,g,h1,rfl,rfl,h3⟩⟩
theorem N2 {R:St→St→Prop} (hR:H2 R) (ty e:Nat) (fo:Nat→AV) (n:Nat) (sv:AV):H2 fun s t=>ROut R ty e fo n s sv t where
 sup:=fun h=>h.sup hR
 begin:=fun {s t b y} ⟨s0,hc,h⟩ hb=>⟨upd s0 b y,H9.under hc ((hR.sup h).none hb),hR.begin h hb⟩
 grow:=fun {s t b b' y y'} ⟨s0,hc,h⟩ h0 hb=>by
  obtain ⟨s1,h1,rfl,hc1⟩:=H9.split hc h0
  obtain ⟨g1,g2⟩:=hR.grow (y':=y') h h1 hb
  exact ⟨H9.off hc1 g1,_,H9.under hc1 g1,g2⟩
 write:=fun {s t b y y'} ⟨s0,hc,h⟩ hb=>⟨_,H9.write hc hb,hR.write h (hc.sup b y hb)⟩
 forget:=fun {s t b y} ⟨s0,hc,h⟩ h0=>by
  obtain ⟨s1,h1,rfl,hc1⟩:=H9.split hc h0
  exact ⟨s1,hc1,hR.forget h h1⟩
 drop:=fun {s t b y} ⟨s0,hc,h⟩ h0=>by
  obtain ⟨s1,h1,rfl,hc1⟩:=H9.split hc h0
  exact ⟨s1,hc1,hR.drop h h1⟩
structure PSt where
 us:List B7
 deals:List A1P
 groups:List E0
abbrev A0N (l:List A1P):Nat→AV:=fun k=>B9S (l.getD k default)
abbrev A5Q (l:List E0):Nat→AV:=fun k=>eS (l.getD k default)
def IsP (items:List Ab.Item) (us:List B7) (dv gv:AV) (y:Q3):Prop:=∃ f,y=⟨147,4,1,f⟩∧f 0=.agg [B1 4 E5 items,C9 us,dv,gv]
def RG (groups:List E0) (gv:AV):St→St→Prop:=fun s t=>ROut F3 9 1 (A5Q groups) groups.length s gv t
def RD (deals:List A1P) (groups:List E0) (dv gv:AV):St→St→Prop:=fun s t=>ROut (RG groups gv) 134 2 (A0N deals) deals.length s dv t
def PxR (bx:Nat) (items:List Ab.Item) (p:PSt):St→St→Prop:=fun s t=>∃ v:AV×AV,A1a bx (IsP items p.us v.1 v.2) (RD p.deals p.groups v.1 v.2) s t
theorem A6I (groups:List E0) (gv:AV):H2 (RG groups gv):=N2 C8 _ _ _ _ _
theorem A2F (deals:List A1P) (groups:List E0) (dv gv:AV):H2 (RD deals groups dv gv):=N2 (A6I groups gv) _ _ _ _ _
theorem A3I (bx:Nat) (items:List Ab.Item) (p:PSt):H2 (PxR bx items p):=B3v fun _=>A1S (A2F _ _ _ _)
theorem PxR.at {bx:Nat} {items:List Ab.Item} {p:PSt} {s t:St} (h:PxR bx items p s t):∃ dv gv f,t bx=some ⟨147,4,1,f⟩∧f 0=.agg [B1 4 E5 items,C9 p.us,dv,gv]∧(dv=.emp∨∃ b,dv=.own 2 b 0 p.deals.length)∧(gv=.emp∨∃ b,gv=.own 1 b 0 p.groups.length):=by
 obtain ⟨⟨dv,gv⟩,h⟩:=h
 obtain ⟨y,⟨f,rfl,hf⟩,hy⟩:=A1a.at (A2F _ _ _ _) h
 obtain ⟨_,_,_,hd⟩:=h
 obtain ⟨s0,hc,hg⟩:=hd
 refine ⟨dv,gv,f,hy,hf,?_,?_⟩
 ·exact (show ROut (RG p.groups gv) _ _ _ _ _ dv t from ⟨s0,hc,hg⟩).head
 ·exact hg.head
def A0R (sc:O5) (items:List Ab.Item) (u:B7):Bool:=u.opn&&A1T sc (items.getD u.line.toNat default)
def I3 (sc:O5) (items:List Ab.Item) (us:List B7) (i:Nat):List Int:=((List.range i).filter fun k=>A0R sc items (gU us k)).map Int.ofNat
theorem A9w (sc:O5) (items:List Ab.Item) (us:List B7) (i:Nat):I3 sc items us (i+1)=I3 sc items us i++(if A0R sc items (gU us i)=true then [(i:Int)] else []):=by
 unfold I3
 rw [List.range_succ,List.filter_append,List.map_append]
 congr 1
 by_cases h:A0R sc items (gU us i)=true
 ·rw [if_pos h,List.filter_cons_of_pos (p:=fun k=>A0R sc items (gU us k)) h];rfl
 ·rw [if_neg h,List.filter_cons_of_neg (p:=fun k=>A0R sc items (gU us k)) h];rfl
theorem A2e (sc:O5) (items:List Ab.Item) (us:List B7) (i:Nat):(I3 sc items us i).length≤i:=by
 unfold I3
 rw [List.length_map]
 exact Nat.le_trans (List.length_filter_le ..) (by simp)
theorem A0O (sc:O5) (items:List Ab.Item) (us:List B7):K7 us (I3 sc items us us.length):=by
 have hmem:∀ k,k<(I3 sc items us us.length).length→∃ j:Nat,gI (I3 sc items us us.length) k=(j:Int)∧j<us.length∧A0R sc items (gU us j)=true:=fun k hk=>by
  have h:=B5 (l:=I3 sc items us us.length) hk
  obtain ⟨j,hj,he⟩:=List.mem_map.1 h
  obtain ⟨h1,h2⟩:=List.mem_filter.1 hj
  exact ⟨j,he.symm,List.mem_range.1 h1,h2⟩
 refine ⟨fun k hk=>?_,fun k hk=>?_,fun k hk=>?_⟩
 ·obtain ⟨j,e,h1,h2⟩:=hmem k hk
  rw [e];omega
 ·obtain ⟨j,e,h1,h2⟩:=hmem k hk
  rw [e]
  unfold A0R at h2
  rw [Bool.and_eq_true] at h2
  exact h2.1
 ·have hs:(I3 sc items us us.length).Pairwise (·<·):=by
   unfold I3
   refine List.Pairwise.map _ (fun a b h=>?_) ((List.pairwise_lt_range (n:=us.length)).filter _)
   show (a:Int)<(b:Int)
   omega
  have:=List.pairwise_iff_getElem.1 hs k (k+1) (by omega) hk (by omega)
  simpa [gI,hk,show k<(I3 sc items us us.length).length by omega] using this
theorem C0q (bx:Nat) (items:List Ab.Item) (p:PSt) (sc:O5) (h1:sc.skus.length≤20) (h2:sc.cats.length≤20) (hu:p.us.length≤100000) (hi:items.length≤100000) (hl:∀ u∈p.us,0≤u.line∧u.line.toNat<items.length) (s t:St) (h:PxR bx items p s t) :
  S P 239 [.optr 4 bx 0 0,J8 sc] t fun v t'=>v=B6 (I3 sc items p.us p.us.length)∧t'=t:=by
 refine S.post (post:=fun v t'=>∃ t1,F3 t t1∧H9 3 1 (fun k=>eI (gI (I3 sc items p.us p.us.length) k)) t1 (I3 sc items p.us p.us.length).length v t') ?_
  (fun v t' ⟨t1,hs,hc⟩=>⟨_,t,⟨rfl,rfl⟩,hc.shift.trans (hs.shift _)⟩)
 obtain ⟨dv,gv,fx,hx,hx0,hdv,hgv⟩:=h.at
 refine A7 [3,7,10] C0 mixed Tryz.func239 (by rfl) rfl rfl rfl ?_;conv=>whnf
 refine E9 hx rfl (by omega) hx0 ?_;conv=>whnf
 refine ⟨[0,3,5,14,15,16],fun m vs t'=>∃ (i:Nat) (sv:AV),i≤items.length∧m=items.length - i∧vs=[.optr 4 bx 0 0,.fptr (J8 sc) 0,sv,B1 4 E5 items,eI items.length,eI i]∧H9 4 1 (fun k=>eB (A1T sc (items.getD k default))) t i sv t',?_,?_⟩
 ·conv=>whnf
  exact ⟨_,0,.emp,Nat.zero_le _,rfl,rfl,H9.start _ _ _ _⟩
 ·rintro m vs t' ⟨i,sv,hi2,rfl,rfl,hcol⟩
  conv=>whnf
  cases hd:decide ((i:Int)<(items.length:Int))
  ·have:=of_decide_eq_false hd
   obtain rfl:i=items.length:=by omega
   have hx':=hcol.sup bx _ hx
   conv=>whnf
   refine E9 hx' rfl (by omega) hx0 ?_;conv=>whnf
   refine ⟨[5,8,30,31,32],fun m vs t2=>∃ (k:Nat) (sv2:AV),k≤p.us.length∧m=p.us.length - k∧vs=[sv,sv2,C9 p.us,eI p.us.length,eI k]∧H9 3 1 (fun j=>eI (gI (I3 sc items p.us k) j)) t' (I3 sc items p.us k).length sv2 t2,?_,?_⟩
   ·conv=>whnf
    exact ⟨_,0,.emp,Nat.zero_le _,rfl,rfl,H9.start _ _ _ _⟩
   ·rintro m vs t2 ⟨k,sv2,hk,rfl,rfl,hcol2⟩
    have hpl:=A2e sc items p.us k
    conv=>whnf
    cases hd2:decide ((k:Int)<(p.us.length:Int))
    ·have:=of_decide_eq_false hd2
     obtain rfl:k=p.us.length:=by omega
     conv=>whnf
     exact ⟨t',hcol.sup,hcol2⟩
    ·have hk':k<p.us.length:=by have:=of_decide_eq_true hd2;omega
     have hlk:0≤(gU p.us k).line∧(gU p.us k).line.toNat<items.length:=hl _ (B5 (l:=p.us) hk')
     have es:=A9w sc items p.us k
     conv=>whnf
     refine ⟨rfl,⟨by omega,by omega⟩,?_⟩;conv=>whnf
     have fin:∀ (sv3:AV) (t3:St),H9 3 1 (fun j=>eI (gI (I3 sc items p.us (k+1)) j)) t' (I3 sc items p.us (k+1)).length sv3 t3→∃ m',m'<p.us.length - k∧∃ (k_1:Nat) (sv2:AV),k_1≤p.us.length∧m'=p.us.length - k_1∧[sv,sv3,C9 p.us,eI p.us.length,eI (IntKind.i64.wrap ((k:Int)+1))]=[sv,sv2,C9 p.us,eI p.us.length,eI k_1]∧H9 3 1 (fun j=>eI (gI (I3 sc items p.us k_1) j)) t' (I3 sc items p.us k_1).length sv2 t3 :=
      fun sv3 t3 hc=>⟨p.us.length - (k+1),by omega,k+1,sv3,by omega,rfl,by rw [C2 (by omega)],hc⟩
     refine C4 (fun h3=>?_) (fun h3=>?_)<;>rw [h3]
     ·rcases hcol with ⟨h0,rfl,rfl⟩ | ⟨h0,b,g,hb,rfl,rfl,hg⟩
      ·exfalso;omega
      have hbt:=hcol2.sup b _ (A0 ..)
      have hgk:g (0+(gU p.us k).line.toNat)=eB (A1T sc (items.getD (gU p.us k).line.toNat default)):=by rw [Nat.zero_add];exact hg _ hlk.2
      conv=>whnf
      refine ⟨rfl,⟨by show 0≤(gU p.us k).line;exact hlk.1,by show (gU p.us k).line<(items.length:Int);have:=hlk.2;have:=hlk.1;omega⟩,?_⟩;conv=>whnf
      refine E9 hbt rfl (by show 0+(gU p.us k).line.toNat<_;have:=hlk.2;omega) hgk ?_;conv=>whnf
      refine C4 (fun h4=>?_) (fun h4=>?_)<;>rw [h4]
      ·have ho:A0R sc items (gU p.us k)=true:=by
        unfold A0R;rw [show (gU p.us k).opn=true from h3,h4];rfl
       rw [if_pos ho] at es
       have el:(I3 sc items p.us (k+1)).length=(I3 sc items p.us k).length+1:=by rw [es];simp
       conv=>whnf
       refine H9.app (q:=r3) rfl rfl rfl rfl rfl (f:=fun j=>eI (gI (I3 sc items p.us (k+1)) j)) (by simp only [es,A6S];rfl) (by show ((I3 sc items p.us k).length+1) * 8≤140737488355328;omega) (hcol2.congr fun j hj=>by rw [es,K5 hj]) (fun sv3 t3 hc3=>?_);conv=>whnf
       refine ⟨rfl,?_⟩;conv=>whnf
       exact fin sv3 t3 (by rw [el];exact hc3)
      ·have ho:¬ A0R sc items (gU p.us k)=true:=by
        unfold A0R;rw [h4];simp
       rw [if_neg ho,List.append_nil] at es;conv=>whnf
       refine ⟨rfl,?_⟩;conv=>whnf
       exact fin sv2 t2 (by rw [es];exact hcol2)
     ·have ho:¬ A0R sc items (gU p.us k)=true:=by
       unfold A0R;rw [show (gU p.us k).opn=false from h3];simp
      rw [if_neg ho,List.append_nil] at es;conv=>whnf
      refine ⟨rfl,?_⟩;conv=>whnf
      exact fin sv2 t2 (by rw [es];exact hcol2)
  ·have hi':i<items.length:=by have:=of_decide_eq_true hd;omega
   conv=>whnf
   refine ⟨rfl,⟨by omega,by omega⟩,?_⟩;conv=>whnf
   refine B3 (C4F sc (items.getD i default) h1 h2 _) ?_;conv=>whnf
   refine H9.app (q:=r4) rfl rfl rfl rfl rfl rfl (by show (i+1) * 1≤140737488355328;omega) hcol (fun sv' t2 hcol'=>?_);conv=>whnf
   refine ⟨rfl,?_⟩;conv=>whnf
   exact ⟨items.length - (i+1),by omega,i+1,sv',by omega,rfl,by rw [C2 (by omega)],hcol'⟩
end Go.Proofs.YtbajhapmlfbelaaGreat
namespace Go.Ab
open Go
theorem lp {A:List AV} {st:St} (n:Nat) (keep:List Nat) (J:Nat→List AV→St→Prop) {B:List Nat→(Nat→KA)→Nat→List AV→St→Prop}
  (h0:A2K A keep fun us=>J 0 us st) (h:∀ i vs s,i≤n→J i vs s→B keep (fun m vs s=>∃ i,i≤n∧m=n - i∧J i vs s) (n - i) vs s) :
  ∃ (keep:List Nat) (I:Nat→KA),(A2K A keep fun us=>∃ m,I m us st)∧∀ m vs s,I m vs s→B keep I m vs s:=by
 rw [A1u] at h0
 refine ⟨keep,fun m vs s=>∃ i,i≤n∧m=n - i∧J i vs s,?_,?_⟩
 ·rw [A1u];exact ⟨n,0,Nat.zero_le _,rfl,h0⟩
 ·rintro m vs s ⟨i,hi,rfl,hj⟩;exact h i vs s hi hj
theorem nx {n i:Nat} {J:Nat→Prop} (hi:i<n) (h:J (i+1)):∃ m',m'<n - i∧∃ i',i'≤n∧m'=n - i'∧J i':=⟨n - (i+1),by omega,i+1,hi,rfl,h⟩
theorem D7 {i n:Nat} (h:decide ((i:Int)<(n:Int))=false) (hi:i≤n):i=n:=by have:=of_decide_eq_false h;omega
theorem H0 {i n:Nat} (h:decide ((i:Int)<(n:Int))=true):i<n:=by have:=of_decide_eq_true h;omega
def G4 {α : Type} [Inhabited α] (ty e:Nat) (enc : α→AV) (L:List α) (st:St) (sv:AV) (st':St):Prop:=H9 ty e (fun k=>enc (L.getD k default)) st L.length sv st'
theorem G4.start {α : Type} [Inhabited α] (ty e:Nat) (enc : α→AV) (st:St):G4 ty e enc [] st .emp st:=H9.start _ _ _ _
theorem A7E {α : Type} [Inhabited α] (L:List α) (x : α):(L++[x]).getD L.length default=x:=by simp [List.getD_eq_getElem?_getD]
theorem A0g {α : Type} [Inhabited α] {a b:List α} {k:Nat} (h:k<a.length):(a++b).getD k default=a.getD k default:=by
 rw [List.getD_eq_getElem?_getD,List.getD_eq_getElem?_getD,List.getElem?_append_left h]
theorem G4.app {α : Type} [Inhabited α] {T:G9} {t:TypeId} {x sv:AV} {st st':St} {k:KK} {r q:D3} {el:Nat} {enc : α→AV} {L:List α} {y : α} {g:Nat→AV} (hr:T t=some r) (hd:r.desc=.slice el) (hq:T el=some q)
  (hz:(Nat.blt 0 q.size&&Nat.blt 0 q.bytes&&Nat.beq q.zero.cells.size q.size)=true) (hs:Y5 q.size st' x=some (1,g)) (hg:g 0=enc y) (hb:(L.length+1) * q.bytes≤140737488355328)
  (hc:G4 el q.size enc L st sv st') (hk:∀ sv' st'',G4 el q.size enc (L++[y]) st sv' st''→k sv' st''):A5h T t sv x st' k:=by
 refine H9.app (f:=fun k=>enc ((L++[y]).getD k default)) hr hd hq hz hs (by show g 0=enc _;rw [A7E];exact hg) hb (H9.congr hc fun k hk=>by show enc _=enc _;rw [A0g hk]) (fun sv' st'' h=>hk sv' st'' ?_)
 unfold G4
 rw [List.length_append];exact h
theorem Z8 {α : Type} [Inhabited α] {P:Program} {F:FuncId} {args:List AV} {st:St} {ty e:Nat} {enc : α→AV} {L:List α} (h:S P F args st fun v st'=>G4 ty e enc L st v st'):S P F args st fun v st'=>v=B1 e enc L∧st'=st:=B9j h
theorem G4.shift {α : Type} [Inhabited α] {ty e:Nat} {enc : α→AV} {L:List α} {st:St} {sv:AV} {st':St} (h:G4 ty e enc L st sv st'):B4 [sv] st' [B1 e enc L] st:=H9.shift h
theorem G4.sup {α : Type} [Inhabited α] {ty e:Nat} {enc : α→AV} {L:List α} {st:St} {sv:AV} {st':St} (h:G4 ty e enc L st sv st'):F3 st st':=H9.sup h
theorem A2B {α β : Type} [Inhabited α] {l:List α} {i:Nat} (h:i<l.length) (g : α→β):(l.take (i+1)).map g=(l.take i).map g++[g (l.getD i default)]:=by rw [L2 h,List.map_append];rfl
theorem S.lend {P:Program} {f:FuncId} {args args':List AV} {st:St} {q q':AV→Prop} (h:S P f args' st0 fun v s=>q v∧s=st0) (hs:B4 args st args' st0)
  (hq:∀ v c rd sz,q v→Rep rd sz v c→∃ v',q' v'∧∀ rd' sz',Rep rd' sz' v' c):S P f args st fun v s=>q' v∧s=st :=
 ⟨h.1,fun cargs w hr hS=>by
  obtain ⟨h1,h2,h3⟩:=hs w cargs hS hr
  refine (h.2 cargs w h2 h1).mono fun e w' ⟨v,c,s,⟨hqv,hs0⟩,he,hrep,hS',hE⟩=>?_
  subst hs0
  obtain ⟨v',hq',hsol⟩:=hq v c _ _ hqv hrep
  have hE2:Z6 st w st w':=⟨hE.os,hE.tape,hE.output,hE.size,fun b hb hn=>⟨(hE.blk b hb rfl).1,hn⟩,hE.szm⟩
  refine ⟨v',c,st,⟨hq',rfl⟩,he,hsol _ _,fun b x hb=>?_,hE2⟩
  obtain ⟨cs,hc⟩:=hS b x hb
  have heap:=(hE.blk b (H4.lt hS hb) rfl).1
  exact ⟨cs,by rw [heap];exact hc.heap,hc.size,hc.len,hc.one,fun i j y hi hy=>by
   obtain ⟨v,hv,hr⟩:=hc.cell i j y hi hy
   exact ⟨v,hv,hE2.rep hr⟩⟩⟩
def So (y y':AV):Prop:=∀ rd sz rd' sz' c,Rep rd sz y c→Rep rd' sz' y' c
inductive SoL:List AV→List AV→Prop
 | nil:SoL [] []
 | cons {a b:AV} {l m:List AV} (h:So a b) (k:SoL l m):SoL (a::l) (b::m)
theorem SoL.len {l m:List AV} (h:SoL l m):l.length=m.length:=by
 induction h with
 | nil=>rfl
 | cons _ _ ih=>simp [ih]
theorem SoL.get {l m:List AV} (h:SoL l m):∀ (j:Nat) (y':AV),m[j]?=some y'→∃ y,l[j]?=some y∧So y y':=by
 induction h with
 | nil=>intro j y' hj;simp at hj
 | cons h k ih =>
  intro j y' hj
  cases j with
  | zero=>simp at hj;subst hj;exact ⟨_,rfl,h⟩
  | succ j=>simp at hj;simpa using ih j y' hj
theorem So.int (k:IntKind) (n:Int):So (.int k n) (.int k n):=fun _ _ _ _ c h=>by cases h;exact .int _ _
theorem So.bool (b:Bool):So (.bool b) (.bool b):=fun _ _ _ _ c h=>by cases h;exact .bool _
theorem So.str (b:ByteArray):So (.str b) (.str b):=fun _ _ _ _ c h=>by cases h;exact .str _
theorem So.junk (y:AV):So y .junk:=fun _ _ _ _ c _=>.junk c
def noA (n:Nat):AV:=.arr 0 n fun _=>.agg []
theorem So.arr (e n:Nat) (f:Nat→AV):So (.arr e n f) (noA n):=fun _ _ _ _ c h=>by
 cases h with
 | arr e n f A c g hc hA hl ho hr hg =>
  exact .arr _ _ _ A c (fun _ _=>undef) hc hA (fun i hi=>rfl) (fun i hi=>rfl) (fun a ha i j hi hj=>absurd hj (by omega)) (fun i j y hi hy=>by simp [cellsOf] at hy)
theorem So.agg {l m:List AV} (h:SoL l m):So (.agg l) (.agg m):=fun _ _ _ _ c hr=>by
 cases hr with
 | agg cs vs hl hg =>
  refine .agg _ _ (by rw [←h.len];exact hl) fun j y c hy hc=>?_
  obtain ⟨y0,h1,h2⟩:=h.get j y hy
  exact h2 _ _ _ _ _ (hg j y0 c h1 hc)
theorem So.tuple {l m:List AV} (h:SoL l m):So (.tuple l) (.tuple m):=fun _ _ _ _ c hr=>by
 cases hr with
 | tuple cs vs hl hg =>
  refine .tuple _ _ (by rw [←h.len];exact hl) fun j y c hy hc=>?_
  obtain ⟨y0,h1,h2⟩:=h.get j y hy
  exact h2 _ _ _ _ _ (hg j y0 c h1 hc)
theorem S.lends {P:Program} {f:FuncId} {args args':List AV} {st:St} {q q':AV→Prop} (h:S P f args' st0 fun v s=>q v∧s=st0) (hs:B4 args st args' st0)
  (hq:∀ v,q v→∃ v',q' v'∧So v v'):S P f args st fun v s=>q' v∧s=st :=
 S.lend h hs fun v c rd sz hv hr=>by
  obtain ⟨v',h1,h2⟩:=hq v hv
  exact ⟨v',h1,fun rd' sz'=>h2 _ _ _ _ _ hr⟩
theorem C3f (st:St):F3 st0 st:=fun b x h=>by cases h
def Le (y y':AV):Prop:=∀ rd sz c,Rep rd sz y c→Rep rd sz y' c
inductive E3:List AV→List AV→Prop
 | nil:E3 [] []
 | cons {a b:AV} {l m:List AV} (h:Le a b) (k:E3 l m):E3 (a::l) (b::m)
theorem Le.refl (y:AV):Le y y:=fun _ _ _ h=>h
theorem E3.refl:∀ l:List AV,E3 l l
 | []=>.nil
 | a::l=>.cons (Le.refl a) (E3.refl l)
theorem E3.len {l m:List AV} (h:E3 l m):l.length=m.length:=by
 induction h with
 | nil=>rfl
 | cons _ _ ih=>simp [ih]
theorem E3.get {l m:List AV} (h:E3 l m):∀ (j:Nat) (y':AV),m[j]?=some y'→∃ y,l[j]?=some y∧Le y y':=by
 induction h with
 | nil=>intro j y' hj;simp at hj
 | cons h k ih =>
  intro j y' hj
  cases j with
  | zero=>simp at hj;subst hj;exact ⟨_,rfl,h⟩
  | succ j=>simp at hj;simpa using ih j y' hj
theorem Le.emp (e:Nat) (f:Nat→AV):Le .emp (.arr e 0 f):=fun rd sz c h=>B6T e f h
theorem Le.agg {l m:List AV} (h:E3 l m):Le (.agg l) (.agg m):=fun rd sz c hr=>by
 cases hr with
 | agg cs vs hl hg =>
  refine .agg _ _ (by rw [←h.len];exact hl) fun j y c hy hc=>?_
  obtain ⟨y0,h1,h2⟩:=h.get j y hy
  exact h2 _ _ _ (hg j y0 c h1 hc)
theorem Le.arr {e n:Nat} {f g:Nat→AV} (h:∀ i,i<n→E3 (cellsOf (f i)) (cellsOf (g i))∧(cellsOf (g i)).all AV.one=true):Le (.arr e n f) (.arr e n g):=fun rd sz c hr=>by
 cases hr with
 | arr e n f A c g' hc hA hl ho hrd hg =>
  refine .arr _ _ _ A c g' hc hA (fun i hi=>by rw [←(h i hi).1.len];exact hl i hi) (fun i hi=>(h i hi).2) hrd fun i j y hi hy=>?_
  obtain ⟨y0,h1,h2⟩:=(h i hi).1.get j y hy
  exact h2 _ _ _ (hg i j y0 hi h1)
theorem Le.arr1 {e:Nat} {f g:Nat→AV} (h:E3 (cellsOf (f 0)) (cellsOf (g 0))) (h1:(cellsOf (g 0)).all AV.one=true):Le (.arr e 1 f) (.arr e 1 g):=Le.arr fun i hi=>by
 obtain rfl:i=0:=by omega
 exact ⟨h,h1⟩
theorem Le.shift {v v':AV} (h:Le v v') (st:St):B4 [v] st [v'] st:=B4.one fun w c hS hr=>⟨hS,Z6.refl _ _,h _ _ _ hr⟩
end Go.Ab
