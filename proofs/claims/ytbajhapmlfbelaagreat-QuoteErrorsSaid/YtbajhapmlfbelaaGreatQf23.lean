/- Part 23 of the proof: contracts of the functions that the law reaches -/
import Derived.Test.YtbajhapmlfbelaaGreatQf22
import Derived.Shelf.SlicesE.Compact
set_option maxRecDepth 100000
set_option linter.unusedVariables false
set_option linter.unusedSimpArgs false
namespace Go.Proofs.YtbajhapmlfbelaaGreat
open Go Go.Ab
attribute [local irreducible] upd del
structure MkD where
 p:B4
 us:List B5
 bm:Nat
 bu:Nat
 br:Nat
 n:Nat
 q:Nat→Nat
def IsM (d:MkD) (len:Nat) (y:R9):Prop:=∃ f,y=⟨349,18,1,f⟩∧f 0=.agg (A1v d.p++[D1 d.us,.own 1 d.bu 0 len,.own 1 d.br 0 d.n])
def C0c (used:List Bool) (y:R9):Prop:=∃ g,y=⟨4,1,used.length,g⟩∧∀ k,k<used.length→g k=eB (used.getD k default)
def B2v (d:MkD) (y:R9):Prop:=∃ g,y=⟨216,1,d.n,g⟩∧∀ k,k<d.n→g k=.optr 1 (d.q k) 0 0
def MkR (d:MkD) (used:List Bool) (es:Nat→List QE):St→St→Prop:=V9 d.bm (IsM d used.length) (V9 d.bu (C0c used) (V9 d.br (B2v d) (Qs d.n d.q es)))
theorem B7k (d:MkD) (used:List Bool) (es:Nat→List QE):J8 (MkR d used es):=Z6 (Z6 (Z6 (A2w _ _ _)))
theorem MkR.facts {d:MkD} {used:List Bool} {es:Nat→List QE} {s t:St} (h:MkR d used es s t) :
  (∃ f,t d.bm=some ⟨349,18,1,f⟩∧f 0=.agg (A1v d.p++[D1 d.us,.own 1 d.bu 0 used.length,.own 1 d.br 0 d.n])) ∧
  (∃ g,t d.bu=some ⟨4,1,used.length,g⟩∧∀ k,k<used.length→g k=eB (used.getD k default)) ∧
  (∃ g,t d.br=some ⟨216,1,d.n,g⟩∧∀ k,k<d.n→g k=.optr 1 (d.q k) 0 0):=by
 have b1:=A2w d.n d.q es
 have b2:J8 (V9 d.br (B2v d) (Qs d.n d.q es)):=Z6 b1
 have b3:J8 (V9 d.bu (C0c used) (V9 d.br (B2v d) (Qs d.n d.q es))):=Z6 b2
 obtain ⟨y1,⟨f,rfl,hf⟩,h1⟩:=V9.at b3 h
 obtain ⟨_,_,_,h⟩:=h
 obtain ⟨y2,⟨g,rfl,hg⟩,h2⟩:=V9.at b2 h
 obtain ⟨_,_,_,h⟩:=h
 obtain ⟨y3,⟨k,rfl,hk⟩,h3⟩:=V9.at b1 h
 exact ⟨⟨f,h1,hf⟩,⟨g,h2,hg⟩,⟨k,h3,hk⟩⟩
theorem MkR.pop_S {d:MkD} {used:List Bool} {es:Nat→List QE} {s t:St} (h:MkR d used es s t) {k:Nat} (hk:k<d.n) {x:QE} {rest:List QE} (he:es k=x::rest) (htop:∀ y∈rest,H1 y x=false) :
  S P 149 [.optr 1 (d.q k) 0 0] t fun v t'=>v=.tuple [eI x.1,eI x.2,.bool true]∧MkR d used (Y4 es k rest) s t':=by
 obtain ⟨h1,y1,e1,h2,y2,e2,h3,y3,e3,hq⟩:=h
 exact (hq.pop_S hk he htop).mono fun v t' hv=>⟨hv.1,h1,y1,e1,h2,y2,e2,h3,y3,e3,hv.2⟩
theorem MkR.pop0_S {d:MkD} {used:List Bool} {es:Nat→List QE} {s t:St} (h:MkR d used es s t) {k:Nat} (hk:k<d.n) (he:es k=[]) :
  S P 149 [.optr 1 (d.q k) 0 0] t fun v t'=>v=.tuple [eI 0,eI 0,.bool false]∧t'=t:=by
 obtain ⟨h1,y1,e1,h2,y2,e2,h3,y3,e3,hq⟩:=h
 exact hq.pop0_S hk he
theorem MkR.use {d:MkD} {used:List Bool} {es:Nat→List QE} {s t:St} (h:MkR d used es s t) {i:Nat} (hi:i<used.length) {g:Nat→AV} (hb:t d.bu=some ⟨4,1,used.length,g⟩) (hg:∀ k,k<used.length→g k=eB (used.getD k default)) :
  MkR d (used.set i true) es s (upd t d.bu ⟨4,1,used.length,C9 g i (eB true)⟩):=by
 have b1:=A2w d.n d.q es
 have b2:J8 (V9 d.br (B2v d) (Qs d.n d.q es)):=Z6 b1
 unfold MkR at h ⊢
 rw [List.length_set]
 refine h.map fun s h=>V9.set b2 h ⟨C9 g i (eB true),by rw [List.length_set],fun k hk=>?_⟩
 rw [List.length_set] at hk
 by_cases e:k=i
 ·subst e;rw [A5];simp [hi]
 ·rw [H3 e,hg k hk]
  congr 1
  simp only [List.getD_eq_getElem?_getD]
  rw [List.getElem?_set_ne (fun e'=>e e'.symm)]
def N8 (used:List Bool):List QE→Option Int×List QE
 | []=>(none,[])
 | e::es=>if used.getD e.2.toNat default=true then N8 used es else (some e.2,es)
def D0V (used:List Bool):Option Int→List Bool
 | none=>used
 | some i=>used.set i.toNat true
def C8q:Option Int→AV
 | none=>.tuple [eI 0,eB false]
 | some i=>.tuple [eI i,eB true]
theorem B6d {α : Type} (f:Nat→α) (i:Nat) (u v : α):Y4 (Y4 f i u) i v=Y4 f i v:=by
 funext k;unfold Y4;split<;>rfl
theorem B8G {α : Type} (f:Nat→α) (i:Nat):Y4 f i (f i)=f:=by
 funext k;unfold Y4;split
 ·rename_i e;rw [e]
 ·rfl
theorem C6s (d:MkD) (used:List Bool) (es:Nat→List QE) (s t:St) (h:MkR d used es s t) (k:Nat) (hk:k<d.n) (hr:∀ e∈es k,0≤e.2∧e.2.toNat<used.length) (hs:(es k).Pairwise fun a b=>H1 b a=false) :
  S P 335 [.optr 18 d.bm 0 0,eI k] t fun v t'=>v=C8q (N8 used (es k)).1∧MkR d (D0V used (N8 used (es k)).1) (Y4 es k (N8 used (es k)).2) s t':=by
 refine G0 [] Tryz.func335 ?_
 refine ⟨[0,1],fun m vs t'=>∃ l:List QE,m=l.length∧vs=[.optr 18 d.bm 0 0,eI k]∧N8 used l=N8 used (es k)∧(∀ e∈l,0≤e.2∧e.2.toNat<used.length)∧(l.Pairwise fun a b=>H1 b a=false)∧MkR d used (Y4 es k l) s t',?_,?_⟩
 ·conv=>whnf
  exact ⟨_,es k,rfl,rfl,rfl,hr,hs,by rw [B8G];exact h⟩
 ·clear h hr hs
  rintro m vs t' ⟨l,rfl,rfl,hF,hr,hs,h⟩
  rw [←hF]
  obtain ⟨⟨fm,hm,hm0⟩,⟨fu,hu,huf⟩,⟨fr,hb,hbf⟩⟩:=h.facts
  conv=>whnf
  refine F2 hm hm0 ?_
  refine E1 ?_
  refine ldV hb rfl (by omega) (v:=.optr 1 (d.q k) 0 0) (by rw [show 0+(k:Int).toNat=k by omega];exact hbf k hk) ?_;conv=>whnf
  cases l with
  | nil =>
   refine I2 (h.pop0_S hk (H6 ..)) ?_
   exact ⟨rfl,h⟩
  | cons x l =>
   rw [List.pairwise_cons] at hs
   refine call (h.pop_S hk (H6 ..) hs.1) (fun v t2 hv=>?_)
   obtain ⟨rfl,h'⟩:=hv
   rw [B6d] at h'
   obtain ⟨⟨fm',hm',hm0'⟩,⟨fu',hu',huf'⟩,_⟩:=h'.facts
   have hx:=hr x (List.mem_cons_self ..)
   have hux:fu' (0+x.2.toNat)=eB (used.getD x.2.toNat default):=by rw [Nat.zero_add];exact huf' _ hx.2
   conv=>whnf
   refine F2 hm' hm0' ?_
   refine E1 ?_
   refine F2 hu' hux ?_
   cases hx1:used.getD x.2.toNat default with
   | true =>
    conv=>whnf
    refine G7 ?_
    refine ⟨l.length,Nat.lt_succ_self _,l,rfl,rfl,?_,fun e he=>hr e (List.mem_cons_of_mem _ he),hs.2,h'⟩
    show _=if used.getD x.2.toNat default=true then N8 used l else (some x.2,l)
    rw [hx1,if_pos rfl]
   | false =>
    have hT:N8 used (x::l)=(some x.2,l):=by
     show (if used.getD x.2.toNat default=true then N8 used l else (some x.2,l))=_
     rw [hx1,if_neg (by simp)]
    rw [hT];conv=>whnf
    refine F2 hm' hm0' ?_
    refine E1 ?_
    refine N1 hu' hux ?_
    refine ⟨rfl,?_⟩
    rw [Nat.zero_add]
    exact h'.use hx.2 hu' huf'
end Go.Proofs.YtbajhapmlfbelaaGreat
namespace Go.Proofs.YtbajhapmlfbelaaGreat
open Go Go.Ab Go.Proofs Go.Sort
attribute [local irreducible] upd del
def C8 (l:List Int):List Int:=l.mergeSort fun x y=>decide (x≤y)
theorem A0J (l:List Int):(C8 l).Perm l:=List.mergeSort_perm ..
theorem U8 (l:List Int):(C8 l).length=l.length:=(A0J l).length_eq
def B0S (l:List Int):R9:=⟨3,1,l.length,fun k=>eI (gI (C8 l) k)⟩
theorem C2w {st:St} {w:World} {b n:Nat} {l:List Int} {os:Array Obj} (hb:A0o st b l) (hS:I3 st w) :
  Evo st w (upd st b (B0S l)) (grow (putRow (Value.int .i64) (Sort.ahead w n) b 0 (C8 l).toArray) os)∧I3 (upd st b (B0S l)) (grow (putRow (Value.int .i64) (Sort.ahead w n) b 0 (C8 l).toArray) os):=by
 obtain ⟨f,hst,hf⟩:=hb
 obtain ⟨cs,hok⟩:=hS b _ hst
 have hbl:b<w.heap.size:=(Array.getElem?_eq_some_iff.1 hok.heap).1
 have hsz:l.length * 1≤cs.size:=hok.size
 have hheap:∀ c,c<w.heap.size→(grow (putRow (Value.int .i64) (Sort.ahead w n) b 0 (C8 l).toArray) os).heap[c]?=if b=c then some (.cells (putCells (Value.int .i64) 0 (C8 l).toArray cs) 3 (0,0)) else w.heap[c]?:=fun c hc=>by
  show ((w.heap.modify b (onCells (putCells (Value.int .i64) 0 (C8 l).toArray)))++os)[c]?=_
  rw [Array.getElem?_append_left (by simpa using hc),Array.getElem?_modify]
  split
  ·rename_i e;subst e;rw [hok.heap];rfl
  ·rfl
 have hev:Evo st w (upd st b (B0S l)) (grow (putRow (Value.int .i64) (Sort.ahead w n) b 0 (C8 l).toArray) os):=by
  refine ⟨rfl,rfl,rfl,?_,fun c hc hs=>?_,fun c=>?_⟩
  ·show w.heap.size≤((w.heap.modify b _)++os).size
   simp
  ·have hne:b≠c:=fun e=>by subst e;rw [hst] at hs;cases hs
   rw [hheap c hc,if_neg hne]
   exact ⟨rfl,by rw [A6 hne.symm];exact hs⟩
  ·by_cases hc:c<w.heap.size
   ·unfold A1E
    rw [hheap c hc]
    by_cases e:b=c
    ·subst e
     rw [hok.heap,if_pos rfl]
     simp [putCells]
    ·rw [if_neg e];exact Nat.le_refl _
   ·unfold A1E
    rw [Array.getElem?_eq_none (by omega)]
    exact Nat.zero_le _
 refine ⟨hev,fun c x hx=>?_⟩
 by_cases e:c=b
 ·subst e
  rw [A0] at hx
  cases hx
  refine ⟨putCells (Value.int .i64) 0 (C8 l).toArray cs,?_,?_,fun i hi=>rfl,fun i hi=>rfl,fun i j y hi hy=>?_⟩
  ·rw [hheap c hbl,if_pos rfl];rfl
  ·show l.length * 1≤_
   simpa [putCells] using hsz
  ·have hi':i<l.length:=hi
   cases j with
   | succ j=>simp [B0S,cellsOf] at hy
   | zero =>
    have hy':y=eI (gI (C8 l) i):=by simpa [B0S,cellsOf] using hy.symm
    subst hy'
    refine ⟨.int .i64 (gI (C8 l) i),?_,.int _ _⟩
    show (putCells (Value.int .i64) 0 (C8 l).toArray cs)[i * 1+0]?=_
    unfold putCells
    rw [Array.getElem?_mapIdx,Nat.mul_one,Nat.add_zero,Array.getElem?_eq_getElem (by omega),Option.map_some]
    rw [if_pos ⟨by omega,by simp [U8];omega⟩,Nat.sub_zero]
    have:(C8 l).toArray[i]! = gI (C8 l) i:=by
     have hl:=U8 l
     rw [getElem!_pos _ i (by simp [hl];omega)]
     simp [gI,show i<(C8 l).length by omega]
    rw [this]
 ·rw [A6 e] at hx
  obtain ⟨ds,hd⟩:=hS c x hx
  have hcl:c<w.heap.size:=(Array.getElem?_eq_some_iff.1 hd.heap).1
  exact ⟨ds,hd.evo hev (by rw [hheap c hcl,if_neg (fun e'=>e e'.symm)])⟩
theorem C6o (b:Nat) (l:List Int) (hl:l.length<4611686018427387904) (st:St) (hb:A0o st b l) :
  S P 100 [.own 1 b 0 l.length] st fun v st'=>v=.tuple []∧st'=upd st b (B0S l):=by
 refine ⟨B7U.f5.enters rfl,fun cargs w hr hS=>?_⟩
 obtain ⟨hlen,hr⟩:=hr
 have hb':=hb
 obtain ⟨f,hst,hf⟩:=hb'
 obtain ⟨cs,hok⟩:=hS b _ hst
 have h0:0<cargs.size:=by rw [←hlen];exact Nat.one_pos
 have ha:=hr 0 _ cargs[0] rfl (Array.getElem?_eq_getElem h0)
 have hc:∃ c,cargs=#[.slice (some ⟨b,0,none⟩) l.length c]:=by
  generalize hv:cargs[0]=v at ha
  cases ha with
  | own e b off n c hc hs =>
   refine ⟨c,Array.ext (by rw [←hlen];rfl) fun i h1 h2=>?_⟩
   have:i=0:=by simp at h2;exact h2
   subst this;rw [hv];rfl
 obtain ⟨c,rfl⟩:=hc
 have hH:Holds (Value.int .i64) w b 0 l.toArray:=fun j hj=>by
  have hj':j<l.length:=by simpa using hj
  obtain ⟨x,hx,hrep⟩:=hok.cell j 0 (eI (gI l j)) hj' (by show (cellsOf (f j))[0]?=_;rw [hf j hj'];rfl)
  have hxx:x=.int .i64 (gI l j):=by cases hrep;rfl
  subst hxx
  have hg:l.toArray[j]! = gI l j:=by rw [getElem!_pos _ j (by simpa using hj')];simp [gI,hj']
  refine ⟨?_,?_⟩
  ·unfold World.cell?
   rw [hok.heap,hg]
   have:cs[j * 1+0]?=some (.int .i64 (gI l j)):=hx
   simpa using this
  ·unfold World.frozen?
   rw [hok.heap]
   simp
 have hbl:b<w.heap.size:=(Array.getElem?_eq_some_iff.1 hok.heap).1
 refine (AnyM.slices_Sort_int B7U b 0 c l w hH hbl hl).mono ?_
 rintro e w' ⟨rfl,n,os,rfl⟩
 obtain ⟨h1,h2⟩:=C2w (n:=n) (os:=os) hb hS
 exact ⟨.tuple [],.tuple #[],_,⟨rfl,rfl⟩,rfl,.tuple [] #[] rfl (fun j y c hy=>by simp at hy),h2,h1⟩
theorem C4x (st:St):S P 100 [.emp] st fun v st'=>v=.tuple []∧st'=st:=by
 refine ⟨B7U.f5.enters rfl,fun cargs w hr hS=>?_⟩
 obtain ⟨hlen,hr⟩:=hr
 have h0:0<cargs.size:=by rw [←hlen];exact Nat.one_pos
 have ha:=hr 0 _ cargs[0] rfl (Array.getElem?_eq_getElem h0)
 have hc:∃ A,cargs=#[.slice A 0 0]:=by
  generalize hv:cargs[0]=v at ha
  cases ha with
  | emp A =>
   refine ⟨A,Array.ext (by rw [←hlen];rfl) fun i h1 h2=>?_⟩
   have:i=0:=by simp at h2;exact h2
   subst this;rw [hv];rfl
 obtain ⟨A,rfl⟩:=hc
 refine (AnyM.slices_Sort_int_none B7U A 0 w).mono ?_
 rintro e w' ⟨rfl,rfl⟩
 exact ⟨.tuple [],.tuple #[],_,⟨rfl,rfl⟩,rfl,.tuple [] #[] rfl (fun j y c hy=>by simp at hy),hS,Evo.refl _ _⟩
theorem B2p {R:St→St→Prop} (hR:J8 R) {l:List Int} {s t:St} {sv:AV} (hl:l.length<4611686018427387904) (h:ROut R 3 1 (fun k=>eI (gI l k)) l.length s sv t) :
  S P 100 [sv] t fun v t'=>v=.tuple []∧ROut R 3 1 (fun k=>eI (gI (C8 l) k)) l.length s sv t':=by
 obtain ⟨s0,hc,h⟩:=h
 rcases hc with ⟨h0,rfl,rfl⟩ | ⟨h0,bo,g,h1,rfl,rfl,h3⟩
 ·exact (C4x t).mono fun v t' hv=>⟨hv.1,by rw [h0];exact ⟨s0,N3.start _ _ _ _,by rw [hv.2];exact h⟩⟩
 ·have hby:=hR.sup h bo _ (A0 ..)
  refine (C6o bo l hl t ⟨g,hby,h3⟩).mono fun v t' hv=>⟨hv.1,_,.inr ⟨h0,bo,fun k=>eI (gI (C8 l) k),h1,rfl,rfl,fun k hk=>rfl⟩,?_⟩
  rw [hv.2]
  have:=hR.write (y':=B0S l) h (A0 ..)
  rw [B7] at this;exact this
end Go.Proofs.YtbajhapmlfbelaaGreat
namespace Go.Proofs.YtbajhapmlfbelaaGreat
open Go Go.Ab
attribute [local irreducible] upd del
structure MSt where
 used:List Bool
 es:Nat→List QE
 l:List Int
def A0v (k:Nat) (s:MSt):Option MSt:=match (N8 s.used (s.es k)).1 with
 | none=>none
 | some i=>some ⟨s.used.set i.toNat true,Y4 s.es k (N8 s.used (s.es k)).2,s.l++[i]⟩
def R5 (k:Nat):Nat→MSt→Option MSt
 | 0,s=>some s
 | c+1,s=>(R5 k c s).bind (A0v k)
def K8 (parts:List S3):Nat→MSt→Option MSt
 | 0,s=>some s
 | k+1,s=>(K8 parts k s).bind (R5 k (parts.getD k default).count.toNat)
theorem A5B {k:Nat} {s:MSt}:∀ {c j:Nat},R5 k j s=none→j≤c→R5 k c s=none
 | 0,j,h,hj=>by
  have:j=0:=by omega
  subst this;exact h
 | c+1,j,h,hj=>by
  rcases Nat.lt_or_ge c j with h1 | h1
  ·have:j=c+1:=by omega
   subst this;exact h
  ·unfold R5;rw [A5B h h1];rfl
theorem A5k {parts:List S3} {s:MSt}:∀ {c j:Nat},K8 parts j s=none→j≤c→K8 parts c s=none
 | 0,j,h,hj=>by
  have:j=0:=by omega
  subst this;exact h
 | c+1,j,h,hj=>by
  rcases Nat.lt_or_ge c j with h1 | h1
  ·have:j=c+1:=by omega
   subst this;exact h
  ·unfold K8;rw [A5k h h1];rfl
structure MOk (us:List B5) (n:Nat) (s:MSt):Prop where
 len:s.used.length=us.length
 rng:∀ k,k<n→∀ e∈s.es k,0≤e.2∧e.2.toNat<us.length
 srt:∀ k,k<n→(s.es k).Pairwise fun a b=>H1 b a=false
 mem:∀ x∈s.l,0≤x∧x.toNat<us.length
theorem A2J (used:List Bool) (l:List QE):(∃ pre,l=pre++(match (N8 used l).1 with | none=>[] | some i=>(match l.find? (fun e=>!used.getD e.2.toNat default) with | none=>[] | some e=>[e]))++(N8 used l).2) ∧
  (∀ i,(N8 used l).1=some i→∃ e∈l,e.2=i∧used.getD i.toNat default=false)∧((N8 used l).2.Sublist l)∧((N8 used l).1≠none→(N8 used l).2.length<l.length):=by
 induction l with
 | nil=>exact ⟨⟨[],rfl⟩,(fun i h=>by cases h),List.Sublist.refl _,fun h=>absurd rfl h⟩
 | cons e l ih =>
  obtain ⟨⟨pre,h1⟩,h2,h3,h4⟩:=ih
  by_cases hu:used.getD e.2.toNat default=true
  ·have ht:N8 used (e::l)=N8 used l:=by
    show (if used.getD e.2.toNat default=true then N8 used l else (some e.2,l))=_
    rw [if_pos hu]
   rw [ht]
   refine ⟨⟨e::pre,?_⟩,fun i hi=>?_,h3.cons _,fun h=>by have:=h4 h;simp;omega⟩
   ·rw [List.find?_cons_of_neg (by rw [hu];simp)]
    rw [List.cons_append,List.cons_append,←h1]
   ·obtain ⟨x,hx,hx2⟩:=h2 i hi
    exact ⟨x,List.mem_cons_of_mem _ hx,hx2⟩
  ·have ht:N8 used (e::l)=(some e.2,l):=by
    show (if used.getD e.2.toNat default=true then N8 used l else (some e.2,l))=_
    rw [if_neg hu]
   rw [ht]
   refine ⟨⟨[],?_⟩,fun i hi=>?_,List.sublist_cons_self _ _,fun _=>by simp⟩
   ·rw [List.find?_cons_of_pos (by rw [Bool.eq_false_iff.2 hu];rfl)];rfl
   ·have:e.2=i:=by simpa using hi
    exact ⟨e,List.mem_cons_self ..,this,by rw [←this];exact Bool.eq_false_iff.2 hu⟩
theorem MOk.take {us:List B5} {n:Nat} {s s':MSt} (h:MOk us n s) {k:Nat} (hk:k<n) (ht:A0v k s=some s'):MOk us n s':=by
 obtain ⟨_,t2,t3,_⟩:=A2J s.used (s.es k)
 unfold A0v at ht
 split at ht
 ·cases ht
 ·rename_i i hi
  cases ht
  obtain ⟨e,he,rfl,hu⟩:=t2 i hi
  have hr:=h.rng k hk e he
  refine ⟨by rw [List.length_set];exact h.len,fun j hj x hx=>?_,fun j hj=>?_,fun x hx=>?_⟩
  ·by_cases ej:j=k
   ·subst ej;rw [show (MSt.es _ j)=_ from rfl] at hx;simp only [H6] at hx;exact h.rng j hj x (t3.subset hx)
   ·simp only [L9 ej] at hx;exact h.rng j hj x hx
  ·by_cases ej:j=k
   ·subst ej;simp only [H6];exact (h.srt j hj).sublist t3
   ·simp only [L9 ej];exact h.srt j hj
  ·rcases List.mem_append.1 hx with hx | hx
   ·exact h.mem x hx
   ·rw [List.mem_singleton] at hx;rw [hx];exact hr
theorem B9J {k:Nat} {s s':MSt} (ht:A0v k s=some s'):s'.l.length=s.l.length+1:=by
 unfold A0v at ht
 split at ht
 ·cases ht
 ·cases ht;simp
theorem A1F {k:Nat} {s:MSt}:∀ {c:Nat} {s':MSt},R5 k c s=some s'→s'.l.length=s.l.length+c
 | 0,s',h=>by cases h;rfl
 | c+1,s',h=>by
  unfold R5 at h
  obtain ⟨s1,h1,h2⟩:=Option.bind_eq_some_iff.1 h
  rw [B9J h2,A1F h1];omega
theorem MOk.takes {us:List B5} {n:Nat} {s:MSt} (h:MOk us n s) {k:Nat} (hk:k<n):∀ {c:Nat} {s':MSt},R5 k c s=some s'→MOk us n s'
 | 0,s',e=>by cases e;exact h
 | c+1,s',e=>by
  unfold R5 at e
  obtain ⟨s1,h1,h2⟩:=Option.bind_eq_some_iff.1 e
  exact (h.takes hk h1).take hk h2
structure A3q (p:B4):Prop where
 n1:1≤p.parts.length
 n8:p.parts.length≤8
 cnt:∀ x∈p.parts,1≤x.count∧x.count≤100
 amt:0≤p.amount∧p.amount≤10000000000000
theorem A3q.at {p:B4} (h:A3q p) {k:Nat} (hk:k<p.parts.length):1≤(p.parts.getD k default).count∧(p.parts.getD k default).count≤100:=h.cnt _ (B3 hk)
theorem MOk.parts {us:List B5} {p:B4} {s:MSt} (h:MOk us p.parts.length s):∀ {k:Nat} {s':MSt},k≤p.parts.length→K8 p.parts k s=some s'→MOk us p.parts.length s'
 | 0,s',_,e=>by cases e;exact h
 | k+1,s',hk,e=>by
  unfold K8 at e
  obtain ⟨s1,h1,h2⟩:=Option.bind_eq_some_iff.1 e
  exact (MOk.parts h (by omega) h1).takes (by omega) h2
theorem A1A {p:B4} (hp:A3q p) {s:MSt}:∀ {k:Nat} {s':MSt},k≤p.parts.length→K8 p.parts k s=some s'→s'.l.length≤s.l.length+100 * k
 | 0,s',_,e=>by cases e;omega
 | k+1,s',hk,e=>by
  unfold K8 at e
  obtain ⟨s1,h1,h2⟩:=Option.bind_eq_some_iff.1 e
  have:=A1A hp (by omega) h1
  have:=A1F h2
  have:=hp.at (show k<p.parts.length by omega)
  omega
def I0 (us:List B5) (l:List Int):Int:=A7 (l.map fun i=>(gU us i.toNat).net)
theorem B1Q (us:List B5) (l:List Int) (i:Int):I0 us (l++[i])=I0 us l+(gU us i.toNat).net:=by
 unfold I0;rw [List.map_append,G6];simp [A7]
theorem A0M {us:List B5} (hu:E8 us) (l:List Int) (hl:∀ x∈l,0≤x∧x.toNat<us.length):0≤I0 us l∧I0 us l≤10000000000000 * l.length:=by
 unfold I0
 have c1:∀ (y:Int) (r:List Int),A7 (y::r)=y+A7 r:=fun y r=>by
  have:=G6 [y] r
  rw [List.singleton_append] at this
  rw [this];simp [A7]
 induction l with
 | nil=>exact ⟨Int.le_refl _,by simp [A7]⟩
 | cons x l ih =>
  have h1:=ih (fun y hy=>hl y (List.mem_cons_of_mem _ hy))
  have h2:=hl x (List.mem_cons_self ..)
  have h3:0≤(gU us x.toNat).net:=hu.pos _ (B3 h2.2)
  have h4:(gU us x.toNat).net≤10000000000000:=hu.le (B3 h2.2)
  rw [List.map_cons,c1,List.length_cons]
  omega
theorem C5R (d:MkD) (hn:d.n=d.p.parts.length) (hp:A3q d.p) (hu:E8 d.us) (ms:MSt) (hl0:ms.l=[]) (hm:MOk d.us d.n ms) (s t:St) (h:MkR d ms.used ms.es s t) :
  S P 296 [.optr 18 d.bm 0 0] t fun v t'=>match K8 d.p.parts d.n ms with
   | none=>v=.tuple [.emp,eI 0,eB false]∧D8 s t'
   | some ms'=>v=.tuple [A8 (C8 ms'.l),eI (I0 d.us ms'.l - d.p.amount),eB (decide (I0 d.us ms'.l>d.p.amount))]∧MkR d ms'.used ms'.es s t':=by
 have hB:=fun (u:List Bool) (es:Nat→List QE)=>B7k d u es
 refine S.post (post:=fun v t'=>match K8 d.p.parts d.n ms with
   | none=>v=.tuple [.emp,eI 0,eB false]∧D8 s t'
   | some ms'=>∃ sv,v=.tuple [sv,eI (I0 d.us ms'.l - d.p.amount),eB (decide (I0 d.us ms'.l>d.p.amount))]∧ROut (MkR d ms'.used ms'.es) 3 1 (fun k=>eI (gI (C8 ms'.l) k)) ms'.l.length s sv t') ?_
  (fun v t' hv=>by
   cases hF:K8 d.p.parts d.n ms with
   | none=>rw [hF] at hv;exact ⟨v,t',hv,B0.refl _ _⟩
   | some ms' =>
    rw [hF] at hv
    obtain ⟨sv,rfl,hout⟩:=hv
    obtain ⟨t'',h1,h2⟩:=hout.shift (hB _ _)
    refine ⟨_,t'',⟨rfl,h2⟩,B0.tuple (B0.cons (h1.trans ?_) (B0.keep _ _)) rfl⟩
    have e:A8 (C8 ms'.l)=.arr 1 ms'.l.length (fun k=>eI (gI (C8 ms'.l) k)):=by unfold A8 B1;rw [U8]
    rw [e];exact B0.keep _ _)
 have hp8:=hp.n8
 refine SyW [8] Tryz.func296 ?_
 obtain ⟨⟨fm,hmb,hm0⟩,_,_⟩:=h.facts
 conv=>whnf
 refine F2 hmb hm0 ?_
 refine ⟨[0,5,6,15,16,17],fun m vs t'=>∃ (k:Nat) (ms':MSt) (sv:AV),k≤d.n∧m=d.n - k∧vs=[.optr 18 d.bm 0 0,sv,eI (I0 d.us ms'.l),B1 3 T2 d.p.parts,eI d.p.parts.length,eI k]∧K8 d.p.parts k ms=some ms'∧ROut (MkR d ms'.used ms'.es) 3 1 (fun j=>eI (gI ms'.l j)) ms'.l.length s sv t',?_,?_⟩
 ·conv=>whnf
  refine ⟨_,0,ms,.emp,Nat.zero_le _,rfl,?_,rfl,?_⟩
  ·rw [hl0];rfl
  ·rw [hl0];exact ROut.start h _ _ _
 ·clear h hmb hm0
  rintro m vs t' ⟨k,ms1,sv,hk,rfl,rfl,hF,hout⟩
  have hok:=MOk.parts (hn▸hm) (hn▸hk) hF
  have hlen:=A1A hp (hn▸hk) hF
  rw [hl0,List.length_nil] at hlen
  have hcb:=A0M hu ms1.l hok.mem
  conv=>whnf
  cases h2:decide ((k:Int)<(d.p.parts.length:Int))
  ·have:=of_decide_eq_false h2
   obtain rfl:k=d.n:=by omega
   rw [hF];conv=>whnf
   refine call (B2p (hB _ _) (by omega) hout) (fun v t2 hv=>?_)
   obtain ⟨rfl,hout2⟩:=hv
   obtain ⟨⟨fm,hmb,hm0⟩,_,_⟩:=(hout2.dropped (hB _ _)).facts
   conv=>whnf
   refine ⟨[],[],[0,1,2,3,4,5,6,7,8,9,10,11,12,13,14,15,16,17],by kernel_rfl,?_⟩;conv=>whnf
   refine F2 hmb hm0 ?_
   refine F2 hmb hm0 ?_
   have ha:=hp.amt
   have w:IntKind.i64.wrap (I0 d.us ms1.l - d.p.amount)=I0 d.us ms1.l - d.p.amount:=A9 (by omega) (by omega)
   exact ⟨_,by rw [w];rfl,hout2⟩
  ·have hk':k<d.p.parts.length:=by have:=of_decide_eq_true h2;omega
   have hcnt:=hp.at hk'
   conv=>whnf
   refine E1 ?_
   refine ⟨[0,5,6,7,15,16,17,23,24],fun m vs t'=>∃ (j:Nat) (ms':MSt) (sv:AV),(j:Int)≤(d.p.parts.getD k default).count∧m=(d.p.parts.getD k default).count.toNat - j∧vs=[.optr 18 d.bm 0 0,sv,eI (I0 d.us ms'.l),eI k,B1 3 T2 d.p.parts,eI d.p.parts.length,eI k,eI (d.p.parts.getD k default).count,eI j]∧R5 k j ms1=some ms'∧ROut (MkR d ms'.used ms'.es) 3 1 (fun j=>eI (gI ms'.l j)) ms'.l.length s sv t',?_,?_⟩
   ·conv=>whnf
    exact ⟨_,0,ms1,sv,by omega,rfl,rfl,rfl,hout⟩
   ·clear hout
    rintro m vs t' ⟨j,ms2,sv,hj,rfl,rfl,hF2,hout⟩
    have hok2:=hok.takes hk' hF2
    have hlen2:=A1F hF2
    have hcb2:=A0M hu ms2.l hok2.mem
    conv=>whnf
    cases h3:decide ((j:Int)<(d.p.parts.getD k default).count)
    ·have:=of_decide_eq_false h3
     have ej:j=(d.p.parts.getD k default).count.toNat:=by omega
     conv=>whnf
     refine G7 ?_
     refine ⟨d.n - (k+1),by omega,k+1,ms2,sv,by omega,rfl,by rw [B8 (by omega)],?_,hout⟩
     unfold K8;rw [hF,←ej];exact hF2
    ·have hj':(j:Int)<(d.p.parts.getD k default).count:=of_decide_eq_true h3
     obtain ⟨s0,hcol,hMk⟩:=hout
     conv=>whnf
     refine call (C6s d ms2.used ms2.es s0 t' hMk k (by omega) (fun e he=>by rw [hok2.len];exact hok2.rng k hk' e he) (hok2.srt k hk')) (fun v t2 hv=>?_)
     obtain ⟨rfl,hMk2⟩:=hv
     have hT:R5 k (j+1) ms1=A0v k ms2:=by
      show (R5 k j ms1).bind (A0v k)=_
      rw [hF2];rfl
     have hmem:=(A2J ms2.used (ms2.es k)).2.1
     cases hR:(N8 ms2.used (ms2.es k)).1 with
     | none =>
      have h4:A0v k ms2=none:=by unfold A0v;rw [hR]
      rw [h4] at hT
      have h5:=A5B (c:=(d.p.parts.getD k default).count.toNat) hT (by omega)
      have h6:K8 d.p.parts (k+1) ms=none:=by unfold K8;rw [hF];exact h5
      have h7:=A5k (c:=d.n) h6 (by omega)
      rw [h7];conv=>whnf
      exact ⟨rfl,hcol.sup.trans ((hB _ _).sup hMk2)⟩
     | some i =>
      have h4:A0v k ms2=some ⟨ms2.used.set i.toNat true,Y4 ms2.es k (N8 ms2.used (ms2.es k)).2,ms2.l++[i]⟩:=by unfold A0v;rw [hR]
      rw [hR] at hMk2
      obtain ⟨e,he,rfl,_⟩:=hmem i hR
      have hx:=hok2.rng k hk' e he
      have hn0:0≤(gU d.us e.2.toNat).net:=hu.pos _ (B3 hx.2)
      have hn1:(gU d.us e.2.toNat).net≤10000000000000:=hu.le (B3 hx.2)
      conv=>whnf
      refine ROut.app (q:=r3) (hB _ _) rfl rfl rfl rfl rfl (f:=fun j=>eI (gI (ms2.l++[e.2]) j)) (by simp only [A7k];rfl) (by show (ms2.l.length+1) * 8≤140737488355328;omega) ⟨s0,N3.congr hcol fun j hj=>by rw [M9 hj],hMk2⟩ (fun sv' t3 hout3=>?_)
      obtain ⟨⟨fm,hmb,hm0⟩,_,_⟩:=(hout3.dropped (hB _ _)).facts
      conv=>whnf
      refine F2 hmb hm0 ?_
      refine ⟨rfl,⟨by show 0≤e.2;omega,by show e.2<(d.us.length:Int);omega⟩,?_⟩;conv=>whnf
      refine G7 ?_
      have w:IntKind.i64.wrap (I0 d.us ms2.l+(gU d.us e.2.toNat).net)=I0 d.us (ms2.l++[e.2]):=by rw [B1Q];exact A9 (by omega) (by omega)
      refine ⟨(d.p.parts.getD k default).count.toNat - (j+1),by omega,j+1,⟨ms2.used.set e.2.toNat true,Y4 ms2.es k (N8 ms2.used (ms2.es k)).2,ms2.l++[e.2]⟩,sv',by omega,rfl,?_,by rw [hT];exact h4,?_⟩
      ·rw [B8 (by omega),←w]
      ·rw [List.length_append];exact hout3
theorem K5 (y:Int) (r:List Int):A7 (y::r)=y+A7 r:=by
 have:=G6 [y] r
 rw [List.singleton_append] at this
 rw [this];simp [A7]
theorem A6d {a b:List Int} (h:a.Perm b):A7 a=A7 b:=by
 induction h with
 | nil=>rfl
 | cons x _ ih=>rw [K5,K5,ih]
 | swap x y l=>rw [K5,K5,K5,K5];omega
 | trans _ _ ih1 ih2=>exact ih1.trans ih2
theorem B7X {l:List Int} {B:Int} (h:∀ x∈l,x≤B):A7 l≤l.length * B:=by
 induction l with
 | nil=>simp [A7]
 | cons x l ih =>
  have h1:=ih (fun y hy=>h y (List.mem_cons_of_mem _ hy))
  have h2:=h x (List.mem_cons_self ..)
  rw [K5,List.length_cons]
  have:((l.length+1:Nat):Int) * B=l.length * B+B:=by
   rw [show ((l.length+1:Nat):Int)=(l.length:Int)+1 by omega,Int.add_mul,Int.one_mul]
  omega
theorem B8o {qs:List Int} {R:List QE} (hl:∀ e∈R,e.2.toNat<qs.length) (hd:(R.map fun e=>e.2.toNat).Nodup) (k:Nat):gI (R3 qs R) k=gI qs k+if k∈R.map (fun e=>e.2.toNat) then 1 else 0:=by
 unfold R3
 induction R generalizing qs with
 | nil=>simp
 | cons e R ih =>
  rw [List.map_cons,List.nodup_cons] at hd
  have he:=hl e (List.mem_cons_self ..)
  simp only [List.foldl_cons]
  rw [ih (fun x hx=>by rw [List.length_set];exact hl x (List.mem_cons_of_mem _ hx)) hd.2]
  have hs:gI (qs.set e.2.toNat (gI qs e.2.toNat+1)) k=if k=e.2.toNat then gI qs k+1 else gI qs k:=by
   unfold gI
   simp only [List.getD_eq_getElem?_getD,List.getElem?_set]
   by_cases h:k=e.2.toNat
   ·subst h;simp [he]
   ·rw [if_neg (fun e'=>h e'.symm),if_neg h]
  rw [hs,List.map_cons]
  by_cases h:k=e.2.toNat
  ·subst h
   rw [if_pos rfl,if_neg hd.1,if_pos (List.mem_cons_self ..)];omega
  ·rw [if_neg h]
   by_cases h2:k∈R.map (fun e=>e.2.toNat)
   ·rw [if_pos h2,if_pos (List.mem_cons_of_mem _ h2)]
   ·rw [if_neg h2,if_neg (fun h3=>by
     rcases List.mem_cons.1 h3 with h4 | h4
     ·exact h h4
     ·exact h2 h4)]
theorem C4E {total:Int} {ws:List Int} (h:Q0 total ws) (hS:0<A7 ws) {i:Nat} (hi:(i:Int)<G9 total (A7 ws) ws ws.length):0<((shR total (A7 ws) ws).getD i default).1:=by
 have hlr:=A2A h hS
 have hlen:=A6a total (A7 ws) ws
 have hil:i<(shR total (A7 ws) ws).length:=by omega
 refine Int.lt_of_not_ge fun hneg=>?_
 have hsum:A7 ((shR total (A7 ws) ws).map (·.1))=A7 ws * G9 total (A7 ws) ws ws.length:=by
  have hp:=(A1N total (A7 ws) ws).map (·.1)
  rw [A6d hp,List.map_map]
  have e:=A9p total (A7 ws) hS ws ws.length (Nat.le_refl _)
  rw [List.take_length] at e
  unfold G9
  rw [Int.mul_sub,Int.mul_comm (A7 ws) total]
  have:(List.range ws.length).map ((fun e:QE=>e.1) ∘ shE total (A7 ws) ws)=(List.range ws.length).map fun k=>total * gI ws k % A7 ws:=rfl
  rw [this];omega
 have hsorted:=A6L total (A7 ws) ws
 have hrest:∀ e∈shR total (A7 ws) ws,0≤e.1∧e.1≤A7 ws - 1:=fun e he=>by
  obtain ⟨k,hk,rfl⟩:=List.mem_map.1 ((A1N total (A7 ws) ws).subset he)
  have h1:=Int.emod_nonneg (total * gI ws k) (show A7 ws≠0 by omega)
  have h2:=Int.emod_lt_of_pos (total * gI ws k) hS
  show 0≤total * gI ws k % A7 ws∧total * gI ws k % A7 ws≤A7 ws - 1
  omega
 generalize hR:shR total (A7 ws) ws=R at *
 have hsplit:R=R.take i++R.drop i:=(List.take_append_drop i R).symm
 have hcons:R.drop i=R.getD i default::R.drop (i+1):=by
  rw [List.getD_eq_getElem?_getD,List.getElem?_eq_getElem hil]
  exact List.drop_eq_getElem_cons hil
 have hdrop:A7 ((R.drop i).map (·.1))≤0:=by
  have:∀ x∈(R.drop i).map (·.1),x≤0:=fun x hx=>by
   obtain ⟨e,he,rfl⟩:=List.mem_map.1 hx
   rw [hcons] at he
   rcases List.mem_cons.1 he with rfl | he
   ·exact hneg
   ·have hs:=hsorted.sublist (List.drop_sublist i R)
    rw [hcons,List.pairwise_cons] at hs
    have:=(Q7 _ _).1 (hs.1 e he)
    omega
  have:=B7X this
  omega
 have htake:A7 ((R.take i).map (·.1))≤i * (A7 ws - 1):=by
  have h1:=B7X (l:=(R.take i).map (·.1)) (B:=A7 ws - 1) (fun x hx=>by
   obtain ⟨e,he,rfl⟩:=List.mem_map.1 hx
   exact (hrest e (List.take_subset _ _ he)).2)
  rw [List.length_map,List.length_take,Nat.min_eq_left (by omega)] at h1
  exact h1
 have hall:A7 (R.map (·.1))=A7 ((R.take i).map (·.1))+A7 ((R.drop i).map (·.1)):=by
  conv=>lhs;rw [hsplit]
  rw [List.map_append,G6]
 have h2:A7 ws * ((i:Int)+1)≤A7 ws * G9 total (A7 ws) ws ws.length:=Int.mul_le_mul_of_nonneg_left (by omega) (by omega)
 rw [Int.mul_add,Int.mul_one] at h2
 have h3:(i:Int) * (A7 ws - 1)=A7 ws * i - i:=by rw [Int.mul_sub,Int.mul_one,Int.mul_comm]
 omega
theorem A2z {total:Int} {ws:List Int} (h:Q0 total ws) (ht:total≤A7 ws) {k:Nat} (hk:k<ws.length):gI (D7 total ws) k≤gI ws k:=by
 have hw:=h.w0 _ (B3 hk)
 unfold D7
 split
 ·rename_i h0
  have:gI (ws.map fun _=>(0:Int)) k=0:=E6 (fun _:Int=>(0:Int)) ws hk
  rw [this];exact hw
 ·rename_i h0
  have hS:0<A7 ws:=by have:=C4 h.w0;omega
  have hmem:∀ e∈(shR total (A7 ws) ws).take (G9 total (A7 ws) ws ws.length).toNat,e.2.toNat<((List.range ws.length).map (shQ total (A7 ws) ws)).length:=fun e he=>by
   rw [List.length_map,List.length_range];exact (A9t (List.take_subset _ _ he)).2
  have hnd:(((shR total (A7 ws) ws).take (G9 total (A7 ws) ws ws.length).toNat).map fun e=>e.2.toNat).Nodup:=by
   have h1:((shR total (A7 ws) ws).map fun e=>e.2.toNat).Nodup:=by
    have hp:=(A1N total (A7 ws) ws).map fun e=>e.2.toNat
    refine hp.nodup_iff.2 ?_
    rw [List.map_map]
    have:(List.range ws.length).map ((fun e:QE=>e.2.toNat) ∘ shE total (A7 ws) ws)=(List.range ws.length).map id:=by
     refine List.map_congr_left fun k _=>?_
     show (k:Int).toNat=k
     omega
    rw [this,List.map_id]
    exact List.nodup_range
   exact h1.sublist ((List.take_sublist _ _).map _)
  rw [B8o hmem hnd,L5 _ hk]
  have e1:=Int.mul_ediv_add_emod (total * gI ws k) (A7 ws)
  have e2:=Int.emod_nonneg (total * gI ws k) (show A7 ws≠0 by omega)
  have e3:total * gI ws k≤A7 ws * gI ws k:=Int.mul_le_mul_of_nonneg_right ht hw
  have e4:shQ total (A7 ws) ws k=total * gI ws k / A7 ws:=rfl
  split
  ·rename_i hin
   obtain ⟨e,he,hek⟩:=List.mem_map.1 hin
   obtain ⟨i,hi,rfl⟩:=E3 he
   rw [List.length_take] at hi
   have hle:=A2A h hS
   have hpos:=C4E h hS (i:=i) (by omega)
   have hti:((shR total (A7 ws) ws).take (G9 total (A7 ws) ws ws.length).toNat).getD i default=(shR total (A7 ws) ws).getD i default:=by
    rw [List.getD_eq_getElem?_getD,List.getD_eq_getElem?_getD,List.getElem?_take_of_lt (by omega)]
   rw [hti] at hek
   have hm2:(shR total (A7 ws) ws).getD i default∈shR total (A7 ws) ws:=B3 (by omega)
   obtain ⟨j,hj,hje⟩:=List.mem_map.1 ((A1N total (A7 ws) ws).subset hm2)
   have hjk:j=k:=by rw [←hek,←hje];show j=(j:Int).toNat;omega
   subst hjk
   rw [←hje] at hpos
   have hpos':0<total * gI ws j % A7 ws:=hpos
   have h5:A7 ws * (total * gI ws j / A7 ws)<A7 ws * gI ws j:=by omega
   have h6:total * gI ws j / A7 ws<gI ws j:=Int.lt_of_mul_lt_mul_left h5 (by omega)
   omega
  ·have h5:A7 ws * (total * gI ws k / A7 ws)≤A7 ws * gI ws k:=by omega
   have h6:total * gI ws k / A7 ws≤gI ws k:=Int.le_of_mul_le_mul_left h5 hS
   omega
structure X3 (us:List B5) (l:List Int):Prop where
 rng:∀ k,k<l.length→0≤gI l k∧(gI l k).toNat<us.length
 ne:∀ i k,i<k→k<l.length→(gI l i).toNat≠(gI l k).toNat
theorem N0.places {us:List B5} {mine:List Int} (h:N0 us mine):X3 us mine :=
 ⟨h.rng,fun i k hik hk=>by
  have h1:=h.lt i k hik hk
  have h2:=(h.rng i (by omega)).1
  omega⟩
theorem A4v {us:List B5} {mine offs:List Int} (hm:X3 us mine):∀ k,k≤mine.length→∀ j,j<us.length→(∀ i,i<k→j≠(gI mine i).toNat)→gU (D5 us mine offs k) j=gU us j
 | 0,_,j,hj,_=>rfl
 | k+1,hk,j,hj,hne=>by
  have ih:=A4v (offs:=offs) hm k (by omega) j hj (fun i hi=>hne i (by omega))
  unfold D5 less1
  rw [A4Z (by rw [P0];exact (hm.rng k (by omega)).2),if_neg (hne k (by omega))]
  exact ih
theorem A3c {us:List B5} {mine offs:List Int} (hm:X3 us mine) {k:Nat} (hk:k<mine.length):gU (D5 us mine offs k) (gI mine k).toNat=gU us (gI mine k).toNat :=
 A4v hm k (by omega) _ (hm.rng k hk).2 fun i hi=>fun e=>hm.ne i k hi hk e.symm
theorem A1P {us:List B5} (hu:E8 us) {mine offs:List Int} (hm:X3 us mine) (hlen:offs.length≤mine.length) (h:∀ k,k<offs.length→0≤gI offs k∧gI offs k≤(gU us (gI mine k).toNat).net):∀ k,k≤offs.length→Off us (D5 us mine offs k) (A7 (offs.take k))
 | 0,_=>Off.refl hu
 | k+1,hk=>by
  have ih:=A1P hu hm hlen h k (by omega)
  have hr:=hm.rng k (by omega)
  have hx:=h k (by omega)
  rw [L6 (by omega)]
  refine ih.trans (Off.less1 (ih.ok hu) (by rw [P0];exact hr.2) hx.1 ?_)
  rw [A3c hm (by omega)];exact hx.2
def I7 (us:List B5) (l:List Int):List Int:=l.map fun i=>(gU us i.toNat).net
def A2B (us:List B5) (l:List Int) (amount:Int):List B5:=D5 us l (D7 amount (I7 us l)) l.length
theorem B8N {us:List B5} (hu:E8 us) {l:List Int} (hm:X3 us l) {amount:Int} (hW:Q0 amount (I7 us l)) (ha:amount≤A7 (I7 us l)):Off us (A2B us l amount) amount:=by
 obtain ⟨a,b,c⟩:=R6 hW
 have hl:(I7 us l).length=l.length:=by unfold I7;rw [List.length_map]
 have:=A1P hu hm (offs:=D7 amount (I7 us l)) (by omega) (fun k hk=>⟨c _ (B3 hk),by
  have h1:=A2z hW ha (k:=k) (by omega)
  have h2:gI (I7 us l) k=(gU us (gI l k).toNat).net:=E6 (fun i:Int=>(gU us i.toNat).net) l (by omega)
  rw [h2] at h1;exact h1⟩) (D7 amount (I7 us l)).length (Nat.le_refl _)
 rw [List.take_length,a] at this
 unfold A2B
 rw [show l.length=(D7 amount (I7 us l)).length by omega]
 exact this
theorem C3w (bo:Nat) (us:List B5) (hu:E8 us) (l:List Int) (hl:l.length≤100000) (hm:X3 us l) (amount:Int) (hW:Q0 amount (I7 us l)) (st:St) (hb:A4M st bo us) :
  S P 297 [.own 3 bo 0 us.length,A8 l,eI amount] st fun v st'=>v=.tuple []∧∃ f,st'=upd st bo ⟨152,3,us.length,f⟩∧∀ k,k<us.length→f k=W8 (gU (A2B us l amount) k):=by
 have hul:=hu.len
 have hwl:(I7 us l).length=l.length:=by unfold I7;rw [List.length_map]
 obtain ⟨lg1,lg2,lg3⟩:=R6 hW
 refine SyW [] Tryz.func297 ?_
 obtain ⟨fu,hst,hfu⟩:=hb
 conv=>whnf
 refine ⟨[0,1,2,6,13,14,15],fun m vs st'=>∃ (i:Nat) (sv:AV),i≤l.length∧m=l.length - i∧vs=[.own 3 bo 0 us.length,A8 l,eI amount,sv,A8 l,eI l.length,eI i]∧N3 2 1 (fun k=>eI (gI (I7 us l) k)) st i sv st',?_,?_⟩
 ·conv=>whnf
  exact ⟨_,0,.emp,Nat.zero_le _,rfl,rfl,N3.start _ _ _ _⟩
 ·rintro m vs st' ⟨i,sv,hi,rfl,rfl,hcol⟩
  have hst':=hcol.sup bo _ hst
  conv=>whnf
  cases h:decide ((i:Int)<(l.length:Int))
  ·have:=of_decide_eq_false h
   obtain rfl:i=l.length:=by omega
   conv=>whnf
   have hsh:B0 [eI amount,sv] st' [eI amount,A8 (I7 us l)] st:=by
    refine B0.cons (B0.keep _ _) ?_
    have e:A8 (I7 us l)=.arr 1 l.length (fun k=>eI (gI (I7 us l) k)):=by unfold A8 B1;rw [hwl]
    rw [e];exact hcol.shift
   refine F4 hsh (C5 (A8m amount (I7 us l) hW st) ?_)
   have hX:∀ k,k<l.length→0≤gI (D7 amount (I7 us l)) k∧gI (D7 amount (I7 us l)) k≤100000000000000:=fun k hk=>by
    have h1:=lg3 _ (B3 (show k<(D7 amount (I7 us l)).length by omega))
    have h2:=I9 lg3 (B3 (show k<(D7 amount (I7 us l)).length by omega))
    have:=hW.t1
    exact ⟨h1,by show gI _ _≤_;unfold gI;omega⟩
   have hlf:A2B us l amount=D5 us l (D7 amount (I7 us l)) l.length:=rfl
   have hlen:(D7 amount (I7 us l)).length=l.length:=by omega
   rw [hlf]
   generalize D7 amount (I7 us l)=xs at *
   conv=>whnf
   refine ⟨[0,1,34,35,36],fun m vs st'=>∃ (k:Nat) (f:Nat→AV),k≤l.length∧m=l.length - k∧vs=[.own 3 bo 0 us.length,A8 l,A8 xs,eI xs.length,eI k]∧st'=upd st bo ⟨152,3,us.length,f⟩∧∀ j,j<us.length→f j=W8 (gU (D5 us l xs k) j),?_,?_⟩
   ·conv=>whnf
    exact ⟨_,0,fu,Nat.zero_le _,rfl,rfl,(C2J hst).symm,hfu⟩
   ·rintro m vs st' ⟨k,f,hk,rfl,rfl,rfl,hf⟩
    conv=>whnf
    cases h2:decide ((k:Int)<(xs.length:Int))
    ·have:=of_decide_eq_false h2
     obtain rfl:k=l.length:=by omega
     conv=>whnf
     exact ⟨rfl,f,rfl,hf⟩
    ·have hk':k<l.length:=by have:=of_decide_eq_true h2;omega
     have hr:=hm.rng k hk'
     have hat:=A3c (offs:=xs) hm hk'
     have hx:=hX k hk'
     have hnet0:0≤(gU us (gI l k).toNat).net:=hu.pos _ (B3 hr.2)
     have hnet1:(gU us (gI l k).toNat).net≤10000000000000:=hu.le (B3 hr.2)
     have hfm:f (0+(gI l k).toNat)=W8 (gU (D5 us l xs k) (gI l k).toNat):=by rw [Nat.zero_add];exact hf _ hr.2
     conv=>whnf
     refine E1 ?_
     refine E1 ?_
     refine ⟨rfl,⟨by show 0≤gI l k;exact hr.1,by show gI l k<(us.length:Int);have:=hr.2;have:=hr.1;omega⟩,?_⟩;conv=>whnf
     refine ldV (A0 ..) rfl (by show 0+(gI l k).toNat<_;have:=hr.2;omega) hfm ?_;conv=>whnf
     refine ⟨rfl,⟨by show 0≤gI l k;exact hr.1,by show gI l k<(us.length:Int);have:=hr.2;have:=hr.1;omega⟩,?_⟩;conv=>whnf
     refine stV (A0 ..) rfl (by show 0+(gI l k).toNat<_;have:=hr.2;omega) hfm (by rfl) ?_;conv=>whnf
     refine G7 ?_
     refine ⟨l.length - (k+1),by omega,k+1,_,by omega,rfl,by rw [B8 (by omega)],B7,fun j hj=>?_⟩
     have w:IntKind.i64.wrap ((gU (D5 us l xs k) (gI l k).toNat).net - gI xs k)=(gU (D5 us l xs k) (gI l k).toNat).net - gI xs k:=by
      rw [hat];exact A9 (by omega) (by omega)
     show _=W8 (gU (less1 (D5 us l xs k) (gI l k).toNat (gI xs k)) j)
     unfold less1
     rw [A4Z (by rw [P0];exact hr.2)]
     by_cases hj2:j=(gI l k).toNat
     ·rw [if_pos hj2,hj2,←w]
      show C9 f (0+(gI l k).toNat) _ _=_
      rw [Nat.zero_add,A5];rfl
     ·rw [if_neg hj2]
      show C9 f (0+(gI l k).toNat) _ _=_
      rw [Nat.zero_add,H3 hj2];exact hf j hj
  ·have hi':i<l.length:=by have:=of_decide_eq_true h;omega
   have hr:=hm.rng i hi'
   have hg:gI (I7 us l) i=(gU us (gI l i).toNat).net:=E6 (fun i:Int=>(gU us i.toNat).net) l hi'
   conv=>whnf
   refine E1 ?_
   refine ⟨rfl,⟨by show 0≤gI l i;exact hr.1,by show gI l i<(us.length:Int);have:=hr.2;have:=hr.1;omega⟩,?_⟩;conv=>whnf
   refine ldV hst' rfl (by show 0+(gI l i).toNat<_;have:=hr.2;omega) (v:=W8 (gU us (gI l i).toNat)) (by show fu (0+(gI l i).toNat)=_;rw [Nat.zero_add];exact hfu _ hr.2) ?_;conv=>whnf
   refine N3.app (q:=r2) rfl rfl rfl rfl rfl (by simp only [hg];rfl) (by show (i+1) * 8≤140737488355328;omega) hcol (fun sv' st'' hcol'=>?_);conv=>whnf
   refine G7 ?_
   exact ⟨l.length - (i+1),by omega,i+1,sv',by omega,rfl,by rw [B8 (by omega)],hcol'⟩
end Go.Proofs.YtbajhapmlfbelaaGreat
namespace Go.Proofs.YtbajhapmlfbelaaGreat
open Go Go.Ab
def tot:Nat→(Nat→List QE)→Nat
 | 0,_=>0
 | n+1,es=>tot n es+(es n).length
theorem B9Q {n:Nat} {es es':Nat→List QE} (h:∀ i,i<n→(es' i).length=(es i).length):tot n es'=tot n es:=by
 induction n with
 | zero=>rfl
 | succ n ih=>unfold tot;rw [ih fun i hi=>h i (by omega),h n (by omega)]
theorem C2H {n:Nat} {es:Nat→List QE} {k:Nat} (hk:k<n) (l:List QE):tot n (Y4 es k l)+(es k).length=tot n es+l.length:=by
 induction n with
 | zero=>omega
 | succ n ih =>
  unfold tot
  by_cases e:k=n
  ·subst e
   rw [H6,B9Q (es:=es) fun i hi=>by rw [L9 (by omega)]];omega
  ·have:=ih (by omega)
   rw [L9 (fun e'=>e e'.symm)];omega
theorem B9K {n k:Nat} (hk:k<n) {s s':MSt} (h:A0v k s=some s'):tot n s'.es+s'.l.length≤tot n s.es+s.l.length:=by
 have h4:=(A2J s.used (s.es k)).2.2.2
 unfold A0v at h
 split at h
 ·cases h
 ·rename_i i hi
  cases h
  have:=h4 (by rw [hi];simp)
  have:=C2H hk (N8 s.used (s.es k)).2 (es:=s.es)
  simp only [List.length_append,List.length_cons,List.length_nil]
  omega
theorem B1b {n k:Nat} (hk:k<n) {s:MSt}:∀ {c:Nat} {s':MSt},R5 k c s=some s'→tot n s'.es+s'.l.length≤tot n s.es+s.l.length
 | 0,s',h=>by cases h;exact Nat.le_refl _
 | c+1,s',h=>by
  unfold R5 at h
  obtain ⟨s1,h1,h2⟩:=Option.bind_eq_some_iff.1 h
  exact Nat.le_trans (B9K hk h2) (B1b hk h1)
theorem A6G {n:Nat} {parts:List S3} {s:MSt}:∀ {k:Nat} {s':MSt},k≤n→K8 parts k s=some s'→tot n s'.es+s'.l.length≤tot n s.es+s.l.length
 | 0,s',_,h=>by cases h;exact Nat.le_refl _
 | k+1,s',hk,h=>by
  unfold K8 at h
  obtain ⟨s1,h1,h2⟩:=Option.bind_eq_some_iff.1 h
  exact Nat.le_trans (B1b (by omega) h2) (A6G (by omega) h1)
theorem A5l {p:B4} (hp:A3q p) {s s':MSt} (h:K8 p.parts p.parts.length s=some s'):s.l.length<s'.l.length:=by
 have hn:=hp.n1
 obtain ⟨k,hk⟩:∃ k,p.parts.length=k+1:=⟨p.parts.length - 1,by omega⟩
 have hmono:∀ {k:Nat} {s':MSt},K8 p.parts k s=some s'→s.l.length≤s'.l.length:=fun {k}=>by
  induction k with
  | zero=>intro s' h;cases h;exact Nat.le_refl _
  | succ k ih =>
   intro s' h
   unfold K8 at h
   obtain ⟨s1,h1,h2⟩:=Option.bind_eq_some_iff.1 h
   have:=ih h1
   have:=A1F h2
   omega
 rw [hk] at h
 unfold K8 at h
 obtain ⟨s1,h1,h2⟩:=Option.bind_eq_some_iff.1 h
 have h3:=hmono h1
 have h4:=A1F h2
 have h5:=hp.at (show k<p.parts.length by omega)
 omega
structure W0 (u0:List Bool) (s:MSt):Prop where
 free:∀ x∈s.l,u0.getD x.toNat default=false
 nd:(s.l.map Int.toNat).Nodup
 used:∀ j,s.used.getD j default=true↔(u0.getD j default=true∨j∈s.l.map Int.toNat)
theorem W0.start (u0:List Bool) (es:Nat→List QE):W0 u0 ⟨u0,es,[]⟩:=⟨fun x hx=>by simp at hx,List.nodup_nil,fun j=>by simp⟩
theorem W0.take {us:List B5} {n:Nat} {u0:List Bool} {s s':MSt} (h:W0 u0 s) (hok:MOk us n s) {k:Nat} (hk:k<n) (ht:A0v k s=some s'):W0 u0 s':=by
 obtain ⟨_,t2,_,_⟩:=A2J s.used (s.es k)
 unfold A0v at ht
 split at ht
 ·cases ht
 ·rename_i i hi
  cases ht
  obtain ⟨e,he,rfl,hu⟩:=t2 i hi
  have hr:=hok.rng k hk e he
  have hfree:u0.getD e.2.toNat default=false∧e.2.toNat∉s.l.map Int.toNat:=by
   have:¬(u0.getD e.2.toNat default=true∨e.2.toNat∈s.l.map Int.toNat):=fun h2=>by
    rw [(h.used _).2 h2] at hu;cases hu
   exact ⟨Bool.eq_false_iff.2 fun h2=>this (.inl h2),fun h2=>this (.inr h2)⟩
  refine ⟨fun x hx=>?_,?_,fun j=>?_⟩
  ·rcases List.mem_append.1 hx with hx | hx
   ·exact h.free x hx
   ·rw [List.mem_singleton] at hx;rw [hx];exact hfree.1
  ·show ((s.l++[e.2]).map Int.toNat).Nodup
   rw [List.map_append]
   refine List.nodup_append.2 ⟨h.nd,by simp,fun a ha b hb=>?_⟩
   simp only [List.map_cons,List.map_nil,List.mem_singleton] at hb
   subst hb
   exact fun e'=>hfree.2 (e'▸ha)
  ·show (s.used.set e.2.toNat true).getD j default=true↔(u0.getD j default=true∨j∈(s.l++[e.2]).map Int.toNat)
   rw [List.map_append,List.mem_append,List.map_cons,List.map_nil,List.mem_singleton]
   by_cases ej:j=e.2.toNat
   ·subst ej
    have:e.2.toNat<s.used.length:=by rw [hok.len];exact hr.2
    simp [List.getD_eq_getElem?_getD,this]
   ·have:(s.used.set e.2.toNat true).getD j default=s.used.getD j default:=by
     simp only [List.getD_eq_getElem?_getD]
     rw [List.getElem?_set_ne (fun e'=>ej e'.symm)]
    rw [this,h.used j]
    constructor
    ·rintro (h1 | h1)
     ·exact .inl h1
     ·exact .inr (.inl h1)
    ·rintro (h1 | h1 | h1)
     ·exact .inl h1
     ·exact .inr h1
     ·exact absurd h1 ej
theorem W0.takes {us:List B5} {n:Nat} {u0:List Bool} {s:MSt} (h:W0 u0 s) (hok:MOk us n s) {k:Nat} (hk:k<n):∀ {c:Nat} {s':MSt},R5 k c s=some s'→W0 u0 s'
 | 0,s',e=>by cases e;exact h
 | c+1,s',e=>by
  unfold R5 at e
  obtain ⟨s1,h1,h2⟩:=Option.bind_eq_some_iff.1 e
  exact (W0.takes h hok hk h1).take (hok.takes hk h1) hk h2
theorem W0.parts {us:List B5} {p:B4} {u0:List Bool} {s:MSt} (h:W0 u0 s) (hok:MOk us p.parts.length s):∀ {k:Nat} {s':MSt},k≤p.parts.length→K8 p.parts k s=some s'→W0 u0 s'
 | 0,s',_,e=>by cases e;exact h
 | k+1,s',hk,e=>by
  unfold K8 at e
  obtain ⟨s1,h1,h2⟩:=Option.bind_eq_some_iff.1 e
  exact (W0.parts h hok (by omega) h1).takes (MOk.parts hok (by omega) h1) (by omega) h2
theorem B1e {us:List B5} (hu:E8 us) {l:List Int} (hm:X3 us l):A7 (I7 us l)≤A7 (E2 us):=by
 have hl:(I7 us l).length=l.length:=by unfold I7;rw [List.length_map]
 have:=A1P hu hm (offs:=I7 us l) (by omega) (fun k hk=>by
  have h2:gI (I7 us l) k=(gU us (gI l k).toNat).net:=E6 (fun i:Int=>(gU us i.toNat).net) l (by omega)
  rw [h2]
  exact ⟨hu.at0 _,Int.le_refl _⟩) (I7 us l).length (Nat.le_refl _)
 rw [List.take_length] at this
 have h1:=this.sum
 have h2:=C4 (this.ok hu).nets0
 omega
theorem B2d {us:List B5} {l:List Int} (hm:∀ x∈l,0≤x∧x.toNat<us.length) (hd:(l.map Int.toNat).Nodup):X3 us l:=by
 refine ⟨fun k hk=>hm _ (B3 hk),fun i k hik hk e=>?_⟩
 have hi:(l.map Int.toNat)[i]'(by rw [List.length_map];omega)=(l.map Int.toNat)[k]'(by rw [List.length_map];omega):=by
  rw [List.getElem_map,List.getElem_map]
  have h1:gI l i=l[i]:=by simp [gI,show i<l.length by omega]
  have h2:gI l k=l[k]:=by simp [gI,hk]
  rw [←h1,←h2];exact e
 exact (List.pairwise_iff_getElem.1 hd i k _ _ hik) hi
structure BSt where
 out:List B5
 ms:MSt
 taken:List Int
 all:Int
def A1G (p:B4) (us:List B5) (b:BSt):Option BSt:=match K8 p.parts p.parts.length ⟨b.ms.used,b.ms.es,[]⟩ with
 | none=>none
 | some s=>if I0 us s.l>p.amount then some ⟨A2B b.out (C8 s.l) (I0 us s.l - p.amount),s,b.taken++C8 s.l,b.all+(I0 us s.l - p.amount)⟩ else none
def A2x (p:B4) (us:List B5):Nat→BSt→BSt
 | 0,b=>b
 | m+1,b=>match A1G p us b with
  | none=>b
  | some b'=>A2x p us m b'
def G3 (us:List B5) (parts:List (List Int)):BSt:=⟨us,⟨List.replicate us.length false,fun k=>E5 us (parts.getD k []),[]⟩,[],0⟩
def Q1 (p:B4) (us:List B5) (parts:List (List Int)):List B5×Int :=
 let b:=A2x p us (tot p.parts.length (G3 us parts).ms.es+1) (G3 us parts)
 (if p.closes=true then closeB b.out b.taken else b.out,b.all)
structure BOk (p:B4) (us:List B5) (D:Nat) (b:BSt):Prop where
 off:Off us b.out b.all
 same:∀ j,b.ms.used.getD j default=false→gU b.out j=gU us j
 ok:MOk us p.parts.length b.ms
 mem:∀ x∈b.taken,0≤x∧x.toNat<us.length
 len:b.taken.length+tot p.parts.length b.ms.es≤D
theorem T1 {l:List Int} {x:Int}:x∈C8 l↔x∈l:=(A0J l).mem_iff
structure C6D (p:B4) (us:List B5) (b:BSt) (s:MSt):Prop where
 places:X3 b.out (C8 s.l)
 weights:Q0 (I0 us s.l - p.amount) (I7 b.out (C8 s.l))
 le:I0 us s.l - p.amount≤A7 (I7 b.out (C8 s.l))
theorem BOk.step {p:B4} (hp:A3q p) {us:List B5} (hu:E8 us) {D:Nat} {b:BSt} (h:BOk p us D b) {s:MSt} (hs:K8 p.parts p.parts.length ⟨b.ms.used,b.ms.es,[]⟩=some s) (hc:I0 us s.l>p.amount) :
  C6D p us b s∧BOk p us D ⟨A2B b.out (C8 s.l) (I0 us s.l - p.amount),s,b.taken++C8 s.l,b.all+(I0 us s.l - p.amount)⟩∧tot p.parts.length s.es<tot p.parts.length b.ms.es:=by
 have hok0:MOk us p.parts.length ⟨b.ms.used,b.ms.es,[]⟩:=⟨h.ok.len,h.ok.rng,h.ok.srt,fun x hx=>by simp at hx⟩
 have hok:=MOk.parts hok0 (Nat.le_refl _) hs
 have htr:=W0.parts (W0.start b.ms.used b.ms.es) hok0 (Nat.le_refl _) hs
 have hlen:=A1A hp (Nat.le_refl _) hs
 have htot:=A6G (n:=p.parts.length) (Nat.le_refl _) hs
 have hpos:=A5l hp hs
 simp only [List.length_nil] at hlen htot hpos
 have hn8:=hp.n8
 have ha:=hp.amt
 have hpl:X3 b.out (C8 s.l):=B2d (fun x hx=>by rw [h.off.len];exact hok.mem x (T1.1 hx)) (((A0J s.l).map Int.toNat).nodup_iff.2 htr.nd)
 have hsame:∀ x∈s.l,(gU b.out x.toNat).net=(gU us x.toNat).net:=fun x hx=>by rw [h.same _ (htr.free x hx)]
 have hw:A7 (I7 b.out (C8 s.l))=I0 us s.l:=by
  unfold I7 I0
  rw [A6d ((A0J s.l).map fun i=>(gU b.out i.toNat).net)]
  congr 1
  exact List.map_congr_left fun x hx=>hsame x hx
 have hou:=h.off.ok hu
 have hwl:=B1e hou hpl
 have hos:=hou.sum
 have hcb:=A0M hu s.l hok.mem
 have hW:Q0 (I0 us s.l - p.amount) (I7 b.out (C8 s.l)):=by
  refine ⟨by omega,by omega,?_,fun w hw=>?_,by omega,fun e=>by omega⟩
  ·unfold I7;rw [List.length_map,U8];omega
  ·obtain ⟨i,hi,rfl⟩:=List.mem_map.1 hw;exact hou.at0 _
 have hL:=B8N hou hpl hW (by omega)
 refine ⟨⟨hpl,hW,by omega⟩,⟨h.off.trans hL,fun j hj=>?_,hok,fun x hx=>?_,?_⟩,by omega⟩
 ·have hnot:¬(b.ms.used.getD j default=true∨j∈s.l.map Int.toNat):=fun h2=>by
   rw [(htr.used j).2 h2] at hj;cases hj
  have hju:b.ms.used.getD j default=false:=Bool.eq_false_iff.2 fun h2=>hnot (.inl h2)
  rw [←h.same j hju]
  by_cases hjl:j<b.out.length
  ·exact A4v hpl _ (Nat.le_refl _) j hjl fun i hi e=>hnot (.inr (by
    have:gI (C8 s.l) i∈s.l:=T1.1 (B3 hi)
    rw [e];exact List.mem_map_of_mem this))
  ·have e1:gU b.out j=default:=by unfold gU;rw [List.getD_eq_getElem?_getD,List.getElem?_eq_none (by omega)];rfl
   have e2:gU (A2B b.out (C8 s.l) (I0 us s.l - p.amount)) j=default:=by
    unfold gU;rw [List.getD_eq_getElem?_getD,List.getElem?_eq_none (by rw [hL.len];omega)];rfl
   rw [e1];exact e2
 ·rcases List.mem_append.1 hx with hx | hx
  ·exact h.mem x hx
  ·exact hok.mem x (T1.1 hx)
 ·rw [List.length_append,U8]
  have:=h.len
  show _+tot p.parts.length s.es≤D
  omega
theorem B7o {p:B4} (hp:A3q p) {us:List B5} (hu:E8 us) {D:Nat}:∀ (m:Nat) {b:BSt},BOk p us D b→BOk p us D (A2x p us m b)
 | 0,b,h=>h
 | m+1,b,h=>by
  unfold A2x A1G
  cases hs:K8 p.parts p.parts.length ⟨b.ms.used,b.ms.es,[]⟩ with
  | none=>exact h
  | some s =>
   simp only
   by_cases hc:I0 us s.l>p.amount
   ·rw [if_pos hc]
    exact B7o hp hu m (h.step hp hu hs hc).2.1
   ·rw [if_neg hc];exact h
theorem A4V {p:B4} {us:List B5} (hu:E8 us) {parts:List (List Int)} (hl:parts.length=p.parts.length) (hm:∀ k,k<parts.length→N0 us (parts.getD k [])):BOk p us (tot p.parts.length (G3 us parts).ms.es) (G3 us parts):=by
 refine ⟨Off.refl hu,fun j hj=>rfl,⟨by simp [G3],fun k hk e he=>A5Q (hm k (by omega)).rng he,fun k hk=>A4s _,fun x hx=>by simp [G3] at hx⟩,fun x hx=>by simp [G3] at hx,?_⟩
 show 0+_≤_
 omega
theorem B3Z {p:B4} (hp:A3q p) {us:List B5} (hu:E8 us) {parts:List (List Int)} (hl:parts.length=p.parts.length) (hm:∀ k,k<parts.length→N0 us (parts.getD k [])):Off us (Q1 p us parts).1 (Q1 p us parts).2:=by
 have h:=B7o hp hu (tot p.parts.length (G3 us parts).ms.es+1) (A4V hu hl hm)
 unfold Q1
 simp only
 split
 ·have h2:=Off.closeB (h.off.ok hu) (A2x p us (tot p.parts.length (G3 us parts).ms.es+1) (G3 us parts)).taken (fun x hx=>by rw [h.off.len];exact (h.mem x hx).2)
  have h3:=h.off.trans h2
  rw [Int.add_zero] at h3;exact h3
 ·exact h.off
end Go.Proofs.YtbajhapmlfbelaaGreat
namespace Go.Proofs.YtbajhapmlfbelaaGreat
open Go Go.Ab
attribute [local irreducible] upd del
theorem B6l (l:List (List Int)) (hl:l.length≤9223372036854775807) (g:FuncId) (cs:List AV) (p:(List Int)→Bool) (st:St)
  (hg:∀ x,x∈l→S P g (A8 x::cs) st fun v st'=>v=.bool (p x)∧st'=st) :
  S P 346 [B1 1 A8 l,.fn (.func g) [] cs] st fun v st'=>v=eI (idx p l)∧st'=st:=by
 refine G0 [] Tryz.func346 ?_
 refine ⟨[0,1,7,8],fun m vs st'=>∃ i:Nat,i≤l.length∧(∀ k,k<i→p (l.getD k default)=false)∧m=l.length - i∧vs=[B1 1 A8 l,.fn (.func g) [] cs,eI l.length,eI i]∧st'=st,?_,?_⟩
 ·conv=>whnf
  exact ⟨_,0,Nat.zero_le _,fun k hk=>absurd hk (by omega),rfl,rfl,rfl⟩
 ·rintro m vs st' ⟨i,hi,hok,rfl,rfl,rfl⟩
  conv=>whnf
  cases h:decide ((i:Int)<(l.length:Int))
  ·have:=of_decide_eq_false h
   conv=>whnf
   refine ⟨?_,rfl⟩
   rw [T3 fun k hk=>hok k (by omega)];rfl
  ·have hi':i<l.length:=by have:=of_decide_eq_true h;omega
   conv=>whnf
   refine E1 ?_
   refine C5 (hg (l.getD (i:Int).toNat default) (by simp [hi'])) ?_
   rw [Int.toNat_natCast]
   cases hp:p (l.getD i default)
   ·conv=>whnf
    refine G7 ?_
    refine ⟨l.length - (i+1),by omega,i+1,by omega,fun k hk=>?_,rfl,by rw [B8 (by omega)],rfl⟩
    rcases Nat.lt_succ_iff_lt_or_eq.1 hk with h' | h'
    ·exact hok k h'
    ·rw [h'];exact hp
   ·conv=>whnf
    refine ⟨?_,rfl⟩
    rw [A1z hi' hok hp];rfl
theorem C1o (l:List (List Int)) (hl:l.length≤9223372036854775807) (g:FuncId) (cs:List AV) (p:(List Int)→Bool) (st:St)
  (hg:∀ x,x∈l→S P g (A8 x::cs) st fun v st'=>v=.bool (p x)∧st'=st) :
  S P 333 [B1 1 A8 l,.fn (.func g) [] cs] st fun v st'=>v=.bool (l.any p)∧st'=st:=by
 refine G0 [] Tryz.func333 ?_
 refine I2 (B6l l hl g cs p st hg) ?_
 refine ⟨?_,rfl⟩
 rw [←A1H];rfl
theorem C1w (us:List B5) (mine:List Int) (h:E8 us) (hm:N0 us mine) (st:St):S P 334 [A8 mine,.fptr (D1 us) 0] st fun v st'=>v=.bool false∧st'=st:=by
 refine G0 [] Tryz.func334 ?_
 refine I2 (A9O us mine h hm st) ?_
 exact ⟨rfl,rfl⟩
theorem C5C (p:B4) (us:List B5) (parts:List (List Int)) (hfit:P2 p) (hright:H7 p=true) (hk:p.kind=4) (hu:E8 us) (hl:parts.length=p.parts.length) (hl8:parts.length≤8) (hm:∀ x∈parts,N0 us x) (st:St) :
  S P 295 [C0 p,D1 us,B1 1 A8 parts] st fun v st'=>v=.bool true∧st'=st:=by
 refine G0 [3,4] Tryz.func295 ?_
 rw [hk];conv=>whnf
 refine C5 (A9s p hfit st) ?_
 rw [hright];conv=>whnf
 rw [hl]
 have e:((p.parts.length:Int) != (p.parts.length:Int))=false:=by simp
 rw [e];conv=>whnf
 refine I2 (C1o parts (by omega) _ [.fptr (D1 us) 0] (fun _=>false) st fun x hx=>C1w us x hu (hm x hx) st) ?_
 refine ⟨?_,rfl⟩
 have:(parts.any fun _=>false)=false:=by simp
 rw [this];rfl
theorem B5y {s:St} {a b:Nat} {y:R9} (h:a≠b) (hs:s a=none):upd s b y a=none:=by rw [A6 h];exact hs
theorem C2I {n B:Nat} {es:Nat→List QE} (h:∀ i,i<n→(es i).length≤B):tot n es≤n * B:=by
 induction n with
 | zero=>exact Nat.zero_le _
 | succ n ih =>
  unfold tot
  have h1:=ih fun i hi=>h i (by omega)
  have h2:=h n (by omega)
  have h3:(n+1) * B=n * B+B:=Nat.succ_mul n B
  omega
structure Lay (p:B4) (us:List B5) (E:Nat→List QE) (base:St) (bm bu:Nat) (i:Nat) (q:Nat→Nat) (rv:AV) (t:St):Prop where
 nbm:base bm=none
 nbu:base bu=none
 ne:bu≠bm
 has:∃ f g,f 0=.agg (A1v p++[D1 us,.own 1 bu 0 us.length,rv])∧(∀ k,k<us.length→g k=eB false) ∧
  ROut (Qs i q E) 216 1 (fun k=>.optr 1 (q k) 0 0) i (upd (upd base bm ⟨349,18,1,f⟩) bu ⟨4,1,us.length,g⟩) rv t
theorem Lay.mk' {p:B4} {us:List B5} {E:Nat→List QE} {base:St} {bm bu i:Nat} {q:Nat→Nat} {rv:AV} {t:St} (h:Lay p us E base bm bu i q rv t) (hi:0<i) :
  ∃ br,rv=.own 1 br 0 i∧MkR ⟨p,us,bm,bu,br,i,q⟩ (List.replicate us.length false) E base t:=by
 obtain ⟨h1,h2,h3,f,g,hf,hg,s0,hc,hq⟩:=h
 rcases hc with ⟨e,_,_⟩ | ⟨_,br,y,hb,rfl,rfl,hy⟩
 ·omega
 refine ⟨br,rfl,h1,_,⟨f,rfl,by rw [List.length_replicate];exact hf⟩,B5y h3 h2,_,⟨g,by rw [List.length_replicate],fun k hk=>?_⟩,hb,_,⟨y,rfl,hy⟩,hq⟩
 rw [List.length_replicate] at hk
 rw [hg k hk];simp [hk]
theorem C0F (uv:AV) (st:St):S P 290 [uv,A8 []] st fun v st'=>v=.tuple []∧st'=st:=by
 refine G0 [] Tryz.func290 ?_
 refine A4I [0,6,7,8] ?_;conv=>whnf
 intro I;conv=>whnf
 exact ⟨rfl,rfl⟩
theorem C0A (p:B4) (us:List B5) (parts:List (List Int)) (hfit:P2 p) (hright:H7 p=true) (hk:p.kind=4) (hp:A3q p) (hu:E8 us) (hl:parts.length=p.parts.length) (hm:∀ x∈parts,N0 us x) (st:St) :
  S P 244 [C0 p,D1 us,B1 1 A8 parts] st fun v st'=>v=.tuple [D1 (Q1 p us parts).1,eI (Q1 p us parts).2]∧st'=st:=by
 refine S.post (post:=fun v st'=>∃ sv,v=.tuple [sv,eI (Q1 p us parts).2]∧A4F st (Q1 p us parts).1 sv st') ?_
  (fun v st' ⟨sv,hv,hr⟩=>⟨_,st,⟨rfl,rfl⟩,by rw [hv];exact B0.tuple (B0.cons hr.shift (B0.keep _ _)) rfl⟩)
 have hul:=hu.len
 have hn1:=hp.n1
 have hn8:=hp.n8
 have hme:∀ k,k<parts.length→N0 us (parts.getD k default):=fun k hk=>hm _ (B3 hk)
 have hst0:=A4V hu hl (fun k hk=>hme k hk)
 generalize hE:(fun k=>E5 us (parts.getD k default))=E at *
 have hEk:∀ k,E k=E5 us (parts.getD k default):=fun k=>by rw [←hE]
 have hbs:G3 us parts=⟨us,⟨List.replicate us.length false,E,[]⟩,[],0⟩:=by rw [←hE];rfl
 have hD:tot p.parts.length (G3 us parts).ms.es≤800000:=by
  have:=C2I (n:=p.parts.length) (B:=100000) (es:=(G3 us parts).ms.es) (fun i hi=>by
   rw [hbs]
   show (E i).length≤100000
   rw [hEk,A1x]
   exact Nat.le_trans (hme i (by omega)).len hul)
  have h2:p.parts.length * 100000≤8 * 100000:=Nat.mul_le_mul_right _ hn8
  omega
 have hB:Q1 p us parts=(if p.closes=true then closeB (A2x p us (tot p.parts.length (G3 us parts).ms.es+1) (G3 us parts)).out (A2x p us (tot p.parts.length (G3 us parts).ms.es+1) (G3 us parts)).taken else (A2x p us (tot p.parts.length (G3 us parts).ms.es+1) (G3 us parts)).out,(A2x p us (tot p.parts.length (G3 us parts).ms.es+1) (G3 us parts)).all):=rfl
 refine G0 [3] Tryz.func244 ?_
 refine call (A9K us hul st) (fun sv base hcol=>?_)
 have hres:=A4F.ofCol hcol
 conv=>whnf
 refine I2 (C5C p us parts hfit hright hk hu hl (by omega) hm _) ?_
 refine ⟨[4,6],[0],[0,1,2,3,4,5,6,7],by kernel_rfl,?_⟩;conv=>whnf
 refine ⟨_,fun s _=>⟨rfl,rfl⟩,?_⟩;conv=>whnf
 refine mkO rfl rfl rfl (by show 1 * us.length≤_;omega) (by omega) (by rfl) (fun bu hbu=>?_);conv=>whnf
 intro bm hbm
 have hne:bu≠bm:=fun e=>by subst e;rw [A0] at hbm;cases hbm
 rw [A6 hne.symm] at hbm;conv=>whnf
 have hlay0:Lay p us E base bm bu 0 (fun _=>0) .emp (upd (upd base bu ⟨4,r4.size,us.length,fun _=>H4 r4.zero⟩) bm ⟨349,18,1,fun _=>.agg (A1v p++[D1 us,.own 1 bu 0 us.length,.emp])⟩) :=
  ⟨hbm,hbu,hne,fun _=>.agg (A1v p++[D1 us,.own 1 bu 0 us.length,.emp]),fun _=>eB false,rfl,fun _ _=>rfl,by
   rw [Q8 hne.symm]
   exact ROut.start (Qs.nil (D8.refl _)) _ _ _⟩
 refine ⟨[1,3,8,9,32,33,34],fun m vs t=>∃ (i:Nat) (q:Nat→Nat) (rv:AV),i≤parts.length∧m=parts.length - i∧vs=[D1 us,.fptr (C0 p) 0,sv,.optr 18 bm 0 0,B1 1 A8 parts,eI parts.length,eI i]∧Lay p us E base bm bu i q rv t,?_,?_⟩
 ·conv=>whnf
  exact ⟨_,0,_,.emp,Nat.zero_le _,rfl,rfl,hlay0⟩
 ·clear hlay0
  rintro m vs t ⟨i,q,rv,hi,rfl,rfl,hlay⟩
  conv=>whnf
  cases h:decide ((i:Int)<(parts.length:Int))
  ·have:=of_decide_eq_false h
   have hin:i=p.parts.length:=by omega
   subst hin
   obtain ⟨br,rfl,hMk⟩:=hlay.mk' (by omega)
   clear hlay
   conv=>whnf
   refine ⟨[3,8,9,12,13],fun m vs t=>∃ (b:BSt) (svT:AV) (ba:St),BOk p us (tot p.parts.length (G3 us parts).ms.es) b∧tot p.parts.length b.ms.es<m∧A2x p us m b=A2x p us (tot p.parts.length (G3 us parts).ms.es+1) (G3 us parts)∧vs=[.fptr (C0 p) 0,sv,.optr 18 bm 0 0,svT,eI b.all]∧A4F st b.out sv ba∧ROut (MkR ⟨p,us,bm,bu,br,p.parts.length,q⟩ b.ms.used b.ms.es) 3 1 (fun k=>eI (gI b.taken k)) b.taken.length ba svT t,?_,?_⟩
   ·conv=>whnf
    refine ⟨_,G3 us parts,.emp,base,hst0,Nat.lt_succ_self _,rfl,rfl,hres,?_⟩
    rw [hbs]
    exact ROut.start hMk _ _ _
   ·clear hMk hres
    rintro m vs t' ⟨b,svT,ba,hb,hlt,hF,rfl,hres,hout⟩
    obtain ⟨s0,hcol0,hMk⟩:=hout
    obtain ⟨m,rfl⟩:∃ n,m=n+1:=⟨m - 1,by omega⟩
    have hbl:=hb.len
    -- the end: what is closed
    have fin:∀ t2,D8 s0 t2→A1G p us b=none→(p.closes=true→∃ v3 t3,(∀ K:KK,(∀ t3,A4F st (closeB b.out b.taken) sv t3→K (.tuple []) t3)→A1o P 290 [sv,svT] t2 K)∧v3=AV.emp∧t3=t2)∧A4F st b.out sv t2∧Q1 p us parts=(if p.closes=true then closeB b.out b.taken else b.out,b.all):=fun t2 hs2 hstep=>by
     have hbf:A2x p us (m+1) b=b:=by unfold A2x;rw [hstep]
     rw [hbf] at hF
     refine ⟨fun hc=>⟨.emp,t2,fun K hK=>?_,rfl,rfl⟩,?_,by rw [hB,←hF]⟩
     ·have hsh:B0 [svT] t2 [A8 b.taken] ba:=(hs2.shift _).trans hcol0.shift
      rcases hres.2 with ⟨h5,h6⟩ | ⟨bo,hb0,rfl,hHas⟩
      ·subst h6
       have hnil:b.taken=[]:=by
        cases hbt:b.taken with
        | nil=>rfl
        | cons x l =>
         have:=(hb.mem x (by rw [hbt];exact List.mem_cons_self ..)).2
         have h7:=hb.off.len
         rw [h5,List.length_nil] at h7
         omega
       rw [hnil] at hsh
       refine F4 (args':=[.emp,A8 []]) (B0.cons (B0.keep _ _) hsh) (call (C0F _ ba) (fun v t3 hv=>?_))
       obtain ⟨rfl,rfl⟩:=hv
       refine hK _ ?_
       rw [h5,hnil]
       exact ⟨hres.1,.inl ⟨rfl,rfl⟩⟩
      ·refine F4 (args':=[.own 3 bo 0 b.out.length,A8 b.taken]) (B0.cons (B0.keep _ _) hsh) (call (B2J bo b.out b.taken (fun x hx=>by rw [hb.off.len];exact hb.mem x hx) (by omega) ba hHas) (fun v t3 hv=>?_))
       obtain ⟨rfl,hH3,hfr⟩:=hv
       refine hK _ ⟨fun x y hx=>?_,.inr ⟨bo,hb0,by rw [A1w],hH3⟩⟩
       rw [hfr x (fun e=>by subst e;rw [hb0] at hx;cases hx)];exact hres.1 x y hx
     ·have hsup:D8 ba t2:=hcol0.sup.trans hs2
      refine ⟨hres.1.trans hsup,?_⟩
      rcases hres.2 with h3 | ⟨bo,h3,h4,f,h5,h6⟩
      ·exact .inl h3
      ·exact .inr ⟨bo,h3,h4,f,hsup bo _ h5,h6⟩
    have hok0:MOk us p.parts.length ⟨b.ms.used,b.ms.es,[]⟩:=⟨hb.ok.len,hb.ok.rng,hb.ok.srt,fun x hx=>by simp at hx⟩
    conv=>whnf
    refine call (C5R ⟨p,us,bm,bu,br,p.parts.length,q⟩ rfl hp hu ⟨b.ms.used,b.ms.es,[]⟩ rfl hok0 s0 t' hMk) (fun v t2 hv=>?_)
    simp only at hv
    cases hs:K8 p.parts p.parts.length ⟨b.ms.used,b.ms.es,[]⟩ with
    | none =>
     rw [hs] at hv
     obtain ⟨rfl,hs2⟩:=hv
     obtain ⟨g1,g2,g3⟩:=fin t2 hs2 (by unfold A1G;rw [hs])
     rw [g3];conv=>whnf
     cases hc:p.closes with
     | true =>
      obtain ⟨_,_,g4,_,_⟩:=g1 hc
      conv=>whnf
      refine g4 _ (fun t3 h3=>?_);conv=>whnf
      exact ⟨_,rfl,h3⟩
     | false =>
      conv=>whnf
      exact ⟨_,rfl,g2⟩
    | some s =>
     rw [hs] at hv
     obtain ⟨rfl,hMk2⟩:=hv
     have hBs:=B7k ⟨p,us,bm,bu,br,p.parts.length,q⟩ s.used s.es
     by_cases hcost:I0 us s.l>p.amount
     ·obtain ⟨k1,k2,k3⟩:=hb.step hp hu hs hcost
      have hcost':decide (I0 us s.l>p.amount)=true:=decide_eq_true hcost
      have hstep:A2x p us (m+1) b=A2x p us m ⟨A2B b.out (C8 s.l) (I0 us s.l - p.amount),s,b.taken++C8 s.l,b.all+(I0 us s.l - p.amount)⟩:=by
       conv=>lhs;unfold A2x A1G
       rw [hs];simp only;rw [if_pos hcost]
      rw [hcost']
      have hlen:=A1A hp (Nat.le_refl _) hs
      have htot:=A6G (n:=p.parts.length) (Nat.le_refl _) hs
      have hpos:=A5l hp hs
      simp only [List.length_nil] at hlen htot hpos
      rcases hres.2 with ⟨h5,h6⟩ | ⟨bo,hb0,rfl,f,hstb,hf⟩
      ·exfalso
       have:=(k1.places.rng 0 (by rw [U8];omega)).2
       rw [h5,List.length_nil] at this
       omega
      have hou:=hb.off.ok hu
      have hout2:ROut (MkR ⟨p,us,bm,bu,br,p.parts.length,q⟩ s.used s.es) 3 1 (fun k=>eI (gI b.taken k)) b.taken.length ba svT t2:=⟨s0,hcol0,hMk2⟩
      conv=>whnf
      refine call (C3w bo b.out hou (C8 s.l) (by rw [U8];omega) k1.places _ k1.weights t2 ⟨f,hout2.sup hBs bo _ hstb,hf⟩) (fun v t3 hv=>?_)
      obtain ⟨rfl,f3,rfl,hf3⟩:=hv
      have hout3:=hout2.write hBs (y':=⟨152,3,b.out.length,f3⟩) hstb
      have hll:(A2B b.out (C8 s.l) (I0 us s.l - p.amount)).length=b.out.length:=by rw [k2.off.len,hb.off.len]
      conv=>whnf
      refine ROut.apps (q:=r3) (m:=s.l.length) (n:=b.taken.length) hBs rfl rfl rfl rfl (B3D (U8 s.l) _) (f:=fun k=>eI (gI (b.taken++C8 s.l) k)) (fun i hi=>?_) (by show (b.taken.length+s.l.length) * 8≤140737488355328;omega) (hout3.congr fun k hk=>by rw [M9 hk]) (fun sv' t4 hout4=>?_)
      ·show eI (gI (C8 s.l) i)=eI (gI (b.taken++C8 s.l) (b.taken.length+i))
       unfold gI
       rw [List.getD_eq_getElem?_getD,List.getD_eq_getElem?_getD,List.getElem?_append_right (by omega),Nat.add_sub_cancel_left]
      have hX1:=hb.off.pos
      have hX3:=k2.off.sum
      have hX4:=C4 (k2.off.ok hu).nets0
      have hX5:=hu.sum
      have hX6:=k1.weights.t0
      simp only at hX3 hX4
      conv=>whnf
      refine G7 ?_
      refine ⟨m,Nat.lt_succ_self _,⟨A2B b.out (C8 s.l) (I0 us s.l - p.amount),s,b.taken++C8 s.l,b.all+(I0 us s.l - p.amount)⟩,sv',upd ba bo ⟨152,3,b.out.length,f3⟩,k2,by show tot p.parts.length s.es<m;omega,by rw [←hstep];exact hF,?_,?_,?_⟩
      ·have w:IntKind.i64.wrap (b.all+(I0 us s.l - p.amount))=b.all+(I0 us s.l - p.amount):=A9 (by omega) (by omega)
       show [AV.fptr (C0 p) 0,AV.own 3 bo 0 b.out.length,AV.optr 18 bm 0 0,sv',eI (IntKind.i64.wrap (b.all+(I0 us s.l - p.amount)))]=_
       rw [w]
      ·exact ⟨hres.1.over hb0,.inr ⟨bo,hb0,by show AV.own 3 bo 0 b.out.length=_;rw [hll],f3,by rw [A0,hll],by rw [hll];exact hf3⟩⟩
      ·show ROut _ _ _ _ (b.taken++C8 s.l).length _ _ _
       rw [List.length_append,U8];exact hout4
     ·have hcost':decide (I0 us s.l>p.amount)=false:=decide_eq_false hcost
      obtain ⟨g1,g2,g3⟩:=fin t2 (hBs.sup hMk2) (by unfold A1G;rw [hs];simp only;rw [if_neg hcost])
      rw [g3,hcost'];conv=>whnf
      cases hc:p.closes with
      | true =>
       obtain ⟨_,_,g4,_,_⟩:=g1 hc
       conv=>whnf
       refine g4 _ (fun t3 h3=>?_);conv=>whnf
       exact ⟨_,rfl,h3⟩
      | false =>
       conv=>whnf
       exact ⟨_,rfl,g2⟩
  ·have hi':i<parts.length:=by have:=of_decide_eq_true h;omega
   have hmi:=hme i hi'
   have hml:=hmi.len
   obtain ⟨l1,l2,l3,f,g,hf,hg,hout⟩:=hlay
   have hbmS:∀ {n:Nat} {q:Nat→Nat} {E:Nat→List QE} {rv:AV} {fo:Nat→AV} {n':Nat} {t:St},ROut (Qs n q E) 216 1 fo n' (upd (upd base bm ⟨349,18,1,f⟩) bu ⟨4,1,us.length,g⟩) rv t→t bm=some ⟨349,18,1,f⟩:=fun h =>
    h.sup (A2w _ _ _) bm _ (by rw [A6 l3.symm,A0])
   -- what is behind the call and the append
   have after:∀ (q':Nat) (t2:St),QSt t q' true (E5 us (parts.getD i default)) t2→ROut (Qs (i+1) (Y4 q i q') E) 216 1 (fun k=>.optr 1 (Y4 q i q' k) 0 0) i (upd (upd base bm ⟨349,18,1,f⟩) bu ⟨4,1,us.length,g⟩) rv t2:=fun q' t2 hq'=>by
    obtain ⟨s0,hc,hqs⟩:=hout
    refine ⟨s0,N3.congr hc fun k hk=>by rw [L9 (by omega)],?_⟩
    refine (hqs.add hq').congr (fun _ _=>rfl) fun k hk=>?_
    by_cases e:k=i
    ·subst e;rw [H6,hEk]
    ·rw [L9 e]
   conv=>whnf
   refine E1 ?_
   refine ⟨[4,7,9,12],[],[],.qui 0 (.qui 1 (.qui 2 (.qui 3 (.qui 5 (.qui 6 (.two 4 7 (.gen 7 (.qui 8 (.gen 9 (.qui 10 (.qui 11 (.gen 12 .done)))))) (.qui 4 (.qui 8 (.gen 9 (.qui 10 (.qui 11 (.gen 12 .done)))))))))))),by kernel_rfl,?_⟩;conv=>whnf
   have stored:∀ (q':Nat) (rv':AV) (t4:St),ROut (Qs (i+1) (Y4 q i q') E) 216 1 (fun k=>.optr 1 (Y4 q i q' k) 0 0) (i+1) (upd (upd base bm ⟨349,18,1,f⟩) bu ⟨4,1,us.length,g⟩) rv' t4→Lay p us E base bm bu (i+1) (Y4 q i q') rv' (upd t4 bm ⟨349,18,1,C9 f 0 (.agg (A1v p++[D1 us,.own 1 bu 0 us.length,rv']))⟩):=fun q' rv' t4 h4=>by
    refine ⟨l1,l2,l3,C9 f 0 (.agg (A1v p++[D1 us,.own 1 bu 0 us.length,rv'])),g,A5 ..,hg,?_⟩
    have h5:=h4.write (A2w _ _ _) (b:=bm) (y':=⟨349,18,1,C9 f 0 (.agg (A1v p++[D1 us,.own 1 bu 0 us.length,rv']))⟩) (by rw [A6 l3.symm,A0])
    rw [Q8 l3,B7] at h5
    exact h5
   have fin3:∀ (q':Nat) (rv':AV) (t5:St),Lay p us E base bm bu (i+1) (Y4 q i q') rv' t5→∃ m',m'<parts.length - i∧∃ (i_1:Nat) (q:Nat→Nat) (rv:AV),i_1≤parts.length∧m'=parts.length - i_1∧[D1 us,AV.fptr (C0 p) 0,sv,AV.optr 18 bm 0 0,B1 1 A8 parts,eI parts.length,eI (IntKind.i64.wrap ((i:Int)+1))]=[D1 us,.fptr (C0 p) 0,sv,.optr 18 bm 0 0,B1 1 A8 parts,eI parts.length,eI i_1]∧Lay p us E base bm bu i_1 q rv t5 :=
    fun q' rv' t5 h5=>⟨parts.length - (i+1),by omega,i+1,_,rv',by omega,rfl,by rw [B8 (by omega)],h5⟩
   rcases hout.head with rfl | ⟨br,rfl⟩<;>conv=>whnf
   all_goals constructor
   all_goals conv=>whnf
   case inl.left | inr.left =>
    refine F2 (hbmS hout) hf ?_
    refine call (A8d us (parts.getD i default) hul (by omega) hmi.rng t) (fun v t2 hv=>?_)
    obtain ⟨q',rfl,hq'⟩:=hv
    have hout2:=after q' t2 hq'
    conv=>whnf
    refine ⟨_,⟨rfl,rfl⟩,?_⟩;conv=>whnf
    refine ROut.app (q:=C4h) (A2w _ _ _) rfl rfl rfl rfl rfl (by simp only [H6];rfl) (by show (i+1) * 8≤140737488355328;omega) hout2 (fun rv' t4 hout4=>?_)
    rcases hout4.head with e | ⟨br',e⟩<;>subst e
    all_goals conv=>whnf
    all_goals refine stV (hbmS hout4) rfl (by omega) hf (by rfl) ?_
    all_goals conv=>whnf
    all_goals refine ⟨rfl,?_⟩
    all_goals conv=>whnf
    all_goals exact fin3 _ _ _ (stored q' _ _ hout4)
   case inl.right | inr.right =>
    refine call (A8d us (parts.getD i default) hul (by omega) hmi.rng t) (fun v t2 hv=>?_)
    obtain ⟨q',rfl,hq'⟩:=hv
    have hout2:=after q' t2 hq'
    conv=>whnf
    refine F2 (hbmS hout2) hf ?_
    refine ⟨_,⟨rfl,rfl⟩,?_⟩;conv=>whnf
    refine ROut.app (q:=C4h) (A2w _ _ _) rfl rfl rfl rfl rfl (by simp only [H6];rfl) (by show (i+1) * 8≤140737488355328;omega) hout2 (fun rv' t4 hout4=>?_)
    rcases hout4.head with e | ⟨br',e⟩<;>subst e
    all_goals conv=>whnf
    all_goals refine stV (hbmS hout4) rfl (by omega) hf (by rfl) ?_
    all_goals conv=>whnf
    all_goals refine ⟨rfl,?_⟩
    all_goals conv=>whnf
    all_goals exact fin3 _ _ _ (stored q' _ _ hout4)
def inB (l:List D6) (s:D6):Bool:=l.any fun y=>s.toList==y.toList
theorem C1u (l:List D6) (s:D6) (hl:l.length≤9223372036854775807) (st:St):S P 277 [D2 l,eS s] st fun v st'=>v=.bool (inB l s)∧st'=st:=by
 refine G0 [] Tryz.func277 ?_
 refine I2 (B8P l hl s st) ?_
 exact ⟨rfl,rfl⟩
def A9d (s:T8) (x:Ab.Item):Bool:=(s.skus.length+s.cats.length==0)||inB s.skus x.sku||inB s.cats x.cat
theorem C6g (s:T8) (x:Ab.Item) (h1:s.skus.length≤20) (h2:s.cats.length≤20) (st:St):S P 285 [A3f s,F1 x] st fun v st'=>v=.bool (A9d s x)∧st'=st:=by
 refine G0 [2,3] Tryz.func285 ?_
 have w:IntKind.i64.wrap ((s.skus.length:Int)+(s.cats.length:Int))=((s.skus.length+s.cats.length:Nat):Int):=by rw [A9 (by omega) (by omega)];omega
 rw [w,A2V]
 refine B9 (fun h=>?_) (fun h=>?_)<;>rw [h]
 ·conv=>whnf
  refine ⟨?_,rfl⟩
  unfold A9d;rw [h];rfl
 ·conv=>whnf
  refine I2 (C1u s.skus x.sku (by omega) st) ?_
  refine B9 (fun h3=>?_) (fun h3=>?_)<;>rw [h3]
  ·conv=>whnf
   refine ⟨?_,rfl⟩
   unfold A9d;rw [h,h3];rfl
  ·conv=>whnf
   refine I2 (C1u s.cats x.cat (by omega) st) ?_
   refine ⟨?_,rfl⟩
   unfold A9d;rw [h,h3];rfl
theorem B2:J8 D8 where
 sup:=fun h=>h
 begin:=fun {s t b y} h hb=>fun c x hc=>by
  by_cases e:c=b
  ·subst e;rw [A0] at hc ⊢;exact hc
  ·rw [A6 e] at hc ⊢;exact h c x hc
 grow:=fun {s t b b' y y'} h h0 hb=>by
  have hsub:∀ c x,s c=some x→c≠b∧t c=some x:=fun c x hc=>by
   have hne:c≠b:=fun e=>by subst e;rw [h0] at hc;cases hc
   exact ⟨hne,h c x (by rw [A6 hne];exact hc)⟩
  have hb':s b'=none:=by
   rcases hb with e | e
   ·rw [e];exact h0
   ·cases hx:s b' with
    | none=>rfl
    | some x=>rw [(hsub _ _ hx).2] at e;cases e
  refine ⟨hb',fun c x hc=>?_⟩
  by_cases e:c=b'
  ·subst e;rw [A0] at hc ⊢;exact hc
  ·rw [A6 e] at hc ⊢
   rw [A1U (hsub c x hc).1];exact (hsub c x hc).2
 write:=fun {s t b y y'} h hb=>D8.write (y:=y) h
 forget:=fun {s t b y} h h0=>fun c x hc=>by
  have hne:c≠b:=fun e=>by subst e;rw [h0] at hc;cases hc
  rw [A1U hne];exact h c x (by rw [A6 hne];exact hc)
 drop:=fun {s t b y} h h0=>D8.drop h h0
theorem C0x {ι : Type} {R : ι→St→St→Prop} (h:∀ i,J8 (R i)):J8 fun s t=>∃ i,R i s t where
 sup:=fun ⟨i,hi⟩=>(h i).sup hi
 begin:=fun ⟨i,hi⟩ hb=>⟨i,(h i).begin hi hb⟩
 grow:=fun ⟨i,hi⟩ h0 hb=>⟨((h i).grow (y':=⟨0,0,0,fun _=>.junk⟩) hi h0 hb).1,i,((h i).grow hi h0 hb).2⟩
 write:=fun ⟨i,hi⟩ hb=>⟨i,(h i).write hi hb⟩
 forget:=fun ⟨i,hi⟩ h0=>⟨i,(h i).forget hi h0⟩
 drop:=fun ⟨i,hi⟩ h0=>⟨i,(h i).drop hi h0⟩
theorem N3.off {ty e n:Nat} {fo:Nat→AV} {s s0:St} {sv:AV} (h:N3 ty e fo s n sv s0) {b:Nat} (hb:s0 b=none):s b=none:=by
 rcases h with ⟨_,_,rfl⟩ | ⟨_,bo,g,h1,_,rfl,_⟩
 ·exact hb
 ·by_cases e:b=bo
  ·subst e;exact h1
  ·rw [A6 e] at hb;exact hb
theorem N3.under {ty e n:Nat} {fo:Nat→AV} {s s0:St} {sv:AV} (h:N3 ty e fo s n sv s0) {b:Nat} {y:R9} (hb:s0 b=none):N3 ty e fo (upd s b y) n sv (upd s0 b y):=by
 rcases h with ⟨rfl,rfl,rfl⟩ | ⟨h0,bo,g,h1,rfl,rfl,h3⟩
 ·exact N3.start _ _ _ _
 ·have hne:bo≠b:=fun e=>by subst e;rw [A0] at hb;cases hb
  exact .inr ⟨h0,bo,g,by rw [A6 hne];exact h1,rfl,Q8 hne,h3⟩
theorem N3.split {ty e n:Nat} {fo:Nat→AV} {s s0:St} {sv:AV} {b:Nat} {y:R9} (h:N3 ty e fo (upd s b y) n sv s0) (hb:s b=none):∃ s1,s1 b=none∧s0=upd s1 b y∧N3 ty e fo s n sv s1:=by
 rcases h with ⟨rfl,rfl,rfl⟩ | ⟨h0,bo,g,h1,rfl,rfl,h3⟩
 ·exact ⟨s,hb,rfl,N3.start _ _ _ _⟩
 ·have hne:bo≠b:=fun e=>by subst e;rw [A0] at h1;cases h1
  rw [A6 hne] at h1
  exact ⟨upd s bo ⟨ty,e,n,g⟩,by rw [A6 hne.symm];exact hb,Q8 hne.symm,.inr ⟨h0,bo,g,h1,rfl,rfl,h3⟩⟩
theorem D9 {R:St→St→Prop} (hR:J8 R) (ty e:Nat) (fo:Nat→AV) (n:Nat) (sv:AV):J8 fun s t=>ROut R ty e fo n s sv t where
 sup:=fun h=>h.sup hR
 begin:=fun {s t b y} ⟨s0,hc,h⟩ hb=>⟨upd s0 b y,N3.under hc ((hR.sup h).none hb),hR.begin h hb⟩
 grow:=fun {s t b b' y y'} ⟨s0,hc,h⟩ h0 hb=>by
  obtain ⟨s1,h1,rfl,hc1⟩:=N3.split hc h0
  obtain ⟨g1,g2⟩:=hR.grow (y':=y') h h1 hb
  exact ⟨N3.off hc1 g1,_,N3.under hc1 g1,g2⟩
 write:=fun {s t b y y'} ⟨s0,hc,h⟩ hb=>⟨_,N3.write hc hb,hR.write h (hc.sup b y hb)⟩
 forget:=fun {s t b y} ⟨s0,hc,h⟩ h0=>by
  obtain ⟨s1,h1,rfl,hc1⟩:=N3.split hc h0
  exact ⟨s1,hc1,hR.forget h h1⟩
 drop:=fun {s t b y} ⟨s0,hc,h⟩ h0=>by
  obtain ⟨s1,h1,rfl,hc1⟩:=N3.split hc h0
  exact ⟨s1,hc1,hR.drop h h1⟩
structure PSt where
 us:List B5
 deals:List A0S
 groups:List D6
abbrev A1b (l:List A0S):Nat→AV:=fun k=>A2Q (l.getD k default)
abbrev A6n (l:List D6):Nat→AV:=fun k=>eS (l.getD k default)
def IsP (items:List Ab.Item) (us:List B5) (dv gv:AV) (y:R9):Prop:=∃ f,y=⟨147,4,1,f⟩∧f 0=.agg [B1 4 F1 items,D1 us,dv,gv]
def RG (groups:List D6) (gv:AV):St→St→Prop:=fun s t=>ROut D8 9 1 (A6n groups) groups.length s gv t
def RD (deals:List A0S) (groups:List D6) (dv gv:AV):St→St→Prop:=fun s t=>ROut (RG groups gv) 134 2 (A1b deals) deals.length s dv t
def PxR (bx:Nat) (items:List Ab.Item) (p:PSt):St→St→Prop:=fun s t=>∃ v:AV×AV,V9 bx (IsP items p.us v.1 v.2) (RD p.deals p.groups v.1 v.2) s t
theorem A7d (groups:List D6) (gv:AV):J8 (RG groups gv):=D9 B2 _ _ _ _ _
theorem A2N (deals:List A0S) (groups:List D6) (dv gv:AV):J8 (RD deals groups dv gv):=D9 (A7d groups gv) _ _ _ _ _
theorem A4c (bx:Nat) (items:List Ab.Item) (p:PSt):J8 (PxR bx items p):=C0x fun _=>Z6 (A2N _ _ _ _)
theorem PxR.at {bx:Nat} {items:List Ab.Item} {p:PSt} {s t:St} (h:PxR bx items p s t):∃ dv gv f,t bx=some ⟨147,4,1,f⟩∧f 0=.agg [B1 4 F1 items,D1 p.us,dv,gv]∧(dv=.emp∨∃ b,dv=.own 2 b 0 p.deals.length)∧(gv=.emp∨∃ b,gv=.own 1 b 0 p.groups.length):=by
 obtain ⟨⟨dv,gv⟩,h⟩:=h
 obtain ⟨y,⟨f,rfl,hf⟩,hy⟩:=V9.at (A2N _ _ _ _) h
 obtain ⟨_,_,_,hd⟩:=h
 obtain ⟨s0,hc,hg⟩:=hd
 refine ⟨dv,gv,f,hy,hf,?_,?_⟩
 ·exact (show ROut (RG p.groups gv) _ _ _ _ _ dv t from ⟨s0,hc,hg⟩).head
 ·exact hg.head
def A1h (sc:T8) (items:List Ab.Item) (u:B5):Bool:=u.opn&&A9d sc (items.getD u.line.toNat default)
def J3 (sc:T8) (items:List Ab.Item) (us:List B5) (i:Nat):List Int:=((List.range i).filter fun k=>A1h sc items (gU us k)).map Int.ofNat
theorem B0h (sc:T8) (items:List Ab.Item) (us:List B5) (i:Nat):J3 sc items us (i+1)=J3 sc items us i++(if A1h sc items (gU us i)=true then [(i:Int)] else []):=by
 unfold J3
 rw [List.range_succ,List.filter_append,List.map_append]
 congr 1
 by_cases h:A1h sc items (gU us i)=true
 ·rw [if_pos h,List.filter_cons_of_pos (p:=fun k=>A1h sc items (gU us k)) h];rfl
 ·rw [if_neg h,List.filter_cons_of_neg (p:=fun k=>A1h sc items (gU us k)) h];rfl
theorem A2p (sc:T8) (items:List Ab.Item) (us:List B5) (i:Nat):(J3 sc items us i).length≤i:=by
 unfold J3
 rw [List.length_map]
 exact Nat.le_trans (List.length_filter_le ..) (by simp)
theorem A1e (sc:T8) (items:List Ab.Item) (us:List B5):N0 us (J3 sc items us us.length):=by
 have hmem:∀ k,k<(J3 sc items us us.length).length→∃ j:Nat,gI (J3 sc items us us.length) k=(j:Int)∧j<us.length∧A1h sc items (gU us j)=true:=fun k hk=>by
  have h:=B3 (l:=J3 sc items us us.length) hk
  obtain ⟨j,hj,he⟩:=List.mem_map.1 h
  obtain ⟨h1,h2⟩:=List.mem_filter.1 hj
  exact ⟨j,he.symm,List.mem_range.1 h1,h2⟩
 refine ⟨fun k hk=>?_,fun k hk=>?_,fun k hk=>?_⟩
 ·obtain ⟨j,e,h1,h2⟩:=hmem k hk
  rw [e];omega
 ·obtain ⟨j,e,h1,h2⟩:=hmem k hk
  rw [e]
  unfold A1h at h2
  rw [Bool.and_eq_true] at h2
  exact h2.1
 ·have hs:(J3 sc items us us.length).Pairwise (·<·):=by
   unfold J3
   refine List.Pairwise.map _ (fun a b h=>?_) ((List.pairwise_lt_range (n:=us.length)).filter _)
   show (a:Int)<(b:Int)
   omega
  have:=List.pairwise_iff_getElem.1 hs k (k+1) (by omega) hk (by omega)
  simpa [gI,hk,show k<(J3 sc items us us.length).length by omega] using this
theorem C1q (bx:Nat) (items:List Ab.Item) (p:PSt) (sc:T8) (h1:sc.skus.length≤20) (h2:sc.cats.length≤20) (hu:p.us.length≤100000) (hi:items.length≤100000) (hl:∀ u∈p.us,0≤u.line∧u.line.toNat<items.length) (s t:St) (h:PxR bx items p s t) :
  S P 239 [.optr 4 bx 0 0,A3f sc] t fun v t'=>v=A8 (J3 sc items p.us p.us.length)∧t'=t:=by
 refine S.post (post:=fun v t'=>∃ t1,D8 t t1∧N3 3 1 (fun k=>eI (gI (J3 sc items p.us p.us.length) k)) t1 (J3 sc items p.us p.us.length).length v t') ?_
  (fun v t' ⟨t1,hs,hc⟩=>⟨_,t,⟨rfl,rfl⟩,hc.shift.trans (hs.shift _)⟩)
 obtain ⟨dv,gv,fx,hx,hx0,hdv,hgv⟩:=h.at
 refine G0 [3,7,10] Tryz.func239 ?_
 refine F2 hx hx0 ?_
 refine ⟨[0,3,5,14,15,16],fun m vs t'=>∃ (i:Nat) (sv:AV),i≤items.length∧m=items.length - i∧vs=[.optr 4 bx 0 0,.fptr (A3f sc) 0,sv,B1 4 F1 items,eI items.length,eI i]∧N3 4 1 (fun k=>eB (A9d sc (items.getD k default))) t i sv t',?_,?_⟩
 ·conv=>whnf
  exact ⟨_,0,.emp,Nat.zero_le _,rfl,rfl,N3.start _ _ _ _⟩
 ·rintro m vs t' ⟨i,sv,hi2,rfl,rfl,hcol⟩
  conv=>whnf
  cases hd:decide ((i:Int)<(items.length:Int))
  ·have:=of_decide_eq_false hd
   obtain rfl:i=items.length:=by omega
   have hx':=hcol.sup bx _ hx
   conv=>whnf
   refine F2 hx' hx0 ?_
   refine ⟨[5,8,30,31,32],fun m vs t2=>∃ (k:Nat) (sv2:AV),k≤p.us.length∧m=p.us.length - k∧vs=[sv,sv2,D1 p.us,eI p.us.length,eI k]∧N3 3 1 (fun j=>eI (gI (J3 sc items p.us k) j)) t' (J3 sc items p.us k).length sv2 t2,?_,?_⟩
   ·conv=>whnf
    exact ⟨_,0,.emp,Nat.zero_le _,rfl,rfl,N3.start _ _ _ _⟩
   ·rintro m vs t2 ⟨k,sv2,hk,rfl,rfl,hcol2⟩
    have hpl:=A2p sc items p.us k
    conv=>whnf
    cases hd2:decide ((k:Int)<(p.us.length:Int))
    ·have:=of_decide_eq_false hd2
     obtain rfl:k=p.us.length:=by omega
     conv=>whnf
     exact ⟨t',hcol.sup,hcol2⟩
    ·have hk':k<p.us.length:=by have:=of_decide_eq_true hd2;omega
     have hlk:0≤(gU p.us k).line∧(gU p.us k).line.toNat<items.length:=hl _ (B3 (l:=p.us) hk')
     have es:=B0h sc items p.us k
     conv=>whnf
     refine E1 ?_
     have fin:∀ (sv3:AV) (t3:St),N3 3 1 (fun j=>eI (gI (J3 sc items p.us (k+1)) j)) t' (J3 sc items p.us (k+1)).length sv3 t3→∃ m',m'<p.us.length - k∧∃ (k_1:Nat) (sv2:AV),k_1≤p.us.length∧m'=p.us.length - k_1∧[sv,sv3,D1 p.us,eI p.us.length,eI (IntKind.i64.wrap ((k:Int)+1))]=[sv,sv2,D1 p.us,eI p.us.length,eI k_1]∧N3 3 1 (fun j=>eI (gI (J3 sc items p.us k_1) j)) t' (J3 sc items p.us k_1).length sv2 t3 :=
      fun sv3 t3 hc=>⟨p.us.length - (k+1),by omega,k+1,sv3,by omega,rfl,by rw [B8 (by omega)],hc⟩
     refine B9 (fun h3=>?_) (fun h3=>?_)<;>rw [h3]
     ·rcases hcol with ⟨h0,rfl,rfl⟩ | ⟨h0,b,g,hb,rfl,rfl,hg⟩
      ·exfalso;omega
      have hbt:=hcol2.sup b _ (A0 ..)
      have hgk:g (0+(gU p.us k).line.toNat)=eB (A9d sc (items.getD (gU p.us k).line.toNat default)):=by rw [Nat.zero_add];exact hg _ hlk.2
      conv=>whnf
      refine ⟨rfl,⟨by show 0≤(gU p.us k).line;exact hlk.1,by show (gU p.us k).line<(items.length:Int);have:=hlk.2;have:=hlk.1;omega⟩,?_⟩;conv=>whnf
      refine ldV hbt rfl (by show 0+(gU p.us k).line.toNat<_;have:=hlk.2;omega) hgk ?_;conv=>whnf
      refine B9 (fun h4=>?_) (fun h4=>?_)<;>rw [h4]
      ·have ho:A1h sc items (gU p.us k)=true:=by
        unfold A1h;rw [show (gU p.us k).opn=true from h3,h4];rfl
       rw [if_pos ho] at es
       have el:(J3 sc items p.us (k+1)).length=(J3 sc items p.us k).length+1:=by rw [es];simp
       conv=>whnf
       refine N3.app (q:=r3) rfl rfl rfl rfl rfl (f:=fun j=>eI (gI (J3 sc items p.us (k+1)) j)) (by simp only [es,A7k];rfl) (by show ((J3 sc items p.us k).length+1) * 8≤140737488355328;omega) (hcol2.congr fun j hj=>by rw [es,M9 hj]) (fun sv3 t3 hc3=>?_);conv=>whnf
       refine G7 ?_
       exact fin sv3 t3 (by rw [el];exact hc3)
      ·have ho:¬ A1h sc items (gU p.us k)=true:=by
        unfold A1h;rw [h4];simp
       rw [if_neg ho,List.append_nil] at es;conv=>whnf
       refine G7 ?_
       exact fin sv2 t2 (by rw [es];exact hcol2)
     ·have ho:¬ A1h sc items (gU p.us k)=true:=by
       unfold A1h;rw [show (gU p.us k).opn=false from h3];simp
      rw [if_neg ho,List.append_nil] at es;conv=>whnf
      refine G7 ?_
      exact fin sv2 t2 (by rw [es];exact hcol2)
  ·have hi':i<items.length:=by have:=of_decide_eq_true hd;omega
   conv=>whnf
   refine E1 ?_
   refine I2 (C6g sc (items.getD i default) h1 h2 _) ?_
   refine N3.app (q:=r4) rfl rfl rfl rfl rfl rfl (by show (i+1) * 1≤140737488355328;omega) hcol (fun sv' t2 hcol'=>?_);conv=>whnf
   refine G7 ?_
   exact ⟨items.length - (i+1),by omega,i+1,sv',by omega,rfl,by rw [B8 (by omega)],hcol'⟩
end Go.Proofs.YtbajhapmlfbelaaGreat
namespace Go.Proofs.YtbajhapmlfbelaaGreat
open Go Go.Ab Go.Proofs Go.Sort Go.Lib
attribute [local irreducible] upd del
def scF (x:Nat):Nat:=match x with
 | 43=>243
 | n=>n
def scT (x:Nat):Nat:=match x with
 | 22=>29
 | 23=>3
 | 0=>0
 | 3=>3
 | 4=>4
 | n=>n
def C8o:Go.Shelf.Ren:={ f:=scF,t:=scT,g:=fun n=>n }
theorem C5b:SlLaysE.n43 Tryz.prog C8o where
 mixed:=by kernel_rfl
 f43 := ⟨"slices.Compact[[]int,int]", by decide, Tryz.func243.trans (congrArg some (by kernel_rfl))⟩
 t0:=Tryz.underlying0
 a0:=Tryz.isAgg0
 z0:=Tryz.sizeOf0
 v0:=Tryz.zeroValue0
 t3:=Tryz.underlying3
 a3:=Tryz.isAgg3
 z3:=Tryz.sizeOf3
 v3:=Tryz.zeroValue3
 t4:=Tryz.underlying4
 a4:=Tryz.isAgg4
 z4:=Tryz.sizeOf4
 v4:=Tryz.zeroValue4
 t22:=Tryz.underlying29
 a22:=Tryz.isAgg29
 z22:=Tryz.sizeOf29
 v22:=Tryz.zeroValue29
 a23:=Tryz.isAgg3
 z23:=Tryz.sizeOf3
def V6 (l:List Int):List Int:=compactUpTo l.toArray l.length
def A7g (l:List Int):List Int:=V6 l++List.replicate (l.length - (V6 l).length) 0
theorem A8c (l:List Int):(V6 l).length≤l.length:=by
 unfold V6 compactUpTo
 rw [List.length_map]
 exact Nat.le_trans (List.length_filter_le ..) (by simp)
theorem B1P (l:List Int):(A7g l).length=l.length:=by
 have:=A8c l
 unfold A7g;rw [List.length_append,List.length_replicate];omega
def A5t (l':List Int):R9:=⟨3,1,l'.length,fun k=>eI (gI l' k)⟩
theorem C4p {st:St} {w:World} {b n:Nat} {l l':List Int} (hl:l'.length=l.length) (hb:A0o st b l) (hS:I3 st w) :
  Evo st w (upd st b (A5t l')) (putRow (Value.int .i64) (Sort.ahead w n) b 0 l'.toArray)∧I3 (upd st b (A5t l')) (putRow (Value.int .i64) (Sort.ahead w n) b 0 l'.toArray):=by
 obtain ⟨f,hst,hf⟩:=hb
 obtain ⟨cs,hok⟩:=hS b _ hst
 have hbl:b<w.heap.size:=(Array.getElem?_eq_some_iff.1 hok.heap).1
 have hsz:l.length * 1≤cs.size:=hok.size
 have hheap:∀ c,c<w.heap.size→(putRow (Value.int .i64) (Sort.ahead w n) b 0 l'.toArray).heap[c]?=if b=c then some (.cells (putCells (Value.int .i64) 0 l'.toArray cs) 3 (0,0)) else w.heap[c]?:=fun c hc=>by
  show (w.heap.modify b (onCells (putCells (Value.int .i64) 0 l'.toArray)))[c]?=_
  rw [Array.getElem?_modify]
  split
  ·rename_i e;subst e;rw [hok.heap];rfl
  ·rfl
 have hev:Evo st w (upd st b (A5t l')) (putRow (Value.int .i64) (Sort.ahead w n) b 0 l'.toArray):=by
  refine ⟨rfl,rfl,rfl,?_,fun c hc hs=>?_,fun c=>?_⟩
  ·show w.heap.size≤(w.heap.modify b _).size
   simp
  ·have hne:b≠c:=fun e=>by subst e;rw [hst] at hs;cases hs
   rw [hheap c hc,if_neg hne]
   exact ⟨rfl,by rw [A6 hne.symm];exact hs⟩
  ·by_cases hc:c<w.heap.size
   ·unfold A1E
    rw [hheap c hc]
    by_cases e:b=c
    ·subst e
     rw [hok.heap,if_pos rfl]
     simp [putCells]
    ·rw [if_neg e];exact Nat.le_refl _
   ·unfold A1E
    rw [Array.getElem?_eq_none (by omega)]
    exact Nat.zero_le _
 refine ⟨hev,fun c x hx=>?_⟩
 by_cases e:c=b
 ·subst e
  rw [A0] at hx
  cases hx
  refine ⟨putCells (Value.int .i64) 0 l'.toArray cs,?_,?_,fun i hi=>rfl,fun i hi=>rfl,fun i j y hi hy=>?_⟩
  ·rw [hheap c hbl,if_pos rfl];rfl
  ·show l'.length * 1≤_
   rw [hl]
   simpa [putCells] using hsz
  ·have hi':i<l'.length:=hi
   cases j with
   | succ j=>simp [A5t,cellsOf] at hy
   | zero =>
    have hy':y=eI (gI l' i):=by simpa [A5t,cellsOf] using hy.symm
    subst hy'
    refine ⟨.int .i64 (gI l' i),?_,.int _ _⟩
    show (putCells (Value.int .i64) 0 l'.toArray cs)[i * 1+0]?=_
    unfold putCells
    rw [Array.getElem?_mapIdx,Nat.mul_one,Nat.add_zero,Array.getElem?_eq_getElem (by omega),Option.map_some]
    rw [if_pos ⟨by omega,by simp;omega⟩,Nat.sub_zero]
    have:l'.toArray[i]! = gI l' i:=by
     rw [getElem!_pos _ i (by simp;omega)]
     simp [gI,hi']
    rw [this]
 ·rw [A6 e] at hx
  obtain ⟨ds,hd⟩:=hS c x hx
  have hcl:c<w.heap.size:=(Array.getElem?_eq_some_iff.1 hd.heap).1
  exact ⟨ds,hd.evo hev (by rw [hheap c hcl,if_neg (fun e'=>e e'.symm)])⟩
theorem C5T:OneCell (Value.int .i64):=fun x=>rfl
theorem B8w (b:Nat) (l:List Int) (hl:l.length≤4611686018427387904) (st:St) (hb:A0o st b l) :
  S P 243 [.own 1 b 0 l.length] st fun v st'=>v=.own 1 b 0 (V6 l).length∧st'=upd st b (A5t (A7g l)):=by
 refine ⟨C5b.f43.enters rfl,fun cargs w hr hS=>?_⟩
 obtain ⟨hlen,hr⟩:=hr
 have hb':=hb
 obtain ⟨f,hst,hf⟩:=hb'
 obtain ⟨cs,hok⟩:=hS b _ hst
 have h0:0<cargs.size:=by rw [←hlen];exact Nat.one_pos
 have ha:=hr 0 _ cargs[0] rfl (Array.getElem?_eq_getElem h0)
 have hc:∃ c,l.length≤c∧c≤A1E w b∧cargs=#[.slice (some ⟨b,0,none⟩) l.length c]:=by
  generalize hv:cargs[0]=v at ha
  cases ha with
  | own e b off n c hc hs =>
   refine ⟨c,hc,by simpa using hs,Array.ext (by rw [←hlen];rfl) fun i h1 h2=>?_⟩
   have:i=0:=by simp at h2;exact h2
   subst this;rw [hv];rfl
 obtain ⟨c,hlc,hcs,rfl⟩:=hc
 have hH:Holds (Value.int .i64) w b 0 l.toArray:=fun j hj=>by
  have hj':j<l.length:=by simpa using hj
  obtain ⟨x,hx,hrep⟩:=hok.cell j 0 (eI (gI l j)) hj' (by show (cellsOf (f j))[0]?=_;rw [hf j hj'];rfl)
  have hxx:x=.int .i64 (gI l j):=by cases hrep;rfl
  subst hxx
  have hg:l.toArray[j]! = gI l j:=by rw [getElem!_pos _ j (by simpa using hj')];simp [gI,hj']
  refine ⟨?_,?_⟩
  ·unfold World.cell?
   rw [hok.heap,hg]
   have:cs[j * 1+0]?=some (.int .i64 (gI l j)):=hx
   simpa using this
  ·unfold World.frozen?
   rw [hok.heap]
   simp
 have hcl:=A8c l
 have hK:=AnyE.slices_Compact C5b (Value.int .i64) C5T (EqlAt.intD P _ .i64) (NeqAt.intD P _ .i64) 0 Tryz.zeroValue3 b 0 c l.toArray w hH (by simp;omega) (by simpa using hlc)
 rw [show l.toArray.size=l.length from by simp] at hK
 refine hK.mono ?_
 rintro e w' ⟨rfl,n,rfl⟩
 obtain ⟨h1,h2⟩:=C4p (n:=n) (B1P l) hb hS
 refine ⟨.own 1 b 0 (V6 l).length,_,_,⟨rfl,rfl⟩,rfl,?_,h2,h1⟩
 have hr2:K6 w st (.own 1 b 0 (V6 l).length) (.slice (some ⟨b,0 * 1,none⟩) (V6 l).length c):=.own 1 b 0 _ c (Nat.le_trans hcl hlc) (by simpa using hcs)
 exact h1.rep hr2
theorem B5P (st:St):S P 243 [.emp] st fun v st'=>v=.emp∧st'=st:=by
 refine G0 [] Tryz.func243 ?_
 exact ⟨rfl,rfl⟩
theorem C3G {l:List Int} {k:Nat} (h:k<(V6 l).length):gI (A7g l) k=gI (V6 l) k:=by
 unfold A7g;exact M9 h
end Go.Proofs.YtbajhapmlfbelaaGreat
