/- Part 23 of the proof: contracts of the functions that the law reaches -/
import Derived.Test.YtbajhapmlfbelaaGreatRr22
import Derived.Shelf.SlicesE.Compact
set_option maxRecDepth 100000
set_option linter.unusedVariables false
set_option linter.unusedSimpArgs false
namespace Go.Proofs.YtbajhapmlfbelaaGreat
open Go Go.Ab
attribute [local irreducible] upd del
structure MkD where
 p:B1
 us:List A8
 bm:Nat
 bu:Nat
 br:Nat
 n:Nat
 q:Nat→Nat
def IsM (d:MkD) (len:Nat) (y:N9):Prop:=∃ f,y=⟨349,18,1,f⟩∧f 0=.agg (T8 d.p++[C0 d.us,.own 1 d.bu 0 len,.own 1 d.br 0 d.n])
def B4l (used:List Bool) (y:N9):Prop:=∃ g,y=⟨4,1,used.length,g⟩∧∀ k,k<used.length→g k=eB (used.getD k default)
def A8k (d:MkD) (y:N9):Prop:=∃ g,y=⟨216,1,d.n,g⟩∧∀ k,k<d.n→g k=.optr 1 (d.q k) 0 0
def MkR (d:MkD) (used:List Bool) (es:Nat→List QE):St→St→Prop:=V1 d.bm (IsM d used.length) (V1 d.bu (B4l used) (V1 d.br (A8k d) (Qs d.n d.q es)))
theorem B1U (d:MkD) (used:List Bool) (es:Nat→List QE):G5 (MkR d used es):=A0d (A0d (A0d (Y7 _ _ _)))
theorem MkR.facts {d:MkD} {used:List Bool} {es:Nat→List QE} {s t:St} (h:MkR d used es s t) :
  (∃ f,t d.bm=some ⟨349,18,1,f⟩∧f 0=.agg (T8 d.p++[C0 d.us,.own 1 d.bu 0 used.length,.own 1 d.br 0 d.n])) ∧
  (∃ g,t d.bu=some ⟨4,1,used.length,g⟩∧∀ k,k<used.length→g k=eB (used.getD k default)) ∧
  (∃ g,t d.br=some ⟨216,1,d.n,g⟩∧∀ k,k<d.n→g k=.optr 1 (d.q k) 0 0):=by
 have b1:=Y7 d.n d.q es
 have b2:G5 (V1 d.br (A8k d) (Qs d.n d.q es)):=A0d b1
 have b3:G5 (V1 d.bu (B4l used) (V1 d.br (A8k d) (Qs d.n d.q es))):=A0d b2
 obtain ⟨y1,⟨f,rfl,hf⟩,h1⟩:=V1.at b3 h
 obtain ⟨_,_,_,h⟩:=h
 obtain ⟨y2,⟨g,rfl,hg⟩,h2⟩:=V1.at b2 h
 obtain ⟨_,_,_,h⟩:=h
 obtain ⟨y3,⟨k,rfl,hk⟩,h3⟩:=V1.at b1 h
 exact ⟨⟨f,h1,hf⟩,⟨g,h2,hg⟩,⟨k,h3,hk⟩⟩
theorem MkR.pop_S {d:MkD} {used:List Bool} {es:Nat→List QE} {s t:St} (h:MkR d used es s t) {k:Nat} (hk:k<d.n) {x:QE} {rest:List QE} (he:es k=x::rest) (htop:∀ y∈rest,E1 y x=false) :
  S P 149 [.optr 1 (d.q k) 0 0] t fun v t'=>v=.tuple [eI x.1,eI x.2,.bool true]∧MkR d used (O9 es k rest) s t':=by
 obtain ⟨h1,y1,e1,h2,y2,e2,h3,y3,e3,hq⟩:=h
 exact (hq.pop_S hk he htop).mono fun v t' hv=>⟨hv.1,h1,y1,e1,h2,y2,e2,h3,y3,e3,hv.2⟩
theorem MkR.pop0_S {d:MkD} {used:List Bool} {es:Nat→List QE} {s t:St} (h:MkR d used es s t) {k:Nat} (hk:k<d.n) (he:es k=[]) :
  S P 149 [.optr 1 (d.q k) 0 0] t fun v t'=>v=.tuple [eI 0,eI 0,.bool false]∧t'=t:=by
 obtain ⟨h1,y1,e1,h2,y2,e2,h3,y3,e3,hq⟩:=h
 exact hq.pop0_S hk he
theorem MkR.use {d:MkD} {used:List Bool} {es:Nat→List QE} {s t:St} (h:MkR d used es s t) {i:Nat} (hi:i<used.length) {g:Nat→AV} (hb:t d.bu=some ⟨4,1,used.length,g⟩) (hg:∀ k,k<used.length→g k=eB (used.getD k default)) :
  MkR d (used.set i true) es s (upd t d.bu ⟨4,1,used.length,M1 g i (eB true)⟩):=by
 have b1:=Y7 d.n d.q es
 have b2:G5 (V1 d.br (A8k d) (Qs d.n d.q es)):=A0d b1
 unfold MkR at h ⊢
 rw [List.length_set]
 refine h.map fun s h=>V1.set b2 h ⟨M1 g i (eB true),by rw [List.length_set],fun k hk=>?_⟩
 rw [List.length_set] at hk
 by_cases e:k=i
 ·subst e;rw [A9];simp [hi]
 ·rw [O2 e,hg k hk]
  congr 1
  simp only [List.getD_eq_getElem?_getD]
  rw [List.getElem?_set_ne (fun e'=>e e'.symm)]
def J1 (used:List Bool):List QE→Option Int×List QE
 | []=>(none,[])
 | e::es=>if used.getD e.2.toNat default=true then J1 used es else (some e.2,es)
def C5j (used:List Bool):Option Int→List Bool
 | none=>used
 | some i=>used.set i.toNat true
def C2f:Option Int→AV
 | none=>.tuple [eI 0,eB false]
 | some i=>.tuple [eI i,eB true]
theorem B1a {α : Type} (f:Nat→α) (i:Nat) (u v : α):O9 (O9 f i u) i v=O9 f i v:=by
 funext k;unfold O9;split<;>rfl
theorem B3i {α : Type} (f:Nat→α) (i:Nat):O9 f i (f i)=f:=by
 funext k;unfold O9;split
 ·rename_i e;rw [e]
 ·rfl
theorem B9Q (d:MkD) (used:List Bool) (es:Nat→List QE) (s t:St) (h:MkR d used es s t) (k:Nat) (hk:k<d.n) (hr:∀ e∈es k,0≤e.2∧e.2.toNat<used.length) (hs:(es k).Pairwise fun a b=>E1 b a=false) :
  S P 335 [.optr 18 d.bm 0 0,eI k] t fun v t'=>v=C2f (J1 used (es k)).1∧MkR d (C5j used (J1 used (es k)).1) (O9 es k (J1 used (es k)).2) s t':=by
 refine D6 [] Tryz.func335 ?_
 refine ⟨[0,1],fun m vs t'=>∃ l:List QE,m=l.length∧vs=[.optr 18 d.bm 0 0,eI k]∧J1 used l=J1 used (es k)∧(∀ e∈l,0≤e.2∧e.2.toNat<used.length)∧(l.Pairwise fun a b=>E1 b a=false)∧MkR d used (O9 es k l) s t',?_,?_⟩
 ·conv=>whnf
  exact ⟨_,es k,rfl,rfl,rfl,hr,hs,by rw [B3i];exact h⟩
 ·clear h hr hs
  rintro m vs t' ⟨l,rfl,rfl,hF,hr,hs,h⟩
  rw [←hF]
  obtain ⟨⟨fm,hm,hm0⟩,⟨fu,hu,huf⟩,⟨fr,hb,hbf⟩⟩:=h.facts
  conv=>whnf
  refine J5 hm hm0 ?_
  refine I3 ?_
  refine ldV hb rfl (by omega) (v:=.optr 1 (d.q k) 0 0) (by rw [show 0+(k:Int).toNat=k by omega];exact hbf k hk) ?_;conv=>whnf
  cases l with
  | nil =>
   refine I7 (h.pop0_S hk (C6 ..)) ?_
   exact ⟨rfl,h⟩
  | cons x l =>
   rw [List.pairwise_cons] at hs
   refine call (h.pop_S hk (C6 ..) hs.1) (fun v t2 hv=>?_)
   obtain ⟨rfl,h'⟩:=hv
   rw [B1a] at h'
   obtain ⟨⟨fm',hm',hm0'⟩,⟨fu',hu',huf'⟩,_⟩:=h'.facts
   have hx:=hr x (List.mem_cons_self ..)
   have hux:fu' (0+x.2.toNat)=eB (used.getD x.2.toNat default):=by rw [Nat.zero_add];exact huf' _ hx.2
   conv=>whnf
   refine J5 hm' hm0' ?_
   refine I3 ?_
   refine J5 hu' hux ?_
   cases hx1:used.getD x.2.toNat default with
   | true =>
    conv=>whnf
    refine H4 ?_
    refine ⟨l.length,Nat.lt_succ_self _,l,rfl,rfl,?_,fun e he=>hr e (List.mem_cons_of_mem _ he),hs.2,h'⟩
    show _=if used.getD x.2.toNat default=true then J1 used l else (some x.2,l)
    rw [hx1,if_pos rfl]
   | false =>
    have hT:J1 used (x::l)=(some x.2,l):=by
     show (if used.getD x.2.toNat default=true then J1 used l else (some x.2,l))=_
     rw [hx1,if_neg (by simp)]
    rw [hT];conv=>whnf
    refine J5 hm' hm0' ?_
    refine I3 ?_
    refine stW hu' hux ?_
    refine ⟨rfl,?_⟩
    rw [Nat.zero_add]
    exact h'.use hx.2 hu' huf'
end Go.Proofs.YtbajhapmlfbelaaGreat
namespace Go.Proofs.YtbajhapmlfbelaaGreat
open Go Go.Ab Go.Proofs Go.Sort
attribute [local irreducible] upd del
def C5 (l:List Int):List Int:=l.mergeSort fun x y=>decide (x≤y)
theorem A1x (l:List Int):(C5 l).Perm l:=List.mergeSort_perm ..
theorem M9 (l:List Int):(C5 l).length=l.length:=(A1x l).length_eq
def A6L (l:List Int):N9:=⟨3,1,l.length,fun k=>eI (gI (C5 l) k)⟩
theorem B6a {st:St} {w:World} {b n:Nat} {l:List Int} {os:Array Obj} (hb:A1M st b l) (hS:C9 st w) :
  P2 st w (upd st b (A6L l)) (grow (putRow (Value.int .i64) (Sort.ahead w n) b 0 (C5 l).toArray) os)∧C9 (upd st b (A6L l)) (grow (putRow (Value.int .i64) (Sort.ahead w n) b 0 (C5 l).toArray) os):=by
 obtain ⟨f,hst,hf⟩:=hb
 obtain ⟨cs,hok⟩:=hS b _ hst
 have hbl:b<w.heap.size:=(Array.getElem?_eq_some_iff.1 hok.heap).1
 have hsz:l.length * 1≤cs.size:=hok.size
 have hheap:∀ c,c<w.heap.size→(grow (putRow (Value.int .i64) (Sort.ahead w n) b 0 (C5 l).toArray) os).heap[c]?=if b=c then some (.cells (putCells (Value.int .i64) 0 (C5 l).toArray cs) 3 (0,0)) else w.heap[c]?:=fun c hc=>by
  show ((w.heap.modify b (onCells (putCells (Value.int .i64) 0 (C5 l).toArray)))++os)[c]?=_
  rw [Array.getElem?_append_left (by simpa using hc),Array.getElem?_modify]
  split
  ·rename_i e;subst e;rw [hok.heap];rfl
  ·rfl
 have hev:P2 st w (upd st b (A6L l)) (grow (putRow (Value.int .i64) (Sort.ahead w n) b 0 (C5 l).toArray) os):=by
  refine ⟨rfl,rfl,rfl,?_,fun c hc hs=>?_,fun c=>?_⟩
  ·show w.heap.size≤((w.heap.modify b _)++os).size
   simp
  ·have hne:b≠c:=fun e=>by subst e;rw [hst] at hs;cases hs
   rw [hheap c hc,if_neg hne]
   exact ⟨rfl,by rw [A3 hne.symm];exact hs⟩
  ·by_cases hc:c<w.heap.size
   ·unfold U7
    rw [hheap c hc]
    by_cases e:b=c
    ·subst e
     rw [hok.heap,if_pos rfl]
     simp [putCells]
    ·rw [if_neg e];exact Nat.le_refl _
   ·unfold U7
    rw [Array.getElem?_eq_none (by omega)]
    exact Nat.zero_le _
 refine ⟨hev,fun c x hx=>?_⟩
 by_cases e:c=b
 ·subst e
  rw [A0] at hx
  cases hx
  refine ⟨putCells (Value.int .i64) 0 (C5 l).toArray cs,?_,?_,fun i hi=>rfl,fun i hi=>rfl,fun i j y hi hy=>?_⟩
  ·rw [hheap c hbl,if_pos rfl];rfl
  ·show l.length * 1≤_
   simpa [putCells] using hsz
  ·have hi':i<l.length:=hi
   cases j with
   | succ j=>simp [A6L,cellsOf] at hy
   | zero =>
    have hy':y=eI (gI (C5 l) i):=by simpa [A6L,cellsOf] using hy.symm
    subst hy'
    refine ⟨.int .i64 (gI (C5 l) i),?_,.int _ _⟩
    show (putCells (Value.int .i64) 0 (C5 l).toArray cs)[i * 1+0]?=_
    unfold putCells
    rw [Array.getElem?_mapIdx,Nat.mul_one,Nat.add_zero,Array.getElem?_eq_getElem (by omega),Option.map_some]
    rw [if_pos ⟨by omega,by simp [M9];omega⟩,Nat.sub_zero]
    have:(C5 l).toArray[i]! = gI (C5 l) i:=by
     have hl:=M9 l
     rw [getElem!_pos _ i (by simp [hl];omega)]
     simp [gI,show i<(C5 l).length by omega]
    rw [this]
 ·rw [A3 e] at hx
  obtain ⟨ds,hd⟩:=hS c x hx
  have hcl:c<w.heap.size:=(Array.getElem?_eq_some_iff.1 hd.heap).1
  exact ⟨ds,hd.evo hev (by rw [hheap c hcl,if_neg (fun e'=>e e'.symm)])⟩
theorem B9M (b:Nat) (l:List Int) (hl:l.length<4611686018427387904) (st:St) (hb:A1M st b l) :
  S P 100 [.own 1 b 0 l.length] st fun v st'=>v=.tuple []∧st'=upd st b (A6L l):=by
 refine ⟨B2B.f5.enters rfl,fun cargs w hr hS=>?_⟩
 obtain ⟨hlen,hr⟩:=hr
 have hb':=hb
 obtain ⟨f,hst,hf⟩:=hb'
 obtain ⟨cs,hok⟩:=hS b _ hst
 have h0:0<cargs.size:=by rw [←hlen];exact Nat.one_pos
 have ha:=hr 0 _ cargs[0] rfl (Array.getElem?_eq_getElem h0)
 have hc:∃ c,cargs=#[.slice (some ⟨b,0,none⟩) l.length c]:=by
  generalize hv:cargs[0]=v at ha
  cases ha with
  | own e b off n c hc hs =>
   refine ⟨c,Array.ext (by rw [←hlen];rfl) fun i h1 h2=>?_⟩
   have:i=0:=by simp at h2;exact h2
   subst this;rw [hv];rfl
 obtain ⟨c,rfl⟩:=hc
 have hH:Holds (Value.int .i64) w b 0 l.toArray:=fun j hj=>by
  have hj':j<l.length:=by simpa using hj
  obtain ⟨x,hx,hrep⟩:=hok.cell j 0 (eI (gI l j)) hj' (by show (cellsOf (f j))[0]?=_;rw [hf j hj'];rfl)
  have hxx:x=.int .i64 (gI l j):=by cases hrep;rfl
  subst hxx
  have hg:l.toArray[j]! = gI l j:=by rw [getElem!_pos _ j (by simpa using hj')];simp [gI,hj']
  refine ⟨?_,?_⟩
  ·unfold World.cell?
   rw [hok.heap,hg]
   have:cs[j * 1+0]?=some (.int .i64 (gI l j)):=hx
   simpa using this
  ·unfold World.frozen?
   rw [hok.heap]
   simp
 have hbl:b<w.heap.size:=(Array.getElem?_eq_some_iff.1 hok.heap).1
 refine (AnyM.slices_Sort_int B2B b 0 c l w hH hbl hl).mono ?_
 rintro e w' ⟨rfl,n,os,rfl⟩
 obtain ⟨h1,h2⟩:=B6a (n:=n) (os:=os) hb hS
 exact ⟨.tuple [],.tuple #[],_,⟨rfl,rfl⟩,rfl,.tuple [] #[] rfl (fun j y c hy=>by simp at hy),h2,h1⟩
theorem B7W (st:St):S P 100 [.emp] st fun v st'=>v=.tuple []∧st'=st:=by
 refine ⟨B2B.f5.enters rfl,fun cargs w hr hS=>?_⟩
 obtain ⟨hlen,hr⟩:=hr
 have h0:0<cargs.size:=by rw [←hlen];exact Nat.one_pos
 have ha:=hr 0 _ cargs[0] rfl (Array.getElem?_eq_getElem h0)
 have hc:∃ A,cargs=#[.slice A 0 0]:=by
  generalize hv:cargs[0]=v at ha
  cases ha with
  | emp A =>
   refine ⟨A,Array.ext (by rw [←hlen];rfl) fun i h1 h2=>?_⟩
   have:i=0:=by simp at h2;exact h2
   subst this;rw [hv];rfl
 obtain ⟨A,rfl⟩:=hc
 refine (AnyM.slices_Sort_int_none B2B A 0 w).mono ?_
 rintro e w' ⟨rfl,rfl⟩
 exact ⟨.tuple [],.tuple #[],_,⟨rfl,rfl⟩,rfl,.tuple [] #[] rfl (fun j y c hy=>by simp at hy),hS,P2.refl _ _⟩
theorem A8e {R:St→St→Prop} (hR:G5 R) {l:List Int} {s t:St} {sv:AV} (hl:l.length<4611686018427387904) (h:ROut R 3 1 (fun k=>eI (gI l k)) l.length s sv t) :
  S P 100 [sv] t fun v t'=>v=.tuple []∧ROut R 3 1 (fun k=>eI (gI (C5 l) k)) l.length s sv t':=by
 obtain ⟨s0,hc,h⟩:=h
 rcases hc with ⟨h0,rfl,rfl⟩ | ⟨h0,bo,g,h1,rfl,rfl,h3⟩
 ·exact (B7W t).mono fun v t' hv=>⟨hv.1,by rw [h0];exact ⟨s0,I2.start _ _ _ _,by rw [hv.2];exact h⟩⟩
 ·have hby:=hR.sup h bo _ (A0 ..)
  refine (B9M bo l hl t ⟨g,hby,h3⟩).mono fun v t' hv=>⟨hv.1,_,.inr ⟨h0,bo,fun k=>eI (gI (C5 l) k),h1,rfl,rfl,fun k hk=>rfl⟩,?_⟩
  rw [hv.2]
  have:=hR.write (y':=A6L l) h (A0 ..)
  rw [E4] at this;exact this
end Go.Proofs.YtbajhapmlfbelaaGreat
namespace Go.Proofs.YtbajhapmlfbelaaGreat
open Go Go.Ab
attribute [local irreducible] upd del
structure MSt where
 used:List Bool
 es:Nat→List QE
 l:List Int
def V8 (k:Nat) (s:MSt):Option MSt:=match (J1 s.used (s.es k)).1 with
 | none=>none
 | some i=>some ⟨s.used.set i.toNat true,O9 s.es k (J1 s.used (s.es k)).2,s.l++[i]⟩
def P1 (k:Nat):Nat→MSt→Option MSt
 | 0,s=>some s
 | c+1,s=>(P1 k c s).bind (V8 k)
def H6 (parts:List A3C):Nat→MSt→Option MSt
 | 0,s=>some s
 | k+1,s=>(H6 parts k s).bind (P1 k (parts.getD k default).count.toNat)
theorem A5f {k:Nat} {s:MSt}:∀ {c j:Nat},P1 k j s=none→j≤c→P1 k c s=none
 | 0,j,h,hj=>by
  have:j=0:=by omega
  subst this;exact h
 | c+1,j,h,hj=>by
  rcases Nat.lt_or_ge c j with h1 | h1
  ·have:j=c+1:=by omega
   subst this;exact h
  ·unfold P1;rw [A5f h h1];rfl
theorem A4Y {parts:List A3C} {s:MSt}:∀ {c j:Nat},H6 parts j s=none→j≤c→H6 parts c s=none
 | 0,j,h,hj=>by
  have:j=0:=by omega
  subst this;exact h
 | c+1,j,h,hj=>by
  rcases Nat.lt_or_ge c j with h1 | h1
  ·have:j=c+1:=by omega
   subst this;exact h
  ·unfold H6;rw [A4Y h h1];rfl
structure MOk (us:List A8) (n:Nat) (s:MSt):Prop where
 len:s.used.length=us.length
 rng:∀ k,k<n→∀ e∈s.es k,0≤e.2∧e.2.toNat<us.length
 srt:∀ k,k<n→(s.es k).Pairwise fun a b=>E1 b a=false
 mem:∀ x∈s.l,0≤x∧x.toNat<us.length
theorem Z9 (used:List Bool) (l:List QE):(∃ pre,l=pre++(match (J1 used l).1 with | none=>[] | some i=>(match l.find? (fun e=>!used.getD e.2.toNat default) with | none=>[] | some e=>[e]))++(J1 used l).2) ∧
  (∀ i,(J1 used l).1=some i→∃ e∈l,e.2=i∧used.getD i.toNat default=false)∧((J1 used l).2.Sublist l)∧((J1 used l).1≠none→(J1 used l).2.length<l.length):=by
 induction l with
 | nil=>exact ⟨⟨[],rfl⟩,(fun i h=>by cases h),List.Sublist.refl _,fun h=>absurd rfl h⟩
 | cons e l ih =>
  obtain ⟨⟨pre,h1⟩,h2,h3,h4⟩:=ih
  by_cases hu:used.getD e.2.toNat default=true
  ·have ht:J1 used (e::l)=J1 used l:=by
    show (if used.getD e.2.toNat default=true then J1 used l else (some e.2,l))=_
    rw [if_pos hu]
   rw [ht]
   refine ⟨⟨e::pre,?_⟩,fun i hi=>?_,h3.cons _,fun h=>by have:=h4 h;simp;omega⟩
   ·rw [List.find?_cons_of_neg (by rw [hu];simp)]
    rw [List.cons_append,List.cons_append,←h1]
   ·obtain ⟨x,hx,hx2⟩:=h2 i hi
    exact ⟨x,List.mem_cons_of_mem _ hx,hx2⟩
  ·have ht:J1 used (e::l)=(some e.2,l):=by
    show (if used.getD e.2.toNat default=true then J1 used l else (some e.2,l))=_
    rw [if_neg hu]
   rw [ht]
   refine ⟨⟨[],?_⟩,fun i hi=>?_,List.sublist_cons_self _ _,fun _=>by simp⟩
   ·rw [List.find?_cons_of_pos (by rw [Bool.eq_false_iff.2 hu];rfl)];rfl
   ·have:e.2=i:=by simpa using hi
    exact ⟨e,List.mem_cons_self ..,this,by rw [←this];exact Bool.eq_false_iff.2 hu⟩
theorem MOk.take {us:List A8} {n:Nat} {s s':MSt} (h:MOk us n s) {k:Nat} (hk:k<n) (ht:V8 k s=some s'):MOk us n s':=by
 obtain ⟨_,t2,t3,_⟩:=Z9 s.used (s.es k)
 unfold V8 at ht
 split at ht
 ·cases ht
 ·rename_i i hi
  cases ht
  obtain ⟨e,he,rfl,hu⟩:=t2 i hi
  have hr:=h.rng k hk e he
  refine ⟨by rw [List.length_set];exact h.len,fun j hj x hx=>?_,fun j hj=>?_,fun x hx=>?_⟩
  ·by_cases ej:j=k
   ·subst ej;rw [show (MSt.es _ j)=_ from rfl] at hx;simp only [C6] at hx;exact h.rng j hj x (t3.subset hx)
   ·simp only [F3 ej] at hx;exact h.rng j hj x hx
  ·by_cases ej:j=k
   ·subst ej;simp only [C6];exact (h.srt j hj).sublist t3
   ·simp only [F3 ej];exact h.srt j hj
  ·rcases List.mem_append.1 hx with hx | hx
   ·exact h.mem x hx
   ·rw [List.mem_singleton] at hx;rw [hx];exact hr
theorem B3S {k:Nat} {s s':MSt} (ht:V8 k s=some s'):s'.l.length=s.l.length+1:=by
 unfold V8 at ht
 split at ht
 ·cases ht
 ·cases ht;simp
theorem A0a {k:Nat} {s:MSt}:∀ {c:Nat} {s':MSt},P1 k c s=some s'→s'.l.length=s.l.length+c
 | 0,s',h=>by cases h;rfl
 | c+1,s',h=>by
  unfold P1 at h
  obtain ⟨s1,h1,h2⟩:=Option.bind_eq_some_iff.1 h
  rw [B3S h2,A0a h1];omega
theorem MOk.takes {us:List A8} {n:Nat} {s:MSt} (h:MOk us n s) {k:Nat} (hk:k<n):∀ {c:Nat} {s':MSt},P1 k c s=some s'→MOk us n s'
 | 0,s',e=>by cases e;exact h
 | c+1,s',e=>by
  unfold P1 at e
  obtain ⟨s1,h1,h2⟩:=Option.bind_eq_some_iff.1 e
  exact (h.takes hk h1).take hk h2
structure A2S (p:B1):Prop where
 n1:1≤p.parts.length
 n8:p.parts.length≤8
 cnt:∀ x∈p.parts,1≤x.count∧x.count≤100
 amt:0≤p.amount∧p.amount≤10000000000000
theorem A2S.at {p:B1} (h:A2S p) {k:Nat} (hk:k<p.parts.length):1≤(p.parts.getD k default).count∧(p.parts.getD k default).count≤100:=h.cnt _ (A7 hk)
theorem MOk.parts {us:List A8} {p:B1} {s:MSt} (h:MOk us p.parts.length s):∀ {k:Nat} {s':MSt},k≤p.parts.length→H6 p.parts k s=some s'→MOk us p.parts.length s'
 | 0,s',_,e=>by cases e;exact h
 | k+1,s',hk,e=>by
  unfold H6 at e
  obtain ⟨s1,h1,h2⟩:=Option.bind_eq_some_iff.1 e
  exact (MOk.parts h (by omega) h1).takes (by omega) h2
theorem A1t {p:B1} (hp:A2S p) {s:MSt}:∀ {k:Nat} {s':MSt},k≤p.parts.length→H6 p.parts k s=some s'→s'.l.length≤s.l.length+100 * k
 | 0,s',_,e=>by cases e;omega
 | k+1,s',hk,e=>by
  unfold H6 at e
  obtain ⟨s1,h1,h2⟩:=Option.bind_eq_some_iff.1 e
  have:=A1t hp (by omega) h1
  have:=A0a h2
  have:=hp.at (show k<p.parts.length by omega)
  omega
def F8 (us:List A8) (l:List Int):Int:=A2 (l.map fun i=>(gU us i.toNat).net)
theorem B2Z (us:List A8) (l:List Int) (i:Int):F8 us (l++[i])=F8 us l+(gU us i.toNat).net:=by
 unfold F8;rw [List.map_append,E5];simp [A2]
theorem A0e {us:List A8} (hu:C1 us) (l:List Int) (hl:∀ x∈l,0≤x∧x.toNat<us.length):0≤F8 us l∧F8 us l≤10000000000000 * l.length:=by
 unfold F8
 have c1:∀ (y:Int) (r:List Int),A2 (y::r)=y+A2 r:=fun y r=>by
  have:=E5 [y] r
  rw [List.singleton_append] at this
  rw [this];simp [A2]
 induction l with
 | nil=>exact ⟨Int.le_refl _,by simp [A2]⟩
 | cons x l ih =>
  have h1:=ih (fun y hy=>hl y (List.mem_cons_of_mem _ hy))
  have h2:=hl x (List.mem_cons_self ..)
  have h3:0≤(gU us x.toNat).net:=hu.pos _ (A7 h2.2)
  have h4:(gU us x.toNat).net≤10000000000000:=hu.le (A7 h2.2)
  rw [List.map_cons,c1,List.length_cons]
  omega
theorem B9o (d:MkD) (hn:d.n=d.p.parts.length) (hp:A2S d.p) (hu:C1 d.us) (ms:MSt) (hl0:ms.l=[]) (hm:MOk d.us d.n ms) (s t:St) (h:MkR d ms.used ms.es s t) :
  S P 296 [.optr 18 d.bm 0 0] t fun v t'=>match H6 d.p.parts d.n ms with
   | none=>v=.tuple [.emp,eI 0,eB false]∧E7 s t'
   | some ms'=>v=.tuple [B4 (C5 ms'.l),eI (F8 d.us ms'.l - d.p.amount),eB (decide (F8 d.us ms'.l>d.p.amount))]∧MkR d ms'.used ms'.es s t':=by
 have hB:=fun (u:List Bool) (es:Nat→List QE)=>B1U d u es
 refine S.post (post:=fun v t'=>match H6 d.p.parts d.n ms with
   | none=>v=.tuple [.emp,eI 0,eB false]∧E7 s t'
   | some ms'=>∃ sv,v=.tuple [sv,eI (F8 d.us ms'.l - d.p.amount),eB (decide (F8 d.us ms'.l>d.p.amount))]∧ROut (MkR d ms'.used ms'.es) 3 1 (fun k=>eI (gI (C5 ms'.l) k)) ms'.l.length s sv t') ?_
  (fun v t' hv=>by
   cases hF:H6 d.p.parts d.n ms with
   | none=>rw [hF] at hv;exact ⟨v,t',hv,A4.refl _ _⟩
   | some ms' =>
    rw [hF] at hv
    obtain ⟨sv,rfl,hout⟩:=hv
    obtain ⟨t'',h1,h2⟩:=hout.shift (hB _ _)
    refine ⟨_,t'',⟨rfl,h2⟩,A4.tuple (A4.cons (h1.trans ?_) (A4.keep _ _)) rfl⟩
    have e:B4 (C5 ms'.l)=.arr 1 ms'.l.length (fun k=>eI (gI (C5 ms'.l) k)):=by unfold B4 A6;rw [M9]
    rw [e];exact A4.keep _ _)
 have hp8:=hp.n8
 refine SyW [8] Tryz.func296 ?_
 obtain ⟨⟨fm,hmb,hm0⟩,_,_⟩:=h.facts
 conv=>whnf
 refine J5 hmb hm0 ?_
 refine ⟨[0,5,6,15,16,17],fun m vs t'=>∃ (k:Nat) (ms':MSt) (sv:AV),k≤d.n∧m=d.n - k∧vs=[.optr 18 d.bm 0 0,sv,eI (F8 d.us ms'.l),A6 3 A0I d.p.parts,eI d.p.parts.length,eI k]∧H6 d.p.parts k ms=some ms'∧ROut (MkR d ms'.used ms'.es) 3 1 (fun j=>eI (gI ms'.l j)) ms'.l.length s sv t',?_,?_⟩
 ·conv=>whnf
  refine ⟨_,0,ms,.emp,Nat.zero_le _,rfl,?_,rfl,?_⟩
  ·rw [hl0];rfl
  ·rw [hl0];exact ROut.start h _ _ _
 ·clear h hmb hm0
  rintro m vs t' ⟨k,ms1,sv,hk,rfl,rfl,hF,hout⟩
  have hok:=MOk.parts (hn▸hm) (hn▸hk) hF
  have hlen:=A1t hp (hn▸hk) hF
  rw [hl0,List.length_nil] at hlen
  have hcb:=A0e hu ms1.l hok.mem
  conv=>whnf
  cases h2:decide ((k:Int)<(d.p.parts.length:Int))
  ·have:=of_decide_eq_false h2
   obtain rfl:k=d.n:=by omega
   rw [hF];conv=>whnf
   refine call (A8e (hB _ _) (by omega) hout) (fun v t2 hv=>?_)
   obtain ⟨rfl,hout2⟩:=hv
   obtain ⟨⟨fm,hmb,hm0⟩,_,_⟩:=(hout2.dropped (hB _ _)).facts
   conv=>whnf
   refine ⟨[],[],[0,1,2,3,4,5,6,7,8,9,10,11,12,13,14,15,16,17],by kernel_rfl,?_⟩;conv=>whnf
   refine J5 hmb hm0 ?_
   refine J5 hmb hm0 ?_
   have ha:=hp.amt
   have w:IntKind.i64.wrap (F8 d.us ms1.l - d.p.amount)=F8 d.us ms1.l - d.p.amount:=A5 (by omega) (by omega)
   exact ⟨_,by rw [w];rfl,hout2⟩
  ·have hk':k<d.p.parts.length:=by have:=of_decide_eq_true h2;omega
   have hcnt:=hp.at hk'
   conv=>whnf
   refine I3 ?_
   refine ⟨[0,5,6,7,15,16,17,23,24],fun m vs t'=>∃ (j:Nat) (ms':MSt) (sv:AV),(j:Int)≤(d.p.parts.getD k default).count∧m=(d.p.parts.getD k default).count.toNat - j∧vs=[.optr 18 d.bm 0 0,sv,eI (F8 d.us ms'.l),eI k,A6 3 A0I d.p.parts,eI d.p.parts.length,eI k,eI (d.p.parts.getD k default).count,eI j]∧P1 k j ms1=some ms'∧ROut (MkR d ms'.used ms'.es) 3 1 (fun j=>eI (gI ms'.l j)) ms'.l.length s sv t',?_,?_⟩
   ·conv=>whnf
    exact ⟨_,0,ms1,sv,by omega,rfl,rfl,rfl,hout⟩
   ·clear hout
    rintro m vs t' ⟨j,ms2,sv,hj,rfl,rfl,hF2,hout⟩
    have hok2:=hok.takes hk' hF2
    have hlen2:=A0a hF2
    have hcb2:=A0e hu ms2.l hok2.mem
    conv=>whnf
    cases h3:decide ((j:Int)<(d.p.parts.getD k default).count)
    ·have:=of_decide_eq_false h3
     have ej:j=(d.p.parts.getD k default).count.toNat:=by omega
     conv=>whnf
     refine H4 ?_
     refine ⟨d.n - (k+1),by omega,k+1,ms2,sv,by omega,rfl,by rw [B7 (by omega)],?_,hout⟩
     unfold H6;rw [hF,←ej];exact hF2
    ·have hj':(j:Int)<(d.p.parts.getD k default).count:=of_decide_eq_true h3
     obtain ⟨s0,hcol,hMk⟩:=hout
     conv=>whnf
     refine call (B9Q d ms2.used ms2.es s0 t' hMk k (by omega) (fun e he=>by rw [hok2.len];exact hok2.rng k hk' e he) (hok2.srt k hk')) (fun v t2 hv=>?_)
     obtain ⟨rfl,hMk2⟩:=hv
     have hT:P1 k (j+1) ms1=V8 k ms2:=by
      show (P1 k j ms1).bind (V8 k)=_
      rw [hF2];rfl
     have hmem:=(Z9 ms2.used (ms2.es k)).2.1
     cases hR:(J1 ms2.used (ms2.es k)).1 with
     | none =>
      have h4:V8 k ms2=none:=by unfold V8;rw [hR]
      rw [h4] at hT
      have h5:=A5f (c:=(d.p.parts.getD k default).count.toNat) hT (by omega)
      have h6:H6 d.p.parts (k+1) ms=none:=by unfold H6;rw [hF];exact h5
      have h7:=A4Y (c:=d.n) h6 (by omega)
      rw [h7];conv=>whnf
      exact ⟨rfl,hcol.sup.trans ((hB _ _).sup hMk2)⟩
     | some i =>
      have h4:V8 k ms2=some ⟨ms2.used.set i.toNat true,O9 ms2.es k (J1 ms2.used (ms2.es k)).2,ms2.l++[i]⟩:=by unfold V8;rw [hR]
      rw [hR] at hMk2
      obtain ⟨e,he,rfl,_⟩:=hmem i hR
      have hx:=hok2.rng k hk' e he
      have hn0:0≤(gU d.us e.2.toNat).net:=hu.pos _ (A7 hx.2)
      have hn1:(gU d.us e.2.toNat).net≤10000000000000:=hu.le (A7 hx.2)
      conv=>whnf
      refine ROut.app (q:=r3) (hB _ _) rfl rfl rfl rfl rfl (f:=fun j=>eI (gI (ms2.l++[e.2]) j)) (by simp only [A8D];rfl) (by show (ms2.l.length+1) * 8≤140737488355328;omega) ⟨s0,I2.congr hcol fun j hj=>by rw [X7 hj],hMk2⟩ (fun sv' t3 hout3=>?_)
      obtain ⟨⟨fm,hmb,hm0⟩,_,_⟩:=(hout3.dropped (hB _ _)).facts
      conv=>whnf
      refine J5 hmb hm0 ?_
      refine ⟨rfl,⟨by show 0≤e.2;omega,by show e.2<(d.us.length:Int);omega⟩,?_⟩;conv=>whnf
      refine H4 ?_
      have w:IntKind.i64.wrap (F8 d.us ms2.l+(gU d.us e.2.toNat).net)=F8 d.us (ms2.l++[e.2]):=by rw [B2Z];exact A5 (by omega) (by omega)
      refine ⟨(d.p.parts.getD k default).count.toNat - (j+1),by omega,j+1,⟨ms2.used.set e.2.toNat true,O9 ms2.es k (J1 ms2.used (ms2.es k)).2,ms2.l++[e.2]⟩,sv',by omega,rfl,?_,by rw [hT];exact h4,?_⟩
      ·rw [B7 (by omega),←w]
      ·rw [List.length_append];exact hout3
theorem G8 (y:Int) (r:List Int):A2 (y::r)=y+A2 r:=by
 have:=E5 [y] r
 rw [List.singleton_append] at this
 rw [this];simp [A2]
theorem A8g {a b:List Int} (h:a.Perm b):A2 a=A2 b:=by
 induction h with
 | nil=>rfl
 | cons x _ ih=>rw [G8,G8,ih]
 | swap x y l=>rw [G8,G8,G8,G8];omega
 | trans _ _ ih1 ih2=>exact ih1.trans ih2
theorem B2F {l:List Int} {B:Int} (h:∀ x∈l,x≤B):A2 l≤l.length * B:=by
 induction l with
 | nil=>simp [A2]
 | cons x l ih =>
  have h1:=ih (fun y hy=>h y (List.mem_cons_of_mem _ hy))
  have h2:=h x (List.mem_cons_self ..)
  rw [G8,List.length_cons]
  have:((l.length+1:Nat):Int) * B=l.length * B+B:=by
   rw [show ((l.length+1:Nat):Int)=(l.length:Int)+1 by omega,Int.add_mul,Int.one_mul]
  omega
theorem B2T {qs:List Int} {R:List QE} (hl:∀ e∈R,e.2.toNat<qs.length) (hd:(R.map fun e=>e.2.toNat).Nodup) (k:Nat):gI (M0 qs R) k=gI qs k+if k∈R.map (fun e=>e.2.toNat) then 1 else 0:=by
 unfold M0
 induction R generalizing qs with
 | nil=>simp
 | cons e R ih =>
  rw [List.map_cons,List.nodup_cons] at hd
  have he:=hl e (List.mem_cons_self ..)
  simp only [List.foldl_cons]
  rw [ih (fun x hx=>by rw [List.length_set];exact hl x (List.mem_cons_of_mem _ hx)) hd.2]
  have hs:gI (qs.set e.2.toNat (gI qs e.2.toNat+1)) k=if k=e.2.toNat then gI qs k+1 else gI qs k:=by
   unfold gI
   simp only [List.getD_eq_getElem?_getD,List.getElem?_set]
   by_cases h:k=e.2.toNat
   ·subst h;simp [he]
   ·rw [if_neg (fun e'=>h e'.symm),if_neg h]
  rw [hs,List.map_cons]
  by_cases h:k=e.2.toNat
  ·subst h
   rw [if_pos rfl,if_neg hd.1,if_pos (List.mem_cons_self ..)];omega
  ·rw [if_neg h]
   by_cases h2:k∈R.map (fun e=>e.2.toNat)
   ·rw [if_pos h2,if_pos (List.mem_cons_of_mem _ h2)]
   ·rw [if_neg h2,if_neg (fun h3=>by
     rcases List.mem_cons.1 h3 with h4 | h4
     ·exact h h4
     ·exact h2 h4)]
theorem B7Z {total:Int} {ws:List Int} (h:K9 total ws) (hS:0<A2 ws) {i:Nat} (hi:(i:Int)<G7 total (A2 ws) ws ws.length):0<((shR total (A2 ws) ws).getD i default).1:=by
 have hlr:=A1p h hS
 have hlen:=A9d total (A2 ws) ws
 have hil:i<(shR total (A2 ws) ws).length:=by omega
 refine Int.lt_of_not_ge fun hneg=>?_
 have hsum:A2 ((shR total (A2 ws) ws).map (·.1))=A2 ws * G7 total (A2 ws) ws ws.length:=by
  have hp:=(Z7 total (A2 ws) ws).map (·.1)
  rw [A8g hp,List.map_map]
  have e:=A5y total (A2 ws) hS ws ws.length (Nat.le_refl _)
  rw [List.take_length] at e
  unfold G7
  rw [Int.mul_sub,Int.mul_comm (A2 ws) total]
  have:(List.range ws.length).map ((fun e:QE=>e.1) ∘ shE total (A2 ws) ws)=(List.range ws.length).map fun k=>total * gI ws k % A2 ws:=rfl
  rw [this];omega
 have hsorted:=A6I total (A2 ws) ws
 have hrest:∀ e∈shR total (A2 ws) ws,0≤e.1∧e.1≤A2 ws - 1:=fun e he=>by
  obtain ⟨k,hk,rfl⟩:=List.mem_map.1 ((Z7 total (A2 ws) ws).subset he)
  have h1:=Int.emod_nonneg (total * gI ws k) (show A2 ws≠0 by omega)
  have h2:=Int.emod_lt_of_pos (total * gI ws k) hS
  show 0≤total * gI ws k % A2 ws∧total * gI ws k % A2 ws≤A2 ws - 1
  omega
 generalize hR:shR total (A2 ws) ws=R at *
 have hsplit:R=R.take i++R.drop i:=(List.take_append_drop i R).symm
 have hcons:R.drop i=R.getD i default::R.drop (i+1):=by
  rw [List.getD_eq_getElem?_getD,List.getElem?_eq_getElem hil]
  exact List.drop_eq_getElem_cons hil
 have hdrop:A2 ((R.drop i).map (·.1))≤0:=by
  have:∀ x∈(R.drop i).map (·.1),x≤0:=fun x hx=>by
   obtain ⟨e,he,rfl⟩:=List.mem_map.1 hx
   rw [hcons] at he
   rcases List.mem_cons.1 he with rfl | he
   ·exact hneg
   ·have hs:=hsorted.sublist (List.drop_sublist i R)
    rw [hcons,List.pairwise_cons] at hs
    have:=(Z4 _ _).1 (hs.1 e he)
    omega
  have:=B2F this
  omega
 have htake:A2 ((R.take i).map (·.1))≤i * (A2 ws - 1):=by
  have h1:=B2F (l:=(R.take i).map (·.1)) (B:=A2 ws - 1) (fun x hx=>by
   obtain ⟨e,he,rfl⟩:=List.mem_map.1 hx
   exact (hrest e (List.take_subset _ _ he)).2)
  rw [List.length_map,List.length_take,Nat.min_eq_left (by omega)] at h1
  exact h1
 have hall:A2 (R.map (·.1))=A2 ((R.take i).map (·.1))+A2 ((R.drop i).map (·.1)):=by
  conv=>lhs;rw [hsplit]
  rw [List.map_append,E5]
 have h2:A2 ws * ((i:Int)+1)≤A2 ws * G7 total (A2 ws) ws ws.length:=Int.mul_le_mul_of_nonneg_left (by omega) (by omega)
 rw [Int.mul_add,Int.mul_one] at h2
 have h3:(i:Int) * (A2 ws - 1)=A2 ws * i - i:=by rw [Int.mul_sub,Int.mul_one,Int.mul_comm]
 omega
theorem A1o {total:Int} {ws:List Int} (h:K9 total ws) (ht:total≤A2 ws) {k:Nat} (hk:k<ws.length):gI (C3 total ws) k≤gI ws k:=by
 have hw:=h.w0 _ (A7 hk)
 unfold C3
 split
 ·rename_i h0
  have:gI (ws.map fun _=>(0:Int)) k=0:=F1 (fun _:Int=>(0:Int)) ws hk
  rw [this];exact hw
 ·rename_i h0
  have hS:0<A2 ws:=by have:=B9 h.w0;omega
  have hmem:∀ e∈(shR total (A2 ws) ws).take (G7 total (A2 ws) ws ws.length).toNat,e.2.toNat<((List.range ws.length).map (shQ total (A2 ws) ws)).length:=fun e he=>by
   rw [List.length_map,List.length_range];exact (A9e (List.take_subset _ _ he)).2
  have hnd:(((shR total (A2 ws) ws).take (G7 total (A2 ws) ws ws.length).toNat).map fun e=>e.2.toNat).Nodup:=by
   have h1:((shR total (A2 ws) ws).map fun e=>e.2.toNat).Nodup:=by
    have hp:=(Z7 total (A2 ws) ws).map fun e=>e.2.toNat
    refine hp.nodup_iff.2 ?_
    rw [List.map_map]
    have:(List.range ws.length).map ((fun e:QE=>e.2.toNat) ∘ shE total (A2 ws) ws)=(List.range ws.length).map id:=by
     refine List.map_congr_left fun k _=>?_
     show (k:Int).toNat=k
     omega
    rw [this,List.map_id]
    exact List.nodup_range
   exact h1.sublist ((List.take_sublist _ _).map _)
  rw [B2T hmem hnd,O3 _ hk]
  have e1:=Int.mul_ediv_add_emod (total * gI ws k) (A2 ws)
  have e2:=Int.emod_nonneg (total * gI ws k) (show A2 ws≠0 by omega)
  have e3:total * gI ws k≤A2 ws * gI ws k:=Int.mul_le_mul_of_nonneg_right ht hw
  have e4:shQ total (A2 ws) ws k=total * gI ws k / A2 ws:=rfl
  split
  ·rename_i hin
   obtain ⟨e,he,hek⟩:=List.mem_map.1 hin
   obtain ⟨i,hi,rfl⟩:=D3 he
   rw [List.length_take] at hi
   have hle:=A1p h hS
   have hpos:=B7Z h hS (i:=i) (by omega)
   have hti:((shR total (A2 ws) ws).take (G7 total (A2 ws) ws ws.length).toNat).getD i default=(shR total (A2 ws) ws).getD i default:=by
    rw [List.getD_eq_getElem?_getD,List.getD_eq_getElem?_getD,List.getElem?_take_of_lt (by omega)]
   rw [hti] at hek
   have hm2:(shR total (A2 ws) ws).getD i default∈shR total (A2 ws) ws:=A7 (by omega)
   obtain ⟨j,hj,hje⟩:=List.mem_map.1 ((Z7 total (A2 ws) ws).subset hm2)
   have hjk:j=k:=by rw [←hek,←hje];show j=(j:Int).toNat;omega
   subst hjk
   rw [←hje] at hpos
   have hpos':0<total * gI ws j % A2 ws:=hpos
   have h5:A2 ws * (total * gI ws j / A2 ws)<A2 ws * gI ws j:=by omega
   have h6:total * gI ws j / A2 ws<gI ws j:=Int.lt_of_mul_lt_mul_left h5 (by omega)
   omega
  ·have h5:A2 ws * (total * gI ws k / A2 ws)≤A2 ws * gI ws k:=by omega
   have h6:total * gI ws k / A2 ws≤gI ws k:=Int.le_of_mul_le_mul_left h5 hS
   omega
structure T4 (us:List A8) (l:List Int):Prop where
 rng:∀ k,k<l.length→0≤gI l k∧(gI l k).toNat<us.length
 ne:∀ i k,i<k→k<l.length→(gI l i).toNat≠(gI l k).toNat
theorem K0.places {us:List A8} {mine:List Int} (h:K0 us mine):T4 us mine :=
 ⟨h.rng,fun i k hik hk=>by
  have h1:=h.lt i k hik hk
  have h2:=(h.rng i (by omega)).1
  omega⟩
theorem A1y {us:List A8} {mine offs:List Int} (hm:T4 us mine):∀ k,k≤mine.length→∀ j,j<us.length→(∀ i,i<k→j≠(gI mine i).toNat)→gU (F5 us mine offs k) j=gU us j
 | 0,_,j,hj,_=>rfl
 | k+1,hk,j,hj,hne=>by
  have ih:=A1y (offs:=offs) hm k (by omega) j hj (fun i hi=>hne i (by omega))
  unfold F5 less1
  rw [A4y (by rw [K5];exact (hm.rng k (by omega)).2),if_neg (hne k (by omega))]
  exact ih
theorem A5d {us:List A8} {mine offs:List Int} (hm:T4 us mine) {k:Nat} (hk:k<mine.length):gU (F5 us mine offs k) (gI mine k).toNat=gU us (gI mine k).toNat :=
 A1y hm k (by omega) _ (hm.rng k hk).2 fun i hi=>fun e=>hm.ne i k hi hk e.symm
theorem A0r {us:List A8} (hu:C1 us) {mine offs:List Int} (hm:T4 us mine) (hlen:offs.length≤mine.length) (h:∀ k,k<offs.length→0≤gI offs k∧gI offs k≤(gU us (gI mine k).toNat).net):∀ k,k≤offs.length→Off us (F5 us mine offs k) (A2 (offs.take k))
 | 0,_=>Off.refl hu
 | k+1,hk=>by
  have ih:=A0r hu hm hlen h k (by omega)
  have hr:=hm.rng k (by omega)
  have hx:=h k (by omega)
  rw [H8 (by omega)]
  refine ih.trans (Off.less1 (ih.ok hu) (by rw [K5];exact hr.2) hx.1 ?_)
  rw [A5d hm (by omega)];exact hx.2
def E2 (us:List A8) (l:List Int):List Int:=l.map fun i=>(gU us i.toNat).net
def A2W (us:List A8) (l:List Int) (amount:Int):List A8:=F5 us l (C3 amount (E2 us l)) l.length
theorem B3n {us:List A8} (hu:C1 us) {l:List Int} (hm:T4 us l) {amount:Int} (hW:K9 amount (E2 us l)) (ha:amount≤A2 (E2 us l)):Off us (A2W us l amount) amount:=by
 obtain ⟨a,b,c⟩:=V5 hW
 have hl:(E2 us l).length=l.length:=by unfold E2;rw [List.length_map]
 have:=A0r hu hm (offs:=C3 amount (E2 us l)) (by omega) (fun k hk=>⟨c _ (A7 hk),by
  have h1:=A1o hW ha (k:=k) (by omega)
  have h2:gI (E2 us l) k=(gU us (gI l k).toNat).net:=F1 (fun i:Int=>(gU us i.toNat).net) l (by omega)
  rw [h2] at h1;exact h1⟩) (C3 amount (E2 us l)).length (Nat.le_refl _)
 rw [List.take_length,a] at this
 unfold A2W
 rw [show l.length=(C3 amount (E2 us l)).length by omega]
 exact this
theorem B6Y (bo:Nat) (us:List A8) (hu:C1 us) (l:List Int) (hl:l.length≤100000) (hm:T4 us l) (amount:Int) (hW:K9 amount (E2 us l)) (st:St) (hb:A1N st bo us) :
  S P 297 [.own 3 bo 0 us.length,B4 l,eI amount] st fun v st'=>v=.tuple []∧∃ f,st'=upd st bo ⟨152,3,us.length,f⟩∧∀ k,k<us.length→f k=W8 (gU (A2W us l amount) k):=by
 have hul:=hu.len
 have hwl:(E2 us l).length=l.length:=by unfold E2;rw [List.length_map]
 obtain ⟨lg1,lg2,lg3⟩:=V5 hW
 refine SyW [] Tryz.func297 ?_
 obtain ⟨fu,hst,hfu⟩:=hb
 conv=>whnf
 refine ⟨[0,1,2,6,13,14,15],fun m vs st'=>∃ (i:Nat) (sv:AV),i≤l.length∧m=l.length - i∧vs=[.own 3 bo 0 us.length,B4 l,eI amount,sv,B4 l,eI l.length,eI i]∧I2 2 1 (fun k=>eI (gI (E2 us l) k)) st i sv st',?_,?_⟩
 ·conv=>whnf
  exact ⟨_,0,.emp,Nat.zero_le _,rfl,rfl,I2.start _ _ _ _⟩
 ·rintro m vs st' ⟨i,sv,hi,rfl,rfl,hcol⟩
  have hst':=hcol.sup bo _ hst
  conv=>whnf
  cases h:decide ((i:Int)<(l.length:Int))
  ·have:=of_decide_eq_false h
   obtain rfl:i=l.length:=by omega
   conv=>whnf
   have hsh:A4 [eI amount,sv] st' [eI amount,B4 (E2 us l)] st:=by
    refine A4.cons (A4.keep _ _) ?_
    have e:B4 (E2 us l)=.arr 1 l.length (fun k=>eI (gI (E2 us l) k)):=by unfold B4 A6;rw [hwl]
    rw [e];exact hcol.shift
   refine F7 hsh (B3 (A7N amount (E2 us l) hW st) ?_)
   have hX:∀ k,k<l.length→0≤gI (C3 amount (E2 us l)) k∧gI (C3 amount (E2 us l)) k≤100000000000000:=fun k hk=>by
    have h1:=lg3 _ (A7 (show k<(C3 amount (E2 us l)).length by omega))
    have h2:=J6 lg3 (A7 (show k<(C3 amount (E2 us l)).length by omega))
    have:=hW.t1
    exact ⟨h1,by show gI _ _≤_;unfold gI;omega⟩
   have hlf:A2W us l amount=F5 us l (C3 amount (E2 us l)) l.length:=rfl
   have hlen:(C3 amount (E2 us l)).length=l.length:=by omega
   rw [hlf]
   generalize C3 amount (E2 us l)=xs at *
   conv=>whnf
   refine ⟨[0,1,34,35,36],fun m vs st'=>∃ (k:Nat) (f:Nat→AV),k≤l.length∧m=l.length - k∧vs=[.own 3 bo 0 us.length,B4 l,B4 xs,eI xs.length,eI k]∧st'=upd st bo ⟨152,3,us.length,f⟩∧∀ j,j<us.length→f j=W8 (gU (F5 us l xs k) j),?_,?_⟩
   ·conv=>whnf
    exact ⟨_,0,fu,Nat.zero_le _,rfl,rfl,(B6m hst).symm,hfu⟩
   ·rintro m vs st' ⟨k,f,hk,rfl,rfl,rfl,hf⟩
    conv=>whnf
    cases h2:decide ((k:Int)<(xs.length:Int))
    ·have:=of_decide_eq_false h2
     obtain rfl:k=l.length:=by omega
     conv=>whnf
     exact ⟨rfl,f,rfl,hf⟩
    ·have hk':k<l.length:=by have:=of_decide_eq_true h2;omega
     have hr:=hm.rng k hk'
     have hat:=A5d (offs:=xs) hm hk'
     have hx:=hX k hk'
     have hnet0:0≤(gU us (gI l k).toNat).net:=hu.pos _ (A7 hr.2)
     have hnet1:(gU us (gI l k).toNat).net≤10000000000000:=hu.le (A7 hr.2)
     have hfm:f (0+(gI l k).toNat)=W8 (gU (F5 us l xs k) (gI l k).toNat):=by rw [Nat.zero_add];exact hf _ hr.2
     conv=>whnf
     refine I3 ?_
     refine I3 ?_
     refine ⟨rfl,⟨by show 0≤gI l k;exact hr.1,by show gI l k<(us.length:Int);have:=hr.2;have:=hr.1;omega⟩,?_⟩;conv=>whnf
     refine ldV (A0 ..) rfl (by show 0+(gI l k).toNat<_;have:=hr.2;omega) hfm ?_;conv=>whnf
     refine ⟨rfl,⟨by show 0≤gI l k;exact hr.1,by show gI l k<(us.length:Int);have:=hr.2;have:=hr.1;omega⟩,?_⟩;conv=>whnf
     refine stV (A0 ..) rfl (by show 0+(gI l k).toNat<_;have:=hr.2;omega) hfm (by rfl) ?_;conv=>whnf
     refine H4 ?_
     refine ⟨l.length - (k+1),by omega,k+1,_,by omega,rfl,by rw [B7 (by omega)],E4,fun j hj=>?_⟩
     have w:IntKind.i64.wrap ((gU (F5 us l xs k) (gI l k).toNat).net - gI xs k)=(gU (F5 us l xs k) (gI l k).toNat).net - gI xs k:=by
      rw [hat];exact A5 (by omega) (by omega)
     show _=W8 (gU (less1 (F5 us l xs k) (gI l k).toNat (gI xs k)) j)
     unfold less1
     rw [A4y (by rw [K5];exact hr.2)]
     by_cases hj2:j=(gI l k).toNat
     ·rw [if_pos hj2,hj2,←w]
      show M1 f (0+(gI l k).toNat) _ _=_
      rw [Nat.zero_add,A9];rfl
     ·rw [if_neg hj2]
      show M1 f (0+(gI l k).toNat) _ _=_
      rw [Nat.zero_add,O2 hj2];exact hf j hj
  ·have hi':i<l.length:=by have:=of_decide_eq_true h;omega
   have hr:=hm.rng i hi'
   have hg:gI (E2 us l) i=(gU us (gI l i).toNat).net:=F1 (fun i:Int=>(gU us i.toNat).net) l hi'
   conv=>whnf
   refine I3 ?_
   refine ⟨rfl,⟨by show 0≤gI l i;exact hr.1,by show gI l i<(us.length:Int);have:=hr.2;have:=hr.1;omega⟩,?_⟩;conv=>whnf
   refine ldV hst' rfl (by show 0+(gI l i).toNat<_;have:=hr.2;omega) (v:=W8 (gU us (gI l i).toNat)) (by show fu (0+(gI l i).toNat)=_;rw [Nat.zero_add];exact hfu _ hr.2) ?_;conv=>whnf
   refine I2.app (q:=r2) rfl rfl rfl rfl rfl (by simp only [hg];rfl) (by show (i+1) * 8≤140737488355328;omega) hcol (fun sv' st'' hcol'=>?_);conv=>whnf
   refine H4 ?_
   exact ⟨l.length - (i+1),by omega,i+1,sv',by omega,rfl,by rw [B7 (by omega)],hcol'⟩
end Go.Proofs.YtbajhapmlfbelaaGreat
namespace Go.Proofs.YtbajhapmlfbelaaGreat
open Go Go.Ab
def tot:Nat→(Nat→List QE)→Nat
 | 0,_=>0
 | n+1,es=>tot n es+(es n).length
theorem B3Z {n:Nat} {es es':Nat→List QE} (h:∀ i,i<n→(es' i).length=(es i).length):tot n es'=tot n es:=by
 induction n with
 | zero=>rfl
 | succ n ih=>unfold tot;rw [ih fun i hi=>h i (by omega),h n (by omega)]
theorem B6l {n:Nat} {es:Nat→List QE} {k:Nat} (hk:k<n) (l:List QE):tot n (O9 es k l)+(es k).length=tot n es+l.length:=by
 induction n with
 | zero=>omega
 | succ n ih =>
  unfold tot
  by_cases e:k=n
  ·subst e
   rw [C6,B3Z (es:=es) fun i hi=>by rw [F3 (by omega)]];omega
  ·have:=ih (by omega)
   rw [F3 (fun e'=>e e'.symm)];omega
theorem B3T {n k:Nat} (hk:k<n) {s s':MSt} (h:V8 k s=some s'):tot n s'.es+s'.l.length≤tot n s.es+s.l.length:=by
 have h4:=(Z9 s.used (s.es k)).2.2.2
 unfold V8 at h
 split at h
 ·cases h
 ·rename_i i hi
  cases h
  have:=h4 (by rw [hi];simp)
  have:=B6l hk (J1 s.used (s.es k)).2 (es:=s.es)
  simp only [List.length_append,List.length_cons,List.length_nil]
  omega
theorem A6S {n k:Nat} (hk:k<n) {s:MSt}:∀ {c:Nat} {s':MSt},P1 k c s=some s'→tot n s'.es+s'.l.length≤tot n s.es+s.l.length
 | 0,s',h=>by cases h;exact Nat.le_refl _
 | c+1,s',h=>by
  unfold P1 at h
  obtain ⟨s1,h1,h2⟩:=Option.bind_eq_some_iff.1 h
  exact Nat.le_trans (B3T hk h2) (A6S hk h1)
theorem A3q {n:Nat} {parts:List A3C} {s:MSt}:∀ {k:Nat} {s':MSt},k≤n→H6 parts k s=some s'→tot n s'.es+s'.l.length≤tot n s.es+s.l.length
 | 0,s',_,h=>by cases h;exact Nat.le_refl _
 | k+1,s',hk,h=>by
  unfold H6 at h
  obtain ⟨s1,h1,h2⟩:=Option.bind_eq_some_iff.1 h
  exact Nat.le_trans (A6S (by omega) h2) (A3q (by omega) h1)
theorem A4Z {p:B1} (hp:A2S p) {s s':MSt} (h:H6 p.parts p.parts.length s=some s'):s.l.length<s'.l.length:=by
 have hn:=hp.n1
 obtain ⟨k,hk⟩:∃ k,p.parts.length=k+1:=⟨p.parts.length - 1,by omega⟩
 have hmono:∀ {k:Nat} {s':MSt},H6 p.parts k s=some s'→s.l.length≤s'.l.length:=fun {k}=>by
  induction k with
  | zero=>intro s' h;cases h;exact Nat.le_refl _
  | succ k ih =>
   intro s' h
   unfold H6 at h
   obtain ⟨s1,h1,h2⟩:=Option.bind_eq_some_iff.1 h
   have:=ih h1
   have:=A0a h2
   omega
 rw [hk] at h
 unfold H6 at h
 obtain ⟨s1,h1,h2⟩:=Option.bind_eq_some_iff.1 h
 have h3:=hmono h1
 have h4:=A0a h2
 have h5:=hp.at (show k<p.parts.length by omega)
 omega
structure P9 (u0:List Bool) (s:MSt):Prop where
 free:∀ x∈s.l,u0.getD x.toNat default=false
 nd:(s.l.map Int.toNat).Nodup
 used:∀ j,s.used.getD j default=true↔(u0.getD j default=true∨j∈s.l.map Int.toNat)
theorem P9.start (u0:List Bool) (es:Nat→List QE):P9 u0 ⟨u0,es,[]⟩:=⟨fun x hx=>by simp at hx,List.nodup_nil,fun j=>by simp⟩
theorem P9.take {us:List A8} {n:Nat} {u0:List Bool} {s s':MSt} (h:P9 u0 s) (hok:MOk us n s) {k:Nat} (hk:k<n) (ht:V8 k s=some s'):P9 u0 s':=by
 obtain ⟨_,t2,_,_⟩:=Z9 s.used (s.es k)
 unfold V8 at ht
 split at ht
 ·cases ht
 ·rename_i i hi
  cases ht
  obtain ⟨e,he,rfl,hu⟩:=t2 i hi
  have hr:=hok.rng k hk e he
  have hfree:u0.getD e.2.toNat default=false∧e.2.toNat∉s.l.map Int.toNat:=by
   have:¬(u0.getD e.2.toNat default=true∨e.2.toNat∈s.l.map Int.toNat):=fun h2=>by
    rw [(h.used _).2 h2] at hu;cases hu
   exact ⟨Bool.eq_false_iff.2 fun h2=>this (.inl h2),fun h2=>this (.inr h2)⟩
  refine ⟨fun x hx=>?_,?_,fun j=>?_⟩
  ·rcases List.mem_append.1 hx with hx | hx
   ·exact h.free x hx
   ·rw [List.mem_singleton] at hx;rw [hx];exact hfree.1
  ·show ((s.l++[e.2]).map Int.toNat).Nodup
   rw [List.map_append]
   refine List.nodup_append.2 ⟨h.nd,by simp,fun a ha b hb=>?_⟩
   simp only [List.map_cons,List.map_nil,List.mem_singleton] at hb
   subst hb
   exact fun e'=>hfree.2 (e'▸ha)
  ·show (s.used.set e.2.toNat true).getD j default=true↔(u0.getD j default=true∨j∈(s.l++[e.2]).map Int.toNat)
   rw [List.map_append,List.mem_append,List.map_cons,List.map_nil,List.mem_singleton]
   by_cases ej:j=e.2.toNat
   ·subst ej
    have:e.2.toNat<s.used.length:=by rw [hok.len];exact hr.2
    simp [List.getD_eq_getElem?_getD,this]
   ·have:(s.used.set e.2.toNat true).getD j default=s.used.getD j default:=by
     simp only [List.getD_eq_getElem?_getD]
     rw [List.getElem?_set_ne (fun e'=>ej e'.symm)]
    rw [this,h.used j]
    constructor
    ·rintro (h1 | h1)
     ·exact .inl h1
     ·exact .inr (.inl h1)
    ·rintro (h1 | h1 | h1)
     ·exact .inl h1
     ·exact .inr h1
     ·exact absurd h1 ej
theorem P9.takes {us:List A8} {n:Nat} {u0:List Bool} {s:MSt} (h:P9 u0 s) (hok:MOk us n s) {k:Nat} (hk:k<n):∀ {c:Nat} {s':MSt},P1 k c s=some s'→P9 u0 s'
 | 0,s',e=>by cases e;exact h
 | c+1,s',e=>by
  unfold P1 at e
  obtain ⟨s1,h1,h2⟩:=Option.bind_eq_some_iff.1 e
  exact (P9.takes h hok hk h1).take (hok.takes hk h1) hk h2
theorem P9.parts {us:List A8} {p:B1} {u0:List Bool} {s:MSt} (h:P9 u0 s) (hok:MOk us p.parts.length s):∀ {k:Nat} {s':MSt},k≤p.parts.length→H6 p.parts k s=some s'→P9 u0 s'
 | 0,s',_,e=>by cases e;exact h
 | k+1,s',hk,e=>by
  unfold H6 at e
  obtain ⟨s1,h1,h2⟩:=Option.bind_eq_some_iff.1 e
  exact (P9.parts h hok (by omega) h1).takes (MOk.parts hok (by omega) h1) (by omega) h2
theorem B0B {us:List A8} (hu:C1 us) {l:List Int} (hm:T4 us l):A2 (E2 us l)≤A2 (C7 us):=by
 have hl:(E2 us l).length=l.length:=by unfold E2;rw [List.length_map]
 have:=A0r hu hm (offs:=E2 us l) (by omega) (fun k hk=>by
  have h2:gI (E2 us l) k=(gU us (gI l k).toNat).net:=F1 (fun i:Int=>(gU us i.toNat).net) l (by omega)
  rw [h2]
  exact ⟨hu.at0 _,Int.le_refl _⟩) (E2 us l).length (Nat.le_refl _)
 rw [List.take_length] at this
 have h1:=this.sum
 have h2:=B9 (this.ok hu).nets0
 omega
theorem B3A {us:List A8} {l:List Int} (hm:∀ x∈l,0≤x∧x.toNat<us.length) (hd:(l.map Int.toNat).Nodup):T4 us l:=by
 refine ⟨fun k hk=>hm _ (A7 hk),fun i k hik hk e=>?_⟩
 have hi:(l.map Int.toNat)[i]'(by rw [List.length_map];omega)=(l.map Int.toNat)[k]'(by rw [List.length_map];omega):=by
  rw [List.getElem_map,List.getElem_map]
  have h1:gI l i=l[i]:=by simp [gI,show i<l.length by omega]
  have h2:gI l k=l[k]:=by simp [gI,hk]
  rw [←h1,←h2];exact e
 exact (List.pairwise_iff_getElem.1 hd i k _ _ hik) hi
structure BSt where
 out:List A8
 ms:MSt
 taken:List Int
 all:Int
def A2A (p:B1) (us:List A8) (b:BSt):Option BSt:=match H6 p.parts p.parts.length ⟨b.ms.used,b.ms.es,[]⟩ with
 | none=>none
 | some s=>if F8 us s.l>p.amount then some ⟨A2W b.out (C5 s.l) (F8 us s.l - p.amount),s,b.taken++C5 s.l,b.all+(F8 us s.l - p.amount)⟩ else none
def A2P (p:B1) (us:List A8):Nat→BSt→BSt
 | 0,b=>b
 | m+1,b=>match A2A p us b with
  | none=>b
  | some b'=>A2P p us m b'
def E0 (us:List A8) (parts:List (List Int)):BSt:=⟨us,⟨List.replicate us.length false,fun k=>D7 us (parts.getD k []),[]⟩,[],0⟩
def O0 (p:B1) (us:List A8) (parts:List (List Int)):List A8×Int :=
 let b:=A2P p us (tot p.parts.length (E0 us parts).ms.es+1) (E0 us parts)
 (if p.closes=true then closeB b.out b.taken else b.out,b.all)
structure BOk (p:B1) (us:List A8) (D:Nat) (b:BSt):Prop where
 off:Off us b.out b.all
 same:∀ j,b.ms.used.getD j default=false→gU b.out j=gU us j
 ok:MOk us p.parts.length b.ms
 mem:∀ x∈b.taken,0≤x∧x.toNat<us.length
 len:b.taken.length+tot p.parts.length b.ms.es≤D
theorem A2L {l:List Int} {x:Int}:x∈C5 l↔x∈l:=(A1x l).mem_iff
structure C0d (p:B1) (us:List A8) (b:BSt) (s:MSt):Prop where
 places:T4 b.out (C5 s.l)
 weights:K9 (F8 us s.l - p.amount) (E2 b.out (C5 s.l))
 le:F8 us s.l - p.amount≤A2 (E2 b.out (C5 s.l))
theorem BOk.step {p:B1} (hp:A2S p) {us:List A8} (hu:C1 us) {D:Nat} {b:BSt} (h:BOk p us D b) {s:MSt} (hs:H6 p.parts p.parts.length ⟨b.ms.used,b.ms.es,[]⟩=some s) (hc:F8 us s.l>p.amount) :
  C0d p us b s∧BOk p us D ⟨A2W b.out (C5 s.l) (F8 us s.l - p.amount),s,b.taken++C5 s.l,b.all+(F8 us s.l - p.amount)⟩∧tot p.parts.length s.es<tot p.parts.length b.ms.es:=by
 have hok0:MOk us p.parts.length ⟨b.ms.used,b.ms.es,[]⟩:=⟨h.ok.len,h.ok.rng,h.ok.srt,fun x hx=>by simp at hx⟩
 have hok:=MOk.parts hok0 (Nat.le_refl _) hs
 have htr:=P9.parts (P9.start b.ms.used b.ms.es) hok0 (Nat.le_refl _) hs
 have hlen:=A1t hp (Nat.le_refl _) hs
 have htot:=A3q (n:=p.parts.length) (Nat.le_refl _) hs
 have hpos:=A4Z hp hs
 simp only [List.length_nil] at hlen htot hpos
 have hn8:=hp.n8
 have ha:=hp.amt
 have hpl:T4 b.out (C5 s.l):=B3A (fun x hx=>by rw [h.off.len];exact hok.mem x (A2L.1 hx)) (((A1x s.l).map Int.toNat).nodup_iff.2 htr.nd)
 have hsame:∀ x∈s.l,(gU b.out x.toNat).net=(gU us x.toNat).net:=fun x hx=>by rw [h.same _ (htr.free x hx)]
 have hw:A2 (E2 b.out (C5 s.l))=F8 us s.l:=by
  unfold E2 F8
  rw [A8g ((A1x s.l).map fun i=>(gU b.out i.toNat).net)]
  congr 1
  exact List.map_congr_left fun x hx=>hsame x hx
 have hou:=h.off.ok hu
 have hwl:=B0B hou hpl
 have hos:=hou.sum
 have hcb:=A0e hu s.l hok.mem
 have hW:K9 (F8 us s.l - p.amount) (E2 b.out (C5 s.l)):=by
  refine ⟨by omega,by omega,?_,fun w hw=>?_,by omega,fun e=>by omega⟩
  ·unfold E2;rw [List.length_map,M9];omega
  ·obtain ⟨i,hi,rfl⟩:=List.mem_map.1 hw;exact hou.at0 _
 have hL:=B3n hou hpl hW (by omega)
 refine ⟨⟨hpl,hW,by omega⟩,⟨h.off.trans hL,fun j hj=>?_,hok,fun x hx=>?_,?_⟩,by omega⟩
 ·have hnot:¬(b.ms.used.getD j default=true∨j∈s.l.map Int.toNat):=fun h2=>by
   rw [(htr.used j).2 h2] at hj;cases hj
  have hju:b.ms.used.getD j default=false:=Bool.eq_false_iff.2 fun h2=>hnot (.inl h2)
  rw [←h.same j hju]
  by_cases hjl:j<b.out.length
  ·exact A1y hpl _ (Nat.le_refl _) j hjl fun i hi e=>hnot (.inr (by
    have:gI (C5 s.l) i∈s.l:=A2L.1 (A7 hi)
    rw [e];exact List.mem_map_of_mem this))
  ·have e1:gU b.out j=default:=by unfold gU;rw [List.getD_eq_getElem?_getD,List.getElem?_eq_none (by omega)];rfl
   have e2:gU (A2W b.out (C5 s.l) (F8 us s.l - p.amount)) j=default:=by
    unfold gU;rw [List.getD_eq_getElem?_getD,List.getElem?_eq_none (by rw [hL.len];omega)];rfl
   rw [e1];exact e2
 ·rcases List.mem_append.1 hx with hx | hx
  ·exact h.mem x hx
  ·exact hok.mem x (A2L.1 hx)
 ·rw [List.length_append,M9]
  have:=h.len
  show _+tot p.parts.length s.es≤D
  omega
theorem B1W {p:B1} (hp:A2S p) {us:List A8} (hu:C1 us) {D:Nat}:∀ (m:Nat) {b:BSt},BOk p us D b→BOk p us D (A2P p us m b)
 | 0,b,h=>h
 | m+1,b,h=>by
  unfold A2P A2A
  cases hs:H6 p.parts p.parts.length ⟨b.ms.used,b.ms.es,[]⟩ with
  | none=>exact h
  | some s =>
   simp only
   by_cases hc:F8 us s.l>p.amount
   ·rw [if_pos hc]
    exact B1W hp hu m (h.step hp hu hs hc).2.1
   ·rw [if_neg hc];exact h
theorem A4U {p:B1} {us:List A8} (hu:C1 us) {parts:List (List Int)} (hl:parts.length=p.parts.length) (hm:∀ k,k<parts.length→K0 us (parts.getD k [])):BOk p us (tot p.parts.length (E0 us parts).ms.es) (E0 us parts):=by
 refine ⟨Off.refl hu,fun j hj=>rfl,⟨by simp [E0],fun k hk e he=>A4v (hm k (by omega)).rng he,fun k hk=>A4e _,fun x hx=>by simp [E0] at hx⟩,fun x hx=>by simp [E0] at hx,?_⟩
 show 0+_≤_
 omega
theorem A9G {p:B1} (hp:A2S p) {us:List A8} (hu:C1 us) {parts:List (List Int)} (hl:parts.length=p.parts.length) (hm:∀ k,k<parts.length→K0 us (parts.getD k [])):Off us (O0 p us parts).1 (O0 p us parts).2:=by
 have h:=B1W hp hu (tot p.parts.length (E0 us parts).ms.es+1) (A4U hu hl hm)
 unfold O0
 simp only
 split
 ·have h2:=Off.closeB (h.off.ok hu) (A2P p us (tot p.parts.length (E0 us parts).ms.es+1) (E0 us parts)).taken (fun x hx=>by rw [h.off.len];exact (h.mem x hx).2)
  have h3:=h.off.trans h2
  rw [Int.add_zero] at h3;exact h3
 ·exact h.off
end Go.Proofs.YtbajhapmlfbelaaGreat
namespace Go.Proofs.YtbajhapmlfbelaaGreat
open Go Go.Ab
attribute [local irreducible] upd del
theorem B1g (l:List (List Int)) (hl:l.length≤9223372036854775807) (g:FuncId) (cs:List AV) (p:(List Int)→Bool) (st:St)
  (hg:∀ x,x∈l→S P g (B4 x::cs) st fun v st'=>v=.bool (p x)∧st'=st) :
  S P 346 [A6 1 B4 l,.fn (.func g) [] cs] st fun v st'=>v=eI (idx p l)∧st'=st:=by
 refine D6 [] Tryz.func346 ?_
 refine ⟨[0,1,7,8],fun m vs st'=>∃ i:Nat,i≤l.length∧(∀ k,k<i→p (l.getD k default)=false)∧m=l.length - i∧vs=[A6 1 B4 l,.fn (.func g) [] cs,eI l.length,eI i]∧st'=st,?_,?_⟩
 ·conv=>whnf
  exact ⟨_,0,Nat.zero_le _,fun k hk=>absurd hk (by omega),rfl,rfl,rfl⟩
 ·rintro m vs st' ⟨i,hi,hok,rfl,rfl,rfl⟩
  conv=>whnf
  cases h:decide ((i:Int)<(l.length:Int))
  ·have:=of_decide_eq_false h
   conv=>whnf
   refine ⟨?_,rfl⟩
   rw [K2 fun k hk=>hok k (by omega)];rfl
  ·have hi':i<l.length:=by have:=of_decide_eq_true h;omega
   conv=>whnf
   refine I3 ?_
   refine B3 (hg (l.getD (i:Int).toNat default) (by simp [hi'])) ?_
   rw [Int.toNat_natCast]
   cases hp:p (l.getD i default)
   ·conv=>whnf
    refine H4 ?_
    refine ⟨l.length - (i+1),by omega,i+1,by omega,fun k hk=>?_,rfl,by rw [B7 (by omega)],rfl⟩
    rcases Nat.lt_succ_iff_lt_or_eq.1 hk with h' | h'
    ·exact hok k h'
    ·rw [h'];exact hp
   ·conv=>whnf
    refine ⟨?_,rfl⟩
    rw [U2 hi' hok hp];rfl
theorem B5q (l:List (List Int)) (hl:l.length≤9223372036854775807) (g:FuncId) (cs:List AV) (p:(List Int)→Bool) (st:St)
  (hg:∀ x,x∈l→S P g (B4 x::cs) st fun v st'=>v=.bool (p x)∧st'=st) :
  S P 333 [A6 1 B4 l,.fn (.func g) [] cs] st fun v st'=>v=.bool (l.any p)∧st'=st:=by
 refine D6 [] Tryz.func333 ?_
 refine I7 (B1g l hl g cs p st hg) ?_
 refine ⟨?_,rfl⟩
 rw [←V0];rfl
theorem B5x (us:List A8) (mine:List Int) (h:C1 us) (hm:K0 us mine) (st:St):S P 334 [B4 mine,.fptr (C0 us) 0] st fun v st'=>v=.bool false∧st'=st:=by
 refine D6 [] Tryz.func334 ?_
 refine I7 (A5W us mine h hm st) ?_
 exact ⟨rfl,rfl⟩
theorem B8V (p:B1) (us:List A8) (parts:List (List Int)) (hfit:K1 p) (hright:J2 p=true) (hk:p.kind=4) (hu:C1 us) (hl:parts.length=p.parts.length) (hl8:parts.length≤8) (hm:∀ x∈parts,K0 us x) (st:St) :
  S P 295 [B8 p,C0 us,A6 1 B4 parts] st fun v st'=>v=.bool true∧st'=st:=by
 refine D6 [3,4] Tryz.func295 ?_
 rw [hk];conv=>whnf
 refine B3 (A5E p hfit st) ?_
 rw [hright];conv=>whnf
 rw [hl]
 have e:((p.parts.length:Int) != (p.parts.length:Int))=false:=by simp
 rw [e];conv=>whnf
 refine I7 (B5q parts (by omega) _ [.fptr (C0 us) 0] (fun _=>false) st fun x hx=>B5x us x hu (hm x hx) st) ?_
 refine ⟨?_,rfl⟩
 have:(parts.any fun _=>false)=false:=by simp
 rw [this];rfl
theorem B0A {s:St} {a b:Nat} {y:N9} (h:a≠b) (hs:s a=none):upd s b y a=none:=by rw [A3 h];exact hs
theorem B9R {n B:Nat} {es:Nat→List QE} (h:∀ i,i<n→(es i).length≤B):tot n es≤n * B:=by
 induction n with
 | zero=>exact Nat.zero_le _
 | succ n ih =>
  unfold tot
  have h1:=ih fun i hi=>h i (by omega)
  have h2:=h n (by omega)
  have h3:(n+1) * B=n * B+B:=Nat.succ_mul n B
  omega
structure Lay (p:B1) (us:List A8) (E:Nat→List QE) (base:St) (bm bu:Nat) (i:Nat) (q:Nat→Nat) (rv:AV) (t:St):Prop where
 nbm:base bm=none
 nbu:base bu=none
 ne:bu≠bm
 has:∃ f g,f 0=.agg (T8 p++[C0 us,.own 1 bu 0 us.length,rv])∧(∀ k,k<us.length→g k=eB false) ∧
  ROut (Qs i q E) 216 1 (fun k=>.optr 1 (q k) 0 0) i (upd (upd base bm ⟨349,18,1,f⟩) bu ⟨4,1,us.length,g⟩) rv t
theorem Lay.mk' {p:B1} {us:List A8} {E:Nat→List QE} {base:St} {bm bu i:Nat} {q:Nat→Nat} {rv:AV} {t:St} (h:Lay p us E base bm bu i q rv t) (hi:0<i) :
  ∃ br,rv=.own 1 br 0 i∧MkR ⟨p,us,bm,bu,br,i,q⟩ (List.replicate us.length false) E base t:=by
 obtain ⟨h1,h2,h3,f,g,hf,hg,s0,hc,hq⟩:=h
 rcases hc with ⟨e,_,_⟩ | ⟨_,br,y,hb,rfl,rfl,hy⟩
 ·omega
 refine ⟨br,rfl,h1,_,⟨f,rfl,by rw [List.length_replicate];exact hf⟩,B0A h3 h2,_,⟨g,by rw [List.length_replicate],fun k hk=>?_⟩,hb,_,⟨y,rfl,hy⟩,hq⟩
 rw [List.length_replicate] at hk
 rw [hg k hk];simp [hk]
theorem B4R (uv:AV) (st:St):S P 290 [uv,B4 []] st fun v st'=>v=.tuple []∧st'=st:=by
 refine D6 [] Tryz.func290 ?_
 refine A7k [0,6,7,8] ?_;conv=>whnf
 intro I;conv=>whnf
 exact ⟨rfl,rfl⟩
theorem B4N (p:B1) (us:List A8) (parts:List (List Int)) (hfit:K1 p) (hright:J2 p=true) (hk:p.kind=4) (hp:A2S p) (hu:C1 us) (hl:parts.length=p.parts.length) (hm:∀ x∈parts,K0 us x) (st:St) :
  S P 244 [B8 p,C0 us,A6 1 B4 parts] st fun v st'=>v=.tuple [C0 (O0 p us parts).1,eI (O0 p us parts).2]∧st'=st:=by
 refine S.post (post:=fun v st'=>∃ sv,v=.tuple [sv,eI (O0 p us parts).2]∧A1Q st (O0 p us parts).1 sv st') ?_
  (fun v st' ⟨sv,hv,hr⟩=>⟨_,st,⟨rfl,rfl⟩,by rw [hv];exact A4.tuple (A4.cons hr.shift (A4.keep _ _)) rfl⟩)
 have hul:=hu.len
 have hn1:=hp.n1
 have hn8:=hp.n8
 have hme:∀ k,k<parts.length→K0 us (parts.getD k default):=fun k hk=>hm _ (A7 hk)
 have hst0:=A4U hu hl (fun k hk=>hme k hk)
 generalize hE:(fun k=>D7 us (parts.getD k default))=E at *
 have hEk:∀ k,E k=D7 us (parts.getD k default):=fun k=>by rw [←hE]
 have hbs:E0 us parts=⟨us,⟨List.replicate us.length false,E,[]⟩,[],0⟩:=by rw [←hE];rfl
 have hD:tot p.parts.length (E0 us parts).ms.es≤800000:=by
  have:=B9R (n:=p.parts.length) (B:=100000) (es:=(E0 us parts).ms.es) (fun i hi=>by
   rw [hbs]
   show (E i).length≤100000
   rw [hEk,A7H]
   exact Nat.le_trans (hme i (by omega)).len hul)
  have h2:p.parts.length * 100000≤8 * 100000:=Nat.mul_le_mul_right _ hn8
  omega
 have hB:O0 p us parts=(if p.closes=true then closeB (A2P p us (tot p.parts.length (E0 us parts).ms.es+1) (E0 us parts)).out (A2P p us (tot p.parts.length (E0 us parts).ms.es+1) (E0 us parts)).taken else (A2P p us (tot p.parts.length (E0 us parts).ms.es+1) (E0 us parts)).out,(A2P p us (tot p.parts.length (E0 us parts).ms.es+1) (E0 us parts)).all):=rfl
 refine D6 [3] Tryz.func244 ?_
 refine call (A5U us hul st) (fun sv base hcol=>?_)
 have hres:=A1Q.ofCol hcol
 conv=>whnf
 refine I7 (B8V p us parts hfit hright hk hu hl (by omega) hm _) ?_
 refine ⟨[4,6],[0],[0,1,2,3,4,5,6,7],by kernel_rfl,?_⟩;conv=>whnf
 refine ⟨_,fun s _=>⟨rfl,rfl⟩,?_⟩;conv=>whnf
 refine mkO rfl rfl rfl (by show 1 * us.length≤_;omega) (by omega) (by rfl) (fun bu hbu=>?_);conv=>whnf
 intro bm hbm
 have hne:bu≠bm:=fun e=>by subst e;rw [A0] at hbm;cases hbm
 rw [A3 hne.symm] at hbm;conv=>whnf
 have hlay0:Lay p us E base bm bu 0 (fun _=>0) .emp (upd (upd base bu ⟨4,r4.size,us.length,fun _=>H3 r4.zero⟩) bm ⟨349,18,1,fun _=>.agg (T8 p++[C0 us,.own 1 bu 0 us.length,.emp])⟩) :=
  ⟨hbm,hbu,hne,fun _=>.agg (T8 p++[C0 us,.own 1 bu 0 us.length,.emp]),fun _=>eB false,rfl,fun _ _=>rfl,by
   rw [L8 hne.symm]
   exact ROut.start (Qs.nil (E7.refl _)) _ _ _⟩
 refine ⟨[1,3,8,9,32,33,34],fun m vs t=>∃ (i:Nat) (q:Nat→Nat) (rv:AV),i≤parts.length∧m=parts.length - i∧vs=[C0 us,.fptr (B8 p) 0,sv,.optr 18 bm 0 0,A6 1 B4 parts,eI parts.length,eI i]∧Lay p us E base bm bu i q rv t,?_,?_⟩
 ·conv=>whnf
  exact ⟨_,0,_,.emp,Nat.zero_le _,rfl,rfl,hlay0⟩
 ·clear hlay0
  rintro m vs t ⟨i,q,rv,hi,rfl,rfl,hlay⟩
  conv=>whnf
  cases h:decide ((i:Int)<(parts.length:Int))
  ·have:=of_decide_eq_false h
   have hin:i=p.parts.length:=by omega
   subst hin
   obtain ⟨br,rfl,hMk⟩:=hlay.mk' (by omega)
   clear hlay
   conv=>whnf
   refine ⟨[3,8,9,12,13],fun m vs t=>∃ (b:BSt) (svT:AV) (ba:St),BOk p us (tot p.parts.length (E0 us parts).ms.es) b∧tot p.parts.length b.ms.es<m∧A2P p us m b=A2P p us (tot p.parts.length (E0 us parts).ms.es+1) (E0 us parts)∧vs=[.fptr (B8 p) 0,sv,.optr 18 bm 0 0,svT,eI b.all]∧A1Q st b.out sv ba∧ROut (MkR ⟨p,us,bm,bu,br,p.parts.length,q⟩ b.ms.used b.ms.es) 3 1 (fun k=>eI (gI b.taken k)) b.taken.length ba svT t,?_,?_⟩
   ·conv=>whnf
    refine ⟨_,E0 us parts,.emp,base,hst0,Nat.lt_succ_self _,rfl,rfl,hres,?_⟩
    rw [hbs]
    exact ROut.start hMk _ _ _
   ·clear hMk hres
    rintro m vs t' ⟨b,svT,ba,hb,hlt,hF,rfl,hres,hout⟩
    obtain ⟨s0,hcol0,hMk⟩:=hout
    obtain ⟨m,rfl⟩:∃ n,m=n+1:=⟨m - 1,by omega⟩
    have hbl:=hb.len
    -- the end: what is closed
    have fin:∀ t2,E7 s0 t2→A2A p us b=none→(p.closes=true→∃ v3 t3,(∀ K:KK,(∀ t3,A1Q st (closeB b.out b.taken) sv t3→K (.tuple []) t3)→T2 P 290 [sv,svT] t2 K)∧v3=AV.emp∧t3=t2)∧A1Q st b.out sv t2∧O0 p us parts=(if p.closes=true then closeB b.out b.taken else b.out,b.all):=fun t2 hs2 hstep=>by
     have hbf:A2P p us (m+1) b=b:=by unfold A2P;rw [hstep]
     rw [hbf] at hF
     refine ⟨fun hc=>⟨.emp,t2,fun K hK=>?_,rfl,rfl⟩,?_,by rw [hB,←hF]⟩
     ·have hsh:A4 [svT] t2 [B4 b.taken] ba:=(hs2.shift _).trans hcol0.shift
      rcases hres.2 with ⟨h5,h6⟩ | ⟨bo,hb0,rfl,hHas⟩
      ·subst h6
       have hnil:b.taken=[]:=by
        cases hbt:b.taken with
        | nil=>rfl
        | cons x l =>
         have:=(hb.mem x (by rw [hbt];exact List.mem_cons_self ..)).2
         have h7:=hb.off.len
         rw [h5,List.length_nil] at h7
         omega
       rw [hnil] at hsh
       refine F7 (args':=[.emp,B4 []]) (A4.cons (A4.keep _ _) hsh) (call (B4R _ ba) (fun v t3 hv=>?_))
       obtain ⟨rfl,rfl⟩:=hv
       refine hK _ ?_
       rw [h5,hnil]
       exact ⟨hres.1,.inl ⟨rfl,rfl⟩⟩
      ·refine F7 (args':=[.own 3 bo 0 b.out.length,B4 b.taken]) (A4.cons (A4.keep _ _) hsh) (call (A8w bo b.out b.taken (fun x hx=>by rw [hb.off.len];exact hb.mem x hx) (by omega) ba hHas) (fun v t3 hv=>?_))
       obtain ⟨rfl,hH3,hfr⟩:=hv
       refine hK _ ⟨fun x y hx=>?_,.inr ⟨bo,hb0,by rw [A1j],hH3⟩⟩
       rw [hfr x (fun e=>by subst e;rw [hb0] at hx;cases hx)];exact hres.1 x y hx
     ·have hsup:E7 ba t2:=hcol0.sup.trans hs2
      refine ⟨hres.1.trans hsup,?_⟩
      rcases hres.2 with h3 | ⟨bo,h3,h4,f,h5,h6⟩
      ·exact .inl h3
      ·exact .inr ⟨bo,h3,h4,f,hsup bo _ h5,h6⟩
    have hok0:MOk us p.parts.length ⟨b.ms.used,b.ms.es,[]⟩:=⟨hb.ok.len,hb.ok.rng,hb.ok.srt,fun x hx=>by simp at hx⟩
    conv=>whnf
    refine call (B9o ⟨p,us,bm,bu,br,p.parts.length,q⟩ rfl hp hu ⟨b.ms.used,b.ms.es,[]⟩ rfl hok0 s0 t' hMk) (fun v t2 hv=>?_)
    simp only at hv
    cases hs:H6 p.parts p.parts.length ⟨b.ms.used,b.ms.es,[]⟩ with
    | none =>
     rw [hs] at hv
     obtain ⟨rfl,hs2⟩:=hv
     obtain ⟨g1,g2,g3⟩:=fin t2 hs2 (by unfold A2A;rw [hs])
     rw [g3];conv=>whnf
     cases hc:p.closes with
     | true =>
      obtain ⟨_,_,g4,_,_⟩:=g1 hc
      conv=>whnf
      refine g4 _ (fun t3 h3=>?_);conv=>whnf
      exact ⟨_,rfl,h3⟩
     | false =>
      conv=>whnf
      exact ⟨_,rfl,g2⟩
    | some s =>
     rw [hs] at hv
     obtain ⟨rfl,hMk2⟩:=hv
     have hBs:=B1U ⟨p,us,bm,bu,br,p.parts.length,q⟩ s.used s.es
     by_cases hcost:F8 us s.l>p.amount
     ·obtain ⟨k1,k2,k3⟩:=hb.step hp hu hs hcost
      have hcost':decide (F8 us s.l>p.amount)=true:=decide_eq_true hcost
      have hstep:A2P p us (m+1) b=A2P p us m ⟨A2W b.out (C5 s.l) (F8 us s.l - p.amount),s,b.taken++C5 s.l,b.all+(F8 us s.l - p.amount)⟩:=by
       conv=>lhs;unfold A2P A2A
       rw [hs];simp only;rw [if_pos hcost]
      rw [hcost']
      have hlen:=A1t hp (Nat.le_refl _) hs
      have htot:=A3q (n:=p.parts.length) (Nat.le_refl _) hs
      have hpos:=A4Z hp hs
      simp only [List.length_nil] at hlen htot hpos
      rcases hres.2 with ⟨h5,h6⟩ | ⟨bo,hb0,rfl,f,hstb,hf⟩
      ·exfalso
       have:=(k1.places.rng 0 (by rw [M9];omega)).2
       rw [h5,List.length_nil] at this
       omega
      have hou:=hb.off.ok hu
      have hout2:ROut (MkR ⟨p,us,bm,bu,br,p.parts.length,q⟩ s.used s.es) 3 1 (fun k=>eI (gI b.taken k)) b.taken.length ba svT t2:=⟨s0,hcol0,hMk2⟩
      conv=>whnf
      refine call (B6Y bo b.out hou (C5 s.l) (by rw [M9];omega) k1.places _ k1.weights t2 ⟨f,hout2.sup hBs bo _ hstb,hf⟩) (fun v t3 hv=>?_)
      obtain ⟨rfl,f3,rfl,hf3⟩:=hv
      have hout3:=hout2.write hBs (y':=⟨152,3,b.out.length,f3⟩) hstb
      have hll:(A2W b.out (C5 s.l) (F8 us s.l - p.amount)).length=b.out.length:=by rw [k2.off.len,hb.off.len]
      conv=>whnf
      refine ROut.apps (q:=r3) (m:=s.l.length) (n:=b.taken.length) hBs rfl rfl rfl rfl (A9m (M9 s.l) _) (f:=fun k=>eI (gI (b.taken++C5 s.l) k)) (fun i hi=>?_) (by show (b.taken.length+s.l.length) * 8≤140737488355328;omega) (hout3.congr fun k hk=>by rw [X7 hk]) (fun sv' t4 hout4=>?_)
      ·show eI (gI (C5 s.l) i)=eI (gI (b.taken++C5 s.l) (b.taken.length+i))
       unfold gI
       rw [List.getD_eq_getElem?_getD,List.getD_eq_getElem?_getD,List.getElem?_append_right (by omega),Nat.add_sub_cancel_left]
      have hX1:=hb.off.pos
      have hX3:=k2.off.sum
      have hX4:=B9 (k2.off.ok hu).nets0
      have hX5:=hu.sum
      have hX6:=k1.weights.t0
      simp only at hX3 hX4
      conv=>whnf
      refine H4 ?_
      refine ⟨m,Nat.lt_succ_self _,⟨A2W b.out (C5 s.l) (F8 us s.l - p.amount),s,b.taken++C5 s.l,b.all+(F8 us s.l - p.amount)⟩,sv',upd ba bo ⟨152,3,b.out.length,f3⟩,k2,by show tot p.parts.length s.es<m;omega,by rw [←hstep];exact hF,?_,?_,?_⟩
      ·have w:IntKind.i64.wrap (b.all+(F8 us s.l - p.amount))=b.all+(F8 us s.l - p.amount):=A5 (by omega) (by omega)
       show [AV.fptr (B8 p) 0,AV.own 3 bo 0 b.out.length,AV.optr 18 bm 0 0,sv',eI (IntKind.i64.wrap (b.all+(F8 us s.l - p.amount)))]=_
       rw [w]
      ·exact ⟨hres.1.over hb0,.inr ⟨bo,hb0,by show AV.own 3 bo 0 b.out.length=_;rw [hll],f3,by rw [A0,hll],by rw [hll];exact hf3⟩⟩
      ·show ROut _ _ _ _ (b.taken++C5 s.l).length _ _ _
       rw [List.length_append,M9];exact hout4
     ·have hcost':decide (F8 us s.l>p.amount)=false:=decide_eq_false hcost
      obtain ⟨g1,g2,g3⟩:=fin t2 (hBs.sup hMk2) (by unfold A2A;rw [hs];simp only;rw [if_neg hcost])
      rw [g3,hcost'];conv=>whnf
      cases hc:p.closes with
      | true =>
       obtain ⟨_,_,g4,_,_⟩:=g1 hc
       conv=>whnf
       refine g4 _ (fun t3 h3=>?_);conv=>whnf
       exact ⟨_,rfl,h3⟩
      | false =>
       conv=>whnf
       exact ⟨_,rfl,g2⟩
  ·have hi':i<parts.length:=by have:=of_decide_eq_true h;omega
   have hmi:=hme i hi'
   have hml:=hmi.len
   obtain ⟨l1,l2,l3,f,g,hf,hg,hout⟩:=hlay
   have hbmS:∀ {n:Nat} {q:Nat→Nat} {E:Nat→List QE} {rv:AV} {fo:Nat→AV} {n':Nat} {t:St},ROut (Qs n q E) 216 1 fo n' (upd (upd base bm ⟨349,18,1,f⟩) bu ⟨4,1,us.length,g⟩) rv t→t bm=some ⟨349,18,1,f⟩:=fun h =>
    h.sup (Y7 _ _ _) bm _ (by rw [A3 l3.symm,A0])
   -- what is behind the call and the append
   have after:∀ (q':Nat) (t2:St),V9 t q' true (D7 us (parts.getD i default)) t2→ROut (Qs (i+1) (O9 q i q') E) 216 1 (fun k=>.optr 1 (O9 q i q' k) 0 0) i (upd (upd base bm ⟨349,18,1,f⟩) bu ⟨4,1,us.length,g⟩) rv t2:=fun q' t2 hq'=>by
    obtain ⟨s0,hc,hqs⟩:=hout
    refine ⟨s0,I2.congr hc fun k hk=>by rw [F3 (by omega)],?_⟩
    refine (hqs.add hq').congr (fun _ _=>rfl) fun k hk=>?_
    by_cases e:k=i
    ·subst e;rw [C6,hEk]
    ·rw [F3 e]
   conv=>whnf
   refine I3 ?_
   refine ⟨[4,7,9,12],[],[],.qui 0 (.qui 1 (.qui 2 (.qui 3 (.qui 5 (.qui 6 (.two 4 7 (.gen 7 (.qui 8 (.gen 9 (.qui 10 (.qui 11 (.gen 12 .done)))))) (.qui 4 (.qui 8 (.gen 9 (.qui 10 (.qui 11 (.gen 12 .done)))))))))))),by kernel_rfl,?_⟩;conv=>whnf
   have stored:∀ (q':Nat) (rv':AV) (t4:St),ROut (Qs (i+1) (O9 q i q') E) 216 1 (fun k=>.optr 1 (O9 q i q' k) 0 0) (i+1) (upd (upd base bm ⟨349,18,1,f⟩) bu ⟨4,1,us.length,g⟩) rv' t4→Lay p us E base bm bu (i+1) (O9 q i q') rv' (upd t4 bm ⟨349,18,1,M1 f 0 (.agg (T8 p++[C0 us,.own 1 bu 0 us.length,rv']))⟩):=fun q' rv' t4 h4=>by
    refine ⟨l1,l2,l3,M1 f 0 (.agg (T8 p++[C0 us,.own 1 bu 0 us.length,rv'])),g,A9 ..,hg,?_⟩
    have h5:=h4.write (Y7 _ _ _) (b:=bm) (y':=⟨349,18,1,M1 f 0 (.agg (T8 p++[C0 us,.own 1 bu 0 us.length,rv']))⟩) (by rw [A3 l3.symm,A0])
    rw [L8 l3,E4] at h5
    exact h5
   have fin3:∀ (q':Nat) (rv':AV) (t5:St),Lay p us E base bm bu (i+1) (O9 q i q') rv' t5→∃ m',m'<parts.length - i∧∃ (i_1:Nat) (q:Nat→Nat) (rv:AV),i_1≤parts.length∧m'=parts.length - i_1∧[C0 us,AV.fptr (B8 p) 0,sv,AV.optr 18 bm 0 0,A6 1 B4 parts,eI parts.length,eI (IntKind.i64.wrap ((i:Int)+1))]=[C0 us,.fptr (B8 p) 0,sv,.optr 18 bm 0 0,A6 1 B4 parts,eI parts.length,eI i_1]∧Lay p us E base bm bu i_1 q rv t5 :=
    fun q' rv' t5 h5=>⟨parts.length - (i+1),by omega,i+1,_,rv',by omega,rfl,by rw [B7 (by omega)],h5⟩
   rcases hout.head with rfl | ⟨br,rfl⟩<;>conv=>whnf
   all_goals constructor
   all_goals conv=>whnf
   case inl.left | inr.left =>
    refine J5 (hbmS hout) hf ?_
    refine call (A4w us (parts.getD i default) hul (by omega) hmi.rng t) (fun v t2 hv=>?_)
    obtain ⟨q',rfl,hq'⟩:=hv
    have hout2:=after q' t2 hq'
    conv=>whnf
    refine ⟨_,⟨rfl,rfl⟩,?_⟩;conv=>whnf
    refine ROut.app (q:=B7J) (Y7 _ _ _) rfl rfl rfl rfl rfl (by simp only [C6];rfl) (by show (i+1) * 8≤140737488355328;omega) hout2 (fun rv' t4 hout4=>?_)
    rcases hout4.head with e | ⟨br',e⟩<;>subst e
    all_goals conv=>whnf
    all_goals refine stV (hbmS hout4) rfl (by omega) hf (by rfl) ?_
    all_goals conv=>whnf
    all_goals refine ⟨rfl,?_⟩
    all_goals conv=>whnf
    all_goals exact fin3 _ _ _ (stored q' _ _ hout4)
   case inl.right | inr.right =>
    refine call (A4w us (parts.getD i default) hul (by omega) hmi.rng t) (fun v t2 hv=>?_)
    obtain ⟨q',rfl,hq'⟩:=hv
    have hout2:=after q' t2 hq'
    conv=>whnf
    refine J5 (hbmS hout2) hf ?_
    refine ⟨_,⟨rfl,rfl⟩,?_⟩;conv=>whnf
    refine ROut.app (q:=B7J) (Y7 _ _ _) rfl rfl rfl rfl rfl (by simp only [C6];rfl) (by show (i+1) * 8≤140737488355328;omega) hout2 (fun rv' t4 hout4=>?_)
    rcases hout4.head with e | ⟨br',e⟩<;>subst e
    all_goals conv=>whnf
    all_goals refine stV (hbmS hout4) rfl (by omega) hf (by rfl) ?_
    all_goals conv=>whnf
    all_goals refine ⟨rfl,?_⟩
    all_goals conv=>whnf
    all_goals exact fin3 _ _ _ (stored q' _ _ hout4)
def inB (l:List D9) (s:D9):Bool:=l.any fun y=>s.toList==y.toList
theorem B5v (l:List D9) (s:D9) (hl:l.length≤9223372036854775807) (st:St):S P 277 [D8 l,eS s] st fun v st'=>v=.bool (inB l s)∧st'=st:=by
 refine D6 [] Tryz.func277 ?_
 refine I7 (B3q l hl s st) ?_
 exact ⟨rfl,rfl⟩
def B1b (s:P3) (x:Ab.Item):Bool:=(s.skus.length+s.cats.length==0)||inB s.skus x.sku||inB s.cats x.cat
theorem B9E (s:P3) (x:Ab.Item) (h1:s.skus.length≤20) (h2:s.cats.length≤20) (st:St):S P 285 [A8A s,E9 x] st fun v st'=>v=.bool (B1b s x)∧st'=st:=by
 refine D6 [2,3] Tryz.func285 ?_
 have w:IntKind.i64.wrap ((s.skus.length:Int)+(s.cats.length:Int))=((s.skus.length+s.cats.length:Nat):Int):=by rw [A5 (by omega) (by omega)];omega
 rw [w,B2q]
 refine B6 (fun h=>?_) (fun h=>?_)<;>rw [h]
 ·conv=>whnf
  refine ⟨?_,rfl⟩
  unfold B1b;rw [h];rfl
 ·conv=>whnf
  refine I7 (B5v s.skus x.sku (by omega) st) ?_
  refine B6 (fun h3=>?_) (fun h3=>?_)<;>rw [h3]
  ·conv=>whnf
   refine ⟨?_,rfl⟩
   unfold B1b;rw [h,h3];rfl
  ·conv=>whnf
   refine I7 (B5v s.cats x.cat (by omega) st) ?_
   refine ⟨?_,rfl⟩
   unfold B1b;rw [h,h3];rfl
theorem R4:G5 E7 where
 sup:=fun h=>h
 begin:=fun {s t b y} h hb=>fun c x hc=>by
  by_cases e:c=b
  ·subst e;rw [A0] at hc ⊢;exact hc
  ·rw [A3 e] at hc ⊢;exact h c x hc
 grow:=fun {s t b b' y y'} h h0 hb=>by
  have hsub:∀ c x,s c=some x→c≠b∧t c=some x:=fun c x hc=>by
   have hne:c≠b:=fun e=>by subst e;rw [h0] at hc;cases hc
   exact ⟨hne,h c x (by rw [A3 hne];exact hc)⟩
  have hb':s b'=none:=by
   rcases hb with e | e
   ·rw [e];exact h0
   ·cases hx:s b' with
    | none=>rfl
    | some x=>rw [(hsub _ _ hx).2] at e;cases e
  refine ⟨hb',fun c x hc=>?_⟩
  by_cases e:c=b'
  ·subst e;rw [A0] at hc ⊢;exact hc
  ·rw [A3 e] at hc ⊢
   rw [Y8 (hsub c x hc).1];exact (hsub c x hc).2
 write:=fun {s t b y y'} h hb=>E7.write (y:=y) h
 forget:=fun {s t b y} h h0=>fun c x hc=>by
  have hne:c≠b:=fun e=>by subst e;rw [h0] at hc;cases hc
  rw [Y8 hne];exact h c x (by rw [A3 hne];exact hc)
 drop:=fun {s t b y} h h0=>E7.drop h h0
theorem B4J {ι : Type} {R : ι→St→St→Prop} (h:∀ i,G5 (R i)):G5 fun s t=>∃ i,R i s t where
 sup:=fun ⟨i,hi⟩=>(h i).sup hi
 begin:=fun ⟨i,hi⟩ hb=>⟨i,(h i).begin hi hb⟩
 grow:=fun ⟨i,hi⟩ h0 hb=>⟨((h i).grow (y':=⟨0,0,0,fun _=>.junk⟩) hi h0 hb).1,i,((h i).grow hi h0 hb).2⟩
 write:=fun ⟨i,hi⟩ hb=>⟨i,(h i).write hi hb⟩
 forget:=fun ⟨i,hi⟩ h0=>⟨i,(h i).forget hi h0⟩
 drop:=fun ⟨i,hi⟩ h0=>⟨i,(h i).drop hi h0⟩
theorem I2.off {ty e n:Nat} {fo:Nat→AV} {s s0:St} {sv:AV} (h:I2 ty e fo s n sv s0) {b:Nat} (hb:s0 b=none):s b=none:=by
 rcases h with ⟨_,_,rfl⟩ | ⟨_,bo,g,h1,_,rfl,_⟩
 ·exact hb
 ·by_cases e:b=bo
  ·subst e;exact h1
  ·rw [A3 e] at hb;exact hb
theorem I2.under {ty e n:Nat} {fo:Nat→AV} {s s0:St} {sv:AV} (h:I2 ty e fo s n sv s0) {b:Nat} {y:N9} (hb:s0 b=none):I2 ty e fo (upd s b y) n sv (upd s0 b y):=by
 rcases h with ⟨rfl,rfl,rfl⟩ | ⟨h0,bo,g,h1,rfl,rfl,h3⟩
 ·exact I2.start _ _ _ _
 ·have hne:bo≠b:=fun e=>by subst e;rw [A0] at hb;cases hb
  exact .inr ⟨h0,bo,g,by rw [A3 hne];exact h1,rfl,L8 hne,h3⟩
theorem I2.split {ty e n:Nat} {fo:Nat→AV} {s s0:St} {sv:AV} {b:Nat} {y:N9} (h:I2 ty e fo (upd s b y) n sv s0) (hb:s b=none):∃ s1,s1 b=none∧s0=upd s1 b y∧I2 ty e fo s n sv s1:=by
 rcases h with ⟨rfl,rfl,rfl⟩ | ⟨h0,bo,g,h1,rfl,rfl,h3⟩
 ·exact ⟨s,hb,rfl,I2.start _ _ _ _⟩
 ·have hne:bo≠b:=fun e=>by subst e;rw [A0] at h1;cases h1
  rw [A3 hne] at h1
  exact ⟨upd s bo ⟨ty,e,n,g⟩,by rw [A3 hne.symm];exact hb,L8 hne.symm,.inr ⟨h0,bo,g,h1,rfl,rfl,h3⟩⟩
theorem A2z {R:St→St→Prop} (hR:G5 R) (ty e:Nat) (fo:Nat→AV) (n:Nat) (sv:AV):G5 fun s t=>ROut R ty e fo n s sv t where
 sup:=fun h=>h.sup hR
 begin:=fun {s t b y} ⟨s0,hc,h⟩ hb=>⟨upd s0 b y,I2.under hc ((hR.sup h).none hb),hR.begin h hb⟩
 grow:=fun {s t b b' y y'} ⟨s0,hc,h⟩ h0 hb=>by
  obtain ⟨s1,h1,rfl,hc1⟩:=I2.split hc h0
  obtain ⟨g1,g2⟩:=hR.grow (y':=y') h h1 hb
  exact ⟨I2.off hc1 g1,_,I2.under hc1 g1,g2⟩
 write:=fun {s t b y y'} ⟨s0,hc,h⟩ hb=>⟨_,I2.write hc hb,hR.write h (hc.sup b y hb)⟩
 forget:=fun {s t b y} ⟨s0,hc,h⟩ h0=>by
  obtain ⟨s1,h1,rfl,hc1⟩:=I2.split hc h0
  exact ⟨s1,hc1,hR.forget h h1⟩
 drop:=fun {s t b y} ⟨s0,hc,h⟩ h0=>by
  obtain ⟨s1,h1,rfl,hc1⟩:=I2.split hc h0
  exact ⟨s1,hc1,hR.drop h h1⟩
structure PSt where
 us:List A8
 deals:List A3a
 groups:List D9
abbrev A1X (l:List A3a):Nat→AV:=fun k=>B4Z (l.getD k default)
abbrev A5Z (l:List D9):Nat→AV:=fun k=>eS (l.getD k default)
def IsP (items:List Ab.Item) (us:List A8) (dv gv:AV) (y:N9):Prop:=∃ f,y=⟨147,4,1,f⟩∧f 0=.agg [A6 4 E9 items,C0 us,dv,gv]
def RG (groups:List D9) (gv:AV):St→St→Prop:=fun s t=>ROut E7 9 1 (A5Z groups) groups.length s gv t
def RD (deals:List A3a) (groups:List D9) (dv gv:AV):St→St→Prop:=fun s t=>ROut (RG groups gv) 134 2 (A1X deals) deals.length s dv t
def PxR (bx:Nat) (items:List Ab.Item) (p:PSt):St→St→Prop:=fun s t=>∃ v:AV×AV,V1 bx (IsP items p.us v.1 v.2) (RD p.deals p.groups v.1 v.2) s t
theorem A8s (groups:List D9) (gv:AV):G5 (RG groups gv):=A2z R4 _ _ _ _ _
theorem A2y (deals:List A3a) (groups:List D9) (dv gv:AV):G5 (RD deals groups dv gv):=A2z (A8s groups gv) _ _ _ _ _
theorem A1g (bx:Nat) (items:List Ab.Item) (p:PSt):G5 (PxR bx items p):=B4J fun _=>A0d (A2y _ _ _ _)
theorem PxR.at {bx:Nat} {items:List Ab.Item} {p:PSt} {s t:St} (h:PxR bx items p s t):∃ dv gv f,t bx=some ⟨147,4,1,f⟩∧f 0=.agg [A6 4 E9 items,C0 p.us,dv,gv]∧(dv=.emp∨∃ b,dv=.own 2 b 0 p.deals.length)∧(gv=.emp∨∃ b,gv=.own 1 b 0 p.groups.length):=by
 obtain ⟨⟨dv,gv⟩,h⟩:=h
 obtain ⟨y,⟨f,rfl,hf⟩,hy⟩:=V1.at (A2y _ _ _ _) h
 obtain ⟨_,_,_,hd⟩:=h
 obtain ⟨s0,hc,hg⟩:=hd
 refine ⟨dv,gv,f,hy,hf,?_,?_⟩
 ·exact (show ROut (RG p.groups gv) _ _ _ _ _ dv t from ⟨s0,hc,hg⟩).head
 ·exact hg.head
def U3 (sc:P3) (items:List Ab.Item) (u:A8):Bool:=u.opn&&B1b sc (items.getD u.line.toNat default)
def G4 (sc:P3) (items:List Ab.Item) (us:List A8) (i:Nat):List Int:=((List.range i).filter fun k=>U3 sc items (gU us k)).map Int.ofNat
theorem B1i (sc:P3) (items:List Ab.Item) (us:List A8) (i:Nat):G4 sc items us (i+1)=G4 sc items us i++(if U3 sc items (gU us i)=true then [(i:Int)] else []):=by
 unfold G4
 rw [List.range_succ,List.filter_append,List.map_append]
 congr 1
 by_cases h:U3 sc items (gU us i)=true
 ·rw [if_pos h,List.filter_cons_of_pos (p:=fun k=>U3 sc items (gU us k)) h];rfl
 ·rw [if_neg h,List.filter_cons_of_neg (p:=fun k=>U3 sc items (gU us k)) h];rfl
theorem A4F (sc:P3) (items:List Ab.Item) (us:List A8) (i:Nat):(G4 sc items us i).length≤i:=by
 unfold G4
 rw [List.length_map]
 exact Nat.le_trans (List.length_filter_le ..) (by simp)
theorem A0N (sc:P3) (items:List Ab.Item) (us:List A8):K0 us (G4 sc items us us.length):=by
 have hmem:∀ k,k<(G4 sc items us us.length).length→∃ j:Nat,gI (G4 sc items us us.length) k=(j:Int)∧j<us.length∧U3 sc items (gU us j)=true:=fun k hk=>by
  have h:=A7 (l:=G4 sc items us us.length) hk
  obtain ⟨j,hj,he⟩:=List.mem_map.1 h
  obtain ⟨h1,h2⟩:=List.mem_filter.1 hj
  exact ⟨j,he.symm,List.mem_range.1 h1,h2⟩
 refine ⟨fun k hk=>?_,fun k hk=>?_,fun k hk=>?_⟩
 ·obtain ⟨j,e,h1,h2⟩:=hmem k hk
  rw [e];omega
 ·obtain ⟨j,e,h1,h2⟩:=hmem k hk
  rw [e]
  unfold U3 at h2
  rw [Bool.and_eq_true] at h2
  exact h2.1
 ·have hs:(G4 sc items us us.length).Pairwise (·<·):=by
   unfold G4
   refine List.Pairwise.map _ (fun a b h=>?_) ((List.pairwise_lt_range (n:=us.length)).filter _)
   show (a:Int)<(b:Int)
   omega
  have:=List.pairwise_iff_getElem.1 hs k (k+1) (by omega) hk (by omega)
  simpa [gI,hk,show k<(G4 sc items us us.length).length by omega] using this
theorem B5s (bx:Nat) (items:List Ab.Item) (p:PSt) (sc:P3) (h1:sc.skus.length≤20) (h2:sc.cats.length≤20) (hu:p.us.length≤100000) (hi:items.length≤100000) (hl:∀ u∈p.us,0≤u.line∧u.line.toNat<items.length) (s t:St) (h:PxR bx items p s t) :
  S P 239 [.optr 4 bx 0 0,A8A sc] t fun v t'=>v=B4 (G4 sc items p.us p.us.length)∧t'=t:=by
 refine S.post (post:=fun v t'=>∃ t1,E7 t t1∧I2 3 1 (fun k=>eI (gI (G4 sc items p.us p.us.length) k)) t1 (G4 sc items p.us p.us.length).length v t') ?_
  (fun v t' ⟨t1,hs,hc⟩=>⟨_,t,⟨rfl,rfl⟩,hc.shift.trans (hs.shift _)⟩)
 obtain ⟨dv,gv,fx,hx,hx0,hdv,hgv⟩:=h.at
 refine D6 [3,7,10] Tryz.func239 ?_
 refine J5 hx hx0 ?_
 refine ⟨[0,3,5,14,15,16],fun m vs t'=>∃ (i:Nat) (sv:AV),i≤items.length∧m=items.length - i∧vs=[.optr 4 bx 0 0,.fptr (A8A sc) 0,sv,A6 4 E9 items,eI items.length,eI i]∧I2 4 1 (fun k=>eB (B1b sc (items.getD k default))) t i sv t',?_,?_⟩
 ·conv=>whnf
  exact ⟨_,0,.emp,Nat.zero_le _,rfl,rfl,I2.start _ _ _ _⟩
 ·rintro m vs t' ⟨i,sv,hi2,rfl,rfl,hcol⟩
  conv=>whnf
  cases hd:decide ((i:Int)<(items.length:Int))
  ·have:=of_decide_eq_false hd
   obtain rfl:i=items.length:=by omega
   have hx':=hcol.sup bx _ hx
   conv=>whnf
   refine J5 hx' hx0 ?_
   refine ⟨[5,8,30,31,32],fun m vs t2=>∃ (k:Nat) (sv2:AV),k≤p.us.length∧m=p.us.length - k∧vs=[sv,sv2,C0 p.us,eI p.us.length,eI k]∧I2 3 1 (fun j=>eI (gI (G4 sc items p.us k) j)) t' (G4 sc items p.us k).length sv2 t2,?_,?_⟩
   ·conv=>whnf
    exact ⟨_,0,.emp,Nat.zero_le _,rfl,rfl,I2.start _ _ _ _⟩
   ·rintro m vs t2 ⟨k,sv2,hk,rfl,rfl,hcol2⟩
    have hpl:=A4F sc items p.us k
    conv=>whnf
    cases hd2:decide ((k:Int)<(p.us.length:Int))
    ·have:=of_decide_eq_false hd2
     obtain rfl:k=p.us.length:=by omega
     conv=>whnf
     exact ⟨t',hcol.sup,hcol2⟩
    ·have hk':k<p.us.length:=by have:=of_decide_eq_true hd2;omega
     have hlk:0≤(gU p.us k).line∧(gU p.us k).line.toNat<items.length:=hl _ (A7 (l:=p.us) hk')
     have es:=B1i sc items p.us k
     conv=>whnf
     refine I3 ?_
     have fin:∀ (sv3:AV) (t3:St),I2 3 1 (fun j=>eI (gI (G4 sc items p.us (k+1)) j)) t' (G4 sc items p.us (k+1)).length sv3 t3→∃ m',m'<p.us.length - k∧∃ (k_1:Nat) (sv2:AV),k_1≤p.us.length∧m'=p.us.length - k_1∧[sv,sv3,C0 p.us,eI p.us.length,eI (IntKind.i64.wrap ((k:Int)+1))]=[sv,sv2,C0 p.us,eI p.us.length,eI k_1]∧I2 3 1 (fun j=>eI (gI (G4 sc items p.us k_1) j)) t' (G4 sc items p.us k_1).length sv2 t3 :=
      fun sv3 t3 hc=>⟨p.us.length - (k+1),by omega,k+1,sv3,by omega,rfl,by rw [B7 (by omega)],hc⟩
     refine B6 (fun h3=>?_) (fun h3=>?_)<;>rw [h3]
     ·rcases hcol with ⟨h0,rfl,rfl⟩ | ⟨h0,b,g,hb,rfl,rfl,hg⟩
      ·exfalso;omega
      have hbt:=hcol2.sup b _ (A0 ..)
      have hgk:g (0+(gU p.us k).line.toNat)=eB (B1b sc (items.getD (gU p.us k).line.toNat default)):=by rw [Nat.zero_add];exact hg _ hlk.2
      conv=>whnf
      refine ⟨rfl,⟨by show 0≤(gU p.us k).line;exact hlk.1,by show (gU p.us k).line<(items.length:Int);have:=hlk.2;have:=hlk.1;omega⟩,?_⟩;conv=>whnf
      refine ldV hbt rfl (by show 0+(gU p.us k).line.toNat<_;have:=hlk.2;omega) hgk ?_;conv=>whnf
      refine B6 (fun h4=>?_) (fun h4=>?_)<;>rw [h4]
      ·have ho:U3 sc items (gU p.us k)=true:=by
        unfold U3;rw [show (gU p.us k).opn=true from h3,h4];rfl
       rw [if_pos ho] at es
       have el:(G4 sc items p.us (k+1)).length=(G4 sc items p.us k).length+1:=by rw [es];simp
       conv=>whnf
       refine I2.app (q:=r3) rfl rfl rfl rfl rfl (f:=fun j=>eI (gI (G4 sc items p.us (k+1)) j)) (by simp only [es,A8D];rfl) (by show ((G4 sc items p.us k).length+1) * 8≤140737488355328;omega) (hcol2.congr fun j hj=>by rw [es,X7 hj]) (fun sv3 t3 hc3=>?_);conv=>whnf
       refine H4 ?_
       exact fin sv3 t3 (by rw [el];exact hc3)
      ·have ho:¬ U3 sc items (gU p.us k)=true:=by
        unfold U3;rw [h4];simp
       rw [if_neg ho,List.append_nil] at es;conv=>whnf
       refine H4 ?_
       exact fin sv2 t2 (by rw [es];exact hcol2)
     ·have ho:¬ U3 sc items (gU p.us k)=true:=by
       unfold U3;rw [show (gU p.us k).opn=false from h3];simp
      rw [if_neg ho,List.append_nil] at es;conv=>whnf
      refine H4 ?_
      exact fin sv2 t2 (by rw [es];exact hcol2)
  ·have hi':i<items.length:=by have:=of_decide_eq_true hd;omega
   conv=>whnf
   refine I3 ?_
   refine I7 (B9E sc (items.getD i default) h1 h2 _) ?_
   refine I2.app (q:=r4) rfl rfl rfl rfl rfl rfl (by show (i+1) * 1≤140737488355328;omega) hcol (fun sv' t2 hcol'=>?_);conv=>whnf
   refine H4 ?_
   exact ⟨items.length - (i+1),by omega,i+1,sv',by omega,rfl,by rw [B7 (by omega)],hcol'⟩
end Go.Proofs.YtbajhapmlfbelaaGreat
namespace Go.Proofs.YtbajhapmlfbelaaGreat
open Go Go.Ab Go.Proofs Go.Sort Go.Lib
attribute [local irreducible] upd del
def scF (x:Nat):Nat:=match x with
 | 43=>243
 | n=>n
def scT (x:Nat):Nat:=match x with
 | 22=>29
 | 23=>3
 | 0=>0
 | 3=>3
 | 4=>4
 | n=>n
def C2d:Go.Shelf.Ren:={ f:=scF,t:=scT,g:=fun n=>n }
theorem B8x:SlLaysE.n43 Tryz.prog C2d where
 mixed:=by kernel_rfl
 f43 := ⟨"slices.Compact[[]int,int]", by decide, Tryz.func243.trans (congrArg some (by kernel_rfl))⟩
 t0:=Tryz.underlying0
 a0:=Tryz.isAgg0
 z0:=Tryz.sizeOf0
 v0:=Tryz.zeroValue0
 t3:=Tryz.underlying3
 a3:=Tryz.isAgg3
 z3:=Tryz.sizeOf3
 v3:=Tryz.zeroValue3
 t4:=Tryz.underlying4
 a4:=Tryz.isAgg4
 z4:=Tryz.sizeOf4
 v4:=Tryz.zeroValue4
 t22:=Tryz.underlying29
 a22:=Tryz.isAgg29
 z22:=Tryz.sizeOf29
 v22:=Tryz.zeroValue29
 a23:=Tryz.isAgg3
 z23:=Tryz.sizeOf3
def R5 (l:List Int):List Int:=compactUpTo l.toArray l.length
def A3O (l:List Int):List Int:=R5 l++List.replicate (l.length - (R5 l).length) 0
theorem A4u (l:List Int):(R5 l).length≤l.length:=by
 unfold R5 compactUpTo
 rw [List.length_map]
 exact Nat.le_trans (List.length_filter_le ..) (by simp)
theorem A7G (l:List Int):(A3O l).length=l.length:=by
 have:=A4u l
 unfold A3O;rw [List.length_append,List.length_replicate];omega
def A2h (l':List Int):N9:=⟨3,1,l'.length,fun k=>eI (gI l' k)⟩
theorem B7O {st:St} {w:World} {b n:Nat} {l l':List Int} (hl:l'.length=l.length) (hb:A1M st b l) (hS:C9 st w) :
  P2 st w (upd st b (A2h l')) (putRow (Value.int .i64) (Sort.ahead w n) b 0 l'.toArray)∧C9 (upd st b (A2h l')) (putRow (Value.int .i64) (Sort.ahead w n) b 0 l'.toArray):=by
 obtain ⟨f,hst,hf⟩:=hb
 obtain ⟨cs,hok⟩:=hS b _ hst
 have hbl:b<w.heap.size:=(Array.getElem?_eq_some_iff.1 hok.heap).1
 have hsz:l.length * 1≤cs.size:=hok.size
 have hheap:∀ c,c<w.heap.size→(putRow (Value.int .i64) (Sort.ahead w n) b 0 l'.toArray).heap[c]?=if b=c then some (.cells (putCells (Value.int .i64) 0 l'.toArray cs) 3 (0,0)) else w.heap[c]?:=fun c hc=>by
  show (w.heap.modify b (onCells (putCells (Value.int .i64) 0 l'.toArray)))[c]?=_
  rw [Array.getElem?_modify]
  split
  ·rename_i e;subst e;rw [hok.heap];rfl
  ·rfl
 have hev:P2 st w (upd st b (A2h l')) (putRow (Value.int .i64) (Sort.ahead w n) b 0 l'.toArray):=by
  refine ⟨rfl,rfl,rfl,?_,fun c hc hs=>?_,fun c=>?_⟩
  ·show w.heap.size≤(w.heap.modify b _).size
   simp
  ·have hne:b≠c:=fun e=>by subst e;rw [hst] at hs;cases hs
   rw [hheap c hc,if_neg hne]
   exact ⟨rfl,by rw [A3 hne.symm];exact hs⟩
  ·by_cases hc:c<w.heap.size
   ·unfold U7
    rw [hheap c hc]
    by_cases e:b=c
    ·subst e
     rw [hok.heap,if_pos rfl]
     simp [putCells]
    ·rw [if_neg e];exact Nat.le_refl _
   ·unfold U7
    rw [Array.getElem?_eq_none (by omega)]
    exact Nat.zero_le _
 refine ⟨hev,fun c x hx=>?_⟩
 by_cases e:c=b
 ·subst e
  rw [A0] at hx
  cases hx
  refine ⟨putCells (Value.int .i64) 0 l'.toArray cs,?_,?_,fun i hi=>rfl,fun i hi=>rfl,fun i j y hi hy=>?_⟩
  ·rw [hheap c hbl,if_pos rfl];rfl
  ·show l'.length * 1≤_
   rw [hl]
   simpa [putCells] using hsz
  ·have hi':i<l'.length:=hi
   cases j with
   | succ j=>simp [A2h,cellsOf] at hy
   | zero =>
    have hy':y=eI (gI l' i):=by simpa [A2h,cellsOf] using hy.symm
    subst hy'
    refine ⟨.int .i64 (gI l' i),?_,.int _ _⟩
    show (putCells (Value.int .i64) 0 l'.toArray cs)[i * 1+0]?=_
    unfold putCells
    rw [Array.getElem?_mapIdx,Nat.mul_one,Nat.add_zero,Array.getElem?_eq_getElem (by omega),Option.map_some]
    rw [if_pos ⟨by omega,by simp;omega⟩,Nat.sub_zero]
    have:l'.toArray[i]! = gI l' i:=by
     rw [getElem!_pos _ i (by simp;omega)]
     simp [gI,hi']
    rw [this]
 ·rw [A3 e] at hx
  obtain ⟨ds,hd⟩:=hS c x hx
  have hcl:c<w.heap.size:=(Array.getElem?_eq_some_iff.1 hd.heap).1
  exact ⟨ds,hd.evo hev (by rw [hheap c hcl,if_neg (fun e'=>e e'.symm)])⟩
theorem B9q:OneCell (Value.int .i64):=fun x=>rfl
theorem B2Y (b:Nat) (l:List Int) (hl:l.length≤4611686018427387904) (st:St) (hb:A1M st b l) :
  S P 243 [.own 1 b 0 l.length] st fun v st'=>v=.own 1 b 0 (R5 l).length∧st'=upd st b (A2h (A3O l)):=by
 refine ⟨B8x.f43.enters rfl,fun cargs w hr hS=>?_⟩
 obtain ⟨hlen,hr⟩:=hr
 have hb':=hb
 obtain ⟨f,hst,hf⟩:=hb'
 obtain ⟨cs,hok⟩:=hS b _ hst
 have h0:0<cargs.size:=by rw [←hlen];exact Nat.one_pos
 have ha:=hr 0 _ cargs[0] rfl (Array.getElem?_eq_getElem h0)
 have hc:∃ c,l.length≤c∧c≤U7 w b∧cargs=#[.slice (some ⟨b,0,none⟩) l.length c]:=by
  generalize hv:cargs[0]=v at ha
  cases ha with
  | own e b off n c hc hs =>
   refine ⟨c,hc,by simpa using hs,Array.ext (by rw [←hlen];rfl) fun i h1 h2=>?_⟩
   have:i=0:=by simp at h2;exact h2
   subst this;rw [hv];rfl
 obtain ⟨c,hlc,hcs,rfl⟩:=hc
 have hH:Holds (Value.int .i64) w b 0 l.toArray:=fun j hj=>by
  have hj':j<l.length:=by simpa using hj
  obtain ⟨x,hx,hrep⟩:=hok.cell j 0 (eI (gI l j)) hj' (by show (cellsOf (f j))[0]?=_;rw [hf j hj'];rfl)
  have hxx:x=.int .i64 (gI l j):=by cases hrep;rfl
  subst hxx
  have hg:l.toArray[j]! = gI l j:=by rw [getElem!_pos _ j (by simpa using hj')];simp [gI,hj']
  refine ⟨?_,?_⟩
  ·unfold World.cell?
   rw [hok.heap,hg]
   have:cs[j * 1+0]?=some (.int .i64 (gI l j)):=hx
   simpa using this
  ·unfold World.frozen?
   rw [hok.heap]
   simp
 have hcl:=A4u l
 have hK:=AnyE.slices_Compact B8x (Value.int .i64) B9q (EqlAt.intD P _ .i64) (NeqAt.intD P _ .i64) 0 Tryz.zeroValue3 b 0 c l.toArray w hH (by simp;omega) (by simpa using hlc)
 rw [show l.toArray.size=l.length from by simp] at hK
 refine hK.mono ?_
 rintro e w' ⟨rfl,n,rfl⟩
 obtain ⟨h1,h2⟩:=B7O (n:=n) (A7G l) hb hS
 refine ⟨.own 1 b 0 (R5 l).length,_,_,⟨rfl,rfl⟩,rfl,?_,h2,h1⟩
 have hr2:E8 w st (.own 1 b 0 (R5 l).length) (.slice (some ⟨b,0 * 1,none⟩) (R5 l).length c):=.own 1 b 0 _ c (Nat.le_trans hcl hlc) (by simpa using hcs)
 exact h1.rep hr2
theorem B0O (st:St):S P 243 [.emp] st fun v st'=>v=.emp∧st'=st:=by
 refine D6 [] Tryz.func243 ?_
 exact ⟨rfl,rfl⟩
theorem B7i {l:List Int} {k:Nat} (h:k<(R5 l).length):gI (A3O l) k=gI (R5 l) k:=by
 unfold A3O;exact X7 h
end Go.Proofs.YtbajhapmlfbelaaGreat
