/- Part 26 of the proof: contracts of the functions that the law reaches -/
import Derived.Test.YtbajhapmlfbelaaGreatQf25
set_option maxRecDepth 100000
set_option linter.unusedVariables false
set_option linter.unusedSimpArgs false
namespace Go.Proofs.YtbajhapmlfbelaaGreat
open Go Go.Ab
attribute [local irreducible] upd del
theorem A9n {α : Type} [Inhabited α] {l:List α} {p : α→Bool} {i:Nat} (hi:i<l.length) (h:p (l.getD i default)=true) (hno:∀ j,j<i→p (l.getD j default)=false):l.find? p=some (l.getD i default):=by
 have g:∀ j (hj:j<l.length),l.getD j default=l[j]:=fun j hj=>by rw [List.getD_eq_getElem?_getD,List.getElem?_eq_getElem hj];rfl
 rw [List.find?_eq_some_iff_getElem]
 refine ⟨h,i,hi,(g i hi).symm,fun j hj=>?_⟩
 have:=hno j hj
 rw [g j (by omega)] at this
 rw [this];rfl
theorem A9o {α : Type} [Inhabited α] {l:List α} {p : α→Bool} (hno:∀ j,j<l.length→p (l.getD j default)=false):l.find? p=none:=by
 rw [List.find?_eq_none]
 intro x hx
 obtain ⟨j,hj,rfl⟩:=E3 hx
 rw [hno j hj];simp
theorem B6I (z:L3) (c:D6) (hl:z.rates.length≤100000) (st:St):S P 209 [Q6 z,eS c] st fun v st'=>v=eI (E7 z c)∧st'=st:=by
 refine G0 [2,6] Tryz.func209 ?_
 refine lp z.rates.length [1,2,8,9,10] (fun i vs t=>(∀ j,j<i→((z.rates.getD j default).cat.toList==c.toList)=false)∧vs=[eS c,.fptr (Q6 z) 0,B1 2 Y3 z.rates,eI z.rates.length,eI i]∧t=st) ?_ ?_
 ·conv=>whnf
  exact ⟨fun j hj=>absurd hj (by omega),rfl,rfl⟩
 ·rintro i vs t hi ⟨hno,rfl,rfl⟩
  conv=>whnf
  cases h1:decide ((i:Int)<(z.rates.length:Int))
  ·obtain rfl:=C6 h1 hi
   have hf:E7 z c=z.rest:=by unfold E7;rw [A9o hno]
   rw [hf];conv=>whnf
   exact ⟨rfl,rfl⟩
  ·have hi':=E4 h1
   conv=>whnf
   refine E1 ?_
   refine B9 (fun h2=>?_) (fun h2=>?_)<;>rw [h2]
   ·have hf:E7 z c=(z.rates.getD (i:Int).toNat default).rate:=by unfold E7;rw [A9n (p:=fun x:H2=>x.cat.toList==c.toList) hi' h2 hno];rfl
    rw [hf];conv=>whnf
    exact ⟨rfl,rfl⟩
   ·conv=>whnf
    refine G7 ?_
    exact nx hi' ⟨K0 hno h2,by rw [B8 (by omega)],rfl⟩
theorem B2I (l:List H2) (hl:l.length≤100000) (st:St):S P 261 [B1 2 Y3 l] st fun v st'=>v=B1 2 Y3 l∧st'=st:=by
 refine A1s (ty:=212) ?_
 refine SyW [] Tryz.func261 ?_
 cases l with
 | nil =>
  conv=>whnf
  refine ⟨?_,?_⟩
  ·conv=>whnf
   exact N3.start _ _ _ _
  ·conv=>whnf
   refine apE rfl rfl rfl rfl rfl (by show 0 * 24≤_;omega) (fun _=>?_) (fun h=>absurd h (by show ¬ 0<0;omega));conv=>whnf
   exact N3.start _ _ _ _
 | cons u us =>
  conv=>whnf
  refine N3.apps (n:=0) (m:=us.length+1) (q:=C4g) (f:=fun k=>Y3 ((u::us).getD k default)) rfl rfl rfl rfl rfl (fun i hi=>by rw [Nat.zero_add]) (by show (0+(us.length+1)) * 24≤140737488355328;simp only [List.length_cons] at hl;omega) (N3.start _ _ _ _) (fun sv' st'' hc'=>?_);conv=>whnf
  rw [Nat.zero_add] at hc'
  exact hc'
theorem B4c (z:L3) (hl:z.rates.length≤100000) (st:St):S P 189 [Q6 z] st fun v st'=>v=Q6 z∧st'=st:=by
 have hc:=fun s=>B2I z.rates hl s
 refine A2a ?_
 refine G0 [] Tryz.func189 ?_
 intro b1 h1;conv=>whnf
 intro b2 h2
 have h12:b1≠b2:=fun e=>by subst e;rw [A0] at h2;cases h2
 conv=>whnf
 refine F2 (by rw [A6 h12];exact A0 ..) rfl ?_
 refine I2 (hc _) ?_
 refine N1 (by rw [A6 h12];exact A0 ..) rfl ?_
 refine F2 (A0 ..) (A5 ..) ?_
 refine N1 (by rw [A6 h12.symm];exact A0 ..) rfl ?_
 refine F2 (A0 ..) (A5 ..) ?_
 have hn2:st b2=none:=by rw [A6 h12.symm] at h2;exact h2
 exact ⟨rfl,((((D8.refl st).upd h1).upd h2).over h1).over hn2⟩
def B8i:L3:=⟨⟨#[]⟩,[],0,0⟩
theorem B0N (t:Tax) (s:D6) (hl:t.zones.length≤100000) (hr:∀ z∈t.zones,z.rates.length≤100000) (st:St) :
  S P 208 [M8 t,eS s] st fun v st'=>v=.tuple [Q6 ((X7 t.zones s).getD B8i),.bool (X7 t.zones s).isSome]∧st'=st:=by
 refine S.post (post:=fun v s'=>D8 st s'∧((∃ z,X7 t.zones s=some z∧v=.tuple [Q6 z,.bool true])∨(X7 t.zones s=none∧v=.tuple [.agg [eS ⟨#[]⟩,.emp,eI 0,eI 0],.bool false]))) ?_ (fun v s' ⟨hs,h⟩=>⟨_,st,⟨rfl,rfl⟩,by
  rcases h with ⟨z,h1,rfl⟩ | ⟨h1,rfl⟩
  ·rw [h1];exact hs.shift _
  ·rw [h1]
   exact (B0.tuple (B0.cons (Le.shift (Le.agg (E0.cons (Le.refl _) (E0.cons (Le.emp _ _) (E0.refl _)))) _) (B0.keep _ _)) rfl).trans (hs.shift _)⟩)
 refine G0 [2,7] Tryz.func208 ?_
 intro b4 hb4;conv=>whnf
 refine lp t.zones.length [1,4,9,10,11] (fun i vs u=>(∀ j,j<i→((t.zones.getD j default).name.toList==s.toList)=false)∧vs=[eS s,.optr 4 b4 0 0,B1 4 Q6 t.zones,eI t.zones.length,eI i]∧u=upd st b4 ⟨177,4,1,fun _=>H4 B9f.zero⟩) ?_ ?_
 ·conv=>whnf
  exact ⟨fun j hj=>absurd hj (by omega),rfl,rfl⟩
 ·rintro i vs u hi ⟨hno,rfl,rfl⟩
  conv=>whnf
  cases h1:decide ((i:Int)<(t.zones.length:Int))
  ·obtain rfl:=C6 h1 hi
   have hf:X7 t.zones s=none:=A9o hno
   conv=>whnf
   refine N1 (A0 ..) rfl ?_
   refine F2 (A0 ..) (A5 ..) ?_
   exact ⟨((D8.refl st).upd hb4).over hb4,.inr ⟨hf,rfl⟩⟩
  ·have hi':=E4 h1
   conv=>whnf
   refine E1 ?_
   refine B9 (fun h2=>?_) (fun h2=>?_)<;>rw [h2]
   ·have hf:X7 t.zones s=some (t.zones.getD (i:Int).toNat default):=A9n (p:=fun z:L3=>z.name.toList==s.toList) hi' h2 hno
    have hc:=fun u=>B4c (t.zones.getD (i:Int).toNat default) (hr _ (B3 hi')) u
    generalize t.zones.getD (i:Int).toNat default=z at hf hc
    conv=>whnf
    refine I2 (hc _) ?_
    refine N1 (A0 ..) rfl ?_
    refine F2 (A0 ..) (A5 ..) ?_
    exact ⟨((D8.refl st).upd hb4).over hb4,.inl ⟨z,hf,rfl⟩⟩
   ·conv=>whnf
    refine G7 ?_
    exact nx hi' ⟨K0 hno h2,by rw [B8 (by omega)],rfl⟩
theorem A6D (x:Int) (st:St):S P 278 [eI x] st fun v st'=>v=.bool (Q9 0 10000000000000 x)∧st'=st:=by
 refine SyW [] Tryz.func278 ?_
 repeat' ((conv=>whnf);first | (refine B9 (fun h=>?_) (fun h=>?_)<;>rw [h]))
 all_goals (conv=>whnf)
 all_goals (refine ⟨?_,rfl⟩;show AV.bool _=AV.bool _;congr 1)
 all_goals (simp only [Q9, *,Bool.true_and,Bool.false_and];try rfl)
theorem B6n (t:Tax) (x rate:Int) (hr:0≤rate∧rate≤10000) (st:St):S P 212 [M8 t,eI x,eI rate] st fun v st'=>v=eI (B6 t x rate)∧st'=st:=by
 have hM:B6 t x rate=(V8 x rate (A8e t rate) t.round).1:=rfl
 have hw:IntKind.i64.wrap (10000+rate)=10000+rate:=A9 (by omega) (by omega)
 refine G0 [3] Tryz.func212 ?_
 cases hi:t.incl
 ·have hd:A8e t rate=10000:=by unfold A8e;rw [if_neg (by rw [hi];simp)];rfl
  conv=>whnf
  refine C5 (B3J x rate 10000 t.round st) ?_
  rw [hM,hd]
  generalize V8 x rate 10000 t.round=Y
  conv=>whnf
  exact ⟨rfl,rfl⟩
 ·have hd:A8e t rate=10000+rate:=by unfold A8e;rw [if_pos hi]
  conv=>whnf
  rw [hw]
  refine C5 (B3J x rate (10000+rate) t.round st) ?_
  rw [hM,hd]
  generalize V8 x rate (10000+rate) t.round=Y
  conv=>whnf
  exact ⟨rfl,rfl⟩
theorem B0d (t:Tax) (rates nets:List Int) (i:Nat):(List.range (i+1)).map (fun i=>B6 t (gI nets i) (gI rates i))=(List.range i).map (fun i=>B6 t (gI nets i) (gI rates i))++[B6 t (gI nets i) (gI rates i)]:=by rw [List.range_succ,List.map_append];rfl
theorem B4b (t:Tax) (rates nets:List Int) (hn:nets.length≤1000) (hl:rates.length=nets.length) (hq:∀ x∈rates,0≤x∧x≤10000) (st:St):S P 210 [M8 t,A8 rates,A8 nets] st fun v st'=>v=A8 (R7 t rates nets)∧st'=st:=by
 refine A1s (ty:=2) ?_
 have hL:R7 t rates nets=(List.range nets.length).map fun i=>B6 t (gI nets i) (gI rates i):=rfl
 rw [hL]
 refine G0 [3] Tryz.func210 ?_
 refine lp nets.length [1,3,7,10,11,12] (fun i vs s=>∃ sv,vs=[A8 rates,.fptr (M8 t) 0,sv,A8 nets,eI nets.length,eI i]∧F3 2 1 eI ((List.range i).map fun i=>B6 t (gI nets i) (gI rates i)) st sv s) ?_ ?_
 ·conv=>whnf
  exact ⟨.emp,rfl,F3.start _ _ _ _⟩
 ·rintro i vs s hi ⟨sv,rfl,hc⟩
  conv=>whnf
  cases h1:decide ((i:Int)<(nets.length:Int))
  ·obtain rfl:=C6 h1 hi
   conv=>whnf
   exact hc
  ·have hi':=E4 h1
   have hm:=fun u=>B6n t (gI nets (i:Int).toNat) (gI rates (i:Int).toNat) (hq _ (B3 (by show i<_;omega))) u
   have hs:=B0d t rates nets i
   have hln:((List.range i).map fun i=>B6 t (gI nets i) (gI rates i)).length=i:=by rw [List.length_map,List.length_range]
   conv=>whnf
   refine E1 ?_
   refine ⟨[8,9],[],List.range 11,by kernel_rfl,?_⟩;conv=>whnf
   refine E1 ?_
   refine ⟨_,N4 (hm _),?_⟩
   have hy:B6 t (gI nets i) (gI rates i)=B6 t (gI nets (i:Int).toNat) (gI rates (i:Int).toNat):=rfl
   rw [hy] at hs
   generalize B6 t (gI nets (i:Int).toNat) (gI rates (i:Int).toNat)=Y at hs
   conv=>whnf
   refine F3.app (y:=Y) (q:=r2) rfl rfl rfl rfl rfl (by rfl) (by rw [hln];show (i+1) * 8≤140737488355328;omega) hc (fun sv' t' hc'=>?_);conv=>whnf
   refine G7 ?_
   exact nx hi' ⟨sv',by rw [B8 (by omega)],by rw [hs];exact hc'⟩
theorem B7E {t:Tax} {z:L3} {cats:List D6} {nets:List Int} {ship:Int} (h:A0k t z cats nets ship) (st:St):S P 207 [M8 t,D2 cats,A8 nets,eI ship] st fun v st'=>v=.bool true∧st'=st:=by
 have hn:=h.nets.len
 have hs:=h.nets.sum
 have hp:=h.nets.pos
 have hc:=h.cats
 have hT:=fun s=>C5e t s
 have hA:=fun s=>A6D ship s
 rw [h.tax] at hT
 rw [show Q9 0 10000000000000 ship=true from J5.2 h.ship] at hA
 have htk:∀ i,0≤A7 (nets.take i)∧A7 (nets.take i)≤10000000000000:=fun i=>by
  have:=K1 hp i
  exact ⟨C4 fun x hx=>hp x (List.mem_of_mem_take hx),by omega⟩
 refine G0 [4] Tryz.func207 ?_
 refine I2 (hT _) ?_
 rw [hc,show ((nets.length:Int) != (nets.length:Int))=false from bne_self_eq_false _];conv=>whnf
 refine B9 (fun h1=>absurd (of_decide_eq_true h1) (by omega)) (fun h1=>?_)
 rw [h1];conv=>whnf
 refine I2 (hA _) ?_
 refine lp nets.length [9,32,33,34] (fun i vs s=>vs=[eI (A7 (nets.take i)),A8 nets,eI nets.length,eI i]∧s=st) ?_ ?_
 ·conv=>whnf
  exact ⟨rfl,rfl⟩
 ·rintro i vs s hi ⟨rfl,rfl⟩
  conv=>whnf
  cases h2:decide ((i:Int)<(nets.length:Int))
  ·obtain rfl:=C6 h2 hi
   have hB:=fun s=>A6D (A7 (nets.take nets.length)) s
   rw [show Q9 0 10000000000000 (A7 (nets.take nets.length))=true from J5.2 (htk _)] at hB;conv=>whnf
   refine I2 (hB _) ?_
   exact ⟨rfl,rfl⟩
  ·have hi':=E4 h2
   have hx:0≤gI nets (i:Int).toNat:=hp _ (B3 hi')
   have hx2:gI nets (i:Int).toNat≤A7 nets:=I9 hp (B3 hi')
   have hB:=fun s=>A6D (gI nets (i:Int).toNat) s
   rw [show Q9 0 10000000000000 (gI nets (i:Int).toNat)=true from J5.2 (by omega)] at hB
   have hst:A7 (nets.take (i+1))=A7 (nets.take i)+gI nets (i:Int).toNat:=L6 hi'
   have h3:=htk (i+1)
   have hw:IntKind.i64.wrap (A7 (nets.take i)+gI nets (i:Int).toNat)=A7 (nets.take (i+1)):=by rw [hst] at h3 ⊢;exact A9 (by omega) (by omega)
   conv=>whnf
   refine E1 ?_
   refine I2 (hB _) ?_
   rw [hw]
   refine G7 ?_
   exact nx hi' ⟨by rw [B8 (by omega)],rfl⟩
def A0O (o:List Int) (a:Nat) (x:Int):List Int:=o.take a++x::o.drop a
theorem T0 {o:List Int} {a:Nat} {x:Int} (h:a≤o.length):(A0O o a x).length=o.length+1:=by
 unfold A0O;simp;omega
theorem A8k {o:List Int} {a:Nat} {x:Int} (h:a≤o.length) {j:Nat} (hj:j<o.length+1):gI (A0O o a x) j=if j<a then gI o j else if j=a then x else gI o (j - 1):=by
 unfold A0O gI
 simp only [List.getD_eq_getElem?_getD]
 by_cases h1:j<a
 ·rw [if_pos h1,List.getElem?_append_left (by rw [List.length_take];omega),List.getElem?_take_of_lt h1]
 ·rw [if_neg h1,List.getElem?_append_right (by rw [List.length_take];omega),List.length_take,Nat.min_eq_left h]
  by_cases h2:j=a
  ·rw [if_pos h2,h2,Nat.sub_self];rfl
  ·rw [if_neg h2,show j - a=(j - 1 - a)+1 by omega,List.getElem?_cons_succ,List.getElem?_drop,show a+(j - 1 - a)=j - 1 by omega]
theorem A6B (o:List Int) (a:Nat) (x:Int):(A0O o a x).Perm (o++[x]):=by
 unfold A0O
 refine List.perm_middle.trans ?_
 rw [List.take_append_drop]
 exact (List.perm_append_comm (l₁:=[x]) (l₂:=o))
theorem A4k {R:Int→Int→Prop} {o:List Int} {a:Nat} {x:Int} (hs:o.Pairwise R) (h1:∀ k,k<a→k<o.length→R (gI o k) x) (h2:∀ k,a≤k→k<o.length→R x (gI o k)):(A0O o a x).Pairwise R:=by
 unfold A0O
 rw [List.pairwise_append,List.pairwise_cons]
 refine ⟨hs.sublist (List.take_sublist ..),⟨fun y hy=>?_,hs.sublist (List.drop_sublist ..)⟩,fun y hy z hz=>?_⟩
 ·obtain ⟨k,hk,rfl⟩:=List.getElem_of_mem hy
  rw [List.length_drop] at hk
  have:=h2 (a+k) (by omega) (by omega)
  rw [List.getElem_drop];simpa [gI,show a+k<o.length by omega] using this
 ·obtain ⟨k,hk,rfl⟩:=List.getElem_of_mem hy
  rw [List.length_take] at hk
  rcases List.mem_cons.1 hz with rfl | hz
  ·have:=h1 k (by omega) (by omega)
   rw [List.getElem_take];simpa [gI,show k<o.length by omega] using this
  ·obtain ⟨j,hj,rfl⟩:=List.getElem_of_mem hz
   rw [List.length_drop] at hj
   rw [List.getElem_take,List.getElem_drop]
   exact List.pairwise_iff_getElem.1 hs k (a+j) (by omega) (by omega) (by omega)
theorem B2f {R:Int→Int→Prop} {o:List Int} (hs:o.Pairwise R) {i j:Nat} (hij:i<j) (hj:j<o.length):R (gI o i) (gI o j):=by
 have:=List.pairwise_iff_getElem.1 hs i j (by omega) hj hij
 simpa [gI,show i<o.length by omega,hj] using this
theorem A7y {o p:List Int} (h:o.Perm p) {P:Int→Prop} (hp:∀ x∈p,P x) {k:Nat} (hk:k<o.length):P (gI o k):=hp _ (h.subset (B3 hk))
def B0G (ranks:List Int) (x:Int):QE:=(gI ranks x.toNat,x)
def B2w (ranks:List Int) (x y:Int):Prop:=H1 (B0G ranks y) (B0G ranks x)=false
def A3C (n:Nat):List Int:=(List.range n).map Int.ofNat
theorem B6p (n:Nat):A3C (n+1)=A3C n++[(n:Int)]:=by unfold A3C;rw [List.range_succ,List.map_append];rfl
theorem A5V {n:Nat} {x:Int} (h:x∈A3C n):0≤x∧x.toNat<n:=by
 obtain ⟨k,hk,rfl⟩:=List.mem_map.1 h
 have:=List.mem_range.1 hk
 show 0≤(k:Int)∧(k:Int).toNat<n
 omega
theorem A8o (n:Nat):(A3C n).length=n:=by unfold A3C;simp
theorem B4V (ranks:List Int) (hl:ranks.length≤1000000) (st:St):S P 306 [A8 ranks] st fun v st'=>(∃ o:List Int,o.Perm (A3C ranks.length)∧o.Pairwise (B2w ranks)∧v=A8 o)∧st'=st:=by
 refine S.post (post:=fun v st'=>∃ o:List Int,o.Perm (A3C ranks.length)∧o.Pairwise (B2w ranks)∧F3 3 1 eI o st v st') ?_ (fun v st' ⟨o,h1,h2,h3⟩=>⟨_,st,⟨⟨o,h1,h2,rfl⟩,rfl⟩,h3.shift⟩)
 refine G0 [] Tryz.func306 ?_
 refine lp ranks.length [0,3,4] (fun i vs s=>∃ o sv,o.Perm (A3C i)∧o.Pairwise (B2w ranks)∧vs=[A8 ranks,sv,eI i]∧F3 3 1 eI o st sv s) ?_ ?_
 ·conv=>whnf
  exact ⟨[],.emp,.refl _,.nil,rfl,F3.start _ _ _ _⟩
 ·rintro i vs st' hi ⟨o,sv,hp,hs,rfl,hc0⟩
  conv=>whnf
  cases h:decide ((i:Int)<(ranks.length:Int))
  ·obtain rfl:=C6 h hi
   conv=>whnf
   exact ⟨o,hp,hs,hc0⟩
  ·have hi':=E4 h
   have hol:o.length=i:=by rw [hp.length_eq,A8o]
   have hom:∀ {k:Nat},k<o.length→0≤gI o k∧(gI o k).toNat<i:=fun hk=>A7y hp (fun x hx=>A5V hx) hk
   conv=>whnf
   refine lp o.length [0,3,4,5] (fun a vs s=>(∀ k,k<a→gI ranks (gI o k).toNat≥gI ranks i)∧vs=[A8 ranks,sv,eI i,eI a]∧s=st') ?_ ?_
   ·conv=>whnf
    exact ⟨fun k hk=>absurd hk (by omega),rfl,rfl⟩
   ·rintro a vs s ha ⟨hok,rfl,rfl⟩
    conv=>whnf
    refine ⟨[],[],List.range 18,by kernel_rfl,?_⟩
    have hc1:=hc0
    have hB:(a=o.length∨gI ranks (gI o a).toNat<gI ranks i)→(A0O o a (i:Int)).Perm (A3C (i+1))∧(A0O o a (i:Int)).Pairwise (B2w ranks):=fun hB=>by
     refine ⟨by rw [B6p];exact (A6B o a i).trans (hp.append_right _),A4k hs (fun k hk hk2=>?_) (fun k hk hk2=>?_)⟩
     ·have:=hok k hk
      have:=hom hk2
      unfold B2w B0G;rw [Q7];simp only [Int.toNat_natCast];omega
     ·rcases hB with hB | hB
      ·omega
      ·have h6:gI ranks (gI o k).toNat≤gI ranks (gI o a).toNat:=by
        rcases Nat.eq_or_lt_of_le hk with e | e
        ·rw [e];exact Int.le_refl _
        ·have:=B2f hs e hk2
         unfold B2w B0G at this;rw [Q7] at this;simp only at this;omega
       unfold B2w B0G;rw [Q7];simp only [Int.toNat_natCast];omega
    rcases hc1 with ⟨h0,rfl,hst⟩ | ⟨h0,b,g,hb,rfl,rfl,hg⟩
    case' inl =>
     have hst':=hst.symm
     subst hst'
     have hS:=hB (.inl (by omega))
     have hd:decide ((a:Int)<0)=false:=decide_eq_false (by omega)
     conv=>whnf
     rw [hd];conv=>whnf
    case' inr =>
     conv=>whnf
     cases hd:decide ((a:Int)<(o.length:Int))
     case' false =>
      have hS:=hB (.inl (by have:=of_decide_eq_false hd;omega))
      conv=>whnf
     case' true =>
      have hao:=E4 hd
      have hoa:=hom hao
      have hga:g (0+(a:Int).toNat)=eI (gI o a):=by rw [show 0+(a:Int).toNat=a by omega];exact hg a hao
      conv=>whnf
      refine E1 ?_
      refine F2 (A0 ..) hga ?_
      refine E1 ?_
      refine E1 ?_
      refine B9 (fun h2=>?_) (fun h2=>?_)<;>rw [h2]
      case' refine_1 =>
       conv=>whnf
       refine G7 ?_
       refine nx hao ⟨K0 hok (of_decide_eq_true h2),by rw [B8 (by omega)],rfl⟩
      case' refine_2 =>
       have hS:=hB (.inr (by have h7:=of_decide_eq_false h2;rw [Int.toNat_natCast] at h7;exact Int.not_le.1 h7))
       conv=>whnf
    all_goals
     refine F3.app (q:=r3) (y:=0) (enc:=eI) rfl rfl rfl rfl rfl rfl (by show (_+1) * 8≤140737488355328;omega) hc0 (fun sv' s' hc'=>?_)
     have hln:(o++[0]).length=o.length+1:=by simp
     rcases hc' with ⟨h1,_⟩ | ⟨h1,b',g',hb',rfl,rfl,hg'⟩
     ·omega
     generalize (o++[0]).length=N at *
     subst hln;conv=>whnf
     have hw0:IntKind.i64.wrap (((o.length+1:Nat):Int) - 1)=((o.length - 0:Nat):Int):=by rw [A9 (by omega) (by omega)];omega
     rw [hw0]
     refine lp (o.length - a) [0,3,4,5,6] (fun r vs s=>vs=[A8 ranks,.own 1 b' 0 (o.length+1),eI i,eI a,eI (o.length - r:Nat)]∧∃ f,s=upd st b' ⟨3,1,o.length+1,f⟩∧∀ j,j<o.length+1→f j=eI (if o.length - r<j then gI o (j - 1) else gI (o++[0]) j)) ?_ ?_
     ·conv=>whnf
      exact ⟨rfl,g',rfl,fun j hj=>by rw [if_neg (by omega)];exact hg' j hj⟩
     ·clear hg' hc0
      rintro r vs s hr ⟨rfl,f,rfl,hf⟩
      conv=>whnf
      cases hk:decide (((o.length - r:Nat):Int)>(a:Int))
      ·have hra:r=o.length - a:=by have:=of_decide_eq_false hk;omega
       conv=>whnf
       refine E1 ?_
       refine N1 (A0 ..) (hf _ (by omega)) ?_
       refine G7 ?_
       rw [A6g]
       refine nx hi' ⟨A0O o a (i:Int),.own 1 b' 0 (o.length+1),hS.1,hS.2,by rw [B8 (by omega)],?_⟩
       refine .inr ⟨by rw [T0 ha];omega,b',_,hb',by rw [T0 ha],by rw [T0 ha],fun j hj=>?_⟩
       rw [T0 ha] at hj
       show C9 f (0+(a:Int).toNat) _ j=eI (gI (A0O o a (i:Int)) j)
       rw [A8k ha hj]
       by_cases hja:j=a
       ·subst hja
        rw [show 0+((j:Nat):Int).toNat=j by omega,A5];show eI (i:Int)=_;rw [if_neg (by omega),if_pos rfl]
       ·rw [H3 (by omega),hf j hj]
        congr 1
        by_cases hj2:j<a
        ·rw [if_neg (by omega),if_pos hj2,M9 (by omega)]
        ·rw [if_pos (by omega),if_neg hj2,if_neg hja]
      ·have hra:a<o.length - r:=by have:=of_decide_eq_true hk;omega
       have hw1:=A6t (i:=o.length - r) (by omega) (by omega)
       conv=>whnf
       rw [hw1]
       refine E1 ?_
       refine ldV (v:=eI (gI o (o.length - r - 1))) (A0 ..) rfl (by omega) (by rw [hf _ (by omega),if_neg (by omega),M9 (by omega)];congr 2;omega) ?_;conv=>whnf
       refine E1 ?_
       refine N1 (A0 ..) (hf _ (by omega)) ?_
       refine G7 ?_
       rw [A6g,hw1]
       refine nx (by omega) ⟨by rw [show o.length - (r+1)=o.length - r - 1 by omega],_,rfl,fun j hj=>?_⟩
       by_cases hj2:j=o.length - r
       ·subst hj2
        rw [show 0+((o.length - r:Nat):Int).toNat=o.length - r by omega,A5];show eI (gI o (o.length - r - 1))=_;rw [if_pos (by omega)]
       ·rw [H3 (by omega),hf j hj]
        congr 1
        by_cases hj3:o.length - r<j
        ·rw [if_pos hj3,if_pos (by omega)]
        ·rw [if_neg hj3,if_neg (by omega)]
def A0m (a b:B4):Bool:=if (a.prio != b.prio)=true then decide (a.prio>b.prio) else slt a.id b.id
theorem C1W (a b:B4) (st:St):S P 163 [C0 a,C0 b] st fun v st'=>v=.bool (A0m a b)∧st'=st:=by
 refine G0 [2,3] Tryz.func163 ?_
 unfold A0m
 refine B9 (fun h=>?_) (fun h=>?_)<;>rw [h]<;>(conv=>whnf)<;>exact ⟨rfl,rfl⟩
theorem A2v (a b:B4):A0m a b=true↔a.prio>b.prio∨(a.prio=b.prio∧slt a.id b.id=true):=by
 unfold A0m
 split
 ·rename_i h;simp only [bne_iff_ne,ne_eq] at h;rw [decide_eq_true_eq];omega
 ·rename_i h;simp only [bne_iff_ne,ne_eq,Classical.not_not] at h;constructor
  ·exact fun h2=>.inr ⟨h,h2⟩
  ·rintro (h2 | h2)
   ·omega
   ·exact h2.2
theorem A8H {a b:B4} (h:A0m a b=true):A0m b a=false:=by
 rw [←Bool.not_eq_true,A2v]
 rw [A2v] at h
 rcases h with h | ⟨h1,h2⟩
 ·rintro (h3 | h3)<;>omega
 ·rintro (h3 | h3)
  ·omega
  ·rw [A6b h2] at h3;cases h3.2
theorem A7t {a b c:B4} (h:A0m b a=false) (k:A0m c b=false):A0m c a=false:=by
 rw [←Bool.not_eq_true,A2v] at *
 rintro (h3 | ⟨h3,h4⟩)
 ·by_cases e:b.prio>a.prio
  ·exact h (.inl e)
  ·exact k (.inl (by omega))
 ·by_cases e:b.prio=a.prio
  ·have h5:slt b.id a.id=false:=by rw [←Bool.not_eq_true];exact fun e2=>h (.inr ⟨e,e2⟩)
   have h6:slt c.id b.id=false:=by rw [←Bool.not_eq_true];exact fun e2=>k (.inr ⟨by omega,e2⟩)
   rw [A3N h5 h6] at h4;cases h4
  ·by_cases e2:b.prio>a.prio
   ·exact h (.inl e2)
   ·exact k (.inl (by omega))
def A3r (l:List B4) (x y:Int):Prop:=A0m (F8 l y) (F8 l x)=false
theorem B5q (l:List Int):(C8 l).Pairwise (·≤·):=by
 have:=List.pairwise_mergeSort (le:=fun a b:Int=>decide (a≤b)) (fun a b c h1 h2=>by simp only [decide_eq_true_eq] at *;omega) (fun a b=>by simp only [Bool.or_eq_true,decide_eq_true_eq];omega) l
 exact this.imp (fun h=>by simpa using h)
theorem B9u (l:List Int) (hl:l.length≤1000000) (st:St):S P 308 [A8 l] st fun v st'=>v=A8 (C8 l)∧st'=st:=by
 refine A1s (ty:=3) ?_
 refine G0 [] Tryz.func308 ?_
 refine lp l.length [0,3,4] (fun i vs s=>∃ o sv,o.Perm (l.take i)∧o.Pairwise (·≤·)∧vs=[A8 l,sv,eI i]∧F3 3 1 eI o st sv s) ?_ ?_
 ·conv=>whnf
  exact ⟨[],.emp,.refl _,.nil,rfl,F3.start _ _ _ _⟩
 ·rintro i vs st' hi ⟨o,sv,hp,hs,rfl,hc0⟩
  conv=>whnf
  cases h:decide ((i:Int)<(l.length:Int))
  ·obtain rfl:=C6 h hi
   conv=>whnf
   rw [List.take_length] at hp
   have e:o=C8 l:=List.Perm.eq_of_pairwise (le:=fun a b:Int=>a≤b) (fun a b _ _ h1 h2=>Int.le_antisymm h1 h2) hs (B5q l) (hp.trans (A0J l).symm)
   rw [←e]
   exact hc0
  ·have hi':=E4 h
   have hol:o.length=i:=by rw [hp.length_eq,List.length_take];omega
   have hom:∀ {k:Nat},k<o.length→True:=fun hk=>trivial
   have hB:∀ a,a≤o.length→(∀ k,a≤k→k<o.length→gI o k>gI l i)→(a=0∨gI o (a - 1)≤gI l i)→(A0O o a (gI l i)).Perm (l.take (i+1))∧(A0O o a (gI l i)).Pairwise (·≤·):=fun a ha hok hB=>by
    refine ⟨by rw [J0 hi'];exact (A6B o a _).trans (hp.append_right _),A4k hs (fun k hk hk2=>?_) (fun k hk hk2=>?_)⟩
    ·rcases hB with hB | hB
     ·omega
     ·rcases Nat.lt_or_ge k (a - 1) with e | e
      ·exact Int.le_trans (B2f hs e (by omega)) hB
      ·rw [show k=a - 1 by omega];exact hB
    ·have:=hok k hk hk2;omega
   have hc1:=hc0
   rcases hc1 with ⟨h0,hsv,hst⟩ | ⟨h0,b,g,hb,hsv,hst,hg⟩
   all_goals rw [hsv]
   all_goals (conv=>whnf)
   all_goals refine lp o.length [0,3,4,5] (fun r vs s=>(∀ k,o.length - r≤k→k<o.length→gI o k>gI l i)∧vs=[A8 l,sv,eI i,eI (o.length - r:Nat)]∧s=st') ?_ ?_
   all_goals first
    | (conv=>whnf
       exact ⟨fun k h1 h2=>absurd h2 (by omega),by first | (rw [hsv];rfl) | (rw [hsv,h0];rfl),rfl⟩)
    | skip
   all_goals
    rintro r vs s hr ⟨hok,rfl,rfl⟩
    conv=>whnf
    refine ⟨[],[],List.range 14,by kernel_rfl,?_⟩
    cases hd:decide (((o.length - r:Nat):Int)>0)
    case' false =>
     have ha:=Nat.sub_le o.length r
     have hS:=hB (o.length - r) ha hok (.inl (by have:=of_decide_eq_false hd;omega))
     generalize o.length - r=a at *
     conv=>whnf
     rw [hd];conv=>whnf
    case' true =>
     have hpos:0<o.length - r:=by have:=of_decide_eq_true hd;omega
     have hw2:=A6t hpos (by omega)
     have hoa:=hom (k:=o.length - r - 1) (by omega)
     first
      | (exfalso;omega)
      | (conv=>whnf
         rw [hd];conv=>whnf
         rw [hsv] at hc0
         rw [hsv,hw2]
         refine E1 ?_
         refine ldV (v:=eI (gI o (o.length - r - 1))) (by rw [hst];exact A0 ..) rfl (by omega) (by rw [hg _ (by omega)];congr 2;omega) ?_;conv=>whnf
         refine E1 ?_
         refine B9 (fun h2=>?_) (fun h2=>?_)<;>rw [h2]
         ·conv=>whnf
          refine G7 ?_
          refine nx (by omega) ⟨fun k h3 h4=>?_,by rw [hw2,show o.length - (r+1)=o.length - r - 1 by omega],rfl⟩
          rcases Nat.eq_or_lt_of_le h3 with h5 | h5
          ·rw [←h5,show o.length - (r+1)=o.length - r - 1 by omega];exact of_decide_eq_true h2
          ·exact hok k (by omega) h4
         have ha:=Nat.sub_le o.length r
         have hS:=hB (o.length - r) ha hok (.inr (by have h7:=of_decide_eq_false h2;rw [Int.toNat_natCast] at h7;exact Int.not_lt.1 h7))
         clear hw2 hoa
         generalize o.length - r=a at *
         conv=>whnf)
    all_goals
     refine F3.app (q:=r3) (y:=0) (enc:=eI) rfl rfl rfl rfl rfl rfl (by show (_+1) * 8≤140737488355328;omega) hc0 (fun sv' s' hc'=>?_)
     have hln:(o++[0]).length=o.length+1:=by simp
     rcases hc' with ⟨h1,_⟩ | ⟨h1,b',g',hb',rfl,rfl,hg'⟩
     ·omega
     generalize (o++[0]).length=N at *
     subst hln;conv=>whnf
     have hw0:IntKind.i64.wrap (((o.length+1:Nat):Int) - 1)=((o.length - 0:Nat):Int):=by rw [A9 (by omega) (by omega)];omega
     rw [hw0]
     refine lp (o.length - a) [0,3,4,5,6] (fun r vs s=>vs=[A8 l,.own 1 b' 0 (o.length+1),eI i,eI a,eI (o.length - r:Nat)]∧∃ f,s=upd st b' ⟨3,1,o.length+1,f⟩∧∀ j,j<o.length+1→f j=eI (if o.length - r<j then gI o (j - 1) else gI (o++[0]) j)) ?_ ?_
     ·conv=>whnf
      exact ⟨rfl,g',rfl,fun j hj=>by rw [if_neg (by omega)];exact hg' j hj⟩
     ·clear hg' hc0
      rintro r vs s hr ⟨rfl,f,rfl,hf⟩
      conv=>whnf
      cases hk:decide (((o.length - r:Nat):Int)>(a:Int))
      ·have hra:r=o.length - a:=by have:=of_decide_eq_false hk;omega
       conv=>whnf
       refine E1 ?_
       refine E1 ?_
       refine N1 (A0 ..) (hf _ (by omega)) ?_
       refine G7 ?_
       rw [A6g]
       refine nx hi' ⟨A0O o a (gI l i),.own 1 b' 0 (o.length+1),hS.1,hS.2,by rw [B8 (by omega)],?_⟩
       refine .inr ⟨by rw [T0 ha];omega,b',_,hb',by rw [T0 ha],by rw [T0 ha],fun j hj=>?_⟩
       rw [T0 ha] at hj
       show C9 f (0+(a:Int).toNat) _ j=eI (gI (A0O o a (gI l i)) j)
       rw [A8k ha hj]
       by_cases hja:j=a
       ·subst hja
        rw [show 0+((j:Nat):Int).toNat=j by omega,A5];show eI (gI l i)=_;rw [if_neg (by omega),if_pos rfl]
       ·rw [H3 (by omega),hf j hj]
        congr 1
        by_cases hj2:j<a
        ·rw [if_neg (by omega),if_pos hj2,M9 (by omega)]
        ·rw [if_pos (by omega),if_neg hj2,if_neg hja]
      ·have hra:a<o.length - r:=by have:=of_decide_eq_true hk;omega
       have hw1:=A6t (i:=o.length - r) (by omega) (by omega)
       conv=>whnf
       rw [hw1]
       refine E1 ?_
       refine ldV (v:=eI (gI o (o.length - r - 1))) (A0 ..) rfl (by omega) (by rw [hf _ (by omega),if_neg (by omega),M9 (by omega)];congr 2;omega) ?_;conv=>whnf
       refine E1 ?_
       refine N1 (A0 ..) (hf _ (by omega)) ?_
       refine G7 ?_
       rw [A6g,hw1]
       refine nx (by omega) ⟨by rw [show o.length - (r+1)=o.length - r - 1 by omega],_,rfl,fun j hj=>?_⟩
       by_cases hj2:j=o.length - r
       ·subst hj2
        rw [show 0+((o.length - r:Nat):Int).toNat=o.length - r by omega,A5];show eI (gI o (o.length - r - 1))=_;rw [if_pos (by omega)]
       ·rw [H3 (by omega),hf j hj]
        congr 1
        by_cases hj3:o.length - r<j
        ·rw [if_pos hj3,if_pos (by omega)]
        ·rw [if_neg hj3,if_neg (by omega)]
set_option maxHeartbeats 1000000 in
theorem C1Y (l:List B4) (codes:List D6) (hl:l.length≤1000) (hc:Sm codes.length) (st:St):S P 89 [B1 15 C0 l,D2 codes] st fun v st'=>(∃ o:List Int,o.Perm (places l codes l.length)∧o.Pairwise (A3r l)∧v=A8 o)∧st'=st:=by
 refine S.post (post:=fun v st'=>∃ o:List Int,o.Perm (places l codes l.length)∧o.Pairwise (A3r l)∧F3 3 1 eI o st v st') ?_ (fun v st' ⟨o,h1,h2,h3⟩=>⟨_,st,⟨⟨o,h1,h2,rfl⟩,rfl⟩,h3.shift⟩)
 refine G0 [] Tryz.func89 ?_
 refine lp l.length [0,1,5,6] (fun i vs s=>∃ o sv,o.Perm (places l codes i)∧o.Pairwise (A3r l)∧vs=[B1 15 C0 l,D2 codes,sv,eI i]∧F3 3 1 eI o st sv s) ?_ ?_
 ·conv=>whnf
  exact ⟨[],.emp,.refl _,.nil,rfl,F3.start _ _ _ _⟩
 ·rintro i vs st' hi ⟨o,sv,hp,hs,rfl,hc0⟩
  conv=>whnf
  cases h:decide ((i:Int)<(l.length:Int))
  ·obtain rfl:=C6 h hi
   conv=>whnf
   exact ⟨o,hp,hs,hc0⟩
  ·have hi':=E4 h
   have hol:o.length≤i:=by rw [hp.length_eq];exact W5 ..
   have hom:∀ {k:Nat},k<o.length→0≤gI o k∧(gI o k).toNat<i:=fun hk=>A7y hp (fun x hx=>A0d hx) hk
   have hps:=A5n l codes i
   have n1:=B6G codes (l.getD (i:Int).toNat default).code hc st'
   have ea:Y1 codes (l.getD i default)=(!(!((l.getD (i:Int).toNat default).code.toList==(⟨#[]⟩:D6).toList))||codes.any fun y=>y.toList==(l.getD (i:Int).toNat default).code.toList):=by
    rw [Bool.not_not];unfold Y1 L7;congr 1;congr 1;funext c;exact Bool.beq_comm
   have skip:Y1 codes (l.getD i default)=false→o.Perm (places l codes (i+1)):=fun h=>by rw [hps,if_neg (by rw [h];simp),List.append_nil];exact hp
   have hB:Y1 codes (l.getD i default)=true→∀ a,a≤o.length→(∀ k,a≤k→k<o.length→A0m (F8 l i) (F8 l (gI o k))=true)→(a=0∨A0m (F8 l i) (F8 l (gI o (a - 1)))=false)→(A0O o a (i:Int)).Perm (places l codes (i+1))∧(A0O o a (i:Int)).Pairwise (A3r l):=fun hask a ha hok hB=>by
    refine ⟨by rw [hps,if_pos hask];exact (A6B o a _).trans (hp.append_right _),A4k hs (fun k hk hk2=>?_) (fun k hk hk2=>?_)⟩
    ·rcases hB with hB | hB
     ·omega
     ·rcases Nat.lt_or_ge k (a - 1) with e | e
      ·exact A7t (B2f hs e (by omega)) hB
      ·rw [show k=a - 1 by omega];exact hB
    ·exact A8H (hok k hk hk2)
   rw [ea] at hB skip
   generalize (codes.any fun y=>y.toList==(l.getD (i:Int).toNat default).code.toList)=b1 at n1 hB skip
   clear ea hps
   conv=>whnf
   refine E1 ?_
   cases hn:(!((l.getD (i:Int).toNat default).code.toList==(⟨#[]⟩:D6).toList))
   case' true =>
    rw [hn] at hB skip;conv=>whnf
    refine E1 ?_
    refine C5 n1 ?_
    cases b1
    ·conv=>whnf
     refine G7 ?_
     exact nx hi' ⟨o,sv,skip rfl,hs,by rw [B8 (by omega)],hc0⟩
    replace hB:=hB rfl
   case' false =>
    rw [hn] at hB
    replace hB:=hB rfl
   all_goals clear skip n1
   all_goals (conv=>whnf)
   all_goals
    have hc1:=hc0
    rcases hc1 with ⟨h0,hsv,hst⟩ | ⟨h0,b,g,hb,hsv,hst,hg⟩
    all_goals rw [hsv]
    all_goals (conv=>whnf)
    all_goals refine lp o.length [0,1,5,6,7] (fun r vs s=>(∀ k,o.length - r≤k→k<o.length→A0m (F8 l i) (F8 l (gI o k))=true)∧vs=[B1 15 C0 l,D2 codes,sv,eI i,eI (o.length - r:Nat)]∧s=st') ?_ ?_
    all_goals first
     | (conv=>whnf
        exact ⟨fun k h1 h2=>absurd h2 (by omega),by first | (rw [hsv];rfl) | (rw [hsv,h0];rfl),rfl⟩)
     | skip
    all_goals
     rintro r vs s hr ⟨hok,rfl,rfl⟩
     conv=>whnf
     refine ⟨[],[],List.range 17,by kernel_rfl,?_⟩
     cases hd:decide (((o.length - r:Nat):Int)>0)
     case' false =>
      have ha:=Nat.sub_le o.length r
      have hS:=hB (o.length - r) ha hok (.inl (by have:=of_decide_eq_false hd;omega))
      generalize o.length - r=a at *
      conv=>whnf
      rw [hd];conv=>whnf
     case' true =>
      have hpos:0<o.length - r:=by have:=of_decide_eq_true hd;omega
      have hw2:=A6t hpos (by omega)
      have hoa:=hom (k:=o.length - r - 1) (by omega)
      first
       | (exfalso;omega)
       | (conv=>whnf
          rw [hd];conv=>whnf
          refine E1 ?_
          rw [hsv] at hc0
          rw [hsv,hw2]
          refine E1 ?_
          refine ldV (v:=eI (gI o (o.length - r - 1))) (by rw [hst];exact A0 ..) rfl (by omega) (by rw [hg _ (by omega)];congr 2;omega) ?_;conv=>whnf
          refine E1 ?_
          refine X9 (C1W (F8 l i) (F8 l (gI o (o.length - r - 1))) _) ?_
          refine B9 (fun h2=>?_) (fun h2=>?_)<;>rw [h2]
          ·conv=>whnf
           refine G7 ?_
           refine nx (by omega) ⟨fun k h3 h4=>?_,by rw [hw2,show o.length - (r+1)=o.length - r - 1 by omega],rfl⟩
           rcases Nat.eq_or_lt_of_le h3 with h5 | h5
           ·rw [←h5,show o.length - (r+1)=o.length - r - 1 by omega];exact h2
           ·exact hok k (by omega) h4
          have ha:=Nat.sub_le o.length r
          have hS:=hB (o.length - r) ha hok (.inr h2)
          clear hw2 hoa
          generalize o.length - r=a at *
          conv=>whnf)
     all_goals
      refine F3.app (q:=r3) (y:=0) (enc:=eI) rfl rfl rfl rfl rfl rfl (by show (_+1) * 8≤140737488355328;omega) hc0 (fun sv' s' hc'=>?_)
      have hln:(o++[0]).length=o.length+1:=by simp
      rcases hc' with ⟨h1,_⟩ | ⟨h1,b',g',hb',rfl,rfl,hg'⟩
      ·omega
      generalize (o++[0]).length=N at *
      subst hln;conv=>whnf
      have hw0:IntKind.i64.wrap (((o.length+1:Nat):Int) - 1)=((o.length - 0:Nat):Int):=by rw [A9 (by omega) (by omega)];omega
      rw [hw0]
      refine lp (o.length - a) [0,1,5,6,7,8] (fun r vs s=>vs=[B1 15 C0 l,D2 codes,.own 1 b' 0 (o.length+1),eI i,eI a,eI (o.length - r:Nat)]∧∃ f,s=upd st b' ⟨3,1,o.length+1,f⟩∧∀ j,j<o.length+1→f j=eI (if o.length - r<j then gI o (j - 1) else gI (o++[0]) j)) ?_ ?_
      ·conv=>whnf
       exact ⟨rfl,g',rfl,fun j hj=>by rw [if_neg (by omega)];exact hg' j hj⟩
      ·clear hg' hc0
       rintro r vs s hr ⟨rfl,f,rfl,hf⟩
       conv=>whnf
       cases hk:decide (((o.length - r:Nat):Int)>(a:Int))
       ·have hra:r=o.length - a:=by have:=of_decide_eq_false hk;omega
        conv=>whnf
        refine E1 ?_
        refine N1 (A0 ..) (hf _ (by omega)) ?_
        refine G7 ?_
        rw [A6g]
        refine nx hi' ⟨A0O o a (i:Int),.own 1 b' 0 (o.length+1),hS.1,hS.2,by rw [B8 (by omega)],?_⟩
        refine .inr ⟨by rw [T0 ha];omega,b',_,hb',by rw [T0 ha],by rw [T0 ha],fun j hj=>?_⟩
        rw [T0 ha] at hj
        show C9 f (0+(a:Int).toNat) _ j=eI (gI (A0O o a (i:Int)) j)
        rw [A8k ha hj]
        by_cases hja:j=a
        ·subst hja
         rw [show 0+((j:Nat):Int).toNat=j by omega,A5];show eI (i:Int)=_;rw [if_neg (by omega),if_pos rfl]
        ·rw [H3 (by omega),hf j hj]
         congr 1
         by_cases hj2:j<a
         ·rw [if_neg (by omega),if_pos hj2,M9 (by omega)]
         ·rw [if_pos (by omega),if_neg hj2,if_neg hja]
       ·have hra:a<o.length - r:=by have:=of_decide_eq_true hk;omega
        have hw1:=A6t (i:=o.length - r) (by omega) (by omega)
        conv=>whnf
        rw [hw1]
        refine E1 ?_
        refine ldV (v:=eI (gI o (o.length - r - 1))) (A0 ..) rfl (by omega) (by rw [hf _ (by omega),if_neg (by omega),M9 (by omega)];congr 2;omega) ?_;conv=>whnf
        refine E1 ?_
        refine N1 (A0 ..) (hf _ (by omega)) ?_
        refine G7 ?_
        rw [A6g,hw1]
        refine nx (by omega) ⟨by rw [show o.length - (r+1)=o.length - r - 1 by omega],_,rfl,fun j hj=>?_⟩
        by_cases hj2:j=o.length - r
        ·subst hj2
         rw [show 0+((o.length - r:Nat):Int).toNat=o.length - r by omega,A5];show eI (gI o (o.length - r - 1))=_;rw [if_pos (by omega)]
        ·rw [H3 (by omega),hf j hj]
         congr 1
         by_cases hj3:o.length - r<j
         ·rw [if_pos hj3,if_pos (by omega)]
         ·rw [if_neg hj3,if_neg (by omega)]
theorem A1M (x:Int) (st:St):S P 223 [eI x] st fun v st'=>v=.bool (S5 x)∧st'=st:=by
 refine G0 [] Tryz.func223 ?_
 unfold S5
 cases h:decide (0≤x)
 ·conv=>whnf
  exact ⟨rfl,rfl⟩
 ·conv=>whnf
  exact ⟨rfl,rfl⟩
theorem C9X {v:Int} (h0:0≤v) (h1:v≤9223372036854775807):IntKind.i64.wrap ((BitVec.ofInt IntKind.i64.bits v &&& BitVec.ofInt IntKind.i64.bits 1).toNat:Int)=v % 2:=by
 show IntKind.i64.wrap ((BitVec.ofInt 64 v &&& BitVec.ofInt 64 1).toNat:Int)=v % 2
 obtain ⟨n,rfl⟩:=Int.eq_ofNat_of_zero_le h0
 have e1:(BitVec.ofInt 64 ((n:Nat):Int)).toNat=n:=by rw [BitVec.ofInt_natCast,BitVec.toNat_ofNat,Nat.mod_eq_of_lt (by omega)]
 have e2:(BitVec.ofInt 64 1).toNat=1:=by decide
 rw [BitVec.toNat_and,e1,e2,Nat.and_one_is_mod,A9 (by omega) (by omega)];omega
theorem B2O {d q r Y:Int} (h:Y=d * q+r) (h0:0≤r) (h1:r<d):Y / d=q∧Y % d=r:=by
 have:=(Int.ediv_emod_unique (a:=Y) (b:=d) (r:=r) (q:=q) (by omega)).2 ⟨by omega,h0,h1⟩
 exact this
def Z3 (num:Int) (j:Nat):Int:=num / 2 ^ (63 - j)
theorem B9P {num:Int} (h:0≤num) {j:Nat} (hj:j<63):Z3 num (j+1)=2 * Z3 num j+Z3 num (j+1) % 2:=by
 have e:Z3 num j=Z3 num (j+1) / 2:=by
  unfold Z3
  rw [show 63 - j=(63 - (j+1))+1 by omega,Int.pow_succ,Int.ediv_ediv_of_nonneg (Int.pow_nonneg (by omega))]
 omega
theorem A8X {num:Int} (h:0≤num) (j:Nat):0≤Z3 num j:=Int.ediv_nonneg h (Int.pow_nonneg (by omega))
theorem C4D {num:Int} (h:0≤num) (j:Nat):Z3 num j≤num:=Int.ediv_le_self _ h
theorem C2G {num:Int} (h:0≤num) (h1:num≤100000000000000):Z3 num 0=0:=Int.ediv_eq_zero_of_lt h (by show num<2 ^ 63;omega)
theorem B8a (num:Int):Z3 num 63=num:=by unfold Z3;simp
def A8s (x num den:Int):AV:=if x * num / den>100000000000000 then .tuple [eI 0,eI 0,.bool false] else .tuple [eI (x * num / den),eI (x * num % den),.bool true]
set_option maxHeartbeats 1000000 in
theorem B0L (x num den:Int) (hx:0≤x) (hx1:x≤100000000000000) (hn:0≤num) (hn1:num≤100000000000000) (hd:0<den) (hd1:den≤100000000000000) (st:St) :
  S P 282 [eI x,eI num,eI den] st fun v st'=>v=A8s x num den∧st'=st:=by
 refine G0 [] Tryz.func282 ?_
 refine lp 63 [0,1,2,9,10,11] (fun j vs s=>(x * Z3 num j / den≤100000000000000)∧vs=[eI x,eI num,eI den,eI (x * Z3 num j / den),eI (x * Z3 num j % den),eI (62 - (j:Int))]∧s=st) ?_ ?_
 ·conv=>whnf
  refine ⟨?_,?_,rfl⟩
  ·rw [C2G hn hn1,Int.mul_zero,Int.zero_ediv];omega
  ·rw [C2G hn hn1,Int.mul_zero,Int.zero_ediv,Int.zero_emod];rfl
 ·rintro j vs s hj ⟨hq,rfl,rfl⟩
  conv=>whnf
  have hY0:0≤x * Z3 num j:=Int.mul_nonneg hx (A8X hn j)
  have hA0:0≤x * Z3 num j / den:=Int.ediv_nonneg hY0 (by omega)
  have hB0:=Int.emod_nonneg (x * Z3 num j) (show den≠0 by omega)
  have hB1:=Int.emod_lt_of_pos (x * Z3 num j) hd
  have hY:=Int.mul_ediv_add_emod (x * Z3 num j) den
  cases h:decide (62 - (j:Int)≥0)
  ·have hj63:j=63:=by have:=of_decide_eq_false h;omega
   subst hj63
   rw [B8a] at hq;conv=>whnf
   refine ⟨?_,rfl⟩
   unfold A8s
   rw [if_neg (by omega),B8a];rfl
  ·have hj':j<63:=by have:=of_decide_eq_true h;omega
   have hC0:0≤x / den:=Int.ediv_nonneg hx (by omega)
   have hC1:x / den≤x:=Int.ediv_le_self _ hx
   have hD0:=Int.emod_nonneg x (show den≠0 by omega)
   have hD1:=Int.emod_lt_of_pos x hd
   have hX:=Int.mul_ediv_add_emod x den
   have hst:=B9P hn hj'
   have hN0:=A8X hn (j+1)
   have hN1:=C4D hn (j+1)
   have hbit:x * Z3 num (j+1)=2 * (x * Z3 num j)+x * (Z3 num (j+1) % 2):=by
    conv=>lhs;rw [hst]
    rw [Int.mul_add,Int.mul_left_comm]
   have hshr:Int.fdiv num (2 ^ (min (IntKind.u64.wrap (62 - (j:Int))).toNat IntKind.i64.bits))=Z3 num (j+1):=by
    show Int.fdiv num (2 ^ (min (IntKind.u64.wrap (62 - (j:Int))).toNat 64))=_
    rw [C2 (by omega) (by omega)]
    unfold Z3
    rw [show min (62 - (j:Int)).toNat 64=63 - (j+1) by omega,Int.fdiv_eq_ediv_of_nonneg _ (Int.pow_nonneg (by omega))]
   have hbig:x * Z3 num (j+1) / den>100000000000000→A8s x num den=.tuple [eI 0,eI 0,.bool false]:=fun hb=>by
    unfold A8s
    refine if_pos ?_
    have:x * Z3 num (j+1) / den≤x * num / den:=Int.ediv_le_ediv hd (Int.mul_le_mul_of_nonneg_left hN1 hx)
    omega
   have hand:=C9X (v:=Z3 num (j+1)) hN0 (by omega)
   have htd:x.tdiv den=x / den:=Int.tdiv_eq_ediv_of_nonneg hx
   have htm:x.tmod den=x % den:=Int.tmod_eq_emod_of_nonneg hx
   generalize hAe:x * Z3 num j / den=A at *
   generalize hBe:x * Z3 num j % den=B at *
   generalize hYe:x * Z3 num j=Y at *
   generalize hCe:x / den=C at *
   generalize hDe:x % den=D at *
   have w1:IntKind.i64.wrap (2 * A)=2 * A:=A9 (by omega) (by omega)
   have w2:IntKind.i64.wrap (2 * B)=2 * B:=A9 (by omega) (by omega)
   conv=>whnf
   rw [w1,w2]
   -- doubled
   refine B9 (fun h1=>?_) (fun h1=>?_)<;>rw [h1]
   case' refine_1 =>
    have:=of_decide_eq_true h1
    have w3:IntKind.i64.wrap (2 * A+1)=2 * A+1:=A9 (by omega) (by omega)
    have w4:IntKind.i64.wrap (2 * B - den)=2 * B - den:=A9 (by omega) (by omega)
    have hq1:2 * Y=den * (2 * A+1)+(2 * B - den):=by rw [Int.mul_add,Int.mul_left_comm,Int.mul_one];omega
    have hq2:0≤2 * A+1∧2 * A+1≤200000000000001:=by omega
    have hr1:0≤2 * B - den∧2 * B - den<den:=by omega
    conv=>whnf
    rw [w3,w4]
    generalize 2 * A+1=q1 at *
    generalize 2 * B - den=r1 at *
   case' refine_2 =>
    have:=of_decide_eq_false h1
    have hq1:2 * Y=den * (2 * A)+(2 * B):=by rw [Int.mul_left_comm];omega
    have hq2:0≤2 * A∧2 * A≤200000000000001:=by omega
    have hr1:0≤2 * B∧2 * B<den:=by omega
    conv=>whnf
    generalize 2 * A=q1 at *
    generalize 2 * B=r1 at *
   all_goals clear w1 w2 hY hA0 hB0 hB1 hq hAe hBe
   all_goals (rw [decide_eq_false (show ¬ IntKind.u64.wrap (62 - (j:Int))<0 by rw [C2 (by omega) (by omega)];omega)])
   all_goals (conv=>whnf)
   all_goals rw [hshr,hand]
   all_goals refine B9 (fun h2=>?_) (fun h2=>?_)<;>rw [h2]
   -- a bit of num
   case' refine_2.true.refine_1.refine_1 | refine_2.true.refine_2.refine_1 =>
    have hb1:Z3 num (j+1) % 2=1:=eq_of_beq h2
    have w5:IntKind.i64.wrap C=C:=A9 (by omega) (by omega)
    have w6:IntKind.i64.wrap (q1+C)=q1+C:=A9 (by omega) (by omega)
    have w7:IntKind.i64.wrap (r1+D)=r1+D:=A9 (by omega) (by omega)
    have hd0:decide (den=0)=false:=decide_eq_false (by omega)
    rw [hb1,Int.mul_one] at hbit;conv=>whnf
    refine ⟨[],[],List.range 12,by kernel_rfl,?_⟩;conv=>whnf
    rw [hd0];conv=>whnf
    rw [hd0];conv=>whnf
    rw [htd,htm,w5,w6,w7]
    refine B9 (fun h3=>?_) (fun h3=>?_)<;>rw [h3]
    case' refine_1 =>
     have:=of_decide_eq_true h3
     have w8:IntKind.i64.wrap (q1+C+1)=q1+C+1:=A9 (by omega) (by omega)
     have w9:IntKind.i64.wrap (r1+D - den)=r1+D - den:=A9 (by omega) (by omega)
     obtain ⟨e1,e2⟩:=B2O (Y:=x * Z3 num (j+1)) (d:=den) (q:=q1+C+1) (r:=r1+D - den) (by rw [hbit,Int.mul_add,Int.mul_add,Int.mul_one];omega) (by omega) (by omega)
     conv=>whnf
     rw [w8,w9,←e1,←e2]
    case' refine_2 =>
     have:=of_decide_eq_false h3
     obtain ⟨e1,e2⟩:=B2O (Y:=x * Z3 num (j+1)) (d:=den) (q:=q1+C) (r:=r1+D) (by rw [hbit,Int.mul_add];omega) (by omega) (by omega)
     conv=>whnf
     rw [←e1,←e2]
   case' refine_2.true.refine_1.refine_2 | refine_2.true.refine_2.refine_2 =>
    have hb1:Z3 num (j+1) % 2=0:=by have:=ne_of_beq_false h2;omega
    rw [hb1,Int.mul_zero,Int.add_zero] at hbit
    obtain ⟨e1,e2⟩:=B2O (Y:=x * Z3 num (j+1)) (d:=den) (q:=q1) (r:=r1) (by rw [hbit];omega) (by omega) (by omega)
    conv=>whnf
    rw [←e1,←e2]
   all_goals refine B9 (fun h4=>?_) (fun h4=>?_)<;>rw [h4]
   all_goals (conv=>whnf)
   all_goals first
    | exact ⟨by rw [hbig (of_decide_eq_true h4)];rfl,rfl⟩
    | (refine ⟨rfl,?_⟩;conv=>whnf
       have w10:IntKind.i64.wrap (62 - (j:Int) - 1)=62 - ((j+1:Nat):Int):=by rw [A9 (by omega) (by omega)];omega
       exact nx hj' ⟨by have:=of_decide_eq_false h4;omega,by rw [w10],rfl⟩)
theorem B0M (x num den round:Int) (st:St):S P 224 [eI x,eI num,eI den,eI round] st fun v st'=>v=.tuple [eI (V8 x num den round).1,eI (V8 x num den round).2]∧st'=st:=by
 refine SyW [] Tryz.func224 ?_
 by_cases hok:(S5 x&&S5 num&&S5 den&&den != 0&&decide (0≤round)&&decide (round<3))=false
 ·rw [show V8 x num den round=(0,2) from if_pos hok]
  have n1:=A1M x st
  have n2:=A1M num st
  have hok':¬(S5 x=true∧S5 num=true∧1≤den∧den≤100000000000000∧0≤round∧round≤2):=fun ⟨h1,h2,h3,h4,h5,h6⟩=>by
   rw [h1,h2,(A0I den).2 ⟨by omega,h4⟩,decide_eq_true h5,decide_eq_true (show round<3 by omega),bne_iff_ne.2 (show den≠0 by omega)] at hok;cases hok
  repeat' ((conv=>whnf);first | refine C5 n1 ?_ | refine C5 n2 ?_ | (refine B9 (fun h=>?_) (fun h=>?_)<;>rw [h]))
  all_goals (conv=>whnf)
  all_goals first
   | exact ⟨rfl,rfl⟩
   | (exfalso
      simp only [Bool.not_eq_false',decide_eq_false_iff_not] at *
      exact hok' ⟨by assumption,by assumption,by omega,by omega,by omega,by omega⟩)
 ·rw [Bool.not_eq_false] at hok
  have ht:V8 x num den round=if x * num / den>100000000000000 then (0,5) else if S6 (x * num / den) (x * num % den) den round>100000000000000 then (0,5) else (S6 (x * num / den) (x * num % den) den round,0):=if_neg (by rw [hok];simp)
  simp only [Bool.and_eq_true,bne_iff_ne,ne_eq,decide_eq_true_eq] at hok
  obtain ⟨⟨⟨⟨⟨x0,n0⟩,d0⟩,d2⟩,r0⟩,r1⟩:=hok
  have x1:=(A0I x).1 x0
  have n1:=(A0I num).1 n0
  have d1:=(A0I den).1 d0
  have e1:decide (den<1)=false:=decide_eq_false (by omega)
  have e2:decide (den>100000000000000)=false:=decide_eq_false (by omega)
  have e3:decide (round<0)=false:=decide_eq_false (by omega)
  have e4:decide (round>2)=false:=decide_eq_false (by omega)
  have hp:=B0L x num den (by omega) (by omega) (by omega) (by omega) (by omega) (by omega) st
  have hN:0≤x * num:=Int.mul_nonneg x1.1 n1.1
  have hq0:0≤x * num / den:=Int.ediv_nonneg hN (by omega)
  have hm0:=Int.emod_nonneg (x * num) d2
  have hm1:=Int.emod_lt_of_pos (x * num) (show 0<den by omega)
  have m1:=A1M x st
  have m2:=A1M num st
  rw [x0] at m1
  rw [n0] at m2
  unfold A8s at hp
  rw [ht]
  clear ht
  generalize x * num / den=q at *
  generalize x * num % den=r at *
  have bq:0≤S6 q r den round:=by unfold S6;repeat' split<;>omega
  by_cases hbig:q>100000000000000
  ·rw [if_pos hbig] at hp ⊢
   repeat' ((conv=>whnf);first | refine C5 m1 ?_ | refine C5 m2 ?_ | refine C5 hp ?_ | rw [e1] | rw [e2] | rw [e3] | rw [e4])
   conv=>whnf
   exact ⟨rfl,rfl⟩
  ·rw [if_neg hbig] at hp ⊢
   have w1:IntKind.i64.wrap (2 * r)=2 * r:=A9 (by omega) (by omega)
   have w2:IntKind.i64.wrap (q+1)=q+1:=A9 (by omega) (by omega)
   have w3:q.tmod 2=q % 2:=Int.tmod_eq_emod_of_nonneg hq0
   have m3:=A1M q st
   have m4:=A1M (q+1) st
   rcases (by omega:round=0∨round=1∨round=2) with rfl | rfl | rfl
   all_goals repeat' ((conv=>whnf);first | refine C5 m1 ?_ | refine C5 m2 ?_ | refine C5 m3 ?_ | refine C5 m4 ?_ | refine C5 hp ?_ | rw [e1] | rw [e2] | rw [e3] | rw [e4] | rw [w1] | rw [w2] | rw [w3] | (refine B9 (fun h=>?_) (fun h=>?_)<;>rw [h]))
   all_goals (conv=>whnf)
   all_goals (refine ⟨?_,rfl⟩;show AV.tuple [AV.int .i64 _,AV.int .i64 _]=AV.tuple [AV.int .i64 _,AV.int .i64 _])
   all_goals (simp only [S6,Bool.not_eq_true',Bool.not_eq_false',decide_eq_true_eq,decide_eq_false_iff_not,beq_iff_eq,beq_eq_false_iff_ne,ne_eq,S5,Bool.and_eq_true,Bool.and_eq_false_iff,if_true,if_false,Int.reduceEq] at *)
   all_goals (repeat' split)
   all_goals first | rfl | (exfalso;omega)
theorem C3C (x:Int) (st:St):S P 171 [eI x,eI x] st fun v st'=>v=.bool true∧st'=st:=by
 refine G0 [] Tryz.func171 ?_
 refine ⟨?_,rfl⟩
 show AV.bool (x==x)=_
 rw [beq_self_eq_true]
theorem C0R (x:A0S) (st:St):S P 173 [A2Q x,A2Q x] st fun v st'=>v=.bool true∧st'=st:=by
 refine G0 [2,3] Tryz.func173 ?_
 refine ⟨?_,rfl⟩
 show AV.bool ((x.id.toList==x.id.toList)&&((x.off==x.off)&&true))=AV.bool true
 rw [beq_self_eq_true,beq_self_eq_true];rfl
theorem B6J (l:List Int) (hl:Sm l.length) (st:St):S P 170 [A8 l,A8 l,.fn (.func 171) [] []] st fun v st'=>v=.bool true∧st'=st:=by
 refine G0 [] Tryz.func170 ?_
 rw [show ((l.length:Int) != (l.length:Int))=false from bne_self_eq_false _];conv=>whnf
 refine lp l.length [0,1,2,7] (fun i vs s=>vs=[A8 l,A8 l,.fn (.func 171) [] [],eI i]∧s=st) ?_ ?_
 ·conv=>whnf
  exact ⟨rfl,rfl⟩
 ·rintro i vs s hi ⟨rfl,rfl⟩
  conv=>whnf
  cases h:decide ((i:Int)<(l.length:Int))
  ·obtain rfl:=C6 h hi
   conv=>whnf
   exact ⟨rfl,rfl⟩
  ·have hi':=E4 h
   conv=>whnf
   refine ⟨[],[],List.range 11,by kernel_rfl,?_⟩;conv=>whnf
   refine E1 ?_
   refine E1 ?_
   refine X9 (C3C _ _) ?_
   refine G7 ?_
   exact nx hi' ⟨by rw [B8 (by omega)],rfl⟩
theorem B5k (l:List A0S) (hl:Sm l.length) (st:St):S P 172 [B1 2 A2Q l,B1 2 A2Q l,.fn (.func 173) [] []] st fun v st'=>v=.bool true∧st'=st:=by
 refine G0 [] Tryz.func172 ?_
 rw [show ((l.length:Int) != (l.length:Int))=false from bne_self_eq_false _];conv=>whnf
 refine lp l.length [0,1,2,7] (fun i vs s=>vs=[B1 2 A2Q l,B1 2 A2Q l,.fn (.func 173) [] [],eI i]∧s=st) ?_ ?_
 ·conv=>whnf
  exact ⟨rfl,rfl⟩
 ·rintro i vs s hi ⟨rfl,rfl⟩
  conv=>whnf
  cases h:decide ((i:Int)<(l.length:Int))
  ·obtain rfl:=C6 h hi
   conv=>whnf
   exact ⟨rfl,rfl⟩
  ·have hi':=E4 h
   conv=>whnf
   refine ⟨[],[],List.range 11,by kernel_rfl,?_⟩;conv=>whnf
   refine E1 ?_
   refine E1 ?_
   refine X9 (C0R _ _) ?_
   refine G7 ?_
   exact nx hi' ⟨by rw [B8 (by omega)],rfl⟩
theorem A8P (l:List Int) (hl:Sm l.length) (st:St):S P 93 [A8 l,A8 l] st fun v st'=>v=.bool true∧st'=st:=by
 refine G0 [] Tryz.func93 ?_
 refine I2 (B6J l hl _) ?_
 exact ⟨rfl,rfl⟩
theorem B3f (l:List A0S) (hl:Sm l.length) (st:St):S P 94 [B1 2 A2Q l,B1 2 A2Q l] st fun v st'=>v=.bool true∧st'=st:=by
 refine G0 [] Tryz.func94 ?_
 refine I2 (B5k l hl _) ?_
 exact ⟨rfl,rfl⟩
theorem B3s (t:Tax) (x rate:Int) (hr:0≤rate∧rate≤10000) (st:St):S P 214 [M8 t,eI x,eI rate] st fun v st'=>v=eI (B6 t x rate)∧st'=st:=by
 have hM:B6 t x rate=(V8 x rate (A8e t rate) t.round).1:=rfl
 have hw:IntKind.i64.wrap (10000+rate)=10000+rate:=A9 (by omega) (by omega)
 refine G0 [3] Tryz.func214 ?_
 cases hi:t.incl
 ·have hd:A8e t rate=10000:=by unfold A8e;rw [if_neg (by rw [hi];simp)];rfl
  conv=>whnf
  refine C5 (B0M x rate 10000 t.round st) ?_
  rw [hM,hd]
  generalize V8 x rate 10000 t.round=Y
  conv=>whnf
  exact ⟨rfl,rfl⟩
 ·have hd:A8e t rate=10000+rate:=by unfold A8e;rw [if_pos hi]
  conv=>whnf
  rw [hw]
  refine C5 (B0M x rate (10000+rate) t.round st) ?_
  rw [hM,hd]
  generalize V8 x rate (10000+rate) t.round=Y
  conv=>whnf
  exact ⟨rfl,rfl⟩
theorem B9l (z:L3) (c:D6) (hl:z.rates.length≤100000) (st:St):S P 215 [Q6 z,eS c] st fun v st'=>v=eI (E7 z c)∧st'=st:=by
 refine G0 [2] Tryz.func215 ?_
 refine lp z.rates.length [1,2,5] (fun i vs t=>(∀ j,j<i→((z.rates.getD j default).cat.toList==c.toList)=false)∧vs=[eS c,.fptr (Q6 z) 0,eI i]∧t=st) ?_ ?_
 ·conv=>whnf
  exact ⟨fun j hj=>absurd hj (by omega),rfl,rfl⟩
 ·rintro i vs t hi ⟨hno,rfl,rfl⟩
  conv=>whnf
  cases h1:decide ((i:Int)<(z.rates.length:Int))
  ·obtain rfl:=C6 h1 hi
   have hf:E7 z c=z.rest:=by unfold E7;rw [A9o hno]
   rw [hf];conv=>whnf
   exact ⟨rfl,rfl⟩
  ·have hi':=E4 h1
   conv=>whnf
   refine E1 ?_
   refine B9 (fun h2=>?_) (fun h2=>?_)<;>rw [h2]
   ·have hf:E7 z c=(z.rates.getD (i:Int).toNat default).rate:=by unfold E7;rw [A9n (p:=fun x:H2=>x.cat.toList==c.toList) hi' h2 hno];rfl
    rw [hf];conv=>whnf
    refine E1 ?_
    exact ⟨rfl,rfl⟩
   ·conv=>whnf
    refine G7 ?_
    exact nx hi' ⟨K0 hno h2,by rw [B8 (by omega)],rfl⟩
theorem B2g (t:Tax) (s:D6) (hl:t.zones.length≤100000) (st:St) :
  S P 213 [M8 t,eS s] st fun v st'=>v=.tuple [Q6 ((X7 t.zones s).getD B8i),.bool (X7 t.zones s).isSome]∧st'=st:=by
 refine S.post (post:=fun v s'=>D8 st s'∧((∃ z,X7 t.zones s=some z∧v=.tuple [Q6 z,.bool true])∨(X7 t.zones s=none∧v=.tuple [.agg [eS ⟨#[]⟩,.emp,eI 0,eI 0],.bool false]))) ?_ (fun v s' ⟨hs,h⟩=>⟨_,st,⟨rfl,rfl⟩,by
  rcases h with ⟨z,h1,rfl⟩ | ⟨h1,rfl⟩
  ·rw [h1];exact hs.shift _
  ·rw [h1]
   exact (B0.tuple (B0.cons (Le.shift (Le.agg (E0.cons (Le.refl _) (E0.cons (Le.emp _ _) (E0.refl _)))) _) (B0.keep _ _)) rfl).trans (hs.shift _)⟩)
 refine G0 [2] Tryz.func213 ?_
 intro b4 hb4;conv=>whnf
 refine lp t.zones.length [1,2,4,6] (fun i vs u=>(∀ j,j<i→((t.zones.getD j default).name.toList==s.toList)=false)∧vs=[eS s,.fptr (M8 t) 0,.optr 4 b4 0 0,eI i]∧u=upd st b4 ⟨177,4,1,fun _=>H4 B9f.zero⟩) ?_ ?_
 ·conv=>whnf
  exact ⟨fun j hj=>absurd hj (by omega),rfl,rfl⟩
 ·rintro i vs u hi ⟨hno,rfl,rfl⟩
  conv=>whnf
  cases h1:decide ((i:Int)<(t.zones.length:Int))
  ·obtain rfl:=C6 h1 hi
   have hf:X7 t.zones s=none:=A9o hno
   conv=>whnf
   refine N1 (A0 ..) rfl ?_
   refine F2 (A0 ..) (A5 ..) ?_
   exact ⟨((D8.refl st).upd hb4).over hb4,.inr ⟨hf,rfl⟩⟩
  ·have hi':=E4 h1
   conv=>whnf
   refine E1 ?_
   refine B9 (fun h2=>?_) (fun h2=>?_)<;>rw [h2]
   ·have hf:X7 t.zones s=some (t.zones.getD (i:Int).toNat default):=A9n (p:=fun z:L3=>z.name.toList==s.toList) hi' h2 hno
    conv=>whnf
    refine E1 ?_
    refine N1 (A0 ..) rfl ?_
    refine F2 (A0 ..) (A5 ..) ?_
    exact ⟨((D8.refl st).upd hb4).over hb4,.inl ⟨_,hf,rfl⟩⟩
   ·conv=>whnf
    refine G7 ?_
    exact nx hi' ⟨K0 hno h2,by rw [B8 (by omega)],rfl⟩
theorem B5l (q:A4Q) (h1:Sm q.goods.length) (h2:Sm q.taxes.length) (h3:Sm q.deals.length) (st:St):S P 47 [A0B q,A0B q] st fun v st'=>v=.bool true∧st'=st:=by
 have c1:=fun s=>A8P q.goods h1 s
 have c2:=fun s=>A8P q.taxes h2 s
 have c3:=fun s=>B3f q.deals h3 s
 have w8:∀ x:Int,(x==x)=true:=fun x=>beq_self_eq_true x
 refine SyW [2,3] Tryz.func47 ?_
 repeat' ((conv=>whnf);first | refine C5 (c1 _) ?_ | refine C5 (c2 _) ?_ | refine C5 (c3 _) ?_ | rw [w8])
 all_goals
  conv=>whnf
  exact ⟨rfl,rfl⟩
end Go.Proofs.YtbajhapmlfbelaaGreat
namespace Go.Proofs.YtbajhapmlfbelaaGreat
open Go Go.Ab
def C0Q (rates:List Int) (i:Nat):QE:=(-(gI rates i),(i:Int))
def B7v (rates:List Int):List QE:=(List.range rates.length).map (C0Q rates)
def A8U (rates:List Int):List QE:=(B7v rates).mergeSort fun a b=>!H1 b a
theorem A7L (rates:List Int):(A8U rates).Pairwise fun a b=>H1 b a=false:=by
 have:=List.pairwise_mergeSort (le:=fun a b:QE=>!H1 b a) (fun a b c h1 h2=>by simp only [Bool.not_eq_true'] at *;exact A0c h2 h1) (fun a b=>by
  cases h:H1 b a with
  | false=>rfl
  | true=>rw [Y8 h];rfl) (B7v rates)
 exact this.imp (fun h=>by simpa using h)
theorem A4t (rates:List Int):(A8U rates).Perm (B7v rates):=List.mergeSort_perm ..
def K2 (rates:List Int) (k:Int):List Nat:=(List.range rates.length).filter fun i=>-(gI rates i)==k
theorem B9A (rates:List Int) (k:Int):(A8U rates).filter (fun e=>e.1==k)=(K2 rates k).map fun i:Nat=>(k,(i:Int)):=by
 have h1:((A8U rates).filter (fun e=>e.1==k)).Perm ((K2 rates k).map fun i:Nat=>(k,(i:Int))):=by
  refine ((A4t rates).filter _).trans ?_
  unfold B7v K2
  rw [List.filter_map]
  refine List.Perm.of_eq ?_
  refine List.map_congr_left fun i hi=>?_
  have:=(List.mem_filter.1 hi).2
  show (-(gI rates i),(i:Int))=(k,(i:Int))
  have h : -(gI rates i)=k:=by simpa [C0Q] using this
  rw [h]
 refine h1.eq_of_pairwise (le:=fun a b=>H1 b a=false) (fun a b _ _ h3 h4=>(A3F h4 h3)) (List.Pairwise.sublist List.filter_sublist (A7L rates)) ?_
 refine List.pairwise_map.2 ?_
 unfold K2
 refine (List.Pairwise.sublist List.filter_sublist List.pairwise_lt_range).imp fun {a b} hab=>?_
 rw [Q7]
 show ¬(k>k∨k=k∧(b:Int)<(a:Int))
 omega
theorem B9B {E:List QE} (hs:E.Pairwise fun a b=>H1 b a=false) {k:Int} (hk:∀ e∈E,e.1≤k):E=E.filter (fun e=>e.1==k)++E.filter (fun e=>!(e.1==k)):=by
 induction E with
 | nil=>rfl
 | cons e E ih =>
  have hs':=List.pairwise_cons.1 hs
  by_cases h:e.1=k
  ·rw [List.filter_cons_of_pos (by simpa using h),List.filter_cons_of_neg (by simpa using h),List.cons_append,←ih hs'.2 fun x hx=>hk x (List.mem_cons_of_mem _ hx)]
  ·have hlt:∀ x∈E,x.1<k:=fun x hx=>by
    have h1:=(Q7 _ _).1 (hs'.1 x hx)
    have h2:=hk e (List.mem_cons_self ..)
    omega
   have hn:E.filter (fun e=>e.1==k)=[]:=List.filter_eq_nil_iff.2 fun x hx=>by have:=hlt x hx;simp;omega
   have ha:E.filter (fun e=>!(e.1==k))=E:=List.filter_eq_self.2 fun x hx=>by have:=hlt x hx;simp;omega
   rw [List.filter_cons_of_neg (by simpa using h),List.filter_cons_of_pos (by simpa using h),hn,ha];rfl
def A1d (rates:List Int) (D:Int→Bool):List QE:=(A8U rates).filter fun e=>!D e.1
theorem A7p (rates:List Int) (D:Int→Bool):(A1d rates D).Pairwise fun a b=>H1 b a=false:=List.Pairwise.sublist List.filter_sublist (A7L rates)
theorem B6h {rates:List Int} {D:Int→Bool} {x:QE} {E:List QE} (h:A1d rates D=x::E) :
  D x.1=false∧x::E=((K2 rates x.1).map fun i:Nat=>(x.1,(i:Int)))++A1d rates (fun y=>D y||y==x.1):=by
 have hs:=A7p rates D
 have hx:x∈A1d rates D:=by rw [h];exact List.mem_cons_self ..
 have hD:D x.1=false:=by
  have:=(List.mem_filter.1 hx).2
  simpa using this
 refine ⟨hD,?_⟩
 have hk:∀ e∈A1d rates D,e.1≤x.1:=fun e he=>by
  rw [h] at he hs
  rcases List.mem_cons.1 he with rfl | he
  ·exact Int.le_refl _
  ·have:=(Q7 _ _).1 ((List.pairwise_cons.1 hs).1 e he);omega
 have h2:=B9B hs hk
 rw [←h,h2]
 congr 1
 ·rw [←B9A]
  unfold A1d
  rw [List.filter_filter]
  refine List.filter_congr fun e he=>?_
  by_cases e1:e.1=x.1
  ·rw [e1,hD];simp
  ·simp [e1]
 ·unfold A1d
  rw [List.filter_filter]
  refine List.filter_congr fun e he=>?_
  show (!(e.1==x.1)&&!D e.1)=!(D e.1||e.1==x.1)
  rw [Bool.not_or,Bool.and_comm]
theorem B2T {rates:List Int} {D:Int→Bool} {k:Int}:∀ y∈A1d rates (fun z=>D z||z==k),(y.1==k)=false:=fun y hy=>by
 have:=(List.mem_filter.1 hy).2
 simp only [Bool.not_eq_true',Bool.or_eq_false_iff] at this
 exact this.2
theorem B4r (rates:List Int):A1d rates (fun _=>false)=A8U rates:=List.filter_eq_self.2 fun x _=>rfl
theorem Z8 {rates:List Int} {k:Int} {i:Nat} (hi:i∈K2 rates k) : -(gI rates i)=k∧i<rates.length∧A7r rates i=K2 rates k:=by
 have h1:=List.mem_filter.1 hi
 have h2 : -(gI rates i)=k:=by simpa using h1.2
 refine ⟨h2,List.mem_range.1 h1.1,?_⟩
 unfold A7r K2
 refine List.filter_congr fun j _=>?_
 rw [Bool.eq_iff_iff,beq_iff_eq,beq_iff_eq];omega
theorem B1V (rates:List Int) (k:Int):(K2 rates k).Nodup:=List.Pairwise.sublist List.filter_sublist List.nodup_range
theorem C3J {rates:List Int} {k:Int} {j:Nat} (hj:j<(K2 rates k).length):A0a rates ((K2 rates k)[j])=j:=by
 have hm:=Z8 (List.getElem_mem hj)
 have h1:=A7s hm.2.1
 rw [hm.2.2] at h1
 have h2:=List.getElem?_eq_some_iff.1 h1
 obtain ⟨h3,h4⟩:=h2
 have:=(List.nodup_iff_pairwise_ne.1 (B1V rates k))
 rcases Nat.lt_trichotomy (A0a rates ((K2 rates k)[j])) j with e | e | e
 ·exact absurd h4 (List.pairwise_iff_getElem.1 this _ _ h3 hj e)
 ·exact e
 ·exact absurd h4.symm (List.pairwise_iff_getElem.1 this _ _ hj h3 e)
def A1X (t:Tax) (rates nets:List Int) (k:Int):List Int:=D7 (B6 t (A7 ((K2 rates k).map (gI nets))) (-k)) ((K2 rates k).map (gI nets))
theorem C1C {t:Tax} {rates nets:List Int} {k:Int} {j:Nat} (hj:j<(K2 rates k).length):gI (A1X t rates nets k) j=A1i t rates nets ((K2 rates k)[j]):=by
 have hm:=Z8 (List.getElem_mem hj)
 unfold A1X A1i I5
 rw [C3J hj,hm.2.2,show gI rates ((K2 rates k)[j]) = -k by omega]
end Go.Proofs.YtbajhapmlfbelaaGreat
namespace Go.Ab
open Go
theorem B9n {w:World} {st st':St} (h:∀ b,st b=none↔st' b=none):A2G w st=A2G w st':=by
 funext a
 unfold A2G
 cases h1:st a.block with
 | none=>rw [(h _).1 h1]
 | some x =>
  cases h2:st' a.block with
  | none=>rw [(h _).2 h2] at h1;cases h1
  | some y=>rfl
theorem B0.cellG {vs:List AV} {st st2:St} {a i:Nat} {y:R9} {sv v' w':AV} {pre post:List AV} (h:B0 [sv] st [v'] st2) (hy:st a=some y) (hy2:st2 a=some y) (hi:i<y.n)
  (hf:cellsOf (y.f i)=pre++sv::post) (hw:cellsOf w'=pre++v'::post) (h1:v'.one=true):B0 vs st vs (upd st2 a { y with f:=C9 y.f i w' }):=fun w cs hS hR=>by
 obtain ⟨ds,hok⟩:=hS a y hy
 obtain ⟨c,hc1,hc2⟩:=hok.cell i pre.length sv hi (by rw [hf];show (pre++sv::post)[pre.length]?=some sv;simp)
 obtain ⟨hS2,hR2,hE⟩:=h w #[c] hS ⟨rfl,fun k z c' hz hc'=>by
  cases k with
  | zero=>simp at hz hc';subst hz;subst hc';exact hc2
  | succ k=>simp at hz⟩
 have hv:K6 w st2 v' c:=hR2.2 0 v' c rfl rfl
 have e:A2G w (upd st2 a { y with f:=C9 y.f i w' })=A2G w st2:=B9n fun b=>by
  by_cases eb:b=a
  ·subst eb;rw [A0,hy2];constructor<;>(intro h0;cases h0)
  ·rw [A6 eb]
 have hrep:∀ v c,K6 w st2 v c→K6 w (upd st2 a { y with f:=C9 y.f i w' }) v c:=fun v c hv=>by
  show Rep (A2G w _) _ _ _
  rw [e];exact hv
 refine ⟨fun b x hb=>?_,⟨hR.1,fun k y c hy hc=>hrep _ _ (hE.rep (hR.2 k y c hy hc))⟩,⟨hE.os,hE.tape,hE.output,hE.size,fun b hb hn=>⟨(hE.blk b hb hn).1,?_⟩,hE.szm⟩⟩
 ·by_cases eb:b=a
  ·subst eb
   rw [A0] at hb;cases hb
   obtain ⟨ds2,hok2⟩:=hS2 b y hy2
   have hds:ds2=ds:=by
    have h3:=hok2.heap
    rw [hok.heap] at h3
    cases h3;rfl
   subst hds
   have hlen:=hok2.len i hi
   have hone:=hok2.one i hi
   rw [hf] at hlen hone
   refine ⟨ds2,hok2.heap,hok2.size,fun k hk=>?_,fun k hk=>?_,fun k m z hk hz=>?_⟩
   ·by_cases ek:k=i
    ·subst ek
     show (cellsOf (C9 y.f k _ k)).length=y.e
     unfold C9;rw [if_pos rfl,←hlen]
     show (cellsOf w').length=(pre++sv::post).length
     rw [hw]
     simp
    ·show (cellsOf (C9 y.f i _ k)).length=y.e
     unfold C9;rw [if_neg ek];exact hok2.len k hk
   ·by_cases ek:k=i
    ·subst ek
     show (cellsOf (C9 y.f k _ k)).all AV.one=true
     unfold C9;rw [if_pos rfl]
     have hone':(pre++sv::post).all AV.one=true:=hone
     show (cellsOf w').all AV.one=true
     rw [hw]
     simp only [List.all_append,List.all_cons,Bool.and_eq_true] at hone' ⊢
     exact ⟨hone'.1,h1,hone'.2.2⟩
    ·show (cellsOf (C9 y.f i _ k)).all AV.one=true
     unfold C9;rw [if_neg ek];exact hok2.one k hk
   ·have hz:(cellsOf (C9 y.f i w' k))[m]?=some z:=hz
    unfold C9 at hz
    by_cases ek:k=i
    ·subst ek
     rw [if_pos rfl] at hz
     have hz:(pre++v'::post)[m]?=some z:=by rw [←hw];exact hz
     by_cases em:m=pre.length
     ·subst em
      simp at hz
      subst hz
      exact ⟨c,hc1,hrep _ _ hv⟩
     ·have e3:(pre++sv::post)[m]?=some z:=by
       rw [←hz]
       by_cases hm:m<pre.length
       ·rw [List.getElem?_append_left hm,List.getElem?_append_left hm]
       ·rw [List.getElem?_append_right (by omega),List.getElem?_append_right (by omega)]
        obtain ⟨q,hq⟩:∃ q,m - pre.length=q+1:=⟨m - pre.length - 1,by omega⟩
        rw [hq];rfl
      obtain ⟨c',k1,k2⟩:=hok2.cell k m z hk (by rw [hf];exact e3)
      exact ⟨c',k1,hrep _ _ k2⟩
    ·rw [if_neg ek] at hz
     obtain ⟨c',k1,k2⟩:=hok2.cell k m z hk hz
     exact ⟨c',k1,hrep _ _ k2⟩
  ·rw [A6 eb] at hb
   obtain ⟨ds2,hok2⟩:=hS2 b x hb
   exact ⟨ds2,hok2.heap,hok2.size,hok2.len,hok2.one,fun k m z hk hz=>by
    obtain ⟨c',k1,k2⟩:=hok2.cell k m z hk hz
    exact ⟨c',k1,hrep _ _ k2⟩⟩
 ·have:=(hE.blk b hb hn).2
  have eb:b≠a:=fun h=>by rw [h,hy] at hn;cases hn
  rw [A6 eb];exact this
theorem B0.cell {vs:List AV} {st st2:St} {a i:Nat} {y:R9} {sv v':AV} {pre post:List AV} (h:B0 [sv] st [v'] st2) (hy:st a=some y) (hy2:st2 a=some y) (hi:i<y.n)
  (hf:y.f i=.agg (pre++sv::post)) (h1:v'.one=true):B0 vs st vs (upd st2 a { y with f:=C9 y.f i (.agg (pre++v'::post)) }) :=
 B0.cellG h hy hy2 hi (by rw [hf];rfl) rfl h1
end Go.Ab
namespace Go.Proofs.YtbajhapmlfbelaaGreat
open Go Go.Ab
attribute [local irreducible] upd del
abbrev A6A (l:List H2):Nat→AV:=fun i=>Y3 (l.getD i default)
def A1T (zs:Nat→List H2) (sv:Nat→AV):Nat→St→St→Prop
 | 0=>D8
 | k+1=>fun s t=>ROut (A1T zs sv k) 212 2 (A6A (zs k)) (zs k).length s (sv k) t
theorem A1K (zs:Nat→List H2) (sv:Nat→AV):∀ k,J8 (A1T zs sv k)
 | 0=>B2
 | k+1=>D9 (A1K zs sv k) _ _ _ _ _
theorem A8K {zs zs':Nat→List H2} {sv sv':Nat→AV}:∀ (k:Nat) {s t:St},(∀ j,j<k→zs j=zs' j∧sv j=sv' j)→A1T zs sv k s t→A1T zs' sv' k s t
 | 0,s,t,_,h=>h
 | k+1,s,t,he,h=>by
  obtain ⟨s0,h1,h2⟩:=h
  obtain ⟨e1,e2⟩:=he k (Nat.lt_succ_self k)
  rw [e1,e2] at h1
  exact ⟨s0,h1,A8K k (fun j hj=>he j (Nat.lt_succ_of_lt hj)) h2⟩
theorem A7j {bz n ty:Nat} {zs:Nat→List H2} {sv:Nat→AV} {nm:Nat→D6} {r1 r2:Nat→Int}:∀ (k:Nat) (s t:St) (g:Nat→AV),k≤n→A1T zs sv k s t→s bz=some ⟨ty,4,n,g⟩→(∀ j,j<k→g j=.agg [eS (nm j),sv j,eI (r1 j),eI (r2 j)]) →
  ∃ t' g',(∀ vs,B0 vs t vs t')∧D8 (upd s bz ⟨ty,4,n,g'⟩) t'∧(∀ j,j<k→g' j=.agg [eS (nm j),B1 2 Y3 (zs j),eI (r1 j),eI (r2 j)])∧∀ j,k≤j→g' j=g j
 | 0,s,t,g,hk,h,hs,hg=>by
  refine ⟨t,g,fun vs=>B0.refl _ _,fun b x hb=>?_,fun j hj=>absurd hj (by omega),fun j _=>rfl⟩
  by_cases e:b=bz
  ·subst e;rw [A0] at hb;cases hb;exact h _ _ hs
  ·rw [A6 e] at hb;exact h _ _ hb
 | k+1,s,t,g,hk,h,hs,hg=>by
  have hB:=A1K zs sv k
  have ht:t bz=some ⟨ty,4,n,g⟩:=(A1K zs sv (k+1)).sup h _ _ hs
  obtain ⟨t1,hsh,hc⟩:=ROut.shift hB h
  have ht1:t1 bz=some ⟨ty,4,n,g⟩:=hB.sup hc _ _ hs
  have hcell:=fun vs=>B0.cell (vs:=vs) (pre:=[eS (nm k)]) (post:=[eI (r1 k),eI (r2 k)]) hsh ht ht1 (show k<n by omega) (hg k (by omega)) rfl
  have hc':=hB.write (y':=⟨ty,4,n,C9 g k (.agg ([eS (nm k)]++AV.arr 2 (zs k).length (A6A (zs k))::[eI (r1 k),eI (r2 k)]))⟩) hc hs
  obtain ⟨t',g',k1,k2,k3,k4⟩:=A7j (nm:=nm) (r1:=r1) (r2:=r2) k _ _ _ (by omega) hc' (A0 ..) (fun j hj=>by rw [H3 (by omega)];exact hg j (by omega))
  rw [B7] at k2
  refine ⟨t',g',fun vs=>(hcell vs).trans (k1 vs),k2,fun j hj=>?_,fun j hj=>?_⟩
  ·by_cases e:j=k
   ·subst e;rw [k4 j (Nat.le_refl _),A5];rfl
   ·exact k3 j (by omega)
  ·rw [k4 j (by omega),H3 (by omega)]
theorem ROut.putB {R:St→St→Prop} (hR:J8 R) {ty e n b:Nat} {fo:Nat→AV} {s t:St} {sv:AV} {y:R9} (h:ROut R ty e fo n (upd s b y) sv t) (y':R9):ROut R ty e fo n (upd s b y') sv (upd t b y'):=by
 have:=ROut.write (y':=y') hR h (A0 ..)
 rwa [B7] at this
theorem C2T (k:Nat) (h:k<3):(⟨#[122]⟩:D6)++B1D ([]++[IntKind.u8.wrap (48+IntKind.u8.wrap (k:Int))])=X1 k:=by rw [B2s];rfl
theorem B4N {l:List L3} {k:Nat} (h:k<l.length):F5 l k=⟨X1 k,R8 (l.getD k default).rates,C7 (l.getD k default).rest 3000,C7 (l.getD k default).ship 3000⟩:=if_pos h
theorem B3m {l:List L3} {k:Nat} (h:¬ k<l.length):F5 l k=⟨X1 k,[],1000 * k,500 * k⟩:=if_neg h
theorem C4m {l:List H2} {c:Nat} (hc:c<min 3 l.length):(R8 l).getD c default=A7z l c:=by
 unfold R8
 rw [List.getD_eq_getElem?_getD,List.getElem?_map,List.getElem?_range hc];rfl
abbrev B1m (z:L3) (rv:AV):AV:=.agg [eS z.name,rv,eI z.rest,eI z.ship]
def ZO (t:Tax) (k:Nat) (base:St) (zv:AV) (s:St):Prop :=
 ∃ (sv g:Nat→AV),ROut (A1T (fun j=>(F5 t.zones j).rates) sv k) 177 4 g k base zv s∧∀ j,j<k→g j=B1m (F5 t.zones j) (sv j)
theorem ZO.end {t:Tax} {base s:St} {zv:AV} (h:ZO t 3 base zv s):∃ t',B0 [zv] s [B1 4 Q6 (M0 t).zones] t'∧D8 base t':=by
 obtain ⟨sv,g,⟨s1,hcol,hch⟩,hg⟩:=h
 rcases hcol with ⟨h0,_,_⟩ | ⟨h0,bz,g0,hbz,rfl,rfl,hgg⟩
 ·cases h0
 obtain ⟨t',g',hsh,hsup,hg',_⟩:=A7j (nm:=fun j=>(F5 t.zones j).name) (r1:=fun j=>(F5 t.zones j).rest) (r2:=fun j=>(F5 t.zones j).ship) 3 _ s g0 (Nat.le_refl _) hch (A0 ..) (fun j hj=>by rw [hgg j hj,hg j hj])
 rw [B7] at hsup
 refine ⟨del t' bz,(hsh _).trans (G5 (hsup bz _ (A0 ..)) rfl (Nat.le_refl _) fun i hi=>?_),?_⟩
 ·show g' i=Q6 ((M0 t).zones.getD i default)
  rw [hg' i hi]
  have:(M0 t).zones.getD i default=F5 t.zones i:=by
   show ((List.range 3).map (F5 t.zones)).getD i default=_
   rw [List.getD_eq_getElem?_getD,List.getElem?_map,List.getElem?_range hi];rfl
  rw [this];rfl
 ·exact D8.del (((D8.refl base).upd hbz).trans hsup) hbz
theorem ZO.next {t:Tax} {k:Nat} {base s1 s:St} {zv rv:AV} {sv g:Nat→AV} (hcol:N3 177 4 g base k zv s1) (hR:ROut (A1T (fun j=>(F5 t.zones j).rates) sv k) 212 2 (A6A (F5 t.zones k).rates) (F5 t.zones k).rates.length s1 rv s) (hg:∀ j,j<k→g j=B1m (F5 t.zones j) (sv j)) :
  ∃ sv' g',ROut (A1T (fun j=>(F5 t.zones j).rates) sv' (k+1)) 177 4 g' k base zv s∧sv' k=rv∧(∀ j,j<k+1→g' j=B1m (F5 t.zones j) (sv' j)):=by
 have hsv:∀ j,j<k→sv j=(fun j=>if j=k then rv else sv j) j:=fun j hj=>by simp only;rw [if_neg (by omega)]
 refine ⟨fun j=>if j=k then rv else sv j,fun j=>B1m (F5 t.zones j) (if j=k then rv else sv j),⟨s1,N3.congr hcol fun j hj=>by rw [hg j hj];show B1m _ _=B1m _ (if j=k then rv else sv j);rw [if_neg (by omega)],?_⟩,by simp,fun j _=>rfl⟩
 obtain ⟨s2,h1,h2⟩:=hR
 refine ⟨s2,?_,A8K k (fun j hj=>⟨rfl,hsv j hj⟩) h2⟩
 simp only [if_true];exact h1
theorem B5s {R:St→St→Prop} {ty e n b:Nat} {fo:Nat→AV} {base s:St} {zv:AV} {y:R9} (h:ROut R ty e fo n (upd base b y) zv (upd s b y)) (ty' e':Nat) (fo':Nat→AV):∃ s1,N3 ty e fo (upd base b y) n zv s1∧ROut R ty' e' fo' 0 s1 .emp (upd s b y):=by
 obtain ⟨s1,h1,h2⟩:=h
 exact ⟨s1,h1,ROut.start h2 _ _ _⟩
theorem C4z {R:St→St→Prop} (hR:J8 R) {ty e n b ty' e' m:Nat} {fo fo':Nat→AV} {base s1 t:St} {zv rv:AV} {y:R9} (h1:N3 ty e fo (upd base b y) n zv s1) (h2:ROut R ty' e' fo' m s1 rv t) (y':R9) :
  ∃ s1',N3 ty e fo (upd base b y') n zv s1'∧ROut R ty' e' fo' m s1' rv (upd t b y'):=by
 have h3:=N3.write (y':=y') h1 (A0 ..)
 rw [B7] at h3
 exact ⟨_,h3,ROut.write hR h2 (h1.sup b _ (A0 ..))⟩
set_option maxHeartbeats 8000000 in
theorem B9b (x:Tax) (st:St):S P 68 [M8 x] st fun v st'=>v=M8 (M0 x)∧st'=st:=by
 have hE:M8 (M0 x)=.agg [eB x.incl,eB x.byOrder,eI (C7 x.round 3),B1 4 Q6 (M0 x).zones]:=rfl
 refine S.post (post:=fun v s=>∃ zv base,v=.agg [eB x.incl,eB x.byOrder,eI (C7 x.round 3),zv]∧B0 [zv] s [B1 4 Q6 (M0 x).zones] base∧D8 st base) ?_ (fun v s ⟨zv,base,h1,h2,h3⟩=>⟨_,st,⟨hE.symm,rfl⟩,by
  rw [h1]
  exact (B0.agg (B0.cons (B0.keep [eB x.incl] _) (B0.cons (B0.keep [eB x.byOrder] _) (B0.cons (B0.keep [eI (C7 x.round 3)] _) h2)))).trans (h3.shift _)⟩)
 clear hE
 have hRd:=fun s=>A1f x.round 3 (by decide) (by decide) s
 obtain ⟨RD',hRD'⟩:∃ RD',RD'=C7 x.round 3:=⟨_,rfl⟩
 rw [←hRD'] at hRd ⊢
 have hend:=fun base s zv=>ZO.end (t:=x) (base:=base) (s:=s) (zv:=zv)
 have hnext:=fun k base s1 s zv rv sv g=>ZO.next (t:=x) (k:=k) (base:=base) (s1:=s1) (s:=s) (zv:=zv) (rv:=rv) (sv:=sv) (g:=g)
 generalize B1 4 Q6 (M0 x).zones=ZS at hend ⊢
 refine G0 [1] Tryz.func68 ?_
 intro b2 hb2;conv=>whnf
 refine ⟨[8,9],[1,3,5,6],List.range 10,by kernel_rfl,?_⟩;conv=>whnf
 refine ⟨_,fun s _=>⟨rfl,rfl⟩,?_⟩;conv=>whnf
 refine ⟨_,fun s _=>⟨rfl,rfl⟩,?_⟩;conv=>whnf
 refine ⟨_,fun s _=>⟨rfl,rfl⟩,?_⟩;conv=>whnf
 refine ⟨_,fun s _=>N4 (hRd s),?_⟩;conv=>whnf
 intro b3 hb3
 have h23:b2≠b3:=fun e=>by subst e;rw [A0] at hb3;cases hb3
 conv=>whnf
 refine stU (A0 ..) rfl ?_
 rw [B7];conv=>whnf
 refine lp 3 [1,2,3,4] (fun k vs s=>∃ zv f,vs=[.fptr (M8 x) 0,.optr 4 b2 0 0,.optr 4 b3 0 0,eI k]∧f 0=.agg [eB x.incl,eB x.byOrder,eI RD',zv]∧ZO x k (upd (upd st b2 ⟨26,4,1,fun _=>H4 r26.zero⟩) b3 ⟨26,4,1,f⟩) zv s) ?_ ?_
 ·conv=>whnf
  exact ⟨.emp,_,rfl,by first | rfl | (rw [A5];rfl),fun _=>.junk,fun _=>.junk,ROut.start (show A1T _ _ 0 _ _ from D8.refl _) _ _ _,fun j hj=>absurd hj (by omega)⟩
 rintro k vs s hk ⟨zv,f,rfl,hf,sv,g,hR,hg⟩
 have hB:=A1K (fun j=>(F5 x.zones j).rates) sv k
 have hsup:=ROut.sup hB hR
 have at3:s b3=some ⟨26,4,1,f⟩:=hsup b3 _ (A0 ..)
 have at2:s b2=some ⟨26,4,1,fun _=>H4 r26.zero⟩:=hsup b2 _ (by rw [A6 h23];exact A0 ..)
 conv=>whnf
 refine B9 (fun h1=>?_) (fun h1=>?_)<;>rw [h1]<;>simp only [decide_eq_true_eq,decide_eq_false_iff_not] at h1
 case refine_2 =>
  obtain rfl:k=3:=by omega
  have hz:=ROut.head hR
  obtain ⟨y2,hy2⟩:∃ y2:R9,y2=⟨26,4,1,C9 (fun _=>H4 r26.zero) 0 (.agg [eB x.incl,eB x.byOrder,eI RD',zv])⟩:=⟨_,rfl⟩
  obtain ⟨base,k1,k2⟩:=hend _ _ _ ⟨sv,g,ROut.write hB hR (b:=b2) (y':=y2) (by rw [A6 h23];exact A0 ..),hg⟩
  subst hy2
  rcases hz with rfl | ⟨bz,rfl⟩
  all_goals
   conv=>whnf
   refine F2 at3 hf ?_
   refine N1 at2 rfl ?_
   refine F2 (A0 ..) (A5 ..) ?_
   exact ⟨_,base,rfl,k1,((((D8.refl st).upd hb2).upd hb3).over hb2).trans k2⟩
 have hk3:k<3:=by omega
 have hzn:=C2T k hk3
 have w1:IntKind.i64.wrap (1000 * (k:Int))=1000 * k:=A9 (by omega) (by omega)
 have w2:IntKind.i64.wrap (500 * (k:Int))=500 * k:=A9 (by omega) (by omega)
 have hname:∀ j,(F5 x.zones j).name=X1 j:=fun j=>by unfold F5;split<;>rfl
 conv=>whnf
 intro b5 hb5
 have h35:b3≠b5:=fun e=>by subst e;rw [at3] at hb5;cases hb5
 have h25:b2≠b5:=fun e=>by subst e;rw [at2] at hb5;cases hb5
 have hbase5:(upd (upd st b2 ⟨26,4,1,fun _=>H4 r26.zero⟩) b3 ⟨26,4,1,f⟩) b5=none:=hsup.none hb5
 conv=>whnf
 rw [hzn,w1,w2]
 refine stU (A0 ..) rfl ?_
 rw [B7]
 /- the tail: the zone as it then stands is appended -/
 have tail:∀ (s2 s1:St) (rv:AV) (f5:Nat→AV),N3 177 4 g (upd (upd (upd st b2 ⟨26,4,1,fun _=>H4 r26.zero⟩) b3 ⟨26,4,1,f⟩) b5 ⟨177,4,1,f5⟩) k zv s1 →
   ROut (A1T (fun j=>(F5 x.zones j).rates) sv k) 212 2 (A6A (F5 x.zones k).rates) (F5 x.zones k).rates.length s1 rv s2 →
   ∀ (X:AV) (gg:Nat→AV),Z2 4 s2 X=some (1,gg)→gg 0=B1m (F5 x.zones k) rv →
   ∀ (K:KK),(∀ zv' t2,t2 b3=some ⟨26,4,1,f⟩→(zv'=.emp∨∃ b,zv'=.own 4 b 0 (k+1))→(∀ f',ZO x (k+1) (upd (upd st b2 ⟨26,4,1,fun _=>H4 r26.zero⟩) b3 ⟨26,4,1,f'⟩) zv' (upd t2 b3 ⟨26,4,1,f'⟩))→K zv' t2) →
   A5E T 24 zv X s2 K:=by
  intro s2 s1 rv f5 hcol hrt X gg hs hgg K hK
  obtain ⟨sv',g',q1,q2,q3⟩:=hnext _ _ _ _ _ _ _ _ hcol hrt hg
  have hB':=A1K (fun j=>(F5 x.zones j).rates) sv' (k+1)
  refine ROut.app (q:=B9f) (f:=g') hB' rfl rfl rfl rfl hs (by rw [q3 k (Nat.lt_succ_self k),q2,hgg]) (by show (k+1) * 56≤140737488355328;omega) q1 (fun zv' t2 hR2=>?_)
  have hsup2:=ROut.sup hB' hR2
  have hd:∀ f',ROut (A1T (fun j=>(F5 x.zones j).rates) sv' (k+1)) 177 4 g' (k+1) (upd (upd st b2 ⟨26,4,1,fun _=>H4 r26.zero⟩) b3 ⟨26,4,1,f'⟩) zv' (upd t2 b3 ⟨26,4,1,f'⟩):=fun f'=>by
   have h1:=ROut.write hB' hR2 (b:=b3) (y':=⟨26,4,1,f'⟩) (by rw [A6 h35];exact A0 ..)
   rw [Q8 h35.symm,B7] at h1
   refine (D9 hB' _ _ _ _ _).drop h1 ?_
   rw [A6 h35.symm] at hbase5 ⊢;exact hbase5
  exact hK zv' t2 (hsup2 b3 _ (by rw [A6 h35];exact A0 ..)) (ROut.head hR2) fun f'=>⟨sv',g',hd f',q3⟩
 have hbeg:=fun y=>(D9 hB 177 4 g k zv).begin (y:=y) hR hb5
 conv=>whnf
 refine B9 (fun h2=>?_) (fun h2=>?_)<;>rw [h2]<;>simp only [decide_eq_true_eq,decide_eq_false_iff_not] at h2
 case refine_2 =>
  have hz:=B3m (l:=x.zones) (k:=k) (by omega)
  rw [hz] at tail
  rcases ROut.head hR with rfl | ⟨bz,rfl⟩
  all_goals
   conv=>whnf
   refine F2 (by rw [A6 h35];exact at3) hf ?_
   refine F2 (A0 ..) (A5 ..) ?_
   obtain ⟨s1,hcol,hrt⟩:=B5s (hbeg ⟨177,4,1,C9 (fun _=>H4 B9f.zero) 0 (.agg [eS (X1 k),.emp,eI (1000 * k),eI (500 * k)])⟩) 212 2 (A6A [])
   refine tail _ s1 .emp _ hcol hrt _ _ rfl rfl _ (fun zv' t2 q1 q2 q3=>?_)
   rcases q2 with rfl | ⟨bq,rfl⟩
   all_goals
    conv=>whnf
    refine N1 q1 hf ?_
    refine G7 ?_
    exact nx hk3 ⟨_,_,by rw [B8 (by omega)],(by rw [A5];rfl),q3 _⟩
 have hz:=B4N (l:=x.zones) (k:=k) (by omega)
 have hrl:=fun c=>C4m (l:=(x.zones.getD (k:Int).toNat default).rates) (c:=c)
 have hrn:(R8 (x.zones.getD (k:Int).toNat default).rates).length=min 3 (x.zones.getD (k:Int).toNat default).rates.length:=by unfold R8;rw [List.length_map,List.length_range]
 rw [hz] at tail
 have hM1:=fun s=>O2 (x.zones.getD (k:Int).toNat default).rest 3000 (by decide) (by decide) s
 have hM2:=fun s=>O2 (x.zones.getD (k:Int).toNat default).ship 3000 (by decide) (by decide) s
 have tail':_:=tail
 rw [show x.zones.getD k default=x.zones.getD (k:Int).toNat default from rfl] at tail'
 clear tail
 generalize R8 (x.zones.getD (k:Int).toNat default).rates=RL at tail' hrl hrn
 generalize C7 (x.zones.getD (k:Int).toNat default).rest 3000=M1 at tail' hM1
 generalize C7 (x.zones.getD (k:Int).toNat default).ship 3000=M2 at tail' hM2
 conv=>whnf
 refine ⟨[15,17],[],List.range 18,by kernel_rfl,?_⟩;conv=>whnf
 refine E1 ?_
 refine X9 (hM1 _) ?_
 refine E1 ?_
 refine X9 (hM2 _) ?_
 refine stU (A0 ..) (A5 ..) ?_
 rw [B7];conv=>whnf
 refine stU (A0 ..) (A5 ..) ?_
 rw [B7];conv=>whnf
 refine lp (min 3 (x.zones.getD (k:Int).toNat default).rates.length) [1,2,3,4,5,6] (fun c vs s'=>∃ rv f5,vs=[.fptr (M8 x) 0,.optr 4 b2 0 0,.optr 4 b3 0 0,eI k,.optr 4 b5 0 0,eI c]∧f5 0=.agg [eS (X1 k),rv,eI M1,eI M2] ∧
   ∃ s1,N3 177 4 g (upd (upd (upd st b2 ⟨26,4,1,fun _=>H4 r26.zero⟩) b3 ⟨26,4,1,f⟩) b5 ⟨177,4,1,f5⟩) k zv s1∧ROut (A1T (fun j=>(F5 x.zones j).rates) sv k) 212 2 (A6A RL) c s1 rv s') ?_ ?_
 ·conv=>whnf
  exact ⟨.emp,_,rfl,by first | rfl | (rw [A5];rfl),B5s (hbeg _) _ _ _⟩
 rintro c vs s' hc ⟨rv,f5,rfl,hf5,s1,hcol,hrt⟩
 have hsup':=ROut.sup hB hrt
 have at5:s' b5=some ⟨177,4,1,f5⟩:=hsup' b5 _ (hcol.sup b5 _ (A0 ..))
 have at3':s' b3=some ⟨26,4,1,f⟩:=hsup' b3 _ (hcol.sup b3 _ (by rw [A6 h35];exact A0 ..))
 conv=>whnf
 refine B9 (fun h3=>?_) (fun h3=>?_)<;>rw [h3]<;>simp only [decide_eq_true_eq,decide_eq_false_iff_not] at h3
 case' refine_1 =>
  conv=>whnf
  refine E1 ?_
  refine B9 (fun h4=>?_) (fun h4=>?_)<;>rw [h4]<;>simp only [decide_eq_true_eq,decide_eq_false_iff_not] at h4
 case refine_1.refine_1 =>
  have hc':c<min 3 (x.zones.getD (k:Int).toNat default).rates.length:=by omega
  have hra:=hrl c hc'
  rcases ROut.head hrt with rfl | ⟨br,rfl⟩
  all_goals
   conv=>whnf
   refine ⟨[17,19],[14],List.range 20,by kernel_rfl,?_⟩;conv=>whnf
   refine F2 at5 hf5 ?_
   refine X9 (A4e _ _) ?_
   refine E1 ?_
   refine E1 ?_
   refine ⟨_,fun s _=>N4 (O2 _ 3000 (by decide) (by decide) s),?_⟩;conv=>whnf
   refine ⟨_,⟨rfl,rfl⟩,?_⟩;conv=>whnf
   refine ROut.app (q:=C4g) hB rfl rfl rfl rfl rfl (f:=A6A RL) (by show _=Y3 _;rw [hra];rfl) (by show (c+1) * 24≤140737488355328;omega) hrt (fun rv' t2 hrt2=>?_)
   have at5':t2 b5=some ⟨177,4,1,f5⟩:=ROut.sup hB hrt2 b5 _ (hcol.sup b5 _ (A0 ..))
   rcases ROut.head hrt2 with rfl | ⟨br',rfl⟩
   all_goals
    conv=>whnf
    refine N1 at5' hf5 ?_
    refine G7 ?_
    exact nx hc' ⟨_,_,by rw [B8 (by omega)],(by rw [A5];rfl),C4z hB hcol hrt2 _⟩
 all_goals
  have hce:RL.length=c:=by omega
  rw [←hce] at hrt
  rcases ROut.head hR with rfl | ⟨bz,rfl⟩
  all_goals
   rcases ROut.head hrt with rfl | ⟨br,rfl⟩
   all_goals
    conv=>whnf
    refine F2 at3' hf ?_
    refine F2 at5 hf5 ?_
    refine tail' _ s1 _ _ hcol hrt _ _ rfl rfl _ (fun zv' t2 q1 q2 q3=>?_)
    rcases q2 with rfl | ⟨bq,rfl⟩
    all_goals
     conv=>whnf
     refine N1 q1 hf ?_
     refine G7 ?_
     exact nx hk3 ⟨_,_,by rw [B8 (by omega)],(by rw [A5];rfl),q3 _⟩
theorem C1K (st0:St) (q:Nat) (f:Bool) (st:St) (h:QSt st0 q f [] st):S P 279 [.optr 1 q 0 0] st fun v st'=>v=.tuple [eI 0,eI 0,.bool false]∧st'=st:=by
 obtain ⟨h1,h2,sv,⟨fq,hqs,hq0⟩,h3⟩:=h
 refine G0 [] Tryz.func279 ?_
 rcases h3 with ⟨_,rfl⟩ | ⟨b,l,n,a1,a2,rfl,a4,a5,a6,a7,a8,a9⟩
 ·refine F2 hqs hq0 ?_
  exact ⟨rfl,rfl⟩
 ·have e:n=0:=by
   have:=a8.length_eq
   rw [List.length_take,List.length_nil] at this;omega
  subst e
  refine F2 hqs hq0 ?_
  exact ⟨rfl,rfl⟩
theorem B3n (st0:St) (q:Nat) (f:Bool) (x:QE) (es:List QE) (st:St) (h:QSt st0 q f (x::es) st) (htop:∀ y∈es,H1 y x=false):S P 279 [.optr 1 q 0 0] st fun v st'=>v=.tuple [eI x.1,eI x.2,.bool true]∧st'=st:=by
 obtain ⟨h1,h2,sv,hq,h3⟩:=h
 rcases h3 with ⟨h,_⟩ | ⟨b,l,n,a1,a2,rfl,a4,a5,a6,a7,a8,a9⟩
 ·cases h
 have hn:n=es.length+1:=by
  have:=a8.length_eq
  rw [List.length_take,List.length_cons] at this;omega
 subst hn
 have hx:at_ l 0=x:=by
  have m0:at_ l 0∈x::es:=by
   refine a8.subset ?_
   have:(l.take (es.length+1)).getD 0 default=at_ l 0:=by
    unfold at_;rw [List.getD_eq_getElem?_getD,List.getD_eq_getElem?_getD,List.getElem?_take_of_lt (by omega)]
   rw [←this];exact B3 (by rw [List.length_take];omega)
  have hmem:x∈l.take (es.length+1):=a8.symm.subset (List.mem_cons_self ..)
  obtain ⟨k,hk,he⟩:=E3 hmem
  rw [List.length_take] at hk
  have hxk:x=at_ l k:=by
   rw [he];unfold at_;rw [List.getD_eq_getElem?_getD,List.getD_eq_getElem?_getD,List.getElem?_take_of_lt (by omega)]
  have t1:H1 x (at_ l 0)=false:=by rw [hxk];exact a6.top k (by omega)
  rcases List.mem_cons.1 m0 with e | e
  ·exact e
  ·exact A3F (htop _ e) t1
 obtain ⟨fq,hqs,hq0⟩:=hq
 obtain ⟨fe,hes,hef⟩:=a7
 have h0:fe 0=A4X x:=by rw [hef 0 (by omega),hx]
 refine G0 [] Tryz.func279 ?_
 refine F2 hqs hq0 ?_
 rw [show (((es.length+1:Nat):Int)==0)=false by rw [beq_eq_false_iff_ne];omega];conv=>whnf
 refine ⟨[],[],List.range 17,by kernel_rfl,?_⟩;conv=>whnf
 refine F2 hqs hq0 ?_
 refine E1 ?_
 refine ldV hes rfl (by omega) (v:=A4X x) h0 ?_;conv=>whnf
 refine F2 hqs hq0 ?_
 refine E1 ?_
 refine ldV hes rfl (by omega) (v:=A4X x) h0 ?_;conv=>whnf
 exact ⟨rfl,rfl⟩
def IsL (L:List Int) (y:R9):Prop:=∃ f,y=⟨2,1,L.length,f⟩∧∀ i,i<L.length→f i=eI (gI L i)
def OQ (bo q:Nat) (L:List Int) (fl:Bool) (es:List QE):St→St→Prop:=V9 bo (IsL L) (fun s t=>QSt s q fl es t)
theorem A9I (bo q:Nat) (L:List Int) (fl:Bool) (es:List QE):J8 (OQ bo q L fl es):=Z6 (B7l q fl es)
abbrev gN (G:List Nat) (i:Nat):Int:=((G.getD i 0:Nat):Int)
def QJ (G:List Nat) (k:Int) (Rest:List QE) (j:Nat):List QE:=((G.drop j).map fun i:Nat=>(k,(i:Int)))++Rest
theorem C3i {G:List Nat} {k:Int} {Rest:List QE} {j:Nat} (hj:j<G.length):QJ G k Rest j=(k,gN G j)::QJ G k Rest (j+1):=by
 unfold QJ gN
 rw [List.drop_eq_getElem_cons hj,List.getD_eq_getElem?_getD,List.getElem?_eq_getElem hj];rfl
theorem C0d {G:List Nat} {k:Int} {Rest:List QE}:QJ G k Rest G.length=Rest:=by
 unfold QJ;rw [List.drop_length];rfl
def C1E (es:List QE):AV:=match es with
 | []=>.tuple [eI 0,eI 0,.bool false]
 | y::_=>.tuple [eI y.1,eI y.2,.bool true]
theorem C1L (st0:St) (q:Nat) (f:Bool) (es:List QE) (st:St) (h:QSt st0 q f es st) (hs:es.Pairwise fun a b=>H1 b a=false):S P 279 [.optr 1 q 0 0] st fun v st'=>v=C1E es∧st'=st:=by
 cases es with
 | nil=>exact C1K st0 q f st h
 | cons y es=>exact B3n st0 q f y es st h (List.pairwise_cons.1 hs).1
def B1S (t:Tax) (rates nets:List Int) (D:Int→Bool) (L:List Int):Prop:=L.length=nets.length∧∀ i,i<nets.length→gI L i=if D (-(gI rates i))=true then A1i t rates nets i else 0
theorem C0Y {a b:List Int} (hl:a.length=b.length) (h:∀ i,i<a.length→gI a i=gI b i):a=b:=List.ext_getElem hl fun i h1 h2=>by
 have:=h i h1
 unfold gI at this
 rw [List.getD_eq_getElem?_getD,List.getElem?_eq_getElem h1,List.getD_eq_getElem?_getD,List.getElem?_eq_getElem h2] at this
 exact this
theorem C0O {t:Tax} {rates nets:List Int} {D:Int→Bool} {L:List Int} (h:B1S t rates nets D L) (hr:rates.length=nets.length) (hE:A1d rates D=[]):L=F7 t rates nets:=by
 have hl:(F7 t rates nets).length=nets.length:=by unfold F7;rw [List.length_map,List.length_range]
 refine C0Y (by rw [h.1,hl]) fun i h1=>?_
 have hi:i<nets.length:=by rw [←h.1];exact h1
 have h3:=h.2 i hi
 have hD:D (-(gI rates i))=true:=by
  have hm:C0Q rates i∈A8U rates:=(A4t rates).mem_iff.2 (List.mem_map.2 ⟨i,List.mem_range.2 (by omega),rfl⟩)
  have:=List.filter_eq_nil_iff.1 hE _ hm
  simpa [C0Q] using this
 rw [if_pos hD] at h3
 rw [h3]
 unfold F7 gI
 rw [List.getD_eq_getElem?_getD,List.getElem?_map,List.getElem?_range hi];rfl
def A3G (L:List Int) (G:List Nat) (X:List Int):Nat→List Int
 | 0=>L
 | j+1=>(A3G L G X j).set (G.getD j 0) (gI X j)
theorem A7B (L:List Int) (G:List Nat) (X:List Int) (j:Nat):(A3G L G X j).length=L.length:=by
 induction j with
 | zero=>rfl
 | succ j ih=>show ((A3G L G X j).set _ _).length=_;rw [List.length_set,ih]
theorem B7M {L:List Int} {G:List Nat} {X:List Int} (hn:G.Nodup) (hG:∀ i∈G,i<L.length):∀ j,j≤G.length→∀ i,i<L.length→gI (A3G L G X j) i=if i∈G.take j then gI X (G.idxOf i) else gI L i
 | 0,_,i,hi=>by rw [List.take_zero,if_neg List.not_mem_nil];rfl
 | j+1,hj,i,hi=>by
  have ih:=B7M (X:=X) hn hG j (by omega) i hi
  have hgj:G.getD j 0=G[j]:=by rw [List.getD_eq_getElem?_getD,List.getElem?_eq_getElem (by omega)];rfl
  show gI ((A3G L G X j).set (G.getD j 0) (gI X j)) i=_
  rw [hgj,List.take_succ_eq_append_getElem (show j<G.length by omega)]
  by_cases e:G[j]=i
  ·have hidx:G.idxOf i=j:=by rw [←e];exact hn.idxOf_getElem j (by omega)
   rw [if_pos (List.mem_append_right _ (List.mem_singleton.2 e.symm)),hidx]
   unfold gI
   rw [e,List.getD_eq_getElem?_getD,List.getElem?_set_self (by rw [A7B];exact hi)];rfl
  ·have hs:gI ((A3G L G X j).set G[j] (gI X j)) i=gI (A3G L G X j) i:=by
    unfold gI;rw [List.getD_eq_getElem?_getD,List.getElem?_set_ne e,←List.getD_eq_getElem?_getD]
   rw [hs,ih]
   by_cases hm:i∈G.take j
   ·rw [if_pos hm,if_pos (List.mem_append_left _ hm)]
   ·rw [if_neg hm,if_neg]
    intro h
    rcases List.mem_append.1 h with h | h
    ·exact hm h
    ·exact e (List.mem_singleton.1 h).symm
theorem B1T {t:Tax} {rates nets:List Int} {D:Int→Bool} {L:List Int} {k:Int} (h:B1S t rates nets D L) (hr:rates.length=nets.length):B1S t rates nets (fun y=>D y||y==k) (A3G L (K2 rates k) (A1X t rates nets k) (K2 rates k).length):=by
 have hG:∀ i∈K2 rates k,i<L.length:=fun i hi=>by rw [h.1,←hr];exact (Z8 hi).2.1
 refine ⟨by rw [A7B];exact h.1,fun i hi=>?_⟩
 rw [B7M (B1V rates k) hG _ (Nat.le_refl _) i (by rw [h.1];exact hi),List.take_length]
 by_cases hm:i∈K2 rates k
 ·obtain ⟨h1,h2,h3⟩:=Z8 hm
  have hlt:=List.idxOf_lt_length_iff.2 hm
  rw [if_pos hm,C1C hlt,List.getElem_idxOf hlt,if_pos (by rw [h1];simp)]
 ·have hne:¬ -(gI rates i)=k:=fun e=>hm (List.mem_filter.2 ⟨List.mem_range.2 (by omega),by rw [e];exact beq_self_eq_true k⟩)
  rw [if_neg hm,h.2 i hi]
  have:(-(gI rates i)==k)=false:=beq_eq_false_iff_ne.2 hne
  simp only [this,Bool.or_false]
theorem IsL.set {L:List Int} {f:Nat→AV} {i:Nat} {v:Int} (h:∀ k,k<L.length→f k=eI (gI L k)):IsL (L.set i v) ⟨2,1,L.length,C9 f i (eI v)⟩:=by
 refine ⟨_,by rw [List.length_set],fun k hk=>?_⟩
 rw [List.length_set] at hk
 by_cases e:k=i
 ·subst e
  rw [A5];unfold gI
  rw [List.getD_eq_getElem?_getD,List.getElem?_set_self hk];rfl
 ·rw [H3 e,h k hk];unfold gI
  rw [List.getD_eq_getElem?_getD,List.getD_eq_getElem?_getD,List.getElem?_set_ne (fun e2=>e e2.symm)]
theorem B8M {rates:List Int} {D:Int→Bool} {x:QE} {E:List QE} (h:A1d rates D=x::E):∃ i,i<rates.length∧i∈K2 rates x.1∧gI rates i = -x.1:=by
 have hx:x∈A8U rates:=(List.mem_filter.1 (show x∈A1d rates D by rw [h];exact List.mem_cons_self ..)).1
 obtain ⟨i,hi,rfl⟩:=List.mem_map.1 ((A4t rates).mem_iff.1 hx)
 have hi:=List.mem_range.1 hi
 exact ⟨i,hi,List.mem_filter.2 ⟨List.mem_range.2 hi,beq_self_eq_true _⟩,by show gI rates i = - -(gI rates i);omega⟩
theorem C4V {rates:List Int} {k:Int} {j:Nat} (hj:j<(K2 rates k).length):(gN (K2 rates k) j).toNat<rates.length∧0≤gN (K2 rates k) j:=by
 have hm:(K2 rates k).getD j 0∈K2 rates k:=by rw [List.getD_eq_getElem?_getD,List.getElem?_eq_getElem hj];exact List.getElem_mem hj
 have:=(Z8 hm).2.1
 exact ⟨by show ((((K2 rates k).getD j 0:Nat):Int)).toNat<_;omega,by show 0≤(((K2 rates k).getD j 0:Nat):Int);omega⟩
end Go.Proofs.YtbajhapmlfbelaaGreat
