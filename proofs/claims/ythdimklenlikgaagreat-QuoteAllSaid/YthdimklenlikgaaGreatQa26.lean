/- Part 26 of the proof: contracts of the functions that the law reaches -/
import Derived.Test.YthdimklenlikgaaGreatQa25
set_option maxRecDepth 100000
set_option linter.unusedVariables false
set_option linter.unusedSimpArgs false
namespace Go.Proofs.YthdimklenlikgaaGreat
open Go Go.Ab
attribute [local irreducible] upd del
def B1g (p:B4) (us:List B5) (D:List Int) (m i:Nat):Int:=if ((i % m:Nat):Int)≥p.buy then I7 (gU us (gI D i).toNat).net p.rate else 0
def I0 (p:B4) (us:List B5) (D:List Int) (m n:Nat):List Int:=(List.range n).map (B1g p us D m)
theorem B5u {us:List B5} {i:Nat} (h:i<us.length):less1 us i 0=us:=by
 unfold less1
 refine List.ext_getElem (by simp) fun j h1 h2=>?_
 rw [List.getElem_set]
 split
 ·rename_i e;subst e
  have e:gU us i=us[i]:=by unfold gU;rw [List.getD_eq_getElem?_getD,List.getElem?_eq_getElem h];rfl
  rw [e,Int.sub_zero]
 ·rfl
theorem C2B (d:List QE) {k:Nat} (h:k<d.length):gI (d.map (·.2)) k=(at_ d k).2:=E3 (fun e:QE=>e.2) d h
theorem B4t {p:B4} {us:List B5} {d:List QE} {m:Nat} (hP:W0 us (d.map (·.2))) {n:Nat} (hn:n≤d.length) {s:Nat} (hs:s % m=0) (hsm:s+m≤n):∀ k,k≤m →
  A0f p (D4 us (d.map (·.2)) (I0 p us (d.map (·.2)) m n) s) (d.drop s) k=(D4 us (d.map (·.2)) (I0 p us (d.map (·.2)) m n) (s+k),A5 ((I0 p us (d.map (·.2)) m n).take (s+k)) - A5 ((I0 p us (d.map (·.2)) m n).take s))
 | 0,_=>by unfold A0f;rw [Nat.add_zero,Int.sub_self]
 | k+1,hk=>by
  have ih:=B4t (p:=p) hP hn hs hsm k (by omega)
  have hln:(I0 p us (d.map (·.2)) m n).length=n:=by unfold I0;simp
  have hml:(d.map (·.2)).length=d.length:=List.length_map ..
  have hrg:=hP.rng (s+k) (by omega)
  have hat:=A2M (offs:=I0 p us (d.map (·.2)) m n) hP (show s+k<(d.map (·.2)).length by omega)
  have he:gI (I0 p us (d.map (·.2)) m n) (s+k)=if (k:Int)<p.buy then 0 else I7 (gU us (gI (d.map (·.2)) (s+k)).toNat).net p.rate:=by
   unfold I0
   rw [L2 _ (by omega)]
   unfold B1g
   rw [show (s+k) % m=k by rw [Nat.add_mod,hs,Nat.zero_add,Nat.mod_mod,Nat.mod_eq_of_lt (by omega)]]
   split<;>split<;>first | rfl | omega
  have hdr:at_ (d.drop s) k=at_ d (s+k):=by unfold at_;rw [List.getD_eq_getElem?_getD,List.getD_eq_getElem?_getD,List.getElem?_drop]
  have hts:=L3 (l:=I0 p us (d.map (·.2)) m n) (i:=s+k) (by omega)
  rw [←Nat.add_assoc]
  unfold A0f
  rw [ih,hts,he,hdr,←C2B d (by omega)]
  split
  ·rw [Int.add_zero]
   show _=(less1 _ _ _,_)
   rw [he,if_pos (by assumption),B5u (by rw [O4];exact hrg.2)]
  ·show _=(less1 _ _ _,_)
   rw [he,if_neg (by assumption),hat]
   congr 1
   show _ - _+_=_
   omega
theorem B6D {p:B4} {us:List B5} {d:List QE} {m:Nat} (hP:W0 us (d.map (·.2))) {q:Nat} (hn:q * m≤d.length):∀ r,r≤q →
  bgF p us d m r=(D4 us (d.map (·.2)) (I0 p us (d.map (·.2)) m (q * m)) (r * m),A5 ((I0 p us (d.map (·.2)) m (q * m)).take (r * m)))
 | 0,_=>by rw [Nat.zero_mul];rfl
 | r+1,hr=>by
  have ih:=B6D (p:=p) hP hn r (by omega)
  have e:(r+1) * m=r * m+m:=Nat.succ_mul r m
  have h1:r * m+m≤q * m:=by rw [←e];exact Nat.mul_le_mul_right m hr
  have h2:=B4t (p:=p) hP hn (s:=r * m) (Nat.mul_mod_left ..) h1 m (Nat.le_refl _)
  unfold bgF
  rw [ih]
  simp only
  rw [h2,e]
  congr 1
  show _+(_ - _)=_
  omega
theorem B3x {us:List B5} {mine:List Int} (hm:M0 us mine):W0 us ((E2 us mine).map (·.2)):=by
 have hp:((E2 us mine).map (·.2)).Perm mine:=by
  refine ((A2k us mine).map _).trans (List.Perm.of_eq ?_)
  rw [List.map_map]
  exact (List.map_congr_left fun x _=>rfl).trans (List.map_id mine)
 have hnd:mine.Pairwise (·≠·):=by
  rw [List.pairwise_iff_getElem]
  intro i j hi hj hij
  have:=hm.lt i j hij hj
  simp only [gI,List.getD_eq_getElem?_getD,List.getElem?_eq_getElem hi,List.getElem?_eq_getElem hj,Option.getD_some] at this
  omega
 have hr:∀ k,k<((E2 us mine).map (·.2)).length→0≤gI ((E2 us mine).map (·.2)) k∧(gI ((E2 us mine).map (·.2)) k).toNat<us.length:=fun k hk=>A7e (P:=fun x=>0≤x∧x.toNat<us.length) hp (fun x hx=>by obtain ⟨j,hj,rfl⟩:=E8 hx;exact hm.rng j hj) hk
 refine ⟨hr,fun i k hik hk=>?_⟩
 have h1:=(hp.symm.pairwise hnd (fun h=>h.symm))
 have:=B1z h1 hik hk
 have:=hr i (by omega)
 have:=hr k hk
 omega
theorem W0.take {us:List B5} {l:List Int} (h:W0 us l) (n:Nat):W0 us (l.take n):=by
 have e:∀ k,k<(l.take n).length→gI (l.take n) k=gI l k∧k<l.length:=fun k hk=>by
  rw [List.length_take] at hk
  unfold gI
  rw [List.getD_eq_getElem?_getD,List.getD_eq_getElem?_getD,List.getElem?_take_of_lt (by omega)]
  exact ⟨rfl,by omega⟩
 exact ⟨fun k hk=>by rw [(e k hk).1];exact h.rng k (e k hk).2,fun i k hik hk=>by rw [(e k hk).1,(e i (by omega)).1];exact h.ne i k hik (e k hk).2⟩
theorem A7s {us:List B5} {l offs:List Int} {n:Nat}:∀ k,k≤n→D4 us (l.take n) offs k=D4 us l offs k
 | 0,_=>rfl
 | k+1,hk=>by
  unfold D4
  rw [A7s k (by omega)]
  congr 1
  unfold gI;rw [List.getD_eq_getElem?_getD,List.getD_eq_getElem?_getD,List.getElem?_take_of_lt (by omega)]
set_option maxHeartbeats 400000 in
theorem B8v (p:B4) (us:List B5) (mine:List Int) (hps:A2z p) (hright:I9 p=true) (hk:p.kind=3) (hp:A9d p) (hu:E9 us) (hm:M0 us mine) (st:St) :
  S P 170 [C1 p,D0 us,A6 mine] st fun v st'=>v=.tuple [D0 (T0 p us mine).1,eI (T0 p us mine).2]∧st'=st:=by
 have hB:=hp.buy
 have hG:=hp.get
 have hml:=hm.len
 have hul:=hu.len
 have hdl:((E2 us mine).map (·.2)).length=mine.length:=by rw [List.length_map,A1e]
 have hP:=B3x hm
 obtain ⟨m,hm1⟩:∃ m:Nat,(m:Int)=p.buy+p.get:=⟨(p.buy+p.get).toNat,by omega⟩
 have w1:IntKind.i64.wrap (p.buy+p.get)=(m:Int):=by rw [A9 (by omega) (by omega)];omega
 have hq0:mine.length / m * m≤mine.length:=Nat.div_mul_le_self ..
 have hbg:=B6D (p:=p) (m:=m) hP (q:=mine.length / m) (by rw [A1e];exact hq0) _ (Nat.le_refl _)
 have hout:T0 p us mine=(if (decide (A5 (I0 p us ((E2 us mine).map (·.2)) m (mine.length / m * m))>0)&&p.closes)=true then closeB (D4 us ((E2 us mine).map (·.2)) (I0 p us ((E2 us mine).map (·.2)) m (mine.length / m * m)) (mine.length / m * m)) (((E2 us mine).map (·.2)).take (mine.length / m * m)) else D4 us ((E2 us mine).map (·.2)) (I0 p us ((E2 us mine).map (·.2)) m (mine.length / m * m)) (mine.length / m * m),A5 (I0 p us ((E2 us mine).map (·.2)) m (mine.length / m * m))):=by
  have hl:(I0 p us ((E2 us mine).map (·.2)) m (mine.length / m * m)).length=mine.length / m * m:=by unfold I0;simp
  unfold T0
  simp only
  rw [show (p.buy+p.get).toNat=m by omega,A1e,hbg]
  simp only
  rw [show (I0 p us ((E2 us mine).map (·.2)) m (mine.length / m * m)).take (mine.length / m * m)=I0 p us ((E2 us mine).map (·.2)) m (mine.length / m * m) from List.take_of_length_le (by omega),List.map_take]
 refine A8 [3] B8 mixed Tryz.func170 (by rfl) rfl rfl rfl ?_;conv=>whnf
 refine A7 (A3W p hps hright st) ?_;conv=>whnf
 rw [show (p.kind != 3)=false from by rw [hk];rfl];conv=>whnf
 refine A7 (B5N us mine hu hm st) ?_;conv=>whnf
 refine A7 (B7d us mine hu hm st) ?_
 clear hbg
 generalize (E2 us mine).map (·.2)=D at *
 conv=>whnf
 rw [w1,decide_eq_false (show ¬(m:Int)=0 by omega)];conv=>whnf
 have hN:IntKind.i64.wrap ((D.length:Int) - (D.length:Int).tmod (m:Int))=((mine.length / m * m:Nat):Int):=by
  rw [hdl,Int.tmod_eq_emod_of_nonneg (by omega),←Int.natCast_emod]
  have:=Nat.div_add_mod mine.length m
  rw [Nat.mul_comm] at this
  rw [A9 (by omega) (by omega)];omega
 rw [hN]
 generalize hNe:mine.length / m * m=N at *
 refine ⟨rfl,⟨by omega,by omega,by omega⟩,?_⟩;conv=>whnf
 refine lp N [1,3,8,9,10,11] (fun i vs s=>∃ sv,vs=[D0 us,.fptr (C1 p) 0,.arr 1 N (fun i=>eI (D.getD ((0:Int).toNat+i) default)),eI m,sv,eI i]∧F2 2 1 eI (I0 p us D m i) st sv s) ?_ ?_
 ·conv=>whnf
  exact ⟨.emp,rfl,F2.start _ _ _ _⟩
 ·rintro i vs s hi ⟨sv,rfl,hc⟩
  conv=>whnf
  cases hd:decide ((i:Int)<(N:Int))
  ·obtain rfl:=C6 hd hi
   have hln:(I0 p us D m i).length=i:=by unfold I0;simp
   have hb0:∀ k,k<(I0 p us D m i).length→0≤gI (I0 p us D m i) k∧gI (I0 p us D m i) k≤(gU us (gI (D.take i) k).toNat).net:=fun k hk=>by
    have e:gI (D.take i) k=gI D k:=by unfold gI;rw [List.getD_eq_getElem?_getD,List.getD_eq_getElem?_getD,List.getElem?_take_of_lt (by omega)]
    rw [e]
    unfold I0
    rw [L2 _ (by omega)]
    unfold B1g
    have h9:=hu.at0 (gI D k).toNat
    split
    ·exact ⟨(Q7 _ _).1,A3Z h9 hp.rate.1 hp.rate.2⟩
    ·exact ⟨Int.le_refl _,h9⟩
   have h0s:∀ x∈I0 p us D m i,0≤x:=fun x hx=>by obtain ⟨k,hk,rfl⟩:=E8 hx;exact (hb0 k hk).1
   have hsum:A5 (I0 p us D m i)≤1000000000000000:=by
    have h5:=A1A hu (hP.take i) (offs:=I0 p us D m i) (by rw [hln,List.length_take];omega) hb0 (I0 p us D m i).length (Nat.le_refl _)
    rw [List.take_length] at h5
    have:=h5.sum
    have:=hu.sum
    have:=C4 (h5.ok hu).nets0
    omega
   have hE:A1L us (D.take i) (I0 p us D m i) p.closes=T0 p us mine:=by
    rw [hout]
    unfold A1L
    rw [hln,A7s i (Nat.le_refl _)]
    have hn:=C4 h0s
    by_cases hz:A5 (I0 p us D m i)=0
    ·rw [if_pos hz,hz,A1X (A2N h0s hz) i (by omega)];rfl
    ·rw [if_neg hz,decide_eq_true (show A5 (I0 p us D m i)>0 by omega),Bool.true_and]
   rw [←hE];conv=>whnf
   have hsh:B0 [D0 us,.arr 1 i (fun i=>eI (D.getD ((0:Int).toNat+i) default)),sv,eB p.closes] s [D0 us,A6 (D.take i),A6 (I0 p us D m i),eB p.closes] st:=by
    refine B0.cons (t:=s) (B0.keep _ _) (B0.cons (t:=s) ?_ (B0.cons hc.shift (B0.keep _ _)))
    have e:A6 (D.take i)=.arr 1 i (fun k=>eI (gI (D.take i) k)):=by unfold A6 B2;rw [List.length_take,Nat.min_eq_left (by omega)]
    rw [e]
    refine B0.arr fun k hk=>?_
    show eI (D.getD ((0:Int).toNat+k) default)=eI ((D.take i).getD k default)
    rw [show (0:Int).toNat+k=k by simp,List.getD_eq_getElem?_getD,List.getD_eq_getElem?_getD,List.getElem?_take_of_lt hk]
   refine F3 hsh (A7 (B2L us (D.take i) (I0 p us D m i) p.closes hu (hP.take i) (by rw [List.length_take];omega) (by rw [hln,List.length_take];omega) hb0 hsum st) ?_);conv=>whnf
   exact ⟨rfl,rfl⟩
  ·have hi':=E4 hd
   have hr:=hP.rng i (by omega)
   have hrem:(i:Int).tmod (m:Int)=((i % m:Nat):Int):=by rw [Int.tmod_eq_emod_of_nonneg (by omega),Int.natCast_emod]
   have hln:(I0 p us D m i).length=i:=by unfold I0;simp
   have hsn:I0 p us D m (i+1)=I0 p us D m i++[B1g p us D m i]:=by unfold I0;rw [List.range_succ,List.map_append];rfl
   have hbo:B1g p us D m i=if ((i % m:Nat):Int)≥p.buy then I7 (gU us (gI D i).toNat).net p.rate else 0:=rfl
   conv=>whnf
   refine ⟨[],[],List.range 6,by kernel_rfl,?_⟩;conv=>whnf
   rw [decide_eq_false (show ¬(m:Int)=0 by omega)];conv=>whnf
   rw [hrem]
   refine C3 (fun h1=>?_) (fun h1=>?_)<;>rw [h1]
   case' refine_1 =>
    rw [if_pos (of_decide_eq_true h1)] at hbo;conv=>whnf
    refine ⟨[],[],List.range 12,by kernel_rfl,?_⟩;conv=>whnf
    refine ⟨rfl,⟨by omega,by omega⟩,?_⟩;conv=>whnf
    rw [show (0:Int).toNat+(i:Int).toNat=i by simp]
    refine ⟨rfl,⟨by show 0≤gI D i;omega,by show gI D i<(us.length:Int);omega⟩,?_⟩;conv=>whnf
    refine ⟨_,D1 (A7l (gU us (gI D i).toNat).net p.rate _),?_⟩
    rw [←hbo]
   case' refine_2 =>
    rw [if_neg (of_decide_eq_false h1)] at hbo
   all_goals (conv=>whnf)
   all_goals refine F2.app (q:=r2) (y:=B1g p us D m i) rfl rfl rfl rfl rfl (by first | rfl | (rw [hbo];rfl)) (by show (_+1) * 8≤140737488355328;omega) hc (fun sv' s' hc'=>?_)
   all_goals (conv=>whnf)
   all_goals refine ⟨rfl,?_⟩
   all_goals (conv=>whnf)
   all_goals exact nx hi' ⟨sv',by rw [B9 (by omega)],by rw [hsn];exact hc'⟩
theorem B8V (used:List Bool) (l:List QE):∃ pre,l=pre++(N2 used l).2∧∀ e∈pre,used.getD e.2.toNat default=true∨(N2 used l).1=some e.2:=by
 induction l with
 | nil=>exact ⟨[],rfl,fun e h=>by cases h⟩
 | cons e l ih =>
  by_cases hu:used.getD e.2.toNat default=true
  ·have ht:N2 used (e::l)=N2 used l:=by
    show (if used.getD e.2.toNat default=true then N2 used l else (some e.2,l))=_
    rw [if_pos hu]
   obtain ⟨pre,h1,h2⟩:=ih
   rw [ht]
   exact ⟨e::pre,by rw [List.cons_append,←h1],fun x hx=>by
    rcases List.mem_cons.1 hx with rfl | hx
    ·exact .inl hu
    ·exact h2 x hx⟩
  ·have ht:N2 used (e::l)=(some e.2,l):=by
    show (if used.getD e.2.toNat default=true then N2 used l else (some e.2,l))=_
    rw [if_neg hu]
   rw [ht]
   exact ⟨[e],rfl,fun x hx=>by rw [List.mem_singleton] at hx;subst hx;exact .inr rfl⟩
theorem B6m {used:List Bool} {pre:List QE} (h:∀ e∈pre,used.getD e.2.toNat default=true) (l:List QE):N2 used (pre++l)=N2 used l:=by
 induction pre with
 | nil=>rfl
 | cons e pre ih =>
  show (if used.getD e.2.toNat default=true then N2 used (pre++l) else (some e.2,pre++l))=_
  rw [if_pos (h e (List.mem_cons_self ..))]
  exact ih fun x hx=>h x (List.mem_cons_of_mem _ hx)
def A3c (E:Nat→List QE) (n:Nat) (s:MSt):Prop:=∀ k,k<n→∃ pre,E k=pre++s.es k∧∀ e∈pre,s.used.getD e.2.toNat default=true
theorem A5b {used:List Bool} {i:Nat} (hi:i<used.length) (j:Nat):(used.set i true).getD j default=if j=i then true else used.getD j default:=by
 simp only [List.getD_eq_getElem?_getD,List.getElem?_set]
 by_cases h:j=i
 ·subst h;simp [hi]
 ·rw [if_neg (fun e=>h e.symm),if_neg h]
theorem A3c.take {E:Nat→List QE} {us:List B5} {n:Nat} {s s':MSt} (h:A3c E n s) (hok:MOk us n s) {k:Nat} (hk:k<n) (ht:A0g k s=some s'):A3c E n s':=by
 obtain ⟨pre0,p1,p2⟩:=B8V s.used (s.es k)
 obtain ⟨_,t2,_,_⟩:=A2v s.used (s.es k)
 unfold A0g at ht
 split at ht
 ·cases ht
 ·rename_i i hi
  cases ht
  obtain ⟨e0,he0,rfl,_⟩:=t2 i hi
  have hlt:e0.2.toNat<s.used.length:=by rw [hok.len];exact (hok.rng k hk e0 he0).2
  intro j hj
  obtain ⟨pre,h1,h2⟩:=h j hj
  have hmono:∀ e:QE,s.used.getD e.2.toNat default=true→(s.used.set e0.2.toNat true).getD e.2.toNat default=true:=fun e he=>by
   rw [A5b hlt];split
   ·rfl
   ·exact he
  by_cases ej:j=k
  ·subst ej
   refine ⟨pre++pre0,?_,fun e he=>?_⟩
   ·show E j=_++X0 s.es j _ j
    rw [H1,List.append_assoc,←p1];exact h1
   ·rcases List.mem_append.1 he with he | he
    ·exact hmono e (h2 e he)
    ·rcases p2 e he with he | he
     ·exact hmono e he
     ·rw [hi] at he
      have he:=Option.some.inj he
      show (s.used.set _ true).getD _ default=true
      rw [A5b hlt,if_pos (by rw [he])]
  ·refine ⟨pre,?_,fun e he=>hmono e (h2 e he)⟩
   show E j=_++X0 s.es k _ j
   rw [L6 ej];exact h1
theorem A3c.takes {E:Nat→List QE} {us:List B5} {n:Nat} {s:MSt} (h:A3c E n s) (hok:MOk us n s) {k:Nat} (hk:k<n):∀ {c:Nat} {s':MSt},Q2 k c s=some s'→A3c E n s'
 | 0,s',e=>by cases e;exact h
 | c+1,s',e=>by
  unfold Q2 at e
  obtain ⟨s1,h1,h2⟩:=Option.bind_eq_some_iff.1 e
  exact (A3c.takes h hok hk h1).take (hok.takes hk h1) hk h2
theorem A3c.parts {E:Nat→List QE} {us:List B5} {p:B4} {s:MSt} (h:A3c E p.parts.length s) (hok:MOk us p.parts.length s):∀ {k:Nat} {s':MSt},k≤p.parts.length→K4 p.parts k s=some s'→A3c E p.parts.length s'
 | 0,s',_,e=>by cases e;exact h
 | k+1,s',hk,e=>by
  unfold K4 at e
  obtain ⟨s1,h1,h2⟩:=Option.bind_eq_some_iff.1 e
  exact (A3c.parts h hok (by omega) h1).takes (MOk.parts hok (by omega) h1) (by omega) h2
def A7Q (p:B4) (ms:MSt):List Int:=match K4 p.parts p.parts.length ms with | none=>[] | some s=>C7 s.l
theorem C5c (p:B4) (hp:A3a p) (us:List B5) (hul:us.length≤100000) (E:Nat→List QE) (L:List (List Int)) (hL:L.length=p.parts.length) (hLE:∀ k,k<p.parts.length→L.getD k default=(E k).map (·.2)) (hE:∀ k,k<p.parts.length→(E k).length≤100000∧∀ e∈E k,0≤e.2∧e.2.toNat<us.length)
  (ms:MSt) (hl0:ms.l=[]) (hm:MOk us p.parts.length ms) (hpre:A3c E p.parts.length ms) (bu:Nat) (gu:Nat→AV) (st:St) (bl:Nat) (gl:Nat→AV) (hbl:st bl=some ⟨29,1,L.length,gl⟩) (hgl:∀ k,k<L.length→gl k=A6 (L.getD k default)) (hbu:st bu=some ⟨4,1,us.length,gu⟩) (hgu:∀ k,k<us.length→gu k=eB (ms.used.getD k default)) :
  S P 256 [C1 p,D0 us,.own 1 bl 0 L.length,.own 1 bu 0 us.length] st fun v st'=>v=A6 (A7Q p ms)∧st'=st:=by
 refine S.post (post:=fun v st'=>((v=.emp∧A7Q p ms=[])∨v=A6 (A7Q p ms))∧D7 st st') ?_
  (fun v st' ⟨h,hs⟩=>⟨_,st,⟨rfl,rfl⟩,by
   rcases h with ⟨rfl,h⟩ | rfl
   ·rw [h];exact (hs.shift _).trans (L9 1 _)
   ·exact hs.shift _⟩)
 have hn8:=hp.n8
 refine A8 [4] B8 mixed Tryz.func256 (by rfl) rfl rfl rfl ?_
 have main:∀ (tv:AV) (s0:St) ,M8 4 1 (fun k=>eB (ms.used.getD k default)) st us.length tv s0→True:=fun _ _ _=>trivial
 conv=>whnf
 refine M8.apps (q:=r4) (f:=fun k=>eB (ms.used.getD k default)) rfl rfl rfl rfl (C5n hbu rfl (by show 0+us.length≤us.length;omega)) (fun i hi=>by show gu (0+i)=eB (ms.used.getD (0+i) default);rw [Nat.zero_add];exact hgu i hi) (by show (0+us.length) * 1≤_;omega) (M8.start _ _ _ st) (fun tv s0 hc0=>?_)
 rw [Nat.zero_add] at hc0
 clear main
 conv=>whnf
 refine lp p.parts.length [2,4,9,10,11] (fun i vs s=>∃ sv tv s0 si,vs=[.own 1 bl 0 L.length,.fptr (C1 p) 0,sv,tv,eI i]∧K4 p.parts i ms=some si∧M8 4 1 (fun k=>eB (si.used.getD k default)) st us.length tv s0∧F2 3 1 eI si.l s0 sv s) ?_ ?_
 ·conv=>whnf
  exact ⟨.emp,tv,s0,ms,rfl,rfl,hc0,by rw [hl0];exact F2.start _ _ _ _⟩
 ·clear hc0
  rintro i vs s hi ⟨sv,tv,s0,si,rfl,hsi,hc0,hc1⟩
  have hmi:=MOk.parts hm hi hsi
  have hpi:=hpre.parts hm hi hsi
  have hleni:=A1j hp hi hsi
  rw [hl0,List.length_nil] at hleni;conv=>whnf
  cases hd:decide ((i:Int)<(p.parts.length:Int))
  ·obtain rfl:=C6 hd hi
   have hone:A7Q p ms=C7 si.l:=by unfold A7Q;rw [hsi]
   conv=>whnf
   refine F3 hc1.shift (A7 (B8F si.l (by omega) _) ?_);conv=>whnf
   exact ⟨.inr (by rw [hone];rfl),hc0.sup⟩
  ·have hi':=E4 hd
   have hLi:L.getD (i:Int).toNat default=(E i).map (·.2):=by rw [Int.toNat_natCast];exact hLE i hi'
   obtain ⟨hEl,hEr⟩:=hE i hi'
   have hct:=hp.at hi'
   obtain ⟨pre,hpr1,hpr2⟩:=hpi i hi'
   have hcn:(p.parts.getD (i:Int).toNat default).count=(((p.parts.getD i default).count.toNat:Nat):Int):=by rw [Int.toNat_natCast];omega
   have hfin:K4 p.parts (i+1) ms=Q2 i (p.parts.getD i default).count.toNat si:=by
    conv=>lhs;unfold K4
    rw [hsi];rfl
   have hnone:∀ n,n≤(p.parts.getD i default).count.toNat→Q2 i n si=none→A7Q p ms=[]:=fun n hn hnn=>by
    have h1:=A5g hnn hn
    rw [←hfin] at h1
    unfold A7Q;rw [A4R h1 hi']
   have hC100:(p.parts.getD i default).count.toNat≤100:=by omega
   generalize (p.parts.getD i default).count.toNat=C at *
   conv=>whnf
   refine lp (E i).length [2,4,9,10,11,12,13] (fun k vs s=>∃ (sv tv:AV) (s0:St) (n:Nat) (si2:MSt),vs=[.own 1 bl 0 L.length,.fptr (C1 p) 0,sv,tv,eI i,eI n,eI k]∧n≤C∧Q2 i n si=some si2∧N2 si2.used (si2.es i)=N2 si2.used ((E i).drop k)∧M8 4 1 (fun k=>eB (si2.used.getD k default)) st us.length tv s0∧F2 3 1 eI si2.l s0 sv s) ?_ ?_
   ·conv=>whnf
    exact ⟨sv,tv,s0,0,si,rfl,Nat.zero_le _,rfl,by rw [List.drop_zero,hpr1,B6m hpr2],hc0,hc1⟩
   ·clear hc0 hc1
    rintro k vs s hk ⟨sv,tv,s0,n,si2,rfl,hn,hs2,htk,hc0,hc1⟩
    have hm2:=hmi.takes hi' hs2
    have hlen2:=A1o hs2
    have hlv:=hc1.sup bl _ (hc0.sup bl _ hbl)
    have hgi:gl (0+(i:Int).toNat)=A6 (L.getD (i:Int).toNat default):=by rw [Nat.zero_add];exact hgl _ (by omega)
    conv=>whnf
    refine ⟨rfl,⟨by omega,by omega⟩,?_⟩;conv=>whnf
    refine D9 hlv rfl (by omega) hgi ?_;conv=>whnf
    rw [hLi]
    have hml:((E i).map (·.2)).length=(E i).length:=List.length_map ..
    generalize hMe:(E i).map (·.2)=Mi at *
    rw [hml]
    cases hd1:decide ((k:Int)<((E i).length:Int))
    case' false =>
     have hbad:n<C→A7Q p ms=[]:=fun hlt=>by
      obtain rfl:=C6 hd1 hk
      refine hnone (n+1) hlt ?_
      unfold Q2
      rw [hs2]
      show A0g i si2=none
      unfold A0g
      rw [htk,List.drop_length];rfl
     conv=>whnf
    case' true =>
     have hk':=E4 hd1
     conv=>whnf
     refine ⟨rfl,⟨by omega,by omega⟩,?_⟩;conv=>whnf
     rw [hcn]
     cases hd2:decide ((n:Int)<(C:Int))
     case' false =>
      have hbad:n<C→A7Q p ms=[]:=fun hlt=>absurd hd2 (by rw [decide_eq_true (by omega)];simp)
      conv=>whnf
     case' true =>
      have hnC:=E4 hd2
      have hMk:Mi.getD (k:Int).toNat default=(at_ (E i) k).2:=by rw [←hMe,Int.toNat_natCast];exact E3 (fun e:QE=>e.2) _ hk'
      have hu:0≤(at_ (E i) k).2∧(at_ (E i) k).2.toNat<us.length:=hEr _ (B3 hk')
      have hdrop:(E i).drop k=at_ (E i) k::(E i).drop (k+1):=by
       rw [List.drop_eq_getElem_cons hk'];simp [at_,hk']
      have hul2:us.length=si2.used.length:=hm2.len.symm
      rcases hc0 with ⟨h0,rfl,rfl⟩ | ⟨h0,bt,g,hbt,rfl,rfl,hg⟩
      ·omega
      have hbs:=hc1.sup bt _ (A0 ..)
      conv=>whnf
      refine ⟨rfl,⟨by omega,by omega⟩,?_⟩;conv=>whnf
      refine D9 hlv rfl (by omega) hgi ?_;conv=>whnf
      rw [hLi]
      refine ⟨rfl,⟨by omega,by omega⟩,?_⟩;conv=>whnf
      rw [←hMk] at hu
      refine ⟨rfl,⟨by omega,by omega⟩,?_⟩;conv=>whnf
      refine D9 hbs rfl (by omega) (v:=eB (si2.used.getD (Mi.getD (k:Int).toNat default).toNat default)) (by rw [Nat.zero_add];exact hg _ hu.2) ?_;conv=>whnf
      refine C3 (fun h5=>?_) (fun h5=>?_)<;>rw [h5]
      ·have hfr:si2.used.getD (Mi.getD (k:Int).toNat default).toNat default=false:=by simpa using h5
       have htk2:N2 si2.used (si2.es i)=(some (Mi.getD (k:Int).toNat default),(E i).drop (k+1)):=by
        rw [htk,hdrop,hMk]
        show (if si2.used.getD (at_ (E i) k).2.toNat default=true then _ else _)=_
        rw [if_neg (by rw [←hMk,hfr];simp)]
       have hs3:Q2 i (n+1) si=some ⟨si2.used.set (Mi.getD (k:Int).toNat default).toNat true,X0 si2.es i ((E i).drop (k+1)),si2.l++[(Mi.getD (k:Int).toNat default)]⟩:=by
        unfold Q2
        rw [hs2]
        show A0g i si2=_
        unfold A0g
        rw [htk2]
       conv=>whnf
       refine ⟨rfl,⟨by omega,by omega⟩,?_⟩;conv=>whnf
       refine G6 hbs rfl (by omega) (v:=eB (si2.used.getD (Mi.getD (k:Int).toNat default).toNat default)) (by rw [Nat.zero_add];exact hg _ hu.2) (by rfl) ?_
       have hc2:=M8.write hc1 (y':=⟨4,1,us.length,C9 g (0+(Mi.getD (k:Int).toNat default).toNat) (eB true)⟩) (A0 ..)
       rw [B7] at hc2;conv=>whnf
       refine F2.app (q:=r3) (y:=(Mi.getD (k:Int).toNat default)) (L:=si2.l) rfl rfl rfl rfl rfl rfl (by show (_+1) * 8≤140737488355328;omega) hc2 (fun sv' s' hc'=>?_);conv=>whnf
       refine ⟨rfl,?_⟩;conv=>whnf
       refine nx hk' ⟨sv',.own 1 bt 0 us.length,_,n+1,_,by rw [B9 (by omega),B9 (by omega)],hnC,hs3,?_,.inr ⟨h0,bt,_,hbt,rfl,rfl,fun j hj=>?_⟩,hc'⟩
       ·show N2 _ (X0 si2.es i _ i)=_
        rw [H1]
       ·show C9 g (0+(Mi.getD (k:Int).toNat default).toNat) (eB true) j=eB ((si2.used.set (Mi.getD (k:Int).toNat default).toNat true).getD j default)
        rw [Nat.zero_add,A5b (by omega)]
        by_cases ej:j=(Mi.getD (k:Int).toNat default).toNat
        ·rw [if_pos ej,ej,A2]
        ·rw [if_neg ej,H7 ej];exact hg j hj
      ·have hfr:si2.used.getD (Mi.getD (k:Int).toNat default).toNat default=true:=by simpa using h5
       conv=>whnf
       refine ⟨rfl,?_⟩;conv=>whnf
       refine nx hk' ⟨sv,.own 1 bt 0 us.length,_,n,si2,by rw [B9 (by omega)],hn,hs2,?_,.inr ⟨h0,bt,g,hbt,rfl,rfl,hg⟩,hc1⟩
       rw [htk,hdrop]
       show (if si2.used.getD (at_ (E i) k).2.toNat default=true then N2 si2.used ((E i).drop (k+1)) else _)=_
       rw [if_pos (by rw [←hMk];exact hfr)]
    all_goals
     refine ⟨rfl,⟨by omega,by omega⟩,?_⟩;conv=>whnf
     rw [hcn]
     cases hd3:decide ((n:Int)<(C:Int))
     ·obtain rfl:n=C:=by have:=of_decide_eq_false hd3;omega
      conv=>whnf
      refine ⟨rfl,?_⟩;conv=>whnf
      exact nx hi' ⟨sv,tv,s0,si2,by rw [B9 (by omega)],by rw [hfin];exact hs2,hc0,hc1⟩
     ·have hb:=hbad (E4 hd3)
      conv=>whnf
      exact ⟨.inl ⟨rfl,hb⟩,hc0.sup.trans hc1.sup⟩
abbrev RL (ls:List Int) (svl:AV):St→St→Prop:=fun s t=>ROut D7 2 1 (fun k=>eI (gI ls k)) ls.length s svl t
abbrev RA (all ls:List Int) (sva svl:AV):St→St→Prop:=fun s t=>ROut (RL ls svl) 3 1 (fun k=>eI (gI all k)) all.length s sva t
theorem B1Z (ls:List Int) (svl:AV):J5 (RL ls svl):=D8 B1 _ _ _ _ _
theorem B6A (all ls:List Int) (sva svl:AV):J5 (RA all ls sva svl):=D8 (B1Z ls svl) _ _ _ _ _
theorem RA.appA {all ls:List Int} {sva svl:AV} {s t:St} {y:Int} {x:AV} {k:KK} {g:Nat→AV} (h:RA all ls sva svl s t) (hs:X9 1 t x=some (1,g)) (hg:g 0=eI y) (hb:(all.length+1) * 8≤140737488355328)
  (hk:∀ sva' t',RA (all++[y]) ls sva' svl s t'→k sva' t'):A5j T 29 sva x t k :=
 ROut.app (q:=r3) (f:=fun k=>eI (gI (all++[y]) k)) (B1Z ls svl) rfl rfl rfl rfl hs (by rw [hg];show eI y=eI (gI _ _);rw [A6S]) hb (ROut.congr h fun k hk=>by show eI _=eI _;rw [L8 hk]) (fun sv' t' h'=>hk sv' t' (by
  show ROut _ _ _ _ (all++[y]).length _ _ _
  rw [List.length_append];exact h'))
theorem RA.appL {all ls:List Int} {sva svl:AV} {s t:St} {y:Int} {x:AV} {k:KK} {g:Nat→AV} (h:RA all ls sva svl s t) (hs:X9 1 t x=some (1,g)) (hg:g 0=eI y) (hb:(ls.length+1) * 8≤140737488355328)
  (hk:∀ svl' t',RA all (ls++[y]) sva svl' s t'→k svl' t'):A5j T 41 svl x t k:=by
 obtain ⟨s0,hc,h⟩:=h
 refine ROut.app (q:=r2) (f:=fun k=>eI (gI (ls++[y]) k)) B1 rfl rfl rfl rfl hs (by rw [hg];show eI y=eI (gI _ _);rw [A6S]) hb (ROut.congr h fun k hk=>by show eI _=eI _;rw [L8 hk]) (fun sv' t' h'=>hk sv' t' ⟨s0,hc,?_⟩)
 show ROut _ _ _ _ (ls++[y]).length _ _ _
 rw [List.length_append];exact h'
theorem RA.start (s:St):RA [] [] .emp .emp s s:=ROut.start (ROut.start (D7.refl s) _ _ _) _ _ _
theorem RA.shift {all ls:List Int} {sva svl:AV} {s t:St} (h:RA all ls sva svl s t) (a b:AV):∃ t2,B0 [a,sva,svl,b] t [a,A6 all,A6 ls,b] t2∧D7 s t2:=by
 obtain ⟨t1,h1,h2⟩:=ROut.shift (B1Z ls svl) h
 obtain ⟨t2,h3,h4⟩:=ROut.shift B1 h2
 exact ⟨t2,B0.cons (B0.keep _ _) (B0.cons h1 (B0.cons h3 (B0.keep _ _))),h4⟩
def A2V (u:List Bool) (l:List Int):List Bool:=l.foldl (fun u x=>u.set x.toNat true) u
theorem B5Y (u:List Bool) (l:List Int):(A2V u l).length=u.length:=by
 unfold A2V
 induction l generalizing u with
 | nil=>rfl
 | cons x l ih=>rw [List.foldl_cons,ih,List.length_set]
theorem B5X {u:List Bool} {l:List Int} (hl:∀ x∈l,x.toNat<u.length) (j:Nat):(A2V u l).getD j default=true↔u.getD j default=true∨j∈l.map Int.toNat:=by
 unfold A2V
 induction l generalizing u with
 | nil=>simp
 | cons x l ih =>
  rw [List.foldl_cons,ih (fun y hy=>by rw [List.length_set];exact hl y (List.mem_cons_of_mem _ hy)),A5b (hl x (List.mem_cons_self ..)),List.map_cons,List.mem_cons]
  by_cases h:j=x.toNat
  ·simp [h]
  ·rw [if_neg h];simp [h]
theorem A8w {us:List B5} {l offs l' offs':List Int} (h:l.length=offs.length):∀ k,k≤offs'.length→k≤l'.length→D4 us (l++l') (offs++offs') (offs.length+k)=D4 (D4 us l offs offs.length) l' offs' k
 | 0,_,_=>by
  rw [Nat.add_zero]
  have:∀ n,n≤offs.length→D4 us (l++l') (offs++offs') n=D4 us l offs n:=fun n=>by
   induction n with
   | zero=>intro _;rfl
   | succ n ih =>
    intro hn
    unfold D4
    rw [ih (by omega),L8 (by omega),L8 (by omega)]
  exact this _ (Nat.le_refl _)
 | k+1,h1,h2=>by
  have ih:=A8w (us:=us) (l':=l') (offs':=offs') h k (by omega) (by omega)
  have e:∀ (a b:List Int),a.length=offs.length→gI (a++b) (offs.length+k)=gI b k:=fun a b ha=>by
   unfold gI
   rw [List.getD_eq_getElem?_getD,List.getD_eq_getElem?_getD,List.getElem?_append_right (by omega),ha,Nat.add_sub_cancel_left]
  rw [←Nat.add_assoc]
  unfold D4
  rw [ih,e l l' h,e offs offs' rfl]
structure C2c (p:B4) (us:List B5) (E:Nat→List QE) (D:Nat) (b:BSt) (ls:List Int):Prop where
 ok:BOk p us D b
 pre:A3c E p.parts.length ⟨b.ms.used,b.ms.es,[]⟩
 len:ls.length=b.taken.length
 out:b.out=D4 us b.taken ls ls.length
 sum:A5 ls=b.all
 pos:b.taken=[]∨0<b.all
 bnd:∀ k,k<ls.length→0≤gI ls k∧gI ls k≤(gU us (gI b.taken k).toNat).net
 nd:(b.taken.map Int.toNat).Nodup
 used:∀ x∈b.taken,b.ms.used.getD x.toNat default=true
theorem C2c.step {p:B4} (hp:A3a p) {us:List B5} (hu:E9 us) {E:Nat→List QE} {D:Nat} {b:BSt} {ls:List Int} (h:C2c p us E D b ls) {s:MSt} (hs:K4 p.parts p.parts.length ⟨b.ms.used,b.ms.es,[]⟩=some s) (hc:H4 us s.l>p.amount) :
  F0 us (C7 s.l)=I3 b.out (C7 s.l)∧C2c p us E D ⟨A2n b.out (C7 s.l) (H4 us s.l - p.amount),s,b.taken++C7 s.l,b.all+(H4 us s.l - p.amount)⟩ (ls++D5 (H4 us s.l - p.amount) (F0 us (C7 s.l))):=by
 obtain ⟨k1,k2,k3⟩:=h.ok.step hp hu hs hc
 have hok0:MOk us p.parts.length ⟨b.ms.used,b.ms.es,[]⟩:=⟨h.ok.ok.len,h.ok.ok.rng,h.ok.ok.srt,fun x hx=>by simp at hx⟩
 have hok:=MOk.parts hok0 (Nat.le_refl _) hs
 have htr:=U5.parts (U5.start b.ms.used b.ms.es) hok0 (Nat.le_refl _) hs
 have hpre:=h.pre.parts hok0 (Nat.le_refl _) hs
 have hN:F0 us (C7 s.l)=I3 b.out (C7 s.l):=by
  unfold F0 I3
  exact List.map_congr_left fun x hx=>by rw [h.ok.same _ (htr.free x (R6.1 hx))]
 have hW:=k1.weights
 rw [←hN] at hW
 obtain ⟨a1,a2,a3⟩:=Q4 hW
 have hle:=fun {k} (hk:k<(F0 us (C7 s.l)).length)=>A2l hW (by have:=k1.le;rw [←hN] at this;exact this) hk
 have hnl:=A3T us (C7 s.l)
 have hlf:A2n b.out (C7 s.l) (H4 us s.l - p.amount)=D4 b.out (C7 s.l) (D5 (H4 us s.l - p.amount) (F0 us (C7 s.l))) (D5 (H4 us s.l - p.amount) (F0 us (C7 s.l))).length:=by
  unfold A2n;rw [←hN,a2,hnl]
 have hlen:=h.len
 generalize D5 (H4 us s.l - p.amount) (F0 us (C7 s.l))=X at *
 refine ⟨hN,⟨k2,hpre,?_,?_,?_,?_,?_,?_,?_⟩⟩
 ·show (ls++X).length=(b.taken++C7 s.l).length
  rw [List.length_append,List.length_append];omega
 ·show A2n _ _ _=D4 us (b.taken++C7 s.l) (ls++X) (ls++X).length
  rw [hlf,h.out,List.length_append,A8w h.len.symm X.length (Nat.le_refl _) (by omega)]
 ·show A5 (ls++X)=_
  rw [G1,h.sum,a1]
 ·refine .inr ?_
  show 0<b.all+(H4 us s.l - p.amount)
  have:=h.ok.off.pos
  omega
 ·intro k hk
  show 0≤gI (ls++X) k∧gI (ls++X) k≤(gU us (gI (b.taken++C7 s.l) k).toNat).net
  by_cases hkl:k<ls.length
  ·rw [L8 hkl,L8 (by omega)];exact h.bnd k hkl
  ·have e:∀ (a b:List Int),a.length=ls.length→gI (a++b) k=gI b (k - ls.length):=fun a b ha=>by
    unfold gI
    rw [List.getD_eq_getElem?_getD,List.getD_eq_getElem?_getD,List.getElem?_append_right (by omega),ha]
   rw [List.length_append] at hk
   rw [e ls X rfl,e b.taken _ hlen.symm]
   refine ⟨a3 _ (B3 (by omega)),?_⟩
   have h9:=hle (k:=k - ls.length) (by omega)
   rw [show gI (F0 us (C7 s.l)) (k - ls.length)=(gU us (gI (C7 s.l) (k - ls.length)).toNat).net from E3 (fun i:Int=>(gU us i.toNat).net) _ (by omega)] at h9
   exact h9
 ·show ((b.taken++C7 s.l).map Int.toNat).Nodup
  rw [List.map_append]
  refine List.nodup_append.2 ⟨h.nd,((A0s s.l).map Int.toNat).nodup_iff.2 htr.nd,fun x hx y hy e=>?_⟩
  subst e
  obtain ⟨u,hu1,rfl⟩:=List.mem_map.1 hx
  obtain ⟨w,hw1,hw2⟩:=List.mem_map.1 hy
  have f1:=h.used u hu1
  have f2:=htr.free w (R6.1 hw1)
  rw [hw2,f1] at f2;cases f2
 ·intro x hx
  show s.used.getD x.toNat default=true
  rw [htr.used]
  rcases List.mem_append.1 hx with hx | hx
  ·exact .inl (h.used x hx)
  ·exact .inr (List.mem_map_of_mem (R6.1 hx))
set_option maxHeartbeats 1000000 in
theorem B8u (p:B4) (us:List B5) (parts:List (List Int)) (hps:A2z p) (hright:I9 p=true) (hk:p.kind=4) (hp:A3a p) (hu:E9 us) (hl:parts.length=p.parts.length) (hm:∀ x∈parts,M0 us x) (st:St) :
  S P 172 [C1 p,D0 us,B2 1 A6 parts] st fun v st'=>v=.tuple [D0 (P4 p us parts).1,eI (P4 p us parts).2]∧st'=st:=by
 have hul:=hu.len
 have hn1:=hp.n1
 have hn8:=hp.n8
 have ha:=hp.amt
 have hme:∀ k,k<parts.length→M0 us (parts.getD k default):=fun k hk=>hm _ (B3 hk)
 have hst0:=A4C hu hl (fun k hk=>hme k hk)
 have hD:tot p.parts.length (F9 us parts).ms.es≤800000:=by
  have:=C1D (n:=p.parts.length) (B:=100000) (es:=(F9 us parts).ms.es) (fun i hi=>by
   show (E2 us (parts.getD i [])).length≤100000
   rw [A1e]
   exact Nat.le_trans (hme i (by omega)).len hul)
  have h8:p.parts.length * 100000≤8 * 100000:=Nat.mul_le_mul_right _ hn8
  omega
 refine A1u ?_
 refine A8 [3] B8 mixed Tryz.func172 (by rfl) rfl rfl rfl ?_;conv=>whnf
 refine M8.apps (q:=B8s) (f:=fun k=>U9 (gU us k)) rfl rfl rfl rfl (A6s _ _ _ _) (fun i hi=>by rw [Nat.zero_add]) (by show (0+us.length) * 24≤_;omega) (M8.start _ _ _ st) (fun svS st1 hcS=>?_)
 have hsupS:=hcS.sup
 clear hcS
 conv=>whnf
 refine A7 (A3W p hps hright _) ?_;conv=>whnf
 rw [show (p.kind != 4)=false from by rw [hk];rfl];conv=>whnf
 rw [show ((parts.length:Int) != (p.parts.length:Int))=false from by rw [hl];simp];conv=>whnf
 refine lp parts.length [1,2,3,8,9,10] (fun i vs s=>∃ sv,vs=[D0 us,B2 1 A6 parts,.fptr (C1 p) 0,svS,sv,eI i]∧F2 29 1 A6 ((parts.take i).map fun m=>(E2 us m).map (·.2)) st1 sv s) ?_ ?_
 ·conv=>whnf
  exact ⟨.emp,rfl,F2.start _ _ _ _⟩
 ·rintro i vs s hi ⟨sv,rfl,hc⟩
  conv=>whnf
  cases hd:decide ((i:Int)<(parts.length:Int))
  case true =>
   have hi':=E4 hd
   have hmi:M0 us (parts.getD (i:Int).toNat default):=by rw [Int.toNat_natCast];exact hme i hi'
   conv=>whnf
   refine ⟨rfl,⟨by omega,by omega⟩,?_⟩;conv=>whnf
   refine A7 (B5N us _ hu hmi _) ?_;conv=>whnf
   refine ⟨rfl,⟨by omega,by omega⟩,?_⟩;conv=>whnf
   refine A7 (B7d us _ hu hmi _) ?_;conv=>whnf
   refine F2.app (q:=r29) (y:=(E2 us (parts.getD (i:Int).toNat default)).map (·.2)) rfl rfl rfl rfl rfl rfl (by show (_+1) * 24≤140737488355328;rw [List.length_map,List.length_take];omega) hc (fun sv' s' hc'=>?_);conv=>whnf
   refine ⟨rfl,?_⟩;conv=>whnf
   exact nx hi' ⟨sv',by rw [B9 (by omega)],by rw [A2w hi'];exact hc'⟩
  obtain rfl:=C6 hd hi
  rw [List.take_length] at hc
  have hLl:(parts.map fun m=>(E2 us m).map (·.2)).length=parts.length:=List.length_map ..
  have hLg:∀ k,k<parts.length→(parts.map fun m=>(E2 us m).map (·.2)).getD k default=(E2 us (parts.getD k default)).map (·.2):=fun k hk=>E3 (fun m=>(E2 us m).map (·.2)) parts hk
  generalize (parts.map fun m=>(E2 us m).map (·.2))=L at *
  rcases hc with ⟨h0,_⟩ | ⟨h0,bl,gl,hbl,rfl,rfl,hgl⟩
  ·omega
  conv=>whnf
  refine mkO rfl rfl rfl (by show 1 * us.length≤_;omega) (by omega) (by rfl) (fun bu hbu=>?_)
  have hnlu:bl≠bu:=fun e=>by subst e;rw [A0] at hbu;cases hbu
  have hblS:(upd st1 bl ⟨29,1,L.length,gl⟩) bl=some ⟨29,1,L.length,gl⟩:=A0 ..
  have hsup2:D7 st (upd st1 bl ⟨29,1,L.length,gl⟩):=hsupS.upd hbl
  generalize upd st1 bl ⟨29,1,L.length,gl⟩=st2 at *
  conv=>whnf
  have hwb:∀ Y:R3,(upd st2 bu Y) bl=some ⟨29,1,L.length,gl⟩:=fun Y=>by rw [A4 hnlu];exact hblS
  refine ⟨[1,3,9,11,12,13],fun m vs s=>∃ (b:BSt) (ls:List Int) (sva svl:AV) (gu:Nat→AV) (f:Nat),m=tot p.parts.length b.ms.es∧vs=[D0 us,.fptr (C1 p) 0,.own 1 bl 0 L.length,.own 1 bu 0 us.length,sva,svl] ∧
   C2c p us (fun k=>E2 us (parts.getD k default)) (tot p.parts.length (F9 us parts).ms.es) b ls∧(tot p.parts.length b.ms.es<f∧A2j p us (tot p.parts.length (F9 us parts).ms.es+1) (F9 us parts)=A2j p us f b) ∧
   RA b.taken ls sva svl (upd st2 bu ⟨4,1,us.length,gu⟩) s∧∀ k,k<us.length→gu k=eB (b.ms.used.getD k default),?_,?_⟩
  ·conv=>whnf
   refine ⟨_,F9 us parts,[],.emp,.emp,_,_,rfl,rfl,?_,⟨Nat.lt_succ_self _,rfl⟩,RA.start _,fun k hk=>?_⟩
   ·refine ⟨hst0,fun k hk=>⟨[],rfl,fun e he=>by cases he⟩,rfl,rfl,rfl,.inl rfl,fun k hk=>absurd hk (by simp),List.nodup_nil,fun x hx=>by simp [F9] at hx⟩
   ·show eB false=eB ((List.replicate us.length false).getD k default)
    simp [List.getD_eq_getElem?_getD,hk]
  ·rintro m vs s ⟨b,ls,sva,svl,gu,f,rfl,rfl,hI,⟨hf1,hF⟩,hR,hgu⟩
   have hok0:MOk us p.parts.length ⟨b.ms.used,b.ms.es,[]⟩:=⟨hI.ok.ok.len,hI.ok.ok.rng,hI.ok.ok.srt,fun x hx=>by simp at hx⟩
   have hBA:=B6A b.taken ls sva svl
   have hsu:=hBA.sup hR
   have hsu1:=hsu bu _ (A0 ..)
   have hsl1:=hsu bl _ (hwb _)
   have hbl2:=hI.ok.len
   obtain ⟨f,rfl⟩:∃ g,f=g+1:=⟨f - 1,by omega⟩
   conv=>whnf
   refine A7 (C5c p hp us hul (fun k=>E2 us (parts.getD k default)) L (by omega) (fun k hk=>hLg k (by omega)) (fun k hk=>⟨by show (E2 _ _).length≤_;rw [A1e];exact Nat.le_trans (hme k (by omega)).len hul,fun e he=>A5w (hme k (by omega)).rng he⟩) ⟨b.ms.used,b.ms.es,[]⟩ rfl hok0 hI.pre bu gu s bl gl hsl1 hgl hsu1 hgu) ?_
   have fin:A1q p us b=none→∀ t,RA b.taken ls sva svl (upd st2 bu ⟨4,1,us.length,gu⟩) t→∃ t2,B0 [D0 us,sva,svl,eB p.closes] t [D0 us,A6 b.taken,A6 ls,eB p.closes] t2∧D7 st t2 ∧
     S P 254 [D0 us,A6 b.taken,A6 ls,eB p.closes] t2 fun v st'=>v=.tuple [D0 (P4 p us parts).1,eI (P4 p us parts).2]∧st'=t2:=fun hno t ht=>by
    obtain ⟨t2,h1,h2⟩:=ht.shift (D0 us) (eB p.closes)
    have hPl:W0 us b.taken:=B1x hI.ok.mem hI.nd
    have hout:A2j p us (tot p.parts.length (F9 us parts).ms.es+1) (F9 us parts)=b:=by
     rw [hF];unfold A2j;rw [hno]
    have h0s:∀ x∈ls,0≤x:=fun x hx=>by obtain ⟨k,hk,rfl⟩:=E8 hx;exact (hI.bnd k hk).1
    have hE:A1L us b.taken ls p.closes=P4 p us parts:=by
     unfold P4 A1L
     simp only
     rw [hout,←hI.sum,hI.out]
     by_cases hz:A5 ls=0
     ·have ht0:b.taken=[]:=by
       rcases hI.pos with e | e
       ·exact e
       ·rw [←hI.sum] at e;omega
      rw [if_pos hz,A1X (A2N h0s hz) _ (Nat.le_refl _),ht0,hz]
      show (us,(0:Int))=(if p.closes=true then us else us,0)
      split<;>rfl
     ·rw [if_neg hz]
    have hsum:A5 ls≤10000000000000:=by
     have h5:=hI.ok.off.sum
     have:=hu.sum
     have:=C4 (hI.ok.off.ok hu).nets0
     rw [hI.sum];omega
    have hlen:=hI.len
    have htl:b.taken.length≤1000000:=by have:=hI.ok.len;omega
    refine ⟨t2,h1,(hsup2.upd hbu).trans h2,?_⟩
    rw [←hE]
    exact B2L us b.taken ls p.closes hu hPl htl (by omega) hI.bnd (by omega) t2
   cases hs:K4 p.parts p.parts.length ⟨b.ms.used,b.ms.es,[]⟩ with
   | none =>
    have hone:A7Q p ⟨b.ms.used,b.ms.es,[]⟩=[]:=by unfold A7Q;rw [hs]
    obtain ⟨t2,g1,g2,g3⟩:=fin (by unfold A1q;rw [hs]) s hR
    rw [hone];conv=>whnf
    refine A7 (A5F us [] (by simp) (fun k hk=>absurd hk (by simp)) _) ?_;conv=>whnf
    refine A7 (A8b [] (by simp) (fun x hx=>by cases hx) (by decide) _) ?_;conv=>whnf
    refine F3 g1 (A7 g3 ?_);conv=>whnf
    exact ⟨rfl,g2⟩
   | some s1 =>
    have hok:=MOk.parts hok0 (Nat.le_refl _) hs
    have htr:=U5.parts (U5.start b.ms.used b.ms.es) hok0 (Nat.le_refl _) hs
    have hlen1:=A1j hp (Nat.le_refl _) hs
    have hpos:=A4S hp hs
    simp only [List.length_nil] at hlen1 hpos
    have hone:A7Q p ⟨b.ms.used,b.ms.es,[]⟩=C7 s1.l:=by unfold A7Q;rw [hs]
    have hcost:A5 (F0 us (C7 s1.l))=H4 us s1.l:=A5J ((A0s s1.l).map fun i:Int=>(gU us i.toNat).net)
    have hcb:=A0v hu s1.l hok.mem
    have hSl:(C7 s1.l).length=s1.l.length:=T8 _
    have hSr:∀ k,k<(C7 s1.l).length→0≤gI (C7 s1.l) k∧(gI (C7 s1.l) k).toNat<us.length:=fun k hk=>hok.mem _ (R6.1 (B3 hk))
    have hnl:=A3T us (C7 s1.l)
    have hn0:∀ x∈F0 us (C7 s1.l),0≤x:=fun x hx=>by obtain ⟨i,hi,rfl⟩:=List.mem_map.1 hx;exact hu.at0 _
    rw [hone];conv=>whnf
    refine A7 (A5F us (C7 s1.l) (by omega) hSr _) ?_;conv=>whnf
    refine A7 (A8b _ (by omega) hn0 (by rw [hcost];omega) _) ?_
    rw [hcost];conv=>whnf
    rw [show (((C7 s1.l).length:Int)==0)=false from beq_false_of_ne (by omega)];conv=>whnf
    refine C3 (fun hc=>?_) (fun hc=>?_)<;>rw [hc]
    ·have hc':=of_decide_eq_true hc
     obtain ⟨t2,g1,g2,g3⟩:=fin (by unfold A1q;rw [hs];simp only;rw [if_neg (by omega)]) s hR
     conv=>whnf
     refine F3 g1 (A7 g3 ?_);conv=>whnf
     exact ⟨rfl,g2⟩
    ·have hc':H4 us s1.l>p.amount:=by have:=of_decide_eq_false hc;omega
     obtain ⟨hN,hI2⟩:=hI.step hp hu hs hc'
     obtain ⟨k1,k2,k3⟩:=hI.ok.step hp hu hs hc'
     have hW:=k1.weights
     rw [←hN] at hW
     have hXl:=(Q4 hW).2.1
     have hstep:A2j p us (f+1) b=A2j p us f ⟨A2n b.out (C7 s1.l) (H4 us s1.l - p.amount),s1,b.taken++C7 s1.l,b.all+(H4 us s1.l - p.amount)⟩:=by
      conv=>lhs;unfold A2j A1q
      rw [hs];simp only;rw [if_pos hc']
     have w1:IntKind.i64.wrap (H4 us s1.l - p.amount)=H4 us s1.l - p.amount:=A9 (by omega) (by omega)
     have hkl:=k2.len
     simp only at hkl k3
     rw [List.length_append] at hkl
     have hll:=hI.len
     conv=>whnf
     refine ⟨[],[],List.range 13,by kernel_rfl,?_⟩;conv=>whnf
     refine ⟨_,D1 (A5F us (C7 s1.l) (by omega) hSr _),?_⟩;conv=>whnf
     rw [w1]
     refine ⟨_,D1 (A6q _ (F0 us (C7 s1.l)) hW _),?_⟩
     generalize D5 (H4 us s1.l - p.amount) (F0 us (C7 s1.l))=X at *
     conv=>whnf
     refine lp (C7 s1.l).length [1,3,9,11,12,13,14,16,18] (fun i vs s=>∃ (sva svl:AV) (g:Nat→AV),vs=[D0 us,.fptr (C1 p) 0,.own 1 bl 0 L.length,.own 1 bu 0 us.length,sva,svl,A6 (C7 s1.l),A6 X,eI i] ∧
      RA (b.taken++(C7 s1.l).take i) (ls++X.take i) sva svl (upd st2 bu ⟨4,1,us.length,g⟩) s∧∀ k,k<us.length→g k=eB ((A2V b.ms.used ((C7 s1.l).take i)).getD k default)) ?_ ?_
     ·conv=>whnf
      exact ⟨sva,svl,gu,rfl,by rw [List.take_zero,List.take_zero,List.append_nil,List.append_nil];exact hR,hgu⟩
     ·clear hR hgu fin hsu hsu1 hsl1 hBA
      rintro i vs s hi ⟨sva,svl,g,rfl,hR,hg⟩
      have hBA:=B6A (b.taken++(C7 s1.l).take i) (ls++X.take i) sva svl
      conv=>whnf
      cases hd:decide ((i:Int)<((C7 s1.l).length:Int))
      ·obtain rfl:=C6 hd hi
       rw [List.take_length] at hR hg
       rw [List.take_of_length_le (show X.length≤(C7 s1.l).length by omega)] at hR;conv=>whnf
       refine ⟨rfl,?_⟩;conv=>whnf
       refine ⟨tot p.parts.length s1.es,k3,_,_,sva,svl,g,f,rfl,rfl,hI2,⟨by show tot p.parts.length s1.es<f;omega,by rw [←hstep];exact hF⟩,hR,fun k hk=>?_⟩
       rw [hg k hk]
       congr 1
       show (A2V b.ms.used (C7 s1.l)).getD k default=s1.used.getD k default
       rw [←Bool.coe_iff_coe,B5X (fun x hx=>by rw [hI.ok.ok.len];exact (hok.mem x (R6.1 hx)).2),htr.used]
       constructor
       ·rintro (h | h)
        ·exact .inl h
        ·obtain ⟨y,hy,rfl⟩:=List.mem_map.1 h;exact .inr (List.mem_map_of_mem (R6.1 hy))
       ·rintro (h | h)
        ·exact .inl h
        ·obtain ⟨y,hy,rfl⟩:=List.mem_map.1 h;exact .inr (List.mem_map_of_mem (R6.2 hy))
      ·have hi':=E4 hd
       have hr:=hSr i hi'
       have hg2:=hBA.sup hR bu _ (A0 ..)
       have tk:∀ (l:List Int),i<l.length→l.take (i+1)=l.take i++[gI l i]:=fun l h=>I6 h
       conv=>whnf
       refine ⟨rfl,⟨by omega,by omega⟩,?_⟩;conv=>whnf
       refine ⟨rfl,⟨by show 0≤gI (C7 s1.l) i;omega,by show gI (C7 s1.l) i<(us.length:Int);omega⟩,?_⟩;conv=>whnf
       refine G6 hg2 rfl (by show 0+(gI (C7 s1.l) i).toNat<us.length;omega) (v:=eB ((A2V b.ms.used ((C7 s1.l).take i)).getD (gI (C7 s1.l) i).toNat default)) (by show g (0+(gI (C7 s1.l) i).toNat)=_;rw [Nat.zero_add];exact hg _ hr.2) (by rfl) ?_
       have hR2:=hBA.write (y':=⟨4,1,us.length,C9 g (0+(gI (C7 s1.l) i).toNat) (eB true)⟩) hR (A0 ..)
       rw [B7] at hR2
       have hgn:∀ k,k<us.length→C9 g (0+(gI (C7 s1.l) i).toNat) (eB true) k=eB ((A2V b.ms.used ((C7 s1.l).take (i+1))).getD k default):=fun k hk=>by
        have e:A2V b.ms.used ((C7 s1.l).take (i+1))=(A2V b.ms.used ((C7 s1.l).take i)).set (gI (C7 s1.l) i).toNat true:=P6 hi' _ _
        rw [e,Nat.zero_add,A5b (by rw [B5Y,hI.ok.ok.len];exact hr.2)]
        by_cases ej:k=(gI (C7 s1.l) i).toNat
        ·rw [if_pos ej,ej,A2]
        ·rw [if_neg ej,H7 ej];exact hg k hk
       conv=>whnf
       refine ⟨[4,5,6,11,12,13],[],[],.qui 0 (.qui 1 (.qui 2 (.qui 3 (.qui 7 (.qui 8 (.qui 9 (.qui 10 (.two 4 11 (.two 5 11 (.two 6 11 (.gen 11 (.gen 12 (.gen 13 (.qui 14 (.qui 15 .done))))) (.two 6 12 (.gen 12 (.gen 13 (.qui 14 (.qui 15 .done)))) (.gen 6 (.gen 13 (.qui 14 (.qui 15 .done)))))) (.two 5 12 (.two 6 12 (.gen 12 (.gen 13 (.qui 14 (.qui 15 .done)))) (.gen 6 (.gen 13 (.qui 14 (.qui 15 .done))))) (.gen 5 (.gen 6 (.gen 13 (.qui 14 (.qui 15 .done))))))) (.two 4 12 (.two 5 12 (.two 6 12 (.gen 12 (.gen 13 (.qui 14 (.qui 15 .done)))) (.gen 6 (.gen 13 (.qui 14 (.qui 15 .done))))) (.gen 5 (.gen 6 (.gen 13 (.qui 14 (.qui 15 .done)))))) (.gen 4 (.gen 5 (.gen 6 (.gen 13 (.qui 14 (.qui 15 .done))))))))))))))),by kernel_rfl,?_⟩;conv=>whnf
       refine ⟨rfl,⟨by omega,by omega⟩,?_⟩;conv=>whnf
       refine ⟨rfl,⟨by omega,by omega⟩,?_⟩;conv=>whnf
       repeat' (refine And.intro ?_ ?_<;>(conv=>whnf))
       all_goals refine RA.appA (all:=b.taken++(C7 s1.l).take i) (ls:=ls++X.take i) (y:=gI (C7 s1.l) i) hR2 rfl rfl (by rw [List.length_append,List.length_take];omega) (fun sva' t' hR3=>?_)
       all_goals (conv=>whnf)
       all_goals refine RA.appL (all:=b.taken++(C7 s1.l).take i++[gI (C7 s1.l) i]) (ls:=ls++X.take i) (y:=gI X i) hR3 rfl rfl (by rw [List.length_append,List.length_take];omega) (fun svl' t'' hR4=>?_)
       all_goals (conv=>whnf)
       all_goals refine ⟨rfl,?_⟩
       all_goals (conv=>whnf)
       all_goals exact nx hi' ⟨sva',svl',C9 g (0+(gI (C7 s1.l) i).toNat) (eB true),by rw [B9 (by omega)],by rw [tk _ hi',tk _ (by omega),←List.append_assoc,←List.append_assoc];exact hR4,hgn⟩
def Z3 (l:List Int):List Int:=l.foldl (fun a x=>if x∈a then a else a++[x]) []
theorem B5E (l:List Int) (x:Int):Z3 (l++[x])=if x∈Z3 l then Z3 l else Z3 l++[x]:=by
 unfold Z3;rw [List.foldl_append];rfl
theorem A9O (l:List Int):(Z3 l).Nodup∧∀ x,x∈Z3 l↔x∈l:=by
 have:∀ (l a:List Int),a.Nodup→(l.foldl (fun a x=>if x∈a then a else a++[x]) a).Nodup∧∀ x,x∈l.foldl (fun a x=>if x∈a then a else a++[x]) a↔x∈a∨x∈l:=by
  intro l
  induction l with
  | nil=>intro a h;exact ⟨h,fun x=>by simp⟩
  | cons y l ih =>
   intro a h
   rw [List.foldl_cons]
   split
   ·rename_i hy
    obtain ⟨h1,h2⟩:=ih a h
    refine ⟨h1,fun x=>?_⟩
    rw [h2,List.mem_cons]
    constructor
    ·rintro (h3 | h3)
     ·exact .inl h3
     ·exact .inr (.inr h3)
    ·rintro (h3 | rfl | h3)
     ·exact .inl h3
     ·exact .inl hy
     ·exact .inr h3
   ·rename_i hy
    obtain ⟨h1,h2⟩:=ih (a++[y]) (List.nodup_append.2 ⟨h,by simp,fun p hp q hq e=>by rw [List.mem_singleton] at hq;subst hq;subst e;exact hy hp⟩)
    refine ⟨h1,fun x=>?_⟩
    rw [h2,List.mem_append,List.mem_singleton,List.mem_cons,or_assoc]
 obtain ⟨h1,h2⟩:=this l [] List.nodup_nil
 exact ⟨h1,fun x=>by rw [show x∈Z3 l↔x∈([]:List Int)∨x∈l from h2 x];simp⟩
theorem B3w (l:List Int):U0 l=((List.range l.length).filter fun k=>k==0||gI l k != gI l (k - 1)).map (gI l):=by
 unfold U0 Go.Lib.compactUpTo
 have hg:∀ k,k<l.length→l.toArray[k]! = gI l k:=fun k hk=>by rw [getElem!_pos _ k (by simpa using hk)];simp [gI,hk]
 have hf:(List.range l.length).filter (Go.Lib.keeps l.toArray)=(List.range l.length).filter fun k=>k==0||gI l k != gI l (k - 1):=by
  refine List.filter_congr fun k hk=>?_
  have:=List.mem_range.1 hk
  unfold Go.Lib.keeps
  rw [hg k this,hg (k - 1) (by omega)]
  rw [←Bool.coe_iff_coe,decide_eq_true_eq,Bool.or_eq_true,beq_iff_eq,bne_iff_ne]
 rw [hf]
 exact List.map_congr_left fun k hk=>hg k (List.mem_range.1 (List.mem_filter.1 hk).1)
theorem B5c {l:List Int} (hs:l.Pairwise (·≤·)):(U0 l).Nodup∧∀ x,x∈U0 l↔x∈l:=by
 refine ⟨?_,fun x=>⟨B1i,fun hx=>?_⟩⟩
 ·rw [B3w]
  refine List.Pairwise.map _ (fun a b h=>h) ?_ 
  refine List.Pairwise.imp_of_mem (R:=(·<·)) ?_ ((List.pairwise_lt_range (n:=l.length)).filter _)
  intro a b ha hb hab
  obtain ⟨h1,h2⟩:=List.mem_filter.1 hb
  have h3:=List.mem_range.1 h1
  rw [Bool.or_eq_true,beq_iff_eq,bne_iff_ne] at h2
  have h4:gI l (b - 1)≤gI l b:=B1z hs (by omega) h3
  have h5:gI l a≤gI l (b - 1):=by
   rcases Nat.eq_or_lt_of_le (show a≤b - 1 by omega) with e | e
   ·rw [e];exact Int.le_refl _
   ·exact B1z hs e (by omega)
  show gI l a≠gI l b
  rcases h2 with h2 | h2<;>omega
 ·rw [B3w,List.mem_map]
  obtain ⟨k,hk,rfl⟩:=E8 hx
  induction k with
  | zero=>exact ⟨0,List.mem_filter.2 ⟨List.mem_range.2 hk,rfl⟩,rfl⟩
  | succ k ih =>
   by_cases e:gI l (k+1)=gI l k
   ·have:=ih (by omega) (by rw [show l.getD k default=l.getD (k+1) default from e.symm];exact hx)
    obtain ⟨j,h1,h2⟩:=this
    exact ⟨j,h1,h2.trans e.symm⟩
   ·exact ⟨k+1,List.mem_filter.2 ⟨List.mem_range.2 hk,by rw [Bool.or_eq_true,bne_iff_ne];exact .inr e⟩,rfl⟩
theorem C0s (us:List B5) (l:List Int):A0Y us (U0 (C7 l))=A0Y us (Z3 l):=by
 obtain ⟨h1,h2⟩:=B5c (B4E l)
 obtain ⟨h3,h4⟩:=A9O l
 have hp:(U0 (C7 l)).Perm (Z3 l):=(List.perm_ext_iff_of_nodup h1 h3).2 fun x=>by rw [h2,h4,R6]
 exact A5J (hp.map _)
theorem B8i (l:List Int):(Z3 l).length≤l.length:=by
 have:∀ (l a:List Int),(l.foldl (fun a x=>if x∈a then a else a++[x]) a).length≤a.length+l.length:=by
  intro l
  induction l with
  | nil=>intro a;simp
  | cons y l ih =>
   intro a
   rw [List.foldl_cons]
   split
   ·have:=ih a;rw [List.length_cons];omega
   ·have:=ih (a++[y]);rw [List.length_append,List.length_cons,List.length_nil] at this;rw [List.length_cons];omega
 have h:=this l []
 rw [List.length_nil,Nat.zero_add] at h;exact h
structure PSm (p:B4):Prop where
 sm:A2z p
 right:I9 p=true
 fit:P0 p
set_option maxHeartbeats 400000 in
theorem C5b (items:List Ab.Item) (us:List B5) (pr:B4) (hp:PSm pr) (hk:pr.kind≠7) (hu:A5O items us) (st:St) :
  S P 98 [C1 pr,D0 us,B2 4 F1 items] st fun v st'=>(∃ x,v=.tuple [D0 x,eI (W7 items us pr).2]∧(0<(W7 items us pr).2→x=(W7 items us pr).1))∧st'=st:=by
 have ok:=A2I hp.right
 have hul:=hu.ok.len
 have hB:=ok.bun
 by_cases h4:pr.kind=4
 ·have hW:W7 items us pr=A0h items us pr:=by unfold W7;rw [if_pos h4]
  rw [hW]
  obtain ⟨hbn,hbs⟩:=hB h4
  have hn8:=hbn.n8
  have hpl:(P2 items us pr).length=pr.parts.length:=List.length_map ..
  have hbP:A0h items us pr=if A0Y us (Z3 (Y2 items us pr pr.parts.length))<pr.least then ([],0) else P4 pr us (P2 items us pr):=by unfold A0h;rw [C0s]
  refine A1u ?_
  refine A8 [3] B8 mixed Tryz.func98 (by rfl) rfl rfl rfl ?_;conv=>whnf
  rw [show (pr.kind != 4)=false from by rw [h4];rfl];conv=>whnf
  refine mkO rfl rfl rfl (by show 1 * us.length≤_;omega) (by omega) (by rfl) (fun bs hbs0=>?_);conv=>whnf
  refine lp pr.parts.length [1,2,3,9,10,11,12] (fun i vs s=>∃ sv g,vs=[D0 us,B2 4 F1 items,.fptr (C1 pr) 0,sv,.own 1 bs 0 us.length,eI (A0Y us (Z3 (Y2 items us pr i))),eI i]∧F2 29 1 A6 ((P2 items us pr).take i) (upd st bs ⟨4,1,us.length,g⟩) sv s∧∀ k,k<us.length→g k=eB (decide ((k:Int)∈Y2 items us pr i))) ?_ ?_
  ·conv=>whnf
   exact ⟨.emp,_,rfl,F2.start _ _ _ _,fun k hk=>by rw [show Y2 items us pr 0=[] from rfl];simp;rfl⟩
  ·rintro i vs s hi ⟨sv,g,rfl,hc,hg⟩
   conv=>whnf
   cases hd:decide ((i:Int)<(pr.parts.length:Int))
   ·obtain rfl:=C6 hd hi
    rw [←hpl,List.take_length] at hc;conv=>whnf
    refine C3 (fun h1=>?_) (fun h1=>?_)<;>rw [h1]
    ·have:=of_decide_eq_true h1
     rw [if_pos (by omega)] at hbP;conv=>whnf
     exact ⟨⟨us,by rw [hbP];rfl,fun h=>by rw [hbP] at h;exact absurd h (by decide)⟩,((D7.refl st).upd hbs0).trans hc.sup⟩
    ·have:=of_decide_eq_false h1
     rw [if_neg (by omega)] at hbP;conv=>whnf
     refine F3 (B0.cons (t:=s) (B0.keep _ _) (B0.cons (t:=s) (B0.keep _ _) hc.shift)) (A7 (B8u pr us (P2 items us pr) hp.sm hp.right h4 hbn hu.ok hpl (fun x hx=>by obtain ⟨q,_,rfl⟩:=List.mem_map.1 hx;exact A0N _ _ _) _) ?_);conv=>whnf
     exact ⟨⟨_,by rw [hbP];rfl,fun _=>by rw [hbP]⟩,(D7.refl st).upd hbs0⟩
   ·have hi':=E4 hd
    have hsc:(pr.parts.getD (i:Int).toNat default).scope.skus.length≤20∧(pr.parts.getD (i:Int).toNat default).scope.cats.length≤20:=hbs _ (B3 hi')
    have hsu:=A7D items us pr hi'
    have hAl:=A9k items us pr i hi
    have hAm:=fun {x} (hx:x∈Y2 items us pr i)=>A9l hx
    have hml:=A1Z (pr.parts.getD (i:Int).toNat default).scope items us us.length
    have hmo:=A0N (pr.parts.getD (i:Int).toNat default).scope items us
    have hpt:(P2 items us pr).take (i+1)=(P2 items us pr).take i++[I8 (pr.parts.getD (i:Int).toNat default).scope items us us.length]:=by
     rw [I6 (by omega)];congr 2
     exact E3 (fun x:A1t=>I8 x.scope items us us.length) pr.parts hi'
    rw [show I8 (pr.parts.getD i default).scope items us us.length=I8 (pr.parts.getD (i:Int).toNat default).scope items us us.length from rfl] at hsu
    have h8:i * us.length≤7 * 100000:=Nat.mul_le_mul (by omega) hul
    conv=>whnf
    refine ⟨rfl,⟨by omega,by omega⟩,?_⟩;conv=>whnf
    refine A7 (B7e us items (pr.parts.getD (i:Int).toNat default).scope (by omega) (by omega) hul hu.line _) ?_
    generalize I8 (pr.parts.getD (i:Int).toNat default).scope items us us.length=m at *
    conv=>whnf
    refine F2.app (q:=r29) (y:=m) rfl rfl rfl rfl rfl rfl (by show (_+1) * 24≤140737488355328;rw [List.length_take];omega) hc (fun sv s hc=>?_)
    rw [←hpt] at hc;conv=>whnf
    refine lp m.length [1,2,3,9,10,11,12,13,14] (fun k vs s=>∃ g,vs=[D0 us,B2 4 F1 items,.fptr (C1 pr) 0,sv,.own 1 bs 0 us.length,eI (A0Y us (Z3 (Y2 items us pr i++m.take k))),eI i,A6 m,eI k]∧F2 29 1 A6 ((P2 items us pr).take (i+1)) (upd st bs ⟨4,1,us.length,g⟩) sv s∧∀ j,j<us.length→g j=eB (decide ((j:Int)∈Y2 items us pr i++m.take k))) ?_ ?_
    ·conv=>whnf
     exact ⟨g,by rw [List.take_zero,List.append_nil];rfl,hc,by rw [List.take_zero,List.append_nil];exact hg⟩
    ·clear hc hg
     rintro k vs s hk ⟨g,rfl,hc,hg⟩
     conv=>whnf
     cases hd2:decide ((k:Int)<(m.length:Int))
     ·obtain rfl:=C6 hd2 hk
      rw [List.take_length,←hsu] at hg;conv=>whnf
      refine ⟨rfl,?_⟩;conv=>whnf
      exact nx hi' ⟨sv,g,by rw [B9 (by omega),List.take_length,←hsu],hc,hg⟩
     ·have hk':=E4 hd2
      have hr:0≤m.getD (k:Int).toNat default∧(m.getD (k:Int).toNat default).toNat<us.length:=hmo.rng k hk'
      have hbk:=hc.sup bs _ (A0 ..)
      have hP:Y2 items us pr i++m.take (k+1)=(Y2 items us pr i++m.take k)++[m.getD (k:Int).toNat default]:=by rw [I6 hk',List.append_assoc];rfl
      have hgk:g (0+(m.getD (k:Int).toNat default).toNat)=eB (decide (m.getD (k:Int).toNat default∈Y2 items us pr i++m.take k)):=by
       rw [Nat.zero_add,hg _ hr.2];congr 2;rw [Int.toNat_of_nonneg hr.1]
      have hmem:∀ x∈Y2 items us pr i++m.take k,0≤x∧x.toNat<us.length:=fun x hx=>by
       rcases List.mem_append.1 hx with hx | hx
       ·exact A9l hx
       ·obtain ⟨j,hj,rfl⟩:=E8 (List.take_subset _ _ hx);exact hmo.rng j hj
      obtain ⟨o1,o2⟩:=A9O (Y2 items us pr i++m.take k)
      have hcb:=A0v hu.ok (Z3 (Y2 items us pr i++m.take k)) (fun x hx=>hmem x ((o2 x).1 hx))
      have hol:=B8i (Y2 items us pr i++m.take k)
      rw [List.length_append,List.length_take] at hol
      have hcl:A0Y us (Z3 (Y2 items us pr i++m.take k))=H4 us (Z3 (Y2 items us pr i++m.take k)):=rfl
      have hsn:=B5E (Y2 items us pr i++m.take k) (m.getD (k:Int).toNat default)
      have hdm:decide (m.getD (k:Int).toNat default∈Z3 (Y2 items us pr i++m.take k))=decide (m.getD (k:Int).toNat default∈Y2 items us pr i++m.take k):=decide_eq_decide.2 (o2 _)
      have hn0:0≤(gU us (m.getD (k:Int).toNat default).toNat).net:=hu.ok.at0 _
      have hn1:(gU us (m.getD (k:Int).toNat default).toNat).net≤10000000000000:=hu.ok.le (B3 hr.2)
      generalize Y2 items us pr i++m.take k=A at *
      conv=>whnf
      refine ⟨rfl,⟨by omega,by omega⟩,?_⟩;conv=>whnf
      refine ⟨rfl,⟨by omega,by omega⟩,?_⟩;conv=>whnf
      refine D9 hbk rfl (by omega) hgk ?_;conv=>whnf
      refine C3 (fun h5=>?_) (fun h5=>?_)<;>rw [h5]
      ·have hnot:¬ m.getD (k:Int).toNat default∈A:=by simpa using h5
       rw [if_neg (fun h=>hnot ((o2 _).1 h))] at hsn
       have hadd:A0Y us (Z3 (A++[m.getD (k:Int).toNat default]))=A0Y us (Z3 A)+(gU us (m.getD (k:Int).toNat default).toNat).net:=by
        rw [hsn];exact B1k us _ _
       have w:IntKind.i64.wrap (A0Y us (Z3 A)+(gU us (m.getD (k:Int).toNat default).toNat).net)=A0Y us (Z3 (A++[m.getD (k:Int).toNat default])):=by rw [hadd];exact A9 (by omega) (by omega)
       conv=>whnf
       refine ⟨rfl,⟨by omega,by omega⟩,?_⟩;conv=>whnf
       refine ⟨rfl,⟨by omega,by omega⟩,?_⟩;conv=>whnf
       refine G6 hbk rfl (by omega) hgk (by rfl) ?_
       have hc2:=M8.write hc (y':=⟨4,1,us.length,C9 g (0+(m.getD (k:Int).toNat default).toNat) (eB true)⟩) (A0 ..)
       rw [B7] at hc2;conv=>whnf
       refine ⟨rfl,⟨by omega,by omega⟩,?_⟩;conv=>whnf
       refine ⟨rfl,⟨by omega,by omega⟩,?_⟩;conv=>whnf
       refine ⟨rfl,?_⟩;conv=>whnf
       refine nx hk' ⟨C9 g (0+(m.getD (k:Int).toNat default).toNat) (eB true),by rw [B9 (by omega),hP,←w],hc2,fun j hj=>?_⟩
       rw [hP,Nat.zero_add]
       by_cases ej:j=(m.getD (k:Int).toNat default).toNat
       ·rw [ej,A2,decide_eq_true (by rw [List.mem_append,List.mem_singleton];right;omega)]
       ·rw [H7 ej,hg j hj]
        congr 1
        refine decide_eq_decide.2 ?_
        rw [List.mem_append,List.mem_singleton]
        exact ⟨.inl,fun h=>h.resolve_right (by omega)⟩
      ·have hin:m.getD (k:Int).toNat default∈A:=by simpa using h5
       rw [if_pos ((o2 _).2 hin)] at hsn;conv=>whnf
       refine ⟨rfl,?_⟩;conv=>whnf
       refine nx hk' ⟨g,by rw [B9 (by omega),hP,hsn],hc,fun j hj=>?_⟩
       rw [hP,hg j hj]
       congr 1
       refine decide_eq_decide.2 ?_
       rw [List.mem_append,List.mem_singleton]
       exact ⟨.inl,fun h=>h.elim id (fun e=>by rw [e];exact hin)⟩
 ·have hW:W7 items us pr=A1s items us pr:=by unfold W7;rw [if_neg h4]
  have hmo:=A0N pr.scope items us
  have hml:=A1Z pr.scope items us us.length
  have hS:A1s items us pr=if A0Y us (I8 pr.scope items us us.length)<pr.least then ([],0) else if pr.kind=3 then T0 pr us (I8 pr.scope items us us.length) else W1 pr us (I8 pr.scope items us us.length):=rfl
  obtain ⟨hn0,hns⟩:=A9N hu.ok hmo
  rw [hW]
  refine A8 [3] B8 mixed Tryz.func98 (by rfl) rfl rfl rfl ?_;conv=>whnf
  rw [show (pr.kind != 4)=true from bne_iff_ne.2 h4];conv=>whnf
  refine A7 (B7e us items pr.scope (by have:=ok.skus;omega) (by have:=ok.cats;omega) hul hu.line _) ?_
  generalize I8 pr.scope items us us.length=m at *
  conv=>whnf
  refine ⟨[],[],List.range 7,by kernel_rfl,?_⟩;conv=>whnf
  refine ⟨_,D1 (A5F us m (by omega) hmo.rng _),?_⟩;conv=>whnf
  refine ⟨_,D1 (A8b (F0 us m) (by rw [A3T];omega) hn0 (by omega) _),?_⟩;conv=>whnf
  refine C3 (fun h1=>?_) (fun h1=>?_)<;>rw [h1]
  ·have h2:A0Y us m<pr.least:=of_decide_eq_true h1
   rw [if_pos h2] at hS;conv=>whnf
   exact ⟨⟨us,by rw [hS];rfl,fun h=>by rw [hS] at h;exact absurd h (by decide)⟩,rfl⟩
  ·have h2:¬ A0Y us m<pr.least:=fun h=>absurd h (Int.not_lt.2 (Int.not_lt.1 (of_decide_eq_false h1)))
   rw [if_neg h2] at hS;conv=>whnf
   by_cases h3:pr.kind=3
   ·rw [if_pos h3] at hS
    rw [show (pr.kind==3)=true from beq_iff_eq.2 h3];conv=>whnf
    refine A7 (B8v pr us m hp.sm hp.right h3 (ok.buy h3) hu.ok hmo _) ?_;conv=>whnf
    exact ⟨⟨_,by rw [hS];rfl,fun _=>by rw [hS]⟩,rfl⟩
   ·rw [if_neg h3] at hS
    rw [show (pr.kind==3)=false from beq_false_of_ne h3];conv=>whnf
    refine A7 (C0N pr us m (ok.ask hp.fit (by have:=ok.kind;omega)) hp.sm hu.ok hmo _) ?_;conv=>whnf
    exact ⟨⟨_,by rw [hS];rfl,fun _=>by rw [hS]⟩,rfl⟩
theorem B4u (L:List D6) (g:D6) (hl:L.length≤1000) (sv:AV) (st:St) (h:(sv=.emp∧L=[])∨∃ b f,sv=.own 1 b 0 L.length∧st b=some ⟨9,1,L.length,f⟩∧∀ k,k<L.length→f k=eS (L.getD k default)) :
  S P 97 [sv,eS g] st fun v st'=>v=.bool (!L4 g&&L.any fun y=>y.toList==g.toList)∧st'=st:=by
 rcases h with ⟨rfl,rfl⟩ | ⟨b,f,rfl,hb,hf⟩
 ·refine A8 [] B8 mixed Tryz.func97 (by rfl) rfl rfl rfl ?_;conv=>whnf
  refine A4P [0,1,5] ?_;conv=>whnf
  intro I;conv=>whnf
  exact ⟨by simp [A8H],rfl⟩
 ·refine A8 [] B8 mixed Tryz.func97 (by rfl) rfl rfl rfl ?_;conv=>whnf
  refine lp L.length [0,1,5] (fun i vs s=>(∀ k,k<i→(!L4 g&&((L.getD k default).toList==g.toList))=false)∧vs=[.own 1 b 0 L.length,eS g,eI i]∧s=st) ?_ ?_
  ·conv=>whnf
   exact ⟨fun k hk=>absurd hk (by omega),rfl,rfl⟩
  ·rintro i vs st' hi ⟨hok,rfl,rfl⟩
   conv=>whnf
   cases hd:decide ((i:Int)<(L.length:Int))
   ·obtain rfl:=C6 hd hi
    conv=>whnf
    refine ⟨?_,rfl⟩
    have e:(!L4 g&&L.any fun y=>y.toList==g.toList)=false:=by
     cases hn:L4 g
     ·rw [Bool.not_false,Bool.true_and]
      refine List.any_eq_false.2 fun x hx=>?_
      obtain ⟨k,hk,rfl⟩:=E8 hx
      have:=hok k hk
      rw [hn,Bool.not_false,Bool.true_and] at this
      rw [this];simp
     ·rfl
    rw [e];rfl
   ·have hi':=E4 hd
    have hfi:f (0+(i:Int).toNat)=eS (L.getD (i:Int).toNat default):=by rw [Nat.zero_add];exact hf _ (by omega)
    have yes:=fun h=>J8 hok (i:=i) h
    have nl:L4 g=(g.toList==(⟨#[]⟩:D6).toList):=rfl
    conv=>whnf
    refine C3 (fun h1=>?_) (fun h1=>?_)<;>rw [h1]
    ·have hn:L4 g=false:=by rw [nl];simpa using h1
     conv=>whnf
     refine ⟨rfl,⟨by omega,by omega⟩,?_⟩;conv=>whnf
     refine D9 hb rfl (by omega) hfi ?_;conv=>whnf
     refine C3 (fun h2=>?_) (fun h2=>?_)<;>rw [h2]
     ·conv=>whnf
      refine ⟨?_,rfl⟩
      rw [hn,List.any_eq_true.2 ⟨_,B3 hi',h2⟩];rfl
     ·conv=>whnf
      refine ⟨rfl,?_⟩;conv=>whnf
      exact nx hi' ⟨yes (by rw [hn];exact h2),by rw [B9 (by omega)],rfl⟩
    ·have hn:L4 g=true:=by rw [nl];simpa using h1
     conv=>whnf
     refine ⟨rfl,?_⟩;conv=>whnf
     exact nx hi' ⟨yes (by rw [hn];rfl),by rw [B9 (by omega)],rfl⟩
structure B3k (l:List B4):Prop where
 few:l.length≤60
 right:∀ p∈l,I9 p=true
 ids:∀ i j,i<j→j<l.length→((l.getD i default).id.toList==(l.getD j default).id.toList)=false
theorem A9X {l:List B4} (h:promosC l=true):B3k l:=by
 unfold promosC K8 at h
 simp only [Bool.and_eq_true,decide_eq_true_eq,List.all_eq_true,List.mem_range] at h
 obtain ⟨h1,h2⟩:=h
 refine ⟨by omega,fun p hp=>?_,fun i j hij hj=>?_⟩
 ·obtain ⟨k,hk,rfl⟩:=E8 hp
  have:=h2 k hk
  unfold A0T at this
  rw [Bool.and_eq_true] at this;exact this.1
 ·have:=h2 j hj
  unfold A0T at this
  rw [Bool.and_eq_true,Bool.not_eq_true',List.any_eq_false] at this
  have h3:=this.2 (l.getD i default) (by
   have:(l.take j).getD i default=l.getD i default:=by rw [List.getD_eq_getElem?_getD,List.getD_eq_getElem?_getD,List.getElem?_take_of_lt hij]
   rw [←this]
   exact B3 (by rw [List.length_take];omega))
  simpa using h3
theorem B4m (l:List B4) (hs:∀ p∈l,A2z p) (hC:promosC l=true) (st:St):S P 160 [B2 15 C1 l] st fun v st'=>v=.bool true∧st'=st:=by
 have ok:=A9X hC
 have hl:=ok.few
 refine A8 [] B8 mixed Tryz.func160 (by rfl) rfl rfl rfl ?_;conv=>whnf
 refine lp l.length [0,3] (fun i vs st'=>vs=[B2 15 C1 l,eI i]∧st'=st) ?_ ?_
 ·conv=>whnf
  exact ⟨rfl,rfl⟩
 ·rintro i vs st' hi ⟨rfl,rfl⟩
  conv=>whnf
  cases h:decide ((i:Int)<(l.length:Int))
  ·obtain rfl:=C6 h hi
   conv=>whnf
   refine ⟨?_,rfl⟩
   rw [decide_eq_true (by omega)];rfl
  ·have hi':=E4 h
   have hm:l.getD (i:Int).toNat default∈l:=B3 hi'
   conv=>whnf
   refine ⟨rfl,⟨by omega,by omega⟩,?_⟩;conv=>whnf
   refine A7 (A3W (l.getD (i:Int).toNat default) (hs _ hm) (ok.right _ hm) _) ?_;conv=>whnf
   refine lp i [0,3,4] (fun j vs s=>vs=[B2 15 C1 l,eI i,eI j]∧s=st') ?_ ?_
   ·conv=>whnf
    exact ⟨rfl,rfl⟩
   ·rintro j vs s hj ⟨rfl,rfl⟩
    conv=>whnf
    cases h2:decide ((j:Int)<(i:Int))
    ·obtain rfl:=C6 h2 hj
     conv=>whnf
     refine ⟨rfl,?_⟩;conv=>whnf
     exact nx hi' ⟨by rw [B9 (by omega)],rfl⟩
    ·have hj':=E4 h2
     have hne:((l.getD (j:Int).toNat default).id.toList==(l.getD (i:Int).toNat default).id.toList)=false:=ok.ids j i hj' hi'
     conv=>whnf
     refine ⟨[],[],List.range 11,by kernel_rfl,?_⟩;conv=>whnf
     refine ⟨rfl,⟨by omega,by omega⟩,?_⟩;conv=>whnf
     refine ⟨rfl,⟨by omega,by omega⟩,?_⟩;conv=>whnf
     rw [hne];conv=>whnf
     refine ⟨rfl,?_⟩;conv=>whnf
     exact nx hj' ⟨by rw [B9 (by omega)],rfl⟩
structure A8K (r:I4):Prop where
 n:Sm r.items.length
 items:∀ x∈r.items,Sm x.sku.size∧Sm x.cat.size
 promos:∀ p∈r.promos,A2z p
 tax:A8f r.tax
 order:Sm r.policy.order.length
 credit:Sm r.policy.credit.length
theorem B5O (r:I4) (hs:A8K r) (hC:Z8 r=true) (st:St):S P 91 [H6 r] st fun v st'=>v=.bool true∧st'=st:=by
 unfold Z8 A8u A5D at hC
 simp only [Bool.and_eq_true] at hC
 obtain ⟨⟨⟨⟨c1,c2⟩,c3⟩,c4,c5⟩,⟨⟨⟨⟨⟨c6,c7⟩,c8⟩,c9⟩,c10⟩,c11⟩,c12⟩:=hC
 have n1:=C0Q r.items hs.n hs.items st
 have n2:=B4m r.promos hs.promos c2 st
 have n3:=B5P r.tax hs.tax st
 have n4:=A1M r.ship.fee 1000000000 st
 have n5:=A1M r.ship.free 10000000000000 st
 have n6:=A1M r.policy.window 100000 st
 have n7:=A1M r.policy.grace 100000 st
 have n8:=A1M r.policy.restock 10000 st
 have n9:=B4s r.policy.order hs.order st
 have n10:=B4s r.policy.credit hs.credit st
 rw [c1] at n1
 rw [c3] at n3
 rw [c4] at n4
 rw [c5] at n5
 rw [c6] at n6
 rw [c7] at n7
 rw [c10] at n8
 rw [c11] at n9
 rw [c12] at n10
 refine A8 [1,3] B8 mixed Tryz.func91 (by rfl) rfl rfl rfl ?_
 repeat' ((conv=>whnf);first | refine A7 n1 ?_ | refine A7 n2 ?_ | refine A7 n3 ?_ | refine A7 n4 ?_ | refine A7 n5 ?_ | refine A7 n6 ?_ | refine A7 n7 ?_ | refine A7 n8 ?_ | refine A7 n9 ?_ | refine A7 n10 ?_ | (rw [c8]) | (rw [c9]))
 all_goals (conv=>whnf)
 all_goals exact ⟨rfl,rfl⟩
theorem C0P (l:List D6) (hl:Sm l.length) (hs:∀ s∈l,Sm s.size) (st:St):S P 92 [D3 l] st fun v st'=>v=.bool (A0J l)∧st'=st:=by
 have e:A0J l=(Z7 l&&decide ((l.length:Int)≤4)):=by
  unfold A0J Z7
  generalize decide ((l.length:Int)≤4)=a
  generalize X8 l=b
  generalize (l.any fun s=>!F8 s)=c
  cases a<;>cases b<;>cases c<;>rfl
 rw [e]
 refine A8 [] B8 mixed Tryz.func92 (by rfl) rfl rfl rfl ?_;conv=>whnf
 refine A7 (B0h l 4 hl hs st) ?_;conv=>whnf
 exact ⟨rfl,rfl⟩
def R8 (l:List B4) (codes:List D6):List Int:=(places l codes l.length).mergeSort fun x y=>!Z6 (F6 l y) (F6 l x)
theorem A2a (l:List B4) (codes:List D6):(R8 l codes).Perm (places l codes l.length):=List.mergeSort_perm ..
theorem C0A (l:List B4) (codes:List D6):(R8 l codes).Pairwise (A3b l):=by
 have:=List.pairwise_mergeSort (le:=fun x y:Int=>!Z6 (F6 l y) (F6 l x)) (fun a b c h1 h2=>by simp only [Bool.not_eq_true'] at *;exact A6Z h1 h2) (fun a b=>by
  cases h:Z6 (F6 l b) (F6 l a) with
  | false=>rfl
  | true=>rw [A8h h];rfl) (places l codes l.length)
 exact this.imp (fun h=>by simpa [A3b] using h)
theorem B5J {l:List B4} (ok:B3k l) {x y:Int} (hx:0≤x∧x.toNat<l.length) (hy:0≤y∧y.toNat<l.length) (h1:A3b l x y) (h2:A3b l y x):x=y:=by
 unfold A3b at h1 h2
 rw [←Bool.not_eq_true,A2h] at h1 h2
 have e:(F6 l x).prio=(F6 l y).prio:=by
  have a:¬(F6 l y).prio>(F6 l x).prio:=fun h=>h1 (.inl h)
  have b:¬(F6 l x).prio>(F6 l y).prio:=fun h=>h2 (.inl h)
  omega
 have a:slt (F6 l y).id (F6 l x).id=false:=by rw [←Bool.not_eq_true];exact fun h=>h1 (.inr ⟨e.symm,h⟩)
 have b:slt (F6 l x).id (F6 l y).id=false:=by rw [←Bool.not_eq_true];exact fun h=>h2 (.inr ⟨e,h⟩)
 have c:=A5I a b
 rcases Nat.lt_trichotomy x.toNat y.toNat with h | h | h
 ·have:=ok.ids _ _ h hy.2
  rw [beq_eq_false_iff_ne] at this
  exact absurd c.symm this
 ·omega
 ·have:=ok.ids _ _ h hx.2
  rw [beq_eq_false_iff_ne] at this
  exact absurd c this
theorem B3S {l:List B4} (hC:promosC l=true) {codes:List D6} {o:List Int} (h1:o.Perm (places l codes l.length)) (h2:o.Pairwise (A3b l)):o=R8 l codes:=by
 refine (h1.trans (A2a l codes).symm).eq_of_pairwise (le:=A3b l) (fun a b ha hb h3 h4=>?_) h2 (C0A l codes)
 exact B5J (A9X hC) (Y9 (h1.mem_iff.1 ha)) (Y9 ((A2a l codes).mem_iff.1 hb)) h3 h4
theorem B8B (l:List B4) (codes:List D6) (hC:promosC l=true) (hc:Sm codes.length) (st:St):S P 96 [B2 15 C1 l,D3 codes] st fun v st'=>v=A6 (R8 l codes)∧st'=st :=
 (C0X l codes (by have:=(A9X hC).few;omega) hc st).mono fun v st' ⟨⟨o,h1,h2,h3⟩,h4⟩=>⟨by rw [h3,B3S hC h1 h2],h4⟩
theorem B4r {l:List B4} (hC:promosC l=true) {codes:List D6} {o:List Int} (ho:A7z l codes o):N9 l o=R8 l codes:=by
 refine B3S hC ((B1D l o).trans ho.1) ?_
 refine List.Pairwise.map _ (fun a b h=>h) (R:=fun a b:QE=>A3b l (gI o a.2.toNat) (gI o b.2.toNat)) ?_
 refine (A5Y l o).imp_of_mem fun {a b} ha hb h=>?_
 have h1:=A3Y ha
 have h2:=A3Y hb
 obtain ⟨i,hi,rfl⟩:=List.mem_map.1 ((A0A l o).mem_iff.1 ha)
 obtain ⟨j,hj,rfl⟩:=List.mem_map.1 ((A0A l o).mem_iff.1 hb)
 rw [P8] at h
 simp only [B0d,Int.toNat_natCast] at h h1 h2 ⊢
 unfold A3b
 rw [←Bool.not_eq_true,A2h]
 rintro (h3 | ⟨h3,h4⟩)
 ·exact h (.inl h3)
 ·rcases Nat.lt_trichotomy i j with e | e | e
  ·have:=ho.2 i j (Nat.zero_le _) e h2.2
   unfold C2I at this
   rw [this] at h4;cases h4
  ·subst e;rw [A4a] at h4;cases h4
  ·exact h (.inr ⟨h3,by omega⟩)
end Go.Proofs.YthdimklenlikgaaGreat
