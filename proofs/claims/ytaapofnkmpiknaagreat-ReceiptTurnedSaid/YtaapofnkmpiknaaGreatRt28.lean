/- Part 28 of the proof: contracts of the functions that the law reaches -/
import Derived.Test.YtaapofnkmpiknaaGreatRt27
set_option maxRecDepth 100000
set_option linter.unusedVariables false
set_option linter.unusedSimpArgs false
namespace Go.Proofs.YtaapofnkmpiknaaGreat
open Go Go.Ab
attribute [local irreducible] upd del
def B3j (p:B1) (us:List B2) (D:List Int) (m i:Nat):Int:=if ((i % m:Nat):Int)≥p.buy then J8 (gU us (gI D i).toNat).net p.rate else 0
def I6 (p:B1) (us:List B2) (D:List Int) (m n:Nat):List Int:=(List.range n).map (B3j p us D m)
theorem B7P {us:List B2} {i:Nat} (h:i<us.length):less1 us i 0=us:=by
 unfold less1
 refine D8i (by simp) fun j h1 h2=>?_
 rw [List.getElem_set]
 split
 ·rename_i e;subst e
  have e:gU us i=us[i]:=by unfold gU;rw [D5A,D5I h];rfl
  rw [e,Int.sub_zero]
 ·rfl
theorem C5D (d:List QE) {k:Nat} (h:k<d.length):gI (d.map (·.2)) k=(at_ d k).2:=D4 (fun e:QE=>e.2) d h
theorem B6E {p:B1} {us:List B2} {d:List QE} {m:Nat} (hP:A0c us (d.map (·.2))) {n:Nat} (hn:n≤d.length) {s:Nat} (hs:s % m=0) (hsm:s+m≤n):∀ k,k≤m →
  A1b p (D0 us (d.map (·.2)) (I6 p us (d.map (·.2)) m n) s) (d.drop s) k=(D0 us (d.map (·.2)) (I6 p us (d.map (·.2)) m n) (s+k),A2 ((I6 p us (d.map (·.2)) m n).take (s+k)) - A2 ((I6 p us (d.map (·.2)) m n).take s))
 | 0,_=>by unfold A1b;rw [D7U,Int.sub_self]
 | k+1,hk=>by
  have ih:=B6E (p:=p) hP hn hs hsm k (by omega)
  have hln:(I6 p us (d.map (·.2)) m n).length=n:=by unfold I6;simp
  have hml:(d.map (·.2)).length=d.length:=D5F ..
  have hrg:=hP.rng (s+k) (by omega)
  have hat:=A3Q (offs:=I6 p us (d.map (·.2)) m n) hP (show s+k<(d.map (·.2)).length by omega)
  have he:gI (I6 p us (d.map (·.2)) m n) (s+k)=if (k:Int)<p.buy then 0 else J8 (gU us (gI (d.map (·.2)) (s+k)).toNat).net p.rate:=by
   unfold I6
   rw [M8 _ (by omega)]
   unfold B3j
   rw [show (s+k) % m=k by rw [Nat.add_mod,hs,D5R,Nat.mod_mod,D8C (by omega)]]
   split<;>split<;>first | rfl | omega
  have hdr:at_ (d.drop s) k=at_ d (s+k):=by unfold at_;rw [D5A,D5A,D7l]
  have hts:=K5 (l:=I6 p us (d.map (·.2)) m n) (i:=s+k) (by omega)
  rw [←D8k]
  unfold A1b
  rw [ih,hts,he,hdr,←C5D d (by omega)]
  split
  ·rw [D7N]
   show _=(less1 _ _ _,_)
   rw [he,if_pos (by assumption),B7P (by rw [P7];exact hrg.2)]
  ·show _=(less1 _ _ _,_)
   rw [he,if_neg (by assumption),hat]
   congr 1
   show _ - _+_=_
   omega
theorem B9b {p:B1} {us:List B2} {d:List QE} {m:Nat} (hP:A0c us (d.map (·.2))) {q:Nat} (hn:q * m≤d.length):∀ r,r≤q →
  bgF p us d m r=(D0 us (d.map (·.2)) (I6 p us (d.map (·.2)) m (q * m)) (r * m),A2 ((I6 p us (d.map (·.2)) m (q * m)).take (r * m)))
 | 0,_=>by rw [Nat.zero_mul];rfl
 | r+1,hr=>by
  have ih:=B9b (p:=p) hP hn r (by omega)
  have e:(r+1) * m=r * m+m:=Nat.succ_mul r m
  have h1:r * m+m≤q * m:=by rw [←e];exact D6C m hr
  have h2:=B6E (p:=p) hP hn (s:=r * m) (Nat.mul_mod_left ..) h1 m (D5J _)
  unfold bgF
  rw [ih]
  simp only
  rw [h2,e]
  congr 1
  show _+(_ - _)=_
  omega
theorem B5E {us:List B2} {mine:List Int} (hm:N9 us mine):A0c us ((D9 us mine).map (·.2)):=by
 have hp:((D9 us mine).map (·.2)).Perm mine:=by
  refine ((A3n us mine).map _).trans (List.Perm.of_eq ?_)
  rw [D8a]
  exact (D6S fun x _=>rfl).trans (List.map_id mine)
 have hnd:mine.Pairwise (·≠·):=by
  rw [D7j]
  intro i j hi hj hij
  have:=hm.lt i j hij hj
  simp only [gI,D5A,D5I hi,D5I hj,Option.getD_some] at this
  omega
 have hr:∀ k,k<((D9 us mine).map (·.2)).length→0≤gI ((D9 us mine).map (·.2)) k∧(gI ((D9 us mine).map (·.2)) k).toNat<us.length:=fun k hk=>A8w (P:=fun x=>0≤x∧x.toNat<us.length) hp (fun x hx=>by obtain ⟨j,hj,rfl⟩:=D3 hx;exact hm.rng j hj) hk
 refine ⟨hr,fun i k hik hk=>?_⟩
 have h1:=(hp.symm.pairwise hnd (fun h=>h.symm))
 have:=B3E h1 hik hk
 have:=hr i (by omega)
 have:=hr k hk
 omega
theorem A0c.take {us:List B2} {l:List Int} (h:A0c us l) (n:Nat):A0c us (l.take n):=by
 have e:∀ k,k<(l.take n).length→gI (l.take n) k=gI l k∧k<l.length:=fun k hk=>by
  rw [D5K] at hk
  unfold gI
  rw [D5A,D5A,D5O (by omega)]
  exact ⟨rfl,by omega⟩
 exact ⟨fun k hk=>by rw [(e k hk).1];exact h.rng k (e k hk).2,fun i k hik hk=>by rw [(e k hk).1,(e i (by omega)).1];exact h.ne i k hik (e k hk).2⟩
theorem A8L {us:List B2} {l offs:List Int} {n:Nat}:∀ k,k≤n→D0 us (l.take n) offs k=D0 us l offs k
 | 0,_=>rfl
 | k+1,hk=>by
  unfold D0
  rw [A8L k (by omega)]
  congr 1
  unfold gI;rw [D5A,D5A,D5O (by omega)]
set_option maxHeartbeats 400000 in
theorem C1j (p:B1) (us:List B2) (mine:List Int) (hps:A2U p) (hright:H3 p=true) (hk:p.kind=3) (hp:B0G p) (hu:E2 us) (hm:N9 us mine) (st:St) :
  S P 217 [B9 p,C6 us,B0 mine] st fun v st'=>v=.tuple [C6 (W6 p us mine).1,eI (W6 p us mine).2]∧st'=st:=by
 have hB:=hp.buy
 have hG:=hp.get
 have hml:=hm.len
 have hul:=hu.len
 have hdl:((D9 us mine).map (·.2)).length=mine.length:=by rw [D5F,A1Z]
 have hP:=B5E hm
 obtain ⟨m,hm1⟩:∃ m:Nat,(m:Int)=p.buy+p.get:=⟨(p.buy+p.get).toNat,by omega⟩
 have w1:IntKind.i64.wrap (p.buy+p.get)=(m:Int):=by rw [A5 (by omega) (by omega)];omega
 have hq0:mine.length / m * m≤mine.length:=Nat.div_mul_le_self ..
 have hbg:=B9b (p:=p) (m:=m) hP (q:=mine.length / m) (by rw [A1Z];exact hq0) _ (D5J _)
 have hout:W6 p us mine=(if (decide (A2 (I6 p us ((D9 us mine).map (·.2)) m (mine.length / m * m))>0)&&p.closes)=true then closeB (D0 us ((D9 us mine).map (·.2)) (I6 p us ((D9 us mine).map (·.2)) m (mine.length / m * m)) (mine.length / m * m)) (((D9 us mine).map (·.2)).take (mine.length / m * m)) else D0 us ((D9 us mine).map (·.2)) (I6 p us ((D9 us mine).map (·.2)) m (mine.length / m * m)) (mine.length / m * m),A2 (I6 p us ((D9 us mine).map (·.2)) m (mine.length / m * m))):=by
  have hl:(I6 p us ((D9 us mine).map (·.2)) m (mine.length / m * m)).length=mine.length / m * m:=by unfold I6;simp
  unfold W6
  simp only
  rw [show (p.buy+p.get).toNat=m by omega,A1Z,hbg]
  simp only
  rw [show (I6 p us ((D9 us mine).map (·.2)) m (mine.length / m * m)).take (mine.length / m * m)=I6 p us ((D9 us mine).map (·.2)) m (mine.length / m * m) from D7t (by omega),List.map_take]
 refine F1 [3] Tryz.func217 ?_
 refine I2 (A7D p hps hright st) ?_
 rw [show (p.kind != 3)=false from by rw [hk];rfl];conv=>whnf
 refine I2 (B8n us mine hu hm st) ?_
 refine B3 (B9D us mine hu hm st) ?_
 clear hbg
 generalize (D9 us mine).map (·.2)=D at *
 conv=>whnf
 rw [w1,D5H (show ¬(m:Int)=0 by omega)];conv=>whnf
 have hN:IntKind.i64.wrap ((D.length:Int) - (D.length:Int).tmod (m:Int))=((mine.length / m * m:Nat):Int):=by
  rw [hdl,D7p (by omega),←Int.natCast_emod]
  have:=Nat.div_add_mod mine.length m
  rw [Nat.mul_comm] at this
  rw [A5 (by omega) (by omega)];omega
 rw [hN]
 generalize hNe:mine.length / m * m=N at *
 refine ⟨rfl,⟨by omega,by omega,by omega⟩,?_⟩;conv=>whnf
 refine lp N [1,3,8,9,10,11] (fun i vs s=>∃ sv,vs=[C6 us,.fptr (B9 p) 0,.arr 1 N (fun i=>eI (D.getD ((0:Int).toNat+i) default)),eI m,sv,eI i]∧E1 2 1 eI (I6 p us D m i) st sv s) ?_ ?_
 ·conv=>whnf
  exact ⟨.emp,rfl,E1.start _ _ _ _⟩
 ·rintro i vs s hi ⟨sv,rfl,hc⟩
  conv=>whnf
  cases hd:decide ((i:Int)<(N:Int))
  ·obtain rfl:=C2 hd hi
   have hln:(I6 p us D m i).length=i:=by unfold I6;simp
   have hb0:∀ k,k<(I6 p us D m i).length→0≤gI (I6 p us D m i) k∧gI (I6 p us D m i) k≤(gU us (gI (D.take i) k).toNat).net:=fun k hk=>by
    have e:gI (D.take i) k=gI D k:=by unfold gI;rw [D5A,D5A,D5O (by omega)]
    rw [e]
    unfold I6
    rw [M8 _ (by omega)]
    unfold B3j
    have h9:=hu.at0 (gI D k).toNat
    split
    ·exact ⟨(T9 _ _).1,A5g h9 hp.rate.1 hp.rate.2⟩
    ·exact ⟨D6j _,h9⟩
   have h0s:∀ x∈I6 p us D m i,0≤x:=fun x hx=>by obtain ⟨k,hk,rfl⟩:=D3 hx;exact (hb0 k hk).1
   have hsum:A2 (I6 p us D m i)≤1000000000000000:=by
    have h5:=A2w hu (hP.take i) (offs:=I6 p us D m i) (by rw [hln,D5K];omega) hb0 (I6 p us D m i).length (D5J _)
    rw [D5L] at h5
    have:=h5.sum
    have:=hu.sum
    have:=C1 (h5.ok hu).nets0
    omega
   have hE:A2M us (D.take i) (I6 p us D m i) p.closes=W6 p us mine:=by
    rw [hout]
    unfold A2M
    rw [hln,A8L i (D5J _)]
    have hn:=C1 h0s
    by_cases hz:A2 (I6 p us D m i)=0
    ·rw [if_pos hz,hz,A3c (A3S h0s hz) i (by omega)];rfl
    ·rw [if_neg hz,D6m (show A2 (I6 p us D m i)>0 by omega),D5P]
   rw [←hE];conv=>whnf
   have hsh:A7 [C6 us,.arr 1 i (fun i=>eI (D.getD ((0:Int).toNat+i) default)),sv,eB p.closes] s [C6 us,B0 (D.take i),B0 (I6 p us D m i),eB p.closes] st:=by
    refine A7.cons (t:=s) (A7.keep _ _) (A7.cons (t:=s) ?_ (A7.cons hc.shift (A7.keep _ _)))
    have e:B0 (D.take i)=.arr 1 i (fun k=>eI (gI (D.take i) k)):=by unfold B0 A8;rw [D5K,D8H (by omega)]
    rw [e]
    refine A7.arr fun k hk=>?_
    show eI (D.getD ((0:Int).toNat+k) default)=eI ((D.take i).getD k default)
    rw [show (0:Int).toNat+k=k by simp,D5A,D5A,D5O hk]
   refine F7 hsh (B3 (B4Q us (D.take i) (I6 p us D m i) p.closes hu (hP.take i) (by rw [D5K];omega) (by rw [hln,D5K];omega) hb0 hsum st) ?_);conv=>whnf
   exact ⟨rfl,rfl⟩
  ·have hi':=D6 hd
   have hr:=hP.rng i (by omega)
   have hrem:(i:Int).tmod (m:Int)=((i % m:Nat):Int):=by rw [D7p (by omega),Int.natCast_emod]
   have hln:(I6 p us D m i).length=i:=by unfold I6;simp
   have hsn:I6 p us D m (i+1)=I6 p us D m i++[B3j p us D m i]:=by unfold I6;rw [D7i,D6i];rfl
   have hbo:B3j p us D m i=if ((i % m:Nat):Int)≥p.buy then J8 (gU us (gI D i).toNat).net p.rate else 0:=rfl
   conv=>whnf
   refine ⟨[],[],List.range 6,by kernel_rfl,?_⟩;conv=>whnf
   rw [D5H (show ¬(m:Int)=0 by omega)];conv=>whnf
   rw [hrem]
   refine B8 (fun h1=>?_) (fun h1=>?_)<;>rw [h1]
   case' refine_1 =>
    rw [if_pos (D5D h1)] at hbo;conv=>whnf
    refine ⟨[],[],List.range 12,by kernel_rfl,?_⟩;conv=>whnf
    refine E4 ?_
    rw [show (0:Int).toNat+(i:Int).toNat=i by simp]
    refine ⟨rfl,⟨by show 0≤gI D i;omega,by show gI D i<(us.length:Int);omega⟩,?_⟩;conv=>whnf
    refine ⟨_,F2 (A8E (gU us (gI D i).toNat).net p.rate _),?_⟩
    rw [←hbo]
   case' refine_2 =>
    rw [if_neg (D5E h1)] at hbo
   all_goals (conv=>whnf)
   all_goals refine E1.app (q:=r2) (y:=B3j p us D m i) rfl rfl rfl rfl rfl (by first | rfl | (rw [hbo];rfl)) (by show (_+1) * 8≤140737488355328;omega) hc (fun sv' s' hc'=>?_)
   all_goals (conv=>whnf)
   all_goals refine ⟨rfl,?_⟩
   all_goals (conv=>whnf)
   all_goals exact nx hi' ⟨sv',by rw [B4 (by omega)],by rw [hsn];exact hc'⟩
theorem C1N (used:List Bool) (l:List QE):∃ pre,l=pre++(O7 used l).2∧∀ e∈pre,used.getD e.2.toNat default=true∨(O7 used l).1=some e.2:=by
 induction l with
 | nil=>exact ⟨[],rfl,fun e h=>by cases h⟩
 | cons e l ih =>
  by_cases hu:used.getD e.2.toNat default=true
  ·have ht:O7 used (e::l)=O7 used l:=by
    show (if used.getD e.2.toNat default=true then O7 used l else (some e.2,l))=_
    rw [if_pos hu]
   obtain ⟨pre,h1,h2⟩:=ih
   rw [ht]
   exact ⟨e::pre,by rw [D7V,←h1],fun x hx=>by
    rcases D7c.1 hx with rfl | hx
    ·exact .inl hu
    ·exact h2 x hx⟩
  ·have ht:O7 used (e::l)=(some e.2,l):=by
    show (if used.getD e.2.toNat default=true then O7 used l else (some e.2,l))=_
    rw [if_neg hu]
   rw [ht]
   exact ⟨[e],rfl,fun x hx=>by rw [D6f] at hx;subst hx;exact .inr rfl⟩
theorem B8I {used:List Bool} {pre:List QE} (h:∀ e∈pre,used.getD e.2.toNat default=true) (l:List QE):O7 used (pre++l)=O7 used l:=by
 induction pre with
 | nil=>rfl
 | cons e pre ih =>
  show (if used.getD e.2.toNat default=true then O7 used (pre++l) else (some e.2,pre++l))=_
  rw [if_pos (h e (D6c ..))]
  exact ih fun x hx=>h x (D6a _ hx)
def A4h (E:Nat→List QE) (n:Nat) (s:MSt):Prop:=∀ k,k<n→∃ pre,E k=pre++s.es k∧∀ e∈pre,s.used.getD e.2.toNat default=true
theorem A6k {used:List Bool} {i:Nat} (hi:i<used.length) (j:Nat):(used.set i true).getD j default=if j=i then true else used.getD j default:=by
 simp only [D5A,D7D]
 by_cases h:j=i
 ·subst h;simp [hi]
 ·rw [if_neg (fun e=>h e.symm),if_neg h]
theorem A4h.take {E:Nat→List QE} {us:List B2} {n:Nat} {s s':MSt} (h:A4h E n s) (hok:MOk us n s) {k:Nat} (hk:k<n) (ht:A1c k s=some s'):A4h E n s':=by
 obtain ⟨pre0,p1,p2⟩:=C1N s.used (s.es k)
 obtain ⟨_,t2,_,_⟩:=A3B s.used (s.es k)
 unfold A1c at ht
 split at ht
 ·cases ht
 ·rename_i i hi
  cases ht
  obtain ⟨e0,he0,rfl,_⟩:=t2 i hi
  have hlt:e0.2.toNat<s.used.length:=by rw [hok.len];exact (hok.rng k hk e0 he0).2
  intro j hj
  obtain ⟨pre,h1,h2⟩:=h j hj
  have hmono:∀ e:QE,s.used.getD e.2.toNat default=true→(s.used.set e0.2.toNat true).getD e.2.toNat default=true:=fun e he=>by
   rw [A6k hlt];split
   ·rfl
   ·exact he
  by_cases ej:j=k
  ·subst ej
   refine ⟨pre++pre0,?_,fun e he=>?_⟩
   ·show E j=_++A0m s.es j _ j
    rw [H1,D7b,←p1];exact h1
   ·rcases D6Q.1 he with he | he
    ·exact hmono e (h2 e he)
    ·rcases p2 e he with he | he
     ·exact hmono e he
     ·rw [hi] at he
      have he:=Option.some.inj he
      show (s.used.set _ true).getD _ default=true
      rw [A6k hlt,if_pos (by rw [he])]
  ·refine ⟨pre,?_,fun e he=>hmono e (h2 e he)⟩
   show E j=_++A0m s.es k _ j
   rw [N5 ej];exact h1
theorem A4h.takes {E:Nat→List QE} {us:List B2} {n:Nat} {s:MSt} (h:A4h E n s) (hok:MOk us n s) {k:Nat} (hk:k<n):∀ {c:Nat} {s':MSt},T2 k c s=some s'→A4h E n s'
 | 0,s',e=>by cases e;exact h
 | c+1,s',e=>by
  unfold T2 at e
  obtain ⟨s1,h1,h2⟩:=D6O.1 e
  exact (A4h.takes h hok hk h1).take (hok.takes hk h1) hk h2
theorem A4h.parts {E:Nat→List QE} {us:List B2} {p:B1} {s:MSt} (h:A4h E p.parts.length s) (hok:MOk us p.parts.length s):∀ {k:Nat} {s':MSt},k≤p.parts.length→L6 p.parts k s=some s'→A4h E p.parts.length s'
 | 0,s',_,e=>by cases e;exact h
 | k+1,s',hk,e=>by
  unfold L6 at e
  obtain ⟨s1,h1,h2⟩:=D6O.1 e
  exact (A4h.parts h hok (by omega) h1).takes (MOk.parts hok (by omega) h1) (by omega) h2
def A9o (p:B1) (ms:MSt):List Int:=match L6 p.parts p.parts.length ms with | none=>[] | some s=>C5 s.l
theorem C8q (p:B1) (hp:A4f p) (us:List B2) (hul:us.length≤100000) (E:Nat→List QE) (L:List (List Int)) (hL:L.length=p.parts.length) (hLE:∀ k,k<p.parts.length→L.getD k default=(E k).map (·.2)) (hE:∀ k,k<p.parts.length→(E k).length≤100000∧∀ e∈E k,0≤e.2∧e.2.toNat<us.length)
  (ms:MSt) (hl0:ms.l=[]) (hm:MOk us p.parts.length ms) (hpre:A4h E p.parts.length ms) (bu:Nat) (gu:Nat→AV) (st:St) (bl:Nat) (gl:Nat→AV) (hbl:st bl=some ⟨29,1,L.length,gl⟩) (hgl:∀ k,k<L.length→gl k=B0 (L.getD k default)) (hbu:st bu=some ⟨4,1,us.length,gu⟩) (hgu:∀ k,k<us.length→gu k=eB (ms.used.getD k default)) :
  S P 257 [B9 p,C6 us,.own 1 bl 0 L.length,.own 1 bu 0 us.length] st fun v st'=>v=B0 (A9o p ms)∧st'=st:=by
 refine S.post (post:=fun v st'=>((v=.emp∧A9o p ms=[])∨v=B0 (A9o p ms))∧E6 st st') ?_
  (fun v st' ⟨h,hs⟩=>⟨_,st,⟨rfl,rfl⟩,by
   rcases h with ⟨rfl,h⟩ | rfl
   ·rw [h];exact (hs.shift _).trans (I0 1 _)
   ·exact hs.shift _⟩)
 have hn8:=hp.n8
 refine SyW [4] Tryz.func257 ?_
 have main:∀ (tv:AV) (s0:St) ,Col 4 1 (fun k=>eB (ms.used.getD k default)) st us.length tv s0→True:=fun _ _ _=>trivial
 conv=>whnf
 refine Col.apps (q:=r4) (f:=fun k=>eB (ms.used.getD k default)) rfl rfl rfl rfl (C8D hbu rfl (by show 0+us.length≤us.length;omega)) (fun i hi=>by show gu (0+i)=eB (ms.used.getD (0+i) default);rw [D5R];exact hgu i hi) (by show (0+us.length) * 1≤_;omega) (Col.start _ _ _ st) (fun tv s0 hc0=>?_)
 rw [D5R] at hc0
 clear main
 conv=>whnf
 refine lp p.parts.length [2,4,9,10,11] (fun i vs s=>∃ sv tv s0 si,vs=[.own 1 bl 0 L.length,.fptr (B9 p) 0,sv,tv,eI i]∧L6 p.parts i ms=some si∧Col 4 1 (fun k=>eB (si.used.getD k default)) st us.length tv s0∧E1 3 1 eI si.l s0 sv s) ?_ ?_
 ·conv=>whnf
  exact ⟨.emp,tv,s0,ms,rfl,rfl,hc0,by rw [hl0];exact E1.start _ _ _ _⟩
 ·clear hc0
  rintro i vs s hi ⟨sv,tv,s0,si,rfl,hsi,hc0,hc1⟩
  have hmi:=MOk.parts hm hi hsi
  have hpi:=hpre.parts hm hi hsi
  have hleni:=A2b hp hi hsi
  rw [hl0,D6T] at hleni;conv=>whnf
  cases hd:decide ((i:Int)<(p.parts.length:Int))
  ·obtain rfl:=C2 hd hi
   have hone:A9o p ms=C5 si.l:=by unfold A9o;rw [hsi]
   conv=>whnf
   refine F7 hc1.shift (B3 (C1w si.l (by omega) _) ?_);conv=>whnf
   exact ⟨.inr (by rw [hone];rfl),hc0.sup⟩
  ·have hi':=D6 hd
   have hLi:L.getD (i:Int).toNat default=(E i).map (·.2):=by rw [D5N];exact hLE i hi'
   obtain ⟨hEl,hEr⟩:=hE i hi'
   have hct:=hp.at hi'
   obtain ⟨pre,hpr1,hpr2⟩:=hpi i hi'
   have hcn:(p.parts.getD (i:Int).toNat default).count=(((p.parts.getD i default).count.toNat:Nat):Int):=by rw [D5N];omega
   have hfin:L6 p.parts (i+1) ms=T2 i (p.parts.getD i default).count.toNat si:=by
    conv=>lhs;unfold L6
    rw [hsi];rfl
   have hnone:∀ n,n≤(p.parts.getD i default).count.toNat→T2 i n si=none→A9o p ms=[]:=fun n hn hnn=>by
    have h1:=A6p hnn hn
    rw [←hfin] at h1
    unfold A9o;rw [A5Y h1 hi']
   have hC100:(p.parts.getD i default).count.toNat≤100:=by omega
   generalize (p.parts.getD i default).count.toNat=C at *
   conv=>whnf
   refine lp (E i).length [2,4,9,10,11,12,13] (fun k vs s=>∃ (sv tv:AV) (s0:St) (n:Nat) (si2:MSt),vs=[.own 1 bl 0 L.length,.fptr (B9 p) 0,sv,tv,eI i,eI n,eI k]∧n≤C∧T2 i n si=some si2∧O7 si2.used (si2.es i)=O7 si2.used ((E i).drop k)∧Col 4 1 (fun k=>eB (si2.used.getD k default)) st us.length tv s0∧E1 3 1 eI si2.l s0 sv s) ?_ ?_
   ·conv=>whnf
    exact ⟨sv,tv,s0,0,si,rfl,D6b _,rfl,by rw [List.drop_zero,hpr1,B8I hpr2],hc0,hc1⟩
   ·clear hc0 hc1
    rintro k vs s hk ⟨sv,tv,s0,n,si2,rfl,hn,hs2,htk,hc0,hc1⟩
    have hm2:=hmi.takes hi' hs2
    have hlen2:=A2f hs2
    have hlv:=hc1.sup bl _ (hc0.sup bl _ hbl)
    have hgi:gl (0+(i:Int).toNat)=B0 (L.getD (i:Int).toNat default):=by rw [D5R];exact hgl _ (by omega)
    conv=>whnf
    refine E4 ?_
    refine I4 hlv hgi ?_
    rw [hLi]
    have hml:((E i).map (·.2)).length=(E i).length:=D5F ..
    generalize hMe:(E i).map (·.2)=Mi at *
    rw [hml]
    cases hd1:decide ((k:Int)<((E i).length:Int))
    case' false =>
     have hbad:n<C→A9o p ms=[]:=fun hlt=>by
      obtain rfl:=C2 hd1 hk
      refine hnone (n+1) hlt ?_
      unfold T2
      rw [hs2]
      show A1c i si2=none
      unfold A1c
      rw [htk,List.drop_length];rfl
     conv=>whnf
    case' true =>
     have hk':=D6 hd1
     conv=>whnf
     refine E4 ?_
     rw [hcn]
     cases hd2:decide ((n:Int)<(C:Int))
     case' false =>
      have hbad:n<C→A9o p ms=[]:=fun hlt=>absurd hd2 (by rw [D6m (by omega)];simp)
      conv=>whnf
     case' true =>
      have hnC:=D6 hd2
      have hMk:Mi.getD (k:Int).toNat default=(at_ (E i) k).2:=by rw [←hMe,D5N];exact D4 (fun e:QE=>e.2) _ hk'
      have hu:0≤(at_ (E i) k).2∧(at_ (E i) k).2.toNat<us.length:=hEr _ (A6 hk')
      have hdrop:(E i).drop k=at_ (E i) k::(E i).drop (k+1):=by
       rw [D7E hk'];simp [at_,hk']
      have hul2:us.length=si2.used.length:=hm2.len.symm
      rcases hc0 with ⟨h0,rfl,rfl⟩ | ⟨h0,bt,g,hbt,rfl,rfl,hg⟩
      ·omega
      have hbs:=hc1.sup bt _ (A0 ..)
      conv=>whnf
      refine E4 ?_
      refine I4 hlv hgi ?_
      rw [hLi]
      refine E4 ?_
      rw [←hMk] at hu
      refine E4 ?_
      refine ldV hbs rfl (by omega) (v:=eB (si2.used.getD (Mi.getD (k:Int).toNat default).toNat default)) (by rw [D5R];exact hg _ hu.2) ?_;conv=>whnf
      refine B8 (fun h5=>?_) (fun h5=>?_)<;>rw [h5]
      ·have hfr:si2.used.getD (Mi.getD (k:Int).toNat default).toNat default=false:=by simpa using h5
       have htk2:O7 si2.used (si2.es i)=(some (Mi.getD (k:Int).toNat default),(E i).drop (k+1)):=by
        rw [htk,hdrop,hMk]
        show (if si2.used.getD (at_ (E i) k).2.toNat default=true then _ else _)=_
        rw [if_neg (by rw [←hMk,hfr];simp)]
       have hs3:T2 i (n+1) si=some ⟨si2.used.set (Mi.getD (k:Int).toNat default).toNat true,A0m si2.es i ((E i).drop (k+1)),si2.l++[(Mi.getD (k:Int).toNat default)]⟩:=by
        unfold T2
        rw [hs2]
        show A1c i si2=_
        unfold A1c
        rw [htk2]
       conv=>whnf
       refine E4 ?_
       refine stV hbs rfl (by omega) (v:=eB (si2.used.getD (Mi.getD (k:Int).toNat default).toNat default)) (by rw [D5R];exact hg _ hu.2) (by rfl) ?_
       have hc2:=Col.write hc1 (y':=⟨4,1,us.length,I1 g (0+(Mi.getD (k:Int).toNat default).toNat) (eB true)⟩) (A0 ..)
       rw [B7] at hc2;conv=>whnf
       refine E1.app (q:=r3) (y:=(Mi.getD (k:Int).toNat default)) (L:=si2.l) rfl rfl rfl rfl rfl rfl (by show (_+1) * 8≤140737488355328;omega) hc2 (fun sv' s' hc'=>?_);conv=>whnf
       refine F6 ?_
       refine nx hk' ⟨sv',.own 1 bt 0 us.length,_,n+1,_,by rw [B4 (by omega),B4 (by omega)],hnC,hs3,?_,.inr ⟨h0,bt,_,hbt,rfl,rfl,fun j hj=>?_⟩,hc'⟩
       ·show O7 _ (A0m si2.es i _ i)=_
        rw [H1]
       ·show I1 g (0+(Mi.getD (k:Int).toNat default).toNat) (eB true) j=eB ((si2.used.set (Mi.getD (k:Int).toNat default).toNat true).getD j default)
        rw [D5R,A6k (by omega)]
        by_cases ej:j=(Mi.getD (k:Int).toNat default).toNat
        ·rw [if_pos ej,ej,A4]
        ·rw [if_neg ej,H4 ej];exact hg j hj
      ·have hfr:si2.used.getD (Mi.getD (k:Int).toNat default).toNat default=true:=by simpa using h5
       conv=>whnf
       refine F6 ?_
       refine nx hk' ⟨sv,.own 1 bt 0 us.length,_,n,si2,by rw [B4 (by omega)],hn,hs2,?_,.inr ⟨h0,bt,g,hbt,rfl,rfl,hg⟩,hc1⟩
       rw [htk,hdrop]
       show (if si2.used.getD (at_ (E i) k).2.toNat default=true then O7 si2.used ((E i).drop (k+1)) else _)=_
       rw [if_pos (by rw [←hMk];exact hfr)]
    all_goals
     refine E4 ?_
     rw [hcn]
     cases hd3:decide ((n:Int)<(C:Int))
     ·obtain rfl:n=C:=by have:=D5E hd3;omega
      conv=>whnf
      refine F6 ?_
      exact nx hi' ⟨sv,tv,s0,si2,by rw [B4 (by omega)],by rw [hfin];exact hs2,hc0,hc1⟩
     ·have hb:=hbad (D6 hd3)
      conv=>whnf
      exact ⟨.inl ⟨rfl,hb⟩,hc0.sup.trans hc1.sup⟩
abbrev RL (ls:List Int) (svl:AV):St→St→Prop:=fun s t=>ROut E6 2 1 (fun k=>eI (gI ls k)) ls.length s svl t
abbrev RA (all ls:List Int) (sva svl:AV):St→St→Prop:=fun s t=>ROut (RL ls svl) 3 1 (fun k=>eI (gI all k)) all.length s sva t
theorem B4d (ls:List Int) (svl:AV):L3 (RL ls svl):=U5 J3 _ _ _ _ _
theorem B8Y (all ls:List Int) (sva svl:AV):L3 (RA all ls sva svl):=U5 (B4d ls svl) _ _ _ _ _
theorem RA.appA {all ls:List Int} {sva svl:AV} {s t:St} {y:Int} {x:AV} {k:KK} {g:Nat→AV} (h:RA all ls sva svl s t) (hs:A0i 1 t x=some (1,g)) (hg:g 0=eI y) (hb:(all.length+1) * 8≤140737488355328)
  (hk:∀ sva' t',RA (all++[y]) ls sva' svl s t'→k sva' t'):A5x T 29 sva x t k :=
 ROut.app (q:=r3) (f:=fun k=>eI (gI (all++[y]) k)) (B4d ls svl) rfl rfl rfl rfl hs (by rw [hg];show eI y=eI (gI _ _);rw [A8h]) hb (ROut.congr h fun k hk=>by show eI _=eI _;rw [N6 hk]) (fun sv' t' h'=>hk sv' t' (by
  show ROut _ _ _ _ (all++[y]).length _ _ _
  rw [D5M];exact h'))
theorem RA.appL {all ls:List Int} {sva svl:AV} {s t:St} {y:Int} {x:AV} {k:KK} {g:Nat→AV} (h:RA all ls sva svl s t) (hs:A0i 1 t x=some (1,g)) (hg:g 0=eI y) (hb:(ls.length+1) * 8≤140737488355328)
  (hk:∀ svl' t',RA all (ls++[y]) sva svl' s t'→k svl' t'):A5x T 110 svl x t k:=by
 obtain ⟨s0,hc,h⟩:=h
 refine ROut.app (q:=r2) (f:=fun k=>eI (gI (ls++[y]) k)) J3 rfl rfl rfl rfl hs (by rw [hg];show eI y=eI (gI _ _);rw [A8h]) hb (ROut.congr h fun k hk=>by show eI _=eI _;rw [N6 hk]) (fun sv' t' h'=>hk sv' t' ⟨s0,hc,?_⟩)
 show ROut _ _ _ _ (ls++[y]).length _ _ _
 rw [D5M];exact h'
theorem RA.start (s:St):RA [] [] .emp .emp s s:=ROut.start (ROut.start (E6.refl s) _ _ _) _ _ _
theorem RA.shift {all ls:List Int} {sva svl:AV} {s t:St} (h:RA all ls sva svl s t) (a b:AV):∃ t2,A7 [a,sva,svl,b] t [a,B0 all,B0 ls,b] t2∧E6 s t2:=by
 obtain ⟨t1,h1,h2⟩:=ROut.shift (B4d ls svl) h
 obtain ⟨t2,h3,h4⟩:=ROut.shift J3 h2
 exact ⟨t2,A7.cons (A7.keep _ _) (A7.cons h1 (A7.cons h3 (A7.keep _ _))),h4⟩
def A3Y (u:List Bool) (l:List Int):List Bool:=l.foldl (fun u x=>u.set x.toNat true) u
theorem B8v (u:List Bool) (l:List Int):(A3Y u l).length=u.length:=by
 unfold A3Y
 induction l generalizing u with
 | nil=>rfl
 | cons x l ih=>rw [D6W,ih,D6M]
theorem B8u {u:List Bool} {l:List Int} (hl:∀ x∈l,x.toNat<u.length) (j:Nat):(A3Y u l).getD j default=true↔u.getD j default=true∨j∈l.map Int.toNat:=by
 unfold A3Y
 induction l generalizing u with
 | nil=>simp
 | cons x l ih =>
  rw [D6W,ih (fun y hy=>by rw [D6M];exact hl y (D6a _ hy)),A6k (hl x (D6c ..)),D6I,D7c]
  by_cases h:j=x.toNat
  ·simp [h]
  ·rw [if_neg h];simp [h]
theorem A9V {us:List B2} {l offs l' offs':List Int} (h:l.length=offs.length):∀ k,k≤offs'.length→k≤l'.length→D0 us (l++l') (offs++offs') (offs.length+k)=D0 (D0 us l offs offs.length) l' offs' k
 | 0,_,_=>by
  rw [D7U]
  have:∀ n,n≤offs.length→D0 us (l++l') (offs++offs') n=D0 us l offs n:=fun n=>by
   induction n with
   | zero=>intro _;rfl
   | succ n ih =>
    intro hn
    unfold D0
    rw [ih (by omega),N6 (by omega),N6 (by omega)]
  exact this _ (D5J _)
 | k+1,h1,h2=>by
  have ih:=A9V (us:=us) (l':=l') (offs':=offs') h k (by omega) (by omega)
  have e:∀ (a b:List Int),a.length=offs.length→gI (a++b) (offs.length+k)=gI b k:=fun a b ha=>by
   unfold gI
   rw [D5A,D5A,D5Y (by omega),ha,Nat.add_sub_cancel_left]
  rw [←D8k]
  unfold D0
  rw [ih,e l l' h,e offs offs' rfl]
structure C5h (p:B1) (us:List B2) (E:Nat→List QE) (D:Nat) (b:BSt) (ls:List Int):Prop where
 ok:BOk p us D b
 pre:A4h E p.parts.length ⟨b.ms.used,b.ms.es,[]⟩
 len:ls.length=b.taken.length
 out:b.out=D0 us b.taken ls ls.length
 sum:A2 ls=b.all
 pos:b.taken=[]∨0<b.all
 bnd:∀ k,k<ls.length→0≤gI ls k∧gI ls k≤(gU us (gI b.taken k).toNat).net
 nd:(b.taken.map Int.toNat).Nodup
 used:∀ x∈b.taken,b.ms.used.getD x.toNat default=true
theorem C5h.step {p:B1} (hp:A4f p) {us:List B2} (hu:E2 us) {E:Nat→List QE} {D:Nat} {b:BSt} {ls:List Int} (h:C5h p us E D b ls) {s:MSt} (hs:L6 p.parts p.parts.length ⟨b.ms.used,b.ms.es,[]⟩=some s) (hc:H9 us s.l>p.amount) :
  E3 us (C5 s.l)=I8 b.out (C5 s.l)∧C5h p us E D ⟨A3s b.out (C5 s.l) (H9 us s.l - p.amount),s,b.taken++C5 s.l,b.all+(H9 us s.l - p.amount)⟩ (ls++D2 (H9 us s.l - p.amount) (E3 us (C5 s.l))):=by
 obtain ⟨k1,k2,k3⟩:=h.ok.step hp hu hs hc
 have hok0:MOk us p.parts.length ⟨b.ms.used,b.ms.es,[]⟩:=⟨h.ok.ok.len,h.ok.ok.rng,h.ok.ok.srt,fun x hx=>by simp at hx⟩
 have hok:=MOk.parts hok0 (D5J _) hs
 have htr:=Y5.parts (Y5.start b.ms.used b.ms.es) hok0 (D5J _) hs
 have hpre:=h.pre.parts hok0 (D5J _) hs
 have hN:E3 us (C5 s.l)=I8 b.out (C5 s.l):=by
  unfold E3 I8
  exact D6S fun x hx=>by rw [h.ok.same _ (htr.free x (U7.1 hx))]
 have hW:=k1.weights
 rw [←hN] at hW
 obtain ⟨a1,a2,a3⟩:=T4 hW
 have hle:=fun {k} (hk:k<(E3 us (C5 s.l)).length)=>A3q hW (by have:=k1.le;rw [←hN] at this;exact this) hk
 have hnl:=A5b us (C5 s.l)
 have hlf:A3s b.out (C5 s.l) (H9 us s.l - p.amount)=D0 b.out (C5 s.l) (D2 (H9 us s.l - p.amount) (E3 us (C5 s.l))) (D2 (H9 us s.l - p.amount) (E3 us (C5 s.l))).length:=by
  unfold A3s;rw [←hN,a2,hnl]
 have hlen:=h.len
 generalize D2 (H9 us s.l - p.amount) (E3 us (C5 s.l))=X at *
 refine ⟨hN,⟨k2,hpre,?_,?_,?_,?_,?_,?_,?_⟩⟩
 ·show (ls++X).length=(b.taken++C5 s.l).length
  rw [D5M,D5M];omega
 ·show A3s _ _ _=D0 us (b.taken++C5 s.l) (ls++X) (ls++X).length
  rw [hlf,h.out,D5M,A9V h.len.symm X.length (D5J _) (by omega)]
 ·show A2 (ls++X)=_
  rw [F3,h.sum,a1]
 ·refine .inr ?_
  show 0<b.all+(H9 us s.l - p.amount)
  have:=h.ok.off.pos
  omega
 ·intro k hk
  show 0≤gI (ls++X) k∧gI (ls++X) k≤(gU us (gI (b.taken++C5 s.l) k).toNat).net
  by_cases hkl:k<ls.length
  ·rw [N6 hkl,N6 (by omega)];exact h.bnd k hkl
  ·have e:∀ (a b:List Int),a.length=ls.length→gI (a++b) k=gI b (k - ls.length):=fun a b ha=>by
    unfold gI
    rw [D5A,D5A,D5Y (by omega),ha]
   rw [D5M] at hk
   rw [e ls X rfl,e b.taken _ hlen.symm]
   refine ⟨a3 _ (A6 (by omega)),?_⟩
   have h9:=hle (k:=k - ls.length) (by omega)
   rw [show gI (E3 us (C5 s.l)) (k - ls.length)=(gU us (gI (C5 s.l) (k - ls.length)).toNat).net from D4 (fun i:Int=>(gU us i.toNat).net) _ (by omega)] at h9
   exact h9
 ·show ((b.taken++C5 s.l).map Int.toNat).Nodup
  rw [D6i]
  refine List.nodup_append.2 ⟨h.nd,((A1r s.l).map Int.toNat).nodup_iff.2 htr.nd,fun x hx y hy e=>?_⟩
  subst e
  obtain ⟨u,hu1,rfl⟩:=D5X.1 hx
  obtain ⟨w,hw1,hw2⟩:=D5X.1 hy
  have f1:=h.used u hu1
  have f2:=htr.free w (U7.1 hw1)
  rw [hw2,f1] at f2;cases f2
 ·intro x hx
  show s.used.getD x.toNat default=true
  rw [htr.used]
  rcases D6Q.1 hx with hx | hx
  ·exact .inl (h.used x hx)
  ·exact .inr (D8p (U7.1 hx))
set_option maxHeartbeats 1000000 in
theorem C1i (p:B1) (us:List B2) (parts:List (List Int)) (hps:A2U p) (hright:H3 p=true) (hk:p.kind=4) (hp:A4f p) (hu:E2 us) (hl:parts.length=p.parts.length) (hm:∀ x∈parts,N9 us x) (st:St) :
  S P 219 [B9 p,C6 us,A8 1 B0 parts] st fun v st'=>v=.tuple [C6 (R5 p us parts).1,eI (R5 p us parts).2]∧st'=st:=by
 have hul:=hu.len
 have hn1:=hp.n1
 have hn8:=hp.n8
 have ha:=hp.amt
 have hme:∀ k,k<parts.length→N9 us (parts.getD k default):=fun k hk=>hm _ (A6 hk)
 have hst0:=A5K hu hl (fun k hk=>hme k hk)
 have hD:tot p.parts.length (F5 us parts).ms.es≤800000:=by
  have:=C4I (n:=p.parts.length) (B:=100000) (es:=(F5 us parts).ms.es) (fun i hi=>by
   show (D9 us (parts.getD i [])).length≤100000
   rw [A1Z]
   exact D6R (hme i (by omega)).len hul)
  have h8:p.parts.length * 100000≤8 * 100000:=D6C _ hn8
  omega
 refine A1C ?_
 refine F1 [3] Tryz.func219 ?_
 refine Col.apps (q:=C1h) (f:=fun k=>Z5 (gU us k)) rfl rfl rfl rfl (A2K _ _ _ _) (fun i hi=>by rw [D5R]) (by show (0+us.length) * 24≤_;omega) (Col.start _ _ _ st) (fun svS st1 hcS=>?_)
 have hsupS:=hcS.sup
 clear hcS
 conv=>whnf
 refine I2 (A7D p hps hright _) ?_
 rw [show (p.kind != 4)=false from by rw [hk];rfl];conv=>whnf
 rw [show ((parts.length:Int) != (p.parts.length:Int))=false from by rw [hl];simp];conv=>whnf
 refine lp parts.length [1,2,3,8,9,10] (fun i vs s=>∃ sv,vs=[C6 us,A8 1 B0 parts,.fptr (B9 p) 0,svS,sv,eI i]∧E1 29 1 B0 ((parts.take i).map fun m=>(D9 us m).map (·.2)) st1 sv s) ?_ ?_
 ·conv=>whnf
  exact ⟨.emp,rfl,E1.start _ _ _ _⟩
 ·rintro i vs s hi ⟨sv,rfl,hc⟩
  conv=>whnf
  cases hd:decide ((i:Int)<(parts.length:Int))
  case true =>
   have hi':=D6 hd
   have hmi:N9 us (parts.getD (i:Int).toNat default):=by rw [D5N];exact hme i hi'
   conv=>whnf
   refine E4 ?_
   refine I2 (B8n us _ hu hmi _) ?_
   refine E4 ?_
   refine I2 (B9D us _ hu hmi _) ?_
   refine E1.app (q:=r29) (y:=(D9 us (parts.getD (i:Int).toNat default)).map (·.2)) rfl rfl rfl rfl rfl rfl (by show (_+1) * 24≤140737488355328;rw [D5F,D5K];omega) hc (fun sv' s' hc'=>?_);conv=>whnf
   refine F6 ?_
   exact nx hi' ⟨sv',by rw [B4 (by omega)],by rw [A1Q hi'];exact hc'⟩
  obtain rfl:=C2 hd hi
  rw [D5L] at hc
  have hLl:(parts.map fun m=>(D9 us m).map (·.2)).length=parts.length:=D5F ..
  have hLg:∀ k,k<parts.length→(parts.map fun m=>(D9 us m).map (·.2)).getD k default=(D9 us (parts.getD k default)).map (·.2):=fun k hk=>D4 (fun m=>(D9 us m).map (·.2)) parts hk
  generalize (parts.map fun m=>(D9 us m).map (·.2))=L at *
  rcases hc with ⟨h0,_⟩ | ⟨h0,bl,gl,hbl,rfl,rfl,hgl⟩
  ·omega
  conv=>whnf
  refine mkO rfl rfl rfl (by show 1 * us.length≤_;omega) (by omega) (by rfl) (fun bu hbu=>?_)
  have hnlu:bl≠bu:=fun e=>by subst e;rw [A0] at hbu;cases hbu
  have hblS:(upd st1 bl ⟨29,1,L.length,gl⟩) bl=some ⟨29,1,L.length,gl⟩:=A0 ..
  have hsup2:E6 st (upd st1 bl ⟨29,1,L.length,gl⟩):=hsupS.upd hbl
  generalize upd st1 bl ⟨29,1,L.length,gl⟩=st2 at *
  conv=>whnf
  have hwb:∀ Y:K8,(upd st2 bu Y) bl=some ⟨29,1,L.length,gl⟩:=fun Y=>by rw [A9 hnlu];exact hblS
  refine ⟨[1,3,9,11,12,13],fun m vs s=>∃ (b:BSt) (ls:List Int) (sva svl:AV) (gu:Nat→AV) (f:Nat),m=tot p.parts.length b.ms.es∧vs=[C6 us,.fptr (B9 p) 0,.own 1 bl 0 L.length,.own 1 bu 0 us.length,sva,svl] ∧
   C5h p us (fun k=>D9 us (parts.getD k default)) (tot p.parts.length (F5 us parts).ms.es) b ls∧(tot p.parts.length b.ms.es<f∧A3m p us (tot p.parts.length (F5 us parts).ms.es+1) (F5 us parts)=A3m p us f b) ∧
   RA b.taken ls sva svl (upd st2 bu ⟨4,1,us.length,gu⟩) s∧∀ k,k<us.length→gu k=eB (b.ms.used.getD k default),?_,?_⟩
  ·conv=>whnf
   refine ⟨_,F5 us parts,[],.emp,.emp,_,_,rfl,rfl,?_,⟨D8t _,rfl⟩,RA.start _,fun k hk=>?_⟩
   ·refine ⟨hst0,fun k hk=>⟨[],rfl,fun e he=>by cases he⟩,rfl,rfl,rfl,.inl rfl,fun k hk=>absurd hk (by simp),List.nodup_nil,fun x hx=>by simp [F5] at hx⟩
   ·show eB false=eB ((List.replicate us.length false).getD k default)
    simp [D5A,hk]
  ·rintro m vs s ⟨b,ls,sva,svl,gu,f,rfl,rfl,hI,⟨hf1,hF⟩,hR,hgu⟩
   have hok0:MOk us p.parts.length ⟨b.ms.used,b.ms.es,[]⟩:=⟨hI.ok.ok.len,hI.ok.ok.rng,hI.ok.ok.srt,fun x hx=>by simp at hx⟩
   have hBA:=B8Y b.taken ls sva svl
   have hsu:=hBA.sup hR
   have hsu1:=hsu bu _ (A0 ..)
   have hsl1:=hsu bl _ (hwb _)
   have hbl2:=hI.ok.len
   obtain ⟨f,rfl⟩:∃ g,f=g+1:=⟨f - 1,by omega⟩
   conv=>whnf
   refine B3 (C8q p hp us hul (fun k=>D9 us (parts.getD k default)) L (by omega) (fun k hk=>hLg k (by omega)) (fun k hk=>⟨by show (D9 _ _).length≤_;rw [A1Z];exact D6R (hme k (by omega)).len hul,fun e he=>A6E (hme k (by omega)).rng he⟩) ⟨b.ms.used,b.ms.es,[]⟩ rfl hok0 hI.pre bu gu s bl gl hsl1 hgl hsu1 hgu) ?_
   have fin:A2h p us b=none→∀ t,RA b.taken ls sva svl (upd st2 bu ⟨4,1,us.length,gu⟩) t→∃ t2,A7 [C6 us,sva,svl,eB p.closes] t [C6 us,B0 b.taken,B0 ls,eB p.closes] t2∧E6 st t2 ∧
     S P 255 [C6 us,B0 b.taken,B0 ls,eB p.closes] t2 fun v st'=>v=.tuple [C6 (R5 p us parts).1,eI (R5 p us parts).2]∧st'=t2:=fun hno t ht=>by
    obtain ⟨t2,h1,h2⟩:=ht.shift (C6 us) (eB p.closes)
    have hPl:A0c us b.taken:=B3C hI.ok.mem hI.nd
    have hout:A3m p us (tot p.parts.length (F5 us parts).ms.es+1) (F5 us parts)=b:=by
     rw [hF];unfold A3m;rw [hno]
    have h0s:∀ x∈ls,0≤x:=fun x hx=>by obtain ⟨k,hk,rfl⟩:=D3 hx;exact (hI.bnd k hk).1
    have hE:A2M us b.taken ls p.closes=R5 p us parts:=by
     unfold R5 A2M
     simp only
     rw [hout,←hI.sum,hI.out]
     by_cases hz:A2 ls=0
     ·have ht0:b.taken=[]:=by
       rcases hI.pos with e | e
       ·exact e
       ·rw [←hI.sum] at e;omega
      rw [if_pos hz,A3c (A3S h0s hz) _ (D5J _),ht0,hz]
      show (us,(0:Int))=(if p.closes=true then us else us,0)
      split<;>rfl
     ·rw [if_neg hz]
    have hsum:A2 ls≤10000000000000:=by
     have h5:=hI.ok.off.sum
     have:=hu.sum
     have:=C1 (hI.ok.off.ok hu).nets0
     rw [hI.sum];omega
    have hlen:=hI.len
    have htl:b.taken.length≤1000000:=by have:=hI.ok.len;omega
    refine ⟨t2,h1,(hsup2.upd hbu).trans h2,?_⟩
    rw [←hE]
    exact B4Q us b.taken ls p.closes hu hPl htl (by omega) hI.bnd (by omega) t2
   cases hs:L6 p.parts p.parts.length ⟨b.ms.used,b.ms.es,[]⟩ with
   | none =>
    have hone:A9o p ⟨b.ms.used,b.ms.es,[]⟩=[]:=by unfold A9o;rw [hs]
    obtain ⟨t2,g1,g2,g3⟩:=fin (by unfold A2h;rw [hs]) s hR
    rw [hone];conv=>whnf
    refine I2 (A6Q us [] (by simp) (fun k hk=>absurd hk (by simp)) _) ?_
    refine I2 (A9A [] (by simp) (fun x hx=>by cases hx) (by decide) _) ?_
    refine F7 g1 (B3 g3 ?_);conv=>whnf
    exact ⟨rfl,g2⟩
   | some s1 =>
    have hok:=MOk.parts hok0 (D5J _) hs
    have htr:=Y5.parts (Y5.start b.ms.used b.ms.es) hok0 (D5J _) hs
    have hlen1:=A2b hp (D5J _) hs
    have hpos:=A5Z hp hs
    simp only [D6T] at hlen1 hpos
    have hone:A9o p ⟨b.ms.used,b.ms.es,[]⟩=C5 s1.l:=by unfold A9o;rw [hs]
    have hcost:A2 (E3 us (C5 s1.l))=H9 us s1.l:=A6V ((A1r s1.l).map fun i:Int=>(gU us i.toNat).net)
    have hcb:=A1v hu s1.l hok.mem
    have hSl:(C5 s1.l).length=s1.l.length:=X7 _
    have hSr:∀ k,k<(C5 s1.l).length→0≤gI (C5 s1.l) k∧(gI (C5 s1.l) k).toNat<us.length:=fun k hk=>hok.mem _ (U7.1 (A6 hk))
    have hnl:=A5b us (C5 s1.l)
    have hn0:∀ x∈E3 us (C5 s1.l),0≤x:=fun x hx=>by obtain ⟨i,hi,rfl⟩:=D5X.1 hx;exact hu.at0 _
    rw [hone];conv=>whnf
    refine I2 (A6Q us (C5 s1.l) (by omega) hSr _) ?_
    refine B3 (A9A _ (by omega) hn0 (by rw [hcost];omega) _) ?_
    rw [hcost];conv=>whnf
    rw [show (((C5 s1.l).length:Int)==0)=false from D7r (by omega)];conv=>whnf
    refine B8 (fun hc=>?_) (fun hc=>?_)<;>rw [hc]
    ·have hc':=D5D hc
     obtain ⟨t2,g1,g2,g3⟩:=fin (by unfold A2h;rw [hs];simp only;rw [if_neg (by omega)]) s hR
     conv=>whnf
     refine F7 g1 (B3 g3 ?_);conv=>whnf
     exact ⟨rfl,g2⟩
    ·have hc':H9 us s1.l>p.amount:=by have:=D5E hc;omega
     obtain ⟨hN,hI2⟩:=hI.step hp hu hs hc'
     obtain ⟨k1,k2,k3⟩:=hI.ok.step hp hu hs hc'
     have hW:=k1.weights
     rw [←hN] at hW
     have hXl:=(T4 hW).2.1
     have hstep:A3m p us (f+1) b=A3m p us f ⟨A3s b.out (C5 s1.l) (H9 us s1.l - p.amount),s1,b.taken++C5 s1.l,b.all+(H9 us s1.l - p.amount)⟩:=by
      conv=>lhs;unfold A3m A2h
      rw [hs];simp only;rw [if_pos hc']
     have w1:IntKind.i64.wrap (H9 us s1.l - p.amount)=H9 us s1.l - p.amount:=A5 (by omega) (by omega)
     have hkl:=k2.len
     simp only at hkl k3
     rw [D5M] at hkl
     have hll:=hI.len
     conv=>whnf
     refine ⟨[],[],List.range 13,by kernel_rfl,?_⟩;conv=>whnf
     refine cqW (A6Q us (C5 s1.l) (by omega) hSr _) ?_
     rw [w1]
     refine ⟨_,F2 (A7F _ (E3 us (C5 s1.l)) hW _),?_⟩
     generalize D2 (H9 us s1.l - p.amount) (E3 us (C5 s1.l))=X at *
     conv=>whnf
     refine lp (C5 s1.l).length [1,3,9,11,12,13,14,16,18] (fun i vs s=>∃ (sva svl:AV) (g:Nat→AV),vs=[C6 us,.fptr (B9 p) 0,.own 1 bl 0 L.length,.own 1 bu 0 us.length,sva,svl,B0 (C5 s1.l),B0 X,eI i] ∧
      RA (b.taken++(C5 s1.l).take i) (ls++X.take i) sva svl (upd st2 bu ⟨4,1,us.length,g⟩) s∧∀ k,k<us.length→g k=eB ((A3Y b.ms.used ((C5 s1.l).take i)).getD k default)) ?_ ?_
     ·conv=>whnf
      exact ⟨sva,svl,gu,rfl,by rw [D7o,D7o,D7v,D7v];exact hR,hgu⟩
     ·clear hR hgu fin hsu hsu1 hsl1 hBA
      rintro i vs s hi ⟨sva,svl,g,rfl,hR,hg⟩
      have hBA:=B8Y (b.taken++(C5 s1.l).take i) (ls++X.take i) sva svl
      conv=>whnf
      cases hd:decide ((i:Int)<((C5 s1.l).length:Int))
      ·obtain rfl:=C2 hd hi
       rw [D5L] at hR hg
       rw [D7t (show X.length≤(C5 s1.l).length by omega)] at hR;conv=>whnf
       refine F6 ?_
       refine ⟨tot p.parts.length s1.es,k3,_,_,sva,svl,g,f,rfl,rfl,hI2,⟨by show tot p.parts.length s1.es<f;omega,by rw [←hstep];exact hF⟩,hR,fun k hk=>?_⟩
       rw [hg k hk]
       congr 1
       show (A3Y b.ms.used (C5 s1.l)).getD k default=s1.used.getD k default
       rw [←D7J,B8u (fun x hx=>by rw [hI.ok.ok.len];exact (hok.mem x (U7.1 hx)).2),htr.used]
       constructor
       ·rintro (h | h)
        ·exact .inl h
        ·obtain ⟨y,hy,rfl⟩:=D5X.1 h;exact .inr (D8p (U7.1 hy))
       ·rintro (h | h)
        ·exact .inl h
        ·obtain ⟨y,hy,rfl⟩:=D5X.1 h;exact .inr (D8p (U7.2 hy))
      ·have hi':=D6 hd
       have hr:=hSr i hi'
       have hg2:=hBA.sup hR bu _ (A0 ..)
       have tk:∀ (l:List Int),i<l.length→l.take (i+1)=l.take i++[gI l i]:=fun l h=>K6 h
       conv=>whnf
       refine E4 ?_
       refine ⟨rfl,⟨by show 0≤gI (C5 s1.l) i;omega,by show gI (C5 s1.l) i<(us.length:Int);omega⟩,?_⟩;conv=>whnf
       refine stV hg2 rfl (by show 0+(gI (C5 s1.l) i).toNat<us.length;omega) (v:=eB ((A3Y b.ms.used ((C5 s1.l).take i)).getD (gI (C5 s1.l) i).toNat default)) (by show g (0+(gI (C5 s1.l) i).toNat)=_;rw [D5R];exact hg _ hr.2) (by rfl) ?_
       have hR2:=hBA.write (y':=⟨4,1,us.length,I1 g (0+(gI (C5 s1.l) i).toNat) (eB true)⟩) hR (A0 ..)
       rw [B7] at hR2
       have hgn:∀ k,k<us.length→I1 g (0+(gI (C5 s1.l) i).toNat) (eB true) k=eB ((A3Y b.ms.used ((C5 s1.l).take (i+1))).getD k default):=fun k hk=>by
        have e:A3Y b.ms.used ((C5 s1.l).take (i+1))=(A3Y b.ms.used ((C5 s1.l).take i)).set (gI (C5 s1.l) i).toNat true:=G8 hi' _ _
        rw [e,D5R,A6k (by rw [B8v,hI.ok.ok.len];exact hr.2)]
        by_cases ej:k=(gI (C5 s1.l) i).toNat
        ·rw [if_pos ej,ej,A4]
        ·rw [if_neg ej,H4 ej];exact hg k hk
       conv=>whnf
       refine ⟨[4,5,6,11,12,13],[],[],.qui 0 (.qui 1 (.qui 2 (.qui 3 (.qui 7 (.qui 8 (.qui 9 (.qui 10 (.two 4 11 (.two 5 11 (.two 6 11 (.gen 11 (.gen 12 (.gen 13 (.qui 14 (.qui 15 .done))))) (.two 6 12 (.gen 12 (.gen 13 (.qui 14 (.qui 15 .done)))) (.gen 6 (.gen 13 (.qui 14 (.qui 15 .done)))))) (.two 5 12 (.two 6 12 (.gen 12 (.gen 13 (.qui 14 (.qui 15 .done)))) (.gen 6 (.gen 13 (.qui 14 (.qui 15 .done))))) (.gen 5 (.gen 6 (.gen 13 (.qui 14 (.qui 15 .done))))))) (.two 4 12 (.two 5 12 (.two 6 12 (.gen 12 (.gen 13 (.qui 14 (.qui 15 .done)))) (.gen 6 (.gen 13 (.qui 14 (.qui 15 .done))))) (.gen 5 (.gen 6 (.gen 13 (.qui 14 (.qui 15 .done)))))) (.gen 4 (.gen 5 (.gen 6 (.gen 13 (.qui 14 (.qui 15 .done))))))))))))))),by kernel_rfl,?_⟩;conv=>whnf
       refine E4 ?_
       refine E4 ?_
       repeat' (refine And.intro ?_ ?_<;>(conv=>whnf))
       all_goals refine RA.appA (all:=b.taken++(C5 s1.l).take i) (ls:=ls++X.take i) (y:=gI (C5 s1.l) i) hR2 rfl rfl (by rw [D5M,D5K];omega) (fun sva' t' hR3=>?_)
       all_goals (conv=>whnf)
       all_goals refine RA.appL (all:=b.taken++(C5 s1.l).take i++[gI (C5 s1.l) i]) (ls:=ls++X.take i) (y:=gI X i) hR3 rfl rfl (by rw [D5M,D5K];omega) (fun svl' t'' hR4=>?_)
       all_goals (conv=>whnf)
       all_goals refine ⟨rfl,?_⟩
       all_goals (conv=>whnf)
       all_goals exact nx hi' ⟨sva',svl',I1 g (0+(gI (C5 s1.l) i).toNat) (eB true),by rw [B4 (by omega)],by rw [tk _ hi',tk _ (by omega),←D7b,←D7b];exact hR4,hgn⟩
def A0K (l:List Int):List Int:=l.foldl (fun a x=>if x∈a then a else a++[x]) []
theorem B8a (l:List Int) (x:Int):A0K (l++[x])=if x∈A0K l then A0K l else A0K l++[x]:=by
 unfold A0K;rw [D7P];rfl
theorem B1w (l:List Int):(A0K l).Nodup∧∀ x,x∈A0K l↔x∈l:=by
 have:∀ (l a:List Int),a.Nodup→(l.foldl (fun a x=>if x∈a then a else a++[x]) a).Nodup∧∀ x,x∈l.foldl (fun a x=>if x∈a then a else a++[x]) a↔x∈a∨x∈l:=by
  intro l
  induction l with
  | nil=>intro a h;exact ⟨h,fun x=>by simp⟩
  | cons y l ih =>
   intro a h
   rw [D6W]
   split
   ·rename_i hy
    obtain ⟨h1,h2⟩:=ih a h
    refine ⟨h1,fun x=>?_⟩
    rw [h2,D7c]
    constructor
    ·rintro (h3 | h3)
     ·exact .inl h3
     ·exact .inr (.inr h3)
    ·rintro (h3 | rfl | h3)
     ·exact .inl h3
     ·exact .inl hy
     ·exact .inr h3
   ·rename_i hy
    obtain ⟨h1,h2⟩:=ih (a++[y]) (List.nodup_append.2 ⟨h,by simp,fun p hp q hq e=>by rw [D6f] at hq;subst hq;subst e;exact hy hp⟩)
    refine ⟨h1,fun x=>?_⟩
    rw [h2,D6Q,D6f,D7c,or_assoc]
 obtain ⟨h1,h2⟩:=this l [] List.nodup_nil
 exact ⟨h1,fun x=>by rw [show x∈A0K l↔x∈([]:List Int)∨x∈l from h2 x];simp⟩
theorem B5C (l:List Int):X9 l=((List.range l.length).filter fun k=>k==0||gI l k != gI l (k - 1)).map (gI l):=by
 unfold X9 Go.Lib.compactUpTo
 have hg:∀ k,k<l.length→l.toArray[k]! = gI l k:=fun k hk=>by rw [getElem!_pos _ k (by simpa using hk)];simp [gI,hk]
 have hf:(List.range l.length).filter (Go.Lib.keeps l.toArray)=(List.range l.length).filter fun k=>k==0||gI l k != gI l (k - 1):=by
  refine List.filter_congr fun k hk=>?_
  have:=D5U.1 hk
  unfold Go.Lib.keeps
  rw [hg k this,hg (k - 1) (by omega)]
  rw [←D7J,D5C,D6H,D6z,D8e]
 rw [hf]
 exact D6S fun k hk=>hg k (D5U.1 (D6D.1 hk).1)
theorem B7u {l:List Int} (hs:l.Pairwise (·≤·)):(X9 l).Nodup∧∀ x,x∈X9 l↔x∈l:=by
 refine ⟨?_,fun x=>⟨B3l,fun hx=>?_⟩⟩
 ·rw [B5C]
  refine List.Pairwise.map _ (fun a b h=>h) ?_ 
  refine List.Pairwise.imp_of_mem (R:=(·<·)) ?_ ((List.pairwise_lt_range (n:=l.length)).filter _)
  intro a b ha hb hab
  obtain ⟨h1,h2⟩:=D6D.1 hb
  have h3:=D5U.1 h1
  rw [D6H,D6z,D8e] at h2
  have h4:gI l (b - 1)≤gI l b:=B3E hs (by omega) h3
  have h5:gI l a≤gI l (b - 1):=by
   rcases D8D (show a≤b - 1 by omega) with e | e
   ·rw [e];exact D6j _
   ·exact B3E hs e (by omega)
  show gI l a≠gI l b
  rcases h2 with h2 | h2<;>omega
 ·rw [B5C,D5X]
  obtain ⟨k,hk,rfl⟩:=D3 hx
  induction k with
  | zero=>exact ⟨0,D6D.2 ⟨D5U.2 hk,rfl⟩,rfl⟩
  | succ k ih =>
   by_cases e:gI l (k+1)=gI l k
   ·have:=ih (by omega) (by rw [show l.getD k default=l.getD (k+1) default from e.symm];exact hx)
    obtain ⟨j,h1,h2⟩:=this
    exact ⟨j,h1,h2.trans e.symm⟩
   ·exact ⟨k+1,D6D.2 ⟨D5U.2 hk,by rw [D6H,D8e];exact .inr e⟩,rfl⟩
theorem C3r (us:List B2) (l:List Int):A1U us (X9 (C5 l))=A1U us (A0K l):=by
 obtain ⟨h1,h2⟩:=B7u (B6P l)
 obtain ⟨h3,h4⟩:=B1w l
 have hp:(X9 (C5 l)).Perm (A0K l):=(List.perm_ext_iff_of_nodup h1 h3).2 fun x=>by rw [h2,h4,U7]
 exact A6V (hp.map _)
theorem C0U (l:List Int):(A0K l).length≤l.length:=by
 have:∀ (l a:List Int),(l.foldl (fun a x=>if x∈a then a else a++[x]) a).length≤a.length+l.length:=by
  intro l
  induction l with
  | nil=>intro a;simp
  | cons y l ih =>
   intro a
   rw [D6W]
   split
   ·have:=ih a;rw [D6n];omega
   ·have:=ih (a++[y]);rw [D5M,D6n,D6T] at this;rw [D6n];omega
 have h:=this l []
 rw [D6T,D5R] at h;exact h
structure PSm (p:B1):Prop where
 sm:A2U p
 right:H3 p=true
 fit:Q7 p
set_option maxHeartbeats 400000 in
theorem C8p (items:List Ab.Item) (us:List B2) (pr:B1) (hp:PSm pr) (hk:pr.kind≠7) (hu:A6Z items us) (st:St) :
  S P 164 [B9 pr,C6 us,A8 4 E5 items] st fun v st'=>(∃ x,v=.tuple [C6 x,eI (A0j items us pr).2]∧(0<(A0j items us pr).2→x=(A0j items us pr).1))∧st'=st:=by
 have ok:=A3N hp.right
 have hul:=hu.ok.len
 have hB:=ok.bun
 by_cases h4:pr.kind=4
 ·have hW:A0j items us pr=A1e items us pr:=by unfold A0j;rw [if_pos h4]
  rw [hW]
  obtain ⟨hbn,hbs⟩:=hB h4
  have hn8:=hbn.n8
  have hpl:(Q9 items us pr).length=pr.parts.length:=D5F ..
  have hbP:A1e items us pr=if A1U us (A0K (A0x items us pr pr.parts.length))<pr.least then ([],0) else R5 pr us (Q9 items us pr):=by unfold A1e;rw [C3r]
  refine A1C ?_
  refine F1 [3] Tryz.func164 ?_
  rw [show (pr.kind != 4)=false from by rw [h4];rfl];conv=>whnf
  refine mkO rfl rfl rfl (by show 1 * us.length≤_;omega) (by omega) (by rfl) (fun bs hbs0=>?_);conv=>whnf
  refine lp pr.parts.length [1,2,3,9,10,11,12] (fun i vs s=>∃ sv g,vs=[C6 us,A8 4 E5 items,.fptr (B9 pr) 0,sv,.own 1 bs 0 us.length,eI (A1U us (A0K (A0x items us pr i))),eI i]∧E1 29 1 B0 ((Q9 items us pr).take i) (upd st bs ⟨4,1,us.length,g⟩) sv s∧∀ k,k<us.length→g k=eB (decide ((k:Int)∈A0x items us pr i))) ?_ ?_
  ·conv=>whnf
   exact ⟨.emp,_,rfl,E1.start _ _ _ _,fun k hk=>by rw [show A0x items us pr 0=[] from rfl];simp;rfl⟩
  ·rintro i vs s hi ⟨sv,g,rfl,hc,hg⟩
   conv=>whnf
   cases hd:decide ((i:Int)<(pr.parts.length:Int))
   ·obtain rfl:=C2 hd hi
    rw [←hpl,D5L] at hc;conv=>whnf
    refine B8 (fun h1=>?_) (fun h1=>?_)<;>rw [h1]
    ·have:=D5D h1
     rw [if_pos (by omega)] at hbP;conv=>whnf
     exact ⟨⟨us,by rw [hbP];rfl,fun h=>by rw [hbP] at h;exact absurd h (by decide)⟩,((E6.refl st).upd hbs0).trans hc.sup⟩
    ·have:=D5E h1
     rw [if_neg (by omega)] at hbP;conv=>whnf
     refine F7 (A7.cons (t:=s) (A7.keep _ _) (A7.cons (t:=s) (A7.keep _ _) hc.shift)) (B3 (C1i pr us (Q9 items us pr) hp.sm hp.right h4 hbn hu.ok hpl (fun x hx=>by obtain ⟨q,_,rfl⟩:=D5X.1 hx;exact A1I _ _ _) _) ?_);conv=>whnf
     exact ⟨⟨_,by rw [hbP];rfl,fun _=>by rw [hbP]⟩,(E6.refl st).upd hbs0⟩
   ·have hi':=D6 hd
    have hsc:(pr.parts.getD (i:Int).toNat default).scope.skus.length≤20∧(pr.parts.getD (i:Int).toNat default).scope.cats.length≤20:=hbs _ (A6 hi')
    have hsu:=A8W items us pr hi'
    have hAl:=B0N items us pr i hi
    have hAm:=fun {x} (hx:x∈A0x items us pr i)=>B0O hx
    have hml:=A3e (pr.parts.getD (i:Int).toNat default).scope items us us.length
    have hmo:=A1I (pr.parts.getD (i:Int).toNat default).scope items us
    have hpt:(Q9 items us pr).take (i+1)=(Q9 items us pr).take i++[K0 (pr.parts.getD (i:Int).toNat default).scope items us us.length]:=by
     rw [K6 (by omega)];congr 2
     exact D4 (fun x:A2n=>K0 x.scope items us us.length) pr.parts hi'
    rw [show K0 (pr.parts.getD i default).scope items us us.length=K0 (pr.parts.getD (i:Int).toNat default).scope items us us.length from rfl] at hsu
    have h8:i * us.length≤7 * 100000:=Nat.mul_le_mul (by omega) hul
    conv=>whnf
    refine E4 ?_
    refine B3 (B9E us items (pr.parts.getD (i:Int).toNat default).scope (by omega) (by omega) hul hu.line _) ?_
    generalize K0 (pr.parts.getD (i:Int).toNat default).scope items us us.length=m at *
    conv=>whnf
    refine E1.app (q:=r29) (y:=m) rfl rfl rfl rfl rfl rfl (by show (_+1) * 24≤140737488355328;rw [D5K];omega) hc (fun sv s hc=>?_)
    rw [←hpt] at hc;conv=>whnf
    refine lp m.length [1,2,3,9,10,11,12,13,14] (fun k vs s=>∃ g,vs=[C6 us,A8 4 E5 items,.fptr (B9 pr) 0,sv,.own 1 bs 0 us.length,eI (A1U us (A0K (A0x items us pr i++m.take k))),eI i,B0 m,eI k]∧E1 29 1 B0 ((Q9 items us pr).take (i+1)) (upd st bs ⟨4,1,us.length,g⟩) sv s∧∀ j,j<us.length→g j=eB (decide ((j:Int)∈A0x items us pr i++m.take k))) ?_ ?_
    ·conv=>whnf
     exact ⟨g,by rw [D7o,D7v];rfl,hc,by rw [D7o,D7v];exact hg⟩
    ·clear hc hg
     rintro k vs s hk ⟨g,rfl,hc,hg⟩
     conv=>whnf
     cases hd2:decide ((k:Int)<(m.length:Int))
     ·obtain rfl:=C2 hd2 hk
      rw [D5L,←hsu] at hg;conv=>whnf
      refine F6 ?_
      exact nx hi' ⟨sv,g,by rw [B4 (by omega),D5L,←hsu],hc,hg⟩
     ·have hk':=D6 hd2
      have hr:0≤m.getD (k:Int).toNat default∧(m.getD (k:Int).toNat default).toNat<us.length:=hmo.rng k hk'
      have hbk:=hc.sup bs _ (A0 ..)
      have hP:A0x items us pr i++m.take (k+1)=(A0x items us pr i++m.take k)++[m.getD (k:Int).toNat default]:=by rw [K6 hk',D7b];rfl
      have hgk:g (0+(m.getD (k:Int).toNat default).toNat)=eB (decide (m.getD (k:Int).toNat default∈A0x items us pr i++m.take k)):=by
       rw [D5R,hg _ hr.2];congr 2;rw [D7s hr.1]
      have hmem:∀ x∈A0x items us pr i++m.take k,0≤x∧x.toNat<us.length:=fun x hx=>by
       rcases D6Q.1 hx with hx | hx
       ·exact B0O hx
       ·obtain ⟨j,hj,rfl⟩:=D3 (D6E _ _ hx);exact hmo.rng j hj
      obtain ⟨o1,o2⟩:=B1w (A0x items us pr i++m.take k)
      have hcb:=A1v hu.ok (A0K (A0x items us pr i++m.take k)) (fun x hx=>hmem x ((o2 x).1 hx))
      have hol:=C0U (A0x items us pr i++m.take k)
      rw [D5M,D5K] at hol
      have hcl:A1U us (A0K (A0x items us pr i++m.take k))=H9 us (A0K (A0x items us pr i++m.take k)):=rfl
      have hsn:=B8a (A0x items us pr i++m.take k) (m.getD (k:Int).toNat default)
      have hdm:decide (m.getD (k:Int).toNat default∈A0K (A0x items us pr i++m.take k))=decide (m.getD (k:Int).toNat default∈A0x items us pr i++m.take k):=D7q.2 (o2 _)
      have hn0:0≤(gU us (m.getD (k:Int).toNat default).toNat).net:=hu.ok.at0 _
      have hn1:(gU us (m.getD (k:Int).toNat default).toNat).net≤10000000000000:=hu.ok.le (A6 hr.2)
      generalize A0x items us pr i++m.take k=A at *
      conv=>whnf
      refine E4 ?_
      refine E4 ?_
      refine I4 hbk hgk ?_
      refine B8 (fun h5=>?_) (fun h5=>?_)<;>rw [h5]
      ·have hnot:¬ m.getD (k:Int).toNat default∈A:=by simpa using h5
       rw [if_neg (fun h=>hnot ((o2 _).1 h))] at hsn
       have hadd:A1U us (A0K (A++[m.getD (k:Int).toNat default]))=A1U us (A0K A)+(gU us (m.getD (k:Int).toNat default).toNat).net:=by
        rw [hsn];exact B3n us _ _
       have w:IntKind.i64.wrap (A1U us (A0K A)+(gU us (m.getD (k:Int).toNat default).toNat).net)=A1U us (A0K (A++[m.getD (k:Int).toNat default])):=by rw [hadd];exact A5 (by omega) (by omega)
       conv=>whnf
       refine E4 ?_
       refine E4 ?_
       refine stU hbk hgk ?_
       have hc2:=Col.write hc (y':=⟨4,1,us.length,I1 g (0+(m.getD (k:Int).toNat default).toNat) (eB true)⟩) (A0 ..)
       rw [B7] at hc2;conv=>whnf
       refine E4 ?_
       refine E4 ?_
       refine F6 ?_
       refine nx hk' ⟨I1 g (0+(m.getD (k:Int).toNat default).toNat) (eB true),by rw [B4 (by omega),hP,←w],hc2,fun j hj=>?_⟩
       rw [hP,D5R]
       by_cases ej:j=(m.getD (k:Int).toNat default).toNat
       ·rw [ej,A4,D6m (by rw [D6Q,D6f];right;omega)]
       ·rw [H4 ej,hg j hj]
        congr 1
        refine D7q.2 ?_
        rw [D6Q,D6f]
        exact ⟨.inl,fun h=>h.resolve_right (by omega)⟩
      ·have hin:m.getD (k:Int).toNat default∈A:=by simpa using h5
       rw [if_pos ((o2 _).2 hin)] at hsn;conv=>whnf
       refine F6 ?_
       refine nx hk' ⟨g,by rw [B4 (by omega),hP,hsn],hc,fun j hj=>?_⟩
       rw [hP,hg j hj]
       congr 1
       refine D7q.2 ?_
       rw [D6Q,D6f]
       exact ⟨.inl,fun h=>h.elim id (fun e=>by rw [e];exact hin)⟩
 ·have hW:A0j items us pr=A2j items us pr:=by unfold A0j;rw [if_neg h4]
  have hmo:=A1I pr.scope items us
  have hml:=A3e pr.scope items us us.length
  have hS:A2j items us pr=if A1U us (K0 pr.scope items us us.length)<pr.least then ([],0) else if pr.kind=3 then W6 pr us (K0 pr.scope items us us.length) else A0d pr us (K0 pr.scope items us us.length):=rfl
  obtain ⟨hn0,hns⟩:=B1u hu.ok hmo
  rw [hW]
  refine F1 [3] Tryz.func164 ?_
  rw [show (pr.kind != 4)=true from D8e.2 h4];conv=>whnf
  refine B3 (B9E us items pr.scope (by have:=ok.skus;omega) (by have:=ok.cats;omega) hul hu.line _) ?_
  generalize K0 pr.scope items us us.length=m at *
  conv=>whnf
  refine ⟨[],[],List.range 7,by kernel_rfl,?_⟩;conv=>whnf
  refine cqW (A6Q us m (by omega) hmo.rng _) ?_
  refine cqW (A9A (E3 us m) (by rw [A5b];omega) hn0 (by omega) _) ?_
  refine B8 (fun h1=>?_) (fun h1=>?_)<;>rw [h1]
  ·have h2:A1U us m<pr.least:=D5D h1
   rw [if_pos h2] at hS;conv=>whnf
   exact ⟨⟨us,by rw [hS];rfl,fun h=>by rw [hS] at h;exact absurd h (by decide)⟩,rfl⟩
  ·have h2:¬ A1U us m<pr.least:=fun h=>absurd h (Int.not_lt.2 (Int.not_lt.1 (D5E h1)))
   rw [if_neg h2] at hS;conv=>whnf
   by_cases h3:pr.kind=3
   ·rw [if_pos h3] at hS
    rw [show (pr.kind==3)=true from D6z.2 h3];conv=>whnf
    refine I2 (C1j pr us m hp.sm hp.right h3 (ok.buy h3) hu.ok hmo _) ?_
    exact ⟨⟨_,by rw [hS];rfl,fun _=>by rw [hS]⟩,rfl⟩
   ·rw [if_neg h3] at hS
    rw [show (pr.kind==3)=false from D7r h3];conv=>whnf
    refine I2 (C3R pr us m (ok.ask hp.fit (by have:=ok.kind;omega)) hp.sm hu.ok hmo _) ?_
    exact ⟨⟨_,by rw [hS];rfl,fun _=>by rw [hS]⟩,rfl⟩
theorem B6G (L:List C8) (g:C8) (hl:L.length≤1000) (sv:AV) (st:St) (h:(sv=.emp∧L=[])∨∃ b f,sv=.own 1 b 0 L.length∧st b=some ⟨9,1,L.length,f⟩∧∀ k,k<L.length→f k=eS (L.getD k default)) :
  S P 163 [sv,eS g] st fun v st'=>v=.bool (!N3 g&&L.any fun y=>y.toList==g.toList)∧st'=st:=by
 rcases h with ⟨rfl,rfl⟩ | ⟨b,f,rfl,hb,hf⟩
 ·refine F1 [] Tryz.func163 ?_
  refine B1v [0,1,5] ?_;conv=>whnf
  intro I;conv=>whnf
  exact ⟨by simp [B0g],rfl⟩
 ·refine F1 [] Tryz.func163 ?_
  refine lp L.length [0,1,5] (fun i vs s=>(∀ k,k<i→(!N3 g&&((L.getD k default).toList==g.toList))=false)∧vs=[.own 1 b 0 L.length,eS g,eI i]∧s=st) ?_ ?_
  ·conv=>whnf
   exact ⟨fun k hk=>absurd hk (by omega),rfl,rfl⟩
  ·rintro i vs st' hi ⟨hok,rfl,rfl⟩
   conv=>whnf
   cases hd:decide ((i:Int)<(L.length:Int))
   ·obtain rfl:=C2 hd hi
    conv=>whnf
    refine ⟨?_,rfl⟩
    have e:(!N3 g&&L.any fun y=>y.toList==g.toList)=false:=by
     cases hn:N3 g
     ·rw [D6h,D5P]
      refine D6F.2 fun x hx=>?_
      obtain ⟨k,hk,rfl⟩:=D3 hx
      have:=hok k hk
      rw [hn,D6h,D5P] at this
      rw [this];simp
     ·rfl
    rw [e];rfl
   ·have hi':=D6 hd
    have hfi:f (0+(i:Int).toNat)=eS (L.getD (i:Int).toNat default):=by rw [D5R];exact hf _ (by omega)
    have yes:=fun h=>G6 hok (i:=i) h
    have nl:N3 g=(g.toList==(⟨#[]⟩:C8).toList):=rfl
    conv=>whnf
    refine B8 (fun h1=>?_) (fun h1=>?_)<;>rw [h1]
    ·have hn:N3 g=false:=by rw [nl];simpa using h1
     conv=>whnf
     refine E4 ?_
     refine I4 hb hfi ?_
     refine B8 (fun h2=>?_) (fun h2=>?_)<;>rw [h2]
     ·conv=>whnf
      refine ⟨?_,rfl⟩
      rw [hn,D7m.2 ⟨_,A6 hi',h2⟩];rfl
     ·conv=>whnf
      refine F6 ?_
      exact nx hi' ⟨yes (by rw [hn];exact h2),by rw [B4 (by omega)],rfl⟩
    ·have hn:N3 g=true:=by rw [nl];simpa using h1
     conv=>whnf
     refine F6 ?_
     exact nx hi' ⟨yes (by rw [hn];rfl),by rw [B4 (by omega)],rfl⟩
structure B5p (l:List B1):Prop where
 few:l.length≤60
 right:∀ p∈l,H3 p=true
 ids:∀ i j,i<j→j<l.length→((l.getD i default).id.toList==(l.getD j default).id.toList)=false
theorem B1J {l:List B1} (h:promosC l=true):B5p l:=by
 unfold promosC L4 at h
 simp only [D5G,D5C,D5V,D5U] at h
 obtain ⟨h1,h2⟩:=h
 refine ⟨by omega,fun p hp=>?_,fun i j hij hj=>?_⟩
 ·obtain ⟨k,hk,rfl⟩:=D3 hp
  have:=h2 k hk
  unfold W7 at this
  rw [D5G] at this;exact this.1
 ·have:=h2 j hj
  unfold W7 at this
  rw [D5G,D5Q,D6F] at this
  have h3:=this.2 (l.getD i default) (by
   have:(l.take j).getD i default=l.getD i default:=by rw [D5A,D5A,D5O hij]
   rw [←this]
   exact A6 (by rw [D5K];omega))
  simpa using h3
theorem B1I {l:List B1} {i:Nat} (hi:i<l.length) (h:W7 l i (l.getD i default)=false):promosC l=false:=by
 unfold promosC
 rw [D7I]
 refine .inr (D7k.2 fun ha=>?_)
 unfold L4 at ha
 rw [D5V] at ha
 have:=ha i (D5U.2 hi)
 rw [this] at h;cases h
theorem C1k (l:List B1) (hn:l.length<9223372036854775807) (hs:∀ p∈l,A2U p) (st:St):S P 134 [A8 15 B9 l] st fun v st'=>v=.bool (promosC l)∧st'=st:=by
 refine F1 [] Tryz.func134 ?_
 refine lp l.length [0,3] (fun i vs st'=>vs=[A8 15 B9 l,eI i]∧st'=st∧∀ k,k<i→W7 l k (l.getD k default)=true) ?_ ?_
 ·conv=>whnf
  exact ⟨rfl,rfl,fun k hk=>absurd hk (by omega)⟩
 ·rintro i vs st' hi ⟨rfl,rfl,hok⟩
  conv=>whnf
  cases h:decide ((i:Int)<(l.length:Int))
  ·obtain rfl:=C2 h hi
   conv=>whnf
   refine ⟨?_,rfl⟩
   show AV.bool _=AV.bool _
   unfold promosC
   rw [L1 hok,D6t]
  ·have hi':=D6 h
   have hm:l.getD (i:Int).toNat default∈l:=A6 hi'
   conv=>whnf
   refine E4 ?_
   refine B3 (B6w (l.getD (i:Int).toNat default) (hs _ hm) _) ?_
   obtain ⟨b,hb⟩:∃ b,b=H3 (l.getD (i:Int).toNat default):=⟨_,rfl⟩
   rw [←hb];conv=>whnf
   refine B8 (fun h1=>?_) (fun h1=>?_)<;>rw [h1]
   ·conv=>whnf
    refine ⟨?_,rfl⟩
    have:promosC l=false:=B1I hi' (by
     unfold W7
     rw [show H3 (l.getD i default)=false by rw [show i=(i:Int).toNat from rfl,←hb];simpa using h1];rfl)
    rw [this];rfl
   have hp:H3 (l.getD i default)=true:=by rw [show i=(i:Int).toNat from rfl,←hb];simpa using h1
   conv=>whnf
   refine lp i [0,3,4] (fun j vs s=>vs=[A8 15 B9 l,eI i,eI j]∧s=st'∧∀ k,k<j→((l.getD k default).id.toList==(l.getD i default).id.toList)=false) ?_ ?_
   ·conv=>whnf
    exact ⟨rfl,rfl,fun k hk=>absurd hk (by omega)⟩
   ·rintro j vs s hj ⟨rfl,rfl,hne⟩
    conv=>whnf
    cases h2:decide ((j:Int)<(i:Int))
    ·obtain rfl:=C2 h2 hj
     conv=>whnf
     refine F6 ?_
     refine nx hi' ⟨by rw [B4 (by omega)],rfl,fun k hk=>?_⟩
     by_cases e:k<j
     ·exact hok k e
     ·obtain rfl:k=j:=by omega
      unfold W7
      rw [hp,D5P,D5Q,D6F]
      intro x hx
      obtain ⟨m,hm',rfl⟩:=D3 hx
      rw [D5K] at hm'
      have e2:(l.take k).getD m default=l.getD m default:=by rw [D5A,D5A,D5O (by omega)]
      rw [e2,hne m (by omega)];exact Bool.false_ne_true
    ·have hj':=D6 h2
     conv=>whnf
     refine ⟨[],[],List.range 11,by kernel_rfl,?_⟩;conv=>whnf
     refine E4 ?_
     refine E4 ?_
     refine B8 (fun h3=>?_) (fun h3=>?_)<;>rw [h3]
     ·conv=>whnf
      refine ⟨?_,rfl⟩
      have h4:((l.getD j default).id.toList==(l.getD i default).id.toList)=true:=h3
      have:promosC l=false:=B1I hi' (by
       unfold W7
       rw [hp,D5P,D6g]
       refine D7m.2 ⟨l.getD j default,?_,h4⟩
       have e2:(l.take i).getD j default=l.getD j default:=by rw [D5A,D5A,D5O (by omega)]
       rw [←e2]
       exact A6 (by rw [D5K];omega))
      rw [this];rfl
     have h4:((l.getD j default).id.toList==(l.getD i default).id.toList)=false:=h3
     conv=>whnf
     refine F6 ?_
     exact nx hj' ⟨by rw [B4 (by omega)],rfl,fun k hk=>by
      by_cases e:k<j
      ·exact hne k e
      ·obtain rfl:k=j:=by omega
       exact h4⟩
structure A7T (r:H0):Prop where
 n:Sm r.items.length
 items:∀ x∈r.items,Sm x.sku.size∧Sm x.cat.size
 promos:∀ p∈r.promos,A2U p
 tax:B3d r.tax
 order:Sm r.policy.order.length
 credit:Sm r.policy.credit.length
theorem C3W (r:H0) (hn:r.promos.length<9223372036854775807) (hs:A7T r) (st:St):S P 81 [H5 r] st fun v st'=>v=.bool (W0 r)∧st'=st:=by
 obtain ⟨H,hH⟩:∃ H:Bool,H=W0 r:=⟨_,rfl⟩
 rw [←hH]
 unfold W0 A9S A6N at hH
 have n1:=C3T r.items hs.n hs.items st
 have n2:=C1k r.promos hn hs.promos st
 have n3:=C3Y r.tax hs.tax st
 have n4:=A2O r.ship.fee 1000000000 st
 have n5:=A2O r.ship.free 10000000000000 st
 have n6:=A2O r.policy.window 100000 st
 have n7:=A2O r.policy.grace 100000 st
 have n8:=A2O r.policy.restock 10000 st
 have n9:=B6D r.policy.order hs.order st
 have n10:=B6D r.policy.credit hs.credit st
 generalize A1G r.items=b1 at *
 generalize promosC r.promos=b2 at *
 generalize taxC r.tax=b3 at *
 generalize J9 0 1000000000 r.ship.fee=b4 at *
 generalize J9 0 10000000000000 r.ship.free=b5 at *
 generalize J9 0 100000 r.policy.window=b6 at *
 generalize J9 0 100000 r.policy.grace=b7 at *
 generalize J9 0 10000 r.policy.restock=b8 at *
 generalize A1n r.policy.order=b9 at *
 generalize A1n r.policy.credit=b10 at *
 refine SyW [1,3] Tryz.func81 ?_
 repeat' ((conv=>whnf);first | refine B3 n1 ?_ | refine B3 n2 ?_ | refine B3 n3 ?_ | refine B3 n4 ?_ | refine B3 n5 ?_ | refine B3 n6 ?_ | refine B3 n7 ?_ | refine B3 n8 ?_ | refine B3 n9 ?_ | refine B3 n10 ?_ | (refine B8 (fun h=>?_) (fun h=>?_)<;>rw [h]))
 all_goals (conv=>whnf)
 all_goals (refine ⟨?_,rfl⟩;show AV.bool _=AV.bool _;congr 1;clear n1 n2 n3 n4 n5 n6 n7 n8 n9 n10)
 all_goals (simp only [*,D5P,D5Z,D6t,D6e,D6q,D6s,D6v,D6o,D6p,D6h,D6U])
theorem B1U (r:H0) (hs:A7T r) (hC:W0 r=true) (st:St):S P 81 [H5 r] st fun v st'=>v=.bool true∧st'=st:=by
 have h:=C3W r (by
  unfold W0 at hC
  simp only [D5G] at hC
  have:=(B1J hC.1.1.1.2).few;omega) hs st
 rw [hC] at h;exact h
theorem B1Q (l:List C8) (hl:Sm l.length) (hs:∀ s∈l,Sm s.size) (st:St):S P 75 [C9 l] st fun v st'=>v=.bool (S6 l)∧st'=st:=by
 have e:S6 l=(A0R l&&decide ((l.length:Int)≤4)):=by
  unfold S6 A0R
  generalize decide ((l.length:Int)≤4)=a
  generalize A0s l=b
  generalize (l.any fun s=>!D1 s)=c
  cases a<;>cases b<;>cases c<;>rfl
 rw [e]
 refine F1 [] Tryz.func75 ?_
 refine I2 (B2c l 4 hl hs st) ?_
 exact ⟨rfl,rfl⟩
def U8 (l:List B1) (codes:List C8):List Int:=(places l codes l.length).mergeSort fun x y=>!A0O (E8 l y) (E8 l x)
theorem A4t (l:List B1) (codes:List C8):(U8 l codes).Perm (places l codes l.length):=D8o ..
theorem C3A (l:List B1) (codes:List C8):(U8 l codes).Pairwise (A4g l):=by
 have:=D7T (le:=fun x y:Int=>!A0O (E8 l y) (E8 l x)) (fun a b c h1 h2=>by simp only [D5Q] at *;exact A8q h1 h2) (fun a b=>by
  cases h:A0O (E8 l b) (E8 l a) with
  | false=>rfl
  | true=>rw [A9H h];rfl) (places l codes l.length)
 exact this.imp (fun h=>by simpa [A4g] using h)
theorem B8j {l:List B1} (ok:B5p l) {x y:Int} (hx:0≤x∧x.toNat<l.length) (hy:0≤y∧y.toNat<l.length) (h1:A4g l x y) (h2:A4g l y x):x=y:=by
 unfold A4g at h1 h2
 rw [←D6B,A3k] at h1 h2
 have e:(E8 l x).prio=(E8 l y).prio:=by
  have a:¬(E8 l y).prio>(E8 l x).prio:=fun h=>h1 (.inl h)
  have b:¬(E8 l x).prio>(E8 l y).prio:=fun h=>h2 (.inl h)
  omega
 have a:slt (E8 l y).id (E8 l x).id=false:=by rw [←D6B];exact fun h=>h1 (.inr ⟨e.symm,h⟩)
 have b:slt (E8 l x).id (E8 l y).id=false:=by rw [←D6B];exact fun h=>h2 (.inr ⟨e,h⟩)
 have c:=A6T a b
 rcases Nat.lt_trichotomy x.toNat y.toNat with h | h | h
 ·have:=ok.ids _ _ h hy.2
  rw [D6l] at this
  exact absurd c.symm this
 ·omega
 ·have:=ok.ids _ _ h hx.2
  rw [D6l] at this
  exact absurd c this
theorem B6a {l:List B1} (hC:promosC l=true) {codes:List C8} {o:List Int} (h1:o.Perm (places l codes l.length)) (h2:o.Pairwise (A4g l)):o=U8 l codes:=by
 refine (h1.trans (A4t l codes).symm).eq_of_pairwise (le:=A4g l) (fun a b ha hb h3 h4=>?_) h2 (C3A l codes)
 exact B8j (B1J hC) (A0G (h1.mem_iff.1 ha)) (A0G ((A4t l codes).mem_iff.1 hb)) h3 h4
theorem C1s (l:List B1) (codes:List C8) (hC:promosC l=true) (hc:Sm codes.length) (st:St):S P 162 [A8 15 B9 l,C9 codes] st fun v st'=>v=B0 (U8 l codes)∧st'=st :=
 (C4d l codes (by have:=(B1J hC).few;omega) hc st).mono fun v st' ⟨⟨o,h1,h2,h3⟩,h4⟩=>⟨by rw [h3,B6a hC h1 h2],h4⟩
theorem B6C {l:List B1} (hC:promosC l=true) {codes:List C8} {o:List Int} (ho:A8R l codes o):P4 l o=U8 l codes:=by
 refine B6a hC ((B3G l o).trans ho.1) ?_
 refine List.Pairwise.map _ (fun a b h=>h) (R:=fun a b:QE=>A4g l (gI o a.2.toNat) (gI o b.2.toNat)) ?_
 refine (A7i l o).imp_of_mem fun {a b} ha hb h=>?_
 have h1:=A5f ha
 have h2:=A5f hb
 obtain ⟨i,hi,rfl⟩:=D5X.1 ((A1z l o).mem_iff.1 ha)
 obtain ⟨j,hj,rfl⟩:=D5X.1 ((A1z l o).mem_iff.1 hb)
 rw [S4] at h
 simp only [B1W,D5N] at h h1 h2 ⊢
 unfold A4g
 rw [←D6B,A3k]
 rintro (h3 | ⟨h3,h4⟩)
 ·exact h (.inl h3)
 ·rcases Nat.lt_trichotomy i j with e | e | e
  ·have:=ho.2 i j (D6b _) e h2.2
   unfold C5L at this
   rw [this] at h4;cases h4
  ·subst e;rw [A5h] at h4;cases h4
  ·exact h (.inr ⟨h3,by omega⟩)
theorem V0 (x m:Int) (st:St):S P 76 [eI x,eI m] st fun v st'=>v=.bool (J9 0 m x)∧st'=st:=by
 refine F1 [] Tryz.func76 ?_
 unfold J9
 refine B8 (fun h=>?_) (fun h=>?_)<;>rw [h]<;>(conv=>whnf)<;>exact ⟨rfl,rfl⟩
theorem B1V (l:List Y6) (hl:l.length≤100000) (st:St):S P 79 [A8 3 P8 l] st fun v st'=>v=.bool (l.all J7&&decide ((l.length:Int)≤6))∧st'=st:=by
 refine F1 [] Tryz.func79 ?_
 refine lp l.length [0,3] (fun i vs s=>(∀ k,k<i→J7 (l.getD k default)=true)∧vs=[A8 3 P8 l,eI i]∧s=st) ?_ ?_
 ·conv=>whnf
  exact ⟨fun k hk=>absurd hk (by omega),rfl,rfl⟩
 rintro i vs s hi ⟨hok,rfl,rfl⟩
 conv=>whnf
 cases h:decide ((i:Int)<(l.length:Int))
 ·obtain rfl:=C2 h hi
  rw [A9X hok,D5P];conv=>whnf
  exact ⟨rfl,rfl⟩
 have hi':=D6 h
 have n1:=fun s=>V0 (l.getD (i:Int).toNat default).taken 100000000000000 s
 have n2:=fun s=>V0 (l.getD (i:Int).toNat default).given (l.getD (i:Int).toNat default).taken s
 have hx:J7 (l.getD (i:Int).toNat default)=((decide ((l.getD (i:Int).toNat default).kind≥1)&&decide ((l.getD (i:Int).toNat default).kind≤9))&&J9 0 100000000000000 (l.getD (i:Int).toNat default).taken&&J9 0 (l.getD (i:Int).toNat default).taken (l.getD (i:Int).toNat default).given):=rfl
 have yes:J7 (l.getD (i:Int).toNat default)=true→∀ k,k<i+1→J7 (l.getD k default)=true:=fun hm=>G6 hok hm
 have no:J7 (l.getD (i:Int).toNat default)=false→l.all J7=false:=fun hm=>B2r hi' hm
 generalize J7 (l.getD (i:Int).toNat default)=t at hx yes no
 clear hok
 conv=>whnf
 refine ⟨[],[],List.range 37,by kernel_rfl,?_⟩
 generalize J9 0 100000000000000 (l.getD (i:Int).toNat default).taken=b1 at *
 generalize J9 0 (l.getD (i:Int).toNat default).taken (l.getD (i:Int).toNat default).given=b2 at *
 cases t with
 | true =>
  have hx:=hx.symm
  simp only [D5G,D5C] at hx
  obtain ⟨⟨⟨e3,e4⟩,rfl⟩,rfl⟩:=hx
  have g1:decide ((l.getD (i:Int).toNat default).kind<1)=false:=D5H (by omega)
  have g2:decide ((l.getD (i:Int).toNat default).kind>9)=false:=D5H (by omega)
  repeat' ((conv=>whnf);first | refine ⟨rfl,⟨by omega,by omega⟩,?_⟩ | refine ⟨_,F2 (n1 _),?_⟩ | refine ⟨_,F2 (n2 _),?_⟩ | rw [g1] | rw [g2])
  refine F6 ?_
  exact nx hi' ⟨yes rfl,by rw [B4 (by omega)],rfl⟩
 | false =>
  repeat' ((conv=>whnf);first | refine ⟨rfl,⟨by omega,by omega⟩,?_⟩ | refine ⟨_,F2 (n1 _),?_⟩ | refine ⟨_,F2 (n2 _),?_⟩ | (refine B8 (fun h=>?_) (fun h=>?_)<;>rw [h]))
  all_goals first
   | (exfalso
      simp only [D5Q,D6g,D5C,D5B] at *
      have e:((decide ((l.getD (i:Int).toNat default).kind≥1)&&decide ((l.getD (i:Int).toNat default).kind≤9))&&b1&&b2)=true:=by
       simp only [D5G,D5C]
       exact ⟨⟨⟨by omega,by omega⟩,by assumption⟩,by assumption⟩
      rw [←hx] at e;cases e;done)
   | (conv=>whnf
      rw [no rfl]
      exact ⟨rfl,rfl⟩)
def B5R (l:List Y6):Int:=if (l.all J7&&decide ((l.length:Int)≤6))=true then A0o l else 0
theorem C6o (l:List Y6) (hl:l.length≤100000) (st:St):S P 80 [A8 3 P8 l] st fun v st'=>v=eI (B5R l)∧st'=st:=by
 have n1:=fun s=>B1V l hl s
 have hL:B5R l=if (l.all J7&&decide ((l.length:Int)≤6))=true then A0o l else 0:=rfl
 have hok:(l.all J7&&decide ((l.length:Int)≤6))=true→l.length≤6∧∀ x∈l,J7 x=true:=fun h=>by
  simp only [D5G,D5C,D5V] at h
  exact ⟨by omega,h.1⟩
 generalize (l.all J7&&decide ((l.length:Int)≤6))=b at *
 refine F1 [] Tryz.func80 ?_
 refine B3 (n1 _) ?_
 cases b
 ·rw [hL];conv=>whnf
  exact ⟨rfl,rfl⟩
 rw [if_pos rfl] at hL
 obtain ⟨h6,hok⟩:=hok rfl
 rw [hL]
 clear hL n1
 conv=>whnf
 refine lp l.length [0,3,4] (fun i vs s=>vs=[A8 3 P8 l,eI (A0o (l.take i)),eI i]∧s=st) ?_ ?_
 ·conv=>whnf
  exact ⟨rfl,rfl⟩
 rintro i vs s hi ⟨rfl,rfl⟩
 conv=>whnf
 cases h:decide ((i:Int)<(l.length:Int))
 ·obtain rfl:=C2 h hi
  rw [D5L];conv=>whnf
  exact ⟨rfl,rfl⟩
 have hi':=D6 h
 have hb:=B4q (l:=l) i hi (fun k hk=>hok _ (A6 (by omega)))
 have hx:=A9E (hok _ (A6 (show (i:Int).toNat<l.length from hi')))
 have hs:A0o (l.take (i+1))=A0o (l.take i)+((l.getD (i:Int).toNat default).taken - (l.getD (i:Int).toNat default).given):=A9l hi'
 have hw:IntKind.i64.wrap (IntKind.i64.wrap (A0o (l.take i)+(l.getD (i:Int).toNat default).taken) - (l.getD (i:Int).toNat default).given)=A0o (l.take (i+1)):=by
  rw [hs,A5 (x:=A0o (l.take i)+(l.getD (i:Int).toNat default).taken) (by omega) (by omega),A5 (by omega) (by omega)];omega
 conv=>whnf
 refine ⟨[],[],List.range 14,by kernel_rfl,?_⟩;conv=>whnf
 refine E4 ?_
 refine E4 ?_
 rw [hw]
 refine F6 ?_
 exact nx hi' ⟨by rw [B4 (by omega)],rfl⟩
theorem C3X (b:A4e) (st:St):S P 78 [A1x b] st fun v st'=>v=eI (V7 b)∧st'=st:=by
 refine F1 [1] Tryz.func78 ?_
 refine lp 5 [3,4,5] (fun i vs s=>(∀ k,k<i→I9 (gI (N1 b) k)=true)∧(∃ F:Nat→AV,(∀ k,k<5→F k=eI (gI (N1 b) k))∧vs=[.arr 1 5 F,eI (A2 ((N1 b).take i)),eI i])∧s=st) ?_ ?_
 ·conv=>whnf
  exact ⟨fun k hk=>absurd hk (by omega),⟨_,fun k hk=>by
   rcases (by omega:k=0∨k=1∨k=2∨k=3∨k=4) with rfl | rfl | rfl | rfl | rfl<;>rfl,rfl⟩,rfl⟩
 rintro i vs s hi ⟨hok,⟨F,hF,rfl⟩,rfl⟩
 conv=>whnf
 cases h:decide ((i:Int)<5)
 ·obtain rfl:i=5:=by have:=D5E h;omega
  have e:V7 b=A2 (N1 b):=by unfold V7;rw [if_pos (A8X hok)]
  rw [e];conv=>whnf
  exact ⟨rfl,rfl⟩
 have hi':i<5:=by have:=D5D h;omega
 have hr:=fun s=>V0 (gI (N1 b) i) 100000000000000 s
 have hFi:F (i:Int).toNat=eI (gI (N1 b) i):=hF i hi'
 have hb:=A7I (l:=N1 b) i (by show i≤5;omega) hok
 have hn:=K5 (l:=N1 b) (i:=i) hi'
 have hw:I9 (gI (N1 b) i)=true→IntKind.i64.wrap (A2 ((N1 b).take i)+gI (N1 b) i)=A2 ((N1 b).take (i+1)):=fun hm=>by
  have hx:=F4.1 hm
  rw [hn];exact A5 (by omega) (by omega)
 have yes:I9 (gI (N1 b) i)=true→∀ k,k<i+1→I9 (gI (N1 b) k)=true:=fun hm=>G6 hok hm
 have no:I9 (gI (N1 b) i)=false→V7 b=0:=fun hm=>by unfold V7;rw [A8Y hi' hm];rfl
 rw [show J9 0 100000000000000 (gI (N1 b) i)=I9 (gI (N1 b) i) from rfl] at hr
 generalize I9 (gI (N1 b) i)=m at hr hw yes no
 conv=>whnf
 refine ⟨rfl,⟨by omega,by omega⟩,?_⟩
 rw [hFi];conv=>whnf
 refine B3 (hr _) ?_
 cases m
 ·conv=>whnf
  rw [no rfl]
  exact ⟨rfl,rfl⟩
 ·conv=>whnf
  refine ⟨rfl,⟨by omega,by omega⟩,?_⟩
  rw [hFi];conv=>whnf
  rw [hw rfl]
  refine F6 ?_
  exact nx hi' ⟨yes rfl,⟨F,hF,by rw [B4 (by omega)]⟩,rfl⟩
theorem C1o (b:A4e) (st:St):S P 77 [A1x b] st fun v st'=>v=.bool (A4R b)∧st'=st:=by
 have n1:=V0 b.goods 100000000000000 st
 have n2:=V0 b.tax 100000000000000 st
 have n3:=V0 b.ship 100000000000000 st
 have n4:=V0 b.shipTax 100000000000000 st
 have n5:=V0 b.fee 100000000000000 st
 have e:A4R b=(J9 0 100000000000000 b.goods&&(J9 0 100000000000000 b.tax&&(J9 0 100000000000000 b.ship&&(J9 0 100000000000000 b.shipTax&&(J9 0 100000000000000 b.fee&&true))))):=rfl
 rw [e]
 clear e
 generalize J9 0 100000000000000 b.goods=b1 at *
 generalize J9 0 100000000000000 b.tax=b2 at *
 generalize J9 0 100000000000000 b.ship=b3 at *
 generalize J9 0 100000000000000 b.shipTax=b4 at *
 generalize J9 0 100000000000000 b.fee=b5 at *
 refine SyW [1] Tryz.func77 ?_
 repeat' ((conv=>whnf);first | refine B3 n1 ?_ | refine B3 n2 ?_ | refine B3 n3 ?_ | refine B3 n4 ?_ | refine B3 n5 ?_ | (refine B8 (fun h=>?_) (fun h=>?_)<;>rw [h]))
 all_goals (conv=>whnf)
 all_goals (refine ⟨?_,rfl⟩;show AV.bool _=AV.bool _;clear n1 n2 n3 n4 n5)
 all_goals (simp only [*,D5P,D5Z,D6t,D6e])
theorem C0F {l:List A2m} (h:∀ k,k<l.length→Z7 (l.getD k default)=true):l.all Z7=true:=D5V.2 fun x hx=>by
 obtain ⟨k,hk,rfl⟩:=D3 hx;exact h k hk
theorem C3h {l:List A2m} {k:Nat} (hk:k<l.length) (h:Z7 (l.getD k default)=false):l.all Z7=false:=by
 rw [D7k];intro e
 rw [D5V.1 e _ (A6 hk)] at h;cases h
def B3t (o:R7):Bool:=D1 o.id&&D1 o.zone&&(decide (o.rules≥1)&&decide (o.rules≤40))&&S6 o.codes&&J9 0 100000 o.day&&(decide ((o.lines.length:Int)≥1)&&decide ((o.lines.length:Int)≤1000))
theorem A9q (o:R7):Z0 o=(B3t o&&o.lines.all Z7&&A0X o&&(A4R o.book&&(V7 o.book==o.net)&&(o.tenders.all J7&&decide ((o.tenders.length:Int)≤6))&&(B5R o.tenders==o.net))):=by
 have e:Z0 o=(decide ((o.tenders.length:Int)≤6)&&B1h o&&A5R o&&A0X o&&A7d o&&A1d o):=rfl
 have h1:B1h o=(D1 o.id&&D1 o.zone&&(decide (o.rules≥1)&&decide (o.rules≤40))&&S6 o.codes&&J9 0 100000 o.day):=rfl
 rw [e,h1]
 unfold A5R A7d A1d B3t B5R
 generalize decide ((o.tenders.length:Int)≤6)=a1
 generalize o.tenders.all J7=a2
 generalize o.lines.all Z7=a3
 generalize A0X o=a4
 generalize A4R o.book=a5
 generalize (V7 o.book==o.net)=a6
 generalize decide ((o.lines.length:Int)≥1)=a7
 generalize decide ((o.lines.length:Int)≤1000)=a8
 generalize (D1 o.id&&D1 o.zone&&(decide (o.rules≥1)&&decide (o.rules≤40))&&S6 o.codes&&J9 0 100000 o.day)=a9
 cases a1<;>cases a2<;>simp only [D6t,D6e,D5P,D5Z,if_true]<;>generalize (A0o o.tenders==o.net)=b<;>cases a3<;>cases a4<;>cases a5<;>cases a6<;>cases a7<;>cases a8<;>cases a9<;>cases b<;>rfl
set_option maxHeartbeats 4000000 in
theorem B1S (o:R7) (hs:Z3 o) (st:St):S P 25 [T8 o] st fun v st'=>v=.bool (Z0 o)∧st'=st:=by
 have n1:=fun s=>A0I o.id hs.id s
 have n2:=fun s=>A0I o.zone hs.zone s
 have n3:=fun s=>B1Q o.codes hs.codes hs.scodes s
 have n4:=fun s=>V0 o.day 100000 s
 have n5:=fun s=>V0 o.ship 10000000000000 s
 have n6:=fun s=>V0 o.shipTax 10000000000000 s
 have n7:=fun s=>V0 o.fee 100000000000000 s
 have n8:=fun s=>V0 o.net 100000000000000 s
 have m1:=fun s=>C1o o.book s
 have m2:=fun s=>C3X o.book s
 have m3:=fun s=>B1V o.tenders hs.tenders s
 have m4:=fun s=>C6o o.tenders hs.tenders s
 have hB:=A9q o
 have hA:A0X o=(J9 0 10000000000000 o.ship&&J9 0 10000000000000 o.shipTax&&J9 0 100000000000000 o.fee&&J9 0 100000000000000 o.net):=rfl
 have hH:B3t o=(D1 o.id&&D1 o.zone&&(decide (o.rules≥1)&&decide (o.rules≤40))&&S6 o.codes&&J9 0 100000 o.day&&(decide ((o.lines.length:Int)≥1)&&decide ((o.lines.length:Int)≤1000))):=rfl
 generalize D1 o.id=b1 at *
 generalize D1 o.zone=b2 at *
 generalize S6 o.codes=b3 at *
 generalize J9 0 100000 o.day=b4 at *
 generalize J9 0 10000000000000 o.ship=b5 at *
 generalize J9 0 10000000000000 o.shipTax=b6 at *
 generalize J9 0 100000000000000 o.fee=b7 at *
 generalize J9 0 100000000000000 o.net=b8 at *
 generalize A4R o.book=c1 at *
 generalize (o.tenders.all J7&&decide ((o.tenders.length:Int)≤6))=c3 at *
 generalize V7 o.book=z1 at *
 generalize B5R o.tenders=z2 at *
 generalize B3t o=H at *
 generalize A0X o=M at *
 have hlines:=hs.lines
 refine SyW [1,4] Tryz.func25 ?_
 cases H
 ·rw [hB]
  repeat' ((conv=>whnf);first | refine B3 (n1 _) ?_ | refine B3 (n2 _) ?_ | refine B3 (n3 _) ?_ | refine B3 (n4 _) ?_ | (refine B8 (fun h=>?_) (fun h=>?_)<;>rw [h]))
  all_goals first
   | (exfalso
      simp only [D5Q,D6g,D5C,D5B] at *
      have e:(b1&&b2&&(decide (o.rules≥1)&&decide (o.rules≤40))&&b3&&b4&&(decide ((o.lines.length:Int)≥1)&&decide ((o.lines.length:Int)≤1000)))=true:=by
       simp only [D5G,D5C]
       exact ⟨⟨⟨⟨⟨by assumption,by assumption⟩,by omega,by omega⟩,by assumption⟩,by assumption⟩,by omega,by omega⟩
      rw [←hH] at e;cases e;done)
   | (conv=>whnf
      exact ⟨rfl,rfl⟩)
 have hH:=hH.symm
 simp only [D5G,D5C] at hH
 obtain ⟨⟨⟨⟨⟨rfl,rfl⟩,e3,e4⟩,rfl⟩,rfl⟩,e5,e6⟩:=hH
 have g1:decide (o.rules<1)=false:=D5H (by omega)
 have g2:decide (o.rules>40)=false:=D5H (by omega)
 have g3:decide ((o.lines.length:Int)<1)=false:=D5H (by omega)
 have g4:decide ((o.lines.length:Int)>1000)=false:=D5H (by omega)
 rw [D5P] at hB
 repeat' ((conv=>whnf);first | refine B3 (n1 _) ?_ | refine B3 (n2 _) ?_ | refine B3 (n3 _) ?_ | refine B3 (n4 _) ?_ | rw [g1] | rw [g2] | rw [g3] | rw [g4])
 clear n1 n2 n3 n4 g1 g2 g3 g4
 refine lp o.lines.length [1,3] (fun i vs s=>(∀ k,k<i→Z7 (o.lines.getD k default)=true)∧vs=[.fptr (T8 o) 0,eI i]∧s=st) ?_ ?_
 ·conv=>whnf
  exact ⟨fun k hk=>absurd hk (by omega),rfl,rfl⟩
 rintro i vs s hi ⟨hok,rfl,rfl⟩
 conv=>whnf
 cases h:decide ((i:Int)<(o.lines.length:Int))
 ·obtain rfl:=C2 h hi
  rw [C0F hok,D5P] at hB
  rw [hB]
  cases M
  ·repeat' ((conv=>whnf);first | refine B3 (n5 _) ?_ | refine B3 (n6 _) ?_ | refine B3 (n7 _) ?_ | refine B3 (n8 _) ?_ | (refine B8 (fun h=>?_) (fun h=>?_)<;>rw [h]))
   all_goals first
    | (exfalso
       simp only [D5Q,D6g,D5C,D5B] at *
       have e:(b5&&b6&&b7&&b8)=true:=by
        simp only [D5G]
        exact ⟨⟨⟨by assumption,by assumption⟩,by assumption⟩,by assumption⟩
       rw [←hA] at e;cases e;done)
    | (conv=>whnf
       exact ⟨rfl,rfl⟩)
  have hA:=hA.symm
  simp only [D5G] at hA
  obtain ⟨⟨⟨rfl,rfl⟩,rfl⟩,rfl⟩:=hA
  rw [D5P]
  repeat' ((conv=>whnf);first | refine B3 (n5 _) ?_ | refine B3 (n6 _) ?_ | refine B3 (n7 _) ?_ | refine B3 (n8 _) ?_)
  refine ⟨[],[],List.range 25,by kernel_rfl,?_⟩
  repeat' ((conv=>whnf);first | refine ⟨_,F2 (m1 _),?_⟩ | refine ⟨_,F2 (m2 _),?_⟩ | refine ⟨_,F2 (m3 _),?_⟩ | refine ⟨_,F2 (m4 _),?_⟩ | (refine B8 (fun h=>?_) (fun h=>?_)<;>rw [h]))
  all_goals (conv=>whnf)
  all_goals (refine ⟨?_,rfl⟩;show AV.bool _=AV.bool _;clear n5 n6 n7 n8 m1 m2 m3 m4)
  all_goals first | rfl | (simp only [D5P,D5Z,D6t,D6e])
 have hi':=D6 h
 have hm:o.lines.getD (i:Int).toNat default∈o.lines:=A6 hi'
 have k1:=fun s=>A0I (o.lines.getD (i:Int).toNat default).sku (hs.slines _ hm) s
 have k2:=fun s=>V0 (o.lines.getD (i:Int).toNat default).price 1000000000 s
 have k3:=fun s=>V0 (o.lines.getD (i:Int).toNat default).goods 10000000000000 s
 have k4:=fun s=>V0 (o.lines.getD (i:Int).toNat default).tax 10000000000000 s
 have hx:Z7 (o.lines.getD (i:Int).toNat default)=(D1 (o.lines.getD (i:Int).toNat default).sku&&J9 0 1000000000 (o.lines.getD (i:Int).toNat default).price&&(decide ((o.lines.getD (i:Int).toNat default).sold≥1)&&decide ((o.lines.getD (i:Int).toNat default).sold≤100000))&&(decide ((o.lines.getD (i:Int).toNat default).left≥0)&&decide ((o.lines.getD (i:Int).toNat default).left≤(o.lines.getD (i:Int).toNat default).sold))&&J9 0 10000000000000 (o.lines.getD (i:Int).toNat default).goods&&J9 0 10000000000000 (o.lines.getD (i:Int).toNat default).tax):=rfl
 have yes:Z7 (o.lines.getD (i:Int).toNat default)=true→∀ k,k<i+1→Z7 (o.lines.getD k default)=true:=fun hm=>G6 hok hm
 have no:Z7 (o.lines.getD (i:Int).toNat default)=false→Z0 o=false:=fun hm=>by rw [hB,C3h hi' hm];rfl
 generalize Z7 (o.lines.getD (i:Int).toNat default)=t at hx yes no
 clear hok n5 n6 n7 n8 m1 m2 m3 m4 hB hA
 conv=>whnf
 refine ⟨rfl,⟨by omega,by omega⟩,?_⟩
 generalize D1 (o.lines.getD (i:Int).toNat default).sku=d1 at *
 generalize J9 0 1000000000 (o.lines.getD (i:Int).toNat default).price=d2 at *
 generalize J9 0 10000000000000 (o.lines.getD (i:Int).toNat default).goods=d3 at *
 generalize J9 0 10000000000000 (o.lines.getD (i:Int).toNat default).tax=d4 at *
 cases t with
 | true =>
  have hx:=hx.symm
  simp only [D5G,D5C] at hx
  obtain ⟨⟨⟨⟨⟨rfl,rfl⟩,f1,f2⟩,f3,f4⟩,rfl⟩,rfl⟩:=hx
  have g1:decide ((o.lines.getD (i:Int).toNat default).sold<1)=false:=D5H (by omega)
  have g2:decide ((o.lines.getD (i:Int).toNat default).sold>100000)=false:=D5H (by omega)
  have g3:decide ((o.lines.getD (i:Int).toNat default).left<0)=false:=D5H (by omega)
  have g4:decide ((o.lines.getD (i:Int).toNat default).left>(o.lines.getD (i:Int).toNat default).sold)=false:=D5H (by omega)
  repeat' ((conv=>whnf);first | refine B3 (k1 _) ?_ | refine B3 (k2 _) ?_ | refine B3 (k3 _) ?_ | refine B3 (k4 _) ?_ | rw [g1] | rw [g2] | rw [g3] | rw [g4])
  refine F6 ?_
  exact nx hi' ⟨yes rfl,by rw [B4 (by omega)],rfl⟩
 | false =>
  repeat' ((conv=>whnf);first | refine B3 (k1 _) ?_ | refine B3 (k2 _) ?_ | refine B3 (k3 _) ?_ | refine B3 (k4 _) ?_ | (refine B8 (fun h=>?_) (fun h=>?_)<;>rw [h]))
  all_goals first
   | (exfalso
      simp only [D5Q,D6g,D5C,D5B] at *
      have e:(d1&&d2&&(decide ((o.lines.getD (i:Int).toNat default).sold≥1)&&decide ((o.lines.getD (i:Int).toNat default).sold≤100000))&&(decide ((o.lines.getD (i:Int).toNat default).left≥0)&&decide ((o.lines.getD (i:Int).toNat default).left≤(o.lines.getD (i:Int).toNat default).sold))&&d3&&d4)=true:=by
       simp only [D5G,D5C]
       exact ⟨⟨⟨⟨⟨by assumption,by assumption⟩,by omega,by omega⟩,by omega,by omega⟩,by assumption⟩,by assumption⟩
      rw [←hx] at e;cases e;done)
   | (conv=>whnf
      rw [no rfl]
      exact ⟨rfl,rfl⟩)
end Go.Proofs.YtaapofnkmpiknaaGreat
